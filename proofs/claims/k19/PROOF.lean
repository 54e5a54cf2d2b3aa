import PyProof.Rows.All
import Wide.All
import OpenK.AllK
import Wide.FinOn
import HandS.ForMost
import HandS.Wide
import HandS.IsInst
import HandS.SortInts
import HandS.EndBits
import HandS.TupAny
import HandS.TupMul
import KE.LtData
import HandS.Style
import HandS.More
import HandS.Zip
import HandS.HeadHook3
import KE.GoesMore
import KE.GoesNew
import KE.GoesEnum
import PySem.Challenge.RW_longwork_k19_written_and_read
import HandS.Text
import PyProof.ReprRoads
import HandS.Deep
import KE.DataFind
import HandS.Conv
import HandS.Defaults
import HandS.Head0
import HandS.Head1
import HandS.Head2
import HandS.HeadEnd
import HandS.HeadHook1
import HandS.HeadHook2
import HandS.HeadHook4
set_option Elab.async false
set_option linter.all false
set_option maxRecDepth 100000
set_option maxHeartbeats 4000000
/-! DL, first part: live values known by data, a symbolic heap of cells, and how readings of the hand layer are lifted over them. -/
namespace DL
open PySem PySem.Spec PyProof.Rows L2

abbrev Fg := PySem.W.Frag

/-- what a live value is known as: data, or itself -/
inductive R where
  | dat (d : PyData)
  | val (v : V)
  | scr (ns : List Int)
  | tp (rs : List R)
  | obj (C : Addr) (ks : List Str) (rs : List R)
  | dic (ks : List Key) (rs : List R)

def KTup (K : Fg) (a : Addr) (xs : List V) : Prop := ∃ (o : Obj) (its : Array Value) (n : Nat), K.lookup a = some o ∧ o.cls = .type "tuple" ∧ o.data = .seq its n ∧ its.size ≤ sizeLine ∧ Vals xs its.toList

mutual
inductive Rep (K : Fg) (A : Addr → Prop) (H : Hp) : V → PyData → Prop
  | non : Rep K A H .non .none
  | bl (b : Bool) : Rep K A H (.bl b) (.bool b)
  | int (i : Int) : Rep K A H (.int i) (.int i)
  | str (x : Str) : Rep K A H (.str x) (.str x)
  | lst {a : Addr} {xs : List V} {ds : List PyData} : H a = some (.lst xs) → ¬ A a → RepAll K A H xs ds → Rep K A H (.ref a) (.list ds)
  | tup {a : Addr} {xs : List V} {ds : List PyData} : (H a = some (.tup xs) ∨ KTup K a xs) → RepAll K A H xs ds → Rep K A H (.ref a) (.tuple ds)
inductive RepAll (K : Fg) (A : Addr → Prop) (H : Hp) : List V → List PyData → Prop
  | nil : RepAll K A H [] []
  | cons {v : V} {vs : List V} {d : PyData} {ds : List PyData} : Rep K A H v d → RepAll K A H vs ds → RepAll K A H (v :: vs) (d :: ds)
end

/-- a step of the heap and of the addresses to be kept off that data outlives -/
structure Stp (A A' : Addr → Prop) (H H' : Hp) : Prop where
  l : ∀ a xs, H a = some (.lst xs) → ¬ A a → H' a = some (.lst xs) ∧ ¬ A' a
  t : ∀ a xs, H a = some (.tup xs) → H' a = some (.tup xs)
  f : ∀ a o u, H a = some (.frz o u) → H' a = some (.frz o u)
  i : ∀ a C dx ws, H a = some (.ins C dx ws) → ¬ A a → H' a = some (.ins C dx ws) ∧ ¬ A' a
  d : ∀ a ws, H a = some (.dK ws) → ¬ A a → H' a = some (.dK ws) ∧ ¬ A' a
theorem Stp.refl {A : Addr → Prop} {H : Hp} : Stp A A H H := ⟨fun _ _ h n => ⟨h, n⟩, fun _ _ h => h, fun _ _ _ h => h, fun _ _ _ _ h n => ⟨h, n⟩, fun _ _ h n => ⟨h, n⟩⟩
section
variable {K : Fg} {A A' : Addr → Prop} {H H' : Hp}
mutual
theorem Rep.stp (s : Stp A A' H H') : ∀ {v : V} {d : PyData}, Rep K A H v d → Rep K A' H' v d
  | _, _, .non => .non
  | _, _, .bl b => .bl b
  | _, _, .int i => .int i
  | _, _, .str x => .str x
  | _, _, .lst h n q => .lst (s.l _ _ h n).1 (s.l _ _ h n).2 (RepAll.stp s q)
  | _, _, .tup h q => .tup (h.imp (s.t _ _) id) (RepAll.stp s q)
theorem RepAll.stp (s : Stp A A' H H') : ∀ {v : List V} {d : List PyData}, RepAll K A H v d → RepAll K A' H' v d
  | _, _, .nil => .nil
  | _, _, .cons h q => .cons (Rep.stp s h) (RepAll.stp s q)
end
mutual
theorem Rep.dp : ∀ {v : V} {d : PyData}, Rep K A H v d → Dp K H v d
  | _, _, .non => .non
  | _, _, .bl b => .bl b
  | _, _, .int i => .int i
  | _, _, .str x => .str x
  | _, _, .lst h n q => .lst (SqL.of h) (RepAll.dp q)
  | _, _, .tup (.inl h) q => .tup (SqT.of h) (RepAll.dp q)
  | _, _, .tup (.inr h) q => .tup (.inr h) (RepAll.dp q)
theorem RepAll.dp : ∀ {v : List V} {d : List PyData}, RepAll K A H v d → DpAll K H v d
  | _, _, .nil => .nil
  | _, _, .cons h q => .cons (Rep.dp h) (RepAll.dp q)
end
theorem RepAll.length : ∀ {vs : List V} {ds : List PyData}, RepAll K A H vs ds → vs.length = ds.length
  | _, _, .nil => rfl
  | _, _, .cons _ q => by rw [List.length_cons, List.length_cons, RepAll.length q]
theorem RepAll.get : ∀ {vs : List V} {ds : List PyData} {i : Nat} {v : V}, RepAll K A H vs ds → vs[i]? = some v → ∃ d, ds[i]? = some d ∧ Rep K A H v d
  | _, _, _, _, .nil, e => by simp at e
  | _, _, 0, _, .cons r _, e => by simp at e; subst e; exact ⟨_, rfl, r⟩
  | _, _, i + 1, v, .cons _ t, e => by
    obtain ⟨d, h1, h2⟩ := RepAll.get (i := i) (v := v) t (by simpa using e)
    exact ⟨d, by simpa using h1, h2⟩
theorem RepAll.get' : ∀ {vs : List V} {ds : List PyData} {i : Nat} {d : PyData}, RepAll K A H vs ds → ds[i]? = some d → ∃ v, vs[i]? = some v ∧ Rep K A H v d
  | _, _, _, _, .nil, e => by simp at e
  | _, _, 0, _, .cons r _, e => by simp at e; subst e; exact ⟨_, rfl, r⟩
  | _, _, i + 1, v, .cons _ t, e => by
    obtain ⟨d, h1, h2⟩ := RepAll.get' (i := i) (d := v) t (by simpa using e)
    exact ⟨d, by simpa using h1, h2⟩
theorem RepAll.append : ∀ {vs ws : List V} {ds es : List PyData}, RepAll K A H vs ds → RepAll K A H ws es → RepAll K A H (vs ++ ws) (ds ++ es)
  | _, _, _, _, .nil, q => q
  | _, _, _, _, .cons h t, q => .cons h (RepAll.append t q)
theorem RepAll.take : ∀ {vs : List V} {ds : List PyData} (n : Nat), RepAll K A H vs ds → RepAll K A H (vs.take n) (ds.take n)
  | _, _, 0, _ => .nil
  | _, _, _ + 1, .nil => .nil
  | _, _, n + 1, .cons h t => .cons h (RepAll.take n t)
theorem RepAll.drop : ∀ {vs : List V} {ds : List PyData} (n : Nat), RepAll K A H vs ds → RepAll K A H (vs.drop n) (ds.drop n)
  | _, _, 0, h => h
  | _, _, _ + 1, .nil => .nil
  | _, _, n + 1, .cons _ t => RepAll.drop n t
theorem RepAll.reverse {vs : List V} {ds : List PyData} (h : RepAll K A H vs ds) : RepAll K A H vs.reverse ds.reverse := by
  induction ds generalizing vs with
  | nil => cases h; exact .nil
  | cons d ds ih =>
    cases h with
    | cons h t =>
      rw [List.reverse_cons, List.reverse_cons]
      exact RepAll.append (ih t) (.cons h .nil)
theorem RepAll.rep {vs : List V} {ds : List PyData} (h : RepAll K A H vs ds) : ∀ n : Nat, RepAll K A H (List.replicate n vs).flatten (List.replicate n ds).flatten
  | 0 => .nil
  | n + 1 => by
    rw [List.replicate_succ, List.replicate_succ, List.flatten_cons, List.flatten_cons]
    exact RepAll.append h (RepAll.rep h n)
theorem RepAll.ints : ∀ (ns : List Int), RepAll K A H (ns.map V.int) (ns.map PyData.int)
  | [] => .nil
  | n :: ns => .cons (.int n) (RepAll.ints ns)
theorem RepAll.strs : ∀ (ns : List Str), RepAll K A H (ns.map V.str) (ns.map PyData.str)
  | [] => .nil
  | n :: ns => .cons (.str n) (RepAll.strs ns)
theorem RepAll.ints_inv : ∀ {ns : List Int} {vs : List V}, RepAll K A H vs (ns.map PyData.int) → vs = ns.map V.int
  | [], _, .nil => rfl
  | n :: ns, _, .cons h t => by cases h; rw [RepAll.ints_inv t]; rfl
theorem RepAll.strs_inv : ∀ {ns : List Str} {vs : List V}, RepAll K A H vs (ns.map PyData.str) → vs = ns.map V.str
  | [], _, .nil => rfl
  | n :: ns, _, .cons h t => by cases h; rw [RepAll.strs_inv t]; rfl
theorem RepAll.bls_inv : ∀ {ns : List Bool} {vs : List V}, RepAll K A H vs (ns.map PyData.bool) → vs = ns.map V.bl
  | [], _, .nil => rfl
  | n :: ns, _, .cons h t => by cases h; rw [RepAll.bls_inv t]; rfl
end

/-- the script: locked, or written -/
def ScrAt (K : Fg) (H : Hp) (a : Addr) (xs : List V) : Prop := (∃ o, H a = some (.frz o (.lst xs))) ∨
  ∃ (o : Obj) (its : Array Value) (n : Nat), K.lookup a = some o ∧ o.cls = .type "list" ∧ o.dict = none ∧ o.data = .seq its n ∧ its.size ≤ sizeLine ∧ Vals xs its.toList
theorem ScrAt.sq {K : Fg} {H : Hp} {a : Addr} {xs : List V} (h : ScrAt K H a xs) : SqL K H a xs := h.imp (fun ⟨o, e⟩ => .inr ⟨o, e⟩) id
theorem ScrAt.of {K : Fg} {H : Hp} {a : Addr} {xs : List V} (hO : Only H) (h : SqL K H a xs) : ScrAt K H a xs := by
  rcases h with (h | ⟨o, e⟩) | h
  · rcases hO a with z | ⟨o, ys, z⟩
    · rw [z] at h; cases h
    · rw [z] at h; cases h
  · exact .inl ⟨o, e⟩
  · exact .inr h
mutual
def RepR (K : Fg) (A : Addr → Prop) (H : Hp) : V → R → Prop
  | v, .dat d => Rep K A H v d
  | v, .val w => v = w
  | v, .scr ns => ∃ a, v = .ref a ∧ ScrAt K H a (ns.map V.int)
  | v, .tp rs => ∃ a vs, v = .ref a ∧ (H a = some (.tup vs) ∨ KTup K a vs) ∧ RepRl K A H vs rs
  | v, .obj C ks rs => ∃ a dx vs, v = .ref a ∧ H a = some (.ins C dx (ks.zip vs)) ∧ ¬ A a ∧ vs.length = ks.length ∧ RepRl K A H vs rs
  | v, .dic ks rs => ∃ a vs, v = .ref a ∧ H a = some (.dK (ks.zip vs)) ∧ ¬ A a ∧ vs.length = ks.length ∧ RepRl K A H vs rs
def RepRl (K : Fg) (A : Addr → Prop) (H : Hp) : List V → List R → Prop
  | [], [] => True
  | v :: vs, r :: rs => RepR K A H v r ∧ RepRl K A H vs rs
  | [], _ :: _ => False
  | _ :: _, [] => False
end
mutual
theorem RepR.stp {K : Fg} {A A' : Addr → Prop} {H H' : Hp} (s : Stp A A' H H') : ∀ {v : V} {r : R}, RepR K A H v r → RepR K A' H' v r
  | _, .dat d, h => Rep.stp s h
  | _, .val w, h => h
  | _, .scr ns, h => by obtain ⟨a, e, h⟩ := h; exact ⟨a, e, h.imp (fun ⟨o, h⟩ => ⟨o, s.f _ _ _ h⟩) id⟩
  | _, .tp rs, h => by obtain ⟨a, vs, e, h, q⟩ := h; exact ⟨a, vs, e, h.imp (s.t _ _) id, RepRl.stp s q⟩
  | _, .obj C ks rs, h => by obtain ⟨a, dx, vs, e, h, n, l, q⟩ := h; exact ⟨a, dx, vs, e, (s.i _ _ _ _ h n).1, (s.i _ _ _ _ h n).2, l, RepRl.stp s q⟩
  | _, .dic ks rs, h => by obtain ⟨a, vs, e, h, n, l, q⟩ := h; exact ⟨a, vs, e, (s.d _ _ h n).1, (s.d _ _ h n).2, l, RepRl.stp s q⟩
theorem RepRl.stp {K : Fg} {A A' : Addr → Prop} {H H' : Hp} (s : Stp A A' H H') : ∀ {v : List V} {r : List R}, RepRl K A H v r → RepRl K A' H' v r
  | [], [], h => h
  | _ :: _, _ :: _, h => ⟨RepR.stp s h.1, RepRl.stp s h.2⟩
  | [], _ :: _, h => h.elim
  | _ :: _, [], h => h.elim
end
abbrev RepRs (K : Fg) (A : Addr → Prop) (H : Hp) : List V → List R → Prop := Paired (RepR K A H)
theorem RepRl.pair {K : Fg} {A : Addr → Prop} {H : Hp} : ∀ {vs : List V} {rs : List R}, RepRl K A H vs rs → RepRs K A H vs rs
  | [], [], _ => .nil
  | _ :: _, _ :: _, h => .cons h.1 (RepRl.pair h.2)
  | [], _ :: _, h => h.elim
  | _ :: _, [], h => h.elim
theorem RepRl.of {K : Fg} {A : Addr → Prop} {H : Hp} : ∀ {vs : List V} {rs : List R}, RepRs K A H vs rs → RepRl K A H vs rs
  | _, _, .nil => True.intro
  | _, _, .cons h t => ⟨h, RepRl.of t⟩
theorem RepRs.stp {K : Fg} {A A' : Addr → Prop} {H H' : Hp} (s : Stp A A' H H') {vs : List V} {rs : List R} (h : RepRs K A H vs rs) : RepRs K A' H' vs rs := Paired.mapP h fun _ _ q => q.stp s

inductive Cell where
  | lst (p : Addr) (xs : List R)
  | dct (p : Addr) (kvs : List (Key × R))
  | ins (p C : Addr) (ks : List Str) (rs : List R)
  | pk (p : Addr) (P : List R → Prop)
def Cell.pt : Cell → Addr
  | .lst p _ => p
  | .dct p _ => p
  | .ins p _ _ _ => p
  | .pk p _ => p
abbrev SH := List Cell
def Av (S : SH) : Addr → Prop := fun a => a ∈ S.map Cell.pt
def CellOk (K : Fg) (A : Addr → Prop) (H : Hp) : Cell → Prop
  | .lst p xs => ∃ vs, H p = some (.lst vs) ∧ RepRs K A H vs xs
  | .dct p kvs => ∃ kws : List (Key × V), H p = some (.dK kws) ∧ Paired (fun (a : Key × V) (b : Key × R) => a.1 = b.1 ∧ RepR K A H a.2 b.2) kws kvs
  | .ins p C ks rs => ∃ (dx : Addr) (vs : List V), H p = some (.ins C dx (ks.zip vs)) ∧ vs.length ≤ ks.length ∧ RepRs K A H vs rs
  | .pk p P => ∃ vs xs, H p = some (.lst vs) ∧ RepRs K A H vs xs ∧ P xs
theorem CellOk.some {K : Fg} {A : Addr → Prop} {H : Hp} {c : Cell} (h : CellOk K A H c) : ∃ o, H c.pt = some o := by
  cases c with
  | lst p xs => obtain ⟨_, h, _⟩ := h; exact ⟨_, h⟩
  | dct p xs => obtain ⟨_, h, _⟩ := h; exact ⟨_, h⟩
  | ins p C ks xs => obtain ⟨_, _, h, _⟩ := h; exact ⟨_, h⟩
  | pk p xs => obtain ⟨_, _, h, _⟩ := h; exact ⟨_, h⟩
/-- a cell stays where its own object stays -/
theorem CellOk.stp {K : Fg} {A A' : Addr → Prop} {H H' : Hp} (s : Stp A A' H H') {c : Cell} (h : CellOk K A H c) (e : H' c.pt = H c.pt) : CellOk K A' H' c := by
  cases c with
  | lst p xs => obtain ⟨vs, h, q⟩ := h; exact ⟨vs, by rw [← h]; exact e, q.stp s⟩
  | dct p xs => obtain ⟨vs, h, q⟩ := h; exact ⟨vs, by rw [← h]; exact e, Paired.mapP q fun _ _ z => ⟨z.1, z.2.stp s⟩⟩
  | ins p C ks xs => obtain ⟨dx, vs, h, l, q⟩ := h; exact ⟨dx, vs, by rw [← h]; exact e, l, q.stp s⟩
  | pk p P => obtain ⟨vs, xs, h, q, z⟩ := h; exact ⟨vs, xs, by rw [← h]; exact e, q.stp s, z⟩

abbrev Live := List (V × R)
structure Ok (K : Fg) (H : Hp) (S : SH) (L : Live) : Prop where
  nd : (S.map Cell.pt).Nodup
  cells : ∀ c ∈ S, CellOk K (Av S) H c
  live : ∀ e ∈ L, RepR K (Av S) H e.1 e.2
section
variable {K : Fg} {H : Hp} {S : SH} {L L' : Live}
theorem Ok.sub (o : Ok K H S L) (h : ∀ e ∈ L', e ∈ L) : Ok K H S L' := ⟨o.nd, o.cells, fun e he => o.live e (h e he)⟩
theorem Ok.at (o : Ok K H S L) {v : V} {r : R} (h : (v, r) ∈ L) : RepR K (Av S) H v r := o.live _ h
theorem Ok.dat (o : Ok K H S L) {v : V} {d : PyData} (h : (v, R.dat d) ∈ L) : Rep K (Av S) H v d := o.live _ h
theorem Ok.val (o : Ok K H S L) {v w : V} (h : (v, R.val w) ∈ L) : v = w := o.live _ h
theorem Ok.push (o : Ok K H S L) {v : V} {r : R} (h : RepR K (Av S) H v r) : Ok K H S ((v, r) :: L) := ⟨o.nd, o.cells, fun e he => by
  rcases List.mem_cons.mp he with rfl | he
  · exact h
  · exact o.live e he⟩
theorem Ok.pd (o : Ok K H S L) {v : V} {d : PyData} (h : Rep K (Av S) H v d) : Ok K H S ((v, .dat d) :: L) := o.push h
theorem Ok.av (o : Ok K H S L) {a : Addr} (h : Av S a) : ∃ u, H a = some u := by
  obtain ⟨c, hc, rfl⟩ := List.mem_map.mp h
  exact (o.cells c hc).some
/-- a new object -/
theorem stp_new {A : Addr → Prop} {p : Addr} {u : HO} (h : H p = none) : Stp A A H (upd H p u) :=
  ⟨fun a xs e n => ⟨by rw [upd_ne (ne_of_none e h)]; exact e, n⟩, fun a xs e => by rw [upd_ne (ne_of_none e h)]; exact e, fun a ob xs e => by rw [upd_ne (ne_of_none e h)]; exact e, fun a C dx ws e n => ⟨by rw [upd_ne (ne_of_none e h)]; exact e, n⟩, fun a ws e n => ⟨by rw [upd_ne (ne_of_none e h)]; exact e, n⟩⟩
theorem Ok.new (o : Ok K H S L) {p : Addr} {u : HO} (h : H p = none) : Ok K (upd H p u) S L := ⟨o.nd, fun c hc => (o.cells c hc).stp (stp_new h) (by
    obtain ⟨w, e⟩ := (o.cells c hc).some
    rw [upd_ne (ne_of_none e h)]), fun e he => (o.live e he).stp (stp_new h)⟩
theorem Ok.fresh (o : Ok K H S L) {p : Addr} (h : H p = none) : ¬ Av S p := fun q => by
  obtain ⟨u, e⟩ := o.av q
  rw [e] at h; cases h
abbrev Lives (L : Live) : List V → List R → Prop := Paired fun v r => (v, r) ∈ L
theorem Lives.mono (h : ∀ e ∈ L, e ∈ L') {vs : List V} {rs : List R} (q : Lives L vs rs) : Lives L' vs rs := Paired.mapP q fun _ _ z => h _ z
def dats : List R → Option (List PyData)
  | [] => some []
  | .dat d :: r => (dats r).map fun ds => d :: ds
  | _ :: _ => none
theorem dats_map : ∀ ds : List PyData, dats (ds.map R.dat) = some ds
  | [] => rfl
  | d :: ds => by show (dats (ds.map R.dat)).map _ = _; rw [dats_map ds]; rfl
theorem of_dats : ∀ {rs : List R} {ds : List PyData}, dats rs = some ds → rs = ds.map R.dat
  | [], _, h => by cases h; rfl
  | .dat d :: r, ds, h => by
    cases e : dats r with
    | none => simp [dats, e] at h
    | some es =>
      have h' : some (d :: es) = some ds := by simpa [dats, e] using h
      cases h'
      rw [List.map_cons, of_dats e]
  | .val _ :: _, _, h => by simp [dats] at h
  | .scr _ :: _, _, h => by simp [dats] at h
  | .tp _ :: _, _, h => by simp [dats] at h
  | .obj _ _ _ :: _, _, h => by simp [dats] at h
  | .dic _ _ :: _, _, h => by simp [dats] at h
theorem Ok.reps (o : Ok K H S L) : ∀ {vs : List V} {rs : List R}, Lives L vs rs → RepRs K (Av S) H vs rs := fun q => Paired.mapP q fun _ _ z => o.live _ z
theorem reps_all {A : Addr → Prop} : ∀ {vs : List V} {rs : List R} {ds : List PyData}, RepRs K A H vs rs → dats rs = some ds → RepAll K A H vs ds := by
  intro vs rs ds h e
  have e' := of_dats e
  subst e'
  clear e
  induction ds generalizing vs with
  | nil => cases h; exact .nil
  | cons d ds ih =>
    cases h with
    | cons h t => exact .cons h (ih t)
theorem all_reps {A : Addr → Prop} : ∀ {vs : List V} {ds : List PyData}, RepAll K A H vs ds → RepRs K A H vs (ds.map R.dat)
  | _, _, .nil => .nil
  | _, _, .cons h t => .cons h (all_reps t)
theorem Ok.all (o : Ok K H S L) {vs : List V} {rs : List R} {ds : List PyData} (h : Lives L vs rs) (e : dats rs = some ds) : RepAll K (Av S) H vs ds := reps_all (o.reps h) e
theorem Ok.tup (o : Ok K H S L) {p : Addr} {vs : List V} {ds : List PyData} (h : H p = none) (q : RepAll K (Av S) H vs ds) : Ok K (upd H p (.tup vs)) S ((.ref p, .dat (.tuple ds)) :: L) :=
  (o.new h).push (.tup (.inl upd_same) (q.stp (stp_new h)))
theorem Ok.lst (o : Ok K H S L) {p : Addr} {vs : List V} {ds : List PyData} (h : H p = none) (q : RepAll K (Av S) H vs ds) : Ok K (upd H p (.lst vs)) S ((.ref p, .dat (.list ds)) :: L) :=
  (o.new h).push (.lst upd_same (o.fresh h) (q.stp (stp_new h)))
/-- a new object that is a cell -/
theorem stp_cell {p : Addr} {u : HO} {c : Cell} (hc : c.pt = p) (h : H p = none) : Stp (Av S) (Av (c :: S)) H (upd H p u) :=
  ⟨fun a xs e n => ⟨by rw [upd_ne (ne_of_none e h)]; exact e, fun z => by
    rcases List.mem_cons.mp z with z | z
    · exact ne_of_none e h (z.trans hc)
    · exact n z⟩, fun a xs e => by rw [upd_ne (ne_of_none e h)]; exact e, fun a ob xs e => by rw [upd_ne (ne_of_none e h)]; exact e, fun a C dx ws e n => ⟨by rw [upd_ne (ne_of_none e h)]; exact e, fun z => by
    rcases List.mem_cons.mp z with z | z
    · exact ne_of_none e h (z.trans hc)
    · exact n z⟩, fun a ws e n => ⟨by rw [upd_ne (ne_of_none e h)]; exact e, fun z => by
    rcases List.mem_cons.mp z with z | z
    · exact ne_of_none e h (z.trans hc)
    · exact n z⟩⟩
theorem Ok.cell (o : Ok K H S L) {p : Addr} {u : HO} {c : Cell} (hc : c.pt = p) (h : H p = none) (new : CellOk K (Av (c :: S)) (upd H p u) c) : Ok K (upd H p u) (c :: S) L :=
  ⟨List.nodup_cons.mpr ⟨fun z => o.fresh h (by rw [hc] at z; exact z), o.nd⟩, fun c' hc' => by
    rcases List.mem_cons.mp hc' with rfl | hc'
    · exact new
    · refine (o.cells c' hc').stp (stp_cell hc h) ?_
      obtain ⟨w, e⟩ := (o.cells c' hc').some
      rw [upd_ne (ne_of_none e h)], fun e he => (o.live e he).stp (stp_cell hc h)⟩
theorem Ok.lstC (o : Ok K H S L) {p : Addr} {vs : List V} {rs : List R} (h : H p = none) (q : RepRs K (Av S) H vs rs) : Ok K (upd H p (.lst vs)) (.lst p rs :: S) L :=
  o.cell (c := .lst p rs) rfl h ⟨vs, upd_same, q.stp (stp_cell rfl h)⟩
/-- a cell is let go -/
theorem stp_less {S' : SH} (h : ∀ a, Av S' a → Av S a) : Stp (Av S) (Av S') H H := ⟨fun _ _ e n => ⟨e, fun z => n (h _ z)⟩, fun _ _ e => e, fun _ _ _ e => e, fun _ _ _ _ e n => ⟨e, fun z => n (h _ z)⟩, fun _ _ e n => ⟨e, fun z => n (h _ z)⟩⟩
theorem Ok.less (o : Ok K H S L) {S' : SH} (h : S'.Sublist S) : Ok K H S' L := by
  have hs : ∀ a, Av S' a → Av S a := fun a z => (h.map Cell.pt).subset z
  exact ⟨(h.map Cell.pt).nodup o.nd, fun c hc => (o.cells c (h.subset hc)).stp (stp_less hs) rfl, fun e he => (o.live e he).stp (stp_less hs)⟩
/-- the cell at i is changed -/
theorem at_split {i : Nat} {c : Cell} (h : S[i]? = some c) : c ∈ S := List.mem_of_getElem? h
theorem pts_set {i : Nat} {c c' : Cell} (h : S[i]? = some c) (e : c'.pt = c.pt) : (S.set i c').map Cell.pt = S.map Cell.pt := by
  apply List.ext_getElem?
  intro j
  rw [List.getElem?_map, List.getElem?_map, List.getElem?_set]
  split
  · rename_i hj
    subst hj
    obtain ⟨hl, _⟩ := List.getElem?_eq_some_iff.mp h
    rw [if_pos hl, h]
    simp [e]
  · rfl
theorem av_set {i : Nat} {c c' : Cell} (h : S[i]? = some c) (e : c'.pt = c.pt) : Av (S.set i c') = Av S := by unfold Av; rw [pts_set h e]
theorem stp_upd {A : Addr → Prop} {p : Addr} {u w : HO} (hp : H p = some w) (ha : A p) (hw : Mut (some w)) : Stp A A H (upd H p u) :=
  ⟨fun a xs e n => ⟨by rw [upd_ne (fun z => n (by rw [z]; exact ha))]; exact e, n⟩, fun a xs e => by rw [upd_ne (fun z => by subst z; rw [hp] at e; cases e; exact hw)]; exact e, fun a ob xs e => by rw [upd_ne (fun z => by subst z; rw [hp] at e; cases e; exact hw)]; exact e, fun a C dx ws e n => ⟨by rw [upd_ne (fun z => n (by rw [z]; exact ha))]; exact e, n⟩, fun a ws e n => ⟨by rw [upd_ne (fun z => n (by rw [z]; exact ha))]; exact e, n⟩⟩
theorem pt_at {i : Nat} {c : Cell} (h : S[i]? = some c) : Av S c.pt := List.mem_map.mpr ⟨c, at_split h, rfl⟩
theorem Ok.put (o : Ok K H S L) {i : Nat} {c c' : Cell} {p : Addr} {u w : HO} (h : S[i]? = some c) (hp : c.pt = p) (e : c'.pt = p) (hw : H p = some w) (nt : Mut (some w)) (new : CellOk K (Av S) (upd H p u) c') : Ok K (upd H p u) (S.set i c') L := by
  have ec : c'.pt = c.pt := e.trans hp.symm
  have st : Stp (Av S) (Av S) H (upd H p u) := stp_upd hw (by rw [← hp]; exact pt_at h) nt
  refine ⟨by rw [pts_set h ec]; exact o.nd, fun d hd => ?_, fun e he => ?_⟩
  · rw [av_set h ec]
    obtain ⟨j, hj⟩ := List.getElem?_of_mem hd
    rw [List.getElem?_set] at hj
    split at hj
    · split at hj
      · cases hj; exact new
      · cases hj
    · rename_i hij
      have hne : d.pt ≠ p := fun z => by
        have h1 : (S.map Cell.pt)[i]? = some p := by rw [List.getElem?_map, h]; simp [hp]
        have h2 : (S.map Cell.pt)[j]? = some p := by rw [List.getElem?_map, hj]; simp [z]
        exact hij (nd_ix o.nd h1 h2)
      exact (o.cells d (List.mem_of_getElem? hj)).stp st (by rw [upd_ne hne])
  · rw [av_set h ec]
    exact (o.live e he).stp st
theorem Ok.putL (o : Ok K H S L) {i : Nat} {p : Addr} {xs ys : List R} {us : List V} (h : S[i]? = some (.lst p xs)) (q : RepRs K (Av S) H us ys) : Ok K (upd H p (.lst us)) (S.set i (.lst p ys)) L := by
  obtain ⟨vs, e, _⟩ := o.cells _ (at_split h)
  exact o.put h rfl rfl e True.intro ⟨us, upd_same, q.stp (stp_upd e (pt_at h) True.intro)⟩
/-- a list cell becomes data -/
theorem Ok.frz (o : Ok K H S L) {i : Nat} {p : Addr} {xs : List R} {ds : List PyData} (h : S[i]? = some (.lst p xs)) (e : dats xs = some ds) : Ok K H (S.eraseIdx i) ((.ref p, .dat (.list ds)) :: L) := by
  obtain ⟨vs, e1, q⟩ := o.cells _ (at_split h)
  have hs : (S.eraseIdx i).Sublist S := List.eraseIdx_sublist S i
  have o' := o.less hs
  have hs' : ∀ a, Av (S.eraseIdx i) a → Av S a := fun a z => (hs.map Cell.pt).subset z
  refine o'.push (.lst e1 (fun z => ?_) ((reps_all q e).stp (stp_less hs')))
  have nd := o.nd
  obtain ⟨c, hc, hp⟩ := List.mem_map.mp z
  obtain ⟨j, hj, hji⟩ : ∃ j, S[j]? = some c ∧ j ≠ i := by
    obtain ⟨k, hk⟩ := List.getElem?_of_mem hc
    rw [List.getElem?_eraseIdx] at hk
    split at hk
    · exact ⟨k, hk, by omega⟩
    · exact ⟨k + 1, hk, by omega⟩
  have h1 : (S.map Cell.pt)[i]? = some p := by rw [List.getElem?_map, h]; rfl
  have h2 : (S.map Cell.pt)[j]? = some p := by rw [List.getElem?_map, hj]; simp [hp]
  exact hji (nd_ix nd h2 h1)
theorem Ok.erase_pt (o : Ok K H S L) {i : Nat} {c : Cell} (h : S[i]? = some c) : ¬ Av (S.eraseIdx i) c.pt := fun z => by
  obtain ⟨d, hd, hp⟩ := List.mem_map.mp z
  obtain ⟨j, hj, hji⟩ : ∃ j, S[j]? = some d ∧ j ≠ i := by
    obtain ⟨k, hk⟩ := List.getElem?_of_mem hd
    rw [List.getElem?_eraseIdx] at hk
    split at hk
    · exact ⟨k, hk, by omega⟩
    · exact ⟨k + 1, hk, by omega⟩
  have h1 : (S.map Cell.pt)[i]? = some c.pt := by rw [List.getElem?_map, h]; rfl
  have h2 : (S.map Cell.pt)[j]? = some c.pt := by rw [List.getElem?_map, hj]; simp [hp]
  exact hji (nd_ix o.nd h2 h1)
/-- an instance's cell becomes a frozen one -/
theorem Ok.frzI (o : Ok K H S L) {i : Nat} {p C : Addr} {ks : List Str} {rs : List R} (h : S[i]? = some (.ins p C ks rs)) (hl : rs.length = ks.length) : Ok K H (S.eraseIdx i) ((.ref p, .obj C ks rs) :: L) := by
  obtain ⟨dx, vs, e1, hv, q⟩ := o.cells _ (at_split h)
  have hs : (S.eraseIdx i).Sublist S := List.eraseIdx_sublist S i
  have hs' : ∀ a, Av (S.eraseIdx i) a → Av S a := fun a z => (hs.map Cell.pt).subset z
  have lv : vs.length = ks.length := by
    have : ∀ {l : List V} {m : List R}, Paired (RepR K (Av S) H) l m → l.length = m.length := by
      intro l m w
      induction w with
      | nil => rfl
      | cons _ _ ih => rw [List.length_cons, List.length_cons, ih]
    rw [this q]; exact hl
  exact (o.less hs).push ⟨p, dx, vs, rfl, e1, o.erase_pt h, lv, RepRl.of (q.stp (stp_less hs'))⟩
/-- a dict's cell becomes a frozen one -/
theorem zip_of_kv {K : Fg} {A : Addr → Prop} {H : Hp} : ∀ {kws : List (Key × V)} {kvs : List (Key × R)}, Paired (fun (a : Key × V) (b : Key × R) => a.1 = b.1 ∧ RepR K A H a.2 b.2) kws kvs → kws = (kvs.map (·.1)).zip (kws.map (·.2)) ∧ (kws.map (·.2)).length = (kvs.map (·.1)).length ∧ RepRs K A H (kws.map (·.2)) (kvs.map (·.2))
  | _, _, .nil => ⟨rfl, rfl, .nil⟩
  | (k, v) :: kws, (k', r) :: kvs, .cons h t => by
    obtain ⟨e, hr⟩ := h
    cases (show k = k' from e)
    obtain ⟨a, b, c⟩ := zip_of_kv t
    refine ⟨?_, by simpa using b, .cons hr c⟩
    show (k, v) :: kws = (k, v) :: (kvs.map (·.1)).zip (kws.map (·.2))
    rw [← a]
theorem Ok.frzD (o : Ok K H S L) {i : Nat} {p : Addr} {kvs : List (Key × R)} (h : S[i]? = some (.dct p kvs)) : Ok K H (S.eraseIdx i) ((.ref p, .dic (kvs.map (·.1)) (kvs.map (·.2))) :: L) := by
  obtain ⟨kws, e1, q⟩ := o.cells _ (at_split h)
  have hs : (S.eraseIdx i).Sublist S := List.eraseIdx_sublist S i
  have hs' : ∀ a, Av (S.eraseIdx i) a → Av S a := fun a z => (hs.map Cell.pt).subset z
  obtain ⟨ez, el, er⟩ := zip_of_kv q
  exact (o.less hs).push ⟨p, _, rfl, by rw [← ez]; exact e1, o.erase_pt h, el, RepRl.of (er.stp (stp_less hs'))⟩
/-- a packed list is opened; a list is packed -/
theorem Ok.open_pk (o : Ok K H S L) {i : Nat} {p : Addr} {P : List R → Prop} (h : S[i]? = some (.pk p P)) : ∃ xs, P xs ∧ Ok K H (S.set i (.lst p xs)) L := by
  obtain ⟨vs, xs, e, q, z⟩ := o.cells _ (at_split h)
  have ec : (Cell.lst p xs).pt = (Cell.pk p P).pt := rfl
  refine ⟨xs, z, by rw [pts_set h ec]; exact o.nd, fun d hd => ?_, fun e he => by rw [av_set h ec]; exact o.live e he⟩
  rw [av_set h ec]
  rcases List.mem_or_eq_of_mem_set hd with hd | rfl
  · exact o.cells d hd
  · exact ⟨vs, e, q⟩
theorem Ok.pack (o : Ok K H S L) {i : Nat} {p : Addr} {xs : List R} {P : List R → Prop} (h : S[i]? = some (.lst p xs)) (z : P xs) : Ok K H (S.set i (.pk p P)) L := by
  obtain ⟨vs, e, q⟩ := o.cells _ (at_split h)
  have ec : (Cell.pk p P).pt = (Cell.lst p xs).pt := rfl
  refine ⟨by rw [pts_set h ec]; exact o.nd, fun d hd => ?_, fun e he => by rw [av_set h ec]; exact o.live e he⟩
  rw [av_set h ec]
  rcases List.mem_or_eq_of_mem_set hd with hd | rfl
  · exact o.cells d hd
  · exact ⟨vs, xs, e, q, z⟩
/-- cells in another order -/
theorem Ok.perm (o : Ok K H S L) {S' : SH} (h : S.Perm S') : Ok K H S' L := by
  have hm : ∀ a, Av S a ↔ Av S' a := fun a => (h.map Cell.pt).mem_iff
  have ea : Av S = Av S' := funext fun a => propext (hm a)
  exact ⟨(h.map Cell.pt).nodup_iff.mp o.nd, fun c hc => by rw [← ea]; exact o.cells c (h.mem_iff.mpr hc), fun e he => by rw [← ea]; exact o.live e he⟩
end

/-! ### frames, readings, lifts -/
abbrev Fr := List (Option R)
structure FrOk (σ : L2.St) (fr : Fr) (L : Live) : Prop where
  len : fr.length = σ.length
  at_ : ∀ (i : Nat) (r : R), fr[i]? = some (some r) → ∃ v, σ[i]? = some (some v) ∧ (v, r) ∈ L
theorem FrOk.mono {σ : L2.St} {fr : Fr} {L L' : Live} (f : FrOk σ fr L) (h : ∀ e ∈ L, e ∈ L') : FrOk σ fr L' := ⟨f.len, fun i r e => let ⟨v, a, b⟩ := f.at_ i r e; ⟨v, a, h _ b⟩⟩
theorem FrOk.set {σ : L2.St} {fr : Fr} {L : Live} (f : FrOk σ fr L) {v : V} {r : R} (h : (v, r) ∈ L) (i : Nat) : FrOk (σ.set i (some v)) (fr.set i (some r)) L := by
  refine ⟨by rw [List.length_set, List.length_set]; exact f.len, fun j q e => ?_⟩
  rw [List.getElem?_set] at e
  split at e
  · rename_i hj
    subst hj
    split at e
    · rename_i hl
      cases e
      exact ⟨v, by rw [List.getElem?_set_self (by rw [← f.len]; exact hl)], h⟩
    · cases e
  · rename_i hj
    rw [List.getElem?_set_ne hj]
    exact f.at_ j q e
theorem FrOk.none {σ : L2.St} {fr : Fr} {L : Live} (f : FrOk σ fr L) (i : Nat) : FrOk (σ.set i .none) (fr.set i .none) L := by
  refine ⟨by rw [List.length_set, List.length_set]; exact f.len, fun j q e => ?_⟩
  rw [List.getElem?_set] at e
  split at e
  · split at e <;> cases e
  · rename_i hj
    rw [List.getElem?_set_ne hj]
    exact f.at_ j q e
def wipeF (fr : Fr) : List Nat → Fr
  | [] => fr
  | v :: vs => (wipeF fr vs).set v none
theorem FrOk.wipe {σ : L2.St} {fr : Fr} {L : Live} (f : FrOk σ fr L) : ∀ vs : List Nat, FrOk (L2.wipe σ vs) (wipeF fr vs) L
  | [] => f
  | v :: vs => (FrOk.wipe f vs).none v

abbrev DE := Fr → SH → (R → SH → Prop) → Prop
abbrev DA := Fr → SH → (List R → SH → Prop) → Prop
abbrev DT := Fr → SH → (Bool → SH → Prop) → Prop
abbrev DO := Fr → SH → (Option Int → SH → Prop) → Prop
structure DEnds where
  nx : Fr → SH → Prop
  rt : R → SH → Prop
  bk : Fr → SH → Prop := fun _ _ => False
  ct : Fr → SH → Prop := fun _ _ => False
abbrev DS := DEnds → Fr → SH → Prop
abbrev DG := R → Fr → SH → (Fr → SH → Prop) → Prop
abbrev DGs := List R → Fr → SH → (Fr → SH → Prop) → Prop

/-- F: cells that a reading doesn't speak of -/
abbrev OkF (K : Fg) (F : SH) (H : Hp) (S : SH) (L : Live) : Prop := Ok K H (S ++ F) L
section
variable {K : Fg} {F : SH} {H : Hp} {S : SH} {L : Live}
theorem in_app {i : Nat} {c : Cell} (h : S[i]? = some c) : (S ++ F)[i]? = some c := by
  obtain ⟨hl, _⟩ := List.getElem?_eq_some_iff.mp h
  rw [List.getElem?_append_left hl]; exact h
theorem set_app {i : Nat} {c : Cell} (h : S[i]? = some c) (c' : Cell) : (S ++ F).set i c' = S.set i c' ++ F := by
  obtain ⟨hl, _⟩ := List.getElem?_eq_some_iff.mp h
  rw [List.set_append_left _ _ hl]
theorem erase_app {i : Nat} {c : Cell} (h : S[i]? = some c) : (S ++ F).eraseIdx i = S.eraseIdx i ++ F := by
  obtain ⟨hl, _⟩ := List.getElem?_eq_some_iff.mp h
  rw [List.eraseIdx_append_of_lt_length hl]
end

def Lift (K : Fg) (te : TE) (de : DE) : Prop := ∀ (F : SH) (H : Hp) (σ : L2.St) (fr : Fr) (S : SH) (L : Live), FrOk σ fr L → OkF K F H S L → ∀ (C : R → SH → Prop) (Q : VK), de fr S C →
  (∀ v r S' H', OkF K F H' S' ((v, r) :: L) → C r S' → Q v H') → te σ H Q
def LiftT (K : Fg) (tt : TT) (dt : DT) : Prop := ∀ (F : SH) (H : Hp) (σ : L2.St) (fr : Fr) (S : SH) (L : Live), FrOk σ fr L → OkF K F H S L → ∀ (C : Bool → SH → Prop) (Q : Bool → Hp → Prop), dt fr S C →
  (∀ b S' H', OkF K F H' S' L → C b S' → Q b H') → tt σ H Q
def LiftA (K : Fg) (ta : TA) (da : DA) : Prop := ∀ (F : SH) (H : Hp) (σ : L2.St) (fr : Fr) (S : SH) (L : Live), FrOk σ fr L → OkF K F H S L → ∀ (C : List R → SH → Prop) (Q : List V → Hp → Prop), da fr S C →
  (∀ vs rs S' H' L', OkF K F H' S' L' → (∀ e ∈ L, e ∈ L') → Lives L' vs rs → C rs S' → Q vs H') → ta σ H Q
def LiftO (K : Fg) (to : TO) (do_ : DO) : Prop := ∀ (F : SH) (H : Hp) (σ : L2.St) (fr : Fr) (S : SH) (L : Live), FrOk σ fr L → OkF K F H S L → ∀ (C : Option Int → SH → Prop) (Q : Option Int → Hp → Prop), do_ fr S C →
  (∀ o S' H', OkF K F H' S' L → C o S' → Q o H') → to σ H Q
structure EndsOk (K : Fg) (F : SH) (L : Live) (D : Ends) (D' : DEnds) : Prop where
  nx : ∀ σ fr S H L', FrOk σ fr L' → OkF K F H S L' → (∀ e ∈ L, e ∈ L') → D'.nx fr S → D.nx σ H
  rt : ∀ v r S H, OkF K F H S ((v, r) :: L) → D'.rt r S → D.rt v H
  bk : ∀ σ fr S H L', FrOk σ fr L' → OkF K F H S L' → (∀ e ∈ L, e ∈ L') → D'.bk fr S → D.bk σ H
  ct : ∀ σ fr S H L', FrOk σ fr L' → OkF K F H S L' → (∀ e ∈ L, e ∈ L') → D'.ct fr S → D.ct σ H
theorem tl_mem {α : Type} {a : α} {L : List α} : ∀ e ∈ L, e ∈ a :: L := fun _ h => List.mem_cons_of_mem _ h
theorem sub_cons {α : Type} {a : α} {L L' : List α} (h : ∀ e ∈ L, e ∈ L') : ∀ e ∈ a :: L, e ∈ a :: L' := fun e he => by
  rcases List.mem_cons.mp he with rfl | he
  · exact List.mem_cons_self
  · exact List.mem_cons_of_mem _ (h e he)
theorem EndsOk.mono {K : Fg} {F : SH} {L L' : Live} {D : Ends} {D' : DEnds} (e : EndsOk K F L D D') (h : ∀ e ∈ L, e ∈ L') : EndsOk K F L' D D' :=
  ⟨fun σ fr S H L2 f o s q => e.nx σ fr S H L2 f o (fun x hx => s x (h x hx)) q, fun v r S H o q => e.rt v r S H (o.sub (sub_cons h)) q,
   fun σ fr S H L2 f o s q => e.bk σ fr S H L2 f o (fun x hx => s x (h x hx)) q, fun σ fr S H L2 f o s q => e.ct σ fr S H L2 f o (fun x hx => s x (h x hx)) q⟩
def LiftS (K : Fg) (ts : TS) (ds : DS) : Prop := ∀ (F : SH) (H : Hp) (σ : L2.St) (fr : Fr) (S : SH) (L : Live), FrOk σ fr L → OkF K F H S L → ∀ (D : Ends) (D' : DEnds), EndsOk K F L D D' → ds D' fr S → ts D σ H
def LiftG (K : Fg) (g : TG) (dg : DG) : Prop := ∀ (F : SH) (H : Hp) (σ : L2.St) (fr : Fr) (S : SH) (L : Live) (v : V) (r : R), FrOk σ fr L → OkF K F H S L → (v, r) ∈ L → ∀ (C : Fr → SH → Prop) (Q : L2.St → Hp → Prop), dg r fr S C →
  (∀ σ' fr' S' H' L', FrOk σ' fr' L' → OkF K F H' S' L' → (∀ e ∈ L, e ∈ L') → C fr' S' → Q σ' H') → g v σ H Q
def LiftGs (K : Fg) (g : TGs) (dg : DGs) : Prop := ∀ (F : SH) (H : Hp) (σ : L2.St) (fr : Fr) (S : SH) (L : Live) (vs : List V) (rs : List R), FrOk σ fr L → OkF K F H S L → Lives L vs rs → ∀ (C : Fr → SH → Prop) (Q : L2.St → Hp → Prop), dg rs fr S C →
  (∀ σ' fr' S' H' L', FrOk σ' fr' L' → OkF K F H' S' L' → (∀ e ∈ L, e ∈ L') → C fr' S' → Q σ' H') → g vs σ H Q

structure PD (X : Cx) (e : Expr) (de : DE) : Prop where
  ex : ∃ te, PE X e te ∧ Lift X.K te de
structure PDT (X : Cx) (e : Expr) (dt : DT) : Prop where
  ex : ∃ tt, PT X e tt ∧ LiftT X.K tt dt
structure PDW (X : Cx) (e : Expr) (dt : DT) : Prop where
  ex : ∃ tt, PW X e tt ∧ LiftT X.K tt dt
structure PDA (X : Cx) (es : List Expr) (da : DA) : Prop where
  ex : ∃ ta, PA X es ta ∧ LiftA X.K ta da
structure PDO (X : Cx) (e : Option Expr) (d : DO) : Prop where
  ex : ∃ t, PO X e t ∧ LiftO X.K t d
structure PDS (X : Cx) (st : Stmt) (ds : DS) : Prop where
  ex : ∃ ts, PS X st ts ∧ LiftS X.K ts ds
structure PDSs (X : Cx) (st : List Stmt) (ds : DS) : Prop where
  ex : ∃ ts, PSs X st ts ∧ LiftS X.K ts ds
structure PDG (X : Cx) (e : Expr) (dg : DG) : Prop where
  ex : ∃ g, PG X e g ∧ LiftG X.K g dg
structure PDGs (X : Cx) (es : List Expr) (dg : DGs) : Prop where
  ex : ∃ g, PGs X es g ∧ LiftGs X.K g dg

end DL
set_option Elab.async false
set_option linter.all false
set_option maxRecDepth 100000
set_option maxHeartbeats 4000000
/-! DL, second part: the rules for expressions and tests. -/
namespace DL
open PySem PySem.Spec PyProof.Rows L2

abbrev CR0 := R → SH → Prop
theorem big_of {n : Nat} (h : n ≤ 100000) : n ≤ sizeLine := Nat.le_trans h (by decide)
theorem big_lt {n : Nat} (h : n < 100000) : n < sizeLine := Nat.lt_of_lt_of_le h (by decide)

section
variable {K : Fg}
/-! ### names, constants -/
def dVar (i : Nat) : DE := fun fr S C => ∃ r, fr[i]? = some (some r) ∧ C r S
def dC (r : R) : DE := fun _ S C => C r S
theorem lift_var (i : Nat) : Lift K (tVar i) (dVar i) := fun F H σ fr S L f o C Q ⟨r, e, h⟩ q => by
  obtain ⟨v, ev, m⟩ := f.at_ i r e
  exact ⟨v, ev, q v r S H (o.push (o.live _ m)) h⟩
theorem lift_c {v : V} {r : R} (h : ∀ A H, RepR K A H v r) : Lift K (tC v) (dC r) := fun F H σ fr S L f o C Q h' q => q v r S H (o.push (h _ _)) h'

/-! ### two operands -/
abbrev F2 := R → R → SH → CR0 → Prop
def OpD (K : Fg) (r : R2) (f : F2) : Prop := ∀ (F : SH) (x y : V) (a b : R) (H : Hp) (S : SH) (L : Live) (C : CR0) (Q : VK), OkF K F H S L → (x, a) ∈ L → (y, b) ∈ L → f a b S C →
  (∀ v c S' H', OkF K F H' S' ((v, c) :: L) → C c S' → Q v H') → r x y H Q
def dOp (f : F2) (da db : DE) : DE := fun fr S C => da fr S fun a S1 => db fr S1 fun b S2 => f a b S2 C
theorem lift_op {r : R2} {f : F2} {ta tb : TE} {da db : DE} (h : OpD K r f) (la : Lift K ta da) (lb : Lift K tb db) : Lift K (tOp r ta tb) (dOp f da db) := by
  intro F H σ fr S L fo o C Q hd q
  refine la F H σ fr S L fo o _ _ hd fun x a S1 H1 o1 h1 => ?_
  refine lb F H1 σ fr S1 _ (fo.mono tl_mem) o1 _ _ h1 fun y b S2 H2 o2 h2 => ?_
  refine h F x y a b H2 S2 _ C Q o2 (List.mem_cons_of_mem _ List.mem_cons_self) List.mem_cons_self h2 fun v c S3 H3 o3 h3 => ?_
  exact q v c S3 H3 (o3.sub (sub_cons fun e he => List.mem_cons_of_mem _ (List.mem_cons_of_mem _ he))) h3
/-- an answer that makes nothing new -/
theorem OpD.flat {r : R2} {f : F2} (h : ∀ (A : Addr → Prop) (x y : V) (a b : R) (H : Hp) (S : SH) (C : CR0) (Q : VK), RepR K A H x a → RepR K A H y b → f a b S C → (∀ v c, RepR K A H v c → C c S → Q v H) → r x y H Q) : OpD K r f :=
  fun F x y a b H S L C Q o hx hy hf q => h (Av (S ++ F)) x y a b H S C Q (o.live _ hx) (o.live _ hy) hf fun v c hv hc => q v c S H (o.push hv) hc

/-! ### ints -/
def fI (P : Int → Int → Prop) (g : Int → Int → PyData) : F2 := fun a b S C => match a, b with
  | .dat (.int i), .dat (.int j) => P i j ∧ C (.dat (g i j)) S
  | _, _ => False
def fI0 (g : Int → Int → PyData) : F2 := fun a b S C => match a, b with
  | .dat (.int i), .dat (.int j) => C (.dat (g i j)) S
  | _, _ => False
theorem rep_int_inv {A : Addr → Prop} {H : Hp} {v : V} {i : Int} (h : Rep K A H v (.int i)) : v = .int i := by cases h; rfl
theorem opd_I0 {g : Int → Int → V} {g' : Int → Int → PyData} (hg : ∀ i j A H, Rep K A H (g i j) (g' i j)) : OpD K (rI0 g) (fI0 g') := OpD.flat fun A x y a b H S C Q hx hy hf q => by
  unfold fI0 at hf
  split at hf
  · rename_i i j
    cases rep_int_inv hx; cases rep_int_inv hy
    exact ⟨i, j, rfl, rfl, q _ (.dat _) (hg i j A H) hf⟩
  · exact hf.elim
theorem opd_I {P P' : Int → Int → Prop} {g : Int → Int → V} {g' : Int → Int → PyData} (hp : ∀ i j, P' i j → P i j) (hg : ∀ i j A H, Rep K A H (g i j) (g' i j)) : OpD K (rI P g) (fI P' g') := OpD.flat fun A x y a b H S C Q hx hy hf q => by
  unfold fI at hf
  split at hf
  · rename_i i j
    cases rep_int_inv hx; cases rep_int_inv hy
    exact ⟨i, j, rfl, rfl, hp i j hf.1, q _ (.dat _) (hg i j A H) hf.2⟩
  · exact hf.elim

/-! ### + of ints, texts, lists, tuples -/
def fAdd : F2 := fun a b S C => match a, b with
  | .dat (.int i), .dat (.int j) => C (.dat (.int (i + j))) S
  | .dat (.str x), .dat (.str y) => x.length + y.length ≤ 100000 ∧ C (.dat (.str (x ++ y))) S
  | .dat (.list xs), .dat (.list ys) => xs.length + ys.length ≤ 100000 ∧ C (.dat (.list (xs ++ ys))) S
  | .dat (.tuple xs), .dat (.tuple ys) => xs.length + ys.length ≤ 100000 ∧ C (.dat (.tuple (xs ++ ys))) S
  | _, _ => False
def rStrAdd : R2 := fun x y H Q => ∃ i j, x = .str i ∧ y = .str j ∧ i.length + j.length ≤ sizeLine ∧ Q (.str (i ++ j)) H
def rAddAll (K : Fg) : R2 := fun x y H Q => (rI0 (fun i j => V.int (i + j))) x y H Q ∨ rStrAdd x y H Q ∨ rCat x y H Q ∨ rCatA K x y H Q
theorem op_addAll {X : Cx} : OpR X (binaryOp .Add) (rAddAll X.K) := op_add.or (op_add_str.or (op_cat.or op_catA))
theorem sqT_of {A : Addr → Prop} {H : Hp} {a : Addr} {xs : List V} (h : H a = some (.tup xs) ∨ KTup K a xs) : SqT K H a xs := by
  rcases h with h | h
  · exact SqT.of h
  · exact .inr h
theorem opd_add : OpD K (rAddAll K) fAdd := by
  intro F x y a b H S L C Q o hx hy hf q
  replace hx := o.live _ hx
  replace hy := o.live _ hy
  unfold fAdd at hf
  split at hf
  · cases rep_int_inv hx; cases rep_int_inv hy
    exact .inl ⟨_, _, rfl, rfl, q _ _ S H (o.pd (.int _)) hf⟩
  · cases hx; cases hy
    exact .inr (.inl ⟨_, _, rfl, rfl, big_of hf.1, q _ _ S H (o.pd (.str _)) hf.2⟩)
  · cases hx with | lst h1 n1 q1 => cases hy with | lst h2 n2 q2 =>
    exact .inr (.inr (.inl ⟨_, _, _, _, rfl, rfl, h1, h2, by rw [q1.length, q2.length]; exact big_of hf.1, fun p hp => q _ _ S _ (o.lst hp (q1.append q2)) hf.2⟩))
  · cases hx with | tup h1 q1 => cases hy with | tup h2 q2 =>
    refine .inr (.inr (.inr ⟨_, _, _, _, rfl, rfl, sqT_of (A := Av S) h1, sqT_of (A := Av S) h2, by rw [q1.length, q2.length]; exact big_of hf.1, fun z => ?_, fun _ z => ?_, fun _ _ p hp => q _ _ S _ (o.tup hp (q1.append q2)) hf.2⟩))
    · subst z
      cases q1
      exact q _ _ S H (o.pd (.tup h2 q2)) hf.2
    · subst z
      cases q2
      have e := hf.2
      rw [List.append_nil] at e
      exact q _ _ S H (o.pd (.tup h1 q1)) e
  · exact hf.elim

/-! ### * of ints, of lists -/
def fMul : F2 := fun a b S C => match a, b with
  | .dat (.int i), .dat (.int j) => CMulW i j ∧ C (.dat (.int (i * j))) S
  | .dat (.list xs), .dat (.int k) => k ≤ 1000 ∧ -1000 ≤ k ∧ xs.length ≤ 100 ∧ C (.dat (.list (List.replicate k.toNat xs).flatten)) S
  | _, _ => False
def fMulC : F2 := fun a b S C => match a, b with
  | .dat (.list xs), .dat (.int k) => k ≤ 1000 ∧ -1000 ≤ k ∧ xs.length ≤ 100 ∧ ∀ p, C (.val (.ref p)) (.lst p ((List.replicate k.toNat xs).flatten.map R.dat) :: S)
  | _, _ => False
def rMulAll : R2 := fun x y H Q => (rI CMulW fun i j => V.int (i * j)) x y H Q ∨ rRep x y H Q
theorem op_mulAll {X : Cx} : OpR X (binaryOp .Mult) rMulAll := op_mulW.or op_rep
theorem rep_size {n : Nat} {k : Int} (h : n ≤ 100) (hk : k ≤ 1000) : n * k.toNat ≤ sizeLine := by
  have h1 : k.toNat ≤ 1000 := by omega
  have h2 : n * k.toNat ≤ 100 * 1000 := Nat.mul_le_mul h h1
  exact Nat.le_trans h2 (by decide)
theorem opd_mul : OpD K rMulAll fMul := by
  intro F x y a b H S L C Q o hx hy hf q
  replace hx := o.live _ hx
  replace hy := o.live _ hy
  unfold fMul at hf
  split at hf
  · cases rep_int_inv hx; cases rep_int_inv hy
    exact .inl ⟨_, _, rfl, rfl, hf.1, q _ _ S H (o.pd (.int _)) hf.2⟩
  · cases rep_int_inv hy
    cases hx with | lst h1 n1 q1 =>
    exact .inr ⟨_, _, _, rfl, rfl, h1, by omega, by omega, by rw [q1.length]; exact rep_size hf.2.2.1 hf.1, fun p hp => q _ _ S _ (o.lst hp (q1.rep _)) hf.2.2.2⟩
  · exact hf.elim
theorem opd_mulC : OpD K rMulAll fMulC := by
  intro F x y a b H S L C Q o hx hy hf q
  replace hx := o.live _ hx
  replace hy := o.live _ hy
  unfold fMulC at hf
  split at hf
  · cases rep_int_inv hy
    cases hx with | lst h1 n1 q1 =>
    exact .inr ⟨_, _, _, rfl, rfl, h1, by omega, by omega, by rw [q1.length]; exact rep_size hf.2.2.1 hf.1, fun p hp => q _ _ (_ :: S) _ (Ok.push (r := .val (.ref p)) (o.lstC hp (all_reps (q1.rep _))) rfl) (hf.2.2.2 p)⟩
  · exact hf.elim
/-! ### equality of data -/
def scalD : PyData → PyData → Bool
  | .none, .none => true | .none, .int _ => true | .int _, .none => true | .none, .bool _ => true | .bool _, .none => true | .none, .str _ => true | .str _, .none => true
  | .int _, .int _ => true | .bool _, .bool _ => true | .str _, .str _ => true
  | .int _, .str _ => true | .str _, .int _ => true | .bool _, .str _ => true | .str _, .bool _ => true
  | _, _ => false
def eqOk (d e : PyData) : Bool := scalD d e || (SeqAt.shaped d && SeqAt.shaped e)
def fEq : F2 := fun a b S C => match a, b with
  | .dat d, .dat e => eqOk d e = true ∧ C (.dat (.bool (PyData.eqv d e))) S
  | _, _ => False
def fNe : F2 := fun a b S C => match a, b with
  | .dat d, .dat e => eqOk d e = true ∧ C (.dat (.bool (!PyData.eqv d e))) S
  | _, _ => False
theorem scal_eq {A : Addr → Prop} {H : Hp} {x y : V} {d e : PyData} (hx : Rep K A H x d) (hy : Rep K A H y e) (h : scalD d e = true) : scal x y = true ∧ decide (x = y) = PyData.eqv d e := by
  cases hx <;> cases hy <;> first
    | (refine ⟨rfl, ?_⟩; rfl)
    | (refine ⟨rfl, ?_⟩; simp [PyData.eqv, Bool.beq_eq_decide_eq]; done)
    | (refine ⟨rfl, ?_⟩; rw [dec_str]; simp [PyData.eqv]; done)
    | (refine ⟨rfl, ?_⟩; rw [dec_bl]; simp [PyData.eqv]; done)
    | (exfalso; revert h; simp [scalD]; done)
def rEqAll (K : Fg) : R2 := fun x y H Q => rEq x y H Q ∨ rEqD K x y H Q
def rNeAll (K : Fg) : R2 := fun x y H Q => rNe x y H Q ∨ rNeD K x y H Q
theorem op_eqAll {X : Cx} (hu : X.A.units + 64 < cLine) : OpR X (compareOp .Eq) (rEqAll X.K) := op_eq.or (op_eqD hu)
theorem op_neAll {X : Cx} (hu : X.A.units + 64 < cLine) : OpR X (compareOp .NotEq) (rNeAll X.K) := op_ne.or (op_neD hu)
theorem opd_eq : OpD K (rEqAll K) fEq := OpD.flat fun A x y a b H S C Q hx hy hf q => by
  unfold fEq at hf
  split at hf
  · rename_i d e
    obtain ⟨h1, h2⟩ := hf
    rcases Bool.or_eq_true_iff.mp h1 with h | h
    · obtain ⟨s, e1⟩ := scal_eq hx hy h
      exact .inl ⟨s, q _ (.dat _) (by rw [e1]; exact Rep.bl _) h2⟩
    · obtain ⟨s1, s2⟩ := Bool.and_eq_true_iff.mp h
      exact .inr ⟨d, e, hx.dp, hy.dp, s1, s2, q _ (.dat _) (Rep.bl _) h2⟩
  · exact hf.elim
theorem opd_ne : OpD K (rNeAll K) fNe := OpD.flat fun A x y a b H S C Q hx hy hf q => by
  unfold fNe at hf
  split at hf
  · rename_i d e
    obtain ⟨h1, h2⟩ := hf
    rcases Bool.or_eq_true_iff.mp h1 with h | h
    · obtain ⟨s, e1⟩ := scal_eq hx hy h
      exact .inl ⟨s, q _ (.dat _) (by rw [e1]; exact Rep.bl _) h2⟩
    · obtain ⟨s1, s2⟩ := Bool.and_eq_true_iff.mp h
      exact .inr ⟨d, e, hx.dp, hy.dp, s1, s2, q _ (.dat _) (Rep.bl _) h2⟩
  · exact hf.elim

/-! ### is None -/
def isNone : R → Bool
  | .dat .none => true
  | .dat _ => false
  | .val v => decide (v = .non)
  | .scr _ => false
  | .tp _ => false
  | .obj _ _ _ => false
  | .dic _ _ => false
def fIsN : F2 := fun a b S C => match b with
  | .dat .none => C (.dat (.bool (isNone a))) S
  | _ => False
def fNotN : F2 := fun a b S C => match b with
  | .dat .none => C (.dat (.bool (!isNone a))) S
  | _ => False
theorem isNone_of {A : Addr → Prop} {H : Hp} {x : V} {a : R} (h : RepR K A H x a) : decide (x = .non) = isNone a := by
  cases a with
  | dat d => cases h <;> rfl
  | val v => cases (show x = v from h); rfl
  | scr ns => obtain ⟨a, e, _⟩ := h; rw [e]; rfl
  | tp rs => obtain ⟨a, o, e, _⟩ := h; rw [e]; rfl
  | obj C ks rs => obtain ⟨a, dx, vs, e, _⟩ := h; rw [e]; rfl
  | dic ks rs => obtain ⟨a, vs, e, _⟩ := h; rw [e]; rfl
def rIsNn : R2 := fun x y H Q => y = .non ∧ Q (.bl (decide (x = .non))) H
def rNotNn : R2 := fun x y H Q => y = .non ∧ Q (.bl (!decide (x = .non))) H
theorem opd_isN : OpD K rIsNn fIsN := OpD.flat fun A x y a b H S C Q hx hy hf q => by
  unfold fIsN at hf
  split at hf
  · refine ⟨by cases hy; rfl, q _ (.dat _) ?_ hf⟩
    rw [isNone_of hx]; exact Rep.bl _
  · exact hf.elim
theorem opd_notN : OpD K rNotNn fNotN := OpD.flat fun A x y a b H S C Q hx hy hf q => by
  unfold fNotN at hf
  split at hf
  · refine ⟨by cases hy; rfl, q _ (.dat _) ?_ hf⟩
    rw [isNone_of hx]; exact Rep.bl _
  · exact hf.elim

/-! ### in, not in: flat data -/
def flatD : PyData → Bool
  | .none => true | .bool _ => true | .int _ => true | .str _ => true | _ => false
def inD (d : PyData) (ds : List PyData) : Bool := ds.any fun e => PyData.eqv e d
def fIn (neg : Bool) : F2 := fun a b S C => match a, b with
  | .dat d, .dat (.list ds) => flatD d = true ∧ ds.all flatD = true ∧ C (.dat (.bool (if neg then !inD d ds else inD d ds))) S
  | .dat d, .dat (.tuple ds) => flatD d = true ∧ ds.all flatD = true ∧ C (.dat (.bool (if neg then !inD d ds else inD d ds))) S
  | _, _ => False
theorem flat_of {A : Addr → Prop} {H : Hp} {x : V} {d : PyData} (h : Rep K A H x d) (f : flatD d = true) : flatV x = true := by
  cases h <;> first | rfl | (exfalso; revert f; simp [flatD]; done)
theorem flats_of {A : Addr → Prop} {H : Hp} : ∀ {xs : List V} {ds : List PyData}, RepAll K A H xs ds → ds.all flatD = true → xs.all flatV = true
  | _, _, .nil, _ => rfl
  | _, _, .cons h t, f => by
    rw [List.all_cons] at f ⊢
    obtain ⟨f1, f2⟩ := Bool.and_eq_true_iff.mp f
    rw [flat_of h f1, flats_of t f2]; rfl
theorem eqV_of {A : Addr → Prop} {H : Hp} {x y : V} {d e : PyData} (h : Rep K A H x d) (h' : Rep K A H y e) (f : flatD d = true) (f' : flatD e = true) : eqV x y = PyData.eqv d e := by
  cases h <;> cases h' <;> first | rfl | (exfalso; revert f; simp [flatD]; done) | (exfalso; revert f'; simp [flatD]; done) | (simp [eqV, PyData.eqv]; done)
theorem inV_of {A : Addr → Prop} {H : Hp} {x : V} {d : PyData} (h : Rep K A H x d) (f : flatD d = true) : ∀ {xs : List V} {ds : List PyData}, RepAll K A H xs ds → ds.all flatD = true → inV x xs = inD d ds
  | _, _, .nil, _ => rfl
  | _, _, .cons (v := v) (vs := vs) (d := e) (ds := ds) h' t, f' => by
    rw [List.all_cons] at f'
    obtain ⟨f1, f2⟩ := Bool.and_eq_true_iff.mp f'
    have ih := inV_of h f t f2
    unfold inV inD at ih ⊢
    rw [List.any_cons, List.any_cons, ih, eqV_of h' h f1 f]
theorem opd_in {neg : Bool} : OpD K (rIn K neg) (fIn neg) := OpD.flat fun A x y a b H S C Q hx hy hf q => by
  unfold fIn at hf
  split at hf
  · obtain ⟨f1, f2, h⟩ := hf
    cases hy with | lst h1 n1 q1 =>
    refine ⟨_, _, rfl, .inl (SqL.of h1), flat_of hx f1, flats_of q1 f2, q _ (.dat _) ?_ h⟩
    rw [inV_of hx f1 q1 f2]; exact Rep.bl _
  · obtain ⟨f1, f2, h⟩ := hf
    cases hy with | tup h1 q1 =>
    refine ⟨_, _, rfl, .inr (sqT_of (A := A) h1), flat_of hx f1, flats_of q1 f2, q _ (.dat _) ?_ h⟩
    rw [inV_of hx f1 q1 f2]; exact Rep.bl _
  · exact hf.elim

/-! ### subscripts -/
def fIx : F2 := fun a b S C => match a, b with
  | .dat (.list ds), .dat (.int i) => ∃ d, atI ds i = some d ∧ C (.dat d) S
  | .dat (.tuple ds), .dat (.int i) => ∃ d, atI ds i = some d ∧ C (.dat d) S
  | .dat (.str z), .dat (.int i) => z.length ≤ 100000 ∧ ∃ c, atI z.cps.toList i = some c ∧ C (.dat (.str ⟨#[c]⟩)) S
  | .scr ns, .dat (.int i) => ∃ z, atI ns i = some z ∧ C (.dat (.int z)) S
  | .tp rs, .dat (.int i) => ∃ r, atI rs i = some r ∧ C r S
  | .val (.ref p), .dat (.int i) => (∃ (j : Nat) (xs : List R) (r : R), S[j]? = some (.lst p xs) ∧ atI xs i = some r ∧ C r S) ∨
      ∃ (j : Nat) (kvs : List (Key × R)) (r : R), S[j]? = some (.dct p kvs) ∧ kvs.find? (fun kv => decide (kv.1 = Sum.inl i)) = some (Sum.inl i, r) ∧ C r S
  | .val (.ref p), .dat (.str x) => ∃ (j : Nat) (kvs : List (Key × R)) (r : R), S[j]? = some (.dct p kvs) ∧ kvs.find? (fun kv => decide (kv.1 = Sum.inr x)) = some (Sum.inr x, r) ∧ C r S
  | .dic ks rs, .dat (.str x) => ∃ r, (ks.zip rs).find? (fun kv => decide (kv.1 = Sum.inr x)) = some (Sum.inr x, r) ∧ C r S
  | _, _ => False
theorem atI_all {A : Addr → Prop} {H : Hp} {xs : List V} {ds : List PyData} {i : Int} {d : PyData} (h : RepAll K A H xs ds) (e : atI ds i = some d) : ∃ v, atI xs i = some v ∧ Rep K A H v d := by
  unfold atI at e ⊢
  rw [← h.length] at e
  cases e1 : ixN xs.length i with
  | none => rw [e1] at e; cases e
  | some j =>
    rw [e1] at e
    exact h.get' e
theorem atI_map {α β : Type} (f : α → β) {xs : List α} {i : Int} {x : α} (e : atI xs i = some x) : atI (xs.map f) i = some (f x) := by
  unfold atI at e ⊢
  rw [List.length_map]
  cases e1 : ixN xs.length i with
  | none => rw [e1] at e; cases e
  | some j =>
    rw [e1] at e
    show (xs.map f)[j]? = some (f x)
    rw [List.getElem?_map, show xs[j]? = some x from e]; rfl
theorem paired_get' {α β : Type} {P : α → β → Prop} : ∀ {l : List α} {m : List β} {i : Nat} {b : β}, Paired P l m → m[i]? = some b → ∃ a, l[i]? = some a ∧ P a b
  | _, _, _, _, .nil, e => by simp at e
  | _, _, 0, _, .cons r _, e => by simp at e; subst e; exact ⟨_, rfl, r⟩
  | _, _, i + 1, b, .cons _ t, e => by
    obtain ⟨u, h1, h2⟩ := paired_get' (i := i) (b := b) t (by simpa using e)
    exact ⟨u, by simpa using h1, h2⟩
theorem paired_len {α β : Type} {P : α → β → Prop} : ∀ {l : List α} {m : List β}, Paired P l m → l.length = m.length
  | _, _, .nil => rfl
  | _, _, .cons _ t => by rw [List.length_cons, List.length_cons, paired_len t]
theorem atI_rs {P : V → R → Prop} {xs : List V} {ds : List R} {i : Int} {d : R} (h : Paired P xs ds) (e : atI ds i = some d) : ∃ v, atI xs i = some v ∧ P v d := by
  unfold atI at e ⊢
  rw [← paired_len h] at e
  cases e1 : ixN xs.length i with
  | none => rw [e1] at e; cases e
  | some j =>
    rw [e1] at e
    exact paired_get' h e
theorem find_kv {P : V → R → Prop} {k : Key} {r : R} : ∀ {kws : List (Key × V)} {kvs : List (Key × R)}, Paired (fun (a : Key × V) (b : Key × R) => a.1 = b.1 ∧ P a.2 b.2) kws kvs → kvs.find? (fun kv => decide (kv.1 = k)) = some (k, r) → ∃ v, valV kws k = some v ∧ P v r
  | _, _, .nil, e => by simp at e
  | a :: as, b :: bs, .cons ⟨h1, h2⟩ t, e => by
    rw [List.find?_cons] at e
    by_cases hk : b.1 = k
    · rw [decide_eq_true hk] at e
      have e' : b = (k, r) := Option.some.inj e
      refine ⟨a.2, valV_pos (h1.trans hk), ?_⟩
      rw [e'] at h2; exact h2
    · rw [decide_eq_false hk] at e
      obtain ⟨v, e1, e2⟩ := find_kv t e
      exact ⟨v, by rw [valV_neg (fun z => hk (h1.symm.trans z))]; exact e1, e2⟩
def rDGet : R2 := fun x y H Q => ∃ a v, x = .ref a ∧ DGet H a y (some v) ∧ Q v H
theorem ix_dict {X : Cx} (hu : X.A.units + 1 < cLine) : IxR X rDGet := by
  intro value slice pins s σ H x y v u Q I rx ry h hs
  obtain ⟨a, w, rfl, g, q⟩ := h
  obtain rfl : v = Value.ref a := rx
  have hT := dict_typeIs I g
  unfold subscriptTail
  refine wpAny_bind ?_
  rw [getitemInPython_of_ne hT.not_modules]
  refine wpAny_bind (wpAny_specialOf hT PySem.F.slot_dict_getitem.lookup ?_)
  have fin : wpAny (model X.prog X.w) X.A (subscripted slice false (Value.ref a) u) (fun r s₃ => wpAny (model X.prog X.w) X.A (letTemporaryGo value (Value.ref a) r >>= fun _ => pure r) (EP X pins σ Q) X.xe s₃) X.xe s := by
    rw [hs]
    exact wpAny_operating (d_getItem hu I g ry fun w' s3 I3 rw' => wpAny_bind (wpAny_letTemporaryGo (wpAny_pure ⟨w, H, I3, rw', q⟩)))
  first
    | exact wpAny_pure (wpAny_bind fin)
    | exact wpAny_bind (wpAny_pure (wpAny_bind fin))
    | exact wpAny_bind fin
def rIxAll (K : Fg) : R2 := fun x y H Q => rIx K x y H Q ∨ rDGet x y H Q
theorem ix_all {X : Cx} (hu : X.A.units + 1 < cLine) : IxR X (rIxAll X.K) := ix_seq.or (ix_dict hu)
theorem zip_kv {P : V → R → Prop} : ∀ {ks : List Key} {vs : List V} {rs : List R}, Paired P vs rs → Paired (fun (a : Key × V) (b : Key × R) => a.1 = b.1 ∧ P a.2 b.2) (ks.zip vs) (ks.zip rs)
  | [], _, _, _ => .nil
  | _ :: _, _, _, .nil => .nil
  | _ :: _, _, _, .cons h t => .cons ⟨rfl, h⟩ (zip_kv t)
theorem opd_ix : OpD K (rIxAll K) fIx := by
  intro F x y a b H S L C Q o hx hy hf q
  replace hx := o.live _ hx
  replace hy := o.live _ hy
  unfold fIx at hf
  split at hf
  · obtain ⟨d, e, h⟩ := hf
    cases rep_int_inv hy
    cases hx with | lst h1 n1 q1 =>
    obtain ⟨v, e1, r1⟩ := atI_all q1 e
    exact .inl (.inl ⟨_, _, _, v, rfl, rfl, SqL.of h1, e1, q _ _ S H (o.pd r1) h⟩)
  · obtain ⟨d, e, h⟩ := hf
    cases rep_int_inv hy
    cases hx with | tup h1 q1 =>
    obtain ⟨v, e1, r1⟩ := atI_all q1 e
    exact .inl (.inr (.inl ⟨_, _, _, v, rfl, rfl, sqT_of (A := Av S) h1, e1, q _ _ S H (o.pd r1) h⟩))
  · obtain ⟨hl, c, e, h⟩ := hf
    cases rep_int_inv hy
    cases hx
    exact .inl (.inr (.inr ⟨_, _, c, rfl, rfl, big_of hl, e, q _ _ S H (o.pd (.str _)) h⟩))
  · rename_i ns i
    cases rep_int_inv hy
    obtain ⟨a, rfl, e⟩ := (show ∃ a, x = .ref a ∧ ScrAt K H a (ns.map V.int) from hx)
    obtain ⟨z, e1, h⟩ := hf
    exact .inl (.inl ⟨_, _, _, _, rfl, rfl, e.sq, atI_map V.int e1, q _ _ S H (o.pd (.int z)) h⟩)
  · rename_i rs i
    cases rep_int_inv hy
    obtain ⟨a, vs, rfl, h1, q1⟩ := (show ∃ a vs, x = .ref a ∧ (H a = some (.tup vs) ∨ KTup K a vs) ∧ RepRl K _ H vs rs from hx)
    obtain ⟨r, e1, h⟩ := hf
    obtain ⟨v, e2, r2⟩ := atI_rs q1.pair e1
    exact .inl (.inr (.inl ⟨_, _, _, v, rfl, rfl, sqT_of (A := Av S) h1, e2, q _ _ S H (o.push r2) h⟩))
  · rename_i p i
    cases rep_int_inv hy
    cases (show x = V.ref p from hx)
    rcases hf with ⟨j, xs, r, hj, e, h⟩ | ⟨j, kvs, r, hj, e, h⟩
    · obtain ⟨vs, e1, q1⟩ := o.cells _ (at_split (in_app hj))
      obtain ⟨v, e2, r2⟩ := atI_rs q1 e
      exact .inl (.inl ⟨_, _, _, v, rfl, rfl, SqL.of e1, e2, q _ _ S H (o.push r2) h⟩)
    · obtain ⟨vs, e1, q1⟩ := o.cells _ (at_split (in_app hj))
      obtain ⟨v, e2, r2⟩ := find_kv q1 e
      exact .inr ⟨_, v, rfl, by rw [← e2]; exact DGet.k (k := Sum.inl i) e1, q _ _ S H (o.push r2) h⟩
  · rename_i p z
    cases hy
    cases (show x = V.ref p from hx)
    obtain ⟨j, kvs, r, hj, e, h⟩ := hf
    obtain ⟨vs, e1, q1⟩ := o.cells _ (at_split (in_app hj))
    obtain ⟨v, e2, r2⟩ := find_kv q1 e
    exact .inr ⟨_, v, rfl, by rw [← e2]; exact DGet.k (k := Sum.inr z) e1, q _ _ S H (o.push r2) h⟩
  · rename_i ks rs z
    cases hy
    obtain ⟨a, vs, rfl, e1, _, el, q1⟩ := (show ∃ a vs, x = .ref a ∧ H a = some (.dK (ks.zip vs)) ∧ ¬ _ ∧ vs.length = ks.length ∧ RepRl K _ H vs rs from hx)
    obtain ⟨r, e, h⟩ := hf
    obtain ⟨v, e2, r2⟩ := find_kv (zip_kv q1.pair) e
    exact .inr ⟨_, v, rfl, by rw [← e2]; exact DGet.k (k := Sum.inr z) e1, q _ _ S H (o.push r2) h⟩
  · exact hf.elim

/-! ### slices -/
def cutD {α : Type} (xs : List α) (lo hi : Option Int) : List α := (xs.drop (HT.sIx xs.length 0 lo)).take (HT.sIx xs.length xs.length hi - HT.sIx xs.length 0 lo)
theorem cut_all {A : Addr → Prop} {H : Hp} {xs : List V} {ds : List PyData} (h : RepAll K A H xs ds) (lo hi : Option Int) : RepAll K A H (cutV xs lo hi) (cutD ds lo hi) := by
  unfold cutV cutD
  rw [← h.length]
  exact (h.drop _).take _
abbrev F1 := R → SH → CR0 → Prop
def fSl (lo hi : Option Int) : F1 := fun a S C => match a with
  | .dat (.list ds) => C (.dat (.list (cutD ds lo hi))) S
  | .dat (.tuple ds) => C (.dat (.tuple (cutD ds lo hi))) S
  | .dat (.str z) => z.length ≤ 100000 ∧ C (.dat (.str (cutS z lo hi))) S
  | _ => False
def dSl (f : Option Int → Option Int → F1) (da : DE) (dl dh : DO) : DE := fun fr S C => da fr S fun a S1 => dl fr S1 fun lo S2 => dh fr S2 fun hi S3 => f lo hi a S3 C
def SlD (K : Fg) (r : V → Option Int → Option Int → Hp → VK → Prop) (f : Option Int → Option Int → F1) : Prop := ∀ (F : SH) (x : V) (lo hi : Option Int) (a : R) (H : Hp) (S : SH) (L : Live) (C : CR0) (Q : VK), OkF K F H S L → (x, a) ∈ L → f lo hi a S C →
  (∀ v c S' H', OkF K F H' S' ((v, c) :: L) → C c S' → Q v H') → r x lo hi H Q
theorem lift_sl {r : V → Option Int → Option Int → Hp → VK → Prop} {f : Option Int → Option Int → F1} {ta : TE} {tl th : TO} {da : DE} {dl dh : DO} (h : SlD K r f) (la : Lift K ta da) (ll : LiftO K tl dl) (lh : LiftO K th dh) : Lift K (tSl r ta tl th) (dSl f da dl dh) := by
  intro F H σ fr S L fo o C Q hd q
  refine la F H σ fr S L fo o _ _ hd fun x a S1 H1 o1 h1 => ?_
  refine ll F H1 σ fr S1 _ (fo.mono tl_mem) o1 _ _ h1 fun lo S2 H2 o2 h2 => ?_
  refine lh F H2 σ fr S2 _ (fo.mono tl_mem) o2 _ _ h2 fun hi S3 H3 o3 h3 => ?_
  exact h F x lo hi a H3 S3 _ C Q o3 List.mem_cons_self h3 fun v c S4 H4 o4 h4 => q v c S4 H4 (o4.sub (sub_cons tl_mem)) h4
def rSlAll (K : Fg) : V → Option Int → Option Int → Hp → VK → Prop := fun x lo hi H Q => rSlL K x lo hi H Q ∨ rSlA K x lo hi H Q ∨ rSlS x lo hi H Q
theorem sl_all {X : Cx} : SlR X (rSlAll X.K) := sl_list.or (sl_tupA.or sl_str)
theorem cutD_whole {α : Type} {xs : List α} {lo hi : Option Int} (h : HT.sIx xs.length 0 lo = 0 ∧ HT.sIx xs.length xs.length hi = xs.length) : cutD xs lo hi = xs := by
  unfold cutD
  rw [h.1, h.2]
  simp
theorem sld_all : SlD K (rSlAll K) fSl := by
  intro F x lo hi a H S L C Q o hx hf q
  replace hx := o.live _ hx
  unfold fSl at hf
  split at hf
  · cases hx with | lst h1 n1 q1 =>
    exact .inl ⟨_, _, rfl, SqL.of h1, fun p hp => q _ _ S _ (o.lst hp (cut_all q1 lo hi)) hf⟩
  · cases hx with | tup h1 q1 =>
    refine .inr (.inl ⟨_, _, rfl, sqT_of (A := Av S) h1, fun w => ?_, fun _ p hp => q _ _ S _ (o.tup hp (cut_all q1 lo hi)) hf⟩)
    rw [q1.length] at w
    rw [cutD_whole w] at hf
    exact q _ _ S H (o.pd (.tup h1 q1)) hf
  · cases hx
    exact .inr (.inr ⟨_, rfl, big_of hf.1, q _ _ S H (o.pd (.str _)) hf.2⟩)
  · exact hf.elim
def dNoPart : DO := fun _ S C => C none S
def dPart (d : DE) : DO := fun fr S C => d fr S fun a S1 => match a with
  | .dat (.int i) => C (some i) S1
  | _ => False
theorem lift_noPart : LiftO K tNoPart dNoPart := fun F H σ fr S L fo o C Q hd q => q none S H o hd
theorem lift_part {ta : TE} {da : DE} (la : Lift K ta da) : LiftO K (tPart ta) (dPart da) := by
  intro F H σ fr S L fo o C Q hd q
  refine la F H σ fr S L fo o _ _ hd fun x a S1 H1 o1 h1 => ?_
  split at h1
  · rename_i i
    cases rep_int_inv (o1.dat List.mem_cons_self)
    exact ⟨i, rfl, q _ S1 H1 (o1.sub tl_mem) h1⟩
  · exact h1.elim

/-! ### calls of built-ins by values -/
abbrev FA := List R → SH → CR0 → Prop
def CallD (K : Fg) (r : List V → Hp → VK → Prop) (f : FA) : Prop := ∀ (F : SH) (vs : List V) (rs : List R) (H : Hp) (S : SH) (L : Live) (C : CR0) (Q : VK), OkF K F H S L → Lives L vs rs → f rs S C →
  (∀ v c S' H', OkF K F H' S' ((v, c) :: L) → C c S' → Q v H') → r vs H Q
def dCB (f : FA) (da : DA) : DE := fun fr S C => da fr S fun rs S1 => f rs S1 C
theorem lift_cb {r : List V → Hp → VK → Prop} {f : FA} {ta : TA} {da : DA} (h : CallD K r f) (la : LiftA K ta da) : Lift K (tCB r ta) (dCB f da) := by
  intro F H σ fr S L fo o C Q hd q
  refine la F H σ fr S L fo o _ _ hd fun vs rs S1 H1 L1 o1 hs lv h1 => ?_
  exact h F vs rs H1 S1 L1 C Q o1 lv h1 fun v c S2 H2 o2 h2 => q v c S2 H2 (o2.sub (sub_cons hs)) h2
def dNil : DA := fun _ S C => C [] S
def dCons (d : DE) (da : DA) : DA := fun fr S C => d fr S fun a S1 => da fr S1 fun rs S2 => C (a :: rs) S2
theorem lift_nil : LiftA K tNil dNil := fun F H σ fr S L fo o C Q hd q => q [] [] S H L o (fun _ h => h) .nil hd
theorem lift_cons {te : TE} {de : DE} {ta : TA} {da : DA} (l : Lift K te de) (la : LiftA K ta da) : LiftA K (tCons te ta) (dCons de da) := by
  intro F H σ fr S L fo o C Q hd q
  refine l F H σ fr S L fo o _ _ hd fun x a S1 H1 o1 h1 => ?_
  refine la F H1 σ fr S1 _ (fo.mono tl_mem) o1 _ _ h1 fun vs rs S2 H2 L2 o2 hs lv h2 => ?_
  exact q (x :: vs) (a :: rs) S2 H2 L2 o2 (fun e he => hs e (List.mem_cons_of_mem _ he)) (.cons (hs _ List.mem_cons_self) lv) h2
/-! ### displays -/
def dTup (da : DA) : DE := fun fr S C => da fr S fun rs S1 => rs.length ≤ 100000 ∧ ∃ ds, dats rs = some ds ∧ C (.dat (.tuple ds)) S1
def dLst (da : DA) : DE := fun fr S C => da fr S fun rs S1 => rs.length ≤ 100000 ∧ ∃ ds, dats rs = some ds ∧ C (.dat (.list ds)) S1
def dLstC (da : DA) : DE := fun fr S C => da fr S fun rs S1 => rs.length ≤ 100000 ∧ ∀ p, C (.val (.ref p)) (.lst p rs :: S1)
def dTp (da : DA) : DE := fun fr S C => da fr S fun rs S1 => rs.length ≤ 100000 ∧ C (.tp rs) S1
theorem lift_tp {ta : TA} {da : DA} (la : LiftA K ta da) : Lift K (tTup ta) (dTp da) := by
  intro F H σ fr S L fo o C Q hd q
  refine la F H σ fr S L fo o _ _ hd fun vs rs S1 H1 L1 o1 hs lv h1 => ?_
  obtain ⟨hl, h⟩ := h1
  exact ⟨by rw [paired_len lv]; exact big_of hl, fun p hp => q _ _ S1 _ ((Ok.push (r := .tp rs) (o1.new hp) ⟨p, vs, rfl, .inl upd_same, RepRl.of ((o1.reps lv).stp (stp_new hp))⟩).sub (sub_cons hs)) h⟩
theorem lift_tup {ta : TA} {da : DA} (la : LiftA K ta da) : Lift K (tTup ta) (dTup da) := by
  intro F H σ fr S L fo o C Q hd q
  refine la F H σ fr S L fo o _ _ hd fun vs rs S1 H1 L1 o1 hs lv h1 => ?_
  obtain ⟨hl, ds, e, h⟩ := h1
  exact ⟨by rw [paired_len lv]; exact big_of hl, fun p hp => q _ _ S1 _ ((o1.tup hp (o1.all lv e)).sub (sub_cons hs)) h⟩
theorem lift_lst {ta : TA} {da : DA} (la : LiftA K ta da) : Lift K (tLst ta) (dLst da) := by
  intro F H σ fr S L fo o C Q hd q
  refine la F H σ fr S L fo o _ _ hd fun vs rs S1 H1 L1 o1 hs lv h1 => ?_
  obtain ⟨hl, ds, e, h⟩ := h1
  exact ⟨by rw [paired_len lv]; exact big_of hl, fun p hp => q _ _ S1 _ ((o1.lst hp (o1.all lv e)).sub (sub_cons hs)) h⟩
theorem lift_lstC {ta : TA} {da : DA} (la : LiftA K ta da) : Lift K (tLst ta) (dLstC da) := by
  intro F H σ fr S L fo o C Q hd q
  refine la F H σ fr S L fo o _ _ hd fun vs rs S1 H1 L1 o1 hs lv h1 => ?_
  obtain ⟨hl, h⟩ := h1
  refine ⟨by rw [paired_len lv]; exact big_of hl, fun p hp => q _ _ (.lst p rs :: S1) _ (((Ok.push (r := .val (.ref p)) (o1.lstC hp (o1.reps lv)) rfl)).sub (sub_cons hs)) (h p)⟩
/-! ### tests -/
def dTest (d : DE) : DT := fun fr S C => d fr S fun a S1 => match a with
  | .dat (.bool k) => C k S1
  | _ => False
theorem lift_test {t : TE} {d : DE} (l : Lift K t d) : LiftT K (tTest t) (dTest d) := by
  intro F H σ fr S L fo o C Q hd q
  refine l F H σ fr S L fo o _ _ hd fun x a S1 H1 o1 h1 => ?_
  split at h1
  · rename_i k
    have e : x = .bl k := by cases (o1.dat List.mem_cons_self); rfl
    exact ⟨k, e, q k S1 H1 (o1.sub tl_mem) h1⟩
  · exact h1.elim
theorem lift_testB {t : TE} {d : DE} (l : Lift K t d) : LiftT K (tB t) (dTest d) := lift_test l
def dAnd (t u : DT) : DT := fun fr S C => t fr S fun c S1 => if c = true then u fr S1 C else C false S1
def dOr (t u : DT) : DT := fun fr S C => t fr S fun c S1 => if c = true then C true S1 else u fr S1 C
def dNot (t : DT) : DT := fun fr S C => t fr S fun c S1 => C (!c) S1
theorem lift_and {t u : TT} {dt du : DT} (l : LiftT K t dt) (l2 : LiftT K u du) : LiftT K (tAnd t u) (dAnd dt du) := by
  intro F H σ fr S L fo o C Q hd q
  refine l F H σ fr S L fo o _ _ hd fun c S1 H1 o1 h1 => ?_
  cases c with
  | true => exact l2 F H1 σ fr S1 L fo o1 C Q h1 q
  | false => exact q false S1 H1 o1 h1
theorem lift_or {t u : TT} {dt du : DT} (l : LiftT K t dt) (l2 : LiftT K u du) : LiftT K (tOr t u) (dOr dt du) := by
  intro F H σ fr S L fo o C Q hd q
  refine l F H σ fr S L fo o _ _ hd fun c S1 H1 o1 h1 => ?_
  cases c with
  | true => exact q true S1 H1 o1 h1
  | false => exact l2 F H1 σ fr S1 L fo o1 C Q h1 q
theorem lift_not {t : TT} {dt : DT} (l : LiftT K t dt) : LiftT K (tNot t) (dNot dt) := by
  intro F H σ fr S L fo o C Q hd q
  exact l F H σ fr S L fo o _ _ hd fun c S1 H1 o1 h1 => q (!c) S1 H1 o1 h1
/-- .. as values -/
def dAndV (a b : DE) : DE := fun fr S C => a fr S fun x S1 => match x with
  | .dat (.bool c) => if c = true then b fr S1 C else C (.dat (.bool false)) S1
  | _ => False
def dOrV (a b : DE) : DE := fun fr S C => a fr S fun x S1 => match x with
  | .dat (.bool c) => if c = true then C (.dat (.bool true)) S1 else b fr S1 C
  | _ => False
def dNotV (a : DE) : DE := fun fr S C => a fr S fun x S1 => match x with
  | .dat (.bool c) => C (.dat (.bool (!c))) S1
  | _ => False
theorem rep_bool_inv {A : Addr → Prop} {H : Hp} {v : V} {i : Bool} (h : Rep K A H v (.bool i)) : v = .bl i := by cases h; rfl
theorem lift_andV {ta tb : TE} {da db : DE} (la : Lift K ta da) (lb : Lift K tb db) : Lift K (tAndV ta tb) (dAndV da db) := by
  intro F H σ fr S L fo o C Q hd q
  refine la F H σ fr S L fo o _ _ hd fun x a S1 H1 o1 h1 => ?_
  split at h1
  · rename_i c
    refine ⟨c, rep_bool_inv (o1.dat List.mem_cons_self), ?_⟩
    cases c with
    | true => exact lb F H1 σ fr S1 L fo (o1.sub tl_mem) C Q h1 q
    | false => exact q _ _ S1 H1 ((o1.sub tl_mem).pd (.bl _)) h1
  · exact h1.elim
theorem lift_orV {ta tb : TE} {da db : DE} (la : Lift K ta da) (lb : Lift K tb db) : Lift K (tOrV ta tb) (dOrV da db) := by
  intro F H σ fr S L fo o C Q hd q
  refine la F H σ fr S L fo o _ _ hd fun x a S1 H1 o1 h1 => ?_
  split at h1
  · rename_i c
    refine ⟨c, rep_bool_inv (o1.dat List.mem_cons_self), ?_⟩
    cases c with
    | false => exact lb F H1 σ fr S1 L fo (o1.sub tl_mem) C Q h1 q
    | true => exact q _ _ S1 H1 ((o1.sub tl_mem).pd (.bl _)) h1
  · exact h1.elim
theorem lift_notV {ta : TE} {da : DE} (la : Lift K ta da) : Lift K (tNotV ta) (dNotV da) := by
  intro F H σ fr S L fo o C Q hd q
  refine la F H σ fr S L fo o _ _ hd fun x a S1 H1 o1 h1 => ?_
  split at h1
  · rename_i c
    exact ⟨c, rep_bool_inv (o1.dat List.mem_cons_self), q _ _ S1 H1 ((o1.sub tl_mem).pd (.bl _)) h1⟩
  · exact h1.elim
def dIf (t : DT) (a b : DE) : DE := fun fr S C => t fr S fun c S1 => if c = true then a fr S1 C else b fr S1 C
theorem lift_if {t : TT} {dt : DT} {ta tb : TE} {da db : DE} (l : LiftT K t dt) (la : Lift K ta da) (lb : Lift K tb db) : Lift K (tIf t ta tb) (dIf dt da db) := by
  intro F H σ fr S L fo o C Q hd q
  refine l F H σ fr S L fo o _ _ hd fun c S1 H1 o1 h1 => ?_
  cases c with
  | true => exact la F H1 σ fr S1 L fo o1 C Q h1 q
  | false => exact lb F H1 σ fr S1 L fo o1 C Q h1 q
/-- a < b < c -/
def dChain (f g : F2) (da db dc : DE) : DE := fun fr S C => da fr S fun a S1 => db fr S1 fun b S2 => f a b S2 fun z S3 => match z with
  | .dat (.bool k) => if k = true then dc fr S3 fun c S4 => g b c S4 C else C (.dat (.bool false)) S3
  | _ => False
theorem lift_chain {r r' : R2} {f g : F2} {ta tb tc : TE} {da db dc : DE} (h : OpD K r f) (h' : OpD K r' g) (la : Lift K ta da) (lb : Lift K tb db) (lc : Lift K tc dc) : Lift K (tChain r r' ta tb tc) (dChain f g da db dc) := by
  intro F H σ fr S L fo o C Q hd q
  refine la F H σ fr S L fo o _ _ hd fun x a S1 H1 o1 h1 => ?_
  refine lb F H1 σ fr S1 _ (fo.mono tl_mem) o1 _ _ h1 fun y b S2 H2 o2 h2 => ?_
  refine h F x y a b H2 S2 _ _ _ o2 (List.mem_cons_of_mem _ List.mem_cons_self) List.mem_cons_self h2 fun z c S3 H3 o3 h3 => ?_
  have o3' := o3.sub tl_mem
  split at h3
  · rename_i k
    refine ⟨k, rep_bool_inv (o3.dat List.mem_cons_self), ?_⟩
    cases k with
    | false => exact q _ _ S3 H3 ((o3'.pd (.bl false)).sub (sub_cons fun e he => List.mem_cons_of_mem _ (List.mem_cons_of_mem _ he))) h3
    | true =>
      refine lc F H3 σ fr S3 _ (fo.mono fun e he => List.mem_cons_of_mem _ (List.mem_cons_of_mem _ he)) o3' _ _ h3 fun w d S4 H4 o4 h4 => ?_
      exact h' F y w b d H4 S4 _ C Q o4 (List.mem_cons_of_mem _ List.mem_cons_self) List.mem_cons_self h4 fun v e S5 H5 o5 h5 =>
        q v e S5 H5 (o5.sub (sub_cons fun e he => List.mem_cons_of_mem _ (List.mem_cons_of_mem _ (List.mem_cons_of_mem _ he)))) h5
  · exact h3.elim
end

/-! ### the rules -/
section
variable {X : Cx} {a b c e f : Expr} {da db dc de df : DE} {dA : DA} {dt du : DT} {dl dh : DO} {pos : Pos} {es : List Expr}
theorem dv (i : Nat) {x : Str} {pos : Pos} (hN : X.N[i]? = some x := by rfl) (hv : Vis X.env.scope x := by first | exact Or.inl rfl | exact Or.inr (Or.inl rfl) | exact Or.inr (Or.inr rfl)) (hd : (x == ("__debug__" : Str)) = false := by decide)
    (hcd : (x == ("__classdict__" : Str)) = false := by decide) : PD X (.Name x pos) (dVar i) := ⟨_, pe_var hN hv hd hcd, lift_var i⟩
theorem d_int {i : Int} {j : Nat} : PD X (.Constant (.int i) j pos) (dC (.dat (.int i))) := ⟨_, pe_int, lift_c fun _ _ => .int i⟩
theorem d_bl {i : Bool} {j : Nat} : PD X (.Constant (.bool i) j pos) (dC (.dat (.bool i))) := ⟨_, pe_bl, lift_c fun _ _ => .bl i⟩
theorem d_non {j : Nat} : PD X (.Constant .none j pos) (dC (.dat .none)) := ⟨_, pe_non, lift_c fun _ _ => .non⟩
theorem d_str {i : Str} {j : Nat} : PD X (.Constant (.str i) j pos) (dC (.dat (.str i))) := ⟨_, pe_str, lift_c fun _ _ => .str i⟩
/-- a module's constant -/
theorem d_globI {x : Str} {i : Int} {t : Tok} (hg : Gl X x) (hm : X.mg x = some (.int i t)) (hd : (x == ("__debug__" : Str)) = false := by decide) : PD X (.Name x pos) (dC (.dat (.int i))) := ⟨_, pe_glob (v := .int i) hg hm ⟨_, rfl⟩ hd, lift_c fun _ _ => .int i⟩
theorem d_globS {x : Str} {i : Str} {t : Tok} (hg : Gl X x) (hm : X.mg x = some (.str i t)) (hd : (x == ("__debug__" : Str)) = false := by decide) : PD X (.Name x pos) (dC (.dat (.str i))) := ⟨_, pe_glob (v := .str i) hg hm ⟨_, rfl⟩ hd, lift_c fun _ _ => .str i⟩
theorem d_globV {x : Str} {v : V} {u : Value} (hg : Gl X x) (hm : X.mg x = some u) (r : RelV v u) (hd : (x == ("__debug__" : Str)) = false := by decide) : PD X (.Name x pos) (dC (.val v)) := ⟨_, pe_glob hg hm r hd, lift_c fun _ _ => rfl⟩
theorem d_bltn {x : Str} {v : V} {u : Value} (hg : Gl X x) (hm : X.mg x = none) (hv : bootBuiltins x = some u) (r : RelV v u) (hn : x ≠ "__name__" := by decide) (hd : (x == ("__debug__" : Str)) = false := by decide) : PD X (.Name x pos) (dC (.val v)) := ⟨_, pe_bltn hg hm hv r hn hd, lift_c fun _ _ => rfl⟩
theorem d_opG {op : Operator} {r : R2} {f : F2} (ho : OpR X (binaryOp op) r) (hd : OpD X.K r f) (ha : PD X a da) (hb : PD X b db) : PD X (.BinOp a op b pos) (dOp f da db) := by
  obtain ⟨_, pa, la⟩ := ha.ex
  obtain ⟨_, pb, lb⟩ := hb.ex
  exact ⟨_, pe_op ho pa pb, lift_op hd la lb⟩
theorem d_add (ha : PD X a da) (hb : PD X b db) : PD X (.BinOp a .Add b pos) (dOp fAdd da db) := d_opG op_addAll opd_add ha hb
theorem d_sub (ha : PD X a da) (hb : PD X b db) : PD X (.BinOp a .Sub b pos) (dOp (fI0 fun i j => .int (i - j)) da db) := d_opG op_sub (opd_I0 fun _ _ _ _ => .int _) ha hb
theorem d_mul (ha : PD X a da) (hb : PD X b db) : PD X (.BinOp a .Mult b pos) (dOp fMul da db) := d_opG op_mulAll opd_mul ha hb
theorem d_mulC (ha : PD X a da) (hb : PD X b db) : PD X (.BinOp a .Mult b pos) (dOp fMulC da db) := d_opG op_mulAll opd_mulC ha hb
theorem d_mod (ha : PD X a da) (hb : PD X b db) : PD X (.BinOp a .Mod b pos) (dOp (fI (fun _ j => 0 < j) fun i j => .int (i % j)) da db) := d_opG op_mod (opd_I (fun _ _ h => h) fun _ _ _ _ => .int _) ha hb
theorem d_fdiv (ha : PD X a da) (hb : PD X b db) : PD X (.BinOp a .FloorDiv b pos) (dOp (fI CDivW fun i j => .int (i / j)) da db) := d_opG op_fdivW (opd_I (fun _ _ h => h) fun _ _ _ _ => .int _) ha hb
theorem d_pow (ha : PD X a da) (hb : PD X b db) : PD X (.BinOp a .Pow b pos) (dOp (fI CPow fun i j => .int (i ^ j.toNat)) da db) := d_opG op_pow (opd_I (fun _ _ h => h) fun _ _ _ _ => .int _) ha hb
def fNeg : F1 := fun a S C => match a with
  | .dat (.int i) => C (.dat (.int (-i))) S
  | _ => False
def dUn (f : F1) (da : DE) : DE := fun fr S C => da fr S fun a S1 => f a S1 C
theorem d_neg (ha : PD X a da) : PD X (.UnaryOp .USub a pos) (dUn fNeg da) := by
  obtain ⟨_, pa, la⟩ := ha.ex
  refine ⟨_, pe_un un_neg pa, ?_⟩
  intro F H σ fr S L fo o C Q hd q
  refine la F H σ fr S L fo o _ _ hd fun x a S1 H1 o1 h1 => ?_
  unfold fNeg at h1
  split at h1
  · cases rep_int_inv (o1.dat List.mem_cons_self)
    exact ⟨_, rfl, q _ _ S1 H1 ((o1.sub tl_mem).pd (.int _)) h1⟩
  · exact h1.elim
/-! comparisons -/
theorem d_cmpG {op : CmpOp} {r : R2} {f : F2} (ho : OpR X (compareOp op) r) (hd : OpD X.K r f) (ha : PD X a da) (hb : PD X b db) (hm : behindInMarks op b = false) : PD X (.Compare a [op] [b] pos) (dOp f da db) := by
  obtain ⟨_, pa, la⟩ := ha.ex
  obtain ⟨_, pb, lb⟩ := hb.ex
  exact ⟨_, pe_cmpR ho pa pb hm, lift_op hd la lb⟩
theorem t_cmpG {op : CmpOp} {r : R2} {f : F2} (ho : OpR X (compareOp op) r) (hd : OpD X.K r f) (ha : PD X a da) (hb : PD X b db) (hm : behindInMarks op b = false) : PDT X (.Compare a [op] [b] pos) (dTest (dOp f da db)) := by
  obtain ⟨_, pa, la⟩ := ha.ex
  obtain ⟨_, pb, lb⟩ := hb.ex
  exact ⟨_, pt_cmpR ho pa pb hm, lift_test (lift_op hd la lb)⟩
abbrev fLt : F2 := fI0 fun i j => .bool (decide (i < j))
abbrev fLe : F2 := fI0 fun i j => .bool (decide (i ≤ j))
abbrev fGt : F2 := fI0 fun i j => .bool (decide (j < i))
abbrev fGe : F2 := fI0 fun i j => .bool (decide (j ≤ i))
theorem opd_lt {K : Fg} : OpD K (rI0 fun i j => .bl (decide (i < j))) fLt := opd_I0 fun _ _ _ _ => .bl _
theorem opd_le {K : Fg} : OpD K (rI0 fun i j => .bl (decide (i ≤ j))) fLe := opd_I0 fun _ _ _ _ => .bl _
theorem opd_gt {K : Fg} : OpD K (rI0 fun i j => .bl (decide (j < i))) fGt := opd_I0 fun _ _ _ _ => .bl _
theorem opd_ge {K : Fg} : OpD K (rI0 fun i j => .bl (decide (j ≤ i))) fGe := opd_I0 fun _ _ _ _ => .bl _
theorem d_lt (ha : PD X a da) (hb : PD X b db) : PD X (.Compare a [.Lt] [b] pos) (dOp fLt da db) := d_cmpG op_lt opd_lt ha hb (nomark _)
theorem d_le (ha : PD X a da) (hb : PD X b db) : PD X (.Compare a [.LtE] [b] pos) (dOp fLe da db) := d_cmpG op_le opd_le ha hb (nomark _)
theorem d_gt (ha : PD X a da) (hb : PD X b db) : PD X (.Compare a [.Gt] [b] pos) (dOp fGt da db) := d_cmpG op_gt opd_gt ha hb (nomark _)
theorem d_ge (ha : PD X a da) (hb : PD X b db) : PD X (.Compare a [.GtE] [b] pos) (dOp fGe da db) := d_cmpG op_ge opd_ge ha hb (nomark _)
theorem d_eq (hu : X.A.units + 64 < cLine) (ha : PD X a da) (hb : PD X b db) : PD X (.Compare a [.Eq] [b] pos) (dOp fEq da db) := d_cmpG (op_eqAll hu) opd_eq ha hb (nomark _)
theorem d_ne (hu : X.A.units + 64 < cLine) (ha : PD X a da) (hb : PD X b db) : PD X (.Compare a [.NotEq] [b] pos) (dOp fNe da db) := d_cmpG (op_neAll hu) opd_ne ha hb (nomark _)
theorem d_isN (ha : PD X a da) (hb : PD X b db) : PD X (.Compare a [.Is] [b] pos) (dOp fIsN da db) := d_cmpG op_isN opd_isN ha hb (nomark _)
theorem d_notN (ha : PD X a da) (hb : PD X b db) : PD X (.Compare a [.IsNot] [b] pos) (dOp fNotN da db) := d_cmpG op_notN opd_notN ha hb (nomark _)
theorem d_in (ha : PD X a da) (hb : PD X b db) (hm : behindInMarks .In b = false := by rfl) : PD X (.Compare a [.In] [b] pos) (dOp (fIn false) da db) := d_cmpG op_in_seq opd_in ha hb hm
theorem d_notIn (ha : PD X a da) (hb : PD X b db) (hm : behindInMarks .NotIn b = false := by rfl) : PD X (.Compare a [.NotIn] [b] pos) (dOp (fIn true) da db) := d_cmpG op_notIn_seq opd_in ha hb hm
theorem t_lt (ha : PD X a da) (hb : PD X b db) : PDT X (.Compare a [.Lt] [b] pos) (dTest (dOp fLt da db)) := t_cmpG op_lt opd_lt ha hb (nomark _)
theorem t_le (ha : PD X a da) (hb : PD X b db) : PDT X (.Compare a [.LtE] [b] pos) (dTest (dOp fLe da db)) := t_cmpG op_le opd_le ha hb (nomark _)
theorem t_gt (ha : PD X a da) (hb : PD X b db) : PDT X (.Compare a [.Gt] [b] pos) (dTest (dOp fGt da db)) := t_cmpG op_gt opd_gt ha hb (nomark _)
theorem t_ge (ha : PD X a da) (hb : PD X b db) : PDT X (.Compare a [.GtE] [b] pos) (dTest (dOp fGe da db)) := t_cmpG op_ge opd_ge ha hb (nomark _)
theorem t_eq (hu : X.A.units + 64 < cLine) (ha : PD X a da) (hb : PD X b db) : PDT X (.Compare a [.Eq] [b] pos) (dTest (dOp fEq da db)) := t_cmpG (op_eqAll hu) opd_eq ha hb (nomark _)
theorem t_ne (hu : X.A.units + 64 < cLine) (ha : PD X a da) (hb : PD X b db) : PDT X (.Compare a [.NotEq] [b] pos) (dTest (dOp fNe da db)) := t_cmpG (op_neAll hu) opd_ne ha hb (nomark _)
theorem t_isN (ha : PD X a da) (hb : PD X b db) : PDT X (.Compare a [.Is] [b] pos) (dTest (dOp fIsN da db)) := t_cmpG op_isN opd_isN ha hb (nomark _)
theorem t_notN (ha : PD X a da) (hb : PD X b db) : PDT X (.Compare a [.IsNot] [b] pos) (dTest (dOp fNotN da db)) := t_cmpG op_notN opd_notN ha hb (nomark _)
theorem t_in (ha : PD X a da) (hb : PD X b db) (hm : behindInMarks .In b = false := by rfl) : PDT X (.Compare a [.In] [b] pos) (dTest (dOp (fIn false) da db)) := t_cmpG op_in_seq opd_in ha hb hm
theorem t_notIn (ha : PD X a da) (hb : PD X b db) (hm : behindInMarks .NotIn b = false := by rfl) : PDT X (.Compare a [.NotIn] [b] pos) (dTest (dOp (fIn true) da db)) := t_cmpG op_notIn_seq opd_in ha hb hm
theorem d_leLe (ha : PD X a da) (hb : PD X b db) (hc : PD X c dc) (hm : lastMarks [.LtE, .LtE] [b, c] = false := by with_unfolding_all rfl) : PD X (.Compare a [.LtE, .LtE] [b, c] pos) (dChain fLe fLe da db dc) := by
  obtain ⟨_, pa, la⟩ := ha.ex
  obtain ⟨_, pb, lb⟩ := hb.ex
  obtain ⟨_, pc, lc⟩ := hc.ex
  exact ⟨_, pe_chain op_le op_le pa pb pc hm, lift_chain opd_le opd_le la lb lc⟩
theorem d_leLt (ha : PD X a da) (hb : PD X b db) (hc : PD X c dc) (hm : lastMarks [.LtE, .Lt] [b, c] = false := by with_unfolding_all rfl) : PD X (.Compare a [.LtE, .Lt] [b, c] pos) (dChain fLe fLt da db dc) := by
  obtain ⟨_, pa, la⟩ := ha.ex
  obtain ⟨_, pb, lb⟩ := hb.ex
  obtain ⟨_, pc, lc⟩ := hc.ex
  exact ⟨_, pe_chain op_le op_lt pa pb pc hm, lift_chain opd_le opd_lt la lb lc⟩
theorem t_leLe (ha : PD X a da) (hb : PD X b db) (hc : PD X c dc) (hm : lastMarks [.LtE, .LtE] [b, c] = false := by with_unfolding_all rfl) : PDT X (.Compare a [.LtE, .LtE] [b, c] pos) (dTest (dChain fLe fLe da db dc)) := by
  obtain ⟨_, pa, la⟩ := ha.ex
  obtain ⟨_, pb, lb⟩ := hb.ex
  obtain ⟨_, pc, lc⟩ := hc.ex
  exact ⟨_, pt_chain op_le op_le pa pb pc hm, lift_test (lift_chain opd_le opd_le la lb lc)⟩
theorem t_leLt (ha : PD X a da) (hb : PD X b db) (hc : PD X c dc) (hm : lastMarks [.LtE, .Lt] [b, c] = false := by with_unfolding_all rfl) : PDT X (.Compare a [.LtE, .Lt] [b, c] pos) (dTest (dChain fLe fLt da db dc)) := by
  obtain ⟨_, pa, la⟩ := ha.ex
  obtain ⟨_, pb, lb⟩ := hb.ex
  obtain ⟨_, pc, lc⟩ := hc.ex
  exact ⟨_, pt_chain op_le op_lt pa pb pc hm, lift_test (lift_chain opd_le opd_lt la lb lc)⟩
theorem t_ltLe (ha : PD X a da) (hb : PD X b db) (hc : PD X c dc) (hm : lastMarks [.Lt, .LtE] [b, c] = false := by with_unfolding_all rfl) : PDT X (.Compare a [.Lt, .LtE] [b, c] pos) (dTest (dChain fLt fLe da db dc)) := by
  obtain ⟨_, pa, la⟩ := ha.ex
  obtain ⟨_, pb, lb⟩ := hb.ex
  obtain ⟨_, pc, lc⟩ := hc.ex
  exact ⟨_, pt_chain op_lt op_le pa pb pc hm, lift_test (lift_chain opd_lt opd_le la lb lc)⟩
/-! tests -/
theorem t_val (h : PD X e de) (he : ∀ whole, isTrue e X.env whole = (do let v ← whole; standAt e.pos; holding [v] (truthy v)) := by intro _; rfl) : PDT X e (dTest de) := by
  obtain ⟨_, p, l⟩ := h.ex
  exact ⟨_, pt_val p he, lift_testB l⟩
theorem PDW.pt (h : PDW X e dt) : PDT X e dt := by
  obtain ⟨_, p, l⟩ := h.ex
  exact ⟨_, p.pt, l⟩
theorem w_and1 (ha : PDT X a dt) : PDW X (.BoolOp .And [a] pos) dt := by
  obtain ⟨_, p, l⟩ := ha.ex
  exact ⟨_, pw_and1 p, l⟩
theorem w_or1 (ha : PDT X a dt) : PDW X (.BoolOp .Or [a] pos) dt := by
  obtain ⟨_, p, l⟩ := ha.ex
  exact ⟨_, pw_or1 p, l⟩
theorem w_and {rest : List Expr} (ha : PDT X a dt) (hb : PDW X (.BoolOp .And (b :: rest) pos) du) : PDW X (.BoolOp .And (a :: b :: rest) pos) (dAnd dt du) := by
  obtain ⟨_, p, l⟩ := ha.ex
  obtain ⟨_, p2, l2⟩ := hb.ex
  exact ⟨_, pw_and p p2, lift_and l l2⟩
theorem w_or {rest : List Expr} (ha : PDT X a dt) (hb : PDW X (.BoolOp .Or (b :: rest) pos) du) : PDW X (.BoolOp .Or (a :: b :: rest) pos) (dOr dt du) := by
  obtain ⟨_, p, l⟩ := ha.ex
  obtain ⟨_, p2, l2⟩ := hb.ex
  exact ⟨_, pw_or p p2, lift_or l l2⟩
theorem t_not (ha : PDT X a dt) : PDT X (.UnaryOp .Not a pos) (dNot dt) := by
  obtain ⟨_, p, l⟩ := ha.ex
  exact ⟨_, pt_not p, lift_not l⟩
theorem d_one {op : BoolOp} (ha : PD X a da) : PD X (.BoolOp op [a] pos) da := by
  obtain ⟨_, p, l⟩ := ha.ex
  exact ⟨_, pe_one p, l⟩
theorem d_and {rest : List Expr} (ha : PD X a da) (hb : PD X (.BoolOp .And (b :: rest) pos) db) : PD X (.BoolOp .And (a :: b :: rest) pos) (dAndV da db) := by
  obtain ⟨_, p, l⟩ := ha.ex
  obtain ⟨_, p2, l2⟩ := hb.ex
  exact ⟨_, pe_and p p2, lift_andV l l2⟩
theorem d_or {rest : List Expr} (ha : PD X a da) (hb : PD X (.BoolOp .Or (b :: rest) pos) db) : PD X (.BoolOp .Or (a :: b :: rest) pos) (dOrV da db) := by
  obtain ⟨_, p, l⟩ := ha.ex
  obtain ⟨_, p2, l2⟩ := hb.ex
  exact ⟨_, pe_or p p2, lift_orV l l2⟩
theorem d_not (ha : PD X a da) : PD X (.UnaryOp .Not a pos) (dNotV da) := by
  obtain ⟨_, p, l⟩ := ha.ex
  exact ⟨_, pe_not p, lift_notV l⟩
theorem d_if (hc : PDT X c dt) (ha : PD X a da) (hb : PD X b db) : PD X (.IfExp c a b pos) (dIf dt da db) := by
  obtain ⟨_, p, l⟩ := hc.ex
  obtain ⟨_, pa, la⟩ := ha.ex
  obtain ⟨_, pb, lb⟩ := hb.ex
  exact ⟨_, pe_ifExp p pa pb, lift_if l la lb⟩
/-! subscripts, slices, displays -/
theorem d_ix (hu : X.A.units + 1 < cLine) (ha : PD X a da) (hb : PD X b db) (hs : PlainIx b := by exact fun _ _ => rfl) : PD X (.Subscript a b pos) (dOp fIx da db) := by
  obtain ⟨_, pa, la⟩ := ha.ex
  obtain ⟨_, pb, lb⟩ := hb.ex
  exact ⟨_, pe_ix (ix_all hu) pa pb hs, lift_op opd_ix la lb⟩
theorem o_none : PDO X none dNoPart := ⟨_, po_none, lift_noPart⟩
theorem o_some (h : PD X e de) : PDO X (some e) (dPart de) := by
  obtain ⟨_, p, l⟩ := h.ex
  exact ⟨_, po_some p, lift_part l⟩
theorem d_slice {lo hi : Option Expr} {p2 : Pos} (ha : PD X a da) (hl : PDO X lo dl) (hh : PDO X hi dh) : PD X (.Subscript a (.Slice lo hi none p2) pos) (dSl fSl da dl dh) := by
  obtain ⟨_, p, l⟩ := ha.ex
  obtain ⟨_, p2, l2⟩ := hl.ex
  obtain ⟨_, p3, l3⟩ := hh.ex
  exact ⟨_, pe_slice sl_all p p2 p3, lift_sl sld_all l l2 l3⟩
theorem a_nil : PDA X [] dNil := ⟨_, pa_nil, lift_nil⟩
theorem a_cons (h : PD X e de) (hr : PDA X es dA) (hs : starEach (e :: es) X.env = (false, eval e X.env) :: starEach es X.env := by rfl) : PDA X (e :: es) (dCons de dA) := by
  obtain ⟨_, p, l⟩ := h.ex
  obtain ⟨_, p2, l2⟩ := hr.ex
  exact ⟨_, pa_cons p p2 hs, lift_cons l l2⟩
theorem d_tup {x1} (h : PDA X es dA) : PD X (.Tuple es x1 pos) (dTup dA) := by
  obtain ⟨_, p, l⟩ := h.ex
  exact ⟨_, pe_tup p, lift_tup l⟩
theorem d_tp {x1} (h : PDA X es dA) : PD X (.Tuple es x1 pos) (dTp dA) := by
  obtain ⟨_, p, l⟩ := h.ex
  exact ⟨_, pe_tup p, lift_tp l⟩
theorem d_lst (h : PDA X es dA) : PD X (.List es pos) (dLst dA) := by
  obtain ⟨_, p, l⟩ := h.ex
  exact ⟨_, pe_lst p, lift_lst l⟩
theorem d_lstC (h : PDA X es dA) : PD X (.List es pos) (dLstC dA) := by
  obtain ⟨_, p, l⟩ := h.ex
  exact ⟨_, pe_lst p, lift_lstC l⟩
theorem d_callB {id : String} {x : Str} {p : Pos} {r : List V → Hp → VK → Prop} {f : FA} (hc : CallR X (.builtin id) r) (hd : CallD X.K r f) (hg : Gl X x) (hm : X.mg x = none) (hv : bootBuiltins x = some (.builtin id)) (ha : PDA X (e :: es) dA) (hn : x ≠ "__name__" := by decide) (hdb : (x == ("__debug__" : Str)) = false := by decide)
    (he : starEach (e :: es) X.env = (false, eval e X.env) :: starEach es X.env := by rfl) (hpl : (backTo pos (starEach es X.env)).any (·.1) = false := by rfl) :
    PD X (.Call (.Name x p) (e :: es) [] pos) (dCB f dA) := by
  obtain ⟨_, pa, la⟩ := ha.ex
  exact ⟨_, pe_callB hc hg hm hv pa hn hdb he hpl, lift_cb hd la⟩
theorem d_callTy {T : String} {x : Str} {p : Pos} {r : List V → Hp → VK → Prop} {f : FA} (hc : CallR X (.type T) r) (hd : CallD X.K r f) (hg : Gl X x) (hm : X.mg x = none) (hv : bootBuiltins x = some (.type T)) (ha : PDA X (e :: es) dA) (hn : x ≠ "__name__" := by decide) (hdb : (x == ("__debug__" : Str)) = false := by decide)
    (he : starEach (e :: es) X.env = (false, eval e X.env) :: starEach es X.env := by rfl) (hpl : (backTo pos (starEach es X.env)).any (·.1) = false := by rfl) :
    PD X (.Call (.Name x p) (e :: es) [] pos) (dCB f dA) := by
  obtain ⟨_, pa, la⟩ := ha.ex
  exact ⟨_, pe_callTy hc hg hm hv pa hn hdb he hpl, lift_cb hd la⟩
end
end DL
set_option Elab.async false
set_option linter.all false
set_option maxRecDepth 100000
set_option maxHeartbeats 4000000
/-! DL, third part: statements, loops, comprehensions, calls of defs. -/
namespace DL
open PySem PySem.Spec PyProof.Rows L2

section
variable {K : Fg}
/-! ### canonical readings -/
def toTE (K : Fg) (de : DE) : TE := fun σ H Q => ∃ (F : SH) (fr : Fr) (S : SH) (L : Live) (C : CR0), FrOk σ fr L ∧ OkF K F H S L ∧ de fr S C ∧ ∀ v r S' H', OkF K F H' S' ((v, r) :: L) → C r S' → Q v H'
theorem lift_to (de : DE) : Lift K (toTE K de) de := fun F H σ fr S L f o C Q hd q => ⟨F, fr, S, L, C, f, o, hd, q⟩
def toTT (K : Fg) (dt : DT) : TT := fun σ H Q => ∃ (F : SH) (fr : Fr) (S : SH) (L : Live) (C : Bool → SH → Prop), FrOk σ fr L ∧ OkF K F H S L ∧ dt fr S C ∧ ∀ b S' H', OkF K F H' S' L → C b S' → Q b H'
theorem liftT_to (dt : DT) : LiftT K (toTT K dt) dt := fun F H σ fr S L f o C Q hd q => ⟨F, fr, S, L, C, f, o, hd, q⟩
theorem PD.pe {X : Cx} {e : Expr} {de : DE} (h : PD X e de) : PE X e (toTE X.K de) := by
  obtain ⟨te, p, l⟩ := h.ex
  exact ⟨fun pins s σ H Q I ⟨F, fr, S, L, C, f, o, hd, q⟩ => p.run pins s σ H Q I (l F H σ fr S L f o C Q hd q)⟩
theorem PDT.pt {X : Cx} {e : Expr} {dt : DT} (h : PDT X e dt) : PT X e (toTT X.K dt) := by
  obtain ⟨te, p, l⟩ := h.ex
  exact ⟨fun pins s σ H Q I ⟨F, fr, S, L, C, f, o, hd, q⟩ => p.run pins s σ H Q I (l F H σ fr S L f o C Q hd q)⟩

/-! ### blocks and simple statements -/
def sNext : DS := fun D fr S => D.nx fr S
def sSeq (t u : DS) : DS := fun D fr S => t { D with nx := u D } fr S
def sBreak : DS := fun D fr S => D.bk fr S
def sCont : DS := fun D fr S => D.ct fr S
def sDrop (d : DE) : DS := fun D fr S => d fr S fun _ S1 => D.nx fr S1
def sRet (d : DE) : DS := fun D fr S => d fr S D.rt
def sRetN : DS := fun D _ S => D.rt (.dat .none) S
def sIf (t : DT) (a b : DS) : DS := fun D fr S => t fr S fun c S1 => if c = true then a D fr S1 else b D fr S1
def sNever : DS := fun _ _ _ => False
theorem lift_next : LiftS K tNext sNext := fun F H σ fr S L f o D D' e h => e.nx σ fr S H L f o (fun _ z => z) h
theorem lift_brk : LiftS K tBreak sBreak := fun F H σ fr S L f o D D' e h => e.bk σ fr S H L f o (fun _ z => z) h
theorem lift_cnt : LiftS K tCont sCont := fun F H σ fr S L f o D D' e h => e.ct σ fr S H L f o (fun _ z => z) h
theorem lift_never : LiftS K tNever sNever := fun F H σ fr S L f o D D' e h => h.elim
theorem lift_seq {t u : TS} {dt du : DS} (l : LiftS K t dt) (l2 : LiftS K u du) : LiftS K (tSeq t u) (sSeq dt du) := fun F H σ fr S L f o D D' e h =>
  l F H σ fr S L f o { D with nx := u D } { D' with nx := du D' } ⟨fun σ' fr' S' H' L' f' o' s' h' => l2 F H' σ' fr' S' L' f' o' D D' (e.mono s') h', e.rt, e.bk, e.ct⟩ h
theorem lift_drop {t : TE} {d : DE} (l : Lift K t d) : LiftS K (tDrop t) (sDrop d) := fun F H σ fr S L f o D D' e h =>
  l F H σ fr S L f o _ _ h fun v r S' H' o' h' => e.nx σ fr S' H' L f (o'.sub tl_mem) (fun _ z => z) h'
theorem lift_ret {t : TE} {d : DE} (l : Lift K t d) : LiftS K (tRet t) (sRet d) := fun F H σ fr S L f o D D' e h =>
  l F H σ fr S L f o _ _ h fun v r S' H' o' h' => e.rt v r S' H' o' h'
theorem lift_retN : LiftS K tRetN sRetN := fun F H σ fr S L f o D D' e h => e.rt _ _ S H (o.pd .non) h
theorem lift_ifS {t : TT} {dt : DT} {a b : TS} {da db : DS} (l : LiftT K t dt) (la : LiftS K a da) (lb : LiftS K b db) : LiftS K (tIfS t a b) (sIf dt da db) := fun F H σ fr S L f o D D' e h => by
  refine l F H σ fr S L f o _ _ h fun c S' H' o' h' => ?_
  cases c with
  | true => exact la F H' σ fr S' L f o' D D' e h'
  | false => exact lb F H' σ fr S' L f o' D D' e h'
/-! ### targets -/
def gnm (i : Nat) : DG := fun r fr S C => C (fr.set i (some r)) S
theorem lift_name (i : Nat) : LiftG K (gName i) (gnm i) := fun F H σ fr S L v r f o m C Q h q => q _ _ S H L (f.set m i) o (fun _ z => z) h
def gNl : DGs := fun rs fr S C => rs = [] ∧ C fr S
def gCn (t : DG) (u : DGs) : DGs := fun rs fr S C => match rs with
  | r :: rs => t r fr S fun fr' S' => u rs fr' S' C
  | [] => False
theorem lift_gnil : LiftGs K gNil gNl := fun F H σ fr S L vs rs f o m C Q h q => by
  obtain ⟨rfl, h⟩ := h
  cases m
  exact ⟨rfl, q σ fr S H L f o (fun _ z => z) h⟩
theorem lift_gcons {t : TG} {u : TGs} {dt : DG} {du : DGs} (l : LiftG K t dt) (l2 : LiftGs K u du) : LiftGs K (gCons t u) (gCn dt du) := fun F H σ fr S L vs rs f o m C Q h q => by
  cases m with
  | nil => exact h.elim
  | cons m1 m2 =>
    refine ⟨_, _, rfl, ?_⟩
    refine l F H σ fr S L _ _ f o m1 _ _ h fun σ1 fr1 S1 H1 L1 f1 o1 s1 h1 => ?_
    exact l2 F H1 σ1 fr1 S1 L1 _ _ f1 o1 (Lives.mono s1 m2) _ _ h1 fun σ2 fr2 S2 H2 L2 f2 o2 s2 h2 => q σ2 fr2 S2 H2 L2 f2 o2 (fun z hz => s2 z (s1 z hz)) h2
def gTp (n : Nat) (t : DGs) : DG := fun r fr S C => match r with
  | .dat (.tuple ds) => ds.length = n ∧ t (ds.map R.dat) fr S C
  | .tp rs => rs.length = n ∧ t rs fr S C
  | _ => False
theorem push_all {H : Hp} {S : SH} {L : Live} (o : Ok K H S L) : ∀ {vs : List V} {ds : List PyData}, RepAll K (Av S) H vs ds → ∃ L', Ok K H S L' ∧ (∀ e ∈ L, e ∈ L') ∧ Lives L' vs (ds.map R.dat)
  | _, _, .nil => ⟨L, o, fun _ z => z, .nil⟩
  | _, _, .cons h t => by
    obtain ⟨L', o', s', lv⟩ := push_all o t
    exact ⟨_, o'.pd h, fun e he => List.mem_cons_of_mem _ (s' e he), .cons List.mem_cons_self (Lives.mono tl_mem lv)⟩
theorem push_rs {H : Hp} {S : SH} {L : Live} (o : Ok K H S L) : ∀ {vs : List V} {rs : List R}, RepRs K (Av S) H vs rs → ∃ L', Ok K H S L' ∧ (∀ e ∈ L, e ∈ L') ∧ Lives L' vs rs
  | _, _, .nil => ⟨L, o, fun _ z => z, .nil⟩
  | _, _, .cons h t => by
    obtain ⟨L', o', s', lv⟩ := push_rs o t
    exact ⟨_, o'.push h, fun e he => List.mem_cons_of_mem _ (s' e he), .cons List.mem_cons_self (Lives.mono tl_mem lv)⟩
theorem lift_gtup {n : Nat} {t : TGs} {dt : DGs} (l : LiftGs K t dt) : LiftG K (gTup K n t) (gTp n dt) := fun F H σ fr S L v r f o m C Q h q => by
  unfold gTp at h
  split at h
  · obtain ⟨hn, h⟩ := h
    have hr := o.dat m
    cases hr with | tup h1 q1 =>
    obtain ⟨L', o', s', lv⟩ := push_all o q1
    refine ⟨_, _, rfl, sqT_of (A := Av S) h1, q1.length.trans hn, ?_⟩
    exact l F H σ fr S L' _ _ (f.mono s') o' lv _ _ h fun σ1 fr1 S1 H1 L1 f1 o1 s1 h1 => q σ1 fr1 S1 H1 L1 f1 o1 (fun e he => s1 e (s' e he)) h1
  · rename_i rs
    obtain ⟨hn, h⟩ := h
    obtain ⟨a, vs, rfl, h1, q1⟩ := (show ∃ a vs, v = .ref a ∧ (H a = some (.tup vs) ∨ KTup K a vs) ∧ RepRl K _ H vs rs from o.live _ m)
    obtain ⟨L', o', s', lv⟩ := push_rs o q1.pair
    refine ⟨_, _, rfl, sqT_of (A := Av S) h1, (paired_len lv).trans hn, ?_⟩
    exact l F H σ fr S L' _ _ (f.mono s') o' lv _ _ h fun σ1 fr1 S1 H1 L1 f1 o1 s1 h1 => q σ1 fr1 S1 H1 L1 f1 o1 (fun e he => s1 e (s' e he)) h1
  · exact h.elim
def sAsg (d : DE) (g : DG) : DS := fun D fr S => d fr S fun r S1 => g r fr S1 D.nx
theorem lift_asg {t : TE} {d : DE} {g : TG} {dg : DG} (l : Lift K t d) (lg : LiftG K g dg) : LiftS K (tAsg t g) (sAsg d dg) := fun F H σ fr S L f o D D' e h => by
  refine l F H σ fr S L f o _ _ h fun v r S1 H1 o1 h1 => ?_
  exact lg F H1 σ fr S1 _ v r (f.mono tl_mem) o1 List.mem_cons_self _ _ h1 fun σ2 fr2 S2 H2 L2 f2 o2 s2 h2 => e.nx σ2 fr2 S2 H2 L2 f2 o2 (fun z hz => s2 z (List.mem_cons_of_mem _ hz)) h2
/-- a, b = x, y -/
def sPar (i j : Nat) (da : DA) : DS := fun D fr S => da fr S fun rs S1 => match rs with
  | [r, q] => D.nx ((fr.set i (some r)).set j (some q)) S1
  | _ => False
theorem lift_par {i j : Nat} {ta : TA} {da : DA} (l : LiftA K ta da) : LiftS K (tPar i j ta) (sPar i j da) := fun F H σ fr S L f o D D' e h => by
  refine l F H σ fr S L f o _ _ h fun vs rs S1 H1 L1 o1 s1 lv h1 => ?_
  split at h1
  · cases lv with | cons m1 t => cases t with | cons m2 t2 =>
    cases t2
    exact ⟨_, _, rfl, e.nx _ _ S1 H1 L1 (((f.mono s1).set m1 i).set m2 j) o1 s1 h1⟩
  · exact h1.elim
/-! ### o[i] = e -/
def gSb (dO di : DE) (f : R → R → R → SH → (SH → Prop) → Prop) : DG := fun r fr S C => dO fr S fun a S1 => di fr S1 fun b S2 => f a b r S2 fun S3 => C fr S3
/-- kvs with k bound to r -/
def putR (kvs : List (Key × R)) (k : Key) (r : R) : List (Key × R) := if kvs.any (fun kv => decide (kv.1 = k)) then kvs.map (fun kv => if kv.1 = k then (kv.1, r) else kv) else kvs ++ [(k, r)]
def fSet : R → R → R → SH → (SH → Prop) → Prop := fun a b r S C => match a, b with
  | .val (.ref p), .dat (.int i) => (∃ (j : Nat) (xs : List R) (m : Nat), S[j]? = some (.lst p xs) ∧ ixN xs.length i = some m ∧ C (S.set j (.lst p (xs.set m r)))) ∨
      ∃ (j : Nat) (kvs : List (Key × R)), S[j]? = some (.dct p kvs) ∧ kvs.length < 100000 ∧ C (S.set j (.dct p (putR kvs (Sum.inl i) r)))
  | .val (.ref p), .dat (.str x) => ∃ (j : Nat) (kvs : List (Key × R)), S[j]? = some (.dct p kvs) ∧ kvs.length < 100000 ∧ C (S.set j (.dct p (putR kvs (Sum.inr x) r)))
  | _, _ => False
def rSetAll : TSet := fun o i v H Q => rSetL o i v H Q ∨ ∃ a H', o = .ref a ∧ DPut H a i v H' ∧ Q H'
theorem paired_set {α β : Type} {P : α → β → Prop} {x : α} {y : β} (r : P x y) : ∀ {xs : List α} {us : List β} (i : Nat), Paired P xs us → Paired P (xs.set i x) (us.set i y)
  | _, _, _, .nil => .nil
  | _, _, 0, .cons _ t => .cons r t
  | _, _, i + 1, .cons q t => .cons q (paired_set r i t)
theorem paired_app {α β : Type} {P : α → β → Prop} : ∀ {xs ys : List α} {us ws : List β}, Paired P xs us → Paired P ys ws → Paired P (xs ++ ys) (us ++ ws)
  | _, _, _, _, .nil, s => s
  | _, _, _, _, .cons r t, s => .cons r (paired_app t s)
theorem any_kv {P : V → R → Prop} (k : Key) : ∀ {kws : List (Key × V)} {kvs : List (Key × R)}, Paired (fun (a : Key × V) (b : Key × R) => a.1 = b.1 ∧ P a.2 b.2) kws kvs → (kws.any fun kv => decide (kv.1 = k)) = kvs.any fun kv => decide (kv.1 = k)
  | _, _, .nil => rfl
  | a :: as, b :: bs, .cons ⟨h1, h2⟩ t => by rw [List.any_cons, List.any_cons, any_kv k t, h1]
theorem map_kv {P : V → R → Prop} {v : V} {r : R} (k : Key) (h : P v r) : ∀ {kws : List (Key × V)} {kvs : List (Key × R)}, Paired (fun (a : Key × V) (b : Key × R) => a.1 = b.1 ∧ P a.2 b.2) kws kvs →
    Paired (fun (a : Key × V) (b : Key × R) => a.1 = b.1 ∧ P a.2 b.2) (kws.map fun kv => if kv.1 = k then (kv.1, v) else kv) (kvs.map fun kv => if kv.1 = k then (kv.1, r) else kv)
  | _, _, .nil => .nil
  | a :: as, b :: bs, .cons ⟨h1, h2⟩ t => by
    rw [List.map_cons, List.map_cons]
    refine .cons ?_ (map_kv k h t)
    by_cases hk : b.1 = k
    · rw [if_pos hk, if_pos (h1.trans hk)]; exact ⟨h1, h⟩
    · rw [if_neg hk, if_neg (fun z => hk (h1.symm.trans z))]; exact ⟨h1, h2⟩
theorem put_kv {P : V → R → Prop} {v : V} {r : R} (k : Key) (h : P v r) {kws : List (Key × V)} {kvs : List (Key × R)} (q : Paired (fun (a : Key × V) (b : Key × R) => a.1 = b.1 ∧ P a.2 b.2) kws kvs) :
    Paired (fun (a : Key × V) (b : Key × R) => a.1 = b.1 ∧ P a.2 b.2) (putK kws k v) (putR kvs k r) := by
  unfold putK putR
  rw [any_kv k q]
  split
  · exact map_kv k h q
  · exact paired_app q (.cons ⟨rfl, h⟩ .nil)
theorem lift_gsub {to ti : TE} {dO di : DE} (lo : Lift K to dO) (li : Lift K ti di) : LiftG K (gSub to ti rSetAll) (gSb dO di fSet) := fun F H σ fr S L v r f o m C Q h q => by
  refine lo F H σ fr S L f o _ _ h fun a ra S1 H1 o1 h1 => ?_
  refine li F H1 σ fr S1 _ (f.mono tl_mem) o1 _ _ h1 fun b rb S2 H2 o2 h2 => ?_
  have ha := o2.live (a, ra) (List.mem_cons_of_mem _ List.mem_cons_self)
  have hb := o2.live (b, rb) List.mem_cons_self
  have hv := o2.live (v, r) (List.mem_cons_of_mem _ (List.mem_cons_of_mem _ m))
  have sb : ∀ e ∈ L, e ∈ (b, rb) :: (a, ra) :: L := fun e he => List.mem_cons_of_mem _ (List.mem_cons_of_mem _ he)
  unfold fSet at h2
  split at h2
  · rename_i p i
    cases (show a = V.ref p from ha)
    cases rep_int_inv hb
    rcases h2 with ⟨j, xs, mm, hj, em, h2⟩ | ⟨j, kvs, hj, hl, h2⟩
    · obtain ⟨vs, e1, q1⟩ := o2.cells _ (at_split (in_app hj))
      refine .inl ⟨p, vs, i, mm, rfl, rfl, e1, by rw [paired_len q1]; exact em, ?_⟩
      have o3 := o2.putL (in_app hj) (paired_set (P := RepR K (Av (S2 ++ F)) H2) hv mm q1)
      rw [set_app hj] at o3
      exact q _ _ _ _ _ (f.mono sb) o3 sb h2
    · obtain ⟨vs, e1, q1⟩ := o2.cells _ (at_split (in_app hj))
      refine .inr ⟨p, _, rfl, DPut.k (k := Sum.inl i) e1 (by rw [paired_len q1]; exact big_lt hl), ?_⟩
      have o3 := o2.put (u := .dK (putK vs (Sum.inl i) v)) (c' := .dct p (putR kvs (Sum.inl i) r)) (in_app hj) rfl rfl e1 True.intro ⟨_, upd_same, Paired.mapP (put_kv (P := RepR K (Av (S2 ++ F)) H2) (Sum.inl i) hv q1) fun _ _ z => ⟨z.1, z.2.stp (stp_upd e1 (pt_at (in_app hj)) True.intro)⟩⟩
      rw [set_app hj] at o3
      exact q _ _ _ _ _ (f.mono sb) o3 sb h2
  · rename_i p x
    cases (show a = V.ref p from ha)
    cases hb
    obtain ⟨j, kvs, hj, hl, h2⟩ := h2
    obtain ⟨vs, e1, q1⟩ := o2.cells _ (at_split (in_app hj))
    refine .inr ⟨p, _, rfl, DPut.k (k := Sum.inr x) e1 (by rw [paired_len q1]; exact big_lt hl), ?_⟩
    have o3 := o2.put (u := .dK (putK vs (Sum.inr x) v)) (c' := .dct p (putR kvs (Sum.inr x) r)) (in_app hj) rfl rfl e1 True.intro ⟨_, upd_same, Paired.mapP (put_kv (P := RepR K (Av (S2 ++ F)) H2) (Sum.inr x) hv q1) fun _ _ z => ⟨z.1, z.2.stp (stp_upd e1 (pt_at (in_app hj)) True.intro)⟩⟩
    rw [set_app hj] at o3
    exact q _ _ _ _ _ (f.mono sb) o3 sb h2
  · exact h2.elim
/-! ### what is walked -/
def ItOk (K : Fg) (J : It) (items : List R) (L : Live) : Prop := ∀ (H : Hp) (T : SH) (L' : Live), Ok K H T L' → (∀ e ∈ L, e ∈ L') → ∀ i : Nat, (∀ r, items[i]? = some r → J.go i H ∧ ∀ x H', J.yld i H x H' → Ok K H' T ((x, r) :: L')) ∧ (items.length = i → J.stop i H)
abbrev DI := Fr → SH → (List R → SH → Prop) → Prop
def LiftI (K : Fg) (wi : TI) (di : DI) : Prop := ∀ (F : SH) (H : Hp) (σ : L2.St) (fr : Fr) (S : SH) (L : Live), FrOk σ fr L → OkF K F H S L → ∀ (C : List R → SH → Prop) (Rr : It → Hp → Prop), di fr S C →
  (∀ J items S' H' L', OkF K F H' S' L' → (∀ e ∈ L, e ∈ L') → ItOk K J items L' → C items S' → Rr J H') → wi σ H Rr
structure PDI (X : Cx) (tg iter : Expr) (di : DI) : Prop where
  ex : ∃ wi, PI X tg iter wi ∧ LiftI X.K wi di
def iSrc (d : DE) : DI := fun fr S C => d fr S fun a S1 => match a with
  | .dat (.list ds) => C (ds.map R.dat) S1
  | .dat (.tuple ds) => C (ds.map R.dat) S1
  | .dat (.str z) => C (z.cps.toList.map fun c => R.dat (.str ⟨#[c]⟩)) S1
  | .scr ns => C (ns.map fun n => R.dat (.int n)) S1
  | _ => False
theorem it_list {a : Addr} {ds : List PyData} {L : Live} (m : (V.ref a, R.dat (.list ds)) ∈ L) : ItOk K (Itl K a) (ds.map R.dat) L := fun H T L' o s i => by
  have hr := o.dat (s _ m)
  cases hr with | @lst _ xs _ h1 n1 q1 =>
  refine ⟨fun r e => ?_, fun hl => ⟨xs, SqL.of h1, by rw [q1.length]; simpa using Nat.le_of_eq hl⟩⟩
  rw [List.getElem?_map] at e
  cases e1 : ds[i]? with
  | none => rw [e1] at e; cases e
  | some d =>
    rw [e1] at e
    cases e
    obtain ⟨v, ev, rv⟩ := q1.get' e1
    refine ⟨⟨xs, v, SqL.of h1, ev⟩, fun x H' y => ?_⟩
    obtain ⟨rfl, y⟩ := y
    have := y xs (SqL.of h1)
    rw [ev] at this
    cases this
    exact o.pd rv
theorem it_tup {a : Addr} {ds : List PyData} {L : Live} (m : (V.ref a, R.dat (.tuple ds)) ∈ L) : ItOk K (Itt K a) (ds.map R.dat) L := fun H T L' o s i => by
  have hr := o.dat (s _ m)
  cases hr with | @tup _ xs _ h1 q1 =>
  have hq : SqT K H a xs := sqT_of (A := Av T) h1
  refine ⟨fun r e => ?_, fun hl => ⟨xs, hq, by rw [q1.length]; simpa using Nat.le_of_eq hl⟩⟩
  rw [List.getElem?_map] at e
  cases e1 : ds[i]? with
  | none => rw [e1] at e; cases e
  | some d =>
    rw [e1] at e
    cases e
    obtain ⟨v, ev, rv⟩ := q1.get' e1
    refine ⟨⟨xs, v, hq, ev⟩, fun x H' y => ?_⟩
    obtain ⟨rfl, y⟩ := y
    have := y xs hq
    rw [ev] at this
    cases this
    exact o.pd rv
theorem it_scr {a : Addr} {ns : List Int} {L : Live} (m : (V.ref a, R.scr ns) ∈ L) : ItOk K (Itl K a) (ns.map fun n => R.dat (.int n)) L := fun H T L' o s i => by
  obtain ⟨a', ea, h1⟩ := (show ∃ a', V.ref a = .ref a' ∧ ScrAt K H a' (ns.map V.int) from o.live _ (s _ m))
  cases ea
  have hq : SqL K H a (ns.map V.int) := h1.sq
  refine ⟨fun r e => ?_, fun hl => ⟨_, hq, by simpa using Nat.le_of_eq hl⟩⟩
  rw [List.getElem?_map] at e
  cases e1 : ns[i]? with
  | none => rw [e1] at e; cases e
  | some d =>
    rw [e1] at e
    cases e
    have ev : (ns.map V.int)[i]? = some (.int d) := by rw [List.getElem?_map, e1]; rfl
    refine ⟨⟨_, _, hq, ev⟩, fun x H' y => ?_⟩
    obtain ⟨rfl, y⟩ := y
    have := y _ hq
    rw [ev] at this
    cases this
    exact o.pd (.int d)
theorem it_str {z : Str} {L : Live} : ItOk K (Its z) (z.cps.toList.map fun c => R.dat (.str ⟨#[c]⟩)) L := fun H T L' o s i => by
  refine ⟨fun r e => ?_, fun hl => show z.cps.size ≤ i by simpa using Nat.le_of_eq hl⟩
  rw [List.getElem?_map] at e
  cases e1 : z.cps.toList[i]? with
  | none => rw [e1] at e; cases e
  | some d =>
    rw [e1] at e
    cases e
    have h1 : z.cps[i]? = some d := by simpa using e1
    obtain ⟨hl, _⟩ := Array.getElem?_eq_some_iff.mp h1
    refine ⟨hl, fun x H' y => ?_⟩
    obtain ⟨rfl, c, ec, rfl⟩ := y
    rw [h1] at ec
    cases ec
    exact o.pd (.str _)
def iAny (K : Fg) (tl : TE) : TI := fun σ H R => tl σ H fun x H1 => (∃ a, x = .ref a ∧ (∃ xs, SqL K H1 a xs) ∧ R (Itl K a) H1) ∨ (∃ a, x = .ref a ∧ (∃ xs, SqT K H1 a xs) ∧ R (Itt K a) H1) ∨ ∃ z, x = .str z ∧ R (Its z) H1
theorem pi_any {X : Cx} {tg l : Expr} {tl : TE} (hl : PE X l tl) : PI X tg l (iAny X.K tl) := by
  refine ⟨fun pins s σ H R I h => ?_⟩
  refine thn (hl.run pins s σ H _ I h) fun v s1 ⟨x, H1, I1, r1, q1⟩ => ?_
  rcases q1 with ⟨a, e, ⟨xs, hq⟩, q⟩ | ⟨a, e, ⟨xs, hq⟩, q⟩ | ⟨z, e, q⟩
  · subst e
    cases r1
    obtain ⟨its, rv, p, hz⟩ := I1.list hq
    refine wpAny_pyIter_list p.isList ?_
    refine ⟨s1.heap.objs.size, [s1.heap.objs.size], _, _, H1, rfl, I1.kept (t' := s1.toks) fun b o e => Heap.get?_push_of_some _ e, turn_list a _, ⟨_, Heap.get?_push_size _ rfl, rfl, rfl⟩, fun b hb => ?_, q⟩
    have e : b = s1.heap.objs.size := by simpa using hb
    subst e
    exact I1.fpOk (Nat.le_refl _) (I1.hok.fresh (Nat.le_refl _))
  · subst e
    cases r1
    obtain ⟨its, rv, p, hz⟩ := I1.tuple hq
    refine wpAny_pyIter_tuple (show s1.heap.IsTuple a its.toArray from p) ?_
    refine ⟨s1.heap.objs.size, [s1.heap.objs.size], _, _, H1, rfl, I1.kept (t' := s1.toks) fun b o e => Heap.get?_push_of_some _ e, turn_tuple a _, ⟨_, Heap.get?_push_size _ rfl, rfl, rfl⟩, fun b hb => ?_, q⟩
    have e : b = s1.heap.objs.size := by simpa using hb
    subst e
    exact I1.fpOk (Nat.le_refl _) (I1.hok.fresh (Nat.le_refl _))
  · subst e
    obtain ⟨t, rfl⟩ := r1
    cases ha : z.cps.all (· < 128)
    · exact wpAny_pyIter_wide ha (pi_one (tk := s1.toks) I1 _ (turn_str _ z t "str_iterator" (.inr rfl)) ⟨_, Heap.get?_push_size _ rfl, rfl, rfl⟩ q)
    · exact wpAny_pyIter_ascii ha (pi_one (tk := s1.toks) I1 _ (turn_str _ z t "str_ascii_iterator" (.inl rfl)) ⟨_, Heap.get?_push_size _ rfl, rfl, rfl⟩ q)
theorem lift_src {t : TE} {d : DE} (l : Lift K t d) : LiftI K (iAny K t) (iSrc d) := fun F H σ fr S L f o C Rr h q => by
  refine l F H σ fr S L f o _ _ h fun x r S1 H1 o1 h1 => ?_
  have hr := o1.live _ List.mem_cons_self
  split at h1
  · cases hr with | lst e1 n1 q1 =>
    exact .inl ⟨_, rfl, ⟨_, SqL.of e1⟩, q _ _ S1 H1 _ o1 tl_mem (it_list List.mem_cons_self) h1⟩
  · cases hr with | tup e1 q1 =>
    exact .inr (.inl ⟨_, rfl, ⟨_, sqT_of (A := Av S1) e1⟩, q _ _ S1 H1 _ o1 tl_mem (it_tup List.mem_cons_self) h1⟩)
  · cases hr
    exact .inr (.inr ⟨_, rfl, q _ _ S1 H1 _ o1 tl_mem it_str h1⟩)
  · obtain ⟨a, rfl, e1⟩ := hr
    exact .inl ⟨_, rfl, ⟨_, e1.sq⟩, q _ _ S1 H1 _ o1 tl_mem (it_scr List.mem_cons_self) h1⟩
  · exact h1.elim
def rng (lo : Int) (n : Nat) : List R := (List.range n).map fun (i : Nat) => R.dat (.int (lo + (i : Int)))
theorem it_rng {lo : Int} {n : Nat} {L : Live} : ItOk K (Itr lo n) (rng lo n) L := fun H T L' o s i => by
  unfold rng
  refine ⟨fun r e => ?_, fun hl => show n ≤ i by simpa using Nat.le_of_eq hl⟩
  rw [List.getElem?_map] at e
  by_cases hi : i < n
  · rw [List.getElem?_range hi] at e
    cases e
    refine ⟨hi, fun x H' y => ?_⟩
    obtain ⟨rfl, rfl⟩ := y
    exact o.pd (.int _)
  · rw [List.getElem?_eq_none (by simpa using hi)] at e
    cases e
def iR1 (da : DA) : DI := fun fr S C => da fr S fun rs S1 => match rs with
  | [.dat (.int j)] => (-(2 ^ 62) ≤ j ∧ j < 2 ^ 62) ∧ C (rng 0 j.toNat) S1
  | _ => False
def iR2 (da : DA) : DI := fun fr S C => da fr S fun rs S1 => match rs with
  | [.dat (.int i), .dat (.int j)] => (-(2 ^ 62) ≤ i ∧ i < 2 ^ 62 ∧ -(2 ^ 62) ≤ j ∧ j < 2 ^ 62) ∧ C (rng i (j - i).toNat) S1
  | _ => False
/-- downwards by ones -/
def rngD (hi : Int) (n : Nat) : List R := (List.range n).map fun (i : Nat) => R.dat (.int (hi - (i : Int)))
def iR3 (da : DA) : DI := fun fr S C => da fr S fun rs S1 => match rs with
  | [.dat (.int i), .dat (.int j), .dat (.int k)] => (-(2 ^ 62) ≤ i ∧ i < 2 ^ 62 ∧ -(2 ^ 62) ≤ j ∧ j < 2 ^ 62) ∧ k = -1 ∧ C (rngD i (i - j).toNat) S1
  | _ => False
theorem lift_R1 {ta : TA} {da : DA} (l : LiftA K ta da) : LiftI K (iRng1 ta) (iR1 da) := fun F H σ fr S L f o C Rr h q => by
  refine l F H σ fr S L f o _ _ h fun vs rs S1 H1 L1 o1 s1 lv h1 => ?_
  split at h1
  · cases lv with | cons m t =>
    cases t
    cases rep_int_inv (o1.dat m)
    exact ⟨_, rfl, h1.1.1, h1.1.2, q _ _ S1 H1 L1 o1 s1 it_rng h1.2⟩
  · exact h1.elim
theorem lift_R2 {ta : TA} {da : DA} (l : LiftA K ta da) : LiftI K (iRng2 ta) (iR2 da) := fun F H σ fr S L f o C Rr h q => by
  refine l F H σ fr S L f o _ _ h fun vs rs S1 H1 L1 o1 s1 lv h1 => ?_
  split at h1
  · cases lv with | cons m t => cases t with | cons m2 t =>
    cases t
    cases rep_int_inv (o1.dat m)
    cases rep_int_inv (o1.dat m2)
    exact ⟨_, _, rfl, h1.1, q _ _ S1 H1 L1 o1 s1 it_rng h1.2⟩
  · exact h1.elim
theorem it_rngD {hi : Int} {n : Nat} {L : Live} : ItOk K (Itc hi (-1) n) (rngD hi n) L := fun H T L' o s i => by
  unfold rngD
  refine ⟨fun r e => ?_, fun hl => show n ≤ i by simpa using Nat.le_of_eq hl⟩
  rw [List.getElem?_map] at e
  by_cases hlt : i < n
  · rw [List.getElem?_range hlt] at e
    cases e
    refine ⟨hlt, fun x H' y => ?_⟩
    obtain ⟨rfl, rfl⟩ := y
    have e : hi + ((i : Nat) : Int) * -1 = hi - (i : Int) := by omega
    rw [e]
    exact o.pd (.int _)
  · rw [List.getElem?_eq_none (by simpa using hlt)] at e
    cases e
theorem lift_R3 {ta : TA} {da : DA} (l : LiftA K ta da) : LiftI K (iRng3 ta) (iR3 da) := fun F H σ fr S L f o C Rr h q => by
  refine l F H σ fr S L f o _ _ h fun vs rs S1 H1 L1 o1 s1 lv h1 => ?_
  split at h1
  · cases lv with | cons m t => cases t with | cons m2 t => cases t with | cons m3 t =>
    cases t
    cases rep_int_inv (o1.dat m)
    cases rep_int_inv (o1.dat m2)
    cases rep_int_inv (o1.dat m3)
    obtain ⟨⟨a1, a2, a3, a4⟩, rfl, h1⟩ := h1
    exact ⟨_, _, _, _, rfl, RgC.neg a1 a2 a3 a4, q _ _ S1 H1 L1 o1 s1 it_rngD h1⟩
  · exact h1.elim
/-- enumerate(list) -/
def enumD (ds : List PyData) : List R := (List.range ds.length).map fun (i : Nat) => R.dat (.tuple [.int (i : Int), ds.getD i .none])
def iEn (da : DA) : DI := fun fr S C => da fr S fun rs S1 => match rs with
  | [.dat (.list ds)] => C (enumD ds) S1
  | _ => False
theorem it_enum {a : Addr} {ds : List PyData} {L : Live} (m : (V.ref a, R.dat (.list ds)) ∈ L) : ItOk K (Ite K a) (enumD ds) L := fun H T L' o s i => by
  have hr := o.dat (s _ m)
  cases hr with | @lst _ xs _ h1 n1 q1 =>
  unfold enumD
  refine ⟨fun r e => ?_, fun hl => ⟨xs, SqL.of h1, by rw [q1.length]; simpa using Nat.le_of_eq hl⟩⟩
  rw [List.getElem?_map] at e
  by_cases hi : i < ds.length
  · rw [List.getElem?_range hi] at e
    cases e
    have e1 : ds[i]? = some ds[i] := List.getElem?_eq_getElem hi
    obtain ⟨v, ev, rv⟩ := q1.get' e1
    refine ⟨⟨xs, v, SqL.of h1, ev⟩, fun x H' y => ?_⟩
    obtain ⟨T', x', rfl, hT, rfl, y⟩ := y
    have := y xs (SqL.of h1)
    rw [ev] at this
    cases this
    have e2 : ds.getD i .none = ds[i] := by rw [List.getD_eq_getElem?_getD, e1]; rfl
    show Ok K _ T ((V.ref T', R.dat (.tuple [.int ((i : Nat) : Int), ds.getD i .none])) :: L')
    rw [e2]
    exact o.tup hT (.cons (.int _) (.cons rv .nil))
  · rw [List.getElem?_eq_none (by simpa using hi)] at e
    cases e
theorem lift_enum {ta : TA} {da : DA} (l : LiftA K ta da) : LiftI K (iEnum K ta) (iEn da) := fun F H σ fr S L f o C Rr h q => by
  refine l F H σ fr S L f o _ _ h fun vs rs S1 H1 L1 o1 s1 lv h1 => ?_
  split at h1
  · cases lv with | cons m t =>
    cases t
    have hr := o1.dat m
    cases hr with | lst e1 n1 q1 =>
    exact ⟨_, _, rfl, SqL.of e1, q _ _ S1 H1 L1 o1 s1 (it_enum m) h1⟩
  · exact h1.elim
/-! ### for -/
def sFor (di : DI) (dg : DG) (db : DS) : DS := fun D fr S => di fr S fun items S1 => ∃ I : Nat → Fr → SH → Prop, I 0 fr S1 ∧
  (∀ i r fr S, items[i]? = some r → I i fr S → dg r fr S fun fr2 S2 => db { D with nx := I (i + 1), ct := I (i + 1), bk := D.nx } fr2 S2) ∧ ∀ fr S, I items.length fr S → D.nx fr S
theorem lift_for {wi : TI} {di : DI} {g : TG} {dg : DG} {tb : TS} {db : DS} (li : LiftI K wi di) (lg : LiftG K g dg) (lb : LiftS K tb db) : LiftS K (tFor wi g tb) (sFor di dg db) := fun F H σ fr S L f o D D' e h => by
  refine li F H σ fr S L f o _ _ h fun J items S1 H1 L1 o1 s1 it h1 => ?_
  obtain ⟨I, i0, st, dn⟩ := h1
  refine ⟨fun i m σ H => m = items.length - i ∧ i ≤ items.length ∧ ∃ fr S L', FrOk σ fr L' ∧ OkF K F H S L' ∧ (∀ e ∈ L1, e ∈ L') ∧ I i fr S, ⟨items.length, by simp, Nat.zero_le _, fr, S1, L1, f.mono s1, o1, fun _ z => z, i0⟩, ?_⟩
  rintro i m σ2 H2 ⟨rfl, hi, fr2, S2, L2, f2, o2, s2, i2⟩
  obtain ⟨go, sp⟩ := it H2 (S2 ++ F) L2 o2 s2 i
  by_cases hlt : i < items.length
  · obtain ⟨hg, hy⟩ := go _ (List.getElem?_eq_getElem hlt)
    refine .inr ⟨hg, fun σ H => ∃ fr S L', FrOk σ fr L' ∧ OkF K F H S L' ∧ (∀ e ∈ L1, e ∈ L') ∧ I (i + 1) fr S, fun σ' H' n => ⟨items.length - (i + 1), by omega, rfl, hlt, n⟩, fun x H3 y => ?_⟩
    have o3 : OkF K F H3 S2 ((x, items[i]) :: L2) := hy x H3 y
    refine lg F H3 σ2 fr2 S2 _ x _ (f2.mono tl_mem) o3 List.mem_cons_self _ _ (st i _ fr2 S2 (List.getElem?_eq_getElem hlt) i2) fun σ4 fr4 S4 H4 L4 f4 o4 s4 h4 => ?_
    have s14 : ∀ e ∈ L1, e ∈ L4 := fun z hz => s4 z (List.mem_cons_of_mem _ (s2 z hz))
    have sL4 : ∀ e ∈ L, e ∈ L4 := fun z hz => s14 z (s1 z hz)
    refine lb F H4 σ4 fr4 S4 L4 f4 o4 _ { D' with nx := I (i + 1), ct := I (i + 1), bk := D'.nx } ⟨fun σ5 fr5 S5 H5 L5 f5 o5 s5 h5 => ⟨fr5, S5, L5, f5, o5, fun z hz => s5 z (s14 z hz), h5⟩, (e.mono sL4).rt, fun σ5 fr5 S5 H5 L5 f5 o5 s5 h5 => e.nx σ5 fr5 S5 H5 L5 f5 o5 (fun z hz => s5 z (sL4 z hz)) h5,
      fun σ5 fr5 S5 H5 L5 f5 o5 s5 h5 => ⟨fr5, S5, L5, f5, o5, fun z hz => s5 z (s14 z hz), h5⟩⟩ h4
  · have ei : i = items.length := by omega
    subst ei
    exact .inl ⟨sp rfl, e.nx σ2 fr2 S2 H2 L2 f2 o2 (fun z hz => s2 z (s1 z hz)) (dn fr2 S2 i2)⟩
/-! ### while -/
def sWhile (t : DT) (db : DS) : DS := fun D fr S => ∃ W : Nat → Fr → SH → Prop, (∃ m, W m fr S) ∧ ∀ m fr S, W m fr S → t fr S fun b S1 => if b = true then db { D with nx := fun fr S => ∃ m', m' < m ∧ W m' fr S, ct := fun fr S => ∃ m', m' < m ∧ W m' fr S, bk := D.nx } fr S1 else D.nx fr S1
theorem lift_while {t : TT} {dt : DT} {tb : TS} {db : DS} (lt : LiftT K t dt) (lb : LiftS K tb db) : LiftS K (tWhile t tb) (sWhile dt db) := fun F H σ fr S L f o D D' e h => by
  obtain ⟨W, ⟨m0, w0⟩, st⟩ := h
  refine ⟨fun m σ H => ∃ fr S L', FrOk σ fr L' ∧ OkF K F H S L' ∧ (∀ e ∈ L, e ∈ L') ∧ W m fr S, ⟨m0, fr, S, L, f, o, fun _ z => z, w0⟩, ?_⟩
  rintro m σ2 H2 ⟨fr2, S2, L2, f2, o2, s2, w2⟩
  refine lt F H2 σ2 fr2 S2 L2 f2 o2 _ _ (st m fr2 S2 w2) fun b S3 H3 o3 h3 => ?_
  cases b with
  | false => exact e.nx σ2 fr2 S3 H3 L2 f2 o3 s2 h3
  | true =>
    refine ⟨fun σ H => ∃ m', m' < m ∧ ∃ fr S L', FrOk σ fr L' ∧ OkF K F H S L' ∧ (∀ e ∈ L, e ∈ L') ∧ W m' fr S, fun σ' H' n => n, ?_⟩
    have nx : ∀ σ5 fr5 S5 H5 L5, FrOk σ5 fr5 L5 → OkF K F H5 S5 L5 → (∀ e ∈ L2, e ∈ L5) → (∃ m', m' < m ∧ W m' fr5 S5) → ∃ m', m' < m ∧ ∃ fr S L', FrOk σ5 fr L' ∧ OkF K F H5 S L' ∧ (∀ e ∈ L, e ∈ L') ∧ W m' fr S :=
      fun σ5 fr5 S5 H5 L5 f5 o5 s5 ⟨m', hm, h5⟩ => ⟨m', hm, fr5, S5, L5, f5, o5, fun z hz => s5 z (s2 z hz), h5⟩
    exact lb F H3 σ2 fr2 S3 L2 f2 o3 _ { D' with nx := fun fr S => ∃ m', m' < m ∧ W m' fr S, ct := fun fr S => ∃ m', m' < m ∧ W m' fr S, bk := D'.nx } ⟨nx, (e.mono s2).rt, fun σ5 fr5 S5 H5 L5 f5 o5 s5 h5 => e.nx σ5 fr5 S5 H5 L5 f5 o5 (fun z hz => s5 z (s2 z hz)) h5, nx⟩ h3
/-! ### comprehensions, one name -/
def dLcG (E : List R → SH → CR0 → Prop) (di : DI) (i : Nat) (dt : DT) (de : DE) : DE := fun fr S C => di fr S fun items S1 => ∃ I : Nat → List R → SH → Prop, I 0 [] S1 ∧
  (∀ k r acc S, items[k]? = some r → I k acc S → dt (fr.set i (some r)) S fun b S2 => if b = true then de (fr.set i (some r)) S2 fun y S3 => acc.length < 100000 ∧ I (k + 1) (acc ++ [y]) S3 else I (k + 1) acc S2) ∧
  ∀ acc S, I items.length acc S → E acc S C
def eDat : List R → SH → CR0 → Prop := fun acc S C => ∃ ds, dats acc = some ds ∧ C (.dat (.list ds)) S
def eCel : List R → SH → CR0 → Prop := fun acc S C => ∀ p, C (.val (.ref p)) (.lst p acc :: S)
abbrev dLc := dLcG eDat
abbrev dLcC := dLcG eCel
def EndD (K : Fg) (E : List R → SH → CR0 → Prop) : Prop := ∀ (F : SH) (H : Hp) (S : SH) (L : Live) (p : Addr) (acc : List R) (C : CR0), OkF K (.lst p acc :: F) H S L → E acc S C → ∃ r S', OkF K F H S' ((.ref p, r) :: L) ∧ C r S'
theorem mid_get {α : Type} {c : α} : ∀ (S F : List α), (S ++ c :: F)[S.length]? = some c := fun S F => by simp
theorem end_dat : EndD K eDat := fun F H S L p acc C o ⟨ds, e, h⟩ => by
  refine ⟨_, S, ?_, h⟩
  have o2 := o.frz (mid_get S F) e
  have e2 : (S ++ Cell.lst p acc :: F).eraseIdx S.length = S ++ F := by rw [List.eraseIdx_append_of_length_le (Nat.le_refl _)]; simp
  rw [e2] at o2
  exact o2
theorem end_cel : EndD K eCel := fun F H S L p acc C o h => ⟨.val (.ref p), .lst p acc :: S, Ok.push (o.perm List.perm_middle) rfl, h p⟩
theorem lift_lc {E : List R → SH → CR0 → Prop} (hE : EndD K E) {wi : TI} {di : DI} {tt : TT} {dt : DT} {te : TE} {de : DE} {i : Nat} (li : LiftI K wi di) (lt : LiftT K tt dt) (le : Lift K te de) : Lift K (tLc wi (gName i) tt te [i]) (dLcG E di i dt de) := fun F H σ fr S L f o C Q h q => by
  refine li F H σ fr S L f o _ _ h fun J items S1 H1 L1 o1 s1 it h1 D hD => ?_
  obtain ⟨I, i0, st, dn⟩ := h1
  have o0 : OkF K (.lst D [] :: F) (upd H1 D (.lst [])) S1 L1 := (o1.lstC hD .nil).perm List.perm_middle.symm
  refine ⟨fun k m H => m = items.length - k ∧ k ≤ items.length ∧ ∃ S acc L', OkF K (.lst D acc :: F) H S L' ∧ (∀ e ∈ L1, e ∈ L') ∧ I k acc S, ⟨items.length, by simp, Nat.zero_le _, S1, [], L1, o0, fun _ z => z, i0⟩, ?_⟩
  rintro k m H2 ⟨rfl, hk, S2, acc, L2, o2, s2, i2⟩
  obtain ⟨go, sp⟩ := it H2 _ L2 o2 s2 k
  have s02 : ∀ e ∈ L, e ∈ L2 := fun z hz => s2 z (s1 z hz)
  by_cases hlt : k < items.length
  · obtain ⟨hg, hy⟩ := go _ (List.getElem?_eq_getElem hlt)
    refine .inr ⟨hg, fun H => ∃ S acc L', OkF K (.lst D acc :: F) H S L' ∧ (∀ e ∈ L1, e ∈ L') ∧ I (k + 1) acc S, fun H' n => ⟨items.length - (k + 1), by omega, rfl, hlt, n⟩, fun x H3 y => ?_⟩
    have o3 : OkF K (.lst D acc :: F) H3 S2 ((x, items[k]) :: L2) := hy x H3 y
    show wipe ((wipe σ [i]).set i (some x)) [i] = wipe σ [i] ∧ _
    refine ⟨by simp [wipe], ?_⟩
    have f3 : FrOk ((wipe σ [i]).set i (some x)) (fr.set i (some items[k])) ((x, items[k]) :: L2) := by
      have e1 : (wipe σ [i]).set i (some x) = σ.set i (some x) := by simp [wipe]
      rw [e1]
      exact (f.mono fun z hz => List.mem_cons_of_mem _ (s02 z hz)).set List.mem_cons_self i
    refine lt _ H3 _ _ S2 _ f3 o3 _ _ (st k _ acc S2 (List.getElem?_eq_getElem hlt) i2) fun b S4 H4 o4 h4 => ?_
    cases b with
    | false => exact ⟨S4, acc, _, o4, fun z hz => List.mem_cons_of_mem _ (s2 z hz), h4⟩
    | true =>
      refine le _ H4 _ _ S4 _ f3 o4 _ _ h4 fun v r S5 H5 o5 h5 => ?_
      obtain ⟨vs, e5, q5⟩ := o5.cells _ (at_split (mid_get S5 F))
      refine ⟨vs, e5, by rw [paired_len q5]; exact big_lt h5.1, S5, acc ++ [r], (v, r) :: (x, items[k]) :: L2, ?_, fun z hz => List.mem_cons_of_mem _ (List.mem_cons_of_mem _ (s2 z hz)), h5.2⟩
      have o6 := o5.putL (mid_get S5 F) (paired_app q5 (.cons (o5.live (v, r) List.mem_cons_self) .nil))
      rw [List.set_append_right _ _ (Nat.le_refl _)] at o6
      simpa using o6
  · have ek : k = items.length := by omega
    subst ek
    obtain ⟨r, S', o', h'⟩ := hE F H2 S2 L2 D acc C o2 (dn acc S2 i2)
    exact .inl ⟨sp rfl, q _ r S' H2 (o'.sub (sub_cons s02)) h'⟩
/-! ### defs -/
abbrev SpD := List R → SH → CR0 → Prop
def toSp (K : Fg) (n : Nat) (sp : SpD) : Sp := fun vs H Q _ => vs.length = n ∧ ∃ (F S : SH) (L : Live) (rs : List R) (C : CR0), OkF K F H S L ∧ Lives L vs rs ∧ sp rs S C ∧ ∀ v r S' H', OkF K F H' S' ((v, r) :: L) → C r S' → Q v H'
def dCall (n : Nat) (sp : SpD) (da : DA) : DE := fun fr S C => da fr S fun rs S1 => rs.length = n ∧ sp rs S1 C
theorem lift_call {n : Nat} {sp : SpD} {E : XK} {ta : TA} {da : DA} (l : LiftA K ta da) : Lift K (tCall (toSp K n sp) [] E ta) (dCall n sp da) := fun F H σ fr S L f o C Q h q => by
  refine l F H σ fr S L f o _ _ h fun vs rs S1 H1 L1 o1 s1 lv h1 => ?_
  refine ⟨by rw [List.append_nil, paired_len lv]; exact h1.1, F, S1, L1, rs, C, o1, by rw [List.append_nil]; exact lv, h1.2, fun v r S' H' o' h' => q v r S' H' (o'.sub (sub_cons s1)) h'⟩
def startF (N : List Str) (rs : List R) : Fr := rs.map some ++ List.replicate (N.length - rs.length) none
theorem fr_start {N : List Str} {vs : List V} {rs : List R} {L : Live} (lv : Lives L vs rs) : FrOk (L2.start N vs) (startF N rs) L := by
  have hl := paired_len lv
  refine ⟨by unfold L2.start startF; simp [hl], fun i r e => ?_⟩
  unfold startF at e
  rw [List.getElem?_append] at e
  split at e
  · rename_i hi
    rw [List.getElem?_map] at e
    cases e1 : rs[i]? with
    | none => rw [e1] at e; cases e
    | some q =>
      rw [e1] at e
      cases e
      obtain ⟨v, ev, m⟩ := paired_get' lv e1
      refine ⟨v, ?_, m⟩
      unfold L2.start
      rw [List.getElem?_append_left (by
        rw [List.length_map] at hi ⊢
        omega), List.getElem?_map, ev]
      rfl
  · rw [List.getElem?_replicate] at e
    split at e <;> cases e
theorem okD {P : Program} {w : World} {mg : Str → Option Value} {base : Heap} {x qual : Str} {st : Stmt} {f : Addr} {fd : FuncData} {N ps : List Str} {k n : Nat} {sp : SpD} (Fn : Fun K x qual st f fd) (Sc : FnScope N ps (defScope st)) (hn : ps.length = n)
    (hbody : ∀ (cdv : Value) (A : Around) (outer : List Env) (s : Shared) (H : Hp) (E : XK), Room k (A.deeper (envOfC qual (defScope st) s.heap.objs.size f cdv)) →
      ∃ ds, PDSs (cxOf CX0 P w K mg base N qual (defScope st) f cdv A outer s H E).nox (defBody st) ds ∧ ∀ rs S C, rs.length = n → sp rs S C → ds { nx := fun _ S => C (.dat .none) S, rt := C } (startF N rs) S) : FnOk P w K mg base CX0 (k + 1) f fd ps (toSp K n sp) := by
  refine Fn.ok Sc (fun vs H Q E h => h.1.trans hn.symm) fun cdv A outer s H vs Q E hr h => ?_
  obtain ⟨ds, hp, hd⟩ := hbody cdv A outer s H E hr
  obtain ⟨ts, p, l⟩ := hp.ex
  obtain ⟨hl, F, S, L, rs, C, o, lv, hs, q⟩ := h
  refine ⟨ts, p, ?_⟩
  refine l F H (L2.start N vs) (startF N rs) S L (fr_start lv) o _ { nx := fun _ S => C (.dat .none) S, rt := C } ⟨fun σ' fr' S' H' L' f' o' s' h' => ?_, fun v r S' H' o' h' => q v r S' H' o' h', fun _ _ _ _ _ _ _ _ h => h.elim, fun _ _ _ _ _ _ _ _ h => h.elim⟩ (hd rs S C ((paired_len lv).symm.trans hl) hs)
  exact q .non (.dat .none) S' H' ((o'.sub s').pd .non) h'
end

/-! ### the rules -/
section
variable {X : Cx} {a b c e tg iter : Expr} {da db dc de : DE} {dA : DA} {dt du : DT} {di : DI} {dg : DG} {dgs : DGs} {ds d2 : DS} {pos : Pos} {es : List Expr} {st : Stmt} {sts st2 : List Stmt}
theorem ss_nil : PDSs X [] sNext := ⟨_, pss_nil, lift_next⟩
theorem ss_cons (h1 : PDS X st ds) (h2 : PDSs X sts d2) : PDSs X (st :: sts) (sSeq ds d2) := by
  obtain ⟨_, p, l⟩ := h1.ex
  obtain ⟨_, p2, l2⟩ := h2.ex
  exact ⟨_, pss_cons p p2, lift_seq l l2⟩
theorem ss_one (h1 : PDS X st ds) : PDSs X [st] ds := by
  obtain ⟨_, p, l⟩ := h1.ex
  exact ⟨_, pss_one p, l⟩
theorem s_pass : PDS X (.Pass pos) sNext := ⟨_, ps_pass, lift_next⟩
theorem s_break : PDS X (.Break pos) sBreak := ⟨_, ps_break, lift_brk⟩
theorem s_continue : PDS X (.Continue pos) sCont := ⟨_, ps_continue, lift_cnt⟩
theorem s_never : PDS X st sNever := ⟨_, ps_never, lift_never⟩
theorem s_expr (he : PD X e de) (hs : swapsWith e none pos.line X.env = pure false := by rfl) : PDS X (.Expr e pos) (sDrop de) := by
  obtain ⟨_, p, l⟩ := he.ex
  exact ⟨_, ps_expr p hs, lift_drop l⟩
theorem s_ret (he : PD X e de) : PDS X (.Return (some e) pos) (sRet de) := by
  obtain ⟨_, p, l⟩ := he.ex
  exact ⟨_, ps_ret p, lift_ret l⟩
theorem s_retN : PDS X (.Return none pos) sRetN := ⟨_, ps_retN, lift_retN⟩
theorem s_if (hc : PDT X c dt) (ha : PDSs X sts ds) (hb : PDSs X st2 d2) : PDS X (.If c sts st2 pos) (sIf dt ds d2) := by
  obtain ⟨_, p, l⟩ := hc.ex
  obtain ⟨_, p1, l1⟩ := ha.ex
  obtain ⟨_, p2, l2⟩ := hb.ex
  exact ⟨_, ps_if p p1 p2, lift_ifS l l1 l2⟩
theorem g_name {i : Nat} {x : Str} (hN : X.N.Nodup) (hi : X.N[i]? = some x := by rfl) (hx : Loc X.env.scope x := by first | exact Or.inl rfl | exact Or.inr rfl) (hf : X.fn x = true ∨ X.env.scope.names.lookup x = some .local := by first | exact .inl rfl | exact .inr rfl) : PDG X (.Name x pos) (gnm i) := ⟨_, pg_name hN hi hx hf, lift_name i⟩
theorem gs_nil : PDGs X [] gNl := ⟨_, pgs_nil, lift_gnil⟩
theorem gs_cons (h1 : PDG X e dg) (h2 : PDGs X es dgs) (hs : (assignEach (e :: es) X.env).map (·.2) = assign e X.env :: (assignEach es X.env).map (·.2) := by rfl) : PDGs X (e :: es) (gCn dg dgs) := by
  obtain ⟨_, p, l⟩ := h1.ex
  obtain ⟨_, p2, l2⟩ := h2.ex
  exact ⟨_, pgs_cons p p2 hs, lift_gcons l l2⟩
theorem g_tup {k n : Nat} (h : PDGs X es dgs) (hc : X.calm = true := by rfl) (hn : (assignEach es X.env).length = n := by rfl) (hst : (assignEach es X.env).findIdx? (·.1) = none := by rfl) : PDG X (.Tuple es k pos) (gTp n dgs) := by
  obtain ⟨_, p, l⟩ := h.ex
  exact ⟨_, pg_tup hc p hn hst, lift_gtup l⟩
theorem set_all (hu : X.A.units + 1 < cLine) : PSet X rSetAll := by
  intro pins s σ H o i v ov iv vv Q I ro ri rv h
  rcases h with h | ⟨a, H', rfl, g, q⟩
  · exact set_list pins s σ H o i v ov iv vv Q I ro ri rv h
  · obtain rfl : ov = Value.ref a := ro
    exact d_setItem hu I g ri rv fun s' I' => ⟨H', I', q⟩
theorem g_sub {o i : Expr} {dO di : DE} (hu : X.A.units + 1 < cLine) (ho : PD X o dO) (hi : PD X i di)
    (ha : ∀ v, assign (.Subscript o i pos) X.env v = (do
      let ov ← holding [v] (eval o X.env)
      let iv ← holding [v, ov] (eval i X.env)
      standAt pos
      holding [v, ov, iv] (setItem ov iv v)
      release [v, ov, iv] []) := by intro _; rfl) : PDG X (.Subscript o i pos) (gSb dO di fSet) := by
  obtain ⟨_, p, l⟩ := ho.ex
  obtain ⟨_, p2, l2⟩ := hi.ex
  exact ⟨_, pg_sub p p2 (set_all hu) ha, lift_gsub l l2⟩
theorem s_asg (he : PD X e de) (hg : PDG X tg dg) (hs : swapsWithSole [tg] e pos.line X.env = pure false := by rfl) (hw : swappedStores [tg] e X.env = pure none := by rfl) (h1 : (assignEach [tg] X.env).map (·.2) = [assign tg X.env] := by rfl) : PDS X (.Assign [tg] e pos) (sAsg de dg) := by
  obtain ⟨_, p, l⟩ := he.ex
  obtain ⟨_, p2, l2⟩ := hg.ex
  exact ⟨_, ps_asg p p2 hs hw h1, lift_asg l l2⟩
theorem s_set {i : Nat} {x : Str} {pos' : Pos} (hN : X.N.Nodup) (he : PD X e de) (hi : X.N[i]? = some x := by rfl) (hx : Loc X.env.scope x := by first | exact Or.inl rfl | exact Or.inr rfl) (hs : swapsWith e (some (.Name x pos')) pos.line X.env = pure false := by rfl) (hf : X.fn x = true ∨ X.env.scope.names.lookup x = some .local := by first | exact .inl rfl | exact .inr rfl) :
    PDS X (.Assign [.Name x pos'] e pos) (sAsg de (gnm i)) := by
  obtain ⟨_, p, l⟩ := he.ex
  exact ⟨_, ps_set hN hi hx p hs hf, lift_asg l (lift_name i)⟩
theorem s_par {i j : Nat} {x y : Str} {px py pt : Pos} {kt k2 pt2} (hN : X.N.Nodup) (ha : PDA X [a, b] dA) (hc : X.calm = true := by rfl) (hi : X.N[i]? = some x := by rfl) (hj : X.N[j]? = some y := by rfl) (hij : i ≠ j := by decide)
    (hx : X.env.scope.names.lookup x = some .local := by rfl) (hy : X.env.scope.names.lookup y = some .local := by rfl)
    (hw : swappedStores [.Tuple [.Name x px, .Name y py] kt pt] (.Tuple [a, b] k2 pt2) X.env = pure (some [x, y]) := by rfl)
    (hs : swapsWithSole [.Tuple [.Name x px, .Name y py] kt pt] (.Tuple [a, b] k2 pt2) pos.line X.env = pure false := by rfl) :
    PDS X (.Assign [.Tuple [.Name x px, .Name y py] kt pt] (.Tuple [a, b] k2 pt2) pos) (sPar i j dA) := by
  obtain ⟨_, p, l⟩ := ha.ex
  exact ⟨_, ps_par hc hN hi hj hij hx hy p hw hs, lift_par l⟩
theorem i_src (he : PD X e de) : PDI X tg e (iSrc de) := by
  obtain ⟨_, p, l⟩ := he.ex
  exact ⟨_, pi_any p, lift_src l⟩
theorem i_r1 {p : Pos} (hg : Gl X "range") (hm : X.mg "range" = none) (ha : PDA X [a] dA) (hs : starEach [a] X.env = [(false, eval a X.env)] := by rfl) : PDI X tg (.Call (.Name "range" p) [a] [] pos) (iR1 dA) := by
  obtain ⟨_, p, l⟩ := ha.ex
  exact ⟨_, pi_range1 hg hm p hs, lift_R1 l⟩
theorem i_r2 {p : Pos} (hg : Gl X "range") (hm : X.mg "range" = none) (ha : PDA X [a, b] dA) (hs : starEach [a, b] X.env = [(false, eval a X.env), (false, eval b X.env)] := by rfl) (hs2 : starEach [b] X.env = [(false, eval b X.env)] := by rfl) : PDI X tg (.Call (.Name "range" p) [a, b] [] pos) (iR2 dA) := by
  obtain ⟨_, p, l⟩ := ha.ex
  exact ⟨_, pi_range2 hg hm p hs hs2, lift_R2 l⟩
theorem i_enum {p tpos : Pos} {elts : List Expr} {kk : Nat} (hg : Gl X "enumerate") (hm : X.mg "enumerate" = none) (ha : PDA X [e] dA) (hs : starEach [e] X.env = [(false, eval e X.env)] := by rfl) :
    PDI X (.Tuple elts kk tpos) (.Call (.Name "enumerate" p) [e] [] pos) (iEn dA) := by
  obtain ⟨_, p, l⟩ := ha.ex
  exact ⟨_, pi_enum hg hm p hs, lift_enum l⟩
theorem s_for (hi : PDI X tg iter di) (hg : PDG X tg dg) (hb : PDSs X sts ds) (hp : PassesOwn (model X.prog X.w) X.A X.env X.xe := by exact PassesOwn.never) (hc : X.calm = true := by rfl)
    (hs : ∀ x, foldedSetIterable iter X.env x = pure x := by intro _; rfl) : PDS X (.For tg iter sts [] pos) (sFor di dg ds) := by
  obtain ⟨_, p, l⟩ := hi.ex
  obtain ⟨_, p2, l2⟩ := hg.ex
  obtain ⟨_, p3, l3⟩ := hb.ex
  exact ⟨_, ps_for hp hc p p2 p3 hs, lift_for l l2 l3⟩
theorem s_while (hc : PDT X c dt) (hb : PDSs X sts ds) (hp : PassesOwn (model X.prog X.w) X.A X.env X.xe := by exact PassesOwn.never) : PDS X (.While c sts [] pos) (sWhile dt ds) := by
  obtain ⟨_, p, l⟩ := hc.ex
  obtain ⟨_, p2, l2⟩ := hb.ex
  exact ⟨_, ps_while hp p p2, lift_while l l2⟩
theorem i_r3 {p : Pos} (hg : Gl X "range") (hm : X.mg "range" = none) (ha : PDA X [a, b, c] dA) (hs : starEach [a, b, c] X.env = (false, eval a X.env) :: starEach [b, c] X.env := by rfl) (hpl : (backTo pos (starEach [b, c] X.env)).any (·.1) = false := by rfl) : PDI X tg (.Call (.Name "range" p) [a, b, c] [] pos) (iR3 dA) := by
  obtain ⟨_, p, l⟩ := ha.ex
  exact ⟨_, pi_range3 hg hm p hs hpl, lift_R3 l⟩
theorem d_call {P : SpD} {k n : Nat} {f : Addr} {fd : FuncData} {ps : List Str} {x : Str} {p : Pos} (F : FnOk X.prog X.w X.K X.mg X.base CX0 k f fd ps (toSp X.K n P)) (hr : Room k X.A) (hg : Gl X x) (hm : X.mg x = some (.ref f)) (hk : PySem.W.keepIn X.K (.ref f) = true) (hb : Binds X.K fd ps [])
    (ha : PDA X (e :: es) dA) (hdb : (x == ("__debug__" : Str)) = false := by decide) (he : starEach (e :: es) X.env = (false, eval e X.env) :: starEach es X.env := by rfl) (hpl : (backTo pos (starEach es X.env)).any (·.1) = false := by rfl) :
    PD X (.Call (.Name x p) (e :: es) [] pos) (dCall n P dA) := by
  obtain ⟨_, pa, la⟩ := ha.ex
  exact ⟨_, pe_call F hr hg hm hk hb .nil pass0 pa hdb he hpl, lift_call la⟩
structure PDTs (X : Cx) (ifs : List Expr) (dt : DT) : Prop where
  run : PTs X ifs (toTT X.K dt)
def dYes : DT := fun _ S C => C true S
theorem ts_nil : PDTs X [] dYes := ⟨⟨fun pins s σ H Q I ⟨F, fr, S, L, C, f, o, hd, q⟩ => (pts_nil (X := X)).run pins s σ H Q I (q true S H o hd)⟩⟩
theorem ts_one (h : PDT X c dt) : PDTs X [c] dt := ⟨pts_one h.pt⟩
theorem lc_core' {E : List R → SH → CR0 → Prop} (hE : ∀ K, EndD K E) {elt : Expr} {x : Str} {p : Pos} {ifs : List Expr} {scope : Scope} {i : Nat} (hN : X.N.Nodup) (hi : PDI X (.Name x p) iter di) (ok : BlkOk X.N X.env.scope scope [(x, i)])
    (hg : ∀ (s : Shared) (H : Hp) (C : Addr) (cl : List (Str × Addr)) (fp : List Addr), PG (X.blk s H scope (compEnvC scope cl C X.env) fp) (.Name x p) (gName i))
    (ht : ∀ (s : Shared) (H : Hp) (C : Addr) (cl : List (Str × Addr)) (fp : List Addr), PDTs (X.blk s H scope (compEnvC scope cl C X.env) fp) ifs dt)
    (he : ∀ (s : Shared) (H : Hp) (C : Addr) (cl : List (Str × Addr)) (fp : List Addr), PD (X.blk s H scope (compEnvC scope cl C X.env) fp) elt de)
    (hc : X.calm = true) (hs : ∀ x, foldedSetIterable iter X.env x = pure x) :
    PD X (.ListComp elt [⟨.Name x p, iter, ifs, 0⟩] scope pos) (dLcG E di i dt de) := by
  obtain ⟨_, pi, li⟩ := hi.ex
  exact ⟨_, pe_lc (own := [(x, i)]) (te := toTE X.K de) (tt := toTT X.K dt) hc hN pi ok hg (fun s H C cl fp => (ht s H C cl fp).run) (fun s H C cl fp => (he s H C cl fp).pe) hs, lift_lc (hE X.K) li (liftT_to dt) (lift_to de)⟩
theorem d_lc {elt : Expr} {x : Str} {p : Pos} {ifs : List Expr} {scope : Scope} {i : Nat} (hN : X.N.Nodup) (hi : PDI X (.Name x p) iter di) (ok : BlkOk X.N X.env.scope scope [(x, i)])
    (hg : ∀ (s : Shared) (H : Hp) (C : Addr) (cl : List (Str × Addr)) (fp : List Addr), PG (X.blk s H scope (compEnvC scope cl C X.env) fp) (.Name x p) (gName i))
    (ht : ∀ (s : Shared) (H : Hp) (C : Addr) (cl : List (Str × Addr)) (fp : List Addr), PDTs (X.blk s H scope (compEnvC scope cl C X.env) fp) ifs dt)
    (he : ∀ (s : Shared) (H : Hp) (C : Addr) (cl : List (Str × Addr)) (fp : List Addr), PD (X.blk s H scope (compEnvC scope cl C X.env) fp) elt de)
    (hc : X.calm = true := by rfl) (hs : ∀ x, foldedSetIterable iter X.env x = pure x := by intro _; rfl) :
    PD X (.ListComp elt [⟨.Name x p, iter, ifs, 0⟩] scope pos) (dLc di i dt de) := lc_core' (fun _ => end_dat) hN hi ok hg ht he hc hs
theorem d_lcC {elt : Expr} {x : Str} {p : Pos} {ifs : List Expr} {scope : Scope} {i : Nat} (hN : X.N.Nodup) (hi : PDI X (.Name x p) iter di) (ok : BlkOk X.N X.env.scope scope [(x, i)])
    (hg : ∀ (s : Shared) (H : Hp) (C : Addr) (cl : List (Str × Addr)) (fp : List Addr), PG (X.blk s H scope (compEnvC scope cl C X.env) fp) (.Name x p) (gName i))
    (ht : ∀ (s : Shared) (H : Hp) (C : Addr) (cl : List (Str × Addr)) (fp : List Addr), PDTs (X.blk s H scope (compEnvC scope cl C X.env) fp) ifs dt)
    (he : ∀ (s : Shared) (H : Hp) (C : Addr) (cl : List (Str × Addr)) (fp : List Addr), PD (X.blk s H scope (compEnvC scope cl C X.env) fp) elt de)
    (hc : X.calm = true := by rfl) (hs : ∀ x, foldedSetIterable iter X.env x = pure x := by intro _; rfl) :
    PD X (.ListComp elt [⟨.Name x p, iter, ifs, 0⟩] scope pos) (dLcC di i dt de) := lc_core' (fun _ => end_cel) hN hi ok hg ht he hc hs
/-- y = [..], y a local -/
theorem lcS_core {E : List R → SH → CR0 → Prop} (hE : ∀ K, EndD K E) {elt : Expr} {x y : Str} {p py spos : Pos} {ifs : List Expr} {scope : Scope} {i j : Nat} (hN : X.N.Nodup) (hi : PDI X (.Name x p) iter di) (ok : BlkOk X.N X.env.scope scope [(x, i)])
    (hg : ∀ (s : Shared) (H : Hp) (C : Addr) (cl : List (Str × Addr)) (fp : List Addr), PG (X.blk s H scope (compEnvC scope cl C X.env) fp) (.Name x p) (gName i))
    (ht : ∀ (s : Shared) (H : Hp) (C : Addr) (cl : List (Str × Addr)) (fp : List Addr), PDTs (X.blk s H scope (compEnvC scope cl C X.env) fp) ifs dt)
    (he : ∀ (s : Shared) (H : Hp) (C : Addr) (cl : List (Str × Addr)) (fp : List Addr), PD (X.blk s H scope (compEnvC scope cl C X.env) fp) elt de)
    (hc : X.calm = true) (hy : X.N[j]? = some y) (hyl : X.env.scope.names.lookup y = some .local)
    (hsw : swapsWith (.ListComp elt [⟨.Name x p, iter, ifs, 0⟩] scope pos) (some (.Name y py)) spos.line X.env = pure true) (hs : ∀ x, foldedSetIterable iter X.env x = pure x) :
    PDS X (.Assign [.Name y py] (.ListComp elt [⟨.Name x p, iter, ifs, 0⟩] scope pos) spos) (sAsg (dLcG E di i dt de) (gnm j)) := by
  obtain ⟨_, pi, li⟩ := hi.ex
  exact ⟨_, ps_setLc (own := [(x, i)]) (te := toTE X.K de) (tt := toTT X.K dt) hc hN hy hyl hsw pi ok hg (fun s H C cl fp => (ht s H C cl fp).run) (fun s H C cl fp => (he s H C cl fp).pe) hs, lift_asg (lift_lc (hE X.K) li (liftT_to dt) (lift_to de)) (lift_name j)⟩
theorem s_lc {elt : Expr} {x y : Str} {p py spos : Pos} {ifs : List Expr} {scope : Scope} {i j : Nat} (hN : X.N.Nodup) (hi : PDI X (.Name x p) iter di) (ok : BlkOk X.N X.env.scope scope [(x, i)])
    (hg : ∀ (s : Shared) (H : Hp) (C : Addr) (cl : List (Str × Addr)) (fp : List Addr), PG (X.blk s H scope (compEnvC scope cl C X.env) fp) (.Name x p) (gName i))
    (ht : ∀ (s : Shared) (H : Hp) (C : Addr) (cl : List (Str × Addr)) (fp : List Addr), PDTs (X.blk s H scope (compEnvC scope cl C X.env) fp) ifs dt)
    (he : ∀ (s : Shared) (H : Hp) (C : Addr) (cl : List (Str × Addr)) (fp : List Addr), PD (X.blk s H scope (compEnvC scope cl C X.env) fp) elt de)
    (hc : X.calm = true := by rfl) (hy : X.N[j]? = some y := by rfl) (hyl : X.env.scope.names.lookup y = some .local := by rfl)
    (hsw : swapsWith (.ListComp elt [⟨.Name x p, iter, ifs, 0⟩] scope pos) (some (.Name y py)) spos.line X.env = pure true := by exact sw_true rfl rfl rfl (by decide +kernel)) (hs : ∀ x, foldedSetIterable iter X.env x = pure x := by intro _; rfl) :
    PDS X (.Assign [.Name y py] (.ListComp elt [⟨.Name x p, iter, ifs, 0⟩] scope pos) spos) (sAsg (dLc di i dt de) (gnm j)) := lcS_core (fun _ => end_dat) hN hi ok hg ht he hc hy hyl hsw hs
theorem s_lcC {elt : Expr} {x y : Str} {p py spos : Pos} {ifs : List Expr} {scope : Scope} {i j : Nat} (hN : X.N.Nodup) (hi : PDI X (.Name x p) iter di) (ok : BlkOk X.N X.env.scope scope [(x, i)])
    (hg : ∀ (s : Shared) (H : Hp) (C : Addr) (cl : List (Str × Addr)) (fp : List Addr), PG (X.blk s H scope (compEnvC scope cl C X.env) fp) (.Name x p) (gName i))
    (ht : ∀ (s : Shared) (H : Hp) (C : Addr) (cl : List (Str × Addr)) (fp : List Addr), PDTs (X.blk s H scope (compEnvC scope cl C X.env) fp) ifs dt)
    (he : ∀ (s : Shared) (H : Hp) (C : Addr) (cl : List (Str × Addr)) (fp : List Addr), PD (X.blk s H scope (compEnvC scope cl C X.env) fp) elt de)
    (hc : X.calm = true := by rfl) (hy : X.N[j]? = some y := by rfl) (hyl : X.env.scope.names.lookup y = some .local := by rfl)
    (hsw : swapsWith (.ListComp elt [⟨.Name x p, iter, ifs, 0⟩] scope pos) (some (.Name y py)) spos.line X.env = pure true := by exact sw_true rfl rfl rfl (by decide +kernel)) (hs : ∀ x, foldedSetIterable iter X.env x = pure x := by intro _; rfl) :
    PDS X (.Assign [.Name y py] (.ListComp elt [⟨.Name x p, iter, ifs, 0⟩] scope pos) spos) (sAsg (dLcC di i dt de) (gnm j)) := lcS_core (fun _ => end_cel) hN hi ok hg ht he hc hy hyl hsw hs
end
end DL
set_option Elab.async false
set_option linter.all false
set_option maxRecDepth 100000
set_option maxHeartbeats 4000000
/-! DL, fourth part: built-in functions and methods. -/
namespace DL
open PySem PySem.Spec PyProof.Rows L2

section
variable {K : Fg}
def intsOf : List PyData → Option (List Int)
  | [] => some []
  | .int i :: r => (intsOf r).map fun ns => i :: ns
  | _ :: _ => none
theorem intsOf_map : ∀ ns : List Int, intsOf (ns.map PyData.int) = some ns
  | [] => rfl
  | n :: ns => by show (intsOf (ns.map PyData.int)).map _ = _; rw [intsOf_map ns]; rfl
theorem of_intsOf : ∀ {ds : List PyData} {ns : List Int}, intsOf ds = some ns → ds = ns.map PyData.int
  | [], _, h => by cases h; rfl
  | .int d :: r, ds, h => by
    cases e : intsOf r with
    | none => simp [intsOf, e] at h
    | some es =>
      have h' : some (d :: es) = some ds := by simpa [intsOf, e] using h
      cases h'
      rw [List.map_cons, of_intsOf e]
  | .none :: _, _, h => by simp [intsOf] at h
  | .bool _ :: _, _, h => by simp [intsOf] at h
  | .str _ :: _, _, h => by simp [intsOf] at h
  | .list _ :: _, _, h => by simp [intsOf] at h
  | .tuple _ :: _, _, h => by simp [intsOf] at h
  | .dict _ :: _, _, h => by simp [intsOf] at h
/-! len -/
def fLen : FA := fun rs S C => match rs with
  | [.dat (.list ds)] => C (.dat (.int ds.length)) S
  | [.dat (.tuple ds)] => C (.dat (.int ds.length)) S
  | [.dat (.str z)] => z.length ≤ 100000 ∧ C (.dat (.int z.length)) S
  | [.scr ns] => C (.dat (.int ns.length)) S
  | [.tp rs] => C (.dat (.int rs.length)) S
  | [.val (.ref p)] => ∃ (j : Nat) (xs : List R), S[j]? = some (.lst p xs) ∧ C (.dat (.int xs.length)) S
  | _ => False
theorem cd_len : CallD K (fun xs H Q => ∃ x n, xs = [x] ∧ LenV K x H n ∧ Q (.int n) H) fLen := by
  intro F vs rs H S L C Q o lv hf q
  unfold fLen at hf
  split at hf
  · cases lv with | cons m t =>
    cases t
    have hr := o.dat m
    cases hr with | lst h1 n1 q1 =>
    exact ⟨_, _, rfl, .inl ⟨_, SqL.of h1, q1.length.symm⟩, q _ _ S H (o.pd (.int _)) hf⟩
  · cases lv with | cons m t =>
    cases t
    have hr := o.dat m
    cases hr with | tup h1 q1 =>
    exact ⟨_, _, rfl, .inr ⟨_, sqT_of (A := Av S) h1, q1.length.symm⟩, q _ _ S H (o.pd (.int _)) hf⟩
  · cases lv with | cons m t =>
    cases t
    have hr := o.dat m
    cases hr
    exact ⟨_, _, rfl, ⟨big_of hf.1, rfl⟩, q _ _ S H (o.pd (.int _)) hf.2⟩
  · rename_i ns
    cases lv with | cons m t =>
    cases t
    obtain ⟨a, rfl, h1⟩ := o.live _ m
    exact ⟨_, ns.length, rfl, .inl ⟨_, h1.sq, by simp⟩, q _ _ S H (o.pd (.int _)) hf⟩
  · rename_i rs
    cases lv with | cons m t =>
    cases t
    obtain ⟨a, us, rfl, h1, q1⟩ := o.live _ m
    exact ⟨_, _, rfl, .inr ⟨_, sqT_of (A := Av S) h1, (paired_len q1.pair).symm⟩, q _ _ S H (o.pd (.int _)) hf⟩
  · rename_i p
    cases lv with | cons m t =>
    cases t
    cases o.val m
    obtain ⟨j, xs, hj, h⟩ := hf
    obtain ⟨us, e1, q1⟩ := o.cells _ (at_split (in_app hj))
    exact ⟨_, _, rfl, .inl ⟨_, SqL.of e1, (paired_len q1).symm⟩, q _ _ S H (o.pd (.int _)) h⟩
  · exact hf.elim
/-! int(x) -/
def fInt : FA := fun rs S C => match rs with
  | [.dat (.int i)] => C (.dat (.int i)) S
  | [.dat (.bool b)] => C (.dat (.int (if b then 1 else 0))) S
  | [.dat (.str z)] => ∃ n, PySem.intText? z = some n ∧ z.length ≤ 640 ∧ C (.dat (.int n)) S
  | _ => False
def rInt : List V → Hp → VK → Prop := fun xs H Q => ((∃ i, xs = [.int i] ∧ Q (.int i) H) ∨ ∃ k, xs = [.bl k] ∧ Q (.int (if k then 1 else 0)) H) ∨ ∃ (a : Str) (n : Int), xs = [.str a] ∧ PySem.intText? a = some n ∧ a.length ≤ 640 ∧ Q (.int n) H
theorem cr_int {X : Cx} : CallR X (.type "int") rInt := call_int1.or call_int_str
theorem cd_int : CallD K rInt fInt := by
  intro F vs rs H S L C Q o lv hf q
  unfold fInt at hf
  split at hf
  · cases lv with | cons m t =>
    cases t
    cases rep_int_inv (o.dat m)
    exact .inl (.inl ⟨_, rfl, q _ _ S H (o.pd (.int _)) hf⟩)
  · cases lv with | cons m t =>
    cases t
    cases rep_bool_inv (o.dat m)
    exact .inl (.inr ⟨_, rfl, q _ _ S H (o.pd (.int _)) hf⟩)
  · cases lv with | cons m t =>
    cases t
    have hr := o.dat m
    cases hr
    obtain ⟨n, h1, h2, h3⟩ := hf
    exact .inr ⟨_, n, rfl, h1, h2, q _ _ S H (o.pd (.int _)) h3⟩
  · exact hf.elim
/-! str(n) -/
def fStr : FA := fun rs S C => match rs with
  | [.dat (.int i)] => i.natAbs.log2 < 1920 ∧ C (.dat (.str (toString i))) S
  | _ => False
theorem cd_str : CallD K (fun xs H Q => ∃ i, xs = [.int i] ∧ i.natAbs.log2 < 1920 ∧ Q (.str (toString i)) H) fStr := by
  intro F vs rs H S L C Q o lv hf q
  unfold fStr at hf
  split at hf
  · cases lv with | cons m t =>
    cases t
    cases rep_int_inv (o.dat m)
    exact ⟨_, rfl, hf.1, q _ _ S H (o.pd (.str _)) hf.2⟩
  · exact hf.elim
/-! sum, max, min, sorted of a list of ints -/
def fSum : FA := fun rs S C => match rs with
  | [.dat (.list ds)] => ∃ ns, intsOf ds = some ns ∧ C (.dat (.int ns.sum)) S
  | _ => False
theorem cd_sum : CallD K (rSum K) fSum := by
  intro F vs rs H S L C Q o lv hf q
  unfold fSum at hf
  split at hf
  · cases lv with | cons m t =>
    cases t
    obtain ⟨ns, e, h⟩ := hf
    have e' := of_intsOf e
    subst e'
    have hr := o.dat m
    cases hr with | lst h1 n1 q1 =>
    rw [q1.ints_inv] at h1
    exact ⟨_, ns, rfl, SqL.of h1, q _ _ S H (o.pd (.int _)) h⟩
  · exact hf.elim
def fMax : FA := fun rs S C => match rs with
  | [.dat (.list ds)] => ∃ ns, intsOf ds = some ns ∧ ns ≠ [] ∧ ∀ m, m ∈ ns → (∀ y ∈ ns, y ≤ m) → C (.dat (.int m)) S
  | [.dat (.int i), .dat (.int j)] => C (.dat (.int (if j > i then j else i))) S
  | _ => False
def fMin : FA := fun rs S C => match rs with
  | [.dat (.list ds)] => ∃ ns, intsOf ds = some ns ∧ ns ≠ [] ∧ ∀ m, m ∈ ns → (∀ y ∈ ns, m ≤ y) → C (.dat (.int m)) S
  | [.dat (.int i), .dat (.int j)] => C (.dat (.int (if j < i then j else i))) S
  | _ => False
def rMaxAll (K : Fg) : List V → Hp → VK → Prop := fun xs H Q => rMax K xs H Q ∨ ∃ i j, xs = [.int i, .int j] ∧ Q (.int (if j > i then j else i)) H
def rMinAll (K : Fg) : List V → Hp → VK → Prop := fun xs H Q => rMin K xs H Q ∨ ∃ i j, xs = [.int i, .int j] ∧ Q (.int (if j < i then j else i)) H
theorem cr_maxA {X : Cx} (hc : X.calm = true) : CallR X (.builtin "max") (rMaxAll X.K) := (cr_max hc).or (call_max2 hc)
theorem cr_minA {X : Cx} (hc : X.calm = true) : CallR X (.builtin "min") (rMinAll X.K) := (cr_min hc).or (call_min2 hc)
theorem cd_max : CallD K (rMaxAll K) fMax := by
  intro F vs rs H S L C Q o lv hf q
  unfold fMax at hf
  split at hf
  · cases lv with | cons m t =>
    cases t
    obtain ⟨ns, e, hne, h⟩ := hf
    have e' := of_intsOf e
    subst e'
    have hr := o.dat m
    cases hr with | lst h1 n1 q1 =>
    rw [q1.ints_inv] at h1
    exact .inl ⟨_, ns, rfl, SqL.of h1, List.length_pos_iff.mpr hne, fun m hm hy => q _ _ S H (o.pd (.int _)) (h m hm hy)⟩
  · cases lv with | cons m t => cases t with | cons m2 t =>
    cases t
    cases rep_int_inv (o.dat m)
    cases rep_int_inv (o.dat m2)
    exact .inr ⟨_, _, rfl, q _ _ S H (o.pd (.int _)) hf⟩
  · exact hf.elim
theorem cd_min : CallD K (rMinAll K) fMin := by
  intro F vs rs H S L C Q o lv hf q
  unfold fMin at hf
  split at hf
  · cases lv with | cons m t =>
    cases t
    obtain ⟨ns, e, hne, h⟩ := hf
    have e' := of_intsOf e
    subst e'
    have hr := o.dat m
    cases hr with | lst h1 n1 q1 =>
    rw [q1.ints_inv] at h1
    exact .inl ⟨_, ns, rfl, SqL.of h1, List.length_pos_iff.mpr hne, fun m hm hy => q _ _ S H (o.pd (.int _)) (h m hm hy)⟩
  · cases lv with | cons m t => cases t with | cons m2 t =>
    cases t
    cases rep_int_inv (o.dat m)
    cases rep_int_inv (o.dat m2)
    exact .inr ⟨_, _, rfl, q _ _ S H (o.pd (.int _)) hf⟩
  · exact hf.elim
def fSorted : FA := fun rs S C => match rs with
  | [.dat (.list ds)] => ∃ ns, intsOf ds = some ns ∧ ∀ ns' : List Int, ns'.Perm ns → ns'.Pairwise (· ≤ ·) → C (.dat (.list (ns'.map PyData.int))) S
  | _ => False
theorem cd_sorted : CallD K (rSortedI K) fSorted := by
  intro F vs rs H S L C Q o lv hf q
  unfold fSorted at hf
  split at hf
  · cases lv with | cons m t =>
    cases t
    obtain ⟨ns, e, h⟩ := hf
    have e' := of_intsOf e
    subst e'
    have hr := o.dat m
    cases hr with | lst h1 n1 q1 =>
    rw [q1.ints_inv] at h1
    exact ⟨_, ns, rfl, SqL.of h1, fun ns' p hp hs hn => q _ _ S _ (o.lst hn (RepAll.ints ns')) (h ns' hp hs)⟩
  · exact hf.elim
/-! list(x), tuple(x) -/
def fList : FA := fun rs S C => match rs with
  | [.dat (.list ds)] => C (.dat (.list ds)) S
  | [.dat (.tuple ds)] => C (.dat (.list ds)) S
  | [.val (.ref p)] => ∃ (j : Nat) (xs : List R) (ds : List PyData), S[j]? = some (.lst p xs) ∧ dats xs = some ds ∧ C (.dat (.list ds)) S
  | _ => False
def fListC : FA := fun rs S C => match rs with
  | [.dat (.list ds)] => ∀ p, C (.val (.ref p)) (.lst p (ds.map R.dat) :: S)
  | [.dat (.tuple ds)] => ∀ p, C (.val (.ref p)) (.lst p (ds.map R.dat) :: S)
  | [.val (.ref q)] => ∃ (j : Nat) (xs : List R), S[j]? = some (.lst q xs) ∧ ∀ p, C (.val (.ref p)) (.lst p xs :: S)
  | _ => False
abbrev rListOf (K : Fg) : List V → Hp → VK → Prop := fun xs H Q => ∃ p ys, xs = [.ref p] ∧ (SqL K H p ys ∨ SqT K H p ys) ∧ ∀ l, H l = none → Q (.ref l) (upd H l (.lst ys))
theorem cd_list : CallD K (rListOf K) fList := by
  intro F vs rs H S L C Q o lv hf q
  unfold fList at hf
  split at hf
  · cases lv with | cons m t =>
    cases t
    have hr := o.dat m
    cases hr with | lst h1 n1 q1 =>
    exact ⟨_, _, rfl, .inl (SqL.of h1), fun l hl => q _ _ S _ (o.lst hl q1) hf⟩
  · cases lv with | cons m t =>
    cases t
    have hr := o.dat m
    cases hr with | tup h1 q1 =>
    exact ⟨_, _, rfl, .inr (sqT_of (A := Av S) h1), fun l hl => q _ _ S _ (o.lst hl q1) hf⟩
  · cases lv with | cons m t =>
    cases t
    cases o.val m
    obtain ⟨j, xs, ds, hj, e, h⟩ := hf
    obtain ⟨us, e1, q1⟩ := o.cells _ (at_split (in_app hj))
    exact ⟨_, _, rfl, .inl (SqL.of e1), fun l hl => q _ _ S _ (o.lst hl (reps_all q1 e)) h⟩
  · exact hf.elim
theorem cd_listC : CallD K (rListOf K) fListC := by
  intro F vs rs H S L C Q o lv hf q
  unfold fListC at hf
  split at hf
  · cases lv with | cons m t =>
    cases t
    have hr := o.dat m
    cases hr with | lst h1 n1 q1 =>
    exact ⟨_, _, rfl, .inl (SqL.of h1), fun l hl => q _ _ (_ :: S) _ (Ok.push (r := .val (.ref l)) (o.lstC hl (all_reps q1)) rfl) (hf l)⟩
  · cases lv with | cons m t =>
    cases t
    have hr := o.dat m
    cases hr with | tup h1 q1 =>
    exact ⟨_, _, rfl, .inr (sqT_of (A := Av S) h1), fun l hl => q _ _ (_ :: S) _ (Ok.push (r := .val (.ref l)) (o.lstC hl (all_reps q1)) rfl) (hf l)⟩
  · cases lv with | cons m t =>
    cases t
    cases o.val m
    obtain ⟨j, xs, hj, h⟩ := hf
    obtain ⟨us, e1, q1⟩ := o.cells _ (at_split (in_app hj))
    exact ⟨_, _, rfl, .inl (SqL.of e1), fun l hl => q _ _ (_ :: S) _ (Ok.push (r := .val (.ref l)) (o.lstC hl q1) rfl) (h l)⟩
  · exact hf.elim
def fTuple : FA := fun rs S C => match rs with
  | [.dat (.list ds)] => C (.dat (.tuple ds)) S
  | [.dat (.tuple ds)] => C (.dat (.tuple ds)) S
  | [.val (.ref p)] => ∃ (j : Nat) (xs : List R) (ds : List PyData), S[j]? = some (.lst p xs) ∧ dats xs = some ds ∧ C (.dat (.tuple ds)) S
  | _ => False
abbrev rTupleOf (K : Fg) : List V → Hp → VK → Prop := fun xs H Q => ∃ p ys, xs = [.ref p] ∧ ((SqL K H p ys ∧ ∀ l, H l = none → Q (.ref l) (upd H l (.tup ys))) ∨ (SqT K H p ys ∧ Q (.ref p) H))
theorem cd_tuple : CallD K (rTupleOf K) fTuple := by
  intro F vs rs H S L C Q o lv hf q
  unfold fTuple at hf
  split at hf
  · cases lv with | cons m t =>
    cases t
    have hr := o.dat m
    cases hr with | lst h1 n1 q1 =>
    exact ⟨_, _, rfl, .inl ⟨SqL.of h1, fun l hl => q _ _ S _ (o.tup hl q1) hf⟩⟩
  · cases lv with | cons m t =>
    cases t
    have hr := o.dat m
    cases hr with | tup h1 q1 =>
    exact ⟨_, _, rfl, .inr ⟨sqT_of (A := Av S) h1, q _ _ S H (o.pd (.tup h1 q1)) hf⟩⟩
  · cases lv with | cons m t =>
    cases t
    cases o.val m
    obtain ⟨j, xs, ds, hj, e, h⟩ := hf
    obtain ⟨us, e1, q1⟩ := o.cells _ (at_split (in_app hj))
    exact ⟨_, _, rfl, .inl ⟨SqL.of e1, fun l hl => q _ _ S _ (o.tup hl (reps_all q1 e)) h⟩⟩
  · exact hf.elim
/-! isinstance -/
inductive Kd where
  | non | bl | int | str | lst | tup
def Kd.nm : Kd → String
  | .non => "NoneType" | .bl => "bool" | .int => "int" | .str => "str" | .lst => "list" | .tup => "tuple"
def kdOf : PyData → Option Kd
  | .none => some .non
  | .bool _ => some .bl
  | .int _ => some .int
  | .str _ => some .str
  | .list _ => some .lst
  | .tuple _ => some .tup
  | .dict _ => none
/-- what kind a live value has: its cell, where it is one -/
def kdR (S : SH) : R → Kd → Prop
  | .dat d, k => kdOf d = some k
  | .tp _, k => k = .tup
  | .val (.ref p), k => k = .lst ∧ ∃ (j : Nat) (xs : List R), S[j]? = some (.lst p xs)
  | _, _ => False
theorem kd_ty {F : SH} {H : Hp} {S : SH} {L : Live} {v : V} {r : R} {k : Kd} (o : OkF K F H S L) (m : (v, r) ∈ L) (h : kdR S r k) : TyX K H v (.type k.nm) := by
  have hr := o.live _ m
  cases r with
  | dat d =>
    have h : kdOf d = some k := h
    cases hr with
    | non => cases h; exact .base .non
    | bl b => cases h; exact .base (.bl b)
    | int i => cases h; exact .base (.int i)
    | str x => cases h; exact .base (.str x)
    | lst e n q => cases h; exact .base (.lst e)
    | tup e q =>
      cases h
      rcases e with e | ⟨ob, its, n, e, c, _⟩
      · exact .base (.tup e)
      · exact .kTuple e c
  | val w =>
    cases w with
    | ref p =>
      obtain ⟨rfl, j, xs, hj⟩ := h
      cases (show v = V.ref p from hr)
      obtain ⟨us, e1, _⟩ := o.cells _ (at_split (in_app hj))
      exact .base (.lst e1)
    | _ => exact h.elim
  | scr ns => exact h.elim
  | tp rs =>
    cases (show k = .tup from h)
    obtain ⟨a, vs, rfl, e, _⟩ := hr
    rcases e with e | ⟨ob, its, n, e, c, _⟩
    · exact .base (.tup e)
    · exact .kTuple e c
  | obj C ks rs => exact h.elim
  | dic ks rs => exact h.elim
/-- isinstance(x, T): by the kind -/
def fIsi (T : String) (g : Kd → Bool) : FA := fun rs S C => match rs with
  | [r, .val (.ty U)] => U = T ∧ ∃ k, kdR S r k ∧ C (.dat (.bool (g k))) S
  | _ => False
theorem cd_isi {T : String} {g : Kd → Bool} (hT : ∀ k : Kd, kitB k.nm T = some (g k)) : CallD K (rIsi K) (fIsi T g) := by
  intro F vs rs H S L C Q o lv hf q
  unfold fIsi at hf
  split at hf
  · cases lv with | cons m t => cases t with | cons m2 t =>
    cases t
    obtain ⟨rfl, k, hk, h⟩ := hf
    cases o.val m2
    exact ⟨_, _, _, _, _, rfl, .ty _, kd_ty o m hk, kit_ty (hT k), q _ _ S H (o.pd (.bl _)) h⟩
  · exact hf.elim
def gInt : Kd → Bool | .int => true | .bl => true | _ => false
def gBool : Kd → Bool | .bl => true | _ => false
def gStr : Kd → Bool | .str => true | _ => false
def gList : Kd → Bool | .lst => true | _ => false
def gTuple : Kd → Bool | .tup => true | _ => false
theorem kit_int : ∀ k : Kd, kitB k.nm "int" = some (gInt k) := fun k => by cases k <;> decide +kernel
theorem kit_bool : ∀ k : Kd, kitB k.nm "bool" = some (gBool k) := fun k => by cases k <;> decide +kernel
theorem kit_str : ∀ k : Kd, kitB k.nm "str" = some (gStr k) := fun k => by cases k <;> decide +kernel
theorem kit_list : ∀ k : Kd, kitB k.nm "list" = some (gList k) := fun k => by cases k <;> decide +kernel
theorem kit_tuple : ∀ k : Kd, kitB k.nm "tuple" = some (gTuple k) := fun k => by cases k <;> decide +kernel
/-! xs.append(e) -/
def dApp (da de : DE) : DE := fun fr S C => da fr S fun a S1 => match a with
  | .val (.ref p) => (∃ (j : Nat) (xs : List R), S1[j]? = some (.lst p xs)) ∧ de fr S1 fun r S2 => ∃ (j : Nat) (xs : List R), S2[j]? = some (.lst p xs) ∧ xs.length < 100000 ∧ C (.dat .none) (S2.set j (.lst p (xs ++ [r])))
  | _ => False
theorem lift_app {to te : TE} {da de : DE} (la : Lift K to da) (le : Lift K te de) : Lift K (tBM K "list" rAppend to (tCons te tNil)) (dApp da de) := by
  intro F H σ fr S L fo o C Q hd q
  refine la F H σ fr S L fo o _ _ hd fun x a S1 H1 o1 h1 => ?_
  split at h1
  · rename_i p
    obtain ⟨⟨j, xs, hj⟩, h1⟩ := h1
    cases o1.val List.mem_cons_self
    obtain ⟨us, e1, _⟩ := o1.cells _ (at_split (in_app hj))
    refine ⟨.inl ⟨rfl, _, SqL.of e1⟩, ?_⟩
    refine le F H1 σ fr S1 _ (fo.mono tl_mem) o1 _ _ h1 fun v r S2 H2 o2 h2 => ?_
    obtain ⟨j2, ys, hj2, hl, h2⟩ := h2
    obtain ⟨ws, e2, q2⟩ := o2.cells _ (at_split (in_app hj2))
    refine ⟨p, ws, v, rfl, rfl, e2, by rw [paired_len q2]; exact big_lt hl, ?_⟩
    have o3 := o2.putL (in_app hj2) (paired_app q2 (.cons (o2.live (v, r) List.mem_cons_self) .nil))
    rw [set_app hj2] at o3
    exact q _ _ _ _ ((o3.sub fun e he => List.mem_cons_of_mem _ (List.mem_cons_of_mem _ he)).pd .non) h2
  · exact h1.elim
/-! {} -/
def dNewD : DE := fun _ S C => ∀ p, C (.val (.ref p)) (.dct p [] :: S)
theorem lift_newD : Lift K tDNewK dNewD := fun F H σ fr S L fo o C Q hd q p hp => q _ _ (.dct p [] :: S) _ (Ok.push (r := .val (.ref p)) (o.cell (c := .dct p []) rfl hp ⟨[], upd_same, .nil⟩) rfl) (hd p)
end
section
variable {X : Cx} {a b c e : Expr} {da db dc de : DE} {dA : DA} {pos p : Pos} {es : List Expr}
theorem d_len (hg : Gl X "len") (hm : X.mg "len" = none) (ha : PDA X [e] dA) (he : starEach [e] X.env = [(false, eval e X.env)] := by rfl) : PD X (.Call (.Name "len" p) [e] [] pos) (dCB fLen dA) := d_callB call_len cd_len hg hm PySem.boot_len ha (by decide) (by decide) he (by rfl)
theorem d_intF (hg : Gl X "int") (hm : X.mg "int" = none) (ha : PDA X [e] dA) (he : starEach [e] X.env = [(false, eval e X.env)] := by rfl) : PD X (.Call (.Name "int" p) [e] [] pos) (dCB fInt dA) := d_callTy cr_int cd_int hg hm (by decide +kernel) ha (by decide) (by decide) he (by rfl)
theorem d_strF (hg : Gl X "str") (hm : X.mg "str" = none) (ha : PDA X [e] dA) (he : starEach [e] X.env = [(false, eval e X.env)] := by rfl) : PD X (.Call (.Name "str" p) [e] [] pos) (dCB fStr dA) := d_callTy call_str_int cd_str hg hm (by decide +kernel) ha (by decide) (by decide) he (by rfl)
theorem d_sum (hg : Gl X "sum") (hm : X.mg "sum" = none) (ha : PDA X [e] dA) (hc : X.calm = true := by rfl) (he : starEach [e] X.env = [(false, eval e X.env)] := by rfl) : PD X (.Call (.Name "sum" p) [e] [] pos) (dCB fSum dA) := d_callB (cr_sum hc) cd_sum hg hm (by decide +kernel) ha (by decide) (by decide) he (by rfl)
theorem d_max1 (hg : Gl X "max") (hm : X.mg "max" = none) (ha : PDA X [e] dA) (hc : X.calm = true := by rfl) (he : starEach [e] X.env = [(false, eval e X.env)] := by rfl) : PD X (.Call (.Name "max" p) [e] [] pos) (dCB fMax dA) := d_callB (cr_maxA hc) cd_max hg hm (by decide +kernel) ha (by decide) (by decide) he (by rfl)
theorem d_max2 (hg : Gl X "max") (hm : X.mg "max" = none) (ha : PDA X [a, b] dA) (hc : X.calm = true := by rfl) (he : starEach [a, b] X.env = (false, eval a X.env) :: starEach [b] X.env := by rfl) (hpl : (backTo pos (starEach [b] X.env)).any (·.1) = false := by rfl) : PD X (.Call (.Name "max" p) [a, b] [] pos) (dCB fMax dA) := d_callB (cr_maxA hc) cd_max hg hm (by decide +kernel) ha (by decide) (by decide) he hpl
theorem d_min1 (hg : Gl X "min") (hm : X.mg "min" = none) (ha : PDA X [e] dA) (hc : X.calm = true := by rfl) (he : starEach [e] X.env = [(false, eval e X.env)] := by rfl) : PD X (.Call (.Name "min" p) [e] [] pos) (dCB fMin dA) := d_callB (cr_minA hc) cd_min hg hm (by decide +kernel) ha (by decide) (by decide) he (by rfl)
theorem d_min2 (hg : Gl X "min") (hm : X.mg "min" = none) (ha : PDA X [a, b] dA) (hc : X.calm = true := by rfl) (he : starEach [a, b] X.env = (false, eval a X.env) :: starEach [b] X.env := by rfl) (hpl : (backTo pos (starEach [b] X.env)).any (·.1) = false := by rfl) : PD X (.Call (.Name "min" p) [a, b] [] pos) (dCB fMin dA) := d_callB (cr_minA hc) cd_min hg hm (by decide +kernel) ha (by decide) (by decide) he hpl
theorem d_sorted (hg : Gl X "sorted") (hm : X.mg "sorted" = none) (ha : PDA X [e] dA) (he : starEach [e] X.env = [(false, eval e X.env)] := by rfl) : PD X (.Call (.Name "sorted" p) [e] [] pos) (dCB fSorted dA) := d_callB cr_sortedI cd_sorted hg hm (by decide +kernel) ha (by decide) (by decide) he (by rfl)
theorem d_list (hg : Gl X "list") (hm : X.mg "list" = none) (ha : PDA X [e] dA) (he : starEach [e] X.env = [(false, eval e X.env)] := by rfl) : PD X (.Call (.Name "list" p) [e] [] pos) (dCB fList dA) := d_callTy call_list_of cd_list hg hm (by decide +kernel) ha (by decide) (by decide) he (by rfl)
theorem d_listC (hg : Gl X "list") (hm : X.mg "list" = none) (ha : PDA X [e] dA) (he : starEach [e] X.env = [(false, eval e X.env)] := by rfl) : PD X (.Call (.Name "list" p) [e] [] pos) (dCB fListC dA) := d_callTy call_list_of cd_listC hg hm (by decide +kernel) ha (by decide) (by decide) he (by rfl)
theorem d_tuple (hg : Gl X "tuple") (hm : X.mg "tuple" = none) (ha : PDA X [e] dA) (he : starEach [e] X.env = [(false, eval e X.env)] := by rfl) : PD X (.Call (.Name "tuple" p) [e] [] pos) (dCB fTuple dA) := d_callTy call_tuple_of cd_tuple hg hm (by decide +kernel) ha (by decide) (by decide) he (by rfl)
theorem d_isi {T : String} {g : Kd → Bool} (hT : ∀ k : Kd, kitB k.nm T = some (g k)) (hg : Gl X "isinstance") (hm : X.mg "isinstance" = none) (ha : PDA X [a, b] dA) (he : starEach [a, b] X.env = (false, eval a X.env) :: starEach [b] X.env := by rfl) (hpl : (backTo pos (starEach [b] X.env)).any (·.1) = false := by rfl) :
    PD X (.Call (.Name "isinstance" p) [a, b] [] pos) (dCB (fIsi T g) dA) := d_callB call_isi (cd_isi hT) hg hm (by decide +kernel) ha (by decide) (by decide) he hpl
theorem d_app {apos : Pos} (ha : PD X a da) (he : PD X e de) (hp : PE X (.Call (.Attribute a "append" apos) [e] [] pos) (tBM X.K "list" rAppend (toTE X.K da) (tCons (toTE X.K de) tNil))) : PD X (.Call (.Attribute a "append" apos) [e] [] pos) (dApp da de) := ⟨_, hp, lift_app (lift_to da) (lift_to de)⟩
theorem d_newD : PD X (.Dict [] [] pos) dNewD := ⟨_, pe_dnewK, lift_newD⟩
end
end DL
set_option Elab.async false
set_option linter.all false
set_option maxRecDepth 100000
set_option maxHeartbeats 4000000
/-! DL, fifth part: defs of the text as they are called; the built-in names. -/
namespace DL
open PySem PySem.Spec PyProof.Rows L2

structure Blt (mg : Str → Option Value) : Prop where
  len : mg "len" = none
  range : mg "range" = none
  int : mg "int" = none
  sum : mg "sum" = none
  max : mg "max" = none
  min : mg "min" = none
  sorted : mg "sorted" = none
  list : mg "list" = none
  tuple : mg "tuple" = none
  isinstance : mg "isinstance" = none
  enumerate : mg "enumerate" = none
  str : mg "str" = none
  bool : mg "bool" = none
  zip : mg "zip" = none
  set : mg "set" = none
  dict : mg "dict" = none

/-- a def of the top as it stands -/
structure FunAt (K : Fg) (mg : Str → Option Value) (x : Str) (st : Stmt) (ps : List Str) : Prop where
  ex : ∃ f fd, Fun K x x st f fd ∧ mg x = some (.ref f) ∧ Binds K fd ps []
/-- a def of the top and its promise -/
structure Def (P : Program) (w : World) (K : Fg) (mg : Str → Option Value) (base : Heap) (x : Str) (k n : Nat) (sp : SpD) : Prop where
  ex : ∃ f fd ps, FnOk P w K mg base CX0 k f fd ps (toSp K n sp) ∧ mg x = some (.ref f) ∧ PySem.W.keepIn K (.ref f) = true ∧ Binds K fd ps []
theorem Def.mono {P : Program} {w : World} {K : Fg} {mg : Str → Option Value} {base : Heap} {x : Str} {j k n : Nat} {sp : SpD} (d : Def P w K mg base x j n sp) (h : j ≤ k) : Def P w K mg base x k n sp := by
  obtain ⟨f, fd, ps, a, b⟩ := d.ex
  exact ⟨f, fd, ps, a.mono h, b⟩
/-- a weaker promise -/
theorem Def.imp {P : Program} {w : World} {K : Fg} {mg : Str → Option Value} {base : Heap} {x : Str} {k n : Nat} {sp sp' : SpD} (d : Def P w K mg base x k n sp) (h : ∀ rs S C, rs.length = n → sp' rs S C → sp rs S C) : Def P w K mg base x k n sp' := by
  obtain ⟨f, fd, ps, a, b⟩ := d.ex
  exact ⟨f, fd, ps, a.imp fun vs H Q E ⟨hl, F, S, L, rs, C, o, lv, hs, q⟩ => ⟨hl, F, S, L, rs, C, o, lv, h rs S C ((paired_len lv).symm.trans hl) hs, q⟩, b⟩
section
variable {P : Program} {w : World} {K : Fg} {mg : Str → Option Value} {base : Heap}
theorem okF {x : Str} {st : Stmt} {N ps : List Str} {k n : Nat} {sp : SpD} (Fn : FunAt K mg x st ps) (Sc : FnScope N ps (defScope st)) (hn : ps.length = n)
    (hbody : ∀ (cdv : Value) (A : Around) (outer : List Env) (s : Shared) (H : Hp) (E : XK) (f : Addr), Room k (A.deeper (envOfC x (defScope st) s.heap.objs.size f cdv)) →
      ∃ ds, PDSs (cxOf CX0 P w K mg base N x (defScope st) f cdv A outer s H E).nox (defBody st) ds ∧ ∀ rs S C, rs.length = n → sp rs S C → ds { nx := fun _ S => C (.dat .none) S, rt := C } (startF N rs) S) : Def P w K mg base x (k + 1) n sp := by
  obtain ⟨f, fd, Fu, hm, hb⟩ := Fn.ex
  exact ⟨f, fd, ps, okD Fu Sc hn fun cdv A outer s H E hr => hbody cdv A outer s H E f hr, hm, Fu.kp, hb⟩
end
section
variable {X : Cx} {a b c e : Expr} {da db dc de : DE} {dA : DA} {pos p : Pos} {es : List Expr}
theorem d_callF {sp : SpD} {k n : Nat} {x : Str} (d : Def X.prog X.w X.K X.mg X.base x k n sp) (hr : Room k X.A) (hg : Gl X x)
    (ha : PDA X (e :: es) dA) (hdb : (x == ("__debug__" : Str)) = false := by decide) (he : starEach (e :: es) X.env = (false, eval e X.env) :: starEach es X.env := by rfl) (hpl : (backTo pos (starEach es X.env)).any (·.1) = false := by rfl) :
    PD X (.Call (.Name x p) (e :: es) [] pos) (dCall n sp dA) := by
  obtain ⟨f, fd, ps, F, hm, hk, hb⟩ := d.ex
  exact d_call F hr hg hm hk hb ha hdb he hpl
theorem d_appT {apos : Pos} (ha : PD X a da) (he : PD X e de) (hbase : attributeBase a "append" X.env (eval a X.env) = eval a X.env := by rfl)
    (hfew : ((backTo pos (starEach [e] X.env)).all (fun x => !x.1) && (backToKw pos (keywordEach [] X.env)).all (fun x => x.1.isSome)
      && decide (([e] : List Expr).length + ([] : List Keyword).length + (if ([] : List Keyword).isEmpty then 0 else 1) < 30)) = true := by rfl)
    (hline : (apos.endLine == pos.line) = true := by rfl) (hs : starEach [e] X.env = [(false, eval e X.env)] := by rfl) : PD X (.Call (.Attribute a "append" apos) [e] [] pos) (dApp da de) :=
  d_app ha he (pe_bm PySem.F.plainAttrs_list PySem.F.slot_list_append PySem.F.type_list_append mt_append ha.pe (pa_cons he.pe pa_nil hs) hbase hfew hline hs rfl)
end

theorem ite2d {p : Prop} [Decidable p] {A B : Prop} (h1 : p → A) (h2 : ¬ p → B) : if decide p = true then A else B := by
  by_cases h : p
  · rw [if_pos (decide_eq_true h)]; exact h1 h
  · rw [if_neg (by rw [decide_eq_false h]; exact Bool.false_ne_true)]; exact h2 h
theorem ite2b {b : Bool} {A B : Prop} (h1 : b = true → A) (h2 : b = false → B) : if b = true then A else B := by
  cases b with
  | true => rw [if_pos rfl]; exact h1 rfl
  | false => rw [if_neg Bool.false_ne_true]; exact h2 rfl
theorem iteTb {b : Bool} {A B : Prop} (h : b = true) (h1 : A) : if b = true then A else B := by rw [if_pos h]; exact h1
theorem iteFb {b : Bool} {A B : Prop} (h : b = false) (h1 : B) : if b = true then A else B := by rw [if_neg (by rw [h]; exact Bool.false_ne_true)]; exact h1
theorem iteTd {p : Prop} [Decidable p] {A B : Prop} (h : p) (h1 : A) : if decide p = true then A else B := iteTb (decide_eq_true h) h1
theorem iteFd {p : Prop} [Decidable p] {A B : Prop} (h : ¬ p) (h1 : B) : if decide p = true then A else B := iteFb (decide_eq_false h) h1
theorem getset {S : SH} {j : Nat} {c : Cell} (h : S[j]? = some c) (c' : Cell) : (S.set j c')[j]? = some c' := by
  obtain ⟨hl, _⟩ := List.getElem?_eq_some_iff.mp h
  exact List.getElem?_set_self hl
theorem cdiv {i j : Int} (h : 0 < j) (h2 : j < 1073741824) : CDivW i j := wide_div (b := 30) h (by
  have e : (2 : Nat) ^ 30 = 1073741824 := by decide
  rw [e]; omega) (by decide) (by decide)
theorem cmul {i j : Int} (h : -4294967296 < i) (h2 : i < 4294967296) (h3 : -4294967296 < j) (h4 : j < 4294967296) : CMulW i j := wide_mul (a := 32) (b := 32) (by
  have e : (2 : Nat) ^ 32 = 4294967296 := by decide
  rw [e]; omega) (by
  have e : (2 : Nat) ^ 32 = 4294967296 := by decide
  rw [e]; omega) (by decide) (by decide) (by decide)
/-! ### the dice -/
/-- the dice: the script, the place, the mixed number, what is left of a great one -/
def DiceOk (rs : List R) : Prop := ∃ (ns : List Int) (at_ mixed left : Int), rs = [.scr ns, .dat (.int at_), .dat (.int mixed), .dat (.int left)] ∧ 0 ≤ at_ ∧ 0 ≤ mixed ∧ mixed < 2147483647
abbrev dice (D : Addr) : Cell := .pk D DiceOk
end DL
set_option Elab.async false
set_option linter.all false
set_option maxRecDepth 100000
set_option maxHeartbeats 4000000
/-! DL, sixth part: forms of loops and comprehensions that one uses; the dice's next. -/
namespace DL
open PySem PySem.Spec PyProof.Rows L2

/-- a comprehension whose tests and elements are told by the item alone -/
theorem lc_pure {E : List R → SH → CR0 → Prop} {items : List R} {fr : Fr} {S : SH} {C : CR0} {i : Nat} {dt : DT} {de : DE} (p : R → Bool) (g : R → R)
    (ht : ∀ r, r ∈ items → ∀ C' : Bool → SH → Prop, C' (p r) S → dt (fr.set i (some r)) S C') (he : ∀ r, r ∈ items → p r = true → ∀ C' : CR0, C' (g r) S → de (fr.set i (some r)) S C') (hl : items.length ≤ 100000)
    (h : E ((items.filter p).map g) S C) : ∃ I : Nat → List R → SH → Prop, I 0 [] S ∧
  (∀ k r acc S, items[k]? = some r → I k acc S → dt (fr.set i (some r)) S fun b S2 => if b = true then de (fr.set i (some r)) S2 fun y S3 => acc.length < 100000 ∧ I (k + 1) (acc ++ [y]) S3 else I (k + 1) acc S2) ∧
  ∀ acc S, I items.length acc S → E acc S C := by
  refine ⟨fun k acc S' => S' = S ∧ acc = ((items.take k).filter p).map g, ⟨rfl, rfl⟩, ?_, ?_⟩
  · rintro k r acc S' hk ⟨rfl, rfl⟩
    have hm : r ∈ items := List.mem_of_getElem? hk
    obtain ⟨hlt, _⟩ := List.getElem?_eq_some_iff.mp hk
    have et : items.take (k + 1) = items.take k ++ [r] := by rw [List.take_add_one, hk]; rfl
    refine ht r hm _ ?_
    refine ite2b (fun hp => ?_) (fun hp => ?_)
    · refine he r hm hp _ ⟨?_, rfl, ?_⟩
      · rw [List.length_map]
        have h1 := List.length_filter_le p (items.take k)
        have h2 := List.length_take_le k items
        omega
      · rw [et, List.filter_append, List.map_append, List.filter_cons, if_pos hp]; rfl
    · refine ⟨rfl, ?_⟩
      rw [et, List.filter_append, List.filter_cons, if_neg (by rw [hp]; exact Bool.false_ne_true)]; simp
  · rintro acc S' ⟨rfl, rfl⟩
    rw [List.take_length]; exact h
/-- without a test -/
theorem lc_map {E : List R → SH → CR0 → Prop} {items : List R} {fr : Fr} {S : SH} {C : CR0} {i : Nat} {de : DE} (g : R → R)
    (he : ∀ r, r ∈ items → ∀ C' : CR0, C' (g r) S → de (fr.set i (some r)) S C') (hl : items.length ≤ 100000) (h : E (items.map g) S C) : ∃ I : Nat → List R → SH → Prop, I 0 [] S ∧
  (∀ k r acc S, items[k]? = some r → I k acc S → dYes (fr.set i (some r)) S fun b S2 => if b = true then de (fr.set i (some r)) S2 fun y S3 => acc.length < 100000 ∧ I (k + 1) (acc ++ [y]) S3 else I (k + 1) acc S2) ∧
  ∀ acc S, I items.length acc S → E acc S C :=
  lc_pure (fun _ => true) g (fun _ _ _ q => q) (fun r hr _ C' q => he r hr C' q) hl (by rw [List.filter_eq_self.mpr (fun _ _ => rfl)]; exact h)
/-- elements that are drawn: each as Q tells of its item -/
theorem lc_nd {E : List R → SH → CR0 → Prop} {items : List R} {fr : Fr} {S : SH} {C : CR0} {i : Nat} {de : DE} (P : R → Prop)
    (he : ∀ (k : Nat) r, items[k]? = some r → ∀ C' : CR0, (∀ y, P y → C' y S) → de (fr.set i (some r)) S C') (hl : items.length ≤ 100000) (h : ∀ acc : List R, acc.length = items.length → (∀ y ∈ acc, P y) → E acc S C) : ∃ I : Nat → List R → SH → Prop, I 0 [] S ∧
  (∀ k r acc S, items[k]? = some r → I k acc S → dYes (fr.set i (some r)) S fun b S2 => if b = true then de (fr.set i (some r)) S2 fun y S3 => acc.length < 100000 ∧ I (k + 1) (acc ++ [y]) S3 else I (k + 1) acc S2) ∧
  ∀ acc S, I items.length acc S → E acc S C := by
  refine ⟨fun k acc S' => S' = S ∧ acc.length = k ∧ ∀ y ∈ acc, P y, ⟨rfl, rfl, by simp⟩, ?_, ?_⟩
  · rintro k r acc S' hk ⟨rfl, hlen, hP⟩
    obtain ⟨hlt, _⟩ := List.getElem?_eq_some_iff.mp hk
    refine he k r hk _ fun y hy => ⟨by omega, rfl, by rw [List.length_append, hlen]; rfl, fun z hz => ?_⟩
    rcases List.mem_append.mp hz with hz | hz
    · exact hP z hz
    · cases List.mem_singleton.mp hz; exact hy
  · rintro acc S' ⟨rfl, hlen, hP⟩
    exact h acc hlen hP
/-- elements that are drawn, each by its place -/
theorem lc_ndI {E : List R → SH → CR0 → Prop} {items : List R} {fr : Fr} {S : SH} {C : CR0} {i : Nat} {de : DE} (P : Nat → R → Prop)
    (he : ∀ (k : Nat) r, items[k]? = some r → ∀ C' : CR0, (∀ y, P k y → C' y S) → de (fr.set i (some r)) S C') (hl : items.length ≤ 100000) (h : ∀ acc : List R, acc.length = items.length → (∀ (k : Nat) y, acc[k]? = some y → P k y) → E acc S C) : ∃ I : Nat → List R → SH → Prop, I 0 [] S ∧
  (∀ k r acc S, items[k]? = some r → I k acc S → dYes (fr.set i (some r)) S fun b S2 => if b = true then de (fr.set i (some r)) S2 fun y S3 => acc.length < 100000 ∧ I (k + 1) (acc ++ [y]) S3 else I (k + 1) acc S2) ∧
  ∀ acc S, I items.length acc S → E acc S C := by
  refine ⟨fun k acc S' => S' = S ∧ acc.length = k ∧ ∀ (m : Nat) y, acc[m]? = some y → P m y, ⟨rfl, rfl, by simp⟩, ?_, ?_⟩
  · rintro k r acc S' hk ⟨rfl, hlen, hP⟩
    obtain ⟨hlt, _⟩ := List.getElem?_eq_some_iff.mp hk
    refine he k r hk _ fun y hy => ⟨by omega, rfl, by rw [List.length_append, hlen]; rfl, fun m z hz => ?_⟩
    rw [List.getElem?_append] at hz
    split at hz
    · exact hP m z hz
    · rename_i hm
      have e : m = acc.length := by
        obtain ⟨h1, _⟩ := List.getElem?_eq_some_iff.mp hz
        simp at h1
        omega
      subst e
      simp at hz
      subst hz
      rw [hlen]; exact hy
  · rintro acc S' ⟨rfl, hlen, hP⟩
    exact h acc hlen hP
/-- drawn ints -/
theorem ints_of_acc {lo hi : Int} : ∀ {acc : List R}, (∀ y ∈ acc, ∃ i : Int, y = .dat (.int i) ∧ lo ≤ i ∧ i ≤ hi) → ∃ ns : List Int, acc = ns.map (fun n => R.dat (.int n)) ∧ ∀ n ∈ ns, lo ≤ n ∧ n ≤ hi
  | [], _ => ⟨[], rfl, by simp⟩
  | y :: r, h => by
    obtain ⟨ns, e, hb⟩ := ints_of_acc (acc := r) fun z hz => h z (List.mem_cons_of_mem _ hz)
    obtain ⟨i, ei, h1, h2⟩ := h y List.mem_cons_self
    refine ⟨i :: ns, by rw [ei, e]; rfl, fun n hn => ?_⟩
    rcases List.mem_cons.mp hn with rfl | hn
    · exact ⟨h1, h2⟩
    · exact hb n hn
theorem dats_ints (ns : List Int) : dats (ns.map (fun n => R.dat (.int n))) = some (ns.map PyData.int) := by
  have e : ns.map (fun n => R.dat (.int n)) = (ns.map PyData.int).map R.dat := by rw [List.map_map]; rfl
  rw [e, dats_map]
theorem set_same {S : SH} {j : Nat} {c : Cell} (h : S[j]? = some c) : S.set j c = S := by
  apply List.ext_getElem?
  intro i
  rw [List.getElem?_set]
  split
  · rename_i e
    subst e
    obtain ⟨hl, _⟩ := List.getElem?_eq_some_iff.mp h
    rw [if_pos hl, h]
  · rfl
theorem cutD_map {α β : Type} (f : α → β) (xs : List α) (lo hi : Option Int) : cutD (xs.map f) lo hi = (cutD xs lo hi).map f := by
  unfold cutD
  rw [List.length_map, List.map_take, List.map_drop]
theorem enum_get {ds : List PyData} {i : Nat} {r : R} (h : (enumD ds)[i]? = some r) : ∃ d, ds[i]? = some d ∧ r = .dat (.tuple [.int (i : Int), d]) := by
  unfold enumD at h
  rw [List.getElem?_map] at h
  by_cases hi : i < ds.length
  · rw [List.getElem?_range hi] at h
    cases h
    have e1 : ds[i]? = some ds[i] := List.getElem?_eq_getElem hi
    exact ⟨ds[i], e1, by show R.dat (.tuple [.int (i : Int), ds.getD i .none]) = _; rw [List.getD_eq_getElem?_getD, e1]; rfl⟩
  · rw [List.getElem?_eq_none (by simpa using hi)] at h
    cases h
theorem enum_len (ds : List PyData) : (enumD ds).length = ds.length := by simp [enumD]
theorem get_ints {ns : List Int} {i : Nat} {d : PyData} (h : (ns.map PyData.int)[i]? = some d) : ∃ n, ns[i]? = some n ∧ d = .int n := by
  rw [List.getElem?_map] at h
  cases e : ns[i]? with
  | none => rw [e] at h; cases h
  | some n => rw [e] at h; exact ⟨n, rfl, (Option.some.inj h).symm⟩
theorem get_dat {ds : List PyData} {i : Nat} {r : R} (h : (ds.map R.dat)[i]? = some r) : ∃ d, ds[i]? = some d ∧ r = .dat d := by
  rw [List.getElem?_map] at h
  cases e : ds[i]? with
  | none => rw [e] at h; cases h
  | some n => rw [e] at h; exact ⟨n, rfl, (Option.some.inj h).symm⟩
theorem mem_ints {ns : List Int} {r : R} (h : r ∈ (ns.map PyData.int).map R.dat) : ∃ n ∈ ns, r = .dat (.int n) := by
  obtain ⟨d, hd, rfl⟩ := List.mem_map.mp h
  obtain ⟨n, hn, rfl⟩ := List.mem_map.mp hd
  exact ⟨n, hn, rfl⟩
theorem rng_get {lo : Int} {n i : Nat} {r : R} (h : (rng lo n)[i]? = some r) : i < n ∧ r = .dat (.int (lo + (i : Int))) := by
  unfold rng at h
  rw [List.getElem?_map] at h
  by_cases hi : i < n
  · rw [List.getElem?_range hi] at h
    cases h
    exact ⟨hi, rfl⟩
  · rw [List.getElem?_eq_none (by simpa using hi)] at h
    cases h
theorem rng_len (lo : Int) (n : Nat) : (rng lo n).length = n := by simp [rng]
theorem rngD_get {hi : Int} {n i : Nat} {r : R} (h : (rngD hi n)[i]? = some r) : i < n ∧ r = .dat (.int (hi - (i : Int))) := by
  unfold rngD at h
  rw [List.getElem?_map] at h
  by_cases hi : i < n
  · rw [List.getElem?_range hi] at h
    cases h
    exact ⟨hi, rfl⟩
  · rw [List.getElem?_eq_none (by simpa using hi)] at h
    cases h
theorem rngD_len (hi : Int) (n : Nat) : (rngD hi n).length = n := by simp [rngD]
/-! ### the dice's next -/
def spNext : SpD := fun rs S C => ∃ (D : Addr) (n : Int) (j : Nat), rs = [.val (.ref D), .dat (.int n)] ∧ S[j]? = some (dice D) ∧ 0 < n ∧ n < 1073741824 ∧ ∀ r, 0 ≤ r → r < n → C (.dat (.int r)) S
/-- the same, the dice being open -/
def spNext0 : SpD := fun rs S C => ∃ (D : Addr) (n : Int) (j : Nat) (xs : List R), rs = [.val (.ref D), .dat (.int n)] ∧ S[j]? = some (.lst D xs) ∧ DiceOk xs ∧ 0 < n ∧ n < 1073741824 ∧ ∀ r ys, 0 ≤ r → r < n → DiceOk ys → C (.dat (.int r)) (S.set j (.lst D ys))
/-- a draw below a number that is known -/
theorem dnext {fr : Fr} {S : SH} {C : CR0} {D : Addr} {n : Int} {i j : Nat} (hv : fr[i]? = some (some (.val (.ref D)))) (hj : S[j]? = some (dice D)) (h0 : 0 < n) (h1 : n < 1073741824) (q : ∀ r, 0 ≤ r → r < n → C (.dat (.int r)) S) :
    dCall 2 spNext (dCons (dVar i) (dCons (dC (.dat (.int n))) dNil)) fr S C := ⟨_, hv, rfl, D, n, j, rfl, hj, h0, h1, q⟩
theorem dnextV {fr : Fr} {S : SH} {C : CR0} {D : Addr} {n : Int} {i j m : Nat} (hv : fr[i]? = some (some (.val (.ref D)))) (hm : fr[m]? = some (some (.dat (.int n)))) (hj : S[j]? = some (dice D)) (h0 : 0 < n) (h1 : n < 1073741824) (q : ∀ r, 0 ≤ r → r < n → C (.dat (.int r)) S) :
    dCall 2 spNext (dCons (dVar i) (dCons (dVar m) dNil)) fr S C := ⟨_, hv, _, hm, rfl, D, n, j, rfl, hj, h0, h1, q⟩
theorem dnextE {fr : Fr} {S : SH} {C : CR0} {D : Addr} {dn : DE} {i j : Nat} (n : Int) (hv : fr[i]? = some (some (.val (.ref D)))) (hj : S[j]? = some (dice D)) (hn : ∀ C', C' (.dat (.int n)) S → dn fr S C') (h0 : 0 < n) (h1 : n < 1073741824) (q : ∀ r, 0 ≤ r → r < n → C (.dat (.int r)) S) :
    dCall 2 spNext (dCons (dVar i) (dCons dn dNil)) fr S C := ⟨_, hv, hn _ ⟨rfl, D, n, j, rfl, hj, h0, h1, q⟩⟩
/-- an item of a list that is written -/
theorem pick {α : Type} {ds : List α} {r : Int} (h0 : 0 ≤ r) (h1 : r < ds.length) : ∃ d, atI ds r = some d ∧ d ∈ ds := by
  have e : r = ((r.toNat : Nat) : Int) := by omega
  have hl : r.toNat < ds.length := by omega
  refine ⟨ds[r.toNat], ?_, List.getElem_mem hl⟩
  have z := atI_nat (List.getElem?_eq_getElem hl)
  rw [← e] at z
  exact z
theorem next_of {P : Program} {w : World} {K : Fg} {mg : Str → Option Value} {base : Heap} {x : Str} {k : Nat} (d : Def P w K mg base x k 2 spNext0) : Def P w K mg base x k 2 spNext := by
  obtain ⟨f, fd, ps, a, b⟩ := d.ex
  refine ⟨f, fd, ps, a.imp fun vs H Q E h => ?_, b⟩
  obtain ⟨hl, F, S, L, rs, C, o, lv, ⟨D, n, j, rfl, hj, hn, hn2, q⟩, fin⟩ := h
  obtain ⟨xs, hx, o2⟩ := o.open_pk (in_app (F := F) hj)
  rw [set_app hj] at o2
  refine ⟨hl, F, S.set j (.lst D xs), L, _, fun r S' => ∃ i ys, r = .dat (.int i) ∧ 0 ≤ i ∧ i < n ∧ DiceOk ys ∧ S' = (S.set j (.lst D xs)).set j (.lst D ys), o2, lv, ⟨D, n, j, xs, rfl, getset hj _, hx, hn, hn2, fun r ys h0 h1 hy => ⟨r, ys, rfl, h0, h1, hy, rfl⟩⟩, ?_⟩
  rintro v r S' H' o' ⟨i, ys, rfl, h0, h1, hy, rfl⟩
  rw [List.set_set] at o'
  have o3 := o'.pack (P := DiceOk) (in_app (F := F) (getset hj (.lst D ys))) hy
  rw [set_app (getset hj _), List.set_set, set_same hj] at o3
  exact fin v _ S H' o3 (q i h0 h1)
end DL
set_option Elab.async false
set_option linter.all false
set_option maxRecDepth 100000
set_option maxHeartbeats 4000000
/-! DL: min of data that is compared place by place (tuples of numbers and lists). -/
namespace DL
open PySem PySem.Spec PyProof.Rows L2

/-- < between what stands at two places, wherever the objects of h0 are kept -/
def LtIn (prog : Program) (w : World) (A : Around) (h0 : Heap) (P : Nat → Value → Prop) (bt : Nat → Nat → Bool) : Prop :=
  ∀ i j vi vj (s : Shared) (Q : Value → Shared → Prop) (E : Value → Shared → Prop), j < i → (∀ b o, h0.get? b = some o → s.heap.get? b = some o) → P i vi → P j vj → Q (.bool (bt i j)) s → wpAny (model prog w) A (richCompare .Lt vi vj) Q E s
theorem argBest_le (bt : Nat → Nat → Bool) : ∀ k, argBest bt k ≤ k
  | 0 => Nat.le_refl _
  | k + 1 => by
    unfold argBest
    split
    · exact Nat.le_refl _
    · exact Nat.le_succ_of_le (argBest_le bt k)
section
variable {prog : Program} {w : World} {A : Around} {R : Result → Shared → Prop} {I : Addr} {fp wr : List Addr} {n : Nat} {P : Nat → Value → Prop} {St : Nat → Heap → Prop} {h0 : Heap}
theorem minloop (W : Walks prog w A.in1 I fp wr n P St) (bt : Nat → Nat → Bool) (lt : LtIn prog w A.in1 h0 P bt) (S : Addr) (hSf : S ∉ fp) (hw : ∀ b o, h0.get? b = some o → b ∉ wr ∧ b ≠ S) :
    ∀ (k j : Nat) (s : Shared) (vb : Value) (c : Nat), n - (j + 1) = k → j + 1 ≤ n → St (j + 1) s.heap → P (argBest bt j) vb → (∀ b o, h0.get? b = some o → s.heap.get? b = some o) →
    s.heap.get? S = some { cls := .type "list", dict := none, data := .seq #[vb, vb] c, slots := #[] } →
    (∀ v h' tk, P (argBest bt (n - 1)) v → (∀ b o, b ∉ wr → b ≠ S → s.heap.get? b = some o → h'.get? b = some o) → R (.ok (.ret v)) { s with heap := h', toks := tk }) →
    codeAny (model prog w) A (.builtin "min.loop" ⟨[.ref I, .none, .ref S], []⟩) R s := by
  have nSw : S ∉ wr := fun h => hSf (W.sub _ h)
  have nm : (toString "min" ++ toString ".loop" : String) = "min.loop" := by decide
  intro k
  induction k with
  | zero =>
    intro j s vb c hk hj st pb keep hS fin
    have ej : j + 1 = n := by omega
    refine codeAny_builtin F.entry_min_loop ?_
    rw [Around.under_plainId F.plain_min_loop _]
    show wpAny _ A.in1 (seqItems? (.ref S) >>= _) _ _ s
    refine wpAny_bind (wpAny_seqItems hS rfl ?_)
    show wpAny _ A.in1 (tryCatch (pyNext (.ref I)) _ >>= _) _ _ s
    refine wpAny_bind (wpAny_tryCatch (W.done s _ _ (ej ▸ st) fun h' tk kp => ?_))
    have hS' := kp S _ nSw hS
    show wpAny _ A.in1 (updateSeq S (fun _ => #[]) >>= _) _ _ _
    refine wpAny_bind ?_
    refine wpAny_updateSeq hS' rfl (wpAny_bind (wpAny_letGo (wpAny_pure ?_)))
    exact fin vb _ tk (by rw [← ej]; exact pb) fun b o hb hbS e => (Heap.get?_update_other _ _ (Ne.symm hbS)).trans (kp b o hb e)
  | succ k ih =>
    intro j s vb c hk hj st pb keep hS fin
    have lj : j + 1 < n := by omega
    refine codeAny_builtin F.entry_min_loop ?_
    rw [Around.under_plainId F.plain_min_loop _]
    show wpAny _ A.in1 (seqItems? (.ref S) >>= _) _ _ s
    refine wpAny_bind (wpAny_seqItems hS rfl ?_)
    show wpAny _ A.in1 (tryCatch (pyNext (.ref I)) _ >>= _) _ _ s
    refine wpAny_bind (wpAny_tryCatch (W.item (j + 1) s _ _ lj st fun v h' tk pv st' kp => ?_))
    have hS' := kp S _ nSw hS
    have keep' : ∀ b o, h0.get? b = some o → h'.get? b = some o := fun b o e => kp b o (hw b o e).1 (keep b o e)
    show wpAny _ A.in1 (tryCatch (holding [v, v] (richCompare .Lt v vb >>= _)) _ >>= _) _ _ _
    refine wpAny_bind (wpAny_tryCatch (wpAny_holding (wpAny_bind (lt (j + 1) (argBest bt j) v vb _ _ _ (Nat.lt_succ_of_le (argBest_le bt j)) keep' pv pb ?_))))
    refine wpAny_bind (wpAny_holding (wpAny_truthy_bool ?_))
    refine wpAny_bind (wpAny_letGo (wpAny_pure ?_))
    cases hb : bt (j + 1) (argBest bt j) with
    | true =>
      simp only [if_true]
      refine wpAny_bind ?_
      refine wpAny_updateSeq hS' rfl (wpAny_bind (wpAny_letGo ?_))
      rw [nm]
      refine wpAny_pure ⟨plainId_quiet F.plain_min_loop _, ih (j + 1) _ v _ (by omega) lj (W.frame _ _ _ st' fun b hbf o e => ?_) (by simp only [argBest, hb, if_true]; exact pv) (fun b o e => (Heap.get?_update_other _ _ (Ne.symm (hw b o e).2)).trans (keep' b o e)) (Heap.get?_update_self _ hS' rfl) fun v' h'' tk'' pv' kp'' => ?_⟩
      · exact (Heap.get?_update_other _ _ (fun h : S = b => hSf (by rw [h]; exact hbf))).trans e
      · exact fin v' h'' tk'' pv' fun b o hbw hbS e => kp'' b o hbw hbS ((Heap.get?_update_other _ _ (Ne.symm hbS)).trans (kp b o hbw e))
    | false =>
      simp only [Bool.false_eq_true, if_false]
      refine wpAny_bind (wpAny_letGo ?_)
      rw [nm]
      refine wpAny_pure ⟨plainId_quiet F.plain_min_loop _, ih (j + 1) _ vb c (by omega) lj st' (by simp only [argBest, hb, Bool.false_eq_true, if_false]; exact pb) keep' hS' fun v' h'' tk'' pv' kp'' => ?_⟩
      exact fin v' h'' tk'' pv' fun b o hbw hbS e => kp'' b o hbw hbS (kp b o hbw e)
theorem minfirst (W : Walks prog w A.in1 I fp wr n P St) (bt : Nat → Nat → Bool) (lt : LtIn prog w A.in1 h0 P bt) (S : Addr) (hSf : S ∉ fp) (hw : ∀ b o, h0.get? b = some o → b ∉ wr ∧ b ≠ S) (hn : 0 < n) {s : Shared} {c : Nat} (st : St 0 s.heap)
    (keep : ∀ b o, h0.get? b = some o → s.heap.get? b = some o) (hS : s.heap.get? S = some { cls := .type "list", dict := none, data := .seq #[] c, slots := #[] })
    (fin : ∀ v h' tk, P (argBest bt (n - 1)) v → (∀ b o, b ∉ wr → b ≠ S → s.heap.get? b = some o → h'.get? b = some o) → R (.ok (.ret v)) { s with heap := h', toks := tk }) :
    codeAny (model prog w) A (.builtin "min.loop" ⟨[.ref I, .none, .ref S], []⟩) R s := by
  have nSw : S ∉ wr := fun h => hSf (W.sub _ h)
  have nm : (toString "min" ++ toString ".loop" : String) = "min.loop" := by decide
  refine codeAny_builtin F.entry_min_loop ?_
  rw [Around.under_plainId F.plain_min_loop _]
  show wpAny _ A.in1 (seqItems? (.ref S) >>= _) _ _ s
  refine wpAny_bind (wpAny_seqItems hS rfl ?_)
  show wpAny _ A.in1 (tryCatch (pyNext (.ref I)) _ >>= _) _ _ s
  refine wpAny_bind (wpAny_tryCatch (W.item 0 s _ _ hn st fun v h' tk pv st' kp => ?_))
  have hS' := kp S _ nSw hS
  show wpAny _ A.in1 (updateSeq S (fun _ => #[v, v]) >>= _) _ _ _
  refine wpAny_bind ?_
  refine wpAny_updateSeq hS' rfl ?_
  rw [nm]
  refine wpAny_pure ⟨plainId_quiet F.plain_min_loop _, minloop W bt lt S hSf hw _ 0 _ v _ rfl hn (W.frame _ _ _ st' fun b hbf o e => ?_) pv (fun b o e => (Heap.get?_update_other _ _ (Ne.symm (hw b o e).2)).trans (kp b o (hw b o e).1 (keep b o e))) (Heap.get?_update_self _ hS' rfl) fun v' h'' tk'' pv' kp'' => ?_⟩
  · exact (Heap.get?_update_other _ _ (fun h : S = b => hSf (by rw [h]; exact hbf))).trans e
  · exact fin v' h'' tk'' pv' fun b o hbw hbS e => kp'' b o hbw hbS ((Heap.get?_update_other _ _ (Ne.symm hbS)).trans (kp b o hbw e))
end
section
variable {prog : Program} {w : World} {A : Around} {E : Value → Shared → Prop} {s : Shared}
/-- min(xs), a list -/
theorem min_listH {l : Addr} {its : Array Value} {bt : Nat → Nat → Bool} {Q : Value → Shared → Prop} (hh : A.handled = none) (hl : s.heap.IsList l its) (hn : 0 < its.size) (lt : LtIn prog w A.in1 s.heap (fun i v => its[i]? = some v) bt)
    (fin : ∀ v h' tk, its[argBest bt (its.size - 1)]? = some v → (∀ b o, s.heap.get? b = some o → h'.get? b = some o) → Q v { s with heap := h', toks := tk }) : wpAny (model prog w) A (call (.builtin "min") [.ref l]) Q E s := by
  have nm : (toString "min" ++ toString ".loop" : String) = "min.loop" := by decide
  refine call_function_tree F.kind_min F.plain_min F.entry_min (F.args_min1 _) ?_
  show wpAny _ A.in1 (Builtin.Builtins.bindParams "min" ["key", "default"] 0 ⟨[], []⟩ >>= _) _ _ s
  refine wpAny_bind (wpAny_of_eq (show Builtin.Builtins.bindParams "min" ["key", "default"] 0 ⟨[], []⟩ = pure [none, none] from rfl) ?_)
  refine wpAny_bind (wpAny_pure ?_)
  refine wpAny_bind (iter_any hl fun s₂ e st hlI => ?_)
  have hlt : l < s.heap.objs.size := by obtain ⟨_, e, _⟩ := hl; exact Heap.lt_size e
  have hsz : s₂.heap.objs.size = s.heap.objs.size + 1 := by rw [e]; exact Heap.size_push ..
  have kp0 : ∀ b o, s.heap.get? b = some o → s₂.heap.get? b = some o := fun b o q => by rw [e]; exact Heap.get?_push_of_some _ q
  refine wpAny_bind (wpAny_newObj_type ?_)
  have W := Walks.list (prog := prog) (w := w) (A := A.in1) hh s.heap.objs.size l hlI its
  have hSf : s₂.heap.objs.size ∉ [s.heap.objs.size, l] := fun hm => by
    have hm' : s₂.heap.objs.size = s.heap.objs.size ∨ s₂.heap.objs.size = l := by simpa using hm
    rw [hsz] at hm'
    rcases hm' with z | z
    · omega
    · exact Nat.lt_irrefl _ (Nat.lt_trans (Nat.lt_succ_self _) (Nat.lt_of_le_of_lt (Nat.le_of_eq z) hlt))
  rw [nm]
  have far : ∀ b o, s.heap.get? b = some o → b ∉ [s.heap.objs.size] ∧ b ≠ s₂.heap.objs.size := fun b o q => ⟨fun hm => by
      have e1 : b = s.heap.objs.size := by simpa using hm
      rw [e1] at q
      exact Nat.lt_irrefl _ (Heap.lt_size q), fun z => by
      have := Heap.lt_size q
      rw [z, hsz] at this
      exact Nat.lt_irrefl _ (Nat.lt_trans (Nat.lt_succ_self _) this)⟩
  refine wpAny_pure ⟨plainId_quiet F.plain_min_loop _, minfirst (h0 := s.heap) W bt lt _ hSf far hn (W.frame _ _ _ st fun b _ o e => Heap.get?_push_of_some _ e) (fun b o q => Heap.get?_push_of_some _ (kp0 b o q)) (Heap.get?_push_size _ rfl) fun v h' tk pv kp => ?_⟩
  have hq := fin v h' tk pv fun b o q => kp b o (far b o q).1 (far b o q).2 (Heap.get?_push_of_some _ (kp0 b o q))
  rw [e]
  exact hq
/-- min(a, b) -/
theorem min_twoH {a b : Value} {c : Bool} {Q : Value → Shared → Prop} (hh : A.handled = none) (lt : ∀ (s' : Shared) (Q : Value → Shared → Prop) (E : Value → Shared → Prop), (∀ b o, s.heap.get? b = some o → s'.heap.get? b = some o) → Q (.bool c) s' → wpAny (model prog w) A.in1 (richCompare .Lt b a) Q E s')
    (fin : ∀ h' tk, (∀ b o, s.heap.get? b = some o → h'.get? b = some o) → Q (if c then b else a) { s with heap := h', toks := tk }) : wpAny (model prog w) A (call (.builtin "min") [a, b]) Q E s := by
  have nm : (toString "min" ++ toString ".loop" : String) = "min.loop" := by decide
  refine call_function_tree F.kind_min F.plain_min F.entry_min (F.args_min2 _ _) ?_
  show wpAny _ A.in1 (Builtin.Builtins.bindParams "min" ["key", "default"] 0 ⟨[], []⟩ >>= _) _ _ s
  refine wpAny_bind (wpAny_of_eq (show Builtin.Builtins.bindParams "min" ["key", "default"] 0 ⟨[], []⟩ = pure [none, none] from rfl) ?_)
  show wpAny _ A.in1 (newTuple [a, b] >>= _) _ _ s
  refine wpAny_bind (wpAny_newObj_type ?_)
  have hT : (s.heap.push { cls := .type "tuple", data := .seq #[a, b] }).IsTuple s.heap.objs.size #[a, b] := ⟨_, Heap.get?_push_size _ rfl, rfl, 0, rfl⟩
  have hs1 : (s.heap.push { cls := .type "tuple", data := .seq #[a, b] }).objs.size = s.heap.objs.size + 1 := Heap.size_push ..
  refine wpAny_bind (wpAny_pyIter_tuple hT ?_)
  refine wpAny_bind (wpAny_newObj_type ?_)
  have hs2 : ((s.heap.push { cls := .type "tuple", data := .seq #[a, b] }).push { cls := .type "tuple_iterator", data := .fields #[.ref s.heap.objs.size, .int 0 0] }).objs.size = s.heap.objs.size + 1 + 1 := by rw [Heap.size_push, hs1]
  have W := Walks.tuple (prog := prog) (w := w) (A := A.in1) hh (s.heap.push { cls := .type "tuple", data := .seq #[a, b] }).objs.size s.heap.objs.size (by rw [hs1]; exact Nat.ne_of_lt (Nat.lt_succ_self _)) #[a, b]
  rw [nm]
  have kp0 : ∀ b' o, s.heap.get? b' = some o → ((s.heap.push { cls := .type "tuple", data := .seq #[a, b] }).push { cls := .type "tuple_iterator", data := .fields #[.ref s.heap.objs.size, .int 0 0] }).get? b' = some o := fun b' o q => Heap.get?_push_of_some _ (Heap.get?_push_of_some _ q)
  have far : ∀ b' o, s.heap.get? b' = some o → b' ∉ [(s.heap.push { cls := .type "tuple", data := .seq #[a, b] }).objs.size] ∧ b' ≠ ((s.heap.push { cls := .type "tuple", data := .seq #[a, b] }).push { cls := .type "tuple_iterator", data := .fields #[.ref s.heap.objs.size, .int 0 0] }).objs.size := fun b' o q => ⟨fun hm => by
      have e1 : b' = (s.heap.push { cls := .type "tuple", data := .seq #[a, b] }).objs.size := by simpa using hm
      have := Heap.lt_size q
      rw [e1, hs1] at this
      exact Nat.lt_irrefl _ (Nat.lt_trans (Nat.lt_succ_self _) this), fun z => by
      have := Heap.lt_size q
      rw [z, hs2] at this
      exact Nat.lt_irrefl _ (Nat.lt_trans (Nat.lt_succ_self _) (Nat.lt_trans (Nat.lt_succ_self _) this))⟩
  have LT : LtIn prog w A.in1 s.heap (fun i v => #[a, b][i]? = some v) (fun _ _ => c) := fun i j vi vj s' Q E hij kp hi hj hq => by
    have h2 : i < 2 := (Array.getElem?_eq_some_iff.mp hi).1
    have e1 : i = 1 := by omega
    have e2 : j = 0 := by omega
    subst e1 e2
    cases hi
    cases hj
    exact lt s' Q E kp hq
  have hSf : ((s.heap.push { cls := .type "tuple", data := .seq #[a, b] }).push { cls := .type "tuple_iterator", data := .fields #[.ref s.heap.objs.size, .int 0 0] }).objs.size ∉ [(s.heap.push { cls := .type "tuple", data := .seq #[a, b] }).objs.size, s.heap.objs.size] := fun hm => by
    have hm' : ((s.heap.push { cls := .type "tuple", data := .seq #[a, b] }).push { cls := .type "tuple_iterator", data := .fields #[.ref s.heap.objs.size, .int 0 0] }).objs.size = (s.heap.push { cls := .type "tuple", data := .seq #[a, b] }).objs.size ∨ ((s.heap.push { cls := .type "tuple", data := .seq #[a, b] }).push { cls := .type "tuple_iterator", data := .fields #[.ref s.heap.objs.size, .int 0 0] }).objs.size = s.heap.objs.size := by simpa using hm
    rw [hs2, hs1] at hm'
    omega
  have st0 : ((s.heap.push { cls := .type "tuple", data := .seq #[a, b] }).push { cls := .type "tuple_iterator", data := .fields #[.ref s.heap.objs.size, .int 0 0] }).IsTupleIter (s.heap.push { cls := .type "tuple", data := .seq #[a, b] }).objs.size s.heap.objs.size 0 ∧ ((s.heap.push { cls := .type "tuple", data := .seq #[a, b] }).push { cls := .type "tuple_iterator", data := .fields #[.ref s.heap.objs.size, .int 0 0] }).IsTuple s.heap.objs.size #[a, b] := ⟨⟨_, Heap.get?_push_size _ rfl, rfl, rfl⟩, hT.push _⟩
  refine wpAny_pure ⟨plainId_quiet F.plain_min_loop _, minfirst (h0 := s.heap) W _ LT _ hSf far (show 0 < 2 by decide) (W.frame 0 _ _ st0 fun b _ o e => Heap.get?_push_of_some _ e) (fun b o q => Heap.get?_push_of_some _ (kp0 b o q)) (Heap.get?_push_size _ rfl) fun v h' tk pv kp => ?_⟩
  · have hq := fin h' tk fun b' o q => kp b' o (far b' o q).1 (far b' o q).2 (Heap.get?_push_of_some _ (kp0 b' o q))
    have ev : v = if c then b else a := by
      cases c with
      | true =>
        have pv' : #[a, b][1]? = some v := pv
        cases pv'
        rfl
      | false =>
        have pv' : #[a, b][0]? = some v := pv
        cases pv'
        rfl
    rw [ev]
    exact hq
end
end DL
set_option Elab.async false
set_option linter.all false
set_option maxRecDepth 100000
set_option maxHeartbeats 4000000
/-! DL: min of data, as a rule. -/
namespace DL
open PySem PySem.Spec PyProof.Rows L2

/-- two data that may be compared -/
def CmpOk (d e : PyData) : Prop := PySem.W.alike d e = true ∧ d ≠ .none ∧ d.depth ≤ 60
def rMinDat (K : Fg) : List V → Hp → VK → Prop := fun vs H Q =>
  (∃ (p : Addr) (xs : List V) (ds : List PyData), vs = [.ref p] ∧ SqL K H p xs ∧ DpAll K H xs ds ∧ (∀ x ∈ ds, ∀ y ∈ ds, CmpOk x y) ∧ 0 < ds.length ∧ ∀ v, xs[argBest (fun i j => PySem.W.dataLt (ds.getD i .none) (ds.getD j .none)) (ds.length - 1)]? = some v → Q v H) ∨
  ∃ (x y : V) (d e : PyData), vs = [x, y] ∧ Dp K H x d ∧ Dp K H y e ∧ CmpOk e d ∧ Q (if PySem.W.dataLt e d then y else x) H
section
variable {X : Cx}
theorem dpAll_len {K : Fg} {H : Hp} : ∀ {xs : List V} {ds : List PyData}, DpAll K H xs ds → xs.length = ds.length
  | _, _, .nil => rfl
  | _, _, .cons _ t => by rw [List.length_cons, List.length_cons, dpAll_len t]
theorem reads_get {h : Heap} : ∀ {us : List Value} {ds : List PyData} {as : List Addr} {i : Nat} {u : Value}, ReadsAll h us ds as → us[i]? = some u → ∃ d as', ds[i]? = some d ∧ Reads h u d as'
  | _, _, _, i, _, .nil, e => by simp at e
  | _, _, _, 0, _, .cons r _, e => by simp at e; subst e; exact ⟨_, _, rfl, r⟩
  | _, _, _, i + 1, u, .cons _ t, e => by
    obtain ⟨d, as', h1, h2⟩ := reads_get (i := i) (u := u) t (by simpa using e)
    exact ⟨d, as', by simpa using h1, h2⟩
theorem units_in1 (A : Around) : A.in1.units = A.units + 1 := rfl
theorem cr_minDat (hc : X.calm = true) (hu : X.A.units + 64 < cLine) : CallR X (.builtin "min") (rMinDat X.K) := by
  intro pins s σ H xs us Q I r h
  have hh := I.ok.hd hc
  rcases h with ⟨p, ys, ds, rfl, hs, hd, hcmp, hn, q⟩ | ⟨x, y, d, e, rfl, hx, hy, hcmp, q⟩
  · obtain ⟨its, rv, hl, _⟩ := I.list hs
    rw [Vals.ref1 r]
    obtain ⟨as, hr⟩ := Dp.readsAll I ds ys its hd rv
    have hlen : its.length = ds.length := rv.length.symm.trans (dpAll_len hd)
    refine min_listH (bt := fun i j => PySem.W.dataLt (ds.getD i .none) (ds.getD j .none)) hh hl.isList (by simpa [hlen] using hn) ?_ ?_
    · intro i j vi vj s' Q' E' hij kp hi hj hq
      obtain ⟨di, ai, e1, r1⟩ := reads_get hr (by simpa using hi)
      obtain ⟨dj, aj, e2, r2⟩ := reads_get hr (by simpa using hj)
      have c := hcmp di (List.mem_of_getElem? e1) dj (List.mem_of_getElem? e2)
      have e1' : ds.getD i .none = di := by rw [List.getD_eq_getElem?_getD, e1]; rfl
      have e2' : ds.getD j .none = dj := by rw [List.getD_eq_getElem?_getD, e2]; rfl
      refine PySem.W.rcLt_alike di dj X.A.in1 s' vi vj ai aj (Reads.keeps kp r1) (Reads.keeps kp r2) c.1 c.2.1 ?_ _ _ _ _ (by rw [← e1', ← e2']; exact hq)
      rw [units_in1]
      have h1 : min di.depth dj.depth ≤ di.depth := Nat.min_le_left _ _
      have h2 := c.2.2
      omega
    · intro v h' tk hv kp
      have hv' : its[argBest (fun i j => PySem.W.dataLt (ds.getD i .none) (ds.getD j .none)) (ds.length - 1)]? = some v := by
        rw [← hlen]
        simpa using hv
      cases ey : ys[argBest (fun i j => PySem.W.dataLt (ds.getD i .none) (ds.getD j .none)) (ds.length - 1)]? with
      | none => rw [rv.none_of ey] at hv'; cases hv'
      | some z =>
        obtain ⟨u, eu, ru⟩ := rv.get ey
        rw [eu] at hv'
        cases hv'
        exact ⟨z, H, I.kept (t' := tk) kp, ru, q z ey⟩
  · obtain ⟨u, w', rfl, ru, rw'⟩ := vals2 r
    obtain ⟨au, r1⟩ := Dp.reads I d x u hx ru
    obtain ⟨aw, r2⟩ := Dp.reads I e y w' hy rw'
    refine min_twoH (c := PySem.W.dataLt e d) hh (fun s' Q' E' kp hq => ?_) fun h' tk kp => ?_
    · refine PySem.W.rcLt_alike e d X.A.in1 s' w' u aw au (Reads.keeps kp r2) (Reads.keeps kp r1) hcmp.1 hcmp.2.1 ?_ _ _ _ _ hq
      rw [units_in1]
      have h1 : min e.depth d.depth ≤ e.depth := Nat.min_le_left _ _
      have h2 := hcmp.2.2
      omega
    · cases hb : PySem.W.dataLt e d with
      | true =>
        rw [hb] at q
        exact ⟨y, H, I.kept (t' := tk) kp, rw', q⟩
      | false =>
        rw [hb] at q
        exact ⟨x, H, I.kept (t' := tk) kp, ru, q⟩
end
def fMinDat : FA := fun rs S C => match rs with
  | [.dat (.list ds)] => (∀ x ∈ ds, ∀ y ∈ ds, CmpOk x y) ∧ ds ≠ [] ∧ ∀ d, ds[argBest (fun i j => PySem.W.dataLt (ds.getD i .none) (ds.getD j .none)) (ds.length - 1)]? = some d → C (.dat d) S
  | [.dat d, .dat e] => CmpOk e d ∧ C (.dat (if PySem.W.dataLt e d then e else d)) S
  | _ => False
theorem cd_minDat {K : Fg} : CallD K (rMinDat K) fMinDat := by
  intro F vs rs H S L C Q o lv hf q
  unfold fMinDat at hf
  split at hf
  · cases lv with | cons m t =>
    cases t
    obtain ⟨hc, hne, h⟩ := hf
    have hr := o.dat m
    cases hr with | lst h1 n1 q1 =>
    refine .inl ⟨_, _, _, rfl, SqL.of h1, q1.dp, hc, List.length_pos_iff.mpr hne, fun v hv => ?_⟩
    obtain ⟨d, hd, rd⟩ := q1.get hv
    exact q v _ S H (o.pd rd) (h d hd)
  · rename_i d e
    cases lv with | cons m t => cases t with | cons m2 t =>
    cases t
    refine .inr ⟨_, _, d, e, rfl, (o.dat m).dp, (o.dat m2).dp, hf.1, ?_⟩
    cases hb : PySem.W.dataLt e d with
    | true =>
      have h2 := hf.2
      rw [hb] at h2
      exact q _ _ S H (o.pd (o.dat m2)) h2
    | false =>
      have h2 := hf.2
      rw [hb] at h2
      exact q _ _ S H (o.pd (o.dat m)) h2
  · exact hf.elim
section
variable {X : Cx} {a b c e : Expr} {da db dc de : DE} {dA : DA} {pos p : Pos} {es : List Expr}
theorem d_minD1U (hu : X.A.units + 64 < cLine) (hg : Gl X "min") (hm : X.mg "min" = none) (ha : PDA X [e] dA) (hc : X.calm = true := by rfl) (he : starEach [e] X.env = [(false, eval e X.env)] := by rfl) : PD X (.Call (.Name "min" p) [e] [] pos) (dCB fMinDat dA) := d_callB (cr_minDat hc hu) cd_minDat hg hm (by decide +kernel) ha (by decide) (by decide) he (by rfl)
theorem d_minD2U (hu : X.A.units + 64 < cLine) (hg : Gl X "min") (hm : X.mg "min" = none) (ha : PDA X [a, b] dA) (hc : X.calm = true := by rfl) (he : starEach [a, b] X.env = (false, eval a X.env) :: starEach [b] X.env := by rfl) (hpl : (backTo pos (starEach [b] X.env)).any (·.1) = false := by rfl) : PD X (.Call (.Name "min" p) [a, b] [] pos) (dCB fMinDat dA) := d_callB (cr_minDat hc hu) cd_minDat hg hm (by decide +kernel) ha (by decide) (by decide) he hpl
end
/-! ### (a number, a list of numbers): the order -/
abbrev CM := Int × List Int
def CM.dat (x : CM) : PyData := .tuple [.int x.1, .list (x.2.map PyData.int)]
/-- lists of ints, the first that differs, the shorter one first -/
def lexI : List Int → List Int → Bool
  | [], [] => false
  | [], _ :: _ => true
  | _ :: _, [] => false
  | x :: xs, y :: ys => if x = y then lexI xs ys else decide (x < y)
def ltCM (x y : CM) : Bool := if x.1 = y.1 then lexI x.2 y.2 else decide (x.1 < y.1)
theorem lex_end (l m : List (Int ⊕ List Nat)) : PyProof.Rows.lexLt PyProof.Rows.itemOrd (.inl 0 :: l) (.inl 1 :: m) = true := by
  rw [PySem.W.lex_atom (by decide), PySem.W.lex_one]; rfl
theorem lex_end2 (l m : List (Int ⊕ List Nat)) : PyProof.Rows.lexLt PyProof.Rows.itemOrd (.inl 1 :: l) (.inl 0 :: m) = false := by
  rw [PySem.W.lex_atom (by decide), PySem.W.lex_one]; rfl
theorem lex_same (l : List (Int ⊕ List Nat)) : PyProof.Rows.lexLt PyProof.Rows.itemOrd l l = false := by
  have h := PySem.W.lex_pre l [] []
  rw [List.append_nil] at h
  rw [h]; rfl
theorem eqv_int (x y : Int) : PyData.eqv (.int x) (.int y) = (x == y) := by rw [PyData.eqv]
theorem lexI_toks : ∀ xs ys : List Int, PyProof.Rows.lexLt PyProof.Rows.itemOrd (PySem.W.keyToksAll (xs.map PyData.int)) (PySem.W.keyToksAll (ys.map PyData.int)) = lexI xs ys
  | [], [] => lex_same _
  | [], y :: ys => by
    rw [List.map_nil, List.map_cons, PySem.W.toks_all_cons]
    show PyProof.Rows.lexLt PyProof.Rows.itemOrd (PySem.W.keyToksAll []) _ = true
    rw [PySem.W.keyToksAll]
    exact lex_end _ _
  | x :: xs, [] => by
    rw [List.map_nil, List.map_cons, PySem.W.toks_all_cons]
    show PyProof.Rows.lexLt PyProof.Rows.itemOrd _ (PySem.W.keyToksAll []) = false
    rw [PySem.W.keyToksAll]
    exact lex_end2 _ _
  | x :: xs, y :: ys => by
    have ha : PySem.W.alike (.int x) (.int y) = true := by rw [PySem.W.alike]
    rw [List.map_cons, List.map_cons]
    unfold lexI
    by_cases h : x = y
    · rw [if_pos h, PySem.W.dataLt_all_yes ha (by rw [eqv_int, h]; simp), lexI_toks xs ys]
    · rw [if_neg h, PySem.W.dataLt_all_no ha (by rw [eqv_int]; simpa using h), PySem.W.dataLt_int]
theorem eqvAll_ints : ∀ xs ys : List Int, PyData.eqvAll (xs.map PyData.int) (ys.map PyData.int) = decide (xs = ys)
  | [], [] => by rw [List.map_nil, PyData.eqvAll]; rfl
  | [], y :: ys => by rw [List.map_nil, List.map_cons, PyData.eqvAll]; rfl
  | x :: xs, [] => by rw [List.map_nil, List.map_cons, PyData.eqvAll]; rfl
  | x :: xs, y :: ys => by
    rw [List.map_cons, List.map_cons, PyData.eqvAll, eqv_int, eqvAll_ints xs ys]
    by_cases h : x = y <;> by_cases h2 : xs = ys <;> simp [h, h2]
theorem alikeAll_ints : ∀ xs ys : List Int, PySem.W.alikeAll (xs.map PyData.int) (ys.map PyData.int) = true
  | [], _ => by rw [List.map_nil, PySem.W.alikeAll]
  | x :: xs, [] => by rw [List.map_nil, List.map_cons, PySem.W.alikeAll]
  | x :: xs, y :: ys => by rw [List.map_cons, List.map_cons, PySem.W.alikeAll, PySem.W.alike, alikeAll_ints xs ys]; rfl
theorem lexI_irrefl : ∀ xs : List Int, lexI xs xs = false
  | [] => rfl
  | x :: xs => by unfold lexI; rw [if_pos rfl]; exact lexI_irrefl xs
theorem dataLt_CM (x y : CM) : PySem.W.dataLt x.dat y.dat = ltCM x y := by
  have ha : PySem.W.alike (.int x.1) (.int y.1) = true := by rw [PySem.W.alike]
  unfold CM.dat ltCM
  rw [PySem.W.dataLt_tuple]
  by_cases h : x.1 = y.1
  · rw [if_pos h, PySem.W.dataLt_all_yes ha (by rw [eqv_int, h]; simp)]
    have hb : PySem.W.alike (.list (x.2.map PyData.int)) (.list (y.2.map PyData.int)) = true := by rw [PySem.W.alike]; exact alikeAll_ints _ _
    by_cases h2 : x.2 = y.2
    · rw [PySem.W.dataLt_all_yes hb (by rw [PyData.eqv, eqvAll_ints, h2]; simp), h2, lexI_irrefl]
      exact lex_same _
    · rw [PySem.W.dataLt_all_no hb (by rw [PyData.eqv, eqvAll_ints]; simpa using h2), PySem.W.dataLt_list, lexI_toks]
  · rw [if_neg h, PySem.W.dataLt_all_no ha (by rw [eqv_int]; simpa using h), PySem.W.dataLt_int]
theorem depth_ints : ∀ xs : List Int, PyData.depthAll (xs.map PyData.int) ≤ 1
  | [] => by rw [List.map_nil, PyData.depthAll]; decide
  | x :: xs => by
    rw [List.map_cons, PyData.depthAll, PyData.depth]
    have := depth_ints xs
    omega
theorem cmp_CM (x y : CM) : CmpOk x.dat y.dat := by
  refine ⟨?_, (fun h => nomatch h), ?_⟩
  · unfold CM.dat
    rw [PySem.W.alike, PySem.W.alikeAll, PySem.W.alike, PySem.W.alikeAll, PySem.W.alike, alikeAll_ints, PySem.W.alikeAll]; rfl
  · unfold CM.dat
    have := depth_ints x.2
    simp only [PyData.depth, PyData.depthAll]
    omega
end DL
set_option Elab.async false
set_option linter.all false
set_option maxRecDepth 100000
set_option maxHeartbeats 4000000
/-! DL: what a live value stands for, its cells read through; ends that let cells go. -/
namespace DL
open PySem PySem.Spec PyProof.Rows L2

mutual
inductive View (S : SH) : R → PyData → Prop
  | dat (d : PyData) : View S (.dat d) d
  | cel {p : Addr} {j : Nat} {xs : List R} {ds : List PyData} : S[j]? = some (.lst p xs) → Views S xs ds → View S (.val (.ref p)) (.list ds)
  | tp {rs : List R} {ds : List PyData} : Views S rs ds → View S (.tp rs) (.tuple ds)
inductive Views (S : SH) : List R → List PyData → Prop
  | nil : Views S [] []
  | cons {r : R} {rs : List R} {d : PyData} {ds : List PyData} : View S r d → Views S rs ds → Views S (r :: rs) (d :: ds)
end
theorem Views.of_dats {S : SH} : ∀ ds : List PyData, Views S (ds.map R.dat) ds
  | [] => .nil
  | d :: ds => .cons (.dat d) (Views.of_dats ds)
theorem Views.length {S : SH} : ∀ {rs : List R} {ds : List PyData}, Views S rs ds → rs.length = ds.length
  | _, _, .nil => rfl
  | _, _, .cons _ t => by rw [List.length_cons, List.length_cons, Views.length t]
theorem Views.get' {S : SH} : ∀ {rs : List R} {ds : List PyData} {i : Nat} {d : PyData}, Views S rs ds → ds[i]? = some d → ∃ r, rs[i]? = some r ∧ View S r d
  | _, _, _, _, .nil, e => by simp at e
  | _, _, 0, _, .cons r _, e => by simp at e; subst e; exact ⟨_, rfl, r⟩
  | _, _, i + 1, d, .cons _ t, e => by
    obtain ⟨u, h1, h2⟩ := Views.get' (i := i) (d := d) t (by simpa using e)
    exact ⟨u, by simpa using h1, h2⟩
section
variable {K : Fg} {F : SH} {H : Hp} {S : SH} {L : Live}
mutual
theorem View.dp (o : OkF K F H S L) : ∀ {r : R} {d : PyData} {v : V}, View S r d → RepR K (Av (S ++ F)) H v r → Dp K H v d
  | _, _, _, .dat d, h => Rep.dp h
  | _, _, v, .cel (p := p) hj q, h => by
    cases (show v = V.ref p from h)
    obtain ⟨vs, e, qs⟩ := o.cells _ (at_split (in_app hj))
    exact .lst (SqL.of e) (Views.dp o q qs)
  | _, _, v, .tp (rs := rs) q, h => by
    obtain ⟨a, vs, rfl, e, qs⟩ := (show ∃ a vs, v = .ref a ∧ (H a = some (.tup vs) ∨ KTup K a vs) ∧ RepRl K _ H vs rs from h)
    exact .tup (sqT_of (A := Av S) e) (Views.dp o q qs.pair)
theorem Views.dp (o : OkF K F H S L) : ∀ {rs : List R} {ds : List PyData} {vs : List V}, Views S rs ds → RepRs K (Av (S ++ F)) H vs rs → DpAll K H vs ds
  | _, _, _, .nil, .nil => .nil
  | _, _, _, .cons v t, .cons r s => .cons (View.dp o v r) (Views.dp o t s)
end
/-- min of two, read through -/
def fMinV : FA := fun rs S C => match rs with
  | [a, b] => ∃ d e, View S a d ∧ View S b e ∧ CmpOk e d ∧ C (if PySem.W.dataLt e d then b else a) S
  | _ => False
theorem cd_minV : CallD K (rMinDat K) fMinV := by
  intro F vs rs H S L C Q o lv hf q
  unfold fMinV at hf
  split at hf
  · rename_i a b
    cases lv with | cons m t => cases t with | cons m2 t =>
    cases t
    obtain ⟨d, e, hd, he, hc, h⟩ := hf
    refine .inr ⟨_, _, d, e, rfl, hd.dp o (o.live _ m), he.dp o (o.live _ m2), hc, ?_⟩
    cases hb : PySem.W.dataLt e d with
    | true =>
      rw [hb] at h
      exact q _ _ S H (o.push (o.live _ m2)) h
    | false =>
      rw [hb] at h
      exact q _ _ S H (o.push (o.live _ m)) h
  · exact hf.elim
/-- a list, its items -/
def lstR (S : SH) : R → List R → Prop
  | .dat (.list ds), xs => xs = ds.map R.dat
  | .val (.ref p), xs => ∃ j : Nat, S[j]? = some (.lst p xs)
  | _, _ => False
theorem lstR_at (o : OkF K F H S L) {v : V} {r : R} {xs : List R} (h : RepR K (Av (S ++ F)) H v r) (l : lstR S r xs) : ∃ p vs, v = .ref p ∧ H p = some (.lst vs) ∧ RepRs K (Av (S ++ F)) H vs xs := by
  cases r with
  | dat d =>
    cases d with
    | list ds =>
      cases (show xs = ds.map R.dat from l)
      have h : Rep K _ H v (.list ds) := h
      cases h with | lst e n q => exact ⟨_, _, rfl, e, all_reps q⟩
    | _ => exact l.elim
  | val w =>
    cases w with
    | ref p =>
      obtain ⟨j, hj⟩ := l
      cases (show v = V.ref p from h)
      obtain ⟨vs, e, q⟩ := o.cells _ (at_split (in_app hj))
      exact ⟨_, _, rfl, e, q⟩
    | _ => exact l.elim
  | scr ns => exact l.elim
  | tp rs => exact l.elim
  | obj C ks rs => exact l.elim
  | dic ks rs => exact l.elim
/-- xs + ys, a new cell -/
def fAddC : F2 := fun a b S C => ∃ xs ys, lstR S a xs ∧ lstR S b ys ∧ xs.length + ys.length ≤ 100000 ∧ ∀ p, C (.val (.ref p)) (.lst p (xs ++ ys) :: S)
theorem opd_addC : OpD K (rAddAll K) fAddC := by
  intro F x y a b H S L C Q o hx hy hf q
  obtain ⟨xs, ys, l1, l2, hl, h⟩ := hf
  obtain ⟨p1, v1, rfl, e1, q1⟩ := lstR_at o (o.live _ hx) l1
  obtain ⟨p2, v2, rfl, e2, q2⟩ := lstR_at o (o.live _ hy) l2
  exact .inr (.inr (.inl ⟨_, _, _, _, rfl, rfl, e1, e2, by rw [paired_len q1, paired_len q2]; exact big_of hl, fun p hp => q _ _ (_ :: S) _ (Ok.push (r := .val (.ref p)) (o.lstC hp (paired_app q1 q2)) rfl) (h p)⟩))
end
/-- an end that lets cells go -/
def Wk (C : CR0) : CR0 := fun r S => ∃ S1 S', S.Perm S1 ∧ S'.Sublist S1 ∧ C r S'
theorem wk {C : CR0} {r : R} {S : SH} (h : C r S) : Wk C r S := ⟨S, S, List.Perm.refl _, List.Sublist.refl _, h⟩
theorem wk_tail {C : CR0} {r : R} {S : SH} (T : SH) (h : C r S) : Wk C r (T ++ S) := ⟨T ++ S, S, List.Perm.refl _, List.sublist_append_right T S, h⟩
theorem wk_one {C : CR0} {r : R} {S : SH} {c : Cell} (T U : SH) (h : C r (c :: S)) : Wk C r (T ++ c :: (U ++ S)) := ⟨T ++ c :: (U ++ S), c :: S, List.Perm.refl _, (List.Sublist.cons₂ c (List.sublist_append_right U S)).trans (List.sublist_append_right T _), h⟩
section
variable {P : Program} {w : World} {K : Fg} {mg : Str → Option Value} {base : Heap}
theorem Ok.wk {C : CR0} {H : Hp} {F S : SH} {L : Live} {r : R} (o : OkF K F H S L) (h : Wk C r S) : ∃ S', OkF K F H S' L ∧ C r S' := by
  obtain ⟨S1, S', hp, hs, h⟩ := h
  exact ⟨S', (o.perm (hp.append_right F)).less (hs.append (List.Sublist.refl F)), h⟩
theorem okFw {x : Str} {st : Stmt} {N ps : List Str} {k n : Nat} {sp : SpD} (Fn : FunAt K mg x st ps) (Sc : FnScope N ps (defScope st)) (hn : ps.length = n)
    (hbody : ∀ (cdv : Value) (A : Around) (outer : List Env) (s : Shared) (H : Hp) (E : XK) (f : Addr), Room k (A.deeper (envOfC x (defScope st) s.heap.objs.size f cdv)) →
      ∃ ds, PDSs (cxOf CX0 P w K mg base N x (defScope st) f cdv A outer s H E).nox (defBody st) ds ∧ ∀ rs S C, rs.length = n → sp rs S C → ds { nx := fun _ S => Wk C (.dat .none) S, rt := Wk C } (startF N rs) S) : Def P w K mg base x (k + 1) n sp := by
  have h := okF (P := P) (w := w) (base := base) (sp := fun rs S C => ∃ C', sp rs S C' ∧ ∀ r S, Wk C' r S → C r S) Fn Sc hn fun cdv A outer s H E f hr => by
    obtain ⟨ds, hp, hd⟩ := hbody cdv A outer s H E f hr
    obtain ⟨ts, pt, l⟩ := hp.ex
    refine ⟨fun D fr S => ∃ C', (∀ r S, Wk C' r S → D.rt r S) ∧ (∀ fr S, Wk C' (.dat .none) S → D.nx fr S) ∧ ds { nx := fun _ S => Wk C' (.dat .none) S, rt := Wk C' } fr S, ⟨ts, pt, fun F H σ fr S L f o D D' e ⟨C', h1, h2, h3⟩ => ?_⟩, fun rs S C hl ⟨C', hs, hw⟩ => ⟨C', hw, fun _ S q => hw _ S q, hd rs S C' hl hs⟩⟩
    exact l F H σ fr S L f o D { nx := fun _ S => Wk C' (.dat .none) S, rt := Wk C' } ⟨fun σ' fr' S' H' L' f' o' s' q => e.nx σ' fr' S' H' L' f' o' s' (h2 fr' S' q), fun v r S' H' o' q => e.rt v r S' H' o' (h1 r S' q), fun _ _ _ _ _ _ _ _ q => q.elim, fun _ _ _ _ _ _ _ _ q => q.elim⟩ h3
  obtain ⟨f, fd, ps', a, b⟩ := h.ex
  refine ⟨f, fd, ps', a.imp fun vs H Q E h => ?_, b⟩
  obtain ⟨hl, F, S, L, rs, C, o, lv, hs, fin⟩ := h
  refine ⟨hl, F, S, L, rs, Wk C, o, lv, ⟨C, hs, fun _ _ q => q⟩, fun v r S' H' o' q => ?_⟩
  obtain ⟨S2, o2, q2⟩ := o'.wk q
  exact fin v r S2 H' o2 q2
end
section
variable {X : Cx} {a b c e : Expr} {da db dc de : DE} {dA : DA} {pos p : Pos} {es : List Expr}
theorem d_minVU (hu : X.A.units + 64 < cLine) (hg : Gl X "min") (hm : X.mg "min" = none) (ha : PDA X [a, b] dA) (hc : X.calm = true := by rfl) (he : starEach [a, b] X.env = (false, eval a X.env) :: starEach [b] X.env := by rfl) (hpl : (backTo pos (starEach [b] X.env)).any (·.1) = false := by rfl) : PD X (.Call (.Name "min" p) [a, b] [] pos) (dCB fMinV dA) := d_callB (cr_minDat hc hu) cd_minV hg hm (by decide +kernel) ha (by decide) (by decide) he hpl
theorem d_addC (ha : PD X a da) (hb : PD X b db) : PD X (.BinOp a .Add b pos) (dOp fAddC da db) := d_opG op_addAll opd_addC ha hb
end
end DL
set_option Elab.async false
set_option linter.all false
set_option maxRecDepth 100000
set_option maxHeartbeats 4000000
/-! DL: instances of own classes: fields, methods, making; further list methods; weakenings in a body. -/
namespace DL
open PySem PySem.Spec PyProof.Rows L2

/-- what is known of a class: its instances' fields, in order -/
structure Klass (K : Fg) (C : Addr) (ks : List Str) : Prop where
  cl : Cls K C
  nf : ∀ f ∈ ks, NoAttr K C f
  nd : ks.Nodup
  few : ks.length < 1000
def putAt {α : Type} : Nat → α → List α → List α
  | _, x, [] => [x]
  | 0, x, _ :: t => x :: t
  | n + 1, x, y :: t => y :: putAt n x t
section
variable {α : Type}
theorem lookup_zip {f : Str} : ∀ {ks : List Str} {vs : List α} {i : Nat} {v : α}, ks.Nodup → ks[i]? = some f → vs[i]? = some v → (ks.zip vs).lookup f = some v
  | [], _, _, _, _, h, _ => by simp at h
  | k :: ks, [], _, _, _, _, h => by simp at h
  | k :: ks, w :: vs, 0, v, _, h1, h2 => by
    simp at h1 h2
    subst h1 h2
    rw [List.zip_cons_cons, List.lookup_cons, beq_self_eq_true]
  | k :: ks, w :: vs, i + 1, v, nd, h1, h2 => by
    rw [List.nodup_cons] at nd
    have h1' : ks[i]? = some f := by simpa using h1
    have hne : f ≠ k := fun e => nd.1 (by rw [← e]; exact List.mem_of_getElem? h1')
    rw [List.zip_cons_cons, List.lookup_cons]
    have : (f == k) = false := by simpa using hne
    rw [this]
    exact lookup_zip nd.2 h1' (by simpa using h2)
theorem lookup_zip_none {f : Str} : ∀ {ks : List Str} {vs : List α}, f ∉ ks → (ks.zip vs).lookup f = none
  | [], _, _ => rfl
  | k :: ks, [], _ => rfl
  | k :: ks, w :: vs, h => by
    rw [List.zip_cons_cons, List.lookup_cons]
    have : (f == k) = false := by simpa using fun e => h (by rw [e]; exact List.mem_cons_self)
    rw [this]
    exact lookup_zip_none fun z => h (List.mem_cons_of_mem _ z)
theorem putF_zip {f : Str} {v : V} : ∀ {ks : List Str} {vs : List V} {i : Nat}, ks.Nodup → ks[i]? = some f → i ≤ vs.length → vs.length ≤ ks.length → putF f v (ks.zip vs) = ks.zip (putAt i v vs)
  | [], _, _, _, h, _, _ => by simp at h
  | k :: ks, [], i, _, h1, h2, _ => by
    have : i = 0 := by simpa using h2
    subst this
    simp at h1
    subst h1
    simp [putF, putAt]
  | k :: ks, w :: vs, 0, _, h1, _, _ => by
    simp at h1
    subst h1
    simp [putF, putAt]
  | k :: ks, w :: vs, i + 1, nd, h1, h2, h3 => by
    rw [List.nodup_cons] at nd
    have h1' : ks[i]? = some f := by simpa using h1
    have hne : k ≠ f := fun e => nd.1 (by rw [e]; exact List.mem_of_getElem? h1')
    have ih := putF_zip (v := v) (i := i) (ks := ks) (vs := vs) nd.2 h1' (by simpa using h2) (by simpa using h3)
    rw [List.zip_cons_cons, putF, if_neg hne, ih]
    rfl
end
theorem paired_put {α β : Type} {P : α → β → Prop} {x : α} {y : β} (r : P x y) : ∀ {xs : List α} {us : List β} (i : Nat), Paired P xs us → Paired P (putAt i x xs) (putAt i y us)
  | _, _, 0, .nil => .cons r .nil
  | _, _, _ + 1, .nil => .cons r .nil
  | _, _, 0, .cons _ t => .cons r t
  | _, _, i + 1, .cons h t => .cons h (paired_put r i t)
theorem putAt_len {α : Type} {x : α} : ∀ {i n : Nat} {xs : List α}, i < n → xs.length ≤ n → i ≤ xs.length → (putAt i x xs).length ≤ n
  | 0, n, [], h, _, _ => h
  | _ + 1, n, [], _, _, h3 => absurd h3 (Nat.not_succ_le_zero _)
  | 0, n, _ :: t, _, h2, _ => h2
  | i + 1, n, y :: t, h, h2, h3 => by
    obtain ⟨m, rfl⟩ : ∃ m, n = m + 1 := ⟨n - 1, by omega⟩
    have := putAt_len (x := x) (i := i) (n := m) (xs := t) (by omega) (by simpa using h2) (by simpa using h3)
    show (putAt i x t).length + 1 ≤ m + 1
    omega
section
variable {K : Fg}
/-! ### e.f -/
def dFld (C : Addr) (ks : List Str) (i : Nat) (da : DE) : DE := fun fr S Q => da fr S fun a S1 => match a with
  | .val (.ref p) => ∃ (j : Nat) (rs : List R) (r : R), S1[j]? = some (.ins p C ks rs) ∧ rs[i]? = some r ∧ Q r S1
  | .obj C' ks' rs => C' = C ∧ ks' = ks ∧ ∃ r, rs[i]? = some r ∧ Q r S1
  | _ => False
theorem lift_fld {C : Addr} {ks : List Str} {i : Nat} {f : Str} {ta : TE} {da : DE} (T : Klass K C ks) (hi : ks[i]? = some f) (la : Lift K ta da) : Lift K (tFld K ta f) (dFld C ks i da) := by
  intro F H σ fr S L fo o C' Q hd q
  refine la F H σ fr S L fo o _ _ hd fun x a S1 H1 o1 h1 => ?_
  have hx := o1.live _ List.mem_cons_self
  have nf : NoAttr K C f := T.nf f (List.mem_of_getElem? hi)
  split at h1
  · rename_i p
    cases (show x = V.ref p from hx)
    obtain ⟨j, rs, r, hj, hr, h⟩ := h1
    obtain ⟨dx, vs, e1, _, q1⟩ := o1.cells _ (at_split (in_app hj))
    obtain ⟨v, ev, rv⟩ := paired_get' q1 hr
    exact ⟨p, C, dx, _, v, rfl, e1, T.cl, nf, lookup_zip T.nd hi ev, q v r S1 H1 ((o1.sub tl_mem).push rv) h⟩
  · rename_i C2 ks2 rs
    obtain ⟨rfl, rfl, r, hr, h⟩ := h1
    obtain ⟨a, dx, vs, rfl, e1, _, hl, q1⟩ := hx
    obtain ⟨v, ev, rv⟩ := paired_get' q1.pair hr
    exact ⟨a, C2, dx, _, v, rfl, e1, T.cl, nf, lookup_zip T.nd hi ev, q v r S1 H1 ((o1.sub tl_mem).push rv) h⟩
  · exact h1.elim
/-! ### o.f = e -/
def sFldD (C : Addr) (ks : List Str) (i : Nat) (da dv : DE) : DS := fun D fr S => dv fr S fun r S1 => da fr S1 fun a S2 => match a with
  | .val (.ref p) => ∃ (j : Nat) (rs : List R), S2[j]? = some (.ins p C ks rs) ∧ i ≤ rs.length ∧ D.nx fr (S2.set j (.ins p C ks (putAt i r rs)))
  | _ => False
theorem lift_sfld {C : Addr} {ks : List Str} {i : Nat} {f : Str} {ta tv : TE} {da dv : DE} (T : Klass K C ks) (hi : ks[i]? = some f) (la : Lift K ta da) (lv : Lift K tv dv) : LiftS K (L2.sFld K ta tv f) (sFldD C ks i da dv) := fun F H σ fr S L fo o D D' e h => by
  refine lv F H σ fr S L fo o _ _ h fun y r S1 H1 o1 h1 => ?_
  refine la F H1 σ fr S1 _ (fo.mono tl_mem) o1 _ _ h1 fun x a S2 H2 o2 h2 => ?_
  have hx := o2.live _ List.mem_cons_self
  have hy := o2.live (y, r) (List.mem_cons_of_mem _ List.mem_cons_self)
  have sb : ∀ e ∈ L, e ∈ (x, a) :: (y, r) :: L := fun e he => List.mem_cons_of_mem _ (List.mem_cons_of_mem _ he)
  split at h2
  · rename_i p
    cases (show x = V.ref p from hx)
    obtain ⟨j, rs, hj, hl, h⟩ := h2
    obtain ⟨dx, vs, e1, hv, q1⟩ := o2.cells _ (at_split (in_app hj))
    have el := paired_len q1
    have few := T.few
    refine ⟨p, C, dx, ks.zip vs, rfl, e1, T.cl, T.nf f (List.mem_of_getElem? hi), ?_, ?_⟩
    · rw [List.length_zip]; exact Nat.lt_of_le_of_lt (Nat.min_le_left _ _) few
    · rw [putF_zip T.nd hi (by omega) hv]
      have hik : i < ks.length := (List.getElem?_eq_some_iff.mp hi).1
      have o3 := o2.put (u := .ins C dx (ks.zip (putAt i y vs))) (c' := .ins p C ks (putAt i r rs)) (in_app hj) rfl rfl e1 True.intro ⟨dx, _, upd_same, putAt_len hik hv (by omega), RepRs.stp (stp_upd e1 (pt_at (in_app hj)) True.intro) (paired_put hy i q1)⟩
      rw [set_app hj] at o3
      exact e.nx _ _ _ _ _ (fo.mono sb) o3 sb h
  · exact h2.elim
/-! ### C(..) -/
def dMake (C : Addr) (ks : List Str) (n : Nat) (sp : SpD) (da : DA) : DE := fun fr S Q => da fr S fun rs S1 => rs.length + 1 = n ∧ ∀ x, sp (.val (.ref x) :: rs) (.ins x C ks [] :: S1) fun r S2 => r = .dat .none ∧ Q (.val (.ref x)) S2
theorem lift_make {C : Addr} {ks : List Str} {n : Nat} {sp : SpD} {E : XK} {ta : TA} {da : DA} (l : LiftA K ta da) : Lift K (tMake C (toSp K n sp) [] E ta) (dMake C ks n sp da) := fun F H σ fr S L f o Q0 Q h q => by
  refine l F H σ fr S L f o _ _ h fun vs rs S1 H1 L1 o1 s1 lv h1 x dx hx hdx hne => ?_
  have o2 : OkF K F (upd H1 dx (.own x)) S1 L1 := o1.new hdx
  have hx2 : upd H1 dx (.own x) x = none := by rw [upd_ne (Ne.symm hne)]; exact hx
  have o3 : OkF K F (upd (upd H1 dx (.own x)) x (.ins C dx [])) (.ins x C ks [] :: S1) L1 := o2.cell (c := .ins x C ks []) rfl hx2 ⟨dx, [], by rw [List.zip_nil_right]; exact upd_same, Nat.zero_le _, .nil⟩
  have o4 := Ok.push (v := .ref x) (r := .val (.ref x)) o3 rfl
  refine ⟨?_, F, _, _, .val (.ref x) :: rs, fun r S2 => r = .dat .none ∧ Q0 (.val (.ref x)) S2, o4, ?_, h1.2 x, ?_⟩
  · rw [List.append_nil, List.length_cons, paired_len lv]; exact h1.1
  · rw [List.append_nil]
    exact .cons List.mem_cons_self (Lives.mono tl_mem lv)
  · rintro v r S2 H2 o5 ⟨rfl, h2⟩
    have e : v = .non := by cases (o5.dat List.mem_cons_self); rfl
    refine ⟨e, q _ _ S2 H2 ?_ h2⟩
    exact (o5.sub tl_mem).sub (sub_cons s1)
/-! ### o.m(..) -/
def dMeth (C : Addr) (ks : List Str) (n : Nat) (sp : SpD) (da : DE) (dA : DA) : DE := fun fr S Q => da fr S fun a S1 => match a with
  | .val (.ref p) => (∃ (j : Nat) (rs : List R), S1[j]? = some (.ins p C ks rs)) ∧ dA fr S1 fun rs S2 => rs.length + 1 = n ∧ sp (.val (.ref p) :: rs) S2 Q
  | _ => False
theorem lift_meth {C : Addr} {ks : List Str} {m : Str} {n : Nat} {sp : SpD} {E : XK} {te : TE} {ta : TA} {de : DE} {da : DA} (hm : m ∉ ks) (le : Lift K te de) (l : LiftA K ta da) : Lift K (tMeth C m (toSp K n sp) [] E te ta) (dMeth C ks n sp de da) := fun F H σ fr S L f o Q0 Q h q => by
  refine le F H σ fr S L f o _ _ h fun x a S1 H1 o1 h1 => ?_
  have hx := o1.live _ List.mem_cons_self
  split at h1
  · rename_i p
    cases (show x = V.ref p from hx)
    obtain ⟨⟨j, rs, hj⟩, h1⟩ := h1
    obtain ⟨dx, vs, e1, _, q1⟩ := o1.cells _ (at_split (in_app hj))
    refine ⟨p, dx, _, rfl, e1, lookup_zip_none hm, ?_⟩
    refine l F H1 σ fr S1 _ (f.mono tl_mem) o1 _ _ h1 fun vs2 rs2 S2 H2 L2 o2 s2 lv h2 => ?_
    refine ⟨?_, F, S2, L2, .val (.ref p) :: rs2, Q0, o2, ?_, h2.2, fun v r S' H' o' h' => q v r S' H' (o'.sub (sub_cons fun e he => s2 e (List.mem_cons_of_mem _ he))) h'⟩
    · rw [List.append_nil, List.length_cons, paired_len lv]; exact h2.1
    · rw [List.append_nil]
      exact .cons (s2 _ List.mem_cons_self) lv
  · exact h1.elim
/-! ### xs.pop() -/
def dPop (da : DE) : DE := fun fr S Q => da fr S fun a S1 => match a with
  | .val (.ref p) => ∃ (j : Nat) (xs : List R) (r : R), S1[j]? = some (.lst p (xs ++ [r])) ∧ Q r (S1.set j (.lst p xs))
  | _ => False
theorem paired_snoc {α β : Type} {P : α → β → Prop} : ∀ {ws : List α} {xs : List β} {y : β}, Paired P ws (xs ++ [y]) → ∃ us u, ws = us ++ [u] ∧ Paired P us xs ∧ P u y
  | _, [], _, .cons h .nil => ⟨[], _, rfl, .nil, h⟩
  | _, x :: xs, y, .cons h t => by
    obtain ⟨us, u, rfl, a, b⟩ := paired_snoc (xs := xs) t
    exact ⟨_ :: us, u, rfl, .cons h a, b⟩
theorem lift_pop {to : TE} {da : DE} (la : Lift K to da) : Lift K (tBM0 K "list" rPop to) (dPop da) := by
  intro F H σ fr S L fo o C Q hd q
  refine la F H σ fr S L fo o _ _ hd fun x a S1 H1 o1 h1 => ?_
  split at h1
  · rename_i p
    obtain ⟨j, xs, r, hj, h⟩ := h1
    cases o1.val List.mem_cons_self
    obtain ⟨us, e1, q1⟩ := o1.cells _ (at_split (in_app hj))
    obtain ⟨us, u, rfl, q2, q3⟩ := paired_snoc q1
    refine ⟨.inl ⟨rfl, _, SqL.of e1⟩, p, _, u, rfl, rfl, e1, by simp, ?_⟩
    rw [List.dropLast_concat]
    have o3 := (o1.push q3).putL (in_app hj) q2
    rw [set_app hj] at o3
    exact q _ _ _ _ (o3.sub (sub_cons tl_mem)) h
  · exact h1.elim
/-! ### a, b, c = x, y, z -/
def sPar3 (i j l : Nat) (da : DA) : DS := fun D fr S => da fr S fun rs S1 => match rs with
  | [r, q, t] => D.nx (((fr.set i (some r)).set j (some q)).set l (some t)) S1
  | _ => False
theorem lift_par3 {i j l : Nat} {ta : TA} {da : DA} (la : LiftA K ta da) : LiftS K (tPar3 i j l ta) (sPar3 i j l da) := fun F H σ fr S L f o D D' e h => by
  refine la F H σ fr S L f o _ _ h fun vs rs S1 H1 L1 o1 s1 lv h1 => ?_
  split at h1
  · cases lv with | cons m1 t => cases t with | cons m2 t2 => cases t2 with | cons m3 t3 =>
    cases t3
    exact ⟨_, _, _, rfl, e.nx _ _ S1 H1 L1 ((((f.mono s1).set m1 i).set m2 j).set m3 l) o1 s1 h1⟩
  · exact h1.elim
end
/-! ### the rules -/
section
variable {X : Cx} {a b c e o v : Expr} {da db dc de dO dv : DE} {dA : DA} {pos pos' p apos : Pos} {es : List Expr} {C : Addr} {ks : List Str} {f m x : Str}
theorem d_fld (T : Klass X.K C ks) (i : Nat) (he : PD X e de) (hi : ks[i]? = some f := by rfl) (hb : attributeBase e f X.env (eval e X.env) = eval e X.env := by rfl) : PD X (.Attribute e f pos) (dFld C ks i de) := by
  obtain ⟨_, p, l⟩ := he.ex
  exact ⟨_, pe_fld p hb, lift_fld T hi l⟩
theorem s_fld (T : Klass X.K C ks) (i : Nat) (ho : PD X o dO) (hv : PD X v dv) (hi : ks[i]? = some f := by rfl) (hs : swapsWith v (some (.Attribute o f pos')) pos.line X.env = pure false := by rfl) : PDS X (.Assign [.Attribute o f pos'] v pos) (sFldD C ks i dO dv) := by
  obtain ⟨_, p, l⟩ := ho.ex
  obtain ⟨_, p2, l2⟩ := hv.ex
  exact ⟨_, ps_fld p p2 hs, lift_sfld T hi l l2⟩
theorem s_par3 {i j k : Nat} {x y z : Str} {px py pz pt : Pos} {kt k2 pt2} (hN : X.N.Nodup) (ha : PDA X [a, b, c] dA) (hc : X.calm = true := by rfl) (hi : X.N[i]? = some x := by rfl) (hj : X.N[j]? = some y := by rfl) (hk : X.N[k]? = some z := by rfl) (hij : i ≠ j := by decide) (hik : i ≠ k := by decide) (hjk : j ≠ k := by decide)
    (hx : X.env.scope.names.lookup x = some .local := by rfl) (hy : X.env.scope.names.lookup y = some .local := by rfl) (hz : X.env.scope.names.lookup z = some .local := by rfl)
    (hw : swappedStores [.Tuple [.Name x px, .Name y py, .Name z pz] kt pt] (.Tuple [a, b, c] k2 pt2) X.env = pure (some [x, y, z]) := by rfl)
    (hs : swapsWithSole [.Tuple [.Name x px, .Name y py, .Name z pz] kt pt] (.Tuple [a, b, c] k2 pt2) pos.line X.env = pure false := by rfl) :
    PDS X (.Assign [.Tuple [.Name x px, .Name y py, .Name z pz] kt pt] (.Tuple [a, b, c] k2 pt2) pos) (sPar3 i j k dA) := by
  obtain ⟨_, p, l⟩ := ha.ex
  exact ⟨_, ps_par3 hc hN hi hj hk hij hik hjk hx hy hz p hw hs, lift_par3 l⟩
theorem d_pop (ha : PD X a da) (hbase : attributeBase a "pop" X.env (eval a X.env) = eval a X.env := by rfl) (hline : (apos.endLine == pos.line) = true := by rfl) : PD X (.Call (.Attribute a "pop" apos) [] [] pos) (dPop da) := by
  obtain ⟨_, p, l⟩ := ha.ex
  exact ⟨_, pe_bm0 PySem.F.plainAttrs_list PySem.F.slot_list_pop PySem.F.type_list_pop mt_pop p hbase hline, lift_pop l⟩
end
/-! ### methods and makers as they are called -/
/-- a method of a class and its promise (self first) -/
structure DefM (P : Program) (w : World) (K : Fg) (mg : Str → Option Value) (base : Heap) (C : Addr) (m : Str) (k n : Nat) (sp : SpD) : Prop where
  ex : ∃ f fd ps, FnOk P w K mg base CX0 k f fd ps (toSp K n sp) ∧ Meth K C m f ∧ Binds K fd ps []
structure DefI (P : Program) (w : World) (K : Fg) (mg : Str → Option Value) (base : Heap) (x : Str) (C : Addr) (k n : Nat) (sp : SpD) : Prop where
  ex : ∃ f fd ps, FnOk P w K mg base CX0 k f fd ps (toSp K n sp) ∧ Mk K C f ∧ Binds K fd ps [] ∧ mg x = some (.ref C)
/-- a method's def as it stands -/
structure FunM (K : Fg) (C : Addr) (m qual : Str) (st : Stmt) (ps : List Str) : Prop where
  ex : ∃ f fd, Fun K m qual st f fd ∧ Meth K C m f ∧ Binds K fd ps []
structure FunI (K : Fg) (mg : Str → Option Value) (x : Str) (C : Addr) (qual : Str) (st : Stmt) (ps : List Str) : Prop where
  ex : ∃ f fd, Fun K "__init__" qual st f fd ∧ Mk K C f ∧ Binds K fd ps [] ∧ mg x = some (.ref C)
section
variable {P : Program} {w : World} {K : Fg} {mg : Str → Option Value} {base : Heap} {C : Addr} {m x qual : Str} {st : Stmt} {N ps : List Str} {j k n : Nat} {sp sp' : SpD}
theorem DefM.mono (d : DefM P w K mg base C m j n sp) (h : j ≤ k) : DefM P w K mg base C m k n sp := by
  obtain ⟨f, fd, ps, a, b⟩ := d.ex
  exact ⟨f, fd, ps, a.mono h, b⟩
theorem DefI.mono (d : DefI P w K mg base x C j n sp) (h : j ≤ k) : DefI P w K mg base x C k n sp := by
  obtain ⟨f, fd, ps, a, b⟩ := d.ex
  exact ⟨f, fd, ps, a.mono h, b⟩
theorem toSp_imp (h : ∀ rs S C, rs.length = n → sp' rs S C → sp rs S C) : ∀ vs H Q E, toSp K n sp' vs H Q E → toSp K n sp vs H Q E := fun vs H Q E ⟨hl, F, S, L, rs, C, o, lv, hs, q⟩ => ⟨hl, F, S, L, rs, C, o, lv, h rs S C ((paired_len lv).symm.trans hl) hs, q⟩
theorem DefM.imp (d : DefM P w K mg base C m k n sp) (h : ∀ rs S C, rs.length = n → sp' rs S C → sp rs S C) : DefM P w K mg base C m k n sp' := by
  obtain ⟨f, fd, ps, a, b⟩ := d.ex
  exact ⟨f, fd, ps, a.imp (toSp_imp h), b⟩
theorem DefI.imp (d : DefI P w K mg base x C k n sp) (h : ∀ rs S C, rs.length = n → sp' rs S C → sp rs S C) : DefI P w K mg base x C k n sp' := by
  obtain ⟨f, fd, ps, a, b⟩ := d.ex
  exact ⟨f, fd, ps, a.imp (toSp_imp h), b⟩
end
/-! ### weakenings: what is known is told otherwise (cells let go, frozen, in another order) -/
/-- of a value and the cells -/
def Wkn (r : R) (S : SH) (r' : R) (S' : SH) : Prop := ∀ (K : Fg) (F : SH) (H : Hp) (L : Live) (v : V), OkF K F H S ((v, r) :: L) → OkF K F H S' ((v, r') :: L)
/-- of a frame and the cells -/
def WkF (fr : Fr) (S : SH) (fr' : Fr) (S' : SH) : Prop := ∀ (K : Fg) (F : SH) (H : Hp) (σ : L2.St) (L : Live), FrOk σ fr L → OkF K F H S L → ∃ L', FrOk σ fr' L' ∧ OkF K F H S' L' ∧ ∀ e ∈ L, e ∈ L'
def WkC (C : CR0) : CR0 := fun r S => ∃ r' S', Wkn r S r' S' ∧ C r' S'
theorem WkC.of {C : CR0} {r : R} {S : SH} (h : C r S) : WkC C r S := ⟨r, S, fun _ _ _ _ _ o => o, h⟩
theorem wkn_sub {r : R} {S S1 S' : SH} (hp : S.Perm S1) (hs : S'.Sublist S1) : Wkn r S r S' := fun K F H L v o => (o.perm (hp.append_right F)).less (hs.append (List.Sublist.refl F))
theorem wkn_obj {p C : Addr} {ks : List Str} {rs : List R} {S : SH} (hl : rs.length = ks.length) : Wkn (.val (.ref p)) (.ins p C ks rs :: S) (.obj C ks rs) S := fun K F H L v o => by
  have e := o.val List.mem_cons_self
  subst e
  exact ((Ok.frzI (i := 0) o rfl hl)).sub (sub_cons tl_mem)
theorem wkn_lst {p : Addr} {ds : List PyData} {S : SH} : Wkn (.val (.ref p)) (.lst p (ds.map R.dat) :: S) (.dat (.list ds)) S := fun K F H L v o => by
  have e := o.val List.mem_cons_self
  subst e
  exact ((Ok.frz (i := 0) o rfl (dats_map ds))).sub (sub_cons tl_mem)
theorem Wkn.trans {r r' r'' : R} {S S' S'' : SH} (h : Wkn r S r' S') (g : Wkn r' S' r'' S'') : Wkn r S r'' S'' := fun K F H L v o => g K F H L v (h K F H L v o)
section
variable {P : Program} {w : World} {K : Fg} {mg : Str → Option Value} {base : Heap} {n : Nat} {sp : SpD}
theorem toSp_wk : ∀ vs H Q E, toSp K n sp vs H Q E → toSp K n (fun rs S C => ∃ C', sp rs S C' ∧ ∀ r S, WkC C' r S → C r S) vs H Q E := fun vs H Q E ⟨hl, F, S, L, rs, C, o, lv, hs, q⟩ =>
  ⟨hl, F, S, L, rs, WkC C, o, lv, ⟨C, hs, fun _ _ z => z⟩, fun v r S' H' o' ⟨r2, S2, hw, h2⟩ => q v r2 S2 H' (hw K F H' L v o') h2⟩
/-- THE RULE: a def's body, its ends weakened -/
theorem okD_wk {x qual : Str} {st : Stmt} {f : Addr} {fd : FuncData} {N ps : List Str} {k : Nat} (Fn : Fun K x qual st f fd) (Sc : FnScope N ps (defScope st)) (hn : ps.length = n)
    (hbody : ∀ (cdv : Value) (A : Around) (outer : List Env) (s : Shared) (H : Hp) (E : XK), Room k (A.deeper (envOfC qual (defScope st) s.heap.objs.size f cdv)) →
      ∃ ds, PDSs (cxOf CX0 P w K mg base N qual (defScope st) f cdv A outer s H E).nox (defBody st) ds ∧ ∀ rs S C, rs.length = n → sp rs S C → ds { nx := fun _ S => WkC C (.dat .none) S, rt := WkC C } (startF N rs) S) : FnOk P w K mg base CX0 (k + 1) f fd ps (toSp K n sp) := by
  refine (okD (sp := fun rs S C => ∃ C', sp rs S C' ∧ ∀ r S, WkC C' r S → C r S) Fn Sc hn fun cdv A outer s H E hr => ?_).imp toSp_wk
  obtain ⟨ds, hp, hd⟩ := hbody cdv A outer s H E hr
  obtain ⟨ts, pt, l⟩ := hp.ex
  refine ⟨fun D fr S => ∃ C', (∀ r S, WkC C' r S → D.rt r S) ∧ (∀ fr S, WkC C' (.dat .none) S → D.nx fr S) ∧ ds { nx := fun _ S => WkC C' (.dat .none) S, rt := WkC C' } fr S, ⟨ts, pt, fun F H σ fr S L f o D D' e ⟨C', h1, h2, h3⟩ => ?_⟩, fun rs S C hl ⟨C', hs, hw⟩ => ⟨C', hw, fun _ S q => hw _ S q, hd rs S C' hl hs⟩⟩
  exact l F H σ fr S L f o D { nx := fun _ S => WkC C' (.dat .none) S, rt := WkC C' } ⟨fun σ' fr' S' H' L' f' o' s' q => e.nx σ' fr' S' H' L' f' o' s' (h2 fr' S' q), fun v r S' H' o' q => e.rt v r S' H' o' (h1 r S' q), fun _ _ _ _ _ _ _ _ q => q.elim, fun _ _ _ _ _ _ _ _ q => q.elim⟩ h3
theorem okW {x : Str} {st : Stmt} {N ps : List Str} {k : Nat} (Fn : FunAt K mg x st ps) (Sc : FnScope N ps (defScope st)) (hn : ps.length = n)
    (hbody : ∀ (cdv : Value) (A : Around) (outer : List Env) (s : Shared) (H : Hp) (E : XK) (f : Addr), Room k (A.deeper (envOfC x (defScope st) s.heap.objs.size f cdv)) →
      ∃ ds, PDSs (cxOf CX0 P w K mg base N x (defScope st) f cdv A outer s H E).nox (defBody st) ds ∧ ∀ rs S C, rs.length = n → sp rs S C → ds { nx := fun _ S => WkC C (.dat .none) S, rt := WkC C } (startF N rs) S) : Def P w K mg base x (k + 1) n sp := by
  obtain ⟨f, fd, Fu, hm, hb⟩ := Fn.ex
  exact ⟨f, fd, ps, okD_wk Fu Sc hn fun cdv A outer s H E hr => hbody cdv A outer s H E f hr, hm, Fu.kp, hb⟩
theorem okM {C : Addr} {m qual : Str} {st : Stmt} {N ps : List Str} {k : Nat} (Fn : FunM K C m qual st ps) (Sc : FnScope N ps (defScope st)) (hn : ps.length = n)
    (hbody : ∀ (cdv : Value) (A : Around) (outer : List Env) (s : Shared) (H : Hp) (E : XK) (f : Addr), Room k (A.deeper (envOfC qual (defScope st) s.heap.objs.size f cdv)) →
      ∃ ds, PDSs (cxOf CX0 P w K mg base N qual (defScope st) f cdv A outer s H E).nox (defBody st) ds ∧ ∀ rs S C, rs.length = n → sp rs S C → ds { nx := fun _ S => WkC C (.dat .none) S, rt := WkC C } (startF N rs) S) : DefM P w K mg base C m (k + 1) n sp := by
  obtain ⟨f, fd, Fu, hm, hb⟩ := Fn.ex
  exact ⟨f, fd, ps, okD_wk Fu Sc hn fun cdv A outer s H E hr => hbody cdv A outer s H E f hr, hm, hb⟩
theorem okI {x : Str} {C : Addr} {qual : Str} {st : Stmt} {N ps : List Str} {k : Nat} (Fn : FunI K mg x C qual st ps) (Sc : FnScope N ps (defScope st)) (hn : ps.length = n)
    (hbody : ∀ (cdv : Value) (A : Around) (outer : List Env) (s : Shared) (H : Hp) (E : XK) (f : Addr), Room k (A.deeper (envOfC qual (defScope st) s.heap.objs.size f cdv)) →
      ∃ ds, PDSs (cxOf CX0 P w K mg base N qual (defScope st) f cdv A outer s H E).nox (defBody st) ds ∧ ∀ rs S C, rs.length = n → sp rs S C → ds { nx := fun _ S => WkC C (.dat .none) S, rt := WkC C } (startF N rs) S) : DefI P w K mg base x C (k + 1) n sp := by
  obtain ⟨f, fd, Fu, hm, hb, hx⟩ := Fn.ex
  exact ⟨f, fd, ps, okD_wk Fu Sc hn fun cdv A outer s H E hr => hbody cdv A outer s H E f hr, hm, hb, hx⟩
end
/-- a weakening ahead of a block -/
def sWk (ds : DS) : DS := fun D fr S => ∃ fr' S', WkF fr S fr' S' ∧ ds D fr' S'
section
variable {X : Cx} {a b c e o v : Expr} {da db dc de dO dv : DE} {dA : DA} {pos pos' p apos : Pos} {es : List Expr} {C : Addr} {ks : List Str} {f m x : Str} {sts : List Stmt} {ds : DS}
theorem ss_wk (h : PDSs X sts ds) : PDSs X sts (sWk ds) := by
  obtain ⟨ts, p, l⟩ := h.ex
  exact ⟨ts, p, fun F H σ fr S L fo o D D' e ⟨fr', S', hw, hd⟩ => by
    obtain ⟨L', f', o', s'⟩ := hw X.K F H σ L fo o
    exact l F H σ fr' S' L' f' o' D D' (e.mono s') hd⟩
theorem d_meth {sp : SpD} {k n : Nat} {pl : Sem Bool} (T : Klass X.K C ks) (d : DefM X.prog X.w X.K X.mg X.base C m k n sp) (hr : Room k X.A) (hm : m ∉ ks) (ho : PD X o dO) (ha : PDA X (e :: es) dA)
    (hst : starEach (e :: es) X.env = (false, eval e X.env) :: starEach es X.env := by rfl) (hpl : (backTo pos (starEach es X.env)).any (·.1) = false := by rfl)
    (ht : eval (.Call (.Attribute o m apos) (e :: es) [] pos) X.env = (do
      let ov ← eval o X.env
      standAt apos.atName
      let (f, first) ← holding [ov] (getMethod ov m pl)
      callWith pos f first (backTo pos (starEach (e :: es) X.env)) (backToKw pos (keywordEach [] X.env))) := by rfl) :
    PD X (.Call (.Attribute o m apos) (e :: es) [] pos) (dMeth C ks n sp dO dA) := by
  obtain ⟨f, fd, ps, F, hM, hb⟩ := d.ex
  obtain ⟨_, p1, l1⟩ := ho.ex
  obtain ⟨_, p2, l2⟩ := ha.ex
  exact ⟨_, pe_meth p1 T.cl hM F hr hb .nil pass0 p2 hst hpl ht, lift_meth hm l1 l2⟩
theorem d_meth0 {sp : SpD} {k n : Nat} {pl : Sem Bool} (T : Klass X.K C ks) (d : DefM X.prog X.w X.K X.mg X.base C m k n sp) (hr : Room k X.A) (hm : m ∉ ks) (ho : PD X o dO)
    (ht : eval (.Call (.Attribute o m apos) [] [] pos) X.env = (do
      let ov ← eval o X.env
      standAt apos.atName
      let (f, first) ← holding [ov] (getMethod ov m pl)
      callWith pos f first (backTo pos (starEach [] X.env)) (backToKw pos (keywordEach [] X.env))) := by rfl) :
    PD X (.Call (.Attribute o m apos) [] [] pos) (dMeth C ks n sp dO dNil) := by
  obtain ⟨f, fd, ps, F, hM, hb⟩ := d.ex
  obtain ⟨_, p1, l1⟩ := ho.ex
  exact ⟨_, pe_meth0 p1 T.cl hM F hr hb .nil pass0 ht, lift_meth hm l1 lift_nil⟩
theorem d_make {sp : SpD} {k n : Nat} (ks : List Str) (d : DefI X.prog X.w X.K X.mg X.base x C k n sp) (hr : Room (k + 1) X.A) (hg : Gl X x) (ha : PDA X (e :: es) dA) (hdb : (x == ("__debug__" : Str)) = false := by decide) (he : starEach (e :: es) X.env = (false, eval e X.env) :: starEach es X.env := by rfl) (hpl : (backTo pos (starEach es X.env)).any (·.1) = false := by rfl) :
    PD X (.Call (.Name x p) (e :: es) [] pos) (dMake C ks n sp dA) := by
  obtain ⟨f, fd, ps, F, M, hb, hm⟩ := d.ex
  obtain ⟨_, p2, l2⟩ := ha.ex
  exact ⟨_, pe_make M F hr hg hm hb .nil pass0 p2 hdb he hpl, lift_make l2⟩
end
end DL
set_option Elab.async false
set_option linter.all false
set_option maxRecDepth 100000
set_option maxHeartbeats 4000000
/-! DL: zip of a text and a tuple; written dicts and tuples; (x,) * n; comprehensions over a list that is a cell. -/
namespace DL
open PySem PySem.Spec PyProof.Rows L2

/-! ### zip(text, tuple) -/
def ItzS (K : Fg) (z : Str) (b : Addr) : It :=
  ⟨fun i H => i < z.cps.size ∧ ∃ (ys : List V) (y : V), SqT K H b ys ∧ ys[i]? = some y,
    fun i H v H' => ∃ T c y, v = .ref T ∧ H T = none ∧ H' = upd H T (.tup [.str ⟨#[c]⟩, y]) ∧ z.cps[i]? = some c ∧ ∀ ys, SqT K H b ys → ys[i]? = some y,
    fun i H => ∃ ys : List V, SqT K H b ys ∧ i = min z.cps.size ys.length⟩
theorem turn_zipS {P : Program} {w : World} {K : Fg} {elts : List Expr} {kk : Nat} {tpos : Pos} {z : Str} {tk0 : Tok} {b zz TI TO i1 i2 : Addr} (D : ZipSep2 zz TI TO i1 i2 [i1] [i2, b]) (hne : b ≠ i2) :
    Turn P w K (.Tuple elts kk tpos) (ItzS K z b) [zz, TI, TO, i1, i2] zz (fun i h => IsZip h zz TI TO .none ∧ IsTupOf2 h TI (.ref i1) (.ref i2) ∧ (∃ x y, IsTupOf2 h TO x y) ∧ h.IsStrIter i1 (strIterType z) z tk0 i ∧ h.IsTupleIter i2 b i) where
  mem := by simp
  obj := fun i h st c hc => by
    obtain ⟨hz, hTI, ⟨x, y, hTO⟩, ⟨o1, e1, _, d1⟩, ⟨o2, e2, _, d2⟩⟩ := st
    have e' : c = zz ∨ c = TI ∨ c = TO ∨ c = i1 ∨ c = i2 := by simpa using hc
    rcases e' with q | q | q | q | q
    · rw [q]; exact ⟨_, hz, fun v q => nomatch q⟩
    · rw [q]; exact ⟨_, hTI, fun v q => nomatch q⟩
    · rw [q]; exact ⟨_, hTO, fun v q => nomatch q⟩
    · rw [q]; exact ⟨o1, e1, fun v q => by rw [d1] at q; cases q⟩
    · rw [q]; exact ⟨o2, e2, fun v q => by rw [d2] at q; cases q⟩
  keep := fun i h h' st k => by
    obtain ⟨hz, hTI, ⟨x, y, hTO⟩, ⟨o1, e1, r1⟩, h2⟩ := st
    exact ⟨k zz (by simp) _ hz, k TI (by simp) _ hTI, ⟨x, y, k TO (by simp) _ hTO⟩, ⟨o1, k i1 (by simp) o1 e1, r1⟩, h2.at fun o q => k i2 (by simp) o q⟩
  item := by
    intro X hP hw hK hc i pins s σ H E I hf st hg
    subst hP hw hK
    obtain ⟨hz, hTI, hTO, h1, h2⟩ := st
    obtain ⟨hlt, ys, y, hqy, hy⟩ := hg
    obtain ⟨its, rv, p, _⟩ := I.tuple hqy
    obtain ⟨u, hu, ru⟩ := rv.get hy
    have hhd : X.A.in1.handled = none := I.ok.hd hc
    have G := GoesN.zip2 (prog := X.prog) (w := X.w) (A := X.A) (elts := elts) (x1 := kk) (pos := tpos) D (Draws.text hhd i1 z tk0) (Draws.tuple hhd i2 b hne its.toArray)
    have hlt2 : i < its.toArray.size := by
      have := (List.getElem?_eq_some_iff.mp hu).1
      simpa using this
    refine G.goes i s _ _ (by omega) ⟨hz, hTI, hTO, h1, h2, p⟩ fun v h' tk hY st' hk htk => ?_
    obtain ⟨T, xv, yv, rfl, hT0, ⟨c, t, hcx, rfl⟩, hyv, hT⟩ := hY
    have eyv : yv = u := by
      have e1 : its[i]? = some yv := by simpa using hyv
      rw [hu] at e1
      exact (Option.some.inj e1).symm
    subst eyv
    have new : ObjOk X.prog X.w (upd H T (.tup [.str ⟨#[c]⟩, y])) h' T (.tup [.str ⟨#[c]⟩, y]) :=
      ⟨by show 2 ≤ sizeLine; decide, [.str ⟨#[c]⟩ t, yv], .cons ⟨t, rfl⟩ (.cons ru .nil), hT⟩
    have I1 : Inv X pins σ (upd H T (.tup [.str ⟨#[c]⟩, y])) { s with heap := h', toks := tk } :=
      I.turnedNew (t' := tk) (ch := [zz, TI, TO, i1, i2]) (fun c o hb q => hk c o (fun q' => hb (by
        have q'' : c = zz ∨ c = TO ∨ c = i1 ∨ c = i2 := by simpa using q'
        rcases q'' with q'' | q'' | q'' | q'' <;> simp [q''])) q) hf hT0 new
    refine ⟨.ref T, _, I1, rfl, ⟨T, c, y, rfl, I.hok.fresh hT0, rfl, hcx, fun l hl => by rw [I.tuple_inj hl hqy]; exact hy⟩, ⟨st'.1, st'.2.1, st'.2.2.1, st'.2.2.2.1, st'.2.2.2.2.1⟩, fun c' hcm => ?_⟩
    have hlt : c' < s.heap.objs.size := by
      obtain ⟨x0, y0, hTO'⟩ := hTO
      have e' : c' = zz ∨ c' = TI ∨ c' = TO ∨ c' = i1 ∨ c' = i2 := by simpa using hcm
      rcases e' with q | q | q | q | q
      · rw [q]; exact Heap.lt_size hz
      · rw [q]; exact Heap.lt_size hTI
      · rw [q]; exact Heap.lt_size hTO'
      · rw [q]; obtain ⟨_, e1, _⟩ := h1; exact Heap.lt_size e1
      · rw [q]; obtain ⟨_, e2, _⟩ := h2; exact Heap.lt_size e2
    rw [upd_ne (Nat.ne_of_lt (Nat.lt_of_lt_of_le hlt hT0))]
    exact (hf c' hcm).1
  done := by
    intro X hP hw hK hc i pins s σ H E I hf st hg
    subst hP hw hK
    obtain ⟨hz, hTI, hTO, h1, h2⟩ := st
    obtain ⟨ys, hqy, hend⟩ := hg
    obtain ⟨its, rv, p, _⟩ := I.tuple hqy
    have l1 := rv.length
    have hhd : X.A.in1.handled = none := I.ok.hd hc
    have G := GoesN.zip2 (prog := X.prog) (w := X.w) (A := X.A) (elts := elts) (x1 := kk) (pos := tpos) D (Draws.text hhd i1 z tk0) (Draws.tuple hhd i2 b hne its.toArray)
    have e : i = min z.cps.size its.toArray.size := by rw [hend, l1]; simp
    subst e
    exact wpAny_mono (G.stops s (fun s1 => Inv X pins σ H s1) _ ⟨hz, hTI, hTO, h1, h2, p⟩ fun h' tk hk htk => I.turnedL (t' := tk) (ch := [zz, TI, TO, i1, i2]) (fun c o hb q =>
      hk c o (fun q' => hb (by
        have q'' : c = zz ∨ c = TO ∨ c = i1 ∨ c = i2 := by simpa using q'
        rcases q'' with q'' | q'' | q'' | q'' <;> simp [q''])) q) hf) (fun _ _ h => h) (fun _ _ h => h)
  self := fun A i s Q E st h => wpAny_pyIter_zip st.1 h
def iZipS (K : Fg) (ta : TA) : TI := fun σ H R => ta σ H fun vs H1 => ∃ z b ys, vs = [.str z, .ref b] ∧ SqT K H1 b ys ∧ R (ItzS K z b) H1
theorem pi_zipS {X : Cx} {e e2 : Expr} {ta : TA} {p pos tpos : Pos} {elts : List Expr} {kk : Nat} (hg : Gl X "zip") (hm : X.mg "zip" = none) (ha : PA X [e, e2] ta)
    (hs : starEach [e, e2] X.env = (false, eval e X.env) :: starEach [e2] X.env := by rfl) (hpl : (backTo pos (starEach [e2] X.env)).any (·.1) = false := by rfl) :
    PI X (.Tuple elts kk tpos) (.Call (.Name "zip" p) [e, e2] [] pos) (iZipS X.K ta) := by
  refine ⟨fun pins s σ H R I h => ?_⟩
  refine Call_ (ld_blt I hg hm PyProof.Rows.boot_zip (PyProof.Rows.callWith_type1 (thn (ha.run pos pins s σ H _ I h) fun us s1 ⟨vs, H1, I1, r1, q1⟩ => ?_) hs hpl))
  obtain ⟨z, b, ys, ex, hqy, q⟩ := q1
  subst ex
  cases r1 with
  | cons r rr =>
    cases rr with
    | cons r' rr =>
      cases rr
      obtain ⟨t, rfl⟩ := r
      cases r'
      have fresh5 : ∀ c, c ∈ [s1.heap.objs.size + 4, s1.heap.objs.size + 2, s1.heap.objs.size + 3, s1.heap.objs.size, s1.heap.objs.size + 1] → FpOk X pins H1 c := fun c hcm => by
        have e' : c = s1.heap.objs.size + 4 ∨ c = s1.heap.objs.size + 2 ∨ c = s1.heap.objs.size + 3 ∨ c = s1.heap.objs.size ∨ c = s1.heap.objs.size + 1 := by simpa using hcm
        have hle : s1.heap.objs.size ≤ c := by
          rcases e' with z | z | z | z | z
          · rw [z]; exact Nat.le_add_right _ _
          · rw [z]; exact Nat.le_add_right _ _
          · rw [z]; exact Nat.le_add_right _ _
          · rw [z]; exact Nat.le_refl _
          · rw [z]; exact Nat.le_add_right _ _
        exact I1.fpOk hle (I1.hok.fresh hle)
      obtain ⟨its, rv, p1, _⟩ := I1.tuple hqy
      obtain ⟨o1, ho1, _⟩ := id p1
      have hb : b < s1.heap.objs.size := Heap.lt_size ho1
      have nadd : ∀ (n k m : Nat), k ≠ m → n + k ≠ n + m := fun n k m h e => h (Nat.add_left_cancel e)
      have nz : ∀ (n k : Nat), k ≠ 0 → n + k ≠ n := fun n k h e => h (Nat.add_left_cancel (m := k) (k := 0) e)
      have sep : ZipSep2 (s1.heap.objs.size + 4) (s1.heap.objs.size + 2) (s1.heap.objs.size + 3) s1.heap.objs.size (s1.heap.objs.size + 1) [s1.heap.objs.size] [s1.heap.objs.size + 1, b] := by
        generalize s1.heap.objs.size = n at hb
        have hb' : ∀ k : Nat, n + k ≠ b := fun k e => Nat.lt_irrefl _ (Nat.lt_of_le_of_lt (Nat.le_add_right n k) (e ▸ hb))
        have hb0 : n ≠ b := fun e => Nat.lt_irrefl _ (e ▸ hb)
        refine ⟨nadd _ _ _ (by decide), nadd _ _ _ (by decide), nadd _ _ _ (by decide), nz _ _ (by decide), List.mem_singleton.mpr rfl, fun z => nz _ _ (by decide) (List.mem_singleton.mp z), fun z => nz _ _ (by decide) (List.mem_singleton.mp z), nadd _ _ _ (by decide), List.mem_cons_self, fun z => ?_, fun z => ?_, fun z => ?_, fun z => nz _ _ (by decide) (List.mem_singleton.mp z)⟩
        · rcases List.mem_cons.mp z with z | z
          · exact nadd _ _ _ (by decide) z
          · exact hb' _ (List.mem_singleton.mp z)
        · rcases List.mem_cons.mp z with z | z
          · exact nadd _ _ _ (by decide) z
          · exact hb' _ (List.mem_singleton.mp z)
        · rcases List.mem_cons.mp z with z | z
          · exact nz _ _ (by decide) z.symm
          · exact hb0 (List.mem_singleton.mp z)
      refine zip_begins2 (begins_text z t) (begins_tuple b its.toArray) trivial p1 fun h' hz hTI hTO h1 h2 hsz hk => wpAny_pyIter_zip hz ?_
      have I2 : Inv X pins σ H1 { s1 with heap := h' } := I1.kept (t' := s1.toks) hk
      exact ⟨s1.heap.objs.size + 4, [s1.heap.objs.size + 4, s1.heap.objs.size + 2, s1.heap.objs.size + 3, s1.heap.objs.size, s1.heap.objs.size + 1], _, _, H1, rfl, I2, turn_zipS (tk0 := t) sep (fun e => Nat.lt_irrefl _ (Nat.lt_of_le_of_lt (Nat.le_add_right _ 1) (e ▸ hb))), ⟨hz, hTI, ⟨_, _, hTO⟩, ⟨_, h1, rfl, rfl⟩, ⟨_, h2, rfl, rfl⟩⟩, fresh5, q⟩
section
variable {K : Fg}
def zipSD (z : Str) (ds : List PyData) : List R := (z.cps.toList.zip ds).map fun q => R.dat (.tuple [.str ⟨#[q.1]⟩, q.2])
def iZs (da : DA) : DI := fun fr S C => da fr S fun rs S1 => match rs with
  | [.dat (.str z), .dat (.tuple ds)] => C (zipSD z ds) S1
  | _ => False
theorem it_zipS {z : Str} {b : Addr} {ds : List PyData} {L : Live} (m : (V.ref b, R.dat (.tuple ds)) ∈ L) : ItOk K (ItzS K z b) (zipSD z ds) L := fun H T L' o s i => by
  have hr := o.dat (s _ m)
  cases hr with | @tup _ xs _ h1 q1 =>
  have hq : SqT K H b xs := sqT_of (A := Av T) h1
  unfold zipSD
  refine ⟨fun r e => ?_, fun hl => ⟨xs, hq, ?_⟩⟩
  · rw [List.getElem?_map] at e
    cases e1 : (z.cps.toList.zip ds)[i]? with
    | none => rw [e1] at e; cases e
    | some q =>
      rw [e1] at e
      cases e
      obtain ⟨c, d⟩ := q
      obtain ⟨ec, ed⟩ : z.cps.toList[i]? = some c ∧ ds[i]? = some d := by
        rw [List.getElem?_zip_eq_some] at e1
        exact e1
      obtain ⟨v, ev, rv⟩ := q1.get' ed
      have ec' : z.cps[i]? = some c := by simpa using ec
      refine ⟨⟨(Array.getElem?_eq_some_iff.mp ec').1, xs, v, hq, ev⟩, fun x H' y => ?_⟩
      obtain ⟨T', c', y', rfl, hT, rfl, hc', y⟩ := y
      have e3 := y xs hq
      rw [ev] at e3
      cases e3
      rw [ec'] at hc'
      cases hc'
      exact o.tup hT (.cons (.str _) (.cons rv .nil))
  · rw [List.length_map, List.length_zip] at hl
    rw [q1.length, ← hl]
    simp
theorem lift_zipS {ta : TA} {da : DA} (l : LiftA K ta da) : LiftI K (iZipS K ta) (iZs da) := fun F H σ fr S L f o C Rr h q => by
  refine l F H σ fr S L f o _ _ h fun vs rs S1 H1 L1 o1 s1 lv h1 => ?_
  split at h1
  · cases lv with | cons m t => cases t with | cons m2 t =>
    cases t
    have hr := o1.dat m
    cases hr
    have hr2 := o1.dat m2
    cases hr2 with | tup e1 q1 =>
    exact ⟨_, _, _, rfl, sqT_of (A := Av S1) e1, q _ _ S1 H1 L1 o1 s1 (it_zipS m2) h1⟩
  · exact h1.elim
end
section
variable {X : Cx} {a b e : Expr} {dA : DA} {pos : Pos}
theorem i_zipS {p tpos : Pos} {elts : List Expr} {kk : Nat} (hg : Gl X "zip") (hm : X.mg "zip" = none) (ha : PDA X [a, b] dA) (hs : starEach [a, b] X.env = (false, eval a X.env) :: starEach [b] X.env := by rfl) (hpl : (backTo pos (starEach [b] X.env)).any (·.1) = false := by rfl) :
    PDI X (.Tuple elts kk tpos) (.Call (.Name "zip" p) [a, b] [] pos) (iZs dA) := by
  obtain ⟨_, p, l⟩ := ha.ex
  exact ⟨_, pi_zipS hg hm p hs hpl, lift_zipS l⟩
end
end DL
set_option Elab.async false
set_option linter.all false
set_option maxRecDepth 100000
set_option maxHeartbeats 4000000
/-! DL: enumerate of a tuple. -/
namespace DL
open PySem PySem.Spec PyProof.Rows L2

theorem meets_enum1 {v : Value} {o : Obj} {H : Heap → Prop} (B : Begins v o H) :
    Meets (Builtin.«enumerate.__new__» ⟨[.type "enumerate", v], []⟩) (fun _ R s => H s.heap ∧
      R (.ok (.ret (.ref (s.heap.push o).objs.size))) { s with heap := (s.heap.push o).push { cls := .type "enumerate", data := .fields #[.none, .bool false, .ref s.heap.objs.size, rawInt 0, .none, .none] } }) :=
  .of_wp fun prog w A R s h => by
    obtain ⟨hp, g, d, tk, os⟩ := s; obtain ⟨h1, h⟩ := h
    have hsub := sub_enumerate
    have q1 : ∀ {A' : Around} {E : Value → Shared → Prop} {Q : Value → Shared → Prop}, Q (.ref hp.objs.size) ⟨hp.push o, g, d, tk, os⟩ → wpAny (model prog w) A' (pyIter v) Q E ⟨hp, g, d, tk, os⟩ :=
      fun q => B.iter prog w _ _ ⟨hp, g, d, tk, os⟩ _ h1 q
    wp_walk using q1
    refine wpAny_stack_any fun st => wpAny_pure ?_
    split
    · rename_i c _ _ _ _ _
      cases (c == Value.type "enumerate")
      · wp_walk using q1
        exact ⟨_, rfl, h⟩
      · wp_walk using q1
        exact ⟨_, rfl, h⟩
    · wp_walk using q1
      exact ⟨_, rfl, h⟩
section
variable {prog : Program} {w : World} {A : Around} {E : Value → Shared → Prop} {s : Shared}
theorem enum_begins1 {v : Value} {o : Obj} {H : Heap → Prop} {Q : Value → Shared → Prop} (B : Begins v o H) (h1 : H s.heap)
    (h : ∀ h', IsEnum h' (s.heap.objs.size + 1) s.heap.objs.size 0 .none → h'.get? s.heap.objs.size = some o → h'.objs.size = s.heap.objs.size + 2 →
      (∀ b o, s.heap.get? b = some o → h'.get? b = some o) → Q (.ref (s.heap.objs.size + 1)) { s with heap := h' }) :
    wpAny (model prog w) A (call (.type "enumerate") [v]) Q E s := by
  refine callType_new F.called_enumerate (by decide) (F.typeCall_enumerate_1 _) (F.newCall_enumerate_1 _) (fun obj => F.args_object_init_2 obj _) F.entry_enumerate_new
    (meets_enum1 B) ⟨h1, ?_⟩
  have hz : (s.heap.push o).objs.size = s.heap.objs.size + 1 := Heap.size_push ..
  show _ ∧ _
  rw [hz]
  have he : IsEnum ((s.heap.push o).push { cls := .type "enumerate", data := .fields #[.none, .bool false, .ref s.heap.objs.size, rawInt 0, .none, .none] }) (s.heap.objs.size + 1) s.heap.objs.size 0 .none := by
    have := Heap.get?_push_size (s.heap.push o) (o := { cls := .type "enumerate", data := .fields #[.none, .bool false, .ref s.heap.objs.size, rawInt 0, .none, .none] }) rfl
    rw [hz] at this; exact this
  refine ⟨⟨_, he, rfl⟩, h _ he (Heap.get?_push_of_some _ (Heap.get?_push_size _ B.free)) (by rw [Heap.size_push, hz]) fun b o x => Heap.get?_push_of_some _ (Heap.get?_push_of_some _ x)⟩
end
def IteT (K : Fg) (b : Addr) : It :=
  ⟨fun i H => ∃ (ys : List V) (y : V), SqT K H b ys ∧ ys[i]? = some y,
    fun i H v H' => ∃ T y, v = .ref T ∧ H T = none ∧ H' = upd H T (.tup [.int (i : Int), y]) ∧ ∀ ys, SqT K H b ys → ys[i]? = some y,
    fun i H => ∃ ys : List V, SqT K H b ys ∧ i = ys.length⟩
theorem turn_enumT {P : Program} {w : World} {K : Fg} {elts : List Expr} {kk : Nat} {tpos : Pos} {b e it : Addr} (hei : e ≠ it) (heb : e ≠ b) (hne : b ≠ it) :
    Turn P w K (.Tuple elts kk tpos) (IteT K b) [e, it] e (fun i h => (∃ old, IsEnum h e it (0 + (i : Int)) old) ∧ h.IsTupleIter it b i) where
  mem := by simp
  obj := fun i h st c hc => by
    obtain ⟨⟨old, he⟩, ⟨o2, e2, _, d2⟩⟩ := st
    have e' : c = e ∨ c = it := by simpa using hc
    rcases e' with q | q
    · rw [q]; exact ⟨_, he, fun v q => nomatch q⟩
    · rw [q]; exact ⟨o2, e2, fun v q => by rw [d2] at q; cases q⟩
  keep := fun i h h' st k => by
    obtain ⟨⟨old, he⟩, h2⟩ := st
    exact ⟨⟨old, k e (by simp) _ he⟩, h2.at fun o q => k it (by simp) o q⟩
  item := by
    intro X hP hw hK hc i pins s σ H E I hf st hg
    subst hP hw hK
    obtain ⟨⟨old, he⟩, h2⟩ := st
    obtain ⟨ys, y, hqy, hy⟩ := hg
    obtain ⟨its, rv, p, _⟩ := I.tuple hqy
    obtain ⟨u, hu, ru⟩ := rv.get hy
    have hhd : X.A.in1.handled = none := I.ok.hd hc
    have G := GoesN.enumFrom (prog := X.prog) (w := X.w) (A := X.A) (elts := elts) (x1 := kk) (pos := tpos) 0 (Draws.tuple hhd it b hne its.toArray) e hei (by
      intro z
      have z' : e = it ∨ e = b := by simpa using z
      rcases z' with z' | z'
      · exact hei z'
      · exact heb z') (by simp)
    have hlt2 : i < its.toArray.size := by
      have := (List.getElem?_eq_some_iff.mp hu).1
      simpa using this
    refine G.goes i s _ _ hlt2 ⟨⟨old, he⟩, h2, p⟩ fun v h' tk hY st' hk htk => ?_
    obtain ⟨T, t, yv, rfl, hT0, hyv, hT⟩ := hY
    have eyv : yv = u := by
      have e1 : its[i]? = some yv := by simpa using hyv
      rw [hu] at e1
      exact (Option.some.inj e1).symm
    subst eyv
    have e0 : (0 : Int) + (i : Int) = (i : Int) := Int.zero_add _
    rw [e0] at hT
    have new : ObjOk X.prog X.w (upd H T (.tup [.int (i : Int), y])) h' T (.tup [.int (i : Int), y]) :=
      ⟨by show 2 ≤ sizeLine; decide, [.int (i : Int) t, yv], .cons ⟨t, rfl⟩ (.cons ru .nil), hT⟩
    have I1 : Inv X pins σ (upd H T (.tup [.int (i : Int), y])) { s with heap := h', toks := tk } :=
      I.turnedNew (t' := tk) (ch := [e, it]) (fun c o hb q => hk c o hb q) hf hT0 new
    refine ⟨.ref T, _, I1, rfl, ⟨T, y, rfl, I.hok.fresh hT0, rfl, fun l hl => by rw [I.tuple_inj hl hqy]; exact hy⟩, ⟨st'.1, st'.2.1⟩, fun c' hcm => ?_⟩
    have hlt : c' < s.heap.objs.size := by
      have e' : c' = e ∨ c' = it := by simpa using hcm
      rcases e' with q | q
      · rw [q]; exact Heap.lt_size he
      · rw [q]; obtain ⟨_, e2, _⟩ := h2; exact Heap.lt_size e2
    rw [upd_ne (Nat.ne_of_lt (Nat.lt_of_lt_of_le hlt hT0))]
    exact (hf c' hcm).1
  done := by
    intro X hP hw hK hc i pins s σ H E I hf st hg
    subst hP hw hK
    obtain ⟨⟨old, he⟩, h2⟩ := st
    obtain ⟨ys, hqy, hend⟩ := hg
    obtain ⟨its, rv, p, _⟩ := I.tuple hqy
    have l1 := rv.length
    have hhd : X.A.in1.handled = none := I.ok.hd hc
    have G := GoesN.enumFrom (prog := X.prog) (w := X.w) (A := X.A) (elts := elts) (x1 := kk) (pos := tpos) 0 (Draws.tuple hhd it b hne its.toArray) e hei (by
      intro z
      have z' : e = it ∨ e = b := by simpa using z
      rcases z' with z' | z'
      · exact hei z'
      · exact heb z') (by simp)
    have e : i = its.toArray.size := by rw [hend, l1]; simp
    subst e
    exact wpAny_mono (G.stops s (fun s1 => Inv X pins σ H s1) _ ⟨⟨old, he⟩, h2, p⟩ fun h' tk hk htk => I.turnedL (t' := tk) (fun c o hb q => hk c o hb q) hf) (fun _ _ h => h) (fun _ _ h => h)
  self := fun A i s Q E st h => by
    obtain ⟨⟨old, he⟩, _⟩ := st
    exact wpAny_pyIter_enum he h
def iEnumT (K : Fg) (ta : TA) : TI := fun σ H R => ta σ H fun vs H1 => ∃ b ys, vs = [.ref b] ∧ SqT K H1 b ys ∧ R (IteT K b) H1
theorem pi_enumT {X : Cx} {e : Expr} {ta : TA} {p pos tpos : Pos} {elts : List Expr} {kk : Nat} (hg : Gl X "enumerate") (hm : X.mg "enumerate" = none) (ha : PA X [e] ta) (hs : starEach [e] X.env = [(false, eval e X.env)] := by rfl) :
    PI X (.Tuple elts kk tpos) (.Call (.Name "enumerate" p) [e] [] pos) (iEnumT X.K ta) := by
  refine ⟨fun pins s σ H R I h => ?_⟩
  refine Call_ (ld_blt I hg hm boot_enumerate (PyProof.Rows.callWith_type1 (thn (ha.run pos pins s σ H _ I h) fun us s1 ⟨vs, H1, I1, r1, q1⟩ => ?_) hs rfl))
  obtain ⟨b, ys, ex, hq, q⟩ := q1
  subst ex
  cases r1 with
  | cons r rr =>
    cases rr
    cases r
    obtain ⟨its, rv, p1, _⟩ := I1.tuple hq
    obtain ⟨o1, ho1, _⟩ := id p1
    have hb : b < s1.heap.objs.size := Heap.lt_size ho1
    refine enum_begins1 (begins_tuple b its.toArray) p1 fun h' he h2 hsz hk => wpAny_pyIter_enum he ?_
    have I2 : Inv X pins σ H1 { s1 with heap := h' } := I1.kept (t' := s1.toks) hk
    refine ⟨s1.heap.objs.size + 1, [s1.heap.objs.size + 1, s1.heap.objs.size], _, _, H1, rfl, I2, turn_enumT (b := b) (Nat.succ_ne_self _) (fun e => Nat.lt_irrefl _ (Nat.lt_of_le_of_lt (Nat.le_add_right _ 1) (e ▸ hb))) (fun e => Nat.lt_irrefl _ (e ▸ hb)), ⟨⟨.none, he⟩, ⟨_, h2, rfl, rfl⟩⟩, fun b' hb' => ?_, q⟩
    have e' : b' = s1.heap.objs.size + 1 ∨ b' = s1.heap.objs.size := by simpa using hb'
    have hle : s1.heap.objs.size ≤ b' := by
      rcases e' with z | z
      · rw [z]; exact Nat.le_add_right _ _
      · rw [z]; exact Nat.le_refl _
    exact I1.fpOk hle (I1.hok.fresh hle)
section
variable {K : Fg}
def iEnT (da : DA) : DI := fun fr S C => da fr S fun rs S1 => match rs with
  | [.dat (.tuple ds)] => C (enumD ds) S1
  | _ => False
theorem it_enumT {b : Addr} {ds : List PyData} {L : Live} (m : (V.ref b, R.dat (.tuple ds)) ∈ L) : ItOk K (IteT K b) (enumD ds) L := fun H T L' o s i => by
  have hr := o.dat (s _ m)
  cases hr with | @tup _ xs _ h1 q1 =>
  have hq : SqT K H b xs := sqT_of (A := Av T) h1
  refine ⟨fun r e => ?_, fun hl => ⟨xs, hq, ?_⟩⟩
  · unfold enumD at e
    rw [List.getElem?_map] at e
    by_cases hi : i < ds.length
    · rw [List.getElem?_range hi] at e
      cases e
      have e1 : ds[i]? = some ds[i] := List.getElem?_eq_getElem hi
      obtain ⟨v, ev, rv⟩ := q1.get' e1
      refine ⟨⟨xs, v, hq, ev⟩, fun x H' y => ?_⟩
      obtain ⟨T', y', rfl, hT, rfl, y⟩ := y
      have e3 := y xs hq
      rw [ev] at e3
      cases e3
      have e2 : ds.getD i .none = ds[i] := by rw [List.getD_eq_getElem?_getD, e1]; rfl
      show Ok K _ T ((V.ref T', R.dat (.tuple [.int ((i : Nat) : Int), ds.getD i .none])) :: L')
      rw [e2]
      exact o.tup hT (.cons (.int _) (.cons rv .nil))
    · rw [List.getElem?_eq_none (by simpa using hi)] at e
      cases e
  · rw [q1.length, ← hl]
    simp [enumD]
theorem lift_enumT {ta : TA} {da : DA} (l : LiftA K ta da) : LiftI K (iEnumT K ta) (iEnT da) := fun F H σ fr S L f o C Rr h q => by
  refine l F H σ fr S L f o _ _ h fun vs rs S1 H1 L1 o1 s1 lv h1 => ?_
  split at h1
  · cases lv with | cons m t =>
    cases t
    have hr := o1.dat m
    cases hr with | tup e1 q1 =>
    exact ⟨_, _, rfl, sqT_of (A := Av S1) e1, q _ _ S1 H1 L1 o1 s1 (it_enumT m) h1⟩
  · exact h1.elim
end
section
variable {X : Cx} {a b e : Expr} {dA : DA} {pos : Pos}
theorem i_enumT {p tpos : Pos} {elts : List Expr} {kk : Nat} (hg : Gl X "enumerate") (hm : X.mg "enumerate" = none) (ha : PDA X [e] dA) (hs : starEach [e] X.env = [(false, eval e X.env)] := by rfl) :
    PDI X (.Tuple elts kk tpos) (.Call (.Name "enumerate" p) [e] [] pos) (iEnT dA) := by
  obtain ⟨_, p, l⟩ := ha.ex
  exact ⟨_, pi_enumT hg hm p hs, lift_enumT l⟩
end
end DL
set_option Elab.async false
set_option linter.all false
set_option maxRecDepth 100000
set_option maxHeartbeats 4000000
/-! DL: (x,) * n; written tuples and dicts of texts; comprehensions over a list that is a cell. -/
namespace DL
open PySem PySem.Spec PyProof.Rows L2

/-! ### tuple * int -/
theorem tuple_mul1 (l : Addr) (items : Array Value) (n : Nat) (dd : Option Addr) (sl : Array (Option Value)) (u : Tok) :
    Meets (Builtin.«tuple.__mul__» ⟨[.ref l, .int 1 u], []⟩) (fun _ R s => s.heap.get? l = some { cls := .type "tuple", dict := dd, data := .seq items n, slots := sl } ∧
      R (.ok (.ret (Value.ref l))) s) :=
  .of_wp fun prog w A R s h => by
    obtain ⟨hp, g, d, tk, os⟩ := s
    obtain ⟨hl, h⟩ := h
    have f1 := AutoSeq1.idx_int
    wp_walk using wpAny_loadPart' hl
    exact ⟨_, rfl, h⟩
def rRep1 (K : Fg) : R2 := fun x y H Q => ∃ l xs, x = .ref l ∧ y = .int 1 ∧ SqT K H l xs ∧ Q (.ref l) H
theorem op_rep1 {X : Cx} : OpR X (binaryOp .Mult) (rRep1 X.K) := by
  intro pins s σ H x y v u Q I rx ry h
  obtain ⟨l, xs, rfl, rfl, hT, q⟩ := h
  cases rx
  obtain ⟨t, rfl⟩ := ry
  obtain ⟨its, r, ⟨⟨cls, dd, data, sl⟩, ho, hc, n, hd⟩, hs⟩ := I.tuple hT
  simp only at hc hd
  subst hc hd
  refine wpAny_binaryOp_repeat_ref (T := "tuple") (U := "int") (by decide) ⟨_, ho, rfl⟩ (fun s' => typeIs_int s' 1 t) noFill_tuple_mul F.fills_int_mul F.slot_int_rmul repeat_tuple F.slot_int_index.lookup
    (call_meets F.slot_int_rmul (typeIs_int s 1 t) F.entry_int_rmul (F.args_int_rmul_2 _ _) (int_rmul_tuple 1 t l its.toArray n dd sl)
      ⟨ho, rfl, ⟨_, ho, rfl⟩, call_meets F.slot_tuple_mul ⟨_, ho, rfl⟩ F.entry_tuple_mul (F.args_tuple_mul_2 _ _) (tuple_mul1 l its.toArray n dd sl t) ⟨ho, ?_⟩⟩)
  exact ⟨.ref l, H, I, rfl, q⟩
section
variable {K : Fg}
def fMulT : F2 := fun a b S C => match a, b with
  | .dat (.tuple xs), .dat (.int k) => xs ≠ [] ∧ 1 ≤ k ∧ k ≤ 1000 ∧ xs.length ≤ 1000 ∧ C (.dat (.tuple (List.replicate k.toNat xs).flatten)) S
  | _, _ => False
def rMulT (K : Fg) : R2 := fun x y H Q => rRepT K x y H Q ∨ rRep1 K x y H Q
theorem opd_mulT : OpD K (rMulT K) fMulT := by
  intro F x y a b H S L C Q o hx hy hf q
  replace hx := o.live _ hx
  replace hy := o.live _ hy
  unfold fMulT at hf
  split at hf
  · rename_i xs k
    cases rep_int_inv hy
    obtain ⟨hne, h1, h2, hl, h⟩ := hf
    cases hx with | @tup _ vs _ e1 q1 =>
    by_cases hk : k = 1
    · subst hk
      refine .inr ⟨_, _, rfl, rfl, sqT_of (A := Av S) e1, q _ _ S H (o.pd (.tup e1 q1)) ?_⟩
      have e : (List.replicate (1 : Int).toNat xs).flatten = xs := by simp
      rw [e] at h
      exact h
    · refine .inl ⟨_, _, _, rfl, rfl, sqT_of (A := Av S) e1, fun z => hne ?_, by omega, h2, by rw [q1.length]; exact hl, fun p hp => q _ _ S _ (o.tup hp (q1.rep _)) h⟩
      have := q1.length
      rw [z] at this
      exact List.eq_nil_of_length_eq_zero this.symm
  · exact hf.elim
end
/-! ### a written dict of texts: d.get(k, x) -/
structure KTab (K : Fg) (w : World) (a : Addr) (kvs : List (Str × Str)) : Prop where
  ex : ∃ es n, KDict K w a es n
  at_ : ∀ z, ∃ r, PySem.W.nsIn K a z = some r ∧ match kvs.lookup z with
    | some s => ∃ u, r = some u ∧ RelV (.str s) u
    | none => r = none
def tKGet (a : Addr) (kvs : List (Str × Str)) (ty tx : TE) : TE := fun σ H Q => ty σ H fun y H1 => tx σ H1 fun z H2 => ∃ s, y = .str s ∧ Q (match kvs.lookup s with | some v => .str v | none => z) H2
section
variable {X : Cx} {o e f : Expr} {apos cpos : Pos} {ty tx : TE} {a : Addr} {kvs : List (Str × Str)}
theorem pe_kget (T : KTab X.K X.w a kvs) (ho : PE X o (tC (.ref a))) (he : PE X e ty) (hf : PE X f tx) (m : M2 X o "get" apos e f cpos) : PE X (.Call (.Attribute o "get" apos) [e, f] [] cpos) (tKGet a kvs ty tx) := by
  refine ⟨fun pins s σ H Q I h => ?_⟩
  refine wpAny_Call_method m.base m.few m.line PySem.F.plainAttrs_dict PySem.F.slot_dict_get PySem.F.type_dict_get (thn (ho.run pins s σ H (fun v H' => v = .ref a ∧ ty σ H' fun y H1 => tx σ H1 fun z H2 => ∃ s, y = .str s ∧ Q (match kvs.lookup s with | some v => .str v | none => z) H2) I ⟨rfl, h⟩) fun u s1 ⟨x, H1, I1, rx, ex, q1⟩ => ?_)
  subst ex
  obtain rfl : u = Value.ref a := rx
  obtain ⟨es, n, D⟩ := T.ex
  have hk := I1.kIn a _ D.at_
  refine ⟨kd_type D I1, fun b q => ?_, ?_⟩
  · cases q
    exact ⟨_, hk, rfl⟩
  rw [m.trees]
  refine Calls.callWith_builtin rfl (Calls.evalArgs_plain (Calls.spliced_cons (thn (he.run pins s1 σ H1 _ I1 q1) fun iv s2 ⟨y, H2, I2, ry, q2⟩ =>
    Calls.spliced_cons (thn (hf.run pins s2 σ H2 _ I2 q2) fun fv s3 ⟨z, H3, I3, rz, st, ey, q3⟩ => Calls.spliced_nil ?_))))
  subst ey
  obtain ⟨t, rfl⟩ := ry
  have hm := PySem.W.mapOf_K (prog := X.prog) (w := X.w) I3.kIn D.at_ D.lit
  obtain ⟨r, er, hr⟩ := T.at_ st
  refine call_meetsIn PySem.F.slot_dict_get hm.typeIs PySem.F.entry_dict_get (PySem.F.args_dict_get_3 _ _ _) (meets_dict_get_default (strKind X.prog X.w) a (strKind_is X.prog X.w st t) D.low fv) ⟨_, hm, ?_⟩
  rw [PySem.W.find_K D.at_ er]
  cases hl : kvs.lookup st with
  | none =>
    rw [hl] at hr q3
    rw [hr]
    exact ⟨z, H3, I3.tok _, rz, q3⟩
  | some s' =>
    rw [hl] at hr q3
    obtain ⟨u, rfl, ru⟩ := hr
    exact ⟨.str s', H3, I3.tok _, ru, q3⟩
def dKGet (kvs : List (Str × Str)) (de df : DE) : DE := fun fr S Q => de fr S fun r S1 => df fr S1 fun q S2 => match r with
  | .dat (.str s) => Q (match kvs.lookup s with | some v => .dat (.str v) | none => q) S2
  | _ => False
theorem lift_kget {K : Fg} {de df : DE} (le : Lift K ty de) (lf : Lift K tx df) : Lift K (tKGet a kvs ty tx) (dKGet kvs de df) := by
  intro F H σ fr S L fo o C Q hd q
  refine le F H σ fr S L fo o _ _ hd fun y r S1 H1 o1 h1 => ?_
  refine lf F H1 σ fr S1 _ (fo.mono tl_mem) o1 _ _ h1 fun z d S2 H2 o2 h2 => ?_
  have hy := o2.live (y, r) (List.mem_cons_of_mem _ List.mem_cons_self)
  have hz := o2.live (z, d) List.mem_cons_self
  have o3 := o2.sub (fun e he => List.mem_cons_of_mem (z, d) (List.mem_cons_of_mem (y, r) he) : ∀ e ∈ L, e ∈ (z, d) :: (y, r) :: L)
  split at h2
  · rename_i st
    cases hy
    refine ⟨st, rfl, ?_⟩
    cases hl : kvs.lookup st with
    | none =>
      rw [hl] at h2
      exact q _ _ S2 H2 (o3.push hz) h2
    | some s' =>
      rw [hl] at h2
      exact q _ _ S2 H2 (o3.pd (.str _)) h2
  · exact h2.elim
theorem d_kget {de df : DE} {x : Str} {p : Pos} (T : KTab X.K X.w a kvs) (hg : Gl X x) (hm : X.mg x = some (.ref a)) (he : PD X e de) (hf : PD X f df) (hd : (x == ("__debug__" : Str)) = false := by decide)
    (h1 : attributeBase (.Name x p) "get" X.env (eval (.Name x p) X.env) = eval (.Name x p) X.env := by rfl)
    (h2 : ((backTo cpos (starEach [e, f] X.env)).all (fun x => !x.1) && (backToKw cpos (keywordEach [] X.env)).all (fun x => x.1.isSome)
      && decide (([e, f] : List Expr).length + ([] : List Keyword).length + (if ([] : List Keyword).isEmpty then 0 else 1) < 30)) = true := by rfl)
    (h3 : (apos.endLine == cpos.line) = true := by rfl)
    (h4 : backTo cpos (starEach [e, f] X.env) = [(false, eval e X.env), (false, eval f X.env)] := by rfl) : PD X (.Call (.Attribute (.Name x p) "get" apos) [e, f] [] cpos) (dKGet kvs de df) := by
  obtain ⟨_, p1, l1⟩ := he.ex
  obtain ⟨_, p2, l2⟩ := hf.ex
  exact ⟨_, pe_kget T (pe_glob (v := .ref a) hg hm rfl hd) p1 p2 ⟨h1, h2, h3, h4⟩, lift_kget l1 l2⟩
/-- a written tuple of texts -/
theorem d_globT {x : Str} {ns : List Str} {pos : Pos} (hg : Gl X x) (hm : X.mg x = some (.ref a)) (kt : KTup X.K a (ns.map V.str)) (hd : (x == ("__debug__" : Str)) = false := by decide) : PD X (.Name x pos) (dC (.dat (.tuple (ns.map PyData.str)))) :=
  ⟨_, pe_glob (v := .ref a) hg hm rfl hd, lift_c fun _ _ => Rep.tup (.inr kt) (RepAll.strs ns)⟩
theorem d_mulT {da db : DE} {pos : Pos} {b c : Expr} (ha : PD X b da) (hb : PD X c db) : PD X (.BinOp b .Mult c pos) (dOp fMulT da db) := d_opG (op_repT.or op_rep1) opd_mulT ha hb
end
/-! ### [.. for x in xs], xs a cell that stays -/
section
variable {K : Fg}
def ItKp (K : Fg) (J : It) (items : List R) (p : Addr) (L : Live) : Prop := ∀ (H : Hp) (T : SH) (L' : Live), Ok K H T L' → (∀ e ∈ L, e ∈ L') → Cell.lst p items ∈ T → ∀ i : Nat, (∀ r, items[i]? = some r → J.go i H ∧ ∀ x H', J.yld i H x H' → Ok K H' T ((x, r) :: L')) ∧ (items.length = i → J.stop i H)
theorem it_cell {p : Addr} {items : List R} {L : Live} : ItKp K (Itl K p) items p L := fun H T L' o s m i => by
  obtain ⟨vs, e1, q1⟩ := o.cells _ m
  have hl := paired_len q1
  refine ⟨fun r e => ?_, fun hi => ⟨vs, SqL.of e1, by rw [hl]; exact Nat.le_of_eq hi⟩⟩
  obtain ⟨v, ev, rv⟩ := paired_get' q1 e
  refine ⟨⟨vs, v, SqL.of e1, ev⟩, fun x H' y => ?_⟩
  obtain ⟨rfl, y⟩ := y
  have := y vs (SqL.of e1)
  rw [ev] at this
  cases this
  exact o.push rv
/-- the source: a cell -/
def dLcK (E : List R → SH → CR0 → Prop) (ds : DE) (i : Nat) (dt : DT) (de : DE) : DE := fun fr S C => ds fr S fun a S1 => match a with
  | .val (.ref p) => ∃ items : List R, Cell.lst p items ∈ S1 ∧ ∃ I : Nat → List R → SH → Prop, I 0 [] S1 ∧ (∀ k acc S, I k acc S → Cell.lst p items ∈ S) ∧
    (∀ k r acc S, items[k]? = some r → I k acc S → dt (fr.set i (some r)) S fun b S2 => if b = true then de (fr.set i (some r)) S2 fun y S3 => acc.length < 100000 ∧ I (k + 1) (acc ++ [y]) S3 else I (k + 1) acc S2) ∧
    ∀ acc S, I items.length acc S → E acc S C
  | _ => False
theorem lift_lcK {E : List R → SH → CR0 → Prop} (hE : EndD K E) {ts : TE} {ds : DE} {tt : TT} {dt : DT} {te : TE} {de : DE} {i : Nat} (ls : Lift K ts ds) (lt : LiftT K tt dt) (le : Lift K te de) : Lift K (tLc (iAny K ts) (gName i) tt te [i]) (dLcK E ds i dt de) := fun F H σ fr S L f o C Q h q => by
  refine ls F H σ fr S L f o _ _ h fun x a S1 H1 o1' h1 => ?_
  have hx := o1'.live _ List.mem_cons_self
  split at h1
  · rename_i p
    cases (show x = V.ref p from hx)
    obtain ⟨items, hm, I, i0, kp, st, dn⟩ := h1
    have o1 := o1'.sub tl_mem
    obtain ⟨vs0, e0, _⟩ := o1.cells _ (List.mem_append_left F hm)
    refine .inl ⟨p, rfl, ⟨_, SqL.of e0⟩, fun D hD => ?_⟩
    have o0 : OkF K (.lst D [] :: F) (upd H1 D (.lst [])) S1 L := (o1.lstC hD .nil).perm List.perm_middle.symm
    refine ⟨fun k m H => m = items.length - k ∧ k ≤ items.length ∧ ∃ S acc L', OkF K (.lst D acc :: F) H S L' ∧ (∀ e ∈ L, e ∈ L') ∧ I k acc S, ⟨items.length, by simp, Nat.zero_le _, S1, [], L, o0, fun _ z => z, i0⟩, ?_⟩
    rintro k m H2 ⟨rfl, hk, S2, acc, L2, o2, s2, i2⟩
    obtain ⟨go, sp⟩ := it_cell (K := K) (p := p) (items := items) (L := L) H2 _ L2 o2 s2 (List.mem_append_left _ (kp k acc S2 i2)) k
    by_cases hlt : k < items.length
    · obtain ⟨hg, hy⟩ := go _ (List.getElem?_eq_getElem hlt)
      refine .inr ⟨hg, fun H => ∃ S acc L', OkF K (.lst D acc :: F) H S L' ∧ (∀ e ∈ L, e ∈ L') ∧ I (k + 1) acc S, fun H' n => ⟨items.length - (k + 1), by omega, rfl, hlt, n⟩, fun x H3 y => ?_⟩
      have o3 : OkF K (.lst D acc :: F) H3 S2 ((x, items[k]) :: L2) := hy x H3 y
      show wipe ((wipe σ [i]).set i (some x)) [i] = wipe σ [i] ∧ _
      refine ⟨by simp [wipe], ?_⟩
      have f3 : FrOk ((wipe σ [i]).set i (some x)) (fr.set i (some items[k])) ((x, items[k]) :: L2) := by
        have e1 : (wipe σ [i]).set i (some x) = σ.set i (some x) := by simp [wipe]
        rw [e1]
        exact (f.mono fun z hz => List.mem_cons_of_mem _ (s2 z hz)).set List.mem_cons_self i
      refine lt _ H3 _ _ S2 _ f3 o3 _ _ (st k _ acc S2 (List.getElem?_eq_getElem hlt) i2) fun b S4 H4 o4 h4 => ?_
      cases b with
      | false => exact ⟨S4, acc, _, o4, fun z hz => List.mem_cons_of_mem _ (s2 z hz), h4⟩
      | true =>
        refine le _ H4 _ _ S4 _ f3 o4 _ _ h4 fun v r S5 H5 o5 h5 => ?_
        obtain ⟨vs, e5, q5⟩ := o5.cells _ (at_split (mid_get S5 F))
        refine ⟨vs, e5, by rw [paired_len q5]; exact big_lt h5.1, S5, acc ++ [r], (v, r) :: (x, items[k]) :: L2, ?_, fun z hz => List.mem_cons_of_mem _ (List.mem_cons_of_mem _ (s2 z hz)), h5.2⟩
        have o6 := o5.putL (mid_get S5 F) (paired_app q5 (.cons (o5.live (v, r) List.mem_cons_self) .nil))
        rw [List.set_append_right _ _ (Nat.le_refl _)] at o6
        simpa using o6
    · have ek : k = items.length := by omega
      subst ek
      obtain ⟨r, S', o', h'⟩ := hE F H2 S2 L2 D acc C o2 (dn acc S2 i2)
      exact .inl ⟨sp rfl, q _ r S' H2 (o'.sub (sub_cons s2)) h'⟩
  · exact h1.elim
end
section
variable {X : Cx} {a b c e iter : Expr} {da db dc de ds : DE} {dt : DT} {pos : Pos}
theorem d_lcK {E : List R → SH → CR0 → Prop} (hE : ∀ K, EndD K E) {elt : Expr} {x : Str} {p : Pos} {ifs : List Expr} {scope : Scope} {i : Nat} (hN : X.N.Nodup) (hi : PD X iter ds) (ok : BlkOk X.N X.env.scope scope [(x, i)])
    (hg : ∀ (s : Shared) (H : Hp) (C : Addr) (cl : List (Str × Addr)) (fp : List Addr), PG (X.blk s H scope (compEnvC scope cl C X.env) fp) (.Name x p) (gName i))
    (ht : ∀ (s : Shared) (H : Hp) (C : Addr) (cl : List (Str × Addr)) (fp : List Addr), PDTs (X.blk s H scope (compEnvC scope cl C X.env) fp) ifs dt)
    (he : ∀ (s : Shared) (H : Hp) (C : Addr) (cl : List (Str × Addr)) (fp : List Addr), PD (X.blk s H scope (compEnvC scope cl C X.env) fp) elt de)
    (hc : X.calm = true := by rfl) (hs : ∀ x, foldedSetIterable iter X.env x = pure x := by intro _; rfl) :
    PD X (.ListComp elt [⟨.Name x p, iter, ifs, 0⟩] scope pos) (dLcK E ds i dt de) := by
  obtain ⟨_, pi, li⟩ := hi.ex
  exact ⟨_, pe_lc (own := [(x, i)]) (te := toTE X.K de) (tt := toTT X.K dt) hc hN (pi_any pi) ok hg (fun s H C cl fp => (ht s H C cl fp).run) (fun s H C cl fp => (he s H C cl fp).pe) hs, lift_lcK (hE X.K) li (liftT_to dt) (lift_to de)⟩
end
end DL
set_option Elab.async false
set_option linter.all false
set_option maxRecDepth 100000
set_option maxHeartbeats 4000000
/-! DL: a list that is a cell against []; instances that are never changed behind their making. -/
namespace DL
open PySem PySem.Spec PyProof.Rows L2

def rNeE (K : Fg) : R2 := fun x y H Q => ∃ l b xs, x = .ref l ∧ y = .ref b ∧ SqL K H l xs ∧ SqL K H b [] ∧ Q (.bl (!xs.isEmpty)) H
theorem op_neE {X : Cx} (hu : X.A.units + 64 < cLine) : OpR X (compareOp .NotEq) (rNeE X.K) := by
  intro pins s σ H x y v u Q I rx ry h
  obtain ⟨l, b, xs, rfl, rfl, h1, h2, q⟩ := h
  cases rx
  cases ry
  obtain ⟨its, rv, p1, _⟩ := I.list h1
  obtain ⟨its2, rv2, p2, _⟩ := I.list h2
  cases rv2
  cases xs with
  | nil =>
    cases rv
    have h := SeqAt.RcNeAt.lists (A := X.A) (s := s) (e := fun _ => true) p1.isList p2.isList rfl (by omega) (fun j h1 h2 => absurd h1 (by simp))
    exact h X.prog X.w X.xe (EP X pins σ Q) ⟨.bl false, H, I, rfl, q⟩
  | cons a r =>
    cases rv with | cons ra rr =>
    have h := SeqAt.RcNeAt.lists_lengths (A := X.A) (s := s) p1.isList p2.isList (by simp) (by omega)
    exact h X.prog X.w X.xe (EP X pins σ Q) ⟨.bl true, H, I, rfl, q⟩
section
variable {K : Fg}
def fNeE : F2 := fun a b S C => match a, b with
  | .val (.ref p), .dat (.list []) => ∃ (j : Nat) (xs : List R), S[j]? = some (.lst p xs) ∧ C (.dat (.bool (!xs.isEmpty))) S
  | _, _ => False
theorem opd_neE : OpD K (rNeE K) fNeE := by
  intro F x y a b H S L C Q o hx hy hf q
  replace hx := o.live _ hx
  replace hy := o.live _ hy
  unfold fNeE at hf
  split at hf
  · rename_i p
    cases (show x = V.ref p from hx)
    obtain ⟨j, xs, hj, h⟩ := hf
    obtain ⟨vs, e1, q1⟩ := o.cells _ (at_split (in_app hj))
    cases hy with | lst e2 n2 q2 =>
    cases q2
    refine ⟨_, _, vs, rfl, rfl, SqL.of e1, SqL.of e2, q _ _ S H (o.pd (d := .bool (!xs.isEmpty)) ?_) h⟩
    have e : vs.isEmpty = xs.isEmpty := by
      cases q1 with
      | nil => rfl
      | cons _ _ => rfl
    rw [e]
    exact .bl _
  · exact hf.elim
/-- C(..), frozen at once -/
def dMakeF (C : Addr) (ks : List Str) (n : Nat) (sp : SpD) (da : DA) : DE := fun fr S Q => da fr S fun rs S1 => rs.length + 1 = n ∧ ∀ x, sp (.val (.ref x) :: rs) (.ins x C ks [] :: S1) fun r S2 => r = .dat .none ∧ ∃ vs S3, S2 = .ins x C ks vs :: S3 ∧ vs.length = ks.length ∧ Q (.obj C ks vs) S3
theorem lift_makeF {C : Addr} {ks : List Str} {n : Nat} {sp : SpD} {E : XK} {ta : TA} {da : DA} (l : LiftA K ta da) : Lift K (tMake C (toSp K n sp) [] E ta) (dMakeF C ks n sp da) := fun F H σ fr S L f o Q0 Q h q => by
  refine l F H σ fr S L f o _ _ h fun vs rs S1 H1 L1 o1 s1 lv h1 x dx hx hdx hne => ?_
  have o2 : OkF K F (upd H1 dx (.own x)) S1 L1 := o1.new hdx
  have hx2 : upd H1 dx (.own x) x = none := by rw [upd_ne (Ne.symm hne)]; exact hx
  have o3 : OkF K F (upd (upd H1 dx (.own x)) x (.ins C dx [])) (.ins x C ks [] :: S1) L1 := o2.cell (c := .ins x C ks []) rfl hx2 ⟨dx, [], by rw [List.zip_nil_right]; exact upd_same, Nat.zero_le _, .nil⟩
  have o4 := Ok.push (v := .ref x) (r := .val (.ref x)) o3 rfl
  refine ⟨?_, F, _, _, .val (.ref x) :: rs, fun r S2 => r = .dat .none ∧ ∃ vs S3, S2 = .ins x C ks vs :: S3 ∧ vs.length = ks.length ∧ Q0 (.obj C ks vs) S3, o4, ?_, h1.2 x, ?_⟩
  · rw [List.append_nil, List.length_cons, paired_len lv]; exact h1.1
  · rw [List.append_nil]
    exact .cons List.mem_cons_self (Lives.mono tl_mem lv)
  · rintro v r S2 H2 o5 ⟨rfl, ws, S3, rfl, hl, h2⟩
    have e : v = .non := by cases (o5.dat List.mem_cons_self); rfl
    have o6 : Ok K H2 (S3 ++ F) ((.ref x, .obj C ks ws) :: (v, .dat .none) :: (.ref x, .val (.ref x)) :: L1) := Ok.frzI (i := 0) o5 rfl hl
    refine ⟨e, q _ _ S3 H2 (o6.sub (sub_cons fun z hz => List.mem_cons_of_mem _ (List.mem_cons_of_mem _ (s1 z hz)))) h2⟩
end
section
variable {X : Cx} {a b e : Expr} {da db : DE} {dA : DA} {pos p : Pos} {es : List Expr} {C : Addr} {x : Str}
theorem d_neE (hu : X.A.units + 64 < cLine) (ha : PD X a da) (hb : PD X b db) : PD X (.Compare a [.NotEq] [b] pos) (dOp fNeE da db) := d_cmpG (op_neE hu) opd_neE ha hb (nomark _)
theorem t_neE (hu : X.A.units + 64 < cLine) (ha : PD X a da) (hb : PD X b db) : PDT X (.Compare a [.NotEq] [b] pos) (dTest (dOp fNeE da db)) := t_cmpG (op_neE hu) opd_neE ha hb (nomark _)
theorem d_makeF {sp : SpD} {k n : Nat} (ks : List Str) (d : DefI X.prog X.w X.K X.mg X.base x C k n sp) (hr : Room (k + 1) X.A) (hg : Gl X x) (ha : PDA X (e :: es) dA) (hdb : (x == ("__debug__" : Str)) = false := by decide) (he : starEach (e :: es) X.env = (false, eval e X.env) :: starEach es X.env := by rfl) (hpl : (backTo pos (starEach es X.env)).any (·.1) = false := by rfl) :
    PD X (.Call (.Name x p) (e :: es) [] pos) (dMakeF C ks n sp dA) := by
  obtain ⟨f, fd, ps, F, M, hb, hm⟩ := d.ex
  obtain ⟨_, p2, l2⟩ := ha.ex
  exact ⟨_, pe_make M F hr hg hm hb .nil pass0 p2 hdb he hpl, lift_makeF l2⟩
end
section
variable {X : Cx} {a b c e iter : Expr} {da db dc de ds : DE} {dt : DT} {pos : Pos}
/-- y = [.. for x in xs], xs a cell, y a local -/
theorem s_lcK {E : List R → SH → CR0 → Prop} (hE : ∀ K, EndD K E) {elt : Expr} {x y : Str} {p py spos : Pos} {ifs : List Expr} {scope : Scope} {i j : Nat} (hN : X.N.Nodup) (hi : PD X iter ds) (ok : BlkOk X.N X.env.scope scope [(x, i)])
    (hg : ∀ (s : Shared) (H : Hp) (C : Addr) (cl : List (Str × Addr)) (fp : List Addr), PG (X.blk s H scope (compEnvC scope cl C X.env) fp) (.Name x p) (gName i))
    (ht : ∀ (s : Shared) (H : Hp) (C : Addr) (cl : List (Str × Addr)) (fp : List Addr), PDTs (X.blk s H scope (compEnvC scope cl C X.env) fp) ifs dt)
    (he : ∀ (s : Shared) (H : Hp) (C : Addr) (cl : List (Str × Addr)) (fp : List Addr), PD (X.blk s H scope (compEnvC scope cl C X.env) fp) elt de)
    (hc : X.calm = true := by rfl) (hy : X.N[j]? = some y := by rfl) (hyl : X.env.scope.names.lookup y = some .local := by rfl)
    (hsw : swapsWith (.ListComp elt [⟨.Name x p, iter, ifs, 0⟩] scope pos) (some (.Name y py)) spos.line X.env = pure true := by exact sw_true rfl rfl rfl (by decide +kernel)) (hs : ∀ x, foldedSetIterable iter X.env x = pure x := by intro _; rfl) :
    PDS X (.Assign [.Name y py] (.ListComp elt [⟨.Name x p, iter, ifs, 0⟩] scope pos) spos) (sAsg (dLcK E ds i dt de) (gnm j)) := by
  obtain ⟨_, pi, li⟩ := hi.ex
  exact ⟨_, ps_setLc (own := [(x, i)]) (te := toTE X.K de) (tt := toTT X.K dt) hc hN hy hyl hsw (pi_any pi) ok hg (fun s H C cl fp => (ht s H C cl fp).run) (fun s H C cl fp => (he s H C cl fp).pe) hs, lift_asg (lift_lcK (hE X.K) li (liftT_to dt) (lift_to de)) (lift_name j)⟩
end
/-- a comprehension over a cell that stays: its elements by the items -/
theorem lcK_map {E : List R → SH → CR0 → Prop} {items : List R} {fr : Fr} {S : SH} {C : CR0} {i : Nat} {de : DE} {p : Addr} (g : R → R) (hm : Cell.lst p items ∈ S)
    (he : ∀ r, r ∈ items → ∀ C' : CR0, C' (g r) S → de (fr.set i (some r)) S C') (hl : items.length ≤ 100000) (h : E (items.map g) S C) : ∃ items' : List R, Cell.lst p items' ∈ S ∧ ∃ I : Nat → List R → SH → Prop, I 0 [] S ∧ (∀ k acc S, I k acc S → Cell.lst p items' ∈ S) ∧
    (∀ k r acc S, items'[k]? = some r → I k acc S → dYes (fr.set i (some r)) S fun b S2 => if b = true then de (fr.set i (some r)) S2 fun y S3 => acc.length < 100000 ∧ I (k + 1) (acc ++ [y]) S3 else I (k + 1) acc S2) ∧
    ∀ acc S, I items'.length acc S → E acc S C := by
  refine ⟨items, hm, fun k acc S' => S' = S ∧ acc = (items.take k).map g, ⟨rfl, rfl⟩, fun k acc S' z => by rw [z.1]; exact hm, ?_, ?_⟩
  · rintro k r acc S' hk ⟨rfl, rfl⟩
    have hmem : r ∈ items := List.mem_of_getElem? hk
    obtain ⟨hlt, _⟩ := List.getElem?_eq_some_iff.mp hk
    have et : items.take (k + 1) = items.take k ++ [r] := by rw [List.take_add_one, hk]; rfl
    refine he r hmem _ ⟨?_, rfl, ?_⟩
    · rw [List.length_map]
      have h2 := List.length_take_le k items
      omega
    · rw [et, List.map_append]; rfl
  · rintro acc S' ⟨rfl, rfl⟩
    rw [List.take_length]; exact h
end DL
set_option Elab.async false
set_option linter.all false
set_option maxRecDepth 100000
set_option maxHeartbeats 4000000
/-! The program's things as plain data: parts, rows, programs, what a row does. -/
namespace PM
open PySem PySem.Spec PyProof.Rows L2 DL

/-! ### loops over lists that are known -/
def loopD (dg : DG) (db : DS) (D : DEnds) : List R → Fr → SH → Prop
  | [] => D.nx
  | r :: rs => fun fr S => dg r fr S fun fr2 S2 => db { D with nx := loopD dg db D rs, ct := loopD dg db D rs, bk := D.nx } fr2 S2
theorem loop_unroll {dg : DG} {db : DS} {D : DEnds} {items : List R} {fr : Fr} {S : SH} (h : loopD dg db D items fr S) : ∃ I : Nat → Fr → SH → Prop, I 0 fr S ∧
    (∀ i r fr S, items[i]? = some r → I i fr S → dg r fr S fun fr2 S2 => db { D with nx := I (i + 1), ct := I (i + 1), bk := D.nx } fr2 S2) ∧ ∀ fr S, I items.length fr S → D.nx fr S := by
  refine ⟨fun i => loopD dg db D (items.drop i), h, fun i r fr S hi hI => ?_, fun fr S hI => ?_⟩
  · have e : items.drop i = r :: items.drop (i + 1) := by
      obtain ⟨hl, e⟩ := List.getElem?_eq_some_iff.mp hi
      rw [List.drop_eq_getElem_cons hl, e]
    have hI' : loopD dg db D (items.drop i) fr S := hI
    rw [e] at hI'
    exact hI'
  · have hI' : loopD dg db D (items.drop items.length) fr S := hI
    rw [List.drop_length] at hI'
    exact hI'
theorem at0 {α : Type} {x : α} {xs : List α} : atI (x :: xs) 0 = some x := atI_nat (j := 0) (by rfl)
/-! ### lists by what they hold, cells or data -/
theorem ix_lstR {S : SH} {r : R} {xs : List R} {i : Int} {x : R} {C : CR0} (h : lstR S r xs) (e : atI xs i = some x) (q : C x S) : fIx r (.dat (.int i)) S C := by
  cases r with
  | dat d =>
    cases d with
    | list ds =>
      cases (show xs = ds.map R.dat from h)
      unfold atI at e
      rw [List.length_map] at e
      cases e1 : ixN ds.length i with
      | none => rw [e1] at e; cases e
      | some j =>
        rw [e1] at e
        have e2 : (ds.map R.dat)[j]? = some x := e
        obtain ⟨d, ed, rfl⟩ := get_dat e2
        refine ⟨d, ?_, q⟩
        unfold atI
        rw [e1]; exact ed
    | _ => exact h.elim
  | val w =>
    cases w with
    | ref p =>
      obtain ⟨j, hj⟩ := h
      exact .inl ⟨j, xs, x, hj, e, q⟩
    | _ => exact h.elim
  | _ => exact h.elim
theorem len_lstR {S : SH} {r : R} {xs : List R} {C : CR0} (h : lstR S r xs) (q : C (.dat (.int xs.length)) S) : fLen [r] S C := by
  cases r with
  | dat d =>
    cases d with
    | list ds =>
      cases (show xs = ds.map R.dat from h)
      rw [List.length_map] at q
      exact q
    | _ => exact h.elim
  | val w =>
    cases w with
    | ref p =>
      obtain ⟨j, hj⟩ := h
      exact ⟨j, xs, hj, q⟩
    | _ => exact h.elim
  | _ => exact h.elim
theorem dlen_lstR {S : SH} {fr : Fr} {i : Nat} {r : R} {xs : List R} {C : CR0} (hi : fr[i]? = some (some r)) (h : lstR S r xs) (q : C (.dat (.int xs.length)) S) : dCB fLen (dCons (dVar i) dNil) fr S C := ⟨r, hi, len_lstR h q⟩
def iR (ns : List Int) : List R := ns.map fun n => R.dat (.int n)
theorem iR_at {ns : List Int} {i : Nat} (h : i < ns.length) : atI (iR ns) (i : Int) = some (.dat (.int (ns.getD i 0))) := by
  refine atI_nat ?_
  unfold iR
  rw [List.getElem?_map, List.getElem?_eq_getElem h, List.getD_eq_getElem?_getD, List.getElem?_eq_getElem h]
  rfl
theorem iR_len (ns : List Int) : (iR ns).length = ns.length := by simp [iR]
theorem toNat_cast {i : Int} (h : 0 ≤ i) : ((i.toNat : Nat) : Int) = i := by omega
/-! ### data: shaped -/
theorem lay_ints : ∀ xs : List Int, PyData.canLayAll0 (xs.map PyData.int) = true
  | [] => by rw [List.map_nil, PyData.canLayAll0]
  | x :: xs => by rw [List.map_cons, PyData.canLayAll0, lay_ints xs, PyData.canLay0]; rfl
theorem lay_app : ∀ {xs ys : List PyData}, PyData.canLayAll0 xs = true → PyData.canLayAll0 ys = true → PyData.canLayAll0 (xs ++ ys) = true
  | [], _, _, h => h
  | x :: xs, ys, h, g => by
    rw [PyData.canLayAll0] at h
    obtain ⟨h1, h2⟩ := Bool.and_eq_true_iff.mp h
    rw [List.cons_append, PyData.canLayAll0, h1, lay_app h2 g]; rfl
theorem lay_all : ∀ {xs : List PyData}, (∀ x ∈ xs, PyData.canLay0 x = true) → PyData.canLayAll0 xs = true
  | [], _ => by rw [PyData.canLayAll0]
  | x :: xs, h => by rw [PyData.canLayAll0, h x List.mem_cons_self, lay_all fun y hy => h y (List.mem_cons_of_mem _ hy)]; rfl
theorem depth_all {n : Nat} : ∀ {xs : List PyData}, (∀ x ∈ xs, x.depth ≤ n) → PyData.depthAll xs ≤ n
  | [], _ => by rw [PyData.depthAll]; exact Nat.zero_le _
  | x :: xs, h => by
    rw [PyData.depthAll]
    exact Nat.max_le.mpr ⟨h x List.mem_cons_self, depth_all fun y hy => h y (List.mem_cons_of_mem _ hy)⟩
theorem shaped_mk {d : PyData} (h : d.canLay0 = true) (g : d.depth ≤ 64) : SeqAt.shaped d = true := by
  unfold SeqAt.shaped
  rw [h, decide_eq_true g]; rfl
theorem eqOk_mk {d e : PyData} (h : SeqAt.shaped d = true) (g : SeqAt.shaped e = true) : eqOk d e = true := by
  unfold eqOk
  rw [h, g, Bool.and_self, Bool.or_true]
/-! ### parts -/
abbrev pairW : List Str := ["sum", "diff", "less"]
abbrev changeW : List Str := ["add", "put", "cut"]
inductive Op3 where
  | sum | diff | less
def Op3.word : Op3 → Str
  | .sum => "sum" | .diff => "diff" | .less => "less"
inductive Part where
  | num (n : Int)
  | name (n : Int)
  | op (o : Op3) (a b : Part)
def Part.dat : Part → PyData
  | .num n => .tuple [.str "num", .int n]
  | .name n => .tuple [.str "name", .int n]
  | .op o a b => .tuple [.str o.word, a.dat, b.dat]
def Part.deep : Part → Nat
  | .num _ => 1
  | .name _ => 1
  | .op _ a b => max a.deep b.deep + 1
def Part.ok (names : Int) : Part → Prop
  | .num n => 0 ≤ n ∧ n ≤ 10006
  | .name n => 0 ≤ n ∧ n < names
  | .op _ a b => a.ok names ∧ b.ok names
def Part.worth (ns : List Int) : Part → Int
  | .num n => n
  | .name n => ns.getD n.toNat 0
  | .op .less a b => if a.worth ns < b.worth ns then 1 else 0
  | .op .sum a b => (a.worth ns + b.worth ns) % 10007
  | .op .diff a b => (a.worth ns - b.worth ns) % 10007
theorem Part.nonneg {names : Int} {ns : List Int} (h : ∀ x ∈ ns, 0 ≤ x) : ∀ p : Part, p.ok names → 0 ≤ p.worth ns
  | .num n, hp => hp.1
  | .name n, _ => by
    unfold Part.worth
    rw [List.getD_eq_getElem?_getD]
    cases e : ns[n.toNat]? with
    | none => exact Int.le_refl _
    | some x => exact h x (List.mem_of_getElem? e)
  | .op .less a b, _ => by
    unfold Part.worth
    split <;> decide
  | .op .sum a b, _ => Int.emod_nonneg _ (by decide)
  | .op .diff a b, _ => Int.emod_nonneg _ (by decide)
theorem Part.depth : ∀ p : Part, p.dat.depth ≤ p.deep + 1
  | .num n => by simp [Part.dat, Part.deep, PyData.depth, PyData.depthAll]
  | .name n => by simp [Part.dat, Part.deep, PyData.depth, PyData.depthAll]
  | .op o a b => by
    have h1 := Part.depth a
    have h2 := Part.depth b
    simp only [Part.dat, Part.deep, PyData.depth, PyData.depthAll]
    omega
theorem Part.lay : ∀ p : Part, p.dat.canLay0 = true
  | .num n => by simp only [Part.dat, PyData.canLay0, PyData.canLayAll0]; decide +kernel
  | .name n => by simp only [Part.dat, PyData.canLay0, PyData.canLayAll0]; decide +kernel
  | .op o a b => by
    simp only [Part.dat, PyData.canLay0, PyData.canLayAll0, Part.lay a, Part.lay b]
    cases o <;> decide +kernel
theorem Part.deep_pos : ∀ p : Part, 1 ≤ p.deep
  | .num _ => Nat.le_refl _
  | .name _ => Nat.le_refl _
  | .op _ _ _ => Nat.le_add_left _ _
/-! ### rows -/
inductive PRow where
  | set (n : Int) (p : Part)
  | take (n : Int)
  | add (f : Int) (p : Part)
  | put (f : Int) (p q : Part)
  | cut (f : Int) (p : Part)
  | get (n f : Int) (p : Part)
  | size (n f : Int)
  | send (p : Part)
  | go (r : Int)
  | unl (n r : Int)
  | mark
def PRow.word : PRow → Str
  | .set _ _ => "set" | .take _ => "take" | .add _ _ => "add" | .put _ _ _ => "put" | .cut _ _ => "cut" | .get _ _ _ => "get" | .size _ _ => "size"
  | .send _ => "send" | .go _ => "go" | .unl _ _ => "unless" | .mark => "mark"
def PRow.args : PRow → List PyData
  | .set n p => [.int n, p.dat] | .take n => [.int n] | .add f p => [.int f, p.dat] | .put f p q => [.int f, p.dat, q.dat] | .cut f p => [.int f, p.dat]
  | .get n f p => [.int n, .int f, p.dat] | .size n f => [.int n, .int f] | .send p => [p.dat] | .go r => [.int r] | .unl n r => [.int n, .int r] | .mark => []
def PRow.dat (r : PRow) : PyData := .tuple (.str r.word :: r.args)
def PRow.shape : PRow → Str
  | .set _ _ => "nx" | .take _ => "n" | .add _ _ => "fx" | .put _ _ _ => "fxx" | .cut _ _ => "fx" | .get _ _ _ => "nfx" | .size _ _ => "nf"
  | .send _ => "x" | .go _ => "r" | .unl _ _ => "nr" | .mark => ""
def NumOk (n hi : Int) : Prop := 0 ≤ n ∧ n < hi
def PartOk (names : Int) (p : Part) : Prop := p.ok names ∧ p.deep ≤ 3
def PRow.ok (names files many : Int) : PRow → Prop
  | .set n p => NumOk n names ∧ PartOk names p
  | .take n => NumOk n names
  | .add f p => NumOk f files ∧ PartOk names p
  | .put f p q => NumOk f files ∧ PartOk names p ∧ PartOk names q
  | .cut f p => NumOk f files ∧ PartOk names p
  | .get n f p => NumOk n names ∧ NumOk f files ∧ PartOk names p
  | .size n f => NumOk n names ∧ NumOk f files
  | .send p => PartOk names p
  | .go r => NumOk r (many + 1)
  | .unl n r => NumOk n names ∧ NumOk r (many + 1)
  | .mark => True
theorem PRow.lay (r : PRow) : r.dat.canLay0 = true := by
  cases r <;> simp only [PRow.dat, PRow.word, PRow.args, PyData.canLay0, PyData.canLayAll0, Part.lay] <;> decide +kernel
theorem PRow.depth {names files many : Int} {r : PRow} (h : r.ok names files many) : r.dat.depth ≤ 5 := by
  cases r with
  | set n p => have := p.depth; have := h.2.2; simp only [PRow.dat, PRow.word, PRow.args, PyData.depth, PyData.depthAll]; omega
  | take n => simp [PRow.dat, PRow.word, PRow.args, PyData.depth, PyData.depthAll]
  | add f p => have := p.depth; have := h.2.2; simp only [PRow.dat, PRow.word, PRow.args, PyData.depth, PyData.depthAll]; omega
  | put f p q => have := p.depth; have := q.depth; have := h.2.1.2; have := h.2.2.2; simp only [PRow.dat, PRow.word, PRow.args, PyData.depth, PyData.depthAll]; omega
  | cut f p => have := p.depth; have := h.2.2; simp only [PRow.dat, PRow.word, PRow.args, PyData.depth, PyData.depthAll]; omega
  | get n f p => have := p.depth; have := h.2.2.2; simp only [PRow.dat, PRow.word, PRow.args, PyData.depth, PyData.depthAll]; omega
  | size n f => simp [PRow.dat, PRow.word, PRow.args, PyData.depth, PyData.depthAll]
  | send p => have := p.depth; have := h.2; simp only [PRow.dat, PRow.word, PRow.args, PyData.depth, PyData.depthAll]; omega
  | go r => simp [PRow.dat, PRow.word, PRow.args, PyData.depth, PyData.depthAll]
  | unl n r => simp [PRow.dat, PRow.word, PRow.args, PyData.depth, PyData.depthAll]
  | mark => simp [PRow.dat, PRow.word, PRow.args, PyData.depth, PyData.depthAll]
/-! ### programs -/
structure Prog where
  names : Int
  files : Int
  rows : List PRow
def Prog.dat (p : Prog) : PyData := .tuple [.int p.names, .int p.files, .tuple (p.rows.map PRow.dat)]
structure Prog.ok (p : Prog) : Prop where
  n : 1 ≤ p.names ∧ p.names ≤ 8
  f : 1 ≤ p.files ∧ p.files ≤ 4
  l : p.rows.length ≤ 60
  r : ∀ r ∈ p.rows, r.ok p.names p.files p.rows.length
def HandedOk (hs : List Int) : Prop := hs.length ≤ 40 ∧ ∀ x ∈ hs, 0 ≤ x ∧ x ≤ 10006
/-! ### classes' fields -/
abbrev FE : List Str := ["row", "taken", "name", "number", "file", "at", "old", "new", "letter", "fault"]
abbrev FM : List Str := ["row", "names", "taken", "passed", "letters"]
abbrev FI : List Str := ["row", "names", "taken", "passed", "letters", "since", "noted", "out", "again"]
abbrev FW : List Str := ["rows", "handed", "way", "often", "held", "letters", "mark", "jots", "made", "over", "inner", "count"]
theorem le_ok {a b : Nat} (h : Nat.ble a b = true) : a ≤ b := Nat.le_of_ble_eq_true h
/-! ### what is kept of lists -/
theorem lstR_cons {S : SH} {r : R} {xs : List R} (c : Cell) (h : lstR S r xs) : lstR (c :: S) r xs := by
  cases r with
  | dat d => cases d <;> exact h
  | val v =>
    cases v with
    | ref p =>
      obtain ⟨j, hj⟩ := h
      exact ⟨j + 1, by simpa using hj⟩
    | _ => exact h
  | _ => exact h
theorem lstR_set {S : SH} {r : R} {xs : List R} {j : Nat} {p C : Addr} {ks : List Str} {rs : List R} (hj : S[j]? = some (.ins p C ks rs)) (c : Cell) (h : lstR S r xs) : lstR (S.set j c) r xs := by
  cases r with
  | dat d => cases d <;> exact h
  | val v =>
    cases v with
    | ref p =>
      obtain ⟨i, hi⟩ := h
      refine ⟨i, ?_⟩
      rw [List.getElem?_set]
      split
      · rename_i e
        subst e
        rw [hj] at hi
        cases hi
      · exact hi
    | _ => exact h
  | _ => exact h
theorem cut_from {α : Type} (xs : List α) {i : Int} (h : 0 ≤ i) : cutD xs (some i) none = xs.drop i.toNat := by
  unfold DL.cutD
  have e : HT.sIx xs.length 0 (some i) = min i.toNat xs.length := by
    have := HT.sIx_nat xs.length 0 i.toNat
    rw [toNat_cast h] at this
    exact this
  rw [e, HT.sIx_none]
  by_cases hl : i.toNat ≤ xs.length
  · rw [Nat.min_eq_left hl, List.take_of_length_le (by rw [List.length_drop]; exact Nat.le_refl _)]
  · rw [Nat.min_eq_right (by omega), List.drop_length, List.drop_eq_nil_of_le (by omega)]
    simp
theorem cut_to {α : Type} (xs : List α) {i : Int} (h : 0 ≤ i) : cutD xs none (some i) = xs.take i.toNat := by
  unfold DL.cutD
  have e : HT.sIx xs.length xs.length (some i) = min i.toNat xs.length := by
    have := HT.sIx_nat xs.length xs.length i.toNat
    rw [toNat_cast h] at this
    exact this
  rw [e, HT.sIx_none]
  simp only [List.drop_zero, Nat.sub_zero]
  by_cases hl : i.toNat ≤ xs.length
  · rw [Nat.min_eq_left hl]
  · rw [Nat.min_eq_right (by omega), List.take_of_length_le (Nat.le_refl _), List.take_of_length_le (by omega)]
/-! ### what a row does -/
structure Eff where
  row : Int
  taken : Int
  name : Option Int
  number : Option Int
  file : Option Int
  pos : Int
  old : List Int
  new : List Int
  letter : Option Int
  fault : Option Str
def optI : Option Int → PyData
  | none => .none
  | some i => .int i
def optS : Option Str → PyData
  | none => .none
  | some i => .str i
def tupI (ns : List Int) : PyData := .tuple (ns.map PyData.int)
def lstI (ns : List Int) : PyData := .list (ns.map PyData.int)
def Eff.rs (e : Eff) : List R := [.dat (.int e.row), .dat (.int e.taken), .dat (optI e.name), .dat (optI e.number), .dat (optI e.file), .dat (.int e.pos), .dat (tupI e.old), .dat (tupI e.new), .dat (optI e.letter), .dat (optS e.fault)]
def eff0 (row taken : Int) : Eff := ⟨row, taken, none, none, none, 0, [], [], none, none⟩
def fileR (fs : List (List Int)) : List R := fs.map fun f => .dat (lstI f)
def changedE (e : Eff) (f : Int) (held : List Int) (at_ : Nat) (new : List Int) : Eff := { e with file := some f, pos := at_, old := held.drop at_, new := new }
def effect (row : PRow) (at_ taken : Int) (ns hs : List Int) (fs : List (List Int)) : Eff :=
  let e := eff0 (at_ + 1) taken
  match row with
  | .set n p => { e with name := some n, number := some (p.worth ns) }
  | .size n f => { e with name := some n, number := some ((fs.getD f.toNat []).length : Int) }
  | .take n => if taken = (hs.length : Int) then { e with name := some n, fault := some "none", taken := taken + 1 } else { e with name := some n, number := some (hs.getD taken.toNat 0), taken := taken + 1 }
  | .get n f p => if ((fs.getD f.toNat []).length : Int) ≤ p.worth ns then { e with name := some n, fault := some "place" } else { e with name := some n, number := some ((fs.getD f.toNat []).getD (p.worth ns).toNat 0) }
  | .add f p => let h := fs.getD f.toNat []; changedE (if h.length = 40 then { e with fault := some "full" } else e) f h h.length [p.worth ns]
  | .put f p q => let h := fs.getD f.toNat []; changedE (if (h.length : Int) ≤ p.worth ns then { e with fault := some "place" } else e) f h (p.worth ns).toNat (q.worth ns :: h.drop ((p.worth ns).toNat + 1))
  | .cut f p => let h := fs.getD f.toNat []; changedE e f h (min (p.worth ns).toNat h.length) []
  | .send p => { e with letter := some (p.worth ns) }
  | .go r => { e with row := r }
  | .unl n r => if ns.getD n.toNat 0 = 0 then { e with row := r } else e
  | .mark => e
theorem fileR_at {fs : List (List Int)} {i : Nat} (h : i < fs.length) : atI (fileR fs) (i : Int) = some (.dat (lstI (fs.getD i []))) := by
  refine atI_nat ?_
  unfold fileR
  rw [List.getElem?_map, List.getElem?_eq_getElem h, List.getD_eq_getElem?_getD, List.getElem?_eq_getElem h]
  rfl
theorem fileR_len (fs : List (List Int)) : (fileR fs).length = fs.length := by simp [fileR]
end PM
set_option Elab.async false
set_option linter.all false
set_option maxRecDepth 100000
set_option maxHeartbeats 4000000
namespace K19
open PySem PySem.Spec PyProof.Rows L2 DL PM
def topS (i : Nat) : Stmt := PySem.Challenge.pw_longwork_k19_written_and_read.main.body.getD i (.Pass ⟨0, 0, 0, 0⟩)
section
variable {P : Program} {w : World} {K : Fg} {mg : Str → Option Value} {base : Heap}
/-! is_number -/
def isNum : PyData → Int → Int → Bool
  | .int i, lo, hi => decide (lo ≤ i) && decide (i ≤ hi)
  | _, _, _ => false
def spIsNumber : SpD := fun rs S C => ∃ d lo hi, rs = [.dat d, .dat (.int lo), .dat (.int hi)] ∧ kdOf d ≠ none ∧ C (.dat (.bool (isNum d lo hi))) S
abbrev s_is_number : Stmt := topS 13
abbrev N_is_number : List Str := ["part", "low", "high"]
theorem sc_is_number : FnScope N_is_number ["part", "low", "high"] (defScope s_is_number) := ⟨rfl, rfl, rfl, by decide +kernel, rfl, by decide +kernel, by decide +kernel⟩
theorem ok_is_number {k : Nat} (F : FunAt K mg "is_number" s_is_number ["part", "low", "high"]) (B : Blt mg) : Def P w K mg base "is_number" (k + 1) 3 spIsNumber := by
  refine okF F sc_is_number rfl fun cdv A outer s H E f hr => ⟨_,
    (ss_one (s_ret (d_and (d_isi kit_int (by rfl) B.isinstance (a_cons (dv 0) (a_cons (d_bltn (v := .ty "int") (by rfl) B.int (by decide +kernel) rfl) a_nil))) (d_and (d_not (d_isi kit_bool (by rfl) B.isinstance (a_cons (dv 0) (a_cons (d_bltn (v := .ty "bool") (by rfl) B.bool (by decide +kernel) rfl) a_nil)))) (d_one (d_leLe (dv 1) (dv 0) (dv 2)))))))
    , ?_⟩
  intro rs S C hl h
  obtain ⟨d, lo, hi, rfl, hk, h⟩ := h
  cases d with
  | int i =>
    refine ⟨_, rfl, rfl, _, rfl, iteTb rfl ⟨_, rfl, rfl, _, rfl, iteTb rfl ⟨_, rfl, _, rfl, ite2d (fun h1 => ?_) (fun h1 => ?_)⟩⟩⟩
    · refine ⟨_, rfl, ?_⟩
      have e : isNum (.int i) lo hi = decide (i ≤ hi) := by simp [isNum, h1]
      rw [e] at h
      exact h
    · have e : isNum (.int i) lo hi = false := by simp [isNum, h1]
      rw [e] at h
      exact h
  | dict kvs => exact absurd rfl hk
  | bool b => exact ⟨_, rfl, rfl, _, rfl, iteTb rfl ⟨_, rfl, rfl, _, rfl, iteFb rfl h⟩⟩
  | _ => exact ⟨_, rfl, rfl, _, rfl, iteFb rfl h⟩
theorem isNum_yes {i lo hi : Int} (h : lo ≤ i ∧ i ≤ hi) : isNum (.int i) lo hi = true := by simp [isNum, h.1, h.2]
/-! is_part -/
def spIsPart (n : Nat) : SpD := fun rs S C => ∃ (p : Part) (names deep : Int), rs = [.dat p.dat, .dat (.int names), .dat (.int deep)] ∧ p.ok names ∧ (p.deep : Int) ≤ deep ∧ p.deep ≤ n ∧ p.deep ≤ 60 ∧ C (.dat (.bool true)) S
theorem Def.never {x : Str} {st : Stmt} {ps : List Str} {k n : Nat} (Fn : FunAt K mg x st ps) : Def P w K mg base x k n (fun _ _ _ => False) := by
  obtain ⟨f, fd, Fu, hm, hb⟩ := Fn.ex
  exact ⟨f, fd, ps, ⟨fun vs H Q E h => by obtain ⟨_, _, _, _, _, _, _, _, z, _⟩ := h; exact z.elim, fun A outer s H args us vs Q E _ _ _ _ h => by obtain ⟨_, _, _, _, _, _, _, _, z, _⟩ := h; exact z.elim⟩, hm, Fu.kp, hb⟩
abbrev s_is_part : Stmt := topS 14
abbrev N_is_part : List Str := ["part", "names", "deep"]
theorem sc_is_part : FnScope N_is_part ["part", "names", "deep"] (defScope s_is_part) := ⟨rfl, rfl, rfl, by decide +kernel, rfl, by decide +kernel, by decide +kernel⟩
theorem part_body {n k : Nat} {spR : SpD} {a1 : Addr} {t1 : Tok} (F : FunAt K mg "is_part" s_is_part ["part", "names", "deep"]) (B : Blt mg) (D : Def P w K mg base "is_part" (k + 1) 3 spR) (D1 : Def P w K mg base "is_number" 1 3 spIsNumber) (hR : ∀ m rs S C, m + 1 = n → spIsPart m rs S C → spR rs S C)
    (c1 : mg "PAIRS" = some (.ref a1)) (k1 : KTup K a1 (pairW.map V.str)) (c2 : mg "REST" = some (.int 10007 t1)) : Def P w K mg base "is_part" (k + 2) 3 (spIsPart n) := by
  refine okF F sc_is_part rfl fun cdv A outer s H E f hr => ⟨_,
    (ss_cons (s_if (PDW.pt (w_or (t_eq hr.units (dv 2) d_int) (w_or (t_not (t_val (d_isi kit_tuple (by rfl) B.isinstance (a_cons (dv 0) (a_cons (d_bltn (v := .ty "tuple") (by rfl) B.tuple (by decide +kernel) rfl) a_nil))))) (w_or (t_eq hr.units (dv 0) (d_tup a_nil)) (w_or1 (t_not (t_val (d_isi kit_str (by rfl) B.isinstance (a_cons (d_ix (hu_of hr) (dv 0) d_int) (a_cons (d_bltn (v := .ty "str") (by rfl) B.str (by decide +kernel) rfl) a_nil))))))))))
      (ss_one (s_ret d_bl))
      ss_nil)
      (ss_cons (s_if (t_in (d_ix (hu_of hr) (dv 0) d_int) (d_globT (ns := pairW) (by rfl) c1 k1))
      (ss_one (s_ret (d_and (d_eq hr.units (d_len (by rfl) B.len (a_cons (dv 0) a_nil)) d_int) (d_and (d_callF D (hr.mono (by omega)) (by rfl) (a_cons (d_ix (hu_of hr) (dv 0) d_int) (a_cons (dv 1) (a_cons (d_sub (dv 2) d_int) a_nil)))) (d_one (d_callF D (hr.mono (by omega)) (by rfl) (a_cons (d_ix (hu_of hr) (dv 0) d_int) (a_cons (dv 1) (a_cons (d_sub (dv 2) d_int) a_nil)))))))))
      ss_nil)
      (ss_cons (s_if (PDW.pt (w_or (t_ne hr.units (d_len (by rfl) B.len (a_cons (dv 0) a_nil)) d_int) (w_or1 (t_notIn (d_ix (hu_of hr) (dv 0) d_int) (d_tup (a_cons d_str (a_cons d_str a_nil)))))))
      (ss_one (s_ret d_bl))
      ss_nil)
      (ss_one (s_ret (d_callF D1 (hr.mono (by omega)) (by rfl) (a_cons (d_ix (hu_of hr) (dv 0) d_int) (a_cons d_int (a_cons (d_if (t_eq hr.units (d_ix (hu_of hr) (dv 0) d_int) d_str) (d_sub (d_globI (by rfl) c2) d_int) (d_sub (dv 1) d_int)) a_nil)))))))))
    , ?_⟩
  intro rs S C hl h
  obtain ⟨p, names, deep, rfl, hp, hd, hn, h60, h⟩ := h
  have hpos := p.deep_pos
  have hsh : SeqAt.shaped p.dat = true := shaped_mk p.lay (by have := p.depth; omega)
  have he : eqOk p.dat (.tuple []) = true := eqOk_mk hsh (by decide)
  have hz : PyData.eqv (.int deep) (.int 0) = false := by simp [PyData.eqv]; omega
  have e0 : ∀ (x : PyData) (xs : List PyData), PyData.eqv (.tuple (x :: xs)) (.tuple []) = false := fun x xs => by rw [PyData.eqv, PyData.eqvAll]
  cases p with
  | num n =>
    refine ⟨_, rfl, rfl, iteFb hz ⟨_, rfl, rfl, _, rfl, iteFb rfl ⟨_, rfl, Nat.zero_le _, _, rfl, he, iteFb (e0 _ _) ⟨_, rfl, ⟨_, rfl, rfl, _, rfl, iteFb rfl ?_⟩⟩⟩⟩⟩
    refine ⟨_, rfl, _, rfl, rfl, rfl, iteFb rfl ?_⟩
    refine ⟨_, rfl, rfl, iteFb rfl ⟨_, rfl, _, rfl, by simp, _, rfl, rfl, rfl, iteFb rfl ?_⟩⟩
    refine ⟨_, rfl, _, rfl, _, rfl, _, rfl, rfl, iteTb rfl ⟨rfl, _, _, _, rfl, (fun z => nomatch z), ?_⟩⟩
    rw [isNum_yes ⟨hp.1, by have := hp.2; omega⟩]
    exact h
  | name n =>
    refine ⟨_, rfl, rfl, iteFb hz ⟨_, rfl, rfl, _, rfl, iteFb rfl ⟨_, rfl, Nat.zero_le _, _, rfl, he, iteFb (e0 _ _) ⟨_, rfl, ⟨_, rfl, rfl, _, rfl, iteFb rfl ?_⟩⟩⟩⟩⟩
    refine ⟨_, rfl, _, rfl, rfl, rfl, iteFb rfl ?_⟩
    refine ⟨_, rfl, rfl, iteFb rfl ⟨_, rfl, _, rfl, by simp, _, rfl, rfl, rfl, iteFb rfl ?_⟩⟩
    refine ⟨_, rfl, _, rfl, _, rfl, _, rfl, rfl, iteFb rfl ⟨_, rfl, rfl, _, _, _, rfl, (fun z => nomatch z), ?_⟩⟩
    rw [isNum_yes ⟨hp.1, by have := hp.2; omega⟩]
    exact h
  | op o a b =>
    have hm : ∃ m, m + 1 = n := ⟨n - 1, by omega⟩
    obtain ⟨m, hm⟩ := hm
    have hda : a.deep + 1 ≤ (Part.op o a b).deep := by simp only [Part.deep]; omega
    have hdb : b.deep + 1 ≤ (Part.op o a b).deep := by simp only [Part.deep]; omega
    refine ⟨_, rfl, rfl, iteFb hz ⟨_, rfl, rfl, _, rfl, iteFb rfl ⟨_, rfl, Nat.zero_le _, _, rfl, he, iteFb (e0 _ _) ⟨_, rfl, ⟨_, rfl, rfl, _, rfl, iteFb rfl ?_⟩⟩⟩⟩⟩
    have hw : inD (.str o.word) (pairW.map PyData.str) = true := by cases o <;> rfl
    refine ⟨_, rfl, _, rfl, rfl, rfl, iteTb hw ?_⟩
    refine ⟨_, rfl, rfl, iteTb rfl ⟨_, rfl, _, rfl, _, rfl, _, rfl, rfl, hR m _ _ _ hm ⟨a, names, deep - 1, rfl, hp.1, by omega, by omega, by omega, iteTb rfl ?_⟩⟩⟩
    exact ⟨_, rfl, _, rfl, _, rfl, _, rfl, rfl, hR m _ _ _ hm ⟨b, names, deep - 1, rfl, hp.2, by omega, by omega, by omega, h⟩⟩
theorem ok_is_part {a1 : Addr} {t1 : Tok} (F : FunAt K mg "is_part" s_is_part ["part", "names", "deep"]) (B : Blt mg) (D1 : Def P w K mg base "is_number" 1 3 spIsNumber)
    (c1 : mg "PAIRS" = some (.ref a1)) (k1 : KTup K a1 (pairW.map V.str)) (c2 : mg "REST" = some (.int 10007 t1)) : ∀ n : Nat, Def P w K mg base "is_part" (n + 2) 3 (spIsPart n)
  | 0 => part_body F B (Def.never F) D1 (fun m _ _ _ h _ => by omega) c1 k1 c2
  | n + 1 => part_body F B (ok_is_part F B D1 c1 k1 c2 n) D1 (fun m rs S C h q => by
    have e : m = n := by omega
    subst e
    exact q) c1 k1 c2
end
end K19
set_option Elab.async false
set_option linter.all false
set_option maxRecDepth 100000
set_option maxHeartbeats 4000000
namespace K19
open PySem PySem.Spec PyProof.Rows L2 DL PM
section
variable {P : Program} {w : World} {K : Fg} {mg : Str → Option Value} {base : Heap}
/-! shape_of -/
abbrev shapes : List (Str × Str) := [(Str.ofString "set", Str.ofString "nx"), (Str.ofString "take", Str.ofString "n"), (Str.ofString "add", Str.ofString "fx"), (Str.ofString "put", Str.ofString "fxx"), (Str.ofString "cut", Str.ofString "fx"), (Str.ofString "get", Str.ofString "nfx"), (Str.ofString "size", Str.ofString "nf"), (Str.ofString "send", Str.ofString "x")]
abbrev jumps : List (Str × Str) := [(Str.ofString "go", Str.ofString "r"), (Str.ofString "unless", Str.ofString "nr"), (Str.ofString "mark", Str.ofString "")]
def shapeD (z : Str) : PyData := match shapes.lookup z with
  | some v => .str v
  | none => match jumps.lookup z with
    | some v => .str v
    | none => .none
def spShapeOf : SpD := fun rs S C => ∃ z, rs = [.dat (.str z)] ∧ C (.dat (shapeD z)) S
abbrev s_shape_of : Stmt := topS 15
abbrev N_shape_of : List Str := ["word"]
theorem sc_shape_of : FnScope N_shape_of ["word"] (defScope s_shape_of) := ⟨rfl, rfl, rfl, by decide +kernel, rfl, by decide +kernel, by decide +kernel⟩
theorem ok_shape_of {k : Nat} {aS aJ : Addr} (F : FunAt K mg "shape_of" s_shape_of ["word"]) (B : Blt mg) (c1 : mg "SHAPES" = some (.ref aS)) (t1 : KTab K w aS shapes) (c2 : mg "JUMPS" = some (.ref aJ)) (t2 : KTab K w aJ jumps) : Def P w K mg base "shape_of" (k + 1) 1 spShapeOf := by
  refine okF F sc_shape_of rfl fun cdv A outer s H E f hr => ⟨_,
    (ss_one (s_ret (d_kget t1 (by rfl) c1 (dv 0) (d_kget t2 (by rfl) c2 (dv 0) d_non))))
    , ?_⟩
  intro rs S C hl h
  obtain ⟨z, rfl, h⟩ := h
  refine ⟨_, rfl, _, rfl, ?_⟩
  unfold shapeD at h
  show C (match shapes.lookup z with | some v => .dat (.str v) | none => match jumps.lookup z with | some v => .dat (.str v) | none => .dat .none) S
  cases e1 : shapes.lookup z with
  | some v => rw [e1] at h; exact h
  | none =>
    rw [e1] at h
    cases e2 : jumps.lookup z with
    | some v => rw [e2] at h; exact h
    | none => rw [e2] at h; exact h
theorem shape_len (r : PRow) : r.shape.length ≤ 100000 := by cases r <;> exact Nat.le_of_ble_eq_true rfl
theorem shape_row (r : PRow) : shapeD r.word = .str r.shape := by cases r <;> rfl
/-! why_not -/
local macro_rules | `(tactic| walk_at "pair") => `(tactic| refine ⟨rfl, rfl, ?_⟩)
local macro_rules | `(tactic| walk_at "off") => `(tactic| refine ⟨_, rfl, rfl, iteFb rfl (iteFb rfl ?_)⟩)
local macro_rules | `(tactic| walk_at "num") => `(tactic| refine ⟨_, rfl, rfl, iteTb rfl ⟨_, rfl, _, rfl, rfl, _, _, _, rfl, (fun z => nomatch z), iteFb (by simp [isNum]; omega) ?_⟩⟩)
local macro_rules | `(tactic| walk_at "part") => `(tactic| refine ⟨_, rfl, rfl, iteTb rfl ⟨_, rfl, _, rfl, rfl, _, _, _, rfl, by assumption, by omega, by omega, by omega, iteFb rfl ?_⟩⟩)

def spWhyNot : SpD := fun rs S C => ∃ (r : PRow) (names files many : Int), rs = [.dat r.dat, .dat (.int names), .dat (.int files), .dat (.int many)] ∧ r.ok names files many ∧ C (.dat .none) S
abbrev s_why_not : Stmt := topS 16
abbrev N_why_not : List Str := ["row", "names", "files", "many", "shape", "kind", "part"]
theorem sc_why_not : FnScope N_why_not ["row", "names", "files", "many"] (defScope s_why_not) := ⟨rfl, rfl, rfl, by decide +kernel, rfl, by decide +kernel, by decide +kernel⟩
theorem ok_why_not {k : Nat} {t1 : Tok} (F : FunAt K mg "why_not" s_why_not ["row", "names", "files", "many"]) (B : Blt mg) (D1 : Def P w K mg base "is_number" 1 3 spIsNumber) (D2 : Def P w K mg base "is_part" 5 3 (spIsPart 3)) (D3 : Def P w K mg base "shape_of" 1 1 spShapeOf) (c1 : mg "MOST_DEEP" = some (.int 3 t1)) : Def P w K mg base "why_not" (k + 6) 4 spWhyNot := by
  refine okF F sc_why_not rfl fun cdv A outer s H E f hr => ⟨_,
    (ss_cons (s_if (PDW.pt (w_or (t_not (t_val (d_isi kit_tuple (by rfl) B.isinstance (a_cons (dv 0) (a_cons (d_bltn (v := .ty "tuple") (by rfl) B.tuple (by decide +kernel) rfl) a_nil))))) (w_or (t_eq hr.units (dv 0) (d_tup a_nil)) (w_or (t_not (t_val (d_isi kit_str (by rfl) B.isinstance (a_cons (d_ix (hu_of hr) (dv 0) d_int) (a_cons (d_bltn (v := .ty "str") (by rfl) B.str (by decide +kernel) rfl) a_nil))))) (w_or1 (t_isN (d_callF D3 (hr.mono (by omega)) (by rfl) (a_cons (d_ix (hu_of hr) (dv 0) d_int) a_nil)) d_non))))))
      (ss_one (s_ret d_str))
      ss_nil)
      (ss_cons (s_set (i := 4) sc_why_not.nd (d_callF D3 (hr.mono (by omega)) (by rfl) (a_cons (d_ix (hu_of hr) (dv 0) d_int) a_nil)))
      (ss_cons (s_if (t_ne hr.units (d_len (by rfl) B.len (a_cons (dv 0) a_nil)) (d_add (d_len (by rfl) B.len (a_cons (dv 4) a_nil)) d_int))
      (ss_one (s_ret d_str))
      ss_nil)
      (ss_cons (s_for (i_zipS (by rfl) B.zip (a_cons (dv 4) (a_cons (d_slice (dv 0) (o_some d_int) o_none) a_nil))) (g_tup (gs_cons (g_name (i := 5) sc_why_not.nd) (gs_cons (g_name (i := 6) sc_why_not.nd) gs_nil)))
      (ss_cons (s_if (PDW.pt (w_and (t_eq hr.units (dv 5) d_str) (w_and1 (t_not (t_val (d_callF D1 (hr.mono (by omega)) (by rfl) (a_cons (dv 6) (a_cons d_int (a_cons (d_sub (dv 1) d_int) a_nil)))))))))
      (ss_one (s_ret d_str))
      ss_nil)
      (ss_cons (s_if (PDW.pt (w_and (t_eq hr.units (dv 5) d_str) (w_and1 (t_not (t_val (d_callF D1 (hr.mono (by omega)) (by rfl) (a_cons (dv 6) (a_cons d_int (a_cons (d_sub (dv 2) d_int) a_nil)))))))))
      (ss_one (s_ret d_str))
      ss_nil)
      (ss_cons (s_if (PDW.pt (w_and (t_eq hr.units (dv 5) d_str) (w_and1 (t_not (t_val (d_callF D1 (hr.mono (by omega)) (by rfl) (a_cons (dv 6) (a_cons d_int (a_cons (dv 3) a_nil)))))))))
      (ss_one (s_ret d_str))
      ss_nil)
      (ss_one (s_if (PDW.pt (w_and (t_eq hr.units (dv 5) d_str) (w_and1 (t_not (t_val (d_callF D2 (hr.mono (by omega)) (by rfl) (a_cons (dv 6) (a_cons (dv 1) (a_cons (d_globI (by rfl) c1) a_nil)))))))))
      (ss_one (s_ret d_str))
      ss_nil))))))
      (ss_one (s_ret d_non))))))
    , ?_⟩
  intro rs S C hl h
  obtain ⟨r, names, files, many, rfl, ok, h⟩ := h
  have hsh : SeqAt.shaped r.dat = true := shaped_mk r.lay (by have := PRow.depth ok; omega)
  have he : eqOk r.dat (.tuple []) = true := eqOk_mk hsh (by decide)
  have e0 : ∀ (x : PyData) (xs : List PyData), PyData.eqv (.tuple (x :: xs)) (.tuple []) = false := fun x xs => by rw [PyData.eqv, PyData.eqvAll]
  refine ⟨_, rfl, rfl, _, rfl, iteFb rfl ⟨_, rfl, Nat.zero_le _, _, rfl, he, iteFb (e0 _ _) ⟨_, rfl, ⟨_, at0, rfl, _, rfl, iteFb rfl ⟨_, rfl, ⟨_, at0, rfl, _, rfl, ?_⟩⟩⟩⟩⟩⟩
  rw [shape_row]
  dsimp only [dC, fIsN]
  refine iteFb ?_ ?_
  · rfl
  refine ⟨_, rfl, ⟨_, at0, rfl, _, rfl, ?_⟩⟩
  rw [shape_row]
  cases r with
  | set n p =>
    obtain ⟨⟨n1, n2⟩, hp, hd⟩ := ok
    refine ⟨_, rfl, _, rfl, shape_len _, rfl, iteFb rfl ⟨_, rfl, _, rfl, loop_unroll ?_⟩⟩
    walk_at "pair"; walk_at "num"; walk_at "off"; walk_at "off"; walk_at "off"
    walk_at "pair"; walk_at "off"; walk_at "off"; walk_at "off"; walk_at "part"
    exact h
  | take n =>
    obtain ⟨n1, n2⟩ := ok
    refine ⟨_, rfl, _, rfl, shape_len _, rfl, iteFb rfl ⟨_, rfl, _, rfl, loop_unroll ?_⟩⟩
    walk_at "pair"; walk_at "num"; walk_at "off"; walk_at "off"; walk_at "off"
    exact h
  | add n p =>
    obtain ⟨⟨n1, n2⟩, hp, hd⟩ := ok
    refine ⟨_, rfl, _, rfl, shape_len _, rfl, iteFb rfl ⟨_, rfl, _, rfl, loop_unroll ?_⟩⟩
    walk_at "pair"; walk_at "off"; walk_at "num"; walk_at "off"; walk_at "off"
    walk_at "pair"; walk_at "off"; walk_at "off"; walk_at "off"; walk_at "part"
    exact h
  | put n p q =>
    obtain ⟨⟨n1, n2⟩, ⟨hp, hd⟩, hq, he⟩ := ok
    refine ⟨_, rfl, _, rfl, shape_len _, rfl, iteFb rfl ⟨_, rfl, _, rfl, loop_unroll ?_⟩⟩
    walk_at "pair"; walk_at "off"; walk_at "num"; walk_at "off"; walk_at "off"
    walk_at "pair"; walk_at "off"; walk_at "off"; walk_at "off"; walk_at "part"
    walk_at "pair"; walk_at "off"; walk_at "off"; walk_at "off"; walk_at "part"
    exact h
  | cut n p =>
    obtain ⟨⟨n1, n2⟩, hp, hd⟩ := ok
    refine ⟨_, rfl, _, rfl, shape_len _, rfl, iteFb rfl ⟨_, rfl, _, rfl, loop_unroll ?_⟩⟩
    walk_at "pair"; walk_at "off"; walk_at "num"; walk_at "off"; walk_at "off"
    walk_at "pair"; walk_at "off"; walk_at "off"; walk_at "off"; walk_at "part"
    exact h
  | get n f p =>
    obtain ⟨⟨n1, n2⟩, ⟨f1, f2⟩, hp, hd⟩ := ok
    refine ⟨_, rfl, _, rfl, shape_len _, rfl, iteFb rfl ⟨_, rfl, _, rfl, loop_unroll ?_⟩⟩
    walk_at "pair"; walk_at "num"; walk_at "off"; walk_at "off"; walk_at "off"
    walk_at "pair"; walk_at "off"; walk_at "num"; walk_at "off"; walk_at "off"
    walk_at "pair"; walk_at "off"; walk_at "off"; walk_at "off"; walk_at "part"
    exact h
  | size n f =>
    obtain ⟨⟨n1, n2⟩, ⟨f1, f2⟩⟩ := ok
    refine ⟨_, rfl, _, rfl, shape_len _, rfl, iteFb rfl ⟨_, rfl, _, rfl, loop_unroll ?_⟩⟩
    walk_at "pair"; walk_at "num"; walk_at "off"; walk_at "off"; walk_at "off"
    walk_at "pair"; walk_at "off"; walk_at "num"; walk_at "off"; walk_at "off"
    exact h
  | send p =>
    obtain ⟨hp, hd⟩ := ok
    refine ⟨_, rfl, _, rfl, shape_len _, rfl, iteFb rfl ⟨_, rfl, _, rfl, loop_unroll ?_⟩⟩
    walk_at "pair"; walk_at "off"; walk_at "off"; walk_at "off"; walk_at "part"
    exact h
  | go n =>
    obtain ⟨n1, n2⟩ := ok
    refine ⟨_, rfl, _, rfl, shape_len _, rfl, iteFb rfl ⟨_, rfl, _, rfl, loop_unroll ?_⟩⟩
    walk_at "pair"; walk_at "off"; walk_at "off"; walk_at "num"; walk_at "off"
    exact h
  | unl n f =>
    obtain ⟨⟨n1, n2⟩, ⟨f1, f2⟩⟩ := ok
    refine ⟨_, rfl, _, rfl, shape_len _, rfl, iteFb rfl ⟨_, rfl, _, rfl, loop_unroll ?_⟩⟩
    walk_at "pair"; walk_at "num"; walk_at "off"; walk_at "off"; walk_at "off"
    walk_at "pair"; walk_at "off"; walk_at "off"; walk_at "num"; walk_at "off"
    exact h
  | mark =>
    refine ⟨_, rfl, _, rfl, shape_len _, rfl, iteFb rfl ⟨_, rfl, _, rfl, loop_unroll ?_⟩⟩
    exact h
end
end K19
set_option Elab.async false
set_option linter.all false
set_option maxRecDepth 100000
set_option maxHeartbeats 4000000
namespace K19
open PySem PySem.Spec PyProof.Rows L2 DL PM
section
variable {P : Program} {w : World} {K : Fg} {mg : Str → Option Value} {base : Heap}
/-! need_program -/
def spNeedProgram : SpD := fun rs S C => ∃ p : Prog, rs = [.dat p.dat] ∧ p.ok ∧ C (.dat .none) S
abbrev s_need_program : Stmt := topS 17
abbrev N_need_program : List Str := ["program", "names", "files", "rows", "number", "row", "why"]
theorem sc_need_program : FnScope N_need_program ["program"] (defScope s_need_program) := ⟨rfl, rfl, rfl, by decide +kernel, rfl, by decide +kernel, by decide +kernel⟩
theorem ok_need_program {k : Nat} {t1 t2 t3 : Tok} (F : FunAt K mg "need_program" s_need_program ["program"]) (B : Blt mg) (D1 : Def P w K mg base "is_number" 1 3 spIsNumber) (D2 : Def P w K mg base "why_not" 6 4 spWhyNot) (c1 : mg "MOST_NAMES" = some (.int 8 t1)) (c2 : mg "MOST_FILES" = some (.int 4 t2)) (c3 : mg "MOST_ROWS" = some (.int 60 t3)) : Def P w K mg base "need_program" (k + 7) 1 spNeedProgram := by
  refine okF F sc_need_program rfl fun cdv A outer s H E f hr => ⟨_,
    (ss_cons (s_if (PDW.pt (w_or (t_not (t_val (d_isi kit_tuple (by rfl) B.isinstance (a_cons (dv 0) (a_cons (d_bltn (v := .ty "tuple") (by rfl) B.tuple (by decide +kernel) rfl) a_nil))))) (w_or (t_ne hr.units (d_len (by rfl) B.len (a_cons (dv 0) a_nil)) d_int) (w_or1 (t_not (t_val (d_isi kit_tuple (by rfl) B.isinstance (a_cons (d_ix (hu_of hr) (dv 0) d_int) (a_cons (d_bltn (v := .ty "tuple") (by rfl) B.tuple (by decide +kernel) rfl) a_nil)))))))))
      (ss_one s_never)
      ss_nil)
      (ss_cons (s_asg (dv 0) (g_tup (gs_cons (g_name (i := 1) sc_need_program.nd) (gs_cons (g_name (i := 2) sc_need_program.nd) (gs_cons (g_name (i := 3) sc_need_program.nd) gs_nil)))))
      (ss_cons (s_if (t_not (t_val (d_callF D1 (hr.mono (by omega)) (by rfl) (a_cons (dv 1) (a_cons d_int (a_cons (d_globI (by rfl) c1) a_nil))))))
      (ss_one s_never)
      ss_nil)
      (ss_cons (s_if (t_not (t_val (d_callF D1 (hr.mono (by omega)) (by rfl) (a_cons (dv 2) (a_cons d_int (a_cons (d_globI (by rfl) c2) a_nil))))))
      (ss_one s_never)
      ss_nil)
      (ss_one (s_for (i_enumT (by rfl) B.enumerate (a_cons (dv 3) a_nil)) (g_tup (gs_cons (g_name (i := 4) sc_need_program.nd) (gs_cons (g_name (i := 5) sc_need_program.nd) gs_nil)))
      (ss_cons (s_set (i := 6) sc_need_program.nd (d_if (t_ge (dv 4) (d_globI (by rfl) c3)) d_str (d_callF D2 (hr.mono (by omega)) (by rfl) (a_cons (dv 5) (a_cons (dv 1) (a_cons (dv 2) (a_cons (d_len (by rfl) B.len (a_cons (dv 3) a_nil)) a_nil)))))))
      (ss_one (s_if (t_notN (dv 6) d_non)
      (ss_one s_never)
      ss_nil)))))))))
    , ?_⟩
  intro rs S C hl h
  obtain ⟨p, rfl, ok, h⟩ := h
  have hn := ok.n
  have hf := ok.f
  have hl60 := ok.l
  refine ⟨_, rfl, rfl, _, rfl, iteFb rfl ⟨_, rfl, rfl, iteFb rfl ⟨_, rfl, ⟨_, rfl, rfl, _, rfl, iteFb rfl ?_⟩⟩⟩⟩
  refine ⟨_, rfl, rfl, rfl, ?_⟩
  refine ⟨_, rfl, rfl, _, _, _, rfl, (fun z => nomatch z), iteFb (by simp [isNum]; omega) ?_⟩
  refine ⟨_, rfl, rfl, _, _, _, rfl, (fun z => nomatch z), iteFb (by simp [isNum]; omega) ?_⟩
  refine ⟨_, rfl, fun i fr S' => S' = S ∧ ∃ a b c : Option R, fr = [some (.dat p.dat), some (.dat (.int p.names)), some (.dat (.int p.files)), some (.dat (.tuple (p.rows.map PRow.dat))), a, b, c], ⟨rfl, none, none, none, rfl⟩, ?_, ?_⟩
  · rintro i r fr S' hi ⟨rfl, a, b, c, rfl⟩
    obtain ⟨d, hd, rfl⟩ := enum_get hi
    rw [List.getElem?_map] at hd
    cases hx : p.rows[i]? with
    | none => rw [hx] at hd; cases hd
    | some row =>
      rw [hx] at hd
      cases hd
      have hlt := (List.getElem?_eq_some_iff.mp hx).1
      refine ⟨rfl, rfl, _, rfl, iteFd (by omega) ⟨_, rfl, _, rfl, _, rfl, _, rfl, rfl, row, p.names, p.files, _, rfl, ?_, ?_⟩⟩
      · rw [List.length_map]
        exact ok.r row (List.mem_of_getElem? hx)
      · exact ⟨_, rfl, rfl, _, _, _, rfl⟩
  · rintro fr S' ⟨rfl, a, b, c, rfl⟩
    exact h
end
end K19
set_option Elab.async false
set_option linter.all false
set_option maxRecDepth 100000
set_option maxHeartbeats 4000000
/-! DL: x in d, d a dict that is a cell. -/
namespace DL
open PySem PySem.Spec PyProof.Rows L2
def rInDic : R2 := fun y x H Q => ∃ a o, x = .ref a ∧ DGet H a y o ∧ Q (.bl o.isSome) H
theorem op_inDic {X : Cx} (hu : X.A.units + 1 < cLine) : OpR X (compareOp .In) rInDic := by
  intro pins s σ H x y v u Q I rx ry h
  obtain ⟨a, o, rfl, g, q⟩ := h
  obtain rfl : u = Value.ref a := ry
  exact L2.d_in hu I g rx fun s3 I3 => ⟨.bl o.isSome, H, I3, rfl, q⟩
def fInDic : F2 := fun a b S C => match a, b with
  | .dat (.int i), .val (.ref p) => ∃ (j : Nat) (kvs : List (Key × R)), S[j]? = some (.dct p kvs) ∧ C (.dat (.bool (kvs.any fun kv => decide (kv.1 = Sum.inl i)))) S
  | _, _ => False
theorem valV_any : ∀ {kws : List (Key × V)} {k : Key}, (valV kws k).isSome = kws.any fun kv => decide (kv.1 = k)
  | [], _ => rfl
  | a :: as, k => by
    rw [List.any_cons]
    by_cases h : a.1 = k
    · rw [valV_pos h, decide_eq_true h]; rfl
    · rw [valV_neg h, decide_eq_false h, valV_any]; rfl
theorem opd_inDic {K : Fg} : OpD K rInDic fInDic := by
  intro F x y a b H S L C Q o hx hy hf q
  have ha := o.live _ hx
  have hb := o.live _ hy
  unfold fInDic at hf
  split at hf
  · rename_i i p
    cases rep_int_inv ha
    cases (show y = V.ref p from hb)
    obtain ⟨j, kvs, hj, h⟩ := hf
    obtain ⟨kws, e1, q1⟩ := o.cells _ (at_split (in_app hj))
    refine ⟨p, _, rfl, DGet.k (k := Sum.inl i) e1, ?_⟩
    have e : (valV kws (Sum.inl i)).isSome = kvs.any fun kv => decide (kv.1 = Sum.inl i) := by rw [valV_any]; exact any_kv (P := RepR K (Av (S ++ F)) H) (Sum.inl i) q1
    rw [e]
    exact q _ _ S H (o.pd (.bl _)) h
  · exact hf.elim
section
variable {X : Cx} {a b : Expr} {da db : DE} {pos : Pos}
theorem d_inDic (hu : X.A.units + 1 < cLine) (ha : PD X a da) (hb : PD X b db) (hm : behindInMarks .In b = false := by rfl) : PD X (.Compare a [.In] [b] pos) (dOp fInDic da db) := d_cmpG (op_inDic hu) opd_inDic ha hb hm
theorem t_inDic (hu : X.A.units + 1 < cLine) (ha : PD X a da) (hb : PD X b db) (hm : behindInMarks .In b = false := by rfl) : PDT X (.Compare a [.In] [b] pos) (dTest (dOp fInDic da db)) := t_cmpG (op_inDic hu) opd_inDic ha hb hm
end
end DL
set_option Elab.async false
set_option linter.all false
set_option maxRecDepth 100000
set_option maxHeartbeats 4000000
/-! DL: texts: sep.join(xs), s.split(sep), xs.extend(ys), a sign (not) in a text, enumerate(xs, 1). -/
namespace DL
open PySem PySem.Spec PyProof.Rows L2
section
variable {K : Fg}
/-- a method of a text with one argument -/
def dM1 (f : Str → F1) (da db : DE) : DE := fun fr S C => da fr S fun a S1 => match a with
  | .dat (.str s) => db fr S1 fun b S2 => f s b S2 C
  | _ => False
def M1D (K : Fg) (r : V → List V → Hp → VK → Prop) (f : Str → F1) : Prop := ∀ (F : SH) (s : Str) (y : V) (b : R) (H : Hp) (S : SH) (L : Live) (C : CR0) (Q : VK), OkF K F H S L → (y, b) ∈ L → f s b S C →
  (∀ v c S' H', OkF K F H' S' ((v, c) :: L) → C c S' → Q v H') → r (.str s) [y] H Q
theorem lift_m1 {r : V → List V → Hp → VK → Prop} {f : Str → F1} {ta tb : TE} {da db : DE} (h : M1D K r f) (la : Lift K ta da) (lb : Lift K tb db) : Lift K (tM1 r ta tb) (dM1 f da db) := by
  intro F H σ fr S L fo o C Q hd q
  refine la F H σ fr S L fo o _ _ hd fun x a S1 H1 o1 h1 => ?_
  split at h1
  · rename_i s
    have hx := o1.dat List.mem_cons_self
    cases hx
    refine ⟨⟨s, rfl⟩, ?_⟩
    refine lb F H1 σ fr S1 _ (fo.mono tl_mem) o1 _ _ h1 fun y b S2 H2 o2 h2 => ?_
    exact h F s y b H2 S2 _ C Q o2 List.mem_cons_self h2 fun v c S' H' o' hc => q v c S' H' (o'.sub (sub_cons fun e he => List.mem_cons_of_mem _ (List.mem_cons_of_mem _ he))) hc
  · exact h1.elim
/-! sep.join(xs) -/
def strD (ys : List Str) : List PyData := ys.map PyData.str
def strR (ys : List Str) : List R := ys.map fun y => R.dat (.str y)
def JnOk (s : Str) (ys : List Str) : Prop := (ys.map (·.length)).sum + ys.length * s.length ≤ 16777216
def fJoin (s : Str) : F1 := fun b S C => match b with
  | .dat (.list ds) => ∃ ys, ds = strD ys ∧ JnOk s ys ∧ C (.dat (.str (Txt.join s ys))) S
  | .val (.ref p) => ∃ (j : Nat) (ys : List Str), S[j]? = some (.lst p (strR ys)) ∧ JnOk s ys ∧ C (.dat (.str (Txt.join s ys))) S
  | _ => False
theorem strR_inv {A : Addr → Prop} {H : Hp} : ∀ {ys : List Str} {vs : List V}, RepRs K A H vs (strR ys) → vs = ys.map V.str
  | [], _, .nil => rfl
  | y :: ys, _, .cons h t => by
    cases (show Rep K A H _ (.str y) from h)
    rw [strR_inv t]; rfl
theorem m1d_join : M1D K (fun x xs H Q => ∃ a p, ∃ ys : List Str, x = .str a ∧ xs = [.ref p] ∧ (SqL K H p (ys.map V.str) ∨ SqT K H p (ys.map V.str)) ∧
    (ys.map (·.length)).sum + ys.length * a.length ≤ 16777216 ∧ Q (.str (Txt.join a ys)) H) fJoin := by
  intro F s y b H S L C Q o hy hf q
  replace hy := o.live _ hy
  unfold fJoin at hf
  split at hf
  · obtain ⟨ys, rfl, hl, h⟩ := hf
    cases hy with | lst e1 n1 q1 =>
    have ev := RepAll.strs_inv q1
    subst ev
    exact ⟨s, _, ys, rfl, rfl, .inl (SqL.of e1), hl, q _ _ S H (o.pd (.str _)) h⟩
  · rename_i p
    cases (show y = V.ref p from hy)
    obtain ⟨j, ys, hj, hl, h⟩ := hf
    obtain ⟨vs, e1, q1⟩ := o.cells _ (at_split (in_app hj))
    have ev := strR_inv q1
    subst ev
    exact ⟨s, _, ys, rfl, rfl, .inl (SqL.of e1), hl, q _ _ S H (o.pd (.str _)) h⟩
  · exact hf.elim
/-! s.split(sep) -/
def fSplit (s : Str) : F1 := fun b S C => match b with
  | .dat (.str z) => (z.length == 0) = false ∧ s.length ≤ 100000 ∧ C (.dat (.list (strD (Txt.split s z)))) S
  | _ => False
theorem m1d_split : M1D K (fun x xs H Q => ∃ a b, x = .str a ∧ xs = [.str b] ∧ (b.length == 0) = false ∧ a.length + 2 ≤ sizeLine ∧ rNewStrs (Txt.split a b) H Q) fSplit := by
  intro F s y b H S L C Q o hy hf q
  replace hy := o.live _ hy
  unfold fSplit at hf
  split at hf
  · cases hy
    obtain ⟨h0, hl, h⟩ := hf
    exact ⟨s, _, rfl, rfl, h0, by rw [sizeLine_eq]; omega, fun p hp => q _ _ S _ (o.lst hp (RepAll.strs _)) h⟩
  · exact hf.elim
/-! xs.extend(ys) -/
def dExt (da de : DE) : DE := fun fr S C => da fr S fun a S1 => match a with
  | .val (.ref p) => (∃ (j : Nat) (xs : List R), S1[j]? = some (.lst p xs)) ∧ de fr S1 fun b S2 => match b with
    | .dat (.list ds) => ∃ (j : Nat) (xs : List R), S2[j]? = some (.lst p xs) ∧ xs.length + ds.length ≤ 100000 ∧ C (.dat .none) (S2.set j (.lst p (xs ++ ds.map R.dat)))
    | _ => False
  | _ => False
theorem reps_dat {A : Addr → Prop} {H : Hp} : ∀ {vs : List V} {ds : List PyData}, RepAll K A H vs ds → RepRs K A H vs (ds.map R.dat)
  | _, _, .nil => .nil
  | _, _, .cons h t => .cons h (reps_dat t)
theorem lift_ext {to te : TE} {da de : DE} (la : Lift K to da) (le : Lift K te de) : Lift K (tBM K "list" rExtend to (tCons te tNil)) (dExt da de) := by
  intro F H σ fr S L fo o C Q hd q
  refine la F H σ fr S L fo o _ _ hd fun x a S1 H1 o1 h1 => ?_
  split at h1
  · rename_i p
    obtain ⟨⟨j, xs, hj⟩, h1⟩ := h1
    cases o1.val List.mem_cons_self
    obtain ⟨us, e1, _⟩ := o1.cells _ (at_split (in_app hj))
    refine ⟨.inl ⟨rfl, _, SqL.of e1⟩, ?_⟩
    refine le F H1 σ fr S1 _ (fo.mono tl_mem) o1 _ _ h1 fun v r S2 H2 o2 h2 => ?_
    split at h2
    · rename_i ds
      obtain ⟨j2, ys, hj2, hl, hc⟩ := h2
      obtain ⟨ws, f1, q1⟩ := o2.cells _ (at_split (in_app hj2))
      have hv := o2.dat List.mem_cons_self
      cases hv with | lst g1 n1 q2 =>
      have l1 := paired_len q1
      have l2 := q2.length
      refine ⟨p, _, ws, _, rfl, rfl, f1, g1, by rw [sizeLine_eq, l1, l2]; omega, ?_⟩
      have o3 := o2.putL (in_app hj2) (paired_app q1 (reps_dat q2))
      rw [set_app hj2] at o3
      exact q _ _ _ _ ((o3.sub fun e he => List.mem_cons_of_mem _ (List.mem_cons_of_mem _ he)).pd .non) hc
    · exact h2.elim
  · exact h1.elim
/-! a sign in a text -/
def fInS (neg : Bool) : F2 := fun a b S C => match a, b with
  | .dat (.str c), .dat (.str z) => ∃ n, c = ⟨#[n]⟩ ∧ C (.dat (.bool (if neg then !decide (n ∈ z.cps.toList) else decide (n ∈ z.cps.toList)))) S
  | _, _ => False
theorem opd_inS : OpD K (fun x y H Q => ∃ (c : Nat) (z : Str), x = .str ⟨#[c]⟩ ∧ y = .str z ∧ Q (.bl (decide (c ∈ z.cps.toList))) H) (fInS false) := OpD.flat fun A x y a b H S C Q hx hy hf q => by
  unfold fInS at hf
  split at hf
  · obtain ⟨n, rfl, h⟩ := hf
    cases hx; cases hy
    exact ⟨n, _, rfl, rfl, q _ (.dat _) (.bl _) h⟩
  · exact hf.elim
theorem opd_notInS : OpD K (fun x y H Q => ∃ (c : Nat) (z : Str), x = .str ⟨#[c]⟩ ∧ y = .str z ∧ Q (.bl (!decide (c ∈ z.cps.toList))) H) (fInS true) := OpD.flat fun A x y a b H S C Q hx hy hf q => by
  unfold fInS at hf
  split at hf
  · obtain ⟨n, rfl, h⟩ := hf
    cases hx; cases hy
    exact ⟨n, _, rfl, rfl, q _ (.dat _) (.bl _) h⟩
  · exact hf.elim
end
section
variable {X : Cx} {a b e : Expr} {da db de : DE} {pos apos : Pos}
theorem d_join (ha : PD X a da) (he : PD X e de) (hs : starEach [e] X.env = [(false, eval e X.env)] := by rfl) (hbase : attributeBase a "join" X.env (eval a X.env) = eval a X.env := by rfl) (hline : (apos.endLine == pos.line) = true := by rfl) :
    PD X (.Call (.Attribute a "join" apos) [e] [] pos) (dM1 fJoin da de) := by
  obtain ⟨_, p, l⟩ := ha.ex
  obtain ⟨_, p2, l2⟩ := he.ex
  exact ⟨_, pe_join p p2 hs hbase hline, lift_m1 m1d_join l l2⟩
theorem d_split (ha : PD X a da) (he : PD X e de) (hs : starEach [e] X.env = [(false, eval e X.env)] := by rfl) (hbase : attributeBase a "split" X.env (eval a X.env) = eval a X.env := by rfl) (hline : (apos.endLine == pos.line) = true := by rfl) :
    PD X (.Call (.Attribute a "split" apos) [e] [] pos) (dM1 fSplit da de) := by
  obtain ⟨_, p, l⟩ := ha.ex
  obtain ⟨_, p2, l2⟩ := he.ex
  exact ⟨_, pe_split p p2 hs hbase hline, lift_m1 m1d_split l l2⟩
theorem d_ext (ha : PD X a da) (he : PD X e de) (hbase : attributeBase a "extend" X.env (eval a X.env) = eval a X.env := by rfl)
    (hfew : ((backTo pos (starEach [e] X.env)).all (fun x => !x.1) && (backToKw pos (keywordEach [] X.env)).all (fun x => x.1.isSome)
      && decide (([e] : List Expr).length + ([] : List Keyword).length + (if ([] : List Keyword).isEmpty then 0 else 1) < 30)) = true := by rfl)
    (hline : (apos.endLine == pos.line) = true := by rfl) (hs : starEach [e] X.env = [(false, eval e X.env)] := by rfl) : PD X (.Call (.Attribute a "extend" apos) [e] [] pos) (dExt da de) := by
  obtain ⟨_, p, l⟩ := ha.ex
  obtain ⟨_, p2, l2⟩ := he.ex
  exact ⟨_, pe_bm PySem.F.plainAttrs_list PySem.F.slot_list_extend PySem.F.type_list_extend mt_extend p (pa_cons p2 pa_nil hs) hbase hfew hline hs rfl, lift_ext l l2⟩
theorem t_inS (ha : PD X a da) (hb : PD X b db) (hm : behindInMarks .In b = false := by rfl) : PDT X (.Compare a [.In] [b] pos) (dTest (dOp (fInS false) da db)) := t_cmpG op_in_sign opd_inS ha hb hm
theorem t_notInS (ha : PD X a da) (hb : PD X b db) (hm : behindInMarks .NotIn b = false := by rfl) : PDT X (.Compare a [.NotIn] [b] pos) (dTest (dOp (fInS true) da db)) := t_cmpG op_notIn_sign opd_notInS ha hb hm
end
/-! ### enumerate(xs, 1) of a list -/
def IteL1 (K : Fg) (b : Addr) : It :=
  ⟨fun i H => ∃ (ys : List V) (y : V), SqL K H b ys ∧ ys[i]? = some y,
    fun i H v H' => ∃ T y, v = .ref T ∧ H T = none ∧ H' = upd H T (.tup [.int (1 + (i : Int)), y]) ∧ ∀ ys, SqL K H b ys → ys[i]? = some y,
    fun i H => ∃ ys : List V, SqL K H b ys ∧ i = ys.length⟩
theorem turn_enumL1 {P : Program} {w : World} {K : Fg} {elts : List Expr} {kk : Nat} {tpos : Pos} {b e it : Addr} (hei : e ≠ it) (heb : e ≠ b) (hne : b ≠ it) :
    Turn P w K (.Tuple elts kk tpos) (IteL1 K b) [e, it] e (fun i h => (∃ old, IsEnum h e it (1 + (i : Int)) old) ∧ h.IsListIter it b i) where
  mem := by simp
  obj := fun i h st c hc => by
    obtain ⟨⟨old, he⟩, ⟨o2, e2, _, d2⟩⟩ := st
    have e' : c = e ∨ c = it := by simpa using hc
    rcases e' with q | q
    · rw [q]; exact ⟨_, he, fun v q => nomatch q⟩
    · rw [q]; exact ⟨o2, e2, fun v q => by rw [d2] at q; cases q⟩
  keep := fun i h h' st k => by
    obtain ⟨⟨old, he⟩, h2⟩ := st
    exact ⟨⟨old, k e (by simp) _ he⟩, h2.at fun o q => k it (by simp) o q⟩
  item := by
    intro X hP hw hK hc i pins s σ H E I hf st hg
    subst hP hw hK
    obtain ⟨⟨old, he⟩, h2⟩ := st
    obtain ⟨ys, y, hqy, hy⟩ := hg
    obtain ⟨its, rv, p, _⟩ := I.list hqy
    obtain ⟨u, hu, ru⟩ := rv.get hy
    have hhd : X.A.in1.handled = none := I.ok.hd hc
    have G := GoesN.enumFrom (prog := X.prog) (w := X.w) (A := X.A) (elts := elts) (x1 := kk) (pos := tpos) 1 (Draws.list hhd it b hne its.toArray) e hei (by
      intro z
      have z' : e = it ∨ e = b := by simpa using z
      rcases z' with z' | z'
      · exact hei z'
      · exact heb z') (by simp)
    have hlt2 : i < its.toArray.size := by
      have := (List.getElem?_eq_some_iff.mp hu).1
      simpa using this
    refine G.goes i s _ _ hlt2 ⟨⟨old, he⟩, h2, p.isList⟩ fun v h' tk hY st' hk htk => ?_
    obtain ⟨T, t, yv, rfl, hT0, hyv, hT⟩ := hY
    have eyv : yv = u := by
      have e1 : its[i]? = some yv := by simpa using hyv
      rw [hu] at e1
      exact (Option.some.inj e1).symm
    subst eyv
    have new : ObjOk X.prog X.w (upd H T (.tup [.int (1 + (i : Int)), y])) h' T (.tup [.int (1 + (i : Int)), y]) :=
      ⟨by show 2 ≤ sizeLine; decide, [.int (1 + (i : Int)) t, yv], .cons ⟨t, rfl⟩ (.cons ru .nil), hT⟩
    have I1 : Inv X pins σ (upd H T (.tup [.int (1 + (i : Int)), y])) { s with heap := h', toks := tk } :=
      I.turnedNew (t' := tk) (ch := [e, it]) (fun c o hb q => hk c o hb q) hf hT0 new
    refine ⟨.ref T, _, I1, rfl, ⟨T, y, rfl, I.hok.fresh hT0, rfl, fun l hl => by rw [I.list_inj hl hqy]; exact hy⟩, ⟨st'.1, st'.2.1⟩, fun c' hcm => ?_⟩
    have hlt : c' < s.heap.objs.size := by
      have e' : c' = e ∨ c' = it := by simpa using hcm
      rcases e' with q | q
      · rw [q]; exact Heap.lt_size he
      · rw [q]; obtain ⟨_, e2, _⟩ := h2; exact Heap.lt_size e2
    rw [upd_ne (Nat.ne_of_lt (Nat.lt_of_lt_of_le hlt hT0))]
    exact (hf c' hcm).1
  done := by
    intro X hP hw hK hc i pins s σ H E I hf st hg
    subst hP hw hK
    obtain ⟨⟨old, he⟩, h2⟩ := st
    obtain ⟨ys, hqy, hend⟩ := hg
    obtain ⟨its, rv, p, _⟩ := I.list hqy
    have l1 := rv.length
    have hhd : X.A.in1.handled = none := I.ok.hd hc
    have G := GoesN.enumFrom (prog := X.prog) (w := X.w) (A := X.A) (elts := elts) (x1 := kk) (pos := tpos) 1 (Draws.list hhd it b hne its.toArray) e hei (by
      intro z
      have z' : e = it ∨ e = b := by simpa using z
      rcases z' with z' | z'
      · exact hei z'
      · exact heb z') (by simp)
    have e : i = its.toArray.size := by rw [hend, l1]; simp
    subst e
    exact wpAny_mono (G.stops s (fun s1 => Inv X pins σ H s1) _ ⟨⟨old, he⟩, h2, p.isList⟩ fun h' tk hk htk => I.turnedL (t' := tk) (fun c o hb q => hk c o hb q) hf) (fun _ _ h => h) (fun _ _ h => h)
  self := fun A i s Q E st h => by
    obtain ⟨⟨old, he⟩, _⟩ := st
    exact wpAny_pyIter_enum he h
def iEnumL1 (K : Fg) (ta : TA) : TI := fun σ H R => ta σ H fun vs H1 => ∃ b ys, vs = [.ref b, .int 1] ∧ SqL K H1 b ys ∧ R (IteL1 K b) H1
theorem pi_enumL1 {X : Cx} {e e2 : Expr} {ta : TA} {p pos tpos : Pos} {elts : List Expr} {kk : Nat} (hg : Gl X "enumerate") (hm : X.mg "enumerate" = none) (ha : PA X [e, e2] ta) (hs : starEach [e, e2] X.env = (false, eval e X.env) :: starEach [e2] X.env := by rfl)
    (hpl : (backTo pos (starEach [e2] X.env)).any (·.1) = false := by rfl) :
    PI X (.Tuple elts kk tpos) (.Call (.Name "enumerate" p) [e, e2] [] pos) (iEnumL1 X.K ta) := by
  refine ⟨fun pins s σ H R I h => ?_⟩
  refine Call_ (ld_blt I hg hm boot_enumerate (PyProof.Rows.callWith_type1 (thn (ha.run pos pins s σ H _ I h) fun us s1 ⟨vs, H1, I1, r1, q1⟩ => ?_) hs hpl))
  obtain ⟨b, ys, ex, hq, q⟩ := q1
  subst ex
  cases r1 with
  | cons r rr =>
    cases rr with
    | cons r2 rr2 =>
    cases rr2
    cases r
    obtain ⟨tk2, rfl⟩ := r2
    obtain ⟨its, rv, p1, _⟩ := I1.list hq
    obtain ⟨o1, ho1, _⟩ := id p1.isList
    have hb : b < s1.heap.objs.size := Heap.lt_size ho1
    refine enum_begins (begins_list b its.toArray) p1.isList (by decide) (by decide) fun h' he h2 hsz hk => wpAny_pyIter_enum he ?_
    have I2 : Inv X pins σ H1 { s1 with heap := h' } := I1.kept (t' := s1.toks) hk
    refine ⟨s1.heap.objs.size + 1, [s1.heap.objs.size + 1, s1.heap.objs.size], _, _, H1, rfl, I2, turn_enumL1 (b := b) (Nat.succ_ne_self _) (fun e => Nat.lt_irrefl _ (Nat.lt_of_le_of_lt (Nat.le_add_right _ 1) (e ▸ hb))) (fun e => Nat.lt_irrefl _ (e ▸ hb)), ⟨⟨.none, he⟩, ⟨_, h2, rfl, rfl⟩⟩, fun b' hb' => ?_, q⟩
    have e' : b' = s1.heap.objs.size + 1 ∨ b' = s1.heap.objs.size := by simpa using hb'
    have hle : s1.heap.objs.size ≤ b' := by
      rcases e' with z | z
      · rw [z]; exact Nat.le_add_right _ _
      · rw [z]; exact Nat.le_refl _
    exact I1.fpOk hle (I1.hok.fresh hle)
def enumD1 (ds : List PyData) : List R := (List.range ds.length).map fun (i : Nat) => R.dat (.tuple [.int (1 + (i : Int)), ds.getD i .none])
def iEn1 (da : DA) : DI := fun fr S C => da fr S fun rs S1 => match rs with
  | [.dat (.list ds), .dat (.int 1)] => C (enumD1 ds) S1
  | _ => False
section
variable {K : Fg}
theorem it_enumL1 {b : Addr} {ds : List PyData} {L : Live} (m : (V.ref b, R.dat (.list ds)) ∈ L) : ItOk K (IteL1 K b) (enumD1 ds) L := fun H T L' o s i => by
  have hr := o.dat (s _ m)
  cases hr with | @lst _ xs _ h1 n1 q1 =>
  have hq : SqL K H b xs := SqL.of h1
  refine ⟨fun r e => ?_, fun hl => ⟨xs, hq, ?_⟩⟩
  · unfold enumD1 at e
    rw [List.getElem?_map] at e
    by_cases hi : i < ds.length
    · rw [List.getElem?_range hi] at e
      cases e
      have e1 : ds[i]? = some ds[i] := List.getElem?_eq_getElem hi
      obtain ⟨v, ev, rv⟩ := q1.get' e1
      refine ⟨⟨xs, v, hq, ev⟩, fun x H' y => ?_⟩
      obtain ⟨T', y', rfl, hT, rfl, y⟩ := y
      have e3 := y xs hq
      rw [ev] at e3
      cases e3
      have e2 : ds.getD i .none = ds[i] := by rw [List.getD_eq_getElem?_getD, e1]; rfl
      show Ok K _ T ((V.ref T', R.dat (.tuple [.int (1 + ((i : Nat) : Int)), ds.getD i .none])) :: L')
      rw [e2]
      exact o.tup hT (.cons (.int _) (.cons rv .nil))
    · rw [List.getElem?_eq_none (by simpa using hi)] at e
      cases e
  · rw [q1.length, ← hl]
    simp [enumD1]
theorem lift_enumL1 {ta : TA} {da : DA} (l : LiftA K ta da) : LiftI K (iEnumL1 K ta) (iEn1 da) := fun F H σ fr S L f o C Rr h q => by
  refine l F H σ fr S L f o _ _ h fun vs rs S1 H1 L1 o1 s1 lv h1 => ?_
  split at h1
  · cases lv with | cons m t => cases t with | cons m2 t2 =>
    cases t2
    have hr := o1.dat m
    cases rep_int_inv (o1.dat m2)
    cases hr with | lst e1 n1 q1 =>
    exact ⟨_, _, rfl, SqL.of e1, q _ _ S1 H1 L1 o1 s1 (it_enumL1 m) h1⟩
  · exact h1.elim
end
theorem i_enum1 {X : Cx} {e e2 : Expr} {dA : DA} {pos p tpos : Pos} {elts : List Expr} {kk : Nat} (hg : Gl X "enumerate") (hm : X.mg "enumerate" = none) (ha : PDA X [e, e2] dA) (hs : starEach [e, e2] X.env = (false, eval e X.env) :: starEach [e2] X.env := by rfl)
    (hpl : (backTo pos (starEach [e2] X.env)).any (·.1) = false := by rfl) :
    PDI X (.Tuple elts kk tpos) (.Call (.Name "enumerate" p) [e, e2] [] pos) (iEn1 dA) := by
  obtain ⟨_, p, l⟩ := ha.ex
  exact ⟨_, pi_enumL1 hg hm p hs hpl, lift_enumL1 l⟩
theorem enum1_get {ds : List PyData} {i : Nat} {r : R} (h : (enumD1 ds)[i]? = some r) : ∃ d, ds[i]? = some d ∧ r = .dat (.tuple [.int (1 + (i : Int)), d]) := by
  unfold enumD1 at h
  rw [List.getElem?_map] at h
  by_cases hi : i < ds.length
  · rw [List.getElem?_range hi] at h
    cases h
    have e1 : ds[i]? = some ds[i] := List.getElem?_eq_getElem hi
    refine ⟨_, e1, ?_⟩
    show R.dat (.tuple [.int (1 + (i : Int)), ds.getD i .none]) = _
    rw [List.getD_eq_getElem?_getD, e1]; rfl
  · rw [List.getElem?_eq_none (by simpa using hi)] at h
    cases h
end DL
set_option Elab.async false
set_option linter.all false
set_option maxRecDepth 100000
set_option maxHeartbeats 4000000
/-! DL: str(t) of a tuple of numbers, texts and such tuples: some text of a known length at the most (what else is under way is not known). -/
namespace DL
open PySem PySem.Spec PyProof.Rows L2
def SomeRepr (prog : Program) (w : World) (h0 : Heap) (dep lim : Nat) (x : Value) : Prop :=
  ∀ (k : Nat), k + lim ≤ sizeLine → ∀ (A : Around) (E : Value → Shared → Prop) (s : Shared) (Q : Str → Shared → Prop), A.units + dep < cLine → (∀ a u, h0.get? a = some u → s.heap.get? a = some u) →
    (∀ (t : Str) (h1 : Heap) (tk : Nat), t.length ≤ lim → (∀ a u, s.heap.get? a = some u → h1.get? a = some u) → Q t { s with heap := h1, toks := tk }) → wpAny (model prog w) A (pyReprUnder k x) Q E s
inductive AllRepr (prog : Program) (w : World) (h0 : Heap) (dep : Nat) : List Value → Nat → Prop
  | nil : AllRepr prog w h0 dep [] 0
  | cons {x : Value} {lim more : Nat} {l : List Value} : SomeRepr prog w h0 dep lim x → AllRepr prog w h0 dep l more → AllRepr prog w h0 dep (x :: l) (lim + 2 + more)
section
variable {prog : Program} {w : World} {h0 : Heap} {dep : Nat}
theorem some_fold {A : Around} {E : Value → Shared → Prop} (hu : A.units + dep < cLine) : ∀ (l : List Value) (lim : Nat) (got : Array Str) (n : Nat) (s : Shared) (Q : (Array Str × Nat) → Shared → Prop), AllRepr prog w h0 dep l lim → n + lim ≤ sizeLine →
    (∀ a u, h0.get? a = some u → s.heap.get? a = some u) →
    (∀ (ts : List Str) (h1 : Heap) (tk : Nat), ts.length = l.length → piled ts ≤ lim → (∀ a u, s.heap.get? a = some u → h1.get? a = some u) → Q ⟨got ++ ts.toArray, n + piled ts⟩ { s with heap := h1, toks := tk }) →
    wpAny (model prog w) A (forIn l (⟨got, n⟩ : (Array Str × Nat)) tupBody) Q E s
  | [], _, got, n, s, Q, .nil, _, _, q => by
    have q0 := q [] s.heap s.toks rfl (Nat.le_refl _) fun _ _ e => e
    rw [List.forIn_nil]
    exact wpAny_pure (by simpa [piled] using q0)
  | x :: l, _, got, n, s, Q, .cons (lim := lim) (more := more) hx hl, hn, k0, q => by
    rw [List.forIn_cons]
    refine wpAny_bind (wpAny_bind (hx (n + 1) (by omega) _ _ _ _ hu k0 fun t h1 tk ht k1 => wpAny_pure ?_))
    refine some_fold hu l more (got.push t) (n + (t.length + 2)) _ Q hl (by omega) (fun a u e => k1 _ _ (k0 _ _ e)) fun ts h2 tk2 el ep k2 => ?_
    have q1 := q (t :: ts) h2 tk2 (by rw [List.length_cons, List.length_cons, el]) (by rw [piled_cons]; omega) fun a u e => k2 _ _ (k1 _ _ e)
    have en : n + piled (t :: ts) = n + (t.length + 2) + piled ts := by rw [piled_cons]; omega
    rw [en] at q1
    simpa using q1
theorem tupleText_le (ts : List Str) : (tupleText ts).length ≤ piled ts + 5 := by
  unfold tupleText
  rw [strLen_append, strLen_append]
  have e1 : ((("(" : String) : Str)).length = 1 := rfl
  have e3 : (((if ts.length == 1 then ",)" else ")" : String) : Str)).length ≤ 2 := by split <;> decide
  have e2 : (Str.join ", " ts).length ≤ piled ts := by
    by_cases h : ts = []
    · subst h; decide
    · have := join_length_add ts h
      omega
  rw [e1]
  omega
theorem own_some {a : Addr} {o : Obj} {its : Array Value} {m lim : Nat} (ha : h0.get? a = some o) (hd : o.data = .seq its m) (hT : AllRepr prog w h0 dep its.toList lim)
    {A : Around} {s : Shared} {R : Result → Shared → Prop} {k : Nat} {id : String} {rest : List Value} (hcu : (A.under (.builtin id ⟨.ref a :: rest, []⟩)).units = A.units + 1) (hu : A.units + (dep + 1) < cLine)
    (k0 : ∀ a u, h0.get? a = some u → s.heap.get? a = some u)
    (hR : ∀ (t : Str) (h1 : Heap) (u : Tok) (tk : Nat), t.length ≤ lim + 5 → (∀ a u, s.heap.get? a = some u → h1.get? a = some u) → R (.ok (.ret (.str t u))) { s with heap := h1, toks := tk }) (hz : k + (lim + 5) ≤ sizeLine) :
    wpOwn (model prog w) A (.builtin id ⟨.ref a :: rest, []⟩) (Builtin.tupleReprAt k ⟨[.ref a], []⟩) (fun fin s' => match fin with | .done f => R (.ok f) s' | .again c' => c'.quiet = true ∧ codeAny (model prog w) A c' R s') (fun e s' => R (.error e) s') s := by
  rw [tuple_repr_tree, tupleReprUnderWay_eq]
  refine wpOwn_bind (wpOwn_bind (wpOwn_stack fun p below _ _ _ => wpOwn_of_wpAny (wpAny_pure ?_)))
  generalize (((Code.builtin id ⟨.ref a :: rest, []⟩, p) :: below).tail.any (tupGuardF (.ref a))) = hit
  refine wpOwn_of_wpAny ?_
  cases hit with
  | true =>
    show wpAny _ _ (rule "tuple.repr.in-itself" >>= fun _ => retStr "(...)") _ _ s
    refine wpAny_bind (wpAny_rule ?_)
    refine wpAny_bind (wpAny_mkStr (wpAny_pure ?_) (by rw [sizeLine_eq]; decide))
    exact hR _ s.heap _ _ (by show (("(...)" : String) : Str).length ≤ lim + 5; have e : (("(...)" : String) : Str).length = 5 := by decide
                              omega) fun _ _ e => e
  | false =>
    show wpAny _ _ (tupleReprRest k (.ref a)) _ _ s
    unfold tupleReprRest Builtin.Tuple.tupleItemsOf
    refine wpAny_bind (wpAny_bind (wpAny_seqItems (k0 _ _ ha) hd (wpAny_pure ?_)))
    rw [← Array.forIn_toList]
    refine wpAny_bind (some_fold (by rw [hcu]; omega) _ lim _ _ _ _ hT (by omega) k0 fun ts h1 tk el ep k1 => ?_)
    have hl : ts.length = its.size := by simpa using el
    have ht := tupleText_le ts
    refine wpAny_bind (wpAny_mkStr (wpAny_pure ?_) (by have hz2 : (tupleText ts).length ≤ sizeLine := by omega
                                                       simpa [tupleText, hl] using hz2))
    have q1 := hR (tupleText ts) h1 tk (tk + 1) (by omega) k1
    simpa [tupleText, hl] using q1
theorem SomeRepr.tup {a : Addr} {o : Obj} {its : Array Value} {m lim : Nat} (ha : h0.get? a = some o) (hc : o.cls = .type "tuple") (hd : o.data = .seq its m) (hT : AllRepr prog w h0 dep its.toList lim) : SomeRepr prog w h0 (dep + 1) (lim + 5) (.ref a) := by
  intro k hk A E s Q hu k0 q
  refine wpAny_pyReprUnder_ref (by omega) (wpAny_pyReprObjUnder_twin (twin := "tuple.__repr__.under") ⟨o, k0 _ _ ha, hc⟩ F.slot_tuple_repr rfl (by omega) ?_)
  refine call_twin_own (F.quiet_tuple_repr_under _) F.entry_tuple_repr_under F.check_tuple_repr_under ⟨o, k0 _ _ ha, hc⟩ F.slot_tuple_repr (F.args_tuple_repr_1 _) ?_
  exact own_some (R := callEnd _ E) ha hd hT (units_under_tuple_repr_under _ _) hu k0 (fun t h1 u tk ht k1 => ⟨⟨_, _, rfl⟩, _, _, rfl, q t h1 tk ht k1⟩) hk
theorem call_some {a : Addr} {o : Obj} {its : Array Value} {m lim : Nat} (ha : h0.get? a = some o) (hc : o.cls = .type "tuple") (hd : o.data = .seq its m) (hT : AllRepr prog w h0 dep its.toList lim)
    {A : Around} {E : Value → Shared → Prop} {s : Shared} {Q : Value → Shared → Prop} (hu : A.units + (dep + 1) < cLine) (k0 : ∀ a u, h0.get? a = some u → s.heap.get? a = some u) (hz : lim + 5 ≤ sizeLine)
    (q : ∀ (t : Str) (h1 : Heap) (u : Tok) (tk : Nat), t.length ≤ lim + 5 → (∀ a u, s.heap.get? a = some u → h1.get? a = some u) → Q (.str t u) { s with heap := h1, toks := tk }) :
    wpAny (model prog w) A (call (.builtin "tuple.__repr__") [.ref a]) Q E s :=
  wpAny_call (codeAny_call_builtin_own (Code.quiet_builtin _ (by decide +kernel)) F.entry_tuple_repr (F.slot_tuple_repr.check _ _ _ _ _ _ _ _ ⟨o, k0 _ _ ha, hc⟩ (F.args_tuple_repr_1 _)
    (own_some (k := 0) (R := callEnd Q E) ha hd hT (units_under_tuple_repr _ _) hu k0 q (by omega))))
theorem str_some {a : Addr} {o : Obj} {its : Array Value} {m lim : Nat} (ha : h0.get? a = some o) (hc : o.cls = .type "tuple") (hd : o.data = .seq its m) (hT : ∀ (prog : Program) (w : World), AllRepr prog w h0 dep its.toList lim)
    {A : Around} {E : Value → Shared → Prop} {s : Shared} {Q : Value → Shared → Prop} (hu : A.units + (dep + 4) < cLine) (k0 : ∀ a u, h0.get? a = some u → s.heap.get? a = some u) (hz : lim + 5 ≤ sizeLine)
    (q : ∀ (t : Str) (h1 : Heap) (u : Tok) (tk : Nat), t.length ≤ lim + 5 → (∀ a u, s.heap.get? a = some u → h1.get? a = some u) → Q (.str t u) { s with heap := h1, toks := tk }) :
    wpAny (model prog w) A (call (.type "str") [.ref a]) Q E s :=
  callType_new F.called_str (by decide) (F.typeCall_str_1 _) (F.newCall_str_1 _) (fun obj => F.args_object_init_2 obj _) F.entry_str_new
    (meets_str_new (S := fun A' R s' => A'.units + (dep + 3) < cLine ∧ (∀ a u, h0.get? a = some u → s'.heap.get? a = some u) ∧
        ∀ (t : Str) (h1 : Heap) (u : Tok) (tk : Nat), t.length ≤ lim + 5 → (∀ a u, s'.heap.get? a = some u → h1.get? a = some u) → R (.ok (.ret (.str t u))) { s' with heap := h1, toks := tk })
      fun prog' w' A' R s' z => wpAny_strOf_slot rfl (by show A'.units + 1 + 1 < cLine; have := z.1; omega) ⟨o, z.2.1 _ _ ha, hc⟩ F.slot_tuple_str F.slot_tuple_repr
        (call_some ha hc hd (hT prog' w') (by show A'.units + 1 + 1 + (dep + 1) < cLine; have := z.1; omega) z.2.1 hz fun t h1 u tk ht k1 => ⟨t, u, rfl, z.2.2 t h1 u tk ht k1⟩))
    ⟨by show A.units + 1 + (dep + 3) < cLine; omega, k0, fun t h1 u tk ht k1 => ⟨typeIs_str _ _ _, q t h1 u tk ht k1⟩⟩

mutual
/-- the longest that str may tell of it -/
def tupLim : PyData → Nat
  | .tuple ds => tupLims ds + 5
  | .none => 10
  | .bool _ => 10
  | .int i => ((toString i : String) : Str).length
  | .str x => (reprText x).length
  | _ => 0
def tupLims : List PyData → Nat
  | [] => 0
  | d :: ds => tupLim d + 2 + tupLims ds
end
mutual
/-- tuples, numbers, texts alone -/
def tupOnly : PyData → Bool
  | .tuple ds => tupOnlys ds
  | .none => true
  | .bool _ => true
  | .int i => decide (i.natAbs.log2 < 1920)
  | .str _ => true
  | _ => false
def tupOnlys : List PyData → Bool
  | [] => true
  | d :: ds => tupOnly d && tupOnlys ds
end
theorem SomeRepr.of_is {v : Value} {t : Str} {lim dep : Nat} (h : ReprIs prog w v t) (hl : t.length ≤ lim) : SomeRepr prog w h0 dep lim v :=
  fun k hk A E s Q _ _ q => h k (by omega) A E s Q fun tk => q t s.heap tk hl fun _ _ e => e
theorem SomeRepr.more {v : Value} {lim d d' : Nat} (h : SomeRepr prog w h0 d lim v) (hd : d ≤ d') : SomeRepr prog w h0 d' lim v :=
  fun k hk A E s Q hu k0 q => h k hk A E s Q (by omega) k0 q
theorem AllRepr.more {l : List Value} {lim d d' : Nat} (h : AllRepr prog w h0 d l lim) (hd : d ≤ d') : AllRepr prog w h0 d' l lim := by
  induction h with
  | nil => exact .nil
  | cons a _ ih => exact .cons (a.more hd) ih
mutual
theorem SomeRepr.reads : ∀ {v : Value} {d : PyData} {as : List Addr}, Reads h0 v d as → tupOnly d = true → tupLim d ≤ sizeLine → SomeRepr prog w h0 d.depth (tupLim d) v
  | _, _, _, .none, _, _ => by rw [tupLim]; exact .of_is ReprIs.none (by decide)
  | _, _, _, .bool b, _, _ => by rw [tupLim]; exact .of_is (ReprIs.bool b) (by cases b <;> decide)
  | _, _, _, .int i t, hs, _ => by rw [tupLim]; exact .of_is (ReprIs.int t (by simpa [tupOnly] using hs)) (Nat.le_refl _)
  | _, _, _, .str x t, _, hz => by
    rw [tupLim] at hz ⊢
    exact .of_is (ReprIs.str x t hz) (Nat.le_refl _)
  | _, _, _, .list h1 h2 h3 h4, hs, _ => by simp [tupOnly] at hs
  | _, _, _, .tuple (xs := xs) h1 h2 h3 h4, hs, hz => by
    rw [tupLim] at hz ⊢
    rw [tupOnly] at hs
    rw [PyData.depth]
    exact SomeRepr.tup h1 h2 h3 (AllRepr.reads h4 hs (by omega))
  | _, _, _, .dict h1 h2 h3 h4 h5, hs, _ => by simp [tupOnly] at hs
theorem AllRepr.reads : ∀ {vs : List Value} {ds : List PyData} {as : List Addr}, ReadsAll h0 vs ds as → tupOnlys ds = true → tupLims ds ≤ sizeLine → AllRepr prog w h0 (PyData.depthAll ds) vs (tupLims ds)
  | _, _, _, .nil, _, _ => .nil
  | _, _, _, .cons (d := d) (ds := ds) r rs, hs, hz => by
    rw [tupOnlys] at hs
    rw [tupLims] at hz ⊢
    obtain ⟨s1, s2⟩ := Bool.and_eq_true_iff.mp hs
    rw [PyData.depthAll]
    exact .cons ((SomeRepr.reads r s1 (by omega)).more (Nat.le_max_left _ _)) ((AllRepr.reads rs s2 (by omega)).more (Nat.le_max_right _ _))
end
end
theorem call_str_tup {X : Cx} (hu : X.A.units + 64 < cLine) : CallR X (.type "str") (fun xs H Q => ∃ (v : V) (ds : List PyData), xs = [v] ∧ Dp X.K H v (.tuple ds) ∧ tupOnlys ds = true ∧ PyData.depthAll ds ≤ 50 ∧ tupLims ds ≤ 10000 ∧
    ∀ t : Str, t.length ≤ 10005 → Q (.str t) H) := by
  intro pins s σ H xs us Q I r h
  obtain ⟨v, ds, rfl, hd, ho, hdep, hlim, q⟩ := h
  cases r with
  | cons r1 r2 =>
    cases r2
    obtain ⟨as, rd⟩ := Dp.reads I (.tuple ds) v _ hd r1
    cases rd with
    | tuple h1 h2 h3 h4 =>
      refine str_some h1 h2 h3 (fun prog w => AllRepr.reads h4 ho (by rw [sizeLine_eq]; omega)) (by omega) (fun _ _ e => e) (by rw [sizeLine_eq]; omega) fun t h1' u tk ht k1 => ?_
      exact ⟨.str t, H, I.kept (t' := tk) k1, ⟨u, rfl⟩, q t (by omega)⟩
def fStrT : FA := fun rs S C => match rs with
  | [.dat (.int i)] => i.natAbs.log2 < 1920 ∧ C (.dat (.str (toString i))) S
  | [.dat (.tuple ds)] => tupOnlys ds = true ∧ PyData.depthAll ds ≤ 50 ∧ tupLims ds ≤ 10000 ∧ ∀ t : Str, t.length ≤ 10005 → C (.dat (.str t)) S
  | _ => False
def rStrT (K : Fg) : List V → Hp → VK → Prop := fun xs H Q => (∃ i, xs = [.int i] ∧ i.natAbs.log2 < 1920 ∧ Q (.str (toString i)) H) ∨
  ∃ (v : V) (ds : List PyData), xs = [v] ∧ Dp K H v (.tuple ds) ∧ tupOnlys ds = true ∧ PyData.depthAll ds ≤ 50 ∧ tupLims ds ≤ 10000 ∧ ∀ t : Str, t.length ≤ 10005 → Q (.str t) H
theorem cd_strT {K : Fg} : CallD K (rStrT K) fStrT := by
  intro F vs rs H S L C Q o lv hf q
  unfold fStrT at hf
  split at hf
  · cases lv with | cons m t =>
    cases t
    cases rep_int_inv (o.dat m)
    exact .inl ⟨_, rfl, hf.1, q _ _ S H (o.pd (.str _)) hf.2⟩
  · cases lv with | cons m t =>
    cases t
    obtain ⟨h1, h2, h3, h4⟩ := hf
    exact .inr ⟨_, _, rfl, (o.dat m).dp, h1, h2, h3, fun t ht => q _ _ S H (o.pd (.str _)) (h4 t ht)⟩
  · exact hf.elim
theorem d_strT {X : Cx} {e : Expr} {dA : DA} {p pos : Pos} (hu : X.A.units + 64 < cLine) (hg : Gl X "str") (hm : X.mg "str" = none) (ha : PDA X [e] dA) (he : starEach [e] X.env = [(false, eval e X.env)] := by rfl) : PD X (.Call (.Name "str" p) [e] [] pos) (dCB fStrT dA) :=
  d_callTy (call_str_int.or (call_str_tup hu)) cd_strT hg hm (by decide +kernel) ha (by decide) (by decide) he (by rfl)
end DL
set_option Elab.async false
set_option linter.all false
set_option maxRecDepth 100000
set_option maxHeartbeats 4000000
/-! Programs as texts: their words, and what a text's splitting gives back. -/
namespace PM
open PySem PySem.Spec PyProof.Rows L2 DL TL

abbrev numS (i : Int) : Str := ((toString i : String) : Str)
def nameS (i : Int) : Str := ("n" : Str) ++ numS i
theorem tl_numS {i : Int} (h : 0 ≤ i) : tl (numS i) = numL i.toNat := by
  have e : i = ((i.toNat : Nat) : Int) := by omega
  rw [e]
  exact tl_num i.toNat
theorem tl_nameS {i : Int} (h : 0 ≤ i) : tl (nameS i) = 110 :: numL i.toNat := by
  unfold nameS
  rw [tl_append, tl_numS h]; rfl
theorem len_numS {i : Int} (h : 0 ≤ i) (h2 : i < 100000) : (numS i).length ≤ 5 := by
  rw [len_tl, tl_numS h]
  exact numL_len (by decide) (by omega)
theorem len_nameS {i : Int} (h : 0 ≤ i) (h2 : i < 100000) : (nameS i).length ≤ 6 := by
  have := numL_len (n := i.toNat) (k := 5) (by decide) (by omega)
  rw [len_tl, tl_nameS h, List.length_cons]
  omega
theorem log_small {i : Int} (h : 0 ≤ i) (h2 : i < 100000) : i.natAbs.log2 < 1920 := by
  by_cases h0 : i.natAbs = 0
  · rw [h0]; decide
  · exact (Nat.log2_lt h0).mpr (Nat.lt_of_lt_of_le (show i.natAbs < 2 ^ 17 by omega) (Nat.pow_le_pow_right (by decide) (by decide)))
/-- a word: short, without blanks and line feeds -/
structure WordOk (w : Str) : Prop where
  len : w.length ≤ 6
  ns : 32 ∉ tl w
  nl : 10 ∉ tl w
theorem numS_ok {i : Int} (h : 0 ≤ i) (h2 : i < 100000) : WordOk (numS i) :=
  ⟨Nat.le_succ_of_le (len_numS h h2), by rw [tl_numS h]; exact numL_free (.inl (by decide)), by rw [tl_numS h]; exact numL_free (.inl (by decide))⟩
theorem nameS_ok {i : Int} (h : 0 ≤ i) (h2 : i < 100000) : WordOk (nameS i) :=
  ⟨len_nameS h h2, by
    rw [tl_nameS h]
    intro m
    rcases List.mem_cons.mp m with e | m
    · exact absurd e (by decide)
    · exact numL_free (.inl (by decide)) m, by
    rw [tl_nameS h]
    intro m
    rcases List.mem_cons.mp m with e | m
    · exact absurd e (by decide)
    · exact numL_free (.inl (by decide)) m⟩
def Part.words : Part → List Str
  | .num n => [numS n]
  | .name n => [nameS n]
  | .op o a b => o.word :: (a.words ++ b.words)
inductive RArg where
  | n (i : Int) | f (i : Int) | r (i : Int) | x (p : Part)
def RArg.kind : RArg → Nat
  | .n _ => 110 | .f _ => 102 | .r _ => 114 | .x _ => 120
def RArg.dat : RArg → PyData
  | .n i => .int i | .f i => .int i | .r i => .int i | .x p => p.dat
def RArg.words : RArg → List Str
  | .n i => [nameS i] | .f i => [numS i] | .r i => [numS i] | .x p => p.words
def PRow.argl : PRow → List RArg
  | .set n p => [.n n, .x p] | .take n => [.n n] | .add f p => [.f f, .x p] | .put f p q => [.f f, .x p, .x q] | .cut f p => [.f f, .x p]
  | .get n f p => [.n n, .f f, .x p] | .size n f => [.n n, .f f] | .send p => [.x p] | .go r => [.r r] | .unl n r => [.n n, .r r] | .mark => []
theorem row_args (r : PRow) : r.args = r.argl.map RArg.dat := by cases r <;> rfl
theorem row_shape (r : PRow) : r.shape.cps.toList = r.argl.map RArg.kind := by cases r <;> rfl
theorem argl_len (r : PRow) : r.argl.length ≤ 3 := by cases r <;> exact Nat.le_of_ble_eq_true rfl
def RArg.ok (names : Int) : RArg → Prop
  | .n i => 0 ≤ i ∧ i < 100000 | .f i => 0 ≤ i ∧ i < 100000 | .r i => 0 ≤ i ∧ i < 100000 | .x p => PartOk names p
theorem args_ok {names files many : Int} {r : PRow} (h : r.ok names files many) (hn : names ≤ 8) (hf : files ≤ 4) (hm : many ≤ 60) : ∀ a ∈ r.argl, a.ok names := by
  intro a ha
  cases r with
  | set n p =>
    obtain ⟨⟨n1, n2⟩, hp⟩ := h
    rcases List.mem_cons.mp ha with rfl | ha
    · exact ⟨n1, by omega⟩
    · cases List.mem_singleton.mp ha; exact hp
  | take n => cases List.mem_singleton.mp ha; exact ⟨h.1, by have := h.2; omega⟩
  | add f p =>
    obtain ⟨⟨n1, n2⟩, hp⟩ := h
    rcases List.mem_cons.mp ha with rfl | ha
    · exact ⟨n1, by omega⟩
    · cases List.mem_singleton.mp ha; exact hp
  | put f p q =>
    obtain ⟨⟨n1, n2⟩, hp, hq⟩ := h
    rcases List.mem_cons.mp ha with rfl | ha
    · exact ⟨n1, by omega⟩
    · rcases List.mem_cons.mp ha with rfl | ha
      · exact hp
      · cases List.mem_singleton.mp ha; exact hq
  | cut f p =>
    obtain ⟨⟨n1, n2⟩, hp⟩ := h
    rcases List.mem_cons.mp ha with rfl | ha
    · exact ⟨n1, by omega⟩
    · cases List.mem_singleton.mp ha; exact hp
  | get n f p =>
    obtain ⟨⟨n1, n2⟩, ⟨f1, f2⟩, hp⟩ := h
    rcases List.mem_cons.mp ha with rfl | ha
    · exact ⟨n1, by omega⟩
    · rcases List.mem_cons.mp ha with rfl | ha
      · exact ⟨f1, by omega⟩
      · cases List.mem_singleton.mp ha; exact hp
  | size n f =>
    obtain ⟨⟨n1, n2⟩, ⟨f1, f2⟩⟩ := h
    rcases List.mem_cons.mp ha with rfl | ha
    · exact ⟨n1, by omega⟩
    · cases List.mem_singleton.mp ha; exact ⟨f1, by omega⟩
  | send p => cases List.mem_singleton.mp ha; exact h
  | go n => cases List.mem_singleton.mp ha; exact ⟨h.1, by have := h.2; omega⟩
  | unl n f =>
    obtain ⟨⟨n1, n2⟩, ⟨f1, f2⟩⟩ := h
    rcases List.mem_cons.mp ha with rfl | ha
    · exact ⟨n1, by omega⟩
    · cases List.mem_singleton.mp ha; exact ⟨f1, by omega⟩
  | mark => exact nomatch ha
theorem op_ok (o : Op3) : WordOk o.word := by cases o <;> exact ⟨by decide, by decide, by decide⟩
theorem word_ok (r : PRow) : WordOk r.word := by cases r <;> (simp only [PRow.word]; exact ⟨by decide, by decide, by decide⟩)
theorem part_ok {names : Int} (hn : names ≤ 8) : ∀ {p : Part}, p.ok names → ∀ w ∈ p.words, WordOk w
  | .num n, h, w, hw => by
    cases List.mem_singleton.mp hw
    exact numS_ok h.1 (by have := h.2; omega)
  | .name n, h, w, hw => by
    cases List.mem_singleton.mp hw
    exact nameS_ok h.1 (by have := h.2; omega)
  | .op o a b, h, w, hw => by
    rcases List.mem_cons.mp hw with rfl | hw
    · exact op_ok o
    · rcases List.mem_append.mp hw with hw | hw
      · exact part_ok hn h.1 w hw
      · exact part_ok hn h.2 w hw
theorem part_len : ∀ p : Part, p.words.length + 1 ≤ 2 ^ p.deep
  | .num _ => Nat.le_refl _
  | .name _ => Nat.le_refl _
  | .op o a b => by
    have h1 := part_len a
    have h2 := part_len b
    have e1 : 2 ^ a.deep ≤ 2 ^ max a.deep b.deep := Nat.pow_le_pow_right (by decide) (Nat.le_max_left _ _)
    have e2 : 2 ^ b.deep ≤ 2 ^ max a.deep b.deep := Nat.pow_le_pow_right (by decide) (Nat.le_max_right _ _)
    simp only [Part.words, Part.deep, List.length_cons, List.length_append, Nat.pow_succ]
    omega
theorem part_len3 {p : Part} (h : p.deep ≤ 3) : p.words.length ≤ 7 := by
  have h1 := part_len p
  have h2 : 2 ^ p.deep ≤ 2 ^ 3 := Nat.pow_le_pow_right (by decide) h
  omega
theorem part_pos : ∀ p : Part, 1 ≤ p.words.length
  | .num _ => Nat.le_refl _
  | .name _ => Nat.le_refl _
  | .op _ _ _ => Nat.succ_le_succ (Nat.zero_le _)
theorem arg_ok {names : Int} (hn : names ≤ 8) {a : RArg} (h : a.ok names) : ∀ w ∈ a.words, WordOk w := by
  intro w hw
  cases a with
  | n i => cases List.mem_singleton.mp hw; exact nameS_ok h.1 h.2
  | f i => cases List.mem_singleton.mp hw; exact numS_ok h.1 h.2
  | r i => cases List.mem_singleton.mp hw; exact numS_ok h.1 h.2
  | x p => exact part_ok hn h.1 w hw
theorem arg_len {names : Int} {a : RArg} (h : a.ok names) : a.words.length ≤ 7 := by
  cases a with
  | x p => exact part_len3 h.2
  | _ => exact Nat.le_of_ble_eq_true rfl
def argWords (as : List RArg) : List Str := as.flatMap RArg.words
theorem argWords_snoc (as : List RArg) (a : RArg) : argWords (as ++ [a]) = argWords as ++ a.words := by simp [argWords]
theorem argWords_len {names : Int} : ∀ {as : List RArg}, (∀ a ∈ as, a.ok names) → (argWords as).length ≤ 7 * as.length
  | [], _ => by simp [argWords]
  | a :: as, h => by
    have h1 := arg_len (h a List.mem_cons_self)
    have h2 := argWords_len fun b hb => h b (List.mem_cons_of_mem _ hb)
    show (a.words ++ argWords as).length ≤ _
    rw [List.length_append, List.length_cons]
    omega
theorem argWords_ok {names : Int} (hn : names ≤ 8) {as : List RArg} (h : ∀ a ∈ as, a.ok names) : ∀ w ∈ argWords as, WordOk w := fun w hw => by
  obtain ⟨a, ha, hw⟩ := List.mem_flatMap.mp hw
  exact arg_ok hn (h a ha) w hw
def PRow.words (r : PRow) : List Str := r.word :: argWords r.argl
abbrev blS : Str := " "
abbrev nlS : Str := "\n"
def PRow.text (r : PRow) : Str := Txt.join blS r.words
def headS (p : Prog) : Str := ("work " : Str) ++ numS p.names ++ blS ++ numS p.files
def Prog.lines (p : Prog) : List Str := headS p :: p.rows.map PRow.text
def Prog.text (p : Prog) : Str := Txt.join nlS p.lines
theorem row_words_ok {names files many : Int} {r : PRow} (h : r.ok names files many) (hn : names ≤ 8) (hf : files ≤ 4) (hm : many ≤ 60) : ∀ w ∈ r.words, WordOk w := fun w hw => by
  rcases List.mem_cons.mp hw with rfl | hw
  · exact word_ok r
  · exact argWords_ok hn (args_ok h hn hf hm) w hw
theorem row_words_len {names files many : Int} {r : PRow} (h : r.ok names files many) (hn : names ≤ 8) (hf : files ≤ 4) (hm : many ≤ 60) : r.words.length ≤ 22 := by
  have h1 := argWords_len (args_ok h hn hf hm)
  have h2 := argl_len r
  show (argWords r.argl).length + 1 ≤ 22
  omega
theorem joinL_len (S : List Nat) : ∀ ps : List (List Nat), (joinL S ps).length ≤ (ps.map List.length).sum + ps.length * S.length
  | [] => by simp [joinL]
  | [p] => by simp [joinL]
  | p :: q :: r => by
    have ih := joinL_len S (q :: r)
    rw [List.map_cons, List.sum_cons, List.length_cons, Nat.add_mul]
    simp only [joinL, List.length_append]
    omega
theorem joinL_mem (S : List Nat) {x : Nat} : ∀ ps : List (List Nat), x ∈ joinL S ps → x ∈ S ∨ ∃ p ∈ ps, x ∈ p
  | [], h => nomatch h
  | [p], h => .inr ⟨p, List.mem_singleton.mpr rfl, h⟩
  | p :: q :: r, h => by
    rcases List.mem_append.mp h with h | h
    · exact .inr ⟨p, List.mem_cons_self, h⟩
    · rcases List.mem_append.mp h with h | h
      · exact .inl h
      · rcases joinL_mem S (q :: r) h with h | ⟨z, hz, h⟩
        · exact .inl h
        · exact .inr ⟨z, List.mem_cons_of_mem _ hz, h⟩
theorem tl_txtjoin (y : Str) (ps : List Str) : tl (Txt.join y ps) = joinL (tl y) (ps.map tl) := by rw [join_eq, tl_join]
theorem tl_bl : tl blS = [32] := by decide
theorem tl_nl : tl nlS = [10] := by decide
theorem sum_le {k : Nat} : ∀ {ws : List Str}, (∀ w ∈ ws, w.length ≤ k) → (ws.map (·.length)).sum ≤ k * ws.length
  | [], _ => Nat.le_refl _
  | w :: ws, h => by
    have h1 := h w List.mem_cons_self
    have h2 := sum_le fun z hz => h z (List.mem_cons_of_mem _ hz)
    rw [List.map_cons, List.sum_cons, List.length_cons, Nat.mul_add]
    omega
theorem join_len {y : Str} {ps : List Str} {k : Nat} (h : ∀ w ∈ ps, w.length ≤ k) : (Txt.join y ps).length ≤ k * ps.length + ps.length * y.length := by
  rw [len_tl, tl_txtjoin]
  have h1 := joinL_len (tl y) (ps.map tl)
  have h2 := sum_le h
  have e : (ps.map tl).map List.length = ps.map (·.length) := by
    rw [List.map_map]
    exact List.map_congr_left fun w _ => (len_tl w).symm
  rw [e, List.length_map] at h1
  rw [len_tl y]
  omega
theorem joinOk_of {y : Str} {ps : List Str} {k : Nat} (h : ∀ w ∈ ps, w.length ≤ k) (hk : k * ps.length + ps.length * y.length ≤ 16777216) : JnOk y ps := by
  have h2 := sum_le h
  unfold JnOk
  omega
section
variable {p : Prog} (ok : p.ok)
include ok
theorem Prog.rowW {r : PRow} (hr : r ∈ p.rows) : ∀ w ∈ r.words, WordOk w := row_words_ok (ok.r r hr) ok.n.2 ok.f.2 (by have := ok.l; omega)
theorem Prog.rowL {r : PRow} (hr : r ∈ p.rows) : r.words.length ≤ 22 := row_words_len (ok.r r hr) ok.n.2 ok.f.2 (by have := ok.l; omega)
theorem Prog.argsOk {r : PRow} (hr : r ∈ p.rows) : ∀ a ∈ r.argl, a.ok p.names := args_ok (ok.r r hr) ok.n.2 ok.f.2 (by have := ok.l; omega)
theorem Prog.rowT {r : PRow} (hr : r ∈ p.rows) : r.text.length ≤ 200 := by
  have h1 := join_len (y := blS) fun w hw => (Prog.rowW ok hr w hw).len
  have h2 := Prog.rowL ok hr
  have e : blS.length = 1 := by decide
  rw [e] at h1
  show (Txt.join blS r.words).length ≤ 200
  omega
theorem Prog.rowNl {r : PRow} (hr : r ∈ p.rows) : 10 ∉ tl r.text := fun h => by
  unfold PRow.text at h
  rw [tl_txtjoin, tl_bl] at h
  rcases joinL_mem [32] _ h with h | ⟨z, hz, h⟩
  · exact absurd h (by decide)
  · obtain ⟨w, hw, rfl⟩ := List.mem_map.mp hz
    exact (Prog.rowW ok hr w hw).nl h
theorem Prog.rowSplit {r : PRow} (hr : r ∈ p.rows) : Txt.split r.text blS = r.words :=
  split_join tl_bl (by decide +kernel) (by simp [PRow.words]) fun w hw => (Prog.rowW ok hr w hw).ns
theorem Prog.headJoin : headS p = Txt.join blS [("work" : Str), numS p.names, numS p.files] := by
  apply ext_tl
  have e1 : tl (("work " : String) : Str) = [119, 111, 114, 107, 32] := by decide
  have e2 : tl (("work" : String) : Str) = [119, 111, 114, 107] := by decide
  rw [tl_txtjoin, tl_bl]
  unfold headS
  rw [tl_append, tl_append, tl_append, tl_bl, e1]
  show _ = tl (("work" : String) : Str) ++ ([32] ++ (tl (numS p.names) ++ ([32] ++ tl (numS p.files))))
  rw [e2]
  simp
theorem Prog.headW : ∀ w ∈ ([("work" : Str), numS p.names, numS p.files] : List Str), WordOk w := by
  intro w hw
  have hn := ok.n
  have hf := ok.f
  rcases List.mem_cons.mp hw with rfl | hw
  · exact ⟨by decide, by decide, by decide⟩
  · rcases List.mem_cons.mp hw with rfl | hw
    · exact numS_ok (by omega) (by omega)
    · cases List.mem_singleton.mp hw
      exact numS_ok (by omega) (by omega)
theorem Prog.headSplit : Txt.split (headS p) blS = [("work" : Str), numS p.names, numS p.files] := by
  rw [Prog.headJoin ok]
  exact split_join tl_bl (by decide +kernel) (by simp) fun w hw => (Prog.headW ok w hw).ns
theorem Prog.headLen : (headS p).length ≤ 200 := by
  have h1 := join_len (y := blS) fun w hw => (Prog.headW ok w hw).len
  have e : blS.length = 1 := by decide
  rw [← Prog.headJoin ok, e] at h1
  have e2 : ([("work" : Str), numS p.names, numS p.files] : List Str).length = 3 := rfl
  rw [e2] at h1
  omega
theorem Prog.headNl : 10 ∉ tl (headS p) := fun h => by
  rw [Prog.headJoin ok, tl_txtjoin, tl_bl] at h
  rcases joinL_mem [32] _ h with h | ⟨z, hz, h⟩
  · exact absurd h (by decide)
  · obtain ⟨w, hw, rfl⟩ := List.mem_map.mp hz
    exact (Prog.headW ok w hw).nl h
theorem Prog.lineLen : ∀ w ∈ p.lines, w.length ≤ 200 := fun w hw => by
  rcases List.mem_cons.mp hw with rfl | hw
  · exact Prog.headLen ok
  · obtain ⟨r, hr, rfl⟩ := List.mem_map.mp hw
    exact Prog.rowT ok hr
theorem Prog.linesLen : p.lines.length ≤ 61 := by
  have := ok.l
  show (p.rows.map PRow.text).length + 1 ≤ 61
  rw [List.length_map]
  omega
theorem Prog.lineNl : ∀ w ∈ p.lines, 10 ∉ tl w := fun w hw => by
  rcases List.mem_cons.mp hw with rfl | hw
  · exact Prog.headNl ok
  · obtain ⟨r, hr, rfl⟩ := List.mem_map.mp hw
    exact Prog.rowNl ok hr
theorem Prog.textSplit : Txt.split p.text nlS = p.lines := split_join tl_nl (by decide +kernel) (by simp [Prog.lines]) (Prog.lineNl ok)
theorem Prog.textLen : p.text.length ≤ 20000 := by
  have h1 := join_len (y := nlS) (Prog.lineLen ok)
  have h2 := Prog.linesLen ok
  have e : nlS.length = 1 := by decide
  rw [e] at h1
  show (Txt.join nlS p.lines).length ≤ 20000
  omega
theorem Prog.linesJoin : JnOk nlS p.lines := by
  have h2 := Prog.linesLen ok
  have e : nlS.length = 1 := by decide
  refine joinOk_of (Prog.lineLen ok) ?_
  rw [e]
  omega
theorem Prog.rowJoin {r : PRow} (hr : r ∈ p.rows) : JnOk blS r.words := by
  have h2 := Prog.rowL ok hr
  have e : blS.length = 1 := by decide
  refine joinOk_of (fun w hw => (Prog.rowW ok hr w hw).len) ?_
  rw [e]
  omega
end
/-- int(str(n)) -/
theorem int_numS {i : Int} (h : 0 ≤ i) (h2 : i < 100000) : PySem.intText? (numS i) = some i := by
  have e : i = ((i.toNat : Nat) : Int) := by omega
  have hl := numL_len (n := i.toNat) (k := 5) (by decide) (by omega)
  have q := int_num (n := i.toNat) (by omega)
  rw [← e] at q
  exact q
/-- a number's first sign -/
theorem numL_head : ∀ {n : Nat}, 0 < n → ∃ c r, numL n = c :: r ∧ c ≠ 48 := by
  intro n
  induction n using Nat.strongRecOn with
  | _ n ih =>
    intro h
    by_cases h9 : n < 10
    · exact ⟨48 + n, [], numL_lt h9, by omega⟩
    · obtain ⟨c, r, e, hc⟩ := ih (n / 10) (by omega) (by omega)
      exact ⟨c, r ++ [48 + n % 10], by rw [numL_step (by omega), e]; rfl, hc⟩
end PM
set_option Elab.async false
set_option linter.all false
set_option maxRecDepth 100000
set_option maxHeartbeats 4000000
namespace K19
open PySem PySem.Spec PyProof.Rows L2 DL PM
section
variable {P : Program} {w : World} {K : Fg} {mg : Str → Option Value} {base : Heap}
/-! part_words -/
def spPartWords (n : Nat) : SpD := fun rs S C => ∃ (p : Part) (names : Int), rs = [.dat p.dat] ∧ p.ok names ∧ names ≤ 8 ∧ p.deep ≤ n ∧ p.deep ≤ 10 ∧ C (.dat (.list (strD p.words))) S
theorem words_big {p : Part} (h : p.deep ≤ 10) : p.words.length ≤ 1023 := by
  have h1 := part_len p
  have h2 : 2 ^ p.deep ≤ 2 ^ 10 := Nat.pow_le_pow_right (by decide) h
  omega
theorem strD_len (ys : List Str) : (strD ys).length = ys.length := List.length_map _
theorem strD_app (xs ys : List Str) : strD xs ++ strD ys = strD (xs ++ ys) := by simp [strD]
abbrev s_part_words : Stmt := topS 20
abbrev N_part_words : List Str := ["part"]
theorem sc_part_words : FnScope N_part_words ["part"] (defScope s_part_words) := ⟨rfl, rfl, rfl, by decide +kernel, rfl, by decide +kernel, by decide +kernel⟩
theorem pw_body {n k : Nat} {spR : SpD} {a1 : Addr} (F : FunAt K mg "part_words" s_part_words ["part"]) (B : Blt mg) (D : Def P w K mg base "part_words" (k + 1) 1 spR) (hR : ∀ m rs S C, m + 1 = n → spPartWords m rs S C → spR rs S C)
    (c1 : mg "PAIRS" = some (.ref a1)) (k1 : KTup K a1 (pairW.map V.str)) : Def P w K mg base "part_words" (k + 2) 1 (spPartWords n) := by
  refine okF F sc_part_words rfl fun cdv A outer s H E f hr => ⟨_,
    (ss_cons (s_if (t_in (d_ix (hu_of hr) (dv 0) d_int) (d_globT (ns := pairW) (by rfl) c1 k1))
      (ss_one (s_ret (d_add (d_add (d_lst (a_cons (d_ix (hu_of hr) (dv 0) d_int) a_nil)) (d_callF D (hr.mono (by omega)) (by rfl) (a_cons (d_ix (hu_of hr) (dv 0) d_int) a_nil))) (d_callF D (hr.mono (by omega)) (by rfl) (a_cons (d_ix (hu_of hr) (dv 0) d_int) a_nil)))))
      ss_nil)
      (ss_one (s_ret (d_if (t_eq hr.units (d_ix (hu_of hr) (dv 0) d_int) d_str) (d_lst (a_cons (d_strF (by rfl) B.str (a_cons (d_ix (hu_of hr) (dv 0) d_int) a_nil)) a_nil)) (d_lst (a_cons (d_add d_str (d_strF (by rfl) B.str (a_cons (d_ix (hu_of hr) (dv 0) d_int) a_nil))) a_nil))))))
    , ?_⟩
  intro rs S C hl h
  obtain ⟨p, names, rfl, hp, h8, hn, h10, h⟩ := h
  have hpos := p.deep_pos
  cases p with
  | num i =>
    obtain ⟨i0, i1⟩ := hp
    refine ⟨_, rfl, _, rfl, rfl, rfl, iteFb rfl ?_⟩
    refine ⟨_, rfl, _, rfl, rfl, iteTb rfl ?_⟩
    exact ⟨_, rfl, _, rfl, log_small i0 (by omega), le_ok rfl, _, rfl, h⟩
  | name i =>
    obtain ⟨i0, i1⟩ := hp
    refine ⟨_, rfl, _, rfl, rfl, rfl, iteFb rfl ?_⟩
    refine ⟨_, rfl, _, rfl, rfl, iteFb rfl ?_⟩
    refine ⟨_, rfl, _, rfl, log_small i0 (by omega), ?_, le_ok rfl, _, rfl, h⟩
    have := len_numS i0 (show i < 100000 by omega)
    show 1 + (numS i).length ≤ 100000
    omega
  | op o a b =>
    obtain ⟨m, hm⟩ : ∃ m, m + 1 = n := ⟨n - 1, by omega⟩
    have hda : a.deep + 1 ≤ (Part.op o a b).deep := by simp only [Part.deep]; omega
    have hdb : b.deep + 1 ≤ (Part.op o a b).deep := by simp only [Part.deep]; omega
    have la := words_big (p := a) (by omega)
    have lb := words_big (p := b) (by omega)
    have hw : inD (.str o.word) (pairW.map PyData.str) = true := by cases o <;> rfl
    refine ⟨_, rfl, _, rfl, rfl, rfl, iteTb hw ?_⟩
    refine ⟨_, rfl, _, rfl, le_ok rfl, _, rfl, _, rfl, _, rfl, rfl, hR m _ _ _ hm ⟨a, names, rfl, hp.1, h8, by omega, by omega, ?_⟩⟩
    refine ⟨by rw [strD_len]; show 1 + _ ≤ _; omega, _, rfl, _, rfl, rfl, hR m _ _ _ hm ⟨b, names, rfl, hp.2, h8, by omega, by omega, ?_⟩⟩
    refine ⟨?_, ?_⟩
    · rw [strD_len, List.length_append, strD_len]
      show 1 + a.words.length + b.words.length ≤ 100000
      omega
    · have e : [PyData.str o.word] ++ strD a.words ++ strD b.words = strD (Part.op o a b).words := by
        simp [strD, Part.words]
      rw [e]
      exact h
theorem ok_part_words {a1 : Addr} (F : FunAt K mg "part_words" s_part_words ["part"]) (B : Blt mg) (c1 : mg "PAIRS" = some (.ref a1)) (k1 : KTup K a1 (pairW.map V.str)) : ∀ n : Nat, Def P w K mg base "part_words" (n + 2) 1 (spPartWords n)
  | 0 => pw_body F B (Def.never F) (fun m _ _ _ h _ => by omega) c1 k1
  | n + 1 => pw_body F B (ok_part_words F B c1 k1 n) (fun m rs S C h q => by
    have e : m = n := by omega
    subst e
    exact q) c1 k1
/-! row_text -/
def spRowText : SpD := fun rs S C => ∃ (p : Prog) (r : PRow), rs = [.dat r.dat] ∧ p.ok ∧ r ∈ p.rows ∧ ∀ S', C (.dat (.str r.text)) S'
def sgn (n : Nat) : Str := ⟨#[n]⟩
theorem zip_row (r : PRow) : ((r.shape.cps.toList.zip r.args).map fun x : Nat × PyData => R.dat (.tuple [.str ⟨#[x.1]⟩, x.2])) = r.argl.map fun a => R.dat (.tuple [.str (sgn a.kind), a.dat]) := by
  rw [row_args, row_shape]
  induction r.argl with
  | nil => rfl
  | cons a as ih =>
    rw [List.map_cons, List.map_cons, List.zip_cons_cons, List.map_cons, List.map_cons, ih]
    rfl
theorem strR_app (xs ys : List Str) : strR xs ++ (strD ys).map R.dat = strR (xs ++ ys) := by
  simp [strR, strD]
abbrev s_row_text : Stmt := topS 21
abbrev N_row_text : List Str := ["row", "words", "kind", "part"]
theorem sc_row_text : FnScope N_row_text ["row"] (defScope s_row_text) := ⟨rfl, rfl, rfl, by decide +kernel, rfl, by decide +kernel, by decide +kernel⟩
theorem ok_row_text {k : Nat} (F : FunAt K mg "row_text" s_row_text ["row"]) (B : Blt mg) (D1 : Def P w K mg base "shape_of" 1 1 spShapeOf) (D2 : Def P w K mg base "part_words" 5 1 (spPartWords 3)) : Def P w K mg base "row_text" (k + 6) 1 spRowText := by
  refine okF F sc_row_text rfl fun cdv A outer s H E f hr => ⟨_,
    (ss_cons (s_set (i := 1) sc_row_text.nd (d_lstC (a_cons (d_ix (hu_of hr) (dv 0) d_int) a_nil)))
      (ss_cons (s_for (i_zipS (by rfl) B.zip (a_cons (d_callF D1 (hr.mono (by omega)) (by rfl) (a_cons (d_ix (hu_of hr) (dv 0) d_int) a_nil)) (a_cons (d_slice (dv 0) (o_some d_int) o_none) a_nil))) (g_tup (gs_cons (g_name (i := 2) sc_row_text.nd) (gs_cons (g_name (i := 3) sc_row_text.nd) gs_nil)))
      (ss_one (s_expr (d_ext (dv 1) (d_if (t_eq hr.units (dv 2) d_str) (d_callF D2 (hr.mono (by omega)) (by rfl) (a_cons (dv 3) a_nil)) (d_lst (a_cons (d_if (t_eq hr.units (dv 2) d_str) (d_add d_str (d_strF (by rfl) B.str (a_cons (dv 3) a_nil))) (d_strF (by rfl) B.str (a_cons (dv 3) a_nil))) a_nil)))))))
      (ss_one (s_ret (d_join d_str (dv 1))))))
    , ?_⟩
  intro rs S C hl h
  obtain ⟨p, r, rfl, ok, hr, h⟩ := h
  refine ⟨_, rfl, _, at0, le_ok rfl, fun q => ?_⟩
  refine ⟨_, rfl, ⟨_, at0, rfl, _, rfl, ?_⟩⟩
  rw [shape_row]
  have hl3 := argl_len r
  have hao := Prog.argsOk ok hr
  have h8 := ok.n.2
  refine ⟨_, rfl, fun i fr S' => ∃ a b : Option R, fr = [some (.dat r.dat), some (.val (.ref q)), a, b] ∧ S' = .lst q (strR (r.word :: argWords (r.argl.take i))) :: S, ⟨none, none, rfl, rfl⟩, ?_, ?_⟩
  · rintro i rr fr S' hi ⟨a, b, rfl, rfl⟩
    unfold zipSD at hi
    rw [cut_from _ (by decide)] at hi
    replace hi : (((r.shape.cps.toList.zip r.args).map fun x : Nat × PyData => R.dat (.tuple [.str ⟨#[x.1]⟩, x.2])))[i]? = some rr := hi
    rw [zip_row, List.getElem?_map] at hi
    cases ha : r.argl[i]? with
    | none => rw [ha] at hi; cases hi
    | some a =>
      rw [ha] at hi
      cases hi
      have hm := List.mem_of_getElem? ha
      have hok := hao a hm
      have hlen : (strR (r.word :: argWords (r.argl.take i))).length ≤ 22 := by
        have h1 := argWords_len (as := r.argl.take i) fun b hb => hao b (List.mem_of_mem_take hb)
        have h2 := List.length_take_le i r.argl
        simp only [strR, List.length_map, List.length_cons]
        have h3 : (r.argl.take i).length ≤ 3 := by rw [List.length_take]; omega
        omega
      have e1 : r.word :: argWords (r.argl.take (i + 1)) = (r.word :: argWords (r.argl.take i)) ++ a.words := by
        rw [List.take_add_one, ha]
        show r.word :: argWords (r.argl.take i ++ [a]) = _
        rw [argWords_snoc]; rfl
      have e2 : strR (r.word :: argWords (r.argl.take i)) ++ (strD a.words).map R.dat = strR (r.word :: argWords (r.argl.take (i + 1))) := by rw [e1, strR_app]
      refine ⟨rfl, rfl, ?_⟩
      cases a with
      | x p' =>
        refine ⟨_, rfl, ⟨0, _, rfl⟩, _, rfl, rfl, iteTb rfl ⟨_, rfl, rfl, p', p.names, rfl, hok.1, h8, hok.2, by have := hok.2; omega, ?_⟩⟩
        have l7 := part_len3 hok.2
        refine ⟨0, _, rfl, by rw [strD_len]; omega, _, _, rfl, ?_⟩
        rw [← e2]; rfl
      | n i' =>
        have l6 := len_numS hok.1 hok.2
        refine ⟨_, rfl, ⟨0, _, rfl⟩, _, rfl, rfl, iteFb rfl ⟨_, rfl, rfl, iteTb rfl ⟨_, rfl, log_small hok.1 hok.2, ?_, le_ok rfl, _, rfl, 0, _, rfl, ?_, _, _, rfl, ?_⟩⟩⟩
        · show 1 + (numS i').length ≤ 100000
          omega
        · show _ + 1 ≤ _
          omega
        · rw [← e2]; rfl
      | f i' =>
        refine ⟨_, rfl, ⟨0, _, rfl⟩, _, rfl, rfl, iteFb rfl ⟨_, rfl, rfl, iteFb rfl ⟨_, rfl, log_small hok.1 hok.2, le_ok rfl, _, rfl, 0, _, rfl, ?_, _, _, rfl, ?_⟩⟩⟩
        · show _ + 1 ≤ _
          omega
        · rw [← e2]; rfl
      | r i' =>
        refine ⟨_, rfl, ⟨0, _, rfl⟩, _, rfl, rfl, iteFb rfl ⟨_, rfl, rfl, iteFb rfl ⟨_, rfl, log_small hok.1 hok.2, le_ok rfl, _, rfl, 0, _, rfl, ?_, _, _, rfl, ?_⟩⟩⟩
        · show _ + 1 ≤ _
          omega
        · rw [← e2]; rfl
  · rintro fr S' ⟨a, b, rfl, rfl⟩
    have e0 : (zipSD r.shape (DL.cutD (PyData.str r.word :: r.args) (some 1) none)).length = r.argl.length := by
      unfold zipSD
      rw [cut_from _ (by decide)]
      show ((((r.shape.cps.toList.zip r.args).map fun x : Nat × PyData => R.dat (.tuple [.str ⟨#[x.1]⟩, x.2])))).length = _
      rw [zip_row, List.length_map]
    rw [e0, List.take_length]
    exact ⟨_, rfl, 0, _, rfl, Prog.rowJoin ok hr, h _⟩
/-! written -/
def spWritten : SpD := fun rs S C => ∃ p : Prog, rs = [.dat p.dat] ∧ p.ok ∧ ∀ S', C (.dat (.str p.text)) S'
abbrev s_written : Stmt := topS 22
abbrev N_written : List Str := ["program", "names", "files", "rows", "row"]
theorem sc_written : FnScope N_written ["program"] (defScope s_written) := ⟨rfl, rfl, rfl, by decide +kernel, rfl, by decide +kernel, by decide +kernel⟩
theorem ok_written {k : Nat} (F : FunAt K mg "written" s_written ["program"]) (B : Blt mg) (D1 : Def P w K mg base "need_program" 7 1 spNeedProgram) (D2 : Def P w K mg base "row_text" 6 1 spRowText) : Def P w K mg base "written" (k + 9) 1 spWritten := by
  refine okF F sc_written rfl fun cdv A outer s H E f hr => ⟨_,
    (ss_cons (s_expr (d_callF D1 (hr.mono (by omega)) (by rfl) (a_cons (dv 0) a_nil)))
      (ss_cons (s_asg (dv 0) (g_tup (gs_cons (g_name (i := 1) sc_written.nd) (gs_cons (g_name (i := 2) sc_written.nd) (gs_cons (g_name (i := 3) sc_written.nd) gs_nil)))))
      (ss_one (s_ret (d_join d_str (d_add (d_lst (a_cons (d_add (d_add (d_add d_str (d_strF (by rfl) B.str (a_cons (dv 1) a_nil))) d_str) (d_strF (by rfl) B.str (a_cons (dv 2) a_nil))) a_nil)) (d_lc sc_written.nd (i := 4) (i_src (dv 3)) (blkOk_by (N := N_written) (sc := defScope s_written) (own := [("row", 4)]) (by decide +kernel)) (fun _ _ _ _ _ => pg_name (i := 4) sc_written.nd rfl (Or.inl rfl)) (fun _ _ _ _ _ => ts_nil) (fun _ _ _ _ _ => (d_callF D2 (hr.mono (by omega)) (by rfl) (a_cons (dv 4) a_nil))))))))))
    , ?_⟩
  intro rs S C hl h
  obtain ⟨p, rfl, ok, h⟩ := h
  refine ⟨_, rfl, rfl, p, rfl, ok, ?_⟩
  refine ⟨_, rfl, rfl, rfl, ?_⟩
  have hn := ok.n
  have hf := ok.f
  have hl60 := ok.l
  have l1 := len_numS (i := p.names) (by omega) (by omega)
  have l2 := len_numS (i := p.files) (by omega) (by omega)
  have eh : ((Str.ofString "work " ++ Str.ofString (toString p.names)) ++ Str.ofString " ") ++ Str.ofString (toString p.files) = headS p := rfl
  have w5 : (Str.ofString "work ").length = 5 := by decide
  have b1 : (Str.ofString " ").length = 1 := by decide
  refine ⟨_, rfl, log_small (by omega) (by omega), ?_, ?_, _, rfl, log_small (by omega) (by omega), ?_, le_ok rfl, _, rfl, ?_⟩
  · rw [w5]
    show 5 + (numS p.names).length ≤ _
    omega
  · rw [strLen_append, w5, b1]
    show 5 + (numS p.names).length + 1 ≤ _
    omega
  · rw [strLen_append, strLen_append, w5, b1]
    show 5 + (numS p.names).length + 1 + (numS p.files).length ≤ _
    omega
  refine ⟨_, rfl, fun i acc S' => acc = strR ((p.rows.take i).map PRow.text), rfl, ?_, ?_⟩
  · rintro i rr acc S' hi rfl
    rw [List.getElem?_map, List.getElem?_map] at hi
    cases hx : p.rows[i]? with
    | none => rw [hx] at hi; cases hi
    | some r =>
      rw [hx] at hi
      cases hi
      refine ⟨_, rfl, rfl, p, r, rfl, ok, List.mem_of_getElem? hx, fun S2 => ⟨?_, ?_⟩⟩
      · simp only [strR, List.length_map, List.length_take]
        omega
      · show strR ((p.rows.take i).map PRow.text) ++ [R.dat (.str r.text)] = strR ((p.rows.take (i + 1)).map PRow.text)
        rw [List.take_add_one, hx]
        simp [strR]
  · rintro acc S' rfl
    rw [List.length_map, List.length_map, List.take_length]
    have ed : dats (strR (p.rows.map PRow.text)) = some (strD (p.rows.map PRow.text)) := by
      have q := dats_map (strD (p.rows.map PRow.text))
      rw [show (strD (p.rows.map PRow.text)).map R.dat = strR (p.rows.map PRow.text) from by simp [strR, strD]] at q
      exact q
    refine ⟨_, ed, ?_, ?_⟩
    · rw [strD_len, List.length_map]
      show 1 + _ ≤ _
      omega
    · refine ⟨p.lines, ?_, Prog.linesJoin ok, h _⟩
      rw [eh]
      simp [strD, Prog.lines]
end
end K19
set_option Elab.async false
set_option linter.all false
set_option maxRecDepth 100000
set_option maxHeartbeats 4000000
namespace K19
open PySem PySem.Spec PyProof.Rows L2 DL PM TL
section
variable {P : Program} {w : World} {K : Fg} {mg : Str → Option Value} {base : Heap}
/-! number_of -/
abbrev figS : Str := "0123456789"
theorem fig_tl : tl figS = [48, 49, 50, 51, 52, 53, 54, 55, 56, 57] := by decide +kernel
theorem fig_mem {c : Nat} (h : 48 ≤ c ∧ c ≤ 57) : c ∈ tl figS := by
  rw [fig_tl]
  simp only [List.mem_cons, List.not_mem_nil, or_false]
  omega
theorem cut_first {z : Str} {c : Nat} {r : List Nat} (h : tl z = c :: r) : cutS z none (some 1) = ⟨#[c]⟩ := by
  have hl : z.length = r.length + 1 := by rw [len_tl, h]; rfl
  apply ext_tl
  show ((tl z).drop (HT.sIx z.length 0 none)).take (HT.sIx z.length z.length (some 1) - HT.sIx z.length 0 none) = [c]
  rw [hl, h]
  have e : HT.sIx (r.length + 1) (r.length + 1) (some 1) = 1 := by
    rw [show ((1 : Int)) = ((1 : Nat) : Int) from rfl, HT.sIx_nat]
    omega
  rw [e]
  rfl
theorem cut_rest {z : Str} {c : Nat} {r : List Nat} (h : tl z = c :: r) : tl (cutS z (some 1) none) = r := by
  have hl : z.length = r.length + 1 := by rw [len_tl, h]; rfl
  show ((tl z).drop (HT.sIx z.length 0 (some 1))).take (HT.sIx z.length z.length none - HT.sIx z.length 0 (some 1)) = r
  rw [hl, h]
  have e : HT.sIx (r.length + 1) 0 (some 1) = 1 := by
    rw [show ((1 : Int)) = ((1 : Nat) : Int) from rfl, HT.sIx_nat]
    omega
  rw [e]
  show (r.take (r.length + 1 - 1)) = r
  rw [Nat.add_sub_cancel, List.take_length]
def spNumberOf : SpD := fun rs S C => ∃ i : Int, rs = [.dat (.str (numS i))] ∧ 0 ≤ i ∧ i < 100000 ∧ C (.dat (.int i)) S
abbrev s_number_of : Stmt := topS 23
abbrev N_number_of : List Str := ["word", "sign"]
theorem sc_number_of : FnScope N_number_of ["word"] (defScope s_number_of) := ⟨rfl, rfl, rfl, by decide +kernel, rfl, by decide +kernel, by decide +kernel⟩
theorem ok_number_of {k : Nat} {t1 : Tok} (F : FunAt K mg "number_of" s_number_of ["word"]) (B : Blt mg) (c1 : mg "FIGURES" = some (.str figS t1)) : Def P w K mg base "number_of" (k + 1) 1 spNumberOf := by
  refine okF F sc_number_of rfl fun cdv A outer s H E f hr => ⟨_,
    (ss_cons (s_if (PDW.pt (w_or (t_not (t_leLe d_int (d_len (by rfl) B.len (a_cons (dv 0) a_nil)) d_int)) (w_or1 (t_ne hr.units (d_lc sc_number_of.nd (i := 1) (i_src (dv 0)) (blkOk_by (N := N_number_of) (sc := defScope s_number_of) (own := [("sign", 1)]) (by decide +kernel)) (fun _ _ _ _ _ => pg_name (i := 1) sc_number_of.nd rfl (Or.inl rfl)) (fun _ _ _ _ _ => (ts_one (t_notInS (dv 1) (d_globS (by rfl) c1)))) (fun _ _ _ _ _ => (dv 1))) (d_lst a_nil)))))
      (ss_one (s_ret d_non))
      ss_nil)
      (ss_one (s_ret (d_if (PDW.pt (w_and (t_eq hr.units (d_ix (hu_of hr) (dv 0) d_int) d_str) (w_and1 (t_ne hr.units (dv 0) d_str)))) d_non (d_intF (by rfl) B.int (a_cons (dv 0) a_nil))))))
    , ?_⟩
  intro rs S C hl h
  obtain ⟨i, rfl, i0, i1, h⟩ := h
  have ez := tl_numS i0
  have l5 := len_numS i0 i1
  have l1 : 1 ≤ (numS i).length := by
    rw [len_tl, ez]
    exact List.length_pos_iff.mpr (numL_ne _)
  refine ⟨_, rfl, by omega, iteTd (by omega) ?_⟩
  have zero : tl (Str.ofString "0") = [48] := by decide +kernel
  refine iteFb (by simp; omega) ?_
  refine ⟨_, rfl, fun _ acc S' => acc = [] ∧ S' = S, ⟨rfl, rfl⟩, ?_, ?_⟩
  · rintro j r acc S' hj ⟨rfl, rfl⟩
    rw [List.getElem?_map] at hj
    cases hx : (tl (numS i))[j]? with
    | none => rw [hx] at hj; cases hj
    | some c =>
      rw [hx] at hj
      cases hj
      have hm := List.mem_of_getElem? hx
      rw [ez] at hm
      have hf := fig_mem (numL_digits _ c hm)
      refine ⟨_, rfl, c, rfl, iteFb ?_ ⟨rfl, rfl⟩⟩
      show (!decide (c ∈ tl figS)) = false
      rw [decide_eq_true hf]; rfl
  · rintro acc S' ⟨rfl, rfl⟩
    refine ⟨[], rfl, le_ok rfl, _, rfl, rfl, iteFb rfl ?_⟩
    have q := int_numS i0 i1
    by_cases h0 : i = 0
    · subst h0
      refine ⟨_, rfl, by omega, 48, ?_, rfl, iteTb rfl ⟨_, rfl, rfl, iteFb ?_ ⟨_, rfl, _, q, by omega, h⟩⟩⟩
      · rw [show (numS 0).cps.toList = numL 0 from ez, numL_lt (by decide)]
        rfl
      · have e : numS 0 = Str.ofString "0" := ext_tl (by rw [ez, zero]; exact numL_lt (by decide))
        rw [e]
        rfl
    · obtain ⟨c, r, e, hc⟩ := numL_head (n := i.toNat) (by omega)
      refine ⟨_, rfl, by omega, c, ?_, rfl, iteFb ?_ ⟨_, rfl, _, q, by omega, h⟩⟩
      · rw [show (numS i).cps.toList = numL i.toNat from ez, e]
        exact at0
      · simp only [PyData.eqv]
        refine beq_eq_false_iff_ne.mpr fun z => hc ?_
        have z2 := congrArg tl z
        rw [zero] at z2
        exact (List.cons.inj z2).1
/-! name_of -/
def spNameOf : SpD := fun rs S C => ∃ i : Int, 0 ≤ i ∧ i < 100000 ∧ ((rs = [.dat (.str (nameS i))] ∧ C (.dat (.int i)) S) ∨ (rs = [.dat (.str (numS i))] ∧ C (.dat .none) S))
abbrev s_name_of : Stmt := topS 24
abbrev N_name_of : List Str := ["word"]
theorem sc_name_of : FnScope N_name_of ["word"] (defScope s_name_of) := ⟨rfl, rfl, rfl, by decide +kernel, rfl, by decide +kernel, by decide +kernel⟩
theorem ok_name_of {k : Nat} (F : FunAt K mg "name_of" s_name_of ["word"]) (B : Blt mg) (D1 : Def P w K mg base "number_of" 1 1 spNumberOf) : Def P w K mg base "name_of" (k + 2) 1 spNameOf := by
  refine okF F sc_name_of rfl fun cdv A outer s H E f hr => ⟨_,
    (ss_one (s_ret (d_if (t_eq hr.units (d_slice (dv 0) o_none (o_some d_int)) d_str) (d_callF D1 (hr.mono (by omega)) (by rfl) (a_cons (d_slice (dv 0) (o_some d_int) o_none) a_nil)) d_non)))
    , ?_⟩
  intro rs S C hl h
  have en : tl (Str.ofString "n") = [110] := by decide +kernel
  obtain ⟨i, i0, i1, ⟨rfl, h⟩ | ⟨rfl, h⟩⟩ := h
  · have l6 := len_nameS i0 i1
    have ez := tl_nameS i0
    refine ⟨_, rfl, by omega, ?_⟩
    rw [cut_first ez]
    refine ⟨rfl, iteTb rfl ⟨_, rfl, by omega, ?_⟩⟩
    have e : cutS (nameS i) (some 1) none = numS i := ext_tl (by rw [cut_rest ez, tl_numS i0])
    rw [e]
    exact ⟨rfl, i, rfl, i0, i1, h⟩
  · have l5 := len_numS i0 i1
    have ez := tl_numS i0
    obtain ⟨c, r, e⟩ : ∃ c r, numL i.toNat = c :: r := List.exists_cons_of_ne_nil (numL_ne _)
    have hc := numL_digits i.toNat c (by rw [e]; exact List.mem_cons_self)
    rw [e] at ez
    refine ⟨_, rfl, by omega, ?_⟩
    rw [cut_first ez]
    refine ⟨rfl, iteFb ?_ h⟩
    simp only [PyData.eqv]
    refine beq_eq_false_iff_ne.mpr fun z => ?_
    have z2 := congrArg tl z
    rw [en] at z2
    have z3 : c = 110 := (List.cons.inj z2).1
    omega
/-! part_of -/
def spPartOf (n : Nat) : SpD := fun rs S C => ∃ (pre rest : List Str) (p : Part) (names : Int), rs = [.dat (.list (strD (pre ++ p.words ++ rest))), .dat (.int (pre.length : Nat))] ∧ p.ok names ∧ names ≤ 8 ∧ p.deep ≤ n ∧ C (.dat (.tuple [p.dat, .int ((pre.length + p.words.length : Nat) : Int)])) S
abbrev s_part_of : Stmt := topS 25
abbrev N_part_of : List Str := ["words", "at", "one", "other", "name", "number"]
theorem sc_part_of : FnScope N_part_of ["words", "at"] (defScope s_part_of) := ⟨rfl, rfl, rfl, by decide +kernel, rfl, by decide +kernel, by decide +kernel⟩
theorem at_pre {pre rest : List Str} {x : Str} : atI (strD (pre ++ x :: rest)) ((pre.length : Nat) : Int) = some (.str x) := by
  refine atI_nat ?_
  unfold strD
  rw [List.getElem?_map, List.getElem?_append_right (Nat.le_refl _), Nat.sub_self]
  rfl
theorem num_off {i : Int} (h : 0 ≤ i) : inD (.str (numS i)) (pairW.map PyData.str) = false := by
  obtain ⟨c, r, e⟩ : ∃ c r, numL i.toNat = c :: r := List.exists_cons_of_ne_nil (numL_ne _)
  have hc := numL_digits i.toNat c (by rw [e]; exact List.mem_cons_self)
  have ez := tl_numS h
  rw [e] at ez
  have f1 : tl (Str.ofString "sum") = [115, 117, 109] := by decide +kernel
  have f2 : tl (Str.ofString "diff") = [100, 105, 102, 102] := by decide +kernel
  have f3 : tl (Str.ofString "less") = [108, 101, 115, 115] := by decide +kernel
  simp only [inD, pairW, List.map_cons, List.map_nil, List.any_cons, List.any_nil, PyData.eqv, Bool.or_false, Bool.or_eq_false_iff]
  refine ⟨beq_eq_false_iff_ne.mpr fun z => ?_, beq_eq_false_iff_ne.mpr fun z => ?_, beq_eq_false_iff_ne.mpr fun z => ?_⟩
  · have z2 := congrArg tl z
    rw [ez, f1] at z2
    have := (List.cons.inj z2).1
    omega
  · have z2 := congrArg tl z
    rw [ez, f2] at z2
    have := (List.cons.inj z2).1
    omega
  · have z2 := congrArg tl z
    rw [ez, f3] at z2
    have := (List.cons.inj z2).1
    omega
theorem name_off {i : Int} (h : 0 ≤ i) : inD (.str (nameS i)) (pairW.map PyData.str) = false := by
  have ez := tl_nameS h
  have f1 : tl (Str.ofString "sum") = [115, 117, 109] := by decide +kernel
  have f2 : tl (Str.ofString "diff") = [100, 105, 102, 102] := by decide +kernel
  have f3 : tl (Str.ofString "less") = [108, 101, 115, 115] := by decide +kernel
  simp only [inD, pairW, List.map_cons, List.map_nil, List.any_cons, List.any_nil, PyData.eqv, Bool.or_false, Bool.or_eq_false_iff]
  refine ⟨beq_eq_false_iff_ne.mpr fun z => ?_, beq_eq_false_iff_ne.mpr fun z => ?_, beq_eq_false_iff_ne.mpr fun z => ?_⟩
  · have z2 := congrArg tl z
    rw [ez, f1] at z2
    exact absurd (List.cons.inj z2).1 (by decide)
  · have z2 := congrArg tl z
    rw [ez, f2] at z2
    exact absurd (List.cons.inj z2).1 (by decide)
  · have z2 := congrArg tl z
    rw [ez, f3] at z2
    exact absurd (List.cons.inj z2).1 (by decide)
theorem po_body {n k : Nat} {spR : SpD} {a1 : Addr} (F : FunAt K mg "part_of" s_part_of ["words", "at"]) (B : Blt mg) (D : Def P w K mg base "part_of" (k + 2) 2 spR) (hR : ∀ m rs S C, m + 1 = n → spPartOf m rs S C → spR rs S C)
    (D1 : Def P w K mg base "number_of" 1 1 spNumberOf) (D2 : Def P w K mg base "name_of" 2 1 spNameOf) (c1 : mg "PAIRS" = some (.ref a1)) (k1 : KTup K a1 (pairW.map V.str)) : Def P w K mg base "part_of" (k + 3) 2 (spPartOf n) := by
  refine okF F sc_part_of rfl fun cdv A outer s H E f hr => ⟨_,
    (ss_cons (s_if (t_ge (dv 1) (d_len (by rfl) B.len (a_cons (dv 0) a_nil)))
      (ss_one (s_ret d_non))
      ss_nil)
      (ss_cons (s_if (t_in (d_ix (hu_of hr) (dv 0) (dv 1)) (d_globT (ns := pairW) (by rfl) c1 k1))
      (ss_cons (s_set (i := 2) sc_part_of.nd (d_callF D (hr.mono (by omega)) (by rfl) (a_cons (dv 0) (a_cons (d_add (dv 1) d_int) a_nil))))
      (ss_cons (s_set (i := 3) sc_part_of.nd (d_if (t_notN (dv 2) d_non) (d_callF D (hr.mono (by omega)) (by rfl) (a_cons (dv 0) (a_cons (d_ix (hu_of hr) (dv 2) d_int) a_nil))) d_non))
      (ss_one (s_ret (d_if (t_isN (dv 3) d_non) d_non (d_tup (a_cons (d_tup (a_cons (d_ix (hu_of hr) (dv 0) (dv 1)) (a_cons (d_ix (hu_of hr) (dv 2) d_int) (a_cons (d_ix (hu_of hr) (dv 3) d_int) a_nil)))) (a_cons (d_ix (hu_of hr) (dv 3) d_int) a_nil))))))))
      ss_nil)
      (ss_cons (s_set (i := 4) sc_part_of.nd (d_callF D2 (hr.mono (by omega)) (by rfl) (a_cons (d_ix (hu_of hr) (dv 0) (dv 1)) a_nil)))
      (ss_cons (s_if (t_notN (dv 4) d_non)
      (ss_one (s_ret (d_tup (a_cons (d_tup (a_cons d_str (a_cons (dv 4) a_nil))) (a_cons (d_add (dv 1) d_int) a_nil)))))
      ss_nil)
      (ss_cons (s_set (i := 5) sc_part_of.nd (d_callF D1 (hr.mono (by omega)) (by rfl) (a_cons (d_ix (hu_of hr) (dv 0) (dv 1)) a_nil)))
      (ss_one (s_ret (d_if (t_isN (dv 5) d_non) d_non (d_tup (a_cons (d_tup (a_cons d_str (a_cons (dv 5) a_nil))) (a_cons (d_add (dv 1) d_int) a_nil)))))))))))
    , ?_⟩
  intro rs S C hl h
  obtain ⟨pre, rest, p, names, rfl, hp, h8, hn, h⟩ := h
  have hpos := p.deep_pos
  cases p with
  | num i =>
    obtain ⟨i0, i1⟩ := hp
    have hlen : (strD (pre ++ (Part.num i).words ++ rest)).length = pre.length + 1 + rest.length := by
      rw [strD_len, List.length_append, List.length_append]; rfl
    have hat : atI (strD (pre ++ (Part.num i).words ++ rest)) ((pre.length : Nat) : Int) = some (.str (numS i)) := by
      rw [show pre ++ (Part.num i).words ++ rest = pre ++ numS i :: rest from by simp [Part.words]]
      exact at_pre
    refine ⟨_, rfl, _, rfl, iteFd (by rw [hlen]; omega) ?_⟩
    refine ⟨_, rfl, _, rfl, _, hat, rfl, rfl, iteFb (num_off i0) ?_⟩
    refine ⟨_, rfl, _, rfl, _, hat, rfl, i, i0, by omega, .inr ⟨rfl, ?_⟩⟩
    refine ⟨_, rfl, ?_⟩
    refine ⟨_, rfl, _, rfl, _, hat, rfl, i, rfl, i0, by omega, ?_⟩
    exact ⟨_, rfl, _, rfl, le_ok rfl, _, rfl, _, rfl, le_ok rfl, _, rfl, h⟩
  | name i =>
    obtain ⟨i0, i1⟩ := hp
    have hlen : (strD (pre ++ (Part.name i).words ++ rest)).length = pre.length + 1 + rest.length := by
      rw [strD_len, List.length_append, List.length_append]; rfl
    have hat : atI (strD (pre ++ (Part.name i).words ++ rest)) ((pre.length : Nat) : Int) = some (.str (nameS i)) := by
      rw [show pre ++ (Part.name i).words ++ rest = pre ++ nameS i :: rest from by simp [Part.words]]
      exact at_pre
    refine ⟨_, rfl, _, rfl, iteFd (by rw [hlen]; omega) ?_⟩
    refine ⟨_, rfl, _, rfl, _, hat, rfl, rfl, iteFb (name_off i0) ?_⟩
    refine ⟨_, rfl, _, rfl, _, hat, rfl, i, i0, by omega, .inl ⟨rfl, ?_⟩⟩
    refine ⟨_, rfl, ?_⟩
    exact ⟨_, rfl, le_ok rfl, _, rfl, _, rfl, le_ok rfl, _, rfl, h⟩
  | op o a b =>
    obtain ⟨m, hm⟩ : ∃ m, m + 1 = n := ⟨n - 1, by omega⟩
    have hda : a.deep + 1 ≤ (Part.op o a b).deep := by simp only [Part.deep]; omega
    have hdb : b.deep + 1 ≤ (Part.op o a b).deep := by simp only [Part.deep]; omega
    have hlen : (strD (pre ++ (Part.op o a b).words ++ rest)).length = pre.length + (a.words.length + b.words.length + 1) + rest.length := by
      rw [strD_len, List.length_append, List.length_append]
      simp [Part.words]
    have hat : atI (strD (pre ++ (Part.op o a b).words ++ rest)) ((pre.length : Nat) : Int) = some (.str o.word) := by
      rw [show pre ++ (Part.op o a b).words ++ rest = pre ++ o.word :: (a.words ++ b.words ++ rest) from by simp [Part.words]]
      exact at_pre
    have hw : inD (.str o.word) (pairW.map PyData.str) = true := by cases o <;> rfl
    refine ⟨_, rfl, _, rfl, iteFd (by rw [hlen]; omega) ?_⟩
    refine ⟨_, rfl, _, rfl, _, hat, rfl, rfl, iteTb hw ?_⟩
    refine ⟨_, rfl, _, rfl, rfl, hR m _ _ _ hm ⟨pre ++ [o.word], b.words ++ rest, a, names, ?_, hp.1, h8, by omega, ?_⟩⟩
    · rw [show pre ++ (Part.op o a b).words ++ rest = (pre ++ [o.word]) ++ a.words ++ (b.words ++ rest) from by simp [Part.words], show ((pre ++ [o.word]).length : Nat) = pre.length + 1 from by simp]
      rfl
    refine ⟨_, rfl, ?_⟩
    refine ⟨_, rfl, _, rfl, _, rfl, rfl, hR m _ _ _ hm ⟨pre ++ [o.word] ++ a.words, rest, b, names, ?_, hp.2, h8, by omega, ?_⟩⟩
    · rw [show pre ++ (Part.op o a b).words ++ rest = (pre ++ [o.word] ++ a.words) ++ b.words ++ rest from by simp [Part.words], show ((pre ++ [o.word] ++ a.words).length : Nat) = (pre ++ [o.word]).length + a.words.length from by simp; omega]
    have e : ((pre ++ [o.word] ++ a.words).length + b.words.length : Nat) = pre.length + (Part.op o a b).words.length := by
      simp [Part.words]; omega
    rw [e]
    refine ⟨_, rfl, ?_⟩
    exact ⟨_, rfl, _, rfl, _, hat, _, rfl, _, rfl, _, rfl, _, rfl, le_ok rfl, _, rfl, _, rfl, _, rfl, le_ok rfl, _, rfl, h⟩
theorem ok_part_of {a1 : Addr} (F : FunAt K mg "part_of" s_part_of ["words", "at"]) (B : Blt mg) (D1 : Def P w K mg base "number_of" 1 1 spNumberOf) (D2 : Def P w K mg base "name_of" 2 1 spNameOf)
    (c1 : mg "PAIRS" = some (.ref a1)) (k1 : KTup K a1 (pairW.map V.str)) : ∀ n : Nat, Def P w K mg base "part_of" (n + 3) 2 (spPartOf n)
  | 0 => po_body F B (Def.never F) (fun m _ _ _ h _ => by omega) D1 D2 c1 k1
  | n + 1 => po_body F B (ok_part_of F B D1 D2 c1 k1 n) (fun m rs S C h q => by
    have e : m = n := by omega
    subst e
    exact q) D1 D2 c1 k1
end
end K19
set_option Elab.async false
set_option linter.all false
set_option maxRecDepth 100000
set_option maxHeartbeats 4000000
namespace K19
open PySem PySem.Spec PyProof.Rows L2 DL PM TL
section
variable {P : Program} {w : World} {K : Fg} {mg : Str → Option Value} {base : Heap}
/-! row_of -/
def spRowOf : SpD := fun rs S C => ∃ (p : Prog) (r : PRow), rs = [.dat (.list (strD r.words))] ∧ p.ok ∧ r ∈ p.rows ∧ ∀ S', C (.dat r.dat) S'
theorem at_pre2 {pre post : List Str} {x : Str} {ws : List Str} {at_ : Int} (e : ws = pre ++ x :: post) (ha : at_ = ((pre.length : Nat) : Int)) : atI (strD ws) at_ = some (.str x) := by
  subst e ha
  exact at_pre
theorem words_at (r : PRow) {i : Nat} {a : RArg} (ha : r.argl[i]? = some a) : r.words = (r.word :: argWords (r.argl.take i)) ++ a.words ++ argWords (r.argl.drop (i + 1)) := by
  have e : r.argl = r.argl.take i ++ a :: r.argl.drop (i + 1) := by
    obtain ⟨hl, e⟩ := List.getElem?_eq_some_iff.mp ha
    rw [← e, ← List.drop_eq_getElem_cons hl, List.take_append_drop]
  show r.word :: argWords r.argl = _
  rw [e]
  rw [show (r.argl.take i ++ a :: r.argl.drop (i + 1)).take i = r.argl.take i from by rw [← e], show (r.argl.take i ++ a :: r.argl.drop (i + 1)).drop (i + 1) = r.argl.drop (i + 1) from by rw [← e]]
  simp [argWords]
abbrev s_row_of : Stmt := topS 26
abbrev N_row_of : List Str := ["words", "shape", "found", "at", "kind", "told", "number"]
theorem sc_row_of : FnScope N_row_of ["words"] (defScope s_row_of) := ⟨rfl, rfl, rfl, by decide +kernel, rfl, by decide +kernel, by decide +kernel⟩
theorem ok_row_of {k : Nat} (F : FunAt K mg "row_of" s_row_of ["words"]) (B : Blt mg) (D0 : Def P w K mg base "shape_of" 1 1 spShapeOf) (D1 : Def P w K mg base "part_of" 6 2 (spPartOf 3)) (D2 : Def P w K mg base "number_of" 1 1 spNumberOf) (D3 : Def P w K mg base "name_of" 2 1 spNameOf) : Def P w K mg base "row_of" (k + 7) 1 spRowOf := by
  refine okF F sc_row_of rfl fun cdv A outer s H E f hr => ⟨_,
    (ss_cons (s_set (i := 1) sc_row_of.nd (d_callF D0 (hr.mono (by omega)) (by rfl) (a_cons (d_ix (hu_of hr) (dv 0) d_int) a_nil)))
      (ss_cons (s_if (t_isN (dv 1) d_non)
      (ss_one (s_ret d_non))
      ss_nil)
      (ss_cons (s_set (i := 2) sc_row_of.nd (d_lstC (a_cons (d_ix (hu_of hr) (dv 0) d_int) a_nil)))
      (ss_cons (s_set (i := 3) sc_row_of.nd d_int)
      (ss_cons (s_for (i_src (dv 1)) (g_name (i := 4) sc_row_of.nd)
      (ss_cons (s_set (i := 5) sc_row_of.nd (d_if (t_eq hr.units (dv 4) d_str) (d_callF D1 (hr.mono (by omega)) (by rfl) (a_cons (dv 0) (a_cons (dv 3) a_nil))) d_non))
      (ss_cons (s_if (PDW.pt (w_and (t_ne hr.units (dv 4) d_str) (w_and1 (t_lt (dv 3) (d_len (by rfl) B.len (a_cons (dv 0) a_nil))))))
      (ss_cons (s_set (i := 6) sc_row_of.nd (d_if (t_eq hr.units (dv 4) d_str) (d_callF D3 (hr.mono (by omega)) (by rfl) (a_cons (d_ix (hu_of hr) (dv 0) (dv 3)) a_nil)) (d_callF D2 (hr.mono (by omega)) (by rfl) (a_cons (d_ix (hu_of hr) (dv 0) (dv 3)) a_nil))))
      (ss_one (s_set (i := 5) sc_row_of.nd (d_if (t_isN (dv 6) d_non) d_non (d_tup (a_cons (dv 6) (a_cons (d_add (dv 3) d_int) a_nil)))))))
      ss_nil)
      (ss_cons (s_if (t_isN (dv 5) d_non)
      (ss_one (s_ret d_non))
      ss_nil)
      (ss_cons (s_expr (d_appT (dv 2) (d_ix (hu_of hr) (dv 5) d_int)))
      (ss_one (s_set (i := 3) sc_row_of.nd (d_ix (hu_of hr) (dv 5) d_int))))))))
      (ss_one (s_ret (d_if (t_eq hr.units (dv 3) (d_len (by rfl) B.len (a_cons (dv 0) a_nil))) (d_tuple (by rfl) B.tuple (a_cons (dv 2) a_nil)) d_non))))))))
    , ?_⟩
  intro rs S C hl h
  obtain ⟨p, r, rfl, ok, hr, h⟩ := h
  have hl3 := argl_len r
  have hao := Prog.argsOk ok hr
  have h8 := ok.n.2
  have hw22 := Prog.rowL ok hr
  have e0 : atI (strD r.words) 0 = some (.str r.word) := at0
  refine ⟨_, rfl, _, e0, rfl, _, rfl, ?_⟩
  rw [shape_row]
  refine ⟨_, rfl, ?_⟩
  refine ⟨_, rfl, _, e0, le_ok rfl, fun q => ?_⟩
  refine ⟨_, rfl, fun i fr S' => ∃ a b c : Option R, fr = [some (.dat (.list (strD r.words))), some (.dat (.str r.shape)), some (.val (.ref q)), some (.dat (.int ((1 + (argWords (r.argl.take i)).length : Nat) : Int))), a, b, c] ∧ S' = .lst q ((PyData.str r.word :: (r.argl.take i).map RArg.dat).map R.dat) :: S, ⟨none, none, none, rfl, rfl⟩, ?_, ?_⟩
  · rintro i rr fr S' hi ⟨x1, x2, x3, rfl, rfl⟩
    rw [row_shape, List.map_map, List.getElem?_map] at hi
    cases ha : r.argl[i]? with
    | none => rw [ha] at hi; cases hi
    | some a =>
      rw [ha] at hi
      cases hi
      have hok := hao a (List.mem_of_getElem? ha)
      have ew := words_at r ha
      have hlt : (1 + (argWords (r.argl.take i)).length : Nat) + a.words.length ≤ r.words.length := by
        rw [ew]
        simp only [List.length_append, List.length_cons]
        omega
      have e1 : (PyData.str r.word :: (r.argl.take i).map RArg.dat).map R.dat ++ [R.dat a.dat] = (PyData.str r.word :: (r.argl.take (i + 1)).map RArg.dat).map R.dat := by
        rw [List.take_add_one, ha]
        simp
      have e2 : (1 + (argWords (r.argl.take (i + 1))).length : Nat) = 1 + (argWords (r.argl.take i)).length + a.words.length := by
        rw [List.take_add_one, ha]
        show 1 + (argWords (r.argl.take i ++ [a])).length = _
        rw [argWords_snoc, List.length_append]
        omega
      have lp : ((r.word :: argWords (r.argl.take i)).length : Nat) = 1 + (argWords (r.argl.take i)).length := by
        rw [List.length_cons]; omega
      cases a with
      | x p' =>
        refine ⟨_, rfl, rfl, iteTb rfl ⟨_, rfl, _, rfl, rfl, r.word :: argWords (r.argl.take i), argWords (r.argl.drop (i + 1)), p', p.names, ?_, hok.1, h8, hok.2, ?_⟩⟩
        · rw [ew, lp]; rfl
        rw [lp]
        refine ⟨_, rfl, rfl, iteFb rfl ?_⟩
        refine ⟨_, rfl, ?_⟩
        refine ⟨_, rfl, ⟨0, _, rfl⟩, _, rfl, _, rfl, 0, _, rfl, ?_, ?_⟩
        · simp only [List.length_map, List.length_cons, List.length_take]
          omega
        refine ⟨_, rfl, _, rfl, ?_⟩
        show ∃ a b c : Option R, _ ∧ _
        rw [e2, ← e1]
        exact ⟨_, _, _, rfl, rfl⟩
      | n i' =>
        have hat : atI (strD r.words) ((1 + (argWords (r.argl.take i)).length : Nat) : Int) = some (.str (nameS i')) := at_pre2 (pre := r.word :: argWords (r.argl.take i)) (post := argWords (r.argl.drop (i + 1))) (by rw [ew]; simp [RArg.words]) (by rw [lp])
        refine ⟨_, rfl, rfl, iteFb rfl ?_⟩
        refine ⟨_, rfl, rfl, iteTb rfl ⟨_, rfl, _, rfl, iteTd (by rw [strD_len]; have : (RArg.n i').words.length = 1 := rfl; omega) ?_⟩⟩
        refine ⟨_, rfl, rfl, iteTb rfl ⟨_, rfl, _, rfl, _, hat, rfl, i', hok.1, hok.2, .inl ⟨rfl, ?_⟩⟩⟩
        refine ⟨_, rfl, _, rfl, _, rfl, le_ok rfl, _, rfl, ?_⟩
        refine ⟨_, rfl, ?_⟩
        refine ⟨_, rfl, ⟨0, _, rfl⟩, _, rfl, _, rfl, 0, _, rfl, ?_, ?_⟩
        · simp only [List.length_map, List.length_cons, List.length_take]
          omega
        refine ⟨_, rfl, _, rfl, ?_⟩
        show ∃ a b c : Option R, _ ∧ _
        rw [e2, ← e1]
        exact ⟨_, _, _, rfl, rfl⟩
      | f i' =>
        have hat : atI (strD r.words) ((1 + (argWords (r.argl.take i)).length : Nat) : Int) = some (.str (numS i')) := at_pre2 (pre := r.word :: argWords (r.argl.take i)) (post := argWords (r.argl.drop (i + 1))) (by rw [ew]; simp [RArg.words]) (by rw [lp])
        refine ⟨_, rfl, rfl, iteFb rfl ?_⟩
        refine ⟨_, rfl, rfl, iteTb rfl ⟨_, rfl, _, rfl, iteTd (by rw [strD_len]; have : (RArg.f i').words.length = 1 := rfl; omega) ?_⟩⟩
        refine ⟨_, rfl, rfl, iteFb rfl ⟨_, rfl, _, rfl, _, hat, rfl, i', rfl, hok.1, hok.2, ?_⟩⟩
        refine ⟨_, rfl, _, rfl, _, rfl, le_ok rfl, _, rfl, ?_⟩
        refine ⟨_, rfl, ?_⟩
        refine ⟨_, rfl, ⟨0, _, rfl⟩, _, rfl, _, rfl, 0, _, rfl, ?_, ?_⟩
        · simp only [List.length_map, List.length_cons, List.length_take]
          omega
        refine ⟨_, rfl, _, rfl, ?_⟩
        show ∃ a b c : Option R, _ ∧ _
        rw [e2, ← e1]
        exact ⟨_, _, _, rfl, rfl⟩
      | r i' =>
        have hat : atI (strD r.words) ((1 + (argWords (r.argl.take i)).length : Nat) : Int) = some (.str (numS i')) := at_pre2 (pre := r.word :: argWords (r.argl.take i)) (post := argWords (r.argl.drop (i + 1))) (by rw [ew]; simp [RArg.words]) (by rw [lp])
        refine ⟨_, rfl, rfl, iteFb rfl ?_⟩
        refine ⟨_, rfl, rfl, iteTb rfl ⟨_, rfl, _, rfl, iteTd (by rw [strD_len]; have : (RArg.r i').words.length = 1 := rfl; omega) ?_⟩⟩
        refine ⟨_, rfl, rfl, iteFb rfl ⟨_, rfl, _, rfl, _, hat, rfl, i', rfl, hok.1, hok.2, ?_⟩⟩
        refine ⟨_, rfl, _, rfl, _, rfl, le_ok rfl, _, rfl, ?_⟩
        refine ⟨_, rfl, ?_⟩
        refine ⟨_, rfl, ⟨0, _, rfl⟩, _, rfl, _, rfl, 0, _, rfl, ?_, ?_⟩
        · simp only [List.length_map, List.length_cons, List.length_take]
          omega
        refine ⟨_, rfl, _, rfl, ?_⟩
        show ∃ a b c : Option R, _ ∧ _
        rw [e2, ← e1]
        exact ⟨_, _, _, rfl, rfl⟩
  · rintro fr S' ⟨a, b, c, rfl, rfl⟩
    have en : (r.shape.cps.toList.map fun c => R.dat (.str ⟨#[c]⟩)).length = r.argl.length := by rw [List.length_map, row_shape, List.length_map]
    rw [en, List.take_length]
    have ew : ((1 + (argWords r.argl).length : Nat) : Int) = (((strD r.words).length : Nat) : Int) := by
      rw [strD_len]
      show _ = (((argWords r.argl).length + 1 : Nat) : Int)
      omega
    refine ⟨_, rfl, _, rfl, rfl, iteTb (by rw [ew]; simp [PyData.eqv]) ⟨_, rfl, 0, _, _, rfl, dats_map _, ?_⟩⟩
    rw [← row_args]
    exact h _
end
end K19
set_option Elab.async false
set_option linter.all false
set_option maxRecDepth 100000
set_option maxHeartbeats 4000000
/-! DL: x in t, x not in t: data of any depth within a tuple. -/
namespace DL
open PySem PySem.Spec PyProof.Rows L2
def rInT (K : Fg) (neg : Bool) : R2 := fun x y H Q => ∃ d ds, Dp K H x d ∧ Dp K H y (.tuple ds) ∧ d.canLay0 = true ∧ d.depth ≤ 60 ∧ PyData.canLayAll0 ds = true ∧ Q (.bl (if neg then !inD d ds else inD d ds)) H
section
variable {X : Cx} {K : Fg}
theorem op_inT (hu : X.A.units + 64 < cLine) : OpR X (compareOp .In) (rInT X.K false) := by
  intro pins s σ H x y v u Q I rx ry h
  obtain ⟨d, ds, hd, he, sd, dd, se, q⟩ := h
  obtain ⟨as, r1⟩ := Dp.reads I d x v hd rx
  obtain ⟨bs, r2⟩ := Dp.reads I (.tuple ds) y u he ry
  exact SeqAt.in_tuple_reads r2 r1 se sd (by omega) ⟨.bl _, H, I, rfl, q⟩
theorem op_notInT (hu : X.A.units + 64 < cLine) : OpR X (compareOp .NotIn) (rInT X.K true) := by
  intro pins s σ H x y v u Q I rx ry h
  obtain ⟨d, ds, hd, he, sd, dd, se, q⟩ := h
  obtain ⟨as, r1⟩ := Dp.reads I d x v hd rx
  obtain ⟨bs, r2⟩ := Dp.reads I (.tuple ds) y u he ry
  exact SeqAt.notIn_tuple_reads r2 r1 se sd (by omega) ⟨.bl _, H, I, rfl, q⟩
def fInT (neg : Bool) : F2 := fun a b S C => match a, b with
  | .dat d, .dat (.tuple ds) => d.canLay0 = true ∧ d.depth ≤ 60 ∧ PyData.canLayAll0 ds = true ∧ C (.dat (.bool (if neg then !inD d ds else inD d ds))) S
  | _, _ => False
theorem opd_inT {neg : Bool} : OpD K (rInT K neg) (fInT neg) := OpD.flat fun A x y a b H S C Q hx hy hf q => by
  unfold fInT at hf
  split at hf
  · obtain ⟨h1, h2, h3, h⟩ := hf
    exact ⟨_, _, hx.dp, hy.dp, h1, h2, h3, q _ (.dat _) (Rep.bl _) h⟩
  · exact hf.elim
end
section
variable {X : Cx} {a b : Expr} {da db : DE} {pos : Pos}
theorem d_inT (hu : X.A.units + 64 < cLine) (ha : PD X a da) (hb : PD X b db) (hm : behindInMarks .In b = false := by rfl) : PD X (.Compare a [.In] [b] pos) (dOp (fInT false) da db) := d_cmpG (op_inT hu) opd_inT ha hb hm
theorem d_notInT (hu : X.A.units + 64 < cLine) (ha : PD X a da) (hb : PD X b db) (hm : behindInMarks .NotIn b = false := by rfl) : PD X (.Compare a [.NotIn] [b] pos) (dOp (fInT true) da db) := d_cmpG (op_notInT hu) opd_inT ha hb hm
theorem t_inT (hu : X.A.units + 64 < cLine) (ha : PD X a da) (hb : PD X b db) (hm : behindInMarks .In b = false := by rfl) : PDT X (.Compare a [.In] [b] pos) (dTest (dOp (fInT false) da db)) := t_cmpG (op_inT hu) opd_inT ha hb hm
theorem t_notInT (hu : X.A.units + 64 < cLine) (ha : PD X a da) (hb : PD X b db) (hm : behindInMarks .NotIn b = false := by rfl) : PDT X (.Compare a [.NotIn] [b] pos) (dTest (dOp (fInT true) da db)) := t_cmpG (op_notInT hu) opd_inT ha hb hm
end
end DL
set_option Elab.async false
set_option linter.all false
set_option maxRecDepth 100000
set_option maxHeartbeats 4000000
/-! DL: xs.count(x) of data; a slice of a list that is a cell. -/
namespace DL
open PySem PySem.Spec PyProof.Rows L2
def rCntD (K : Fg) : V → List V → Hp → VK → Prop := fun x xs H Q => ∃ (p : Addr) (y : V) (ds : List PyData) (d : PyData), x = .ref p ∧ xs = [y] ∧ Dp K H (.ref p) (.list ds) ∧ Dp K H y d ∧ PyData.plainAll ds = true ∧ d.plain = true ∧ d.depth ≤ 60 ∧ Q (.int ((ds.countP fun z => PyData.eqv z d : Nat) : Int)) H
section
variable {X : Cx} {K : Fg}
theorem mt_cntD (hu : X.A.units + 64 < cLine) : MtR X "list.count" (rCntD X.K) := by
  intro pins s σ H x xs v us Q I rx rxs h
  obtain ⟨p, y, ds, d, rfl, rfl, hl, hy, h1, h2, h3, q⟩ := h
  cases rx
  cases rxs with
  | cons ry rt =>
    rename_i uy ut
    cases rt
    obtain ⟨bs, r1⟩ := Dp.reads I d y uy hy ry
    cases hl with
    | lst hs ha =>
      obtain ⟨its, rv, ⟨⟨cls, dd, data, sls⟩, n, ho, hc, hdn, hdt⟩, hlen⟩ := I.list hs
      simp only at hc hdt
      subst hc hdt
      obtain ⟨as, h4⟩ := Dp.readsAll I ds _ its ha rv
      refine SeqAt.count_list_data (vs := its.toArray) ⟨_, ho, rfl, _, rfl⟩ h4 r1 h1 h2 (by omega) ?_
      exact ⟨.int _, H, I.tok _, ⟨_, rfl⟩, q⟩
def dCnt (da de : DE) : DE := fun fr S C => da fr S fun a S1 => match a with
  | .dat (.list ds) => de fr S1 fun b S2 => match b with
    | .dat d => PyData.plainAll ds = true ∧ d.plain = true ∧ d.depth ≤ 60 ∧ C (.dat (.int ((ds.countP fun z => PyData.eqv z d : Nat) : Int))) S2
    | _ => False
  | _ => False
theorem lift_count {to te : TE} {da de : DE} (la : Lift K to da) (le : Lift K te de) : Lift K (tBM K "list" (rCntD K) to (tCons te tNil)) (dCnt da de) := by
  intro F H σ fr S L fo o C Q hd q
  refine la F H σ fr S L fo o _ _ hd fun x a S1 H1 o1 h1 => ?_
  split at h1
  · rename_i ds
    have hx := o1.dat List.mem_cons_self
    cases hx with | lst e1 n1 q1 =>
    refine ⟨.inl ⟨rfl, _, SqL.of e1⟩, ?_⟩
    refine le F H1 σ fr S1 _ (fo.mono tl_mem) o1 _ _ h1 fun v r S2 H2 o2 h2 => ?_
    split at h2
    · obtain ⟨z1, z2, z3, h⟩ := h2
      have hl := o2.dat (List.mem_cons_of_mem _ List.mem_cons_self)
      have hv := o2.dat List.mem_cons_self
      exact ⟨_, v, ds, _, rfl, rfl, hl.dp, hv.dp, z1, z2, z3, q _ _ S2 H2 ((o2.sub fun e he => List.mem_cons_of_mem _ (List.mem_cons_of_mem _ he)).pd (.int _)) h⟩
    · exact h2.elim
  · exact h1.elim
/-! a slice of a cell -/
def fSlC (lo hi : Option Int) : F1 := fun a S C => match a with
  | .val (.ref p) => ∃ (j : Nat) (xs : List R) (ds : List PyData), S[j]? = some (.lst p xs) ∧ dats xs = some ds ∧ C (.dat (.list (cutD ds lo hi))) S
  | _ => False
theorem sld_cel : SlD K (rSlAll K) fSlC := by
  intro F x lo hi a H S L C Q o hx hf q
  replace hx := o.live _ hx
  unfold fSlC at hf
  split at hf
  · rename_i p
    cases (show x = V.ref p from hx)
    obtain ⟨j, xs, ds, hj, hd, h⟩ := hf
    obtain ⟨vs, e1, q1⟩ := o.cells _ (at_split (in_app hj))
    exact .inl ⟨_, _, rfl, SqL.of e1, fun p hp => q _ _ S _ (o.lst hp (cut_all (reps_all q1 hd) lo hi)) h⟩
  · exact hf.elim
end
section
variable {X : Cx} {a e : Expr} {da de : DE} {dl dh : DO} {pos apos : Pos}
theorem d_sliceC {lo hi : Option Expr} {p2 : Pos} (ha : PD X a da) (hl : PDO X lo dl) (hh : PDO X hi dh) : PD X (.Subscript a (.Slice lo hi none p2) pos) (dSl fSlC da dl dh) := by
  obtain ⟨_, p, l⟩ := ha.ex
  obtain ⟨_, p2, l2⟩ := hl.ex
  obtain ⟨_, p3, l3⟩ := hh.ex
  exact ⟨_, pe_slice sl_all p p2 p3, lift_sl sld_cel l l2 l3⟩
theorem d_cnt (hu : X.A.units + 64 < cLine) (ha : PD X a da) (he : PD X e de) (hbase : attributeBase a "count" X.env (eval a X.env) = eval a X.env := by rfl)
    (hfew : ((backTo pos (starEach [e] X.env)).all (fun x => !x.1) && (backToKw pos (keywordEach [] X.env)).all (fun x => x.1.isSome)
      && decide (([e] : List Expr).length + ([] : List Keyword).length + (if ([] : List Keyword).isEmpty then 0 else 1) < 30)) = true := by rfl)
    (hline : (apos.endLine == pos.line) = true := by rfl) (hs : starEach [e] X.env = [(false, eval e X.env)] := by rfl) : PD X (.Call (.Attribute a "count" apos) [e] [] pos) (dCnt da de) := by
  obtain ⟨_, p, l⟩ := ha.ex
  obtain ⟨_, p2, l2⟩ := he.ex
  exact ⟨_, pe_bm PySem.F.plainAttrs_list PySem.F.slot_list_count PySem.F.type_list_count (mt_cntD hu) p (pa_cons p2 pa_nil hs) hbase hfew hline hs rfl, lift_count l l2⟩
end
/-! weakenings of a frame -/
theorem wkf_perm {fr : Fr} {S S' : SH} (hp : S.Perm S') : WkF fr S fr S' := fun K F H σ L f o => ⟨L, f, o.perm (hp.append_right F), fun _ h => h⟩
theorem list_set_same {α : Type} {l : List α} {i : Nat} {x : α} (h : l[i]? = some x) : l.set i x = l := by
  apply List.ext_getElem?
  intro j
  rw [List.getElem?_set]
  split
  · rename_i e
    subst e
    obtain ⟨hl, _⟩ := List.getElem?_eq_some_iff.mp h
    rw [if_pos hl, h]
  · rfl
theorem wkf_frz {fr : Fr} {i : Nat} {p : Addr} {ds : List PyData} {S S1 : SH} (hi : fr[i]? = some (some (.val (.ref p)))) (hp : S.Perm (.lst p (ds.map R.dat) :: S1)) : WkF fr S (fr.set i (some (.dat (.list ds)))) S1 := fun K F H σ L f o => by
  have o1 : Ok K H (.lst p (ds.map R.dat) :: (S1 ++ F)) L := o.perm (hp.append_right F)
  obtain ⟨v, hv, hm⟩ := f.at_ i _ hi
  have ev : v = .ref p := o.val hm
  subst ev
  have o2 := Ok.frz (i := 0) o1 rfl (dats_map ds)
  refine ⟨(.ref p, .dat (.list ds)) :: L, ?_, o2, tl_mem⟩
  have q := (f.mono (L' := (V.ref p, R.dat (.list ds)) :: L) tl_mem).set (v := .ref p) (r := .dat (.list ds)) List.mem_cons_self i
  rw [list_set_same hv] at q
  exact q
end DL
set_option Elab.async false
set_option linter.all false
set_option maxRecDepth 100000
set_option maxHeartbeats 4000000
/-! DL: xs.clear() of a cell. -/
namespace DL
open PySem PySem.Spec PyProof.Rows L2
section
variable {X : Cx} {K : Fg} {a : Expr} {da : DE} {pos apos : Pos}
def dClear (da : DE) : DE := fun fr S Q => da fr S fun a S1 => match a with
  | .val (.ref p) => ∃ (j : Nat) (xs : List R), S1[j]? = some (.lst p xs) ∧ Q (.dat .none) (S1.set j (.lst p []))
  | _ => False
theorem lift_clear {to : TE} {da : DE} (la : Lift K to da) : Lift K (tBM0 K "list" rClear to) (dClear da) := by
  intro F H σ fr S L fo o C Q hd q
  refine la F H σ fr S L fo o _ _ hd fun x a S1 H1 o1 h1 => ?_
  split at h1
  · rename_i p
    obtain ⟨j, xs, hj, h⟩ := h1
    cases o1.val List.mem_cons_self
    obtain ⟨us, e1, q1⟩ := o1.cells _ (at_split (in_app hj))
    refine ⟨.inl ⟨rfl, _, SqL.of e1⟩, p, _, rfl, rfl, e1, ?_⟩
    have o3 := o1.putL (ys := []) (us := []) (in_app hj) .nil
    rw [set_app hj] at o3
    exact q _ _ _ _ ((o3.sub tl_mem).pd .non) h
  · exact h1.elim
theorem d_clear (ha : PD X a da) (hbase : attributeBase a "clear" X.env (eval a X.env) = eval a X.env := by rfl) (hline : (apos.endLine == pos.line) = true := by rfl) : PD X (.Call (.Attribute a "clear" apos) [] [] pos) (dClear da) := by
  obtain ⟨_, p, l⟩ := ha.ex
  exact ⟨_, pe_bm0 PySem.F.plainAttrs_list PySem.F.slot_list_clear PySem.F.type_list_clear mt_clear p hbase hline, lift_clear l⟩
end
/-! list(range(n)) -/
def ups (n : Int) : List Int := (List.range n.toNat).map fun i => ((i : Nat) : Int)
def dLRg (da : DE) : DE := fun fr S C => da fr S fun a S1 => match a with
  | .dat (.int n) => 0 ≤ n ∧ n ≤ 16777216 ∧ C (.dat (.list ((ups n).map PyData.int))) S1
  | _ => False
theorem rgV_ups (n : Int) : rgV 0 n = (ups n).map V.int := by
  unfold rgV ups
  rw [List.map_map, Int.sub_zero]
  apply List.map_congr_left
  intro i _
  show V.int (0 + (i : Int)) = V.int (i : Int)
  rw [Int.zero_add]
theorem lift_lrg {K : Fg} {ta : TE} {da : DE} (la : Lift K ta da) : Lift K (tLstRg (tRg1 ta)) (dLRg da) := by
  intro F H σ fr S L fo o C Q hd q
  refine la F H σ fr S L fo o _ _ hd fun x a S1 H1 o1 h1 => ?_
  split at h1
  · rename_i n
    obtain ⟨h0, h2, h⟩ := h1
    cases rep_int_inv (o1.dat List.mem_cons_self)
    refine ⟨n, rfl, RgOk.of_le (by decide) h2 (by decide) h0, fun p hp => ?_⟩
    rw [rgV_ups]
    exact q _ _ S1 _ ((o1.sub tl_mem).lst hp (RepAll.ints _)) h
  · exact h1.elim
theorem d_lrg {X : Cx} {a : Expr} {da : DE} {p pos p1 pos1 : Pos} (hg : Gl X "list") (hm : X.mg "list" = none) (hg1 : Gl X "range") (hm1 : X.mg "range" = none) (ha : PD X a da) (hc : X.calm = true := by rfl) (na : starEach [a] X.env = (false, eval a X.env) :: starEach [] X.env := by rfl)
    (nb : starEach [Expr.Call (.Name "range" p1) [a] [] pos1] X.env = (false, eval (.Call (.Name "range" p1) [a] [] pos1) X.env) :: starEach [] X.env := by rfl) : PD X (.Call (.Name "list" p) [.Call (.Name "range" p1) [a] [] pos1] [] pos) (dLRg da) := by
  obtain ⟨_, pa, la⟩ := ha.ex
  exact ⟨_, pe_listRg hc hg hm (prg_1 hg1 hm1 pa na) nb, lift_lrg la⟩
end DL
set_option Elab.async false
set_option linter.all false
set_option maxRecDepth 100000
set_option maxHeartbeats 4000000
/-! DL: written dicts with texts as keys, d.update(e), xs.pop(i). -/
namespace DL
open PySem PySem.Spec PyProof.Rows L2
def mergeR (kvs more : List (Key × R)) : List (Key × R) := more.foldl (fun acc kv => putR acc kv.1 kv.2) kvs
theorem merge_kv {P : V → R → Prop} : ∀ {more : List (Key × V)} {moreR : List (Key × R)} {kws : List (Key × V)} {kvs : List (Key × R)}, Paired (fun (a : Key × V) (b : Key × R) => a.1 = b.1 ∧ P a.2 b.2) more moreR → Paired (fun (a : Key × V) (b : Key × R) => a.1 = b.1 ∧ P a.2 b.2) kws kvs →
    Paired (fun (a : Key × V) (b : Key × R) => a.1 = b.1 ∧ P a.2 b.2) (mergeK kws more) (mergeR kvs moreR)
  | _, _, _, _, .nil, q => q
  | (k, v) :: more, (k', r) :: moreR, kws, kvs, .cons h t, q => by
    obtain ⟨e, hp⟩ := h
    cases (show k = k' from e)
    show Paired _ (mergeK (putK kws k v) more) (mergeR (putR kvs k r) moreR)
    exact merge_kv t (put_kv k hp q)
def keyed (ks : List Str) (rs : List R) : List (Key × R) := (ks.map fun k => (Sum.inr k : Key)).zip rs
def keyedV (ks : List Str) (vs : List V) : List (Key × V) := (ks.map fun k => (Sum.inr k : Key)).zip vs
theorem keyed_kv {P : V → R → Prop} : ∀ {ks : List Str} {vs : List V} {rs : List R}, Paired P vs rs → Paired (fun (a : Key × V) (b : Key × R) => a.1 = b.1 ∧ P a.2 b.2) (keyedV ks vs) (keyed ks rs)
  | [], _, _, _ => .nil
  | _ :: _, _, _, .nil => .nil
  | k :: ks, _, _, .cons h t => .cons ⟨rfl, h⟩ (keyed_kv t)
theorem keyedV_vv : ∀ {ks : List Str} {vs : List V}, ((ks.map V.str).zip vs) = (keyedV ks vs).map fun kv => (kV kv.1, kv.2)
  | [], _ => rfl
  | _ :: _, [] => rfl
  | k :: ks, v :: vs => by
    show (V.str k, v) :: (ks.map V.str).zip vs = (kV (Sum.inr k), v) :: (keyedV ks vs).map _
    rw [keyedV_vv]; rfl
def LiftP (K : Fg) (trs : List (TE × TE)) (ks : List Str) (da : DA) : Prop := ∀ (F : SH) (H : Hp) (σ : L2.St) (fr : Fr) (S : SH) (L : Live), FrOk σ fr L → OkF K F H S L → ∀ (C : List R → SH → Prop) (Q : List (V × V) → Hp → Prop), da fr S C →
  (∀ vs rs S' H' L', OkF K F H' S' L' → (∀ e ∈ L, e ∈ L') → Lives L' vs rs → C rs S' → Q ((ks.map V.str).zip vs) H') → tPairs trs σ H Q
structure PDP (X : Cx) (pos : Pos) (keys : List (Option Expr)) (values : List Expr) (ks : List Str) (da : DA) : Prop where
  ex : ∃ trs, PPs X pos keys values trs ∧ LiftP X.K trs ks da ∧ keys.length = ks.length
theorem p_nil {X : Cx} {pos : Pos} : PDP X pos [] [] [] dNil := ⟨[], pps_nil, fun F H σ fr S L f o C Q h q => q [] [] S H L o (fun _ z => z) .nil h, rfl⟩
theorem p_cons {X : Cx} {pos p2 : Pos} {k : Str} {j : Nat} {v : Expr} {ks : List (Option Expr)} {vs : List Expr} {names : List Str} {dv : DE} {da : DA} (hv : PD X v dv) (hr : PDP X pos ks vs names da) :
    PDP X pos (some (.Constant (.str k) j p2) :: ks) (v :: vs) (k :: names) (dCons dv da) := by
  obtain ⟨tv, pv, lv⟩ := hv.ex
  obtain ⟨trs, pr, lr, hl⟩ := hr.ex
  refine ⟨_, pps_cons pe_str pv pr, fun F H σ fr S L f o C Q h q => ?_, by rw [List.length_cons, List.length_cons, hl]⟩
  refine lv F H σ fr S L f o _ _ h fun y r S1 H1 o1 h1 => ?_
  refine lr F H1 σ fr S1 _ (f.mono tl_mem) o1 _ _ h1 fun us rs S2 H2 L2 o2 s2 l2 h2 => ?_
  exact q (y :: us) (r :: rs) S2 H2 L2 o2 (fun e he => s2 e (List.mem_cons_of_mem _ he)) (.cons (s2 _ List.mem_cons_self) l2) h2
/-- {k: v, ..}: the new dict stands empty while the values are made -/
def dDisp (ks : List Str) (da : DA) : DE := fun fr S C => ∀ p, da fr (.dct p [] :: S) fun rs S2 => ∃ j, S2[j]? = some (.dct p []) ∧ C (.val (.ref p)) (S2.set j (.dct p (mergeR [] (keyed ks rs))))
theorem zip_len_le {α β : Type} : ∀ (xs : List α) (ys : List β), (xs.zip ys).length ≤ xs.length := fun xs ys => by rw [List.length_zip]; exact Nat.min_le_left _ _
theorem d_disp {X : Cx} {pos : Pos} {keys : List (Option Expr)} {values : List Expr} {ks : List Str} {da : DA} (h : PDP X pos keys values ks da) (hall : keys.all (·.isSome) = true := by rfl) (hl : keys.length = values.length := by rfl) (h0 : keys ≠ [] := by exact fun z => nomatch z)
    (h15 : keys.length ≤ 15 := by decide) : PD X (.Dict keys values pos) (dDisp ks da) := by
  obtain ⟨trs, pr, lr, hkl⟩ := h.ex
  refine ⟨_, pe_disp pr hall hl h0 h15, fun F H σ fr S L f o C Q hd q p hp => ?_⟩
  have o1 : OkF X.K F (upd H p (.dK [])) (.dct p [] :: S) L := o.cell (c := .dct p []) rfl hp ⟨[], upd_same, .nil⟩
  refine lr F _ σ fr _ L f o1 _ _ (hd p) fun vs rs S2 H2 L2 o2 s2 l2 h2 => ?_
  obtain ⟨j, hj, hc⟩ := h2
  obtain ⟨kws, e1, q1⟩ := o2.cells _ (at_split (in_app hj))
  cases q1
  refine ⟨e1, keyedV ks vs, keyedV_vv, ?_, ?_⟩
  · have := zip_len_le (ks.map fun k => (Sum.inr k : Key)) vs
    rw [List.length_map] at this
    show ((ks.map fun k => (Sum.inr k : Key)).zip vs).length ≤ 15
    omega
  have rel := keyed_kv (ks := ks) (o2.reps l2)
  have o3 := o2.put (u := .dK (mergeK [] (keyedV ks vs))) (c' := .dct p (mergeR [] (keyed ks rs))) (in_app hj) rfl rfl e1 True.intro ⟨_, upd_same, Paired.mapP (merge_kv rel .nil) fun _ _ z => ⟨z.1, z.2.stp (stp_upd e1 (pt_at (in_app hj)) True.intro)⟩⟩
  rw [set_app hj] at o3
  exact q _ _ _ _ ((o3.push (r := .val (.ref p)) rfl).sub (sub_cons s2)) hc
/-! d.update(e) -/
def tDUpd (to te : TE) : TE := fun σ H Q => to σ H fun x H1 => ∃ d kvs0, x = .ref d ∧ H1 d = some (.dK kvs0) ∧ te σ H1 fun y H2 => ∃ o kvs more, y = .ref o ∧ d ≠ o ∧ H2 d = some (.dK kvs) ∧ H2 o = some (.dK more) ∧ kvs.length + more.length ≤ 1000 ∧ Q .non (upd H2 d (.dK (mergeK kvs more)))
theorem pe_dupd {X : Cx} {o e : Expr} {to te : TE} {apos cpos : Pos} (ho : PE X o to) (he : PE X e te) (m : M1 X o "update" apos e cpos) : PE X (.Call (.Attribute o "update" apos) [e] [] cpos) (tDUpd to te) := by
  refine ⟨fun pins s σ H Q I h => ?_⟩
  refine wpAny_Call_method m.base m.few m.line PySem.F.plainAttrs_dict PySem.F.slot_dict_update PySem.F.type_dict_update (thn (ho.run pins s σ H _ I h) fun u s1 ⟨x, H1, I1, rx, a, kvs0, ex, e0, q1⟩ => ?_)
  subst ex
  obtain rfl : u = Value.ref a := rx
  obtain ⟨t1, t2, _⟩ := isD_at I1 (.inl ⟨kvs0, .inl e0⟩)
  refine ⟨t1, t2, ?_⟩
  rw [m.trees]
  refine Calls.callWith_builtin rfl (Calls.evalArgs_plain (Calls.spliced_cons (thn (he.run pins s1 σ H1 _ I1 q1) fun iv s2 ⟨y, H2, I2, ry, ob, kvs, more, ey, hne, e1, e2, hsz, q2⟩ => Calls.spliced_nil ?_)))
  subst ey
  obtain rfl : iv = Value.ref ob := ry
  obtain ⟨z1, hd1, vs1, r1, dd1⟩ := dk_of I2.hok e1
  obtain ⟨z2, hd2, vs2, r2, dd2⟩ := dk_of I2.hok e2
  have l1 : vs1.length = kvs.length := (paired_len r1).symm
  have l2 : vs2.length = more.length := (paired_len r2).symm
  have hsl := sizeLine_eq
  refine call_meetsIn PySem.F.slot_dict_update dd1.typeIs PySem.F.entry_dict_update (PySem.F.args_dict_update_2 _ _) (meets_dict_update (mixKind X.prog X.w) a ob hne hd2) ⟨vs1, vs2, dd1, dd2, by omega, fun h' dd' _ hs => ⟨.non, _, ?_, rfl, q2⟩⟩
  have hz : (mergeK kvs more).length ≤ sizeLine := by
    have := length_mergeK more kvs
    omega
  have hg : ∃ q, h'.get? a = some q := let ⟨q, _, _, hq, _⟩ := dd'; ⟨q, hq⟩
  exact d_write I2 (by rw [e1]; exact True.intro) hs hg (dk_new hz hd1 (r2.merge r1) dd')
def dUpd (da de : DE) : DE := fun fr S C => da fr S fun a S1 => match a with
  | .val (.ref p) => (∃ (j : Nat) (kvs : List (Key × R)), S1[j]? = some (.dct p kvs)) ∧ de fr S1 fun b S2 => match b with
    | .val (.ref o) => ∃ (j i : Nat) (kvs more : List (Key × R)), j ≠ i ∧ S2[j]? = some (.dct p kvs) ∧ S2[i]? = some (.dct o more) ∧ kvs.length + more.length ≤ 1000 ∧ C (.dat .none) (S2.set j (.dct p (mergeR kvs more)))
    | _ => False
  | _ => False
theorem lift_upd {K : Fg} {to te : TE} {da de : DE} (la : Lift K to da) (le : Lift K te de) : Lift K (tDUpd to te) (dUpd da de) := by
  intro F H σ fr S L fo o C Q hd q
  refine la F H σ fr S L fo o _ _ hd fun x a S1 H1 o1 h1 => ?_
  split at h1
  · rename_i p
    obtain ⟨⟨j, kvs, hj⟩, h1⟩ := h1
    cases o1.val List.mem_cons_self
    obtain ⟨kws, e1, _⟩ := o1.cells _ (at_split (in_app hj))
    refine ⟨p, kws, rfl, e1, ?_⟩
    refine le F H1 σ fr S1 _ (fo.mono tl_mem) o1 _ _ h1 fun v r S2 H2 o2 h2 => ?_
    split at h2
    · rename_i ob
      obtain ⟨j2, i2, kvs2, more, hne, hj2, hi2, hsz, hc⟩ := h2
      cases o2.val List.mem_cons_self
      obtain ⟨kw2, f1, q1⟩ := o2.cells _ (at_split (in_app hj2))
      obtain ⟨mw, f2, q2⟩ := o2.cells _ (at_split (in_app hi2))
      have hne : p ≠ ob := fun z => hne (by
        have g1 : ((S2 ++ F).map Cell.pt)[j2]? = some p := by rw [List.getElem?_map, in_app hj2]; rfl
        have g2 : ((S2 ++ F).map Cell.pt)[i2]? = some p := by rw [List.getElem?_map, in_app hi2, z]; rfl
        exact nd_ix o2.nd g1 g2)
      refine ⟨ob, kw2, mw, rfl, hne, f1, f2, by rw [paired_len q1, paired_len q2]; exact hsz, ?_⟩
      have o3 := o2.put (u := .dK (mergeK kw2 mw)) (c' := .dct p (mergeR kvs2 more)) (in_app hj2) rfl rfl f1 True.intro ⟨_, upd_same, Paired.mapP (merge_kv q2 q1) fun _ _ z => ⟨z.1, z.2.stp (stp_upd f1 (pt_at (in_app hj2)) True.intro)⟩⟩
      rw [set_app hj2] at o3
      exact q _ _ _ _ ((o3.sub fun e he => List.mem_cons_of_mem _ (List.mem_cons_of_mem _ he)).pd .non) hc
    · exact h2.elim
  · exact h1.elim
theorem d_upd {X : Cx} {a e : Expr} {da de : DE} {apos pos : Pos} (ha : PD X a da) (he : PD X e de) (hbase : attributeBase a "update" X.env (eval a X.env) = eval a X.env := by rfl)
    (hfew : ((backTo pos (starEach [e] X.env)).all (fun x => !x.1) && (backToKw pos (keywordEach [] X.env)).all (fun x => x.1.isSome)
      && decide (([e] : List Expr).length + ([] : List Keyword).length + (if ([] : List Keyword).isEmpty then 0 else 1) < 30)) = true := by rfl)
    (hline : (apos.endLine == pos.line) = true := by rfl) (hs : backTo pos (starEach [e] X.env) = [(false, eval e X.env)] := by rfl) : PD X (.Call (.Attribute a "update" apos) [e] [] pos) (dUpd da de) := by
  obtain ⟨_, p, l⟩ := ha.ex
  obtain ⟨_, p2, l2⟩ := he.ex
  exact ⟨_, pe_dupd p p2 ⟨hbase, hfew, hline, hs⟩, lift_upd l l2⟩
/-! xs.pop(i) -/
def dPopA (da de : DE) : DE := fun fr S Q => da fr S fun a S1 => match a with
  | .val (.ref p) => (∃ (j : Nat) (xs : List R), S1[j]? = some (.lst p xs)) ∧ de fr S1 fun b S2 => match b with
    | .dat (.int i) => ∃ (j : Nat) (xs : List R) (r : R), S2[j]? = some (.lst p xs) ∧ 0 ≤ i ∧ i < 100000 ∧ xs[i.toNat]? = some r ∧ Q r (S2.set j (.lst p (xs.eraseIdx i.toNat)))
    | _ => False
  | _ => False
theorem paired_erase {α β : Type} {P : α → β → Prop} : ∀ {xs : List α} {ys : List β} (n : Nat), Paired P xs ys → Paired P (xs.eraseIdx n) (ys.eraseIdx n)
  | _, _, _, .nil => .nil
  | _, _, 0, .cons _ t => t
  | _, _, n + 1, .cons h t => .cons h (paired_erase n t)
theorem seqIx_nat {i : Int} {n : Nat} (h0 : 0 ≤ i) (h1 : i.toNat < n) : seqIndex? i n = some i.toNat := by
  have e0 : (if i < 0 then i + (n : Int) else i) = i := if_neg (by omega)
  have e : seqIndex? i n = if (decide (0 ≤ (if i < 0 then i + (n : Int) else i)) && decide ((if i < 0 then i + (n : Int) else i) < n)) = true then some (if i < 0 then i + (n : Int) else i).toNat else none := rfl
  rw [e, e0, decide_eq_true h0, decide_eq_true (show i < (n : Int) by omega), Bool.and_self, if_pos rfl]
theorem lift_popA {K : Fg} {to te : TE} {da de : DE} (la : Lift K to da) (le : Lift K te de) : Lift K (tBM K "list" rPopAt to (tCons te tNil)) (dPopA da de) := by
  intro F H σ fr S L fo o C Q hd q
  refine la F H σ fr S L fo o _ _ hd fun x a S1 H1 o1 h1 => ?_
  split at h1
  · rename_i p
    obtain ⟨⟨j, xs, hj⟩, h1⟩ := h1
    cases o1.val List.mem_cons_self
    obtain ⟨us, e1, _⟩ := o1.cells _ (at_split (in_app hj))
    refine ⟨.inl ⟨rfl, _, SqL.of e1⟩, ?_⟩
    refine le F H1 σ fr S1 _ (fo.mono tl_mem) o1 _ _ h1 fun v r S2 H2 o2 h2 => ?_
    split at h2
    · rename_i i
      obtain ⟨j2, ys, y, hj2, h0, hb, hy, hc⟩ := h2
      cases rep_int_inv (o2.dat List.mem_cons_self)
      obtain ⟨ws, f1, q1⟩ := o2.cells _ (at_split (in_app hj2))
      obtain ⟨u, eu, ru⟩ := paired_get' q1 hy
      have hlt : i.toNat < ws.length := (List.getElem?_eq_some_iff.mp eu).1
      refine ⟨p, ws, i, i.toNat, u, rfl, rfl, f1, by omega, by omega, seqIx_nat h0 hlt, eu, ?_⟩
      have o3 := (o2.push ru).putL (in_app hj2) (paired_erase i.toNat q1)
      rw [set_app hj2] at o3
      exact q _ _ _ _ (o3.sub (sub_cons fun e he => List.mem_cons_of_mem _ (List.mem_cons_of_mem _ he))) hc
    · exact h2.elim
  · exact h1.elim
theorem d_popA {X : Cx} {a e : Expr} {da de : DE} {apos pos : Pos} (ha : PD X a da) (he : PD X e de) (hbase : attributeBase a "pop" X.env (eval a X.env) = eval a X.env := by rfl)
    (hfew : ((backTo pos (starEach [e] X.env)).all (fun x => !x.1) && (backToKw pos (keywordEach [] X.env)).all (fun x => x.1.isSome)
      && decide (([e] : List Expr).length + ([] : List Keyword).length + (if ([] : List Keyword).isEmpty then 0 else 1) < 30)) = true := by rfl)
    (hline : (apos.endLine == pos.line) = true := by rfl) (hs : starEach [e] X.env = [(false, eval e X.env)] := by rfl) : PD X (.Call (.Attribute a "pop" apos) [e] [] pos) (dPopA da de) := by
  obtain ⟨_, p, l⟩ := ha.ex
  obtain ⟨_, p2, l2⟩ := he.ex
  exact ⟨_, pe_bm PySem.F.plainAttrs_list PySem.F.slot_list_pop PySem.F.type_list_pop mt_popAt p (pa_cons p2 pa_nil hs) hbase hfew hline hs rfl, lift_popA l l2⟩
/-! list(range(n)) as a cell -/
def dLRgC (da : DE) : DE := fun fr S C => da fr S fun a S1 => match a with
  | .dat (.int n) => 0 ≤ n ∧ n ≤ 16777216 ∧ ∀ p, C (.val (.ref p)) (.lst p ((ups n).map fun i => R.dat (.int i)) :: S1)
  | _ => False
theorem lift_lrgC {K : Fg} {ta : TE} {da : DE} (la : Lift K ta da) : Lift K (tLstRg (tRg1 ta)) (dLRgC da) := by
  intro F H σ fr S L fo o C Q hd q
  refine la F H σ fr S L fo o _ _ hd fun x a S1 H1 o1 h1 => ?_
  split at h1
  · rename_i n
    obtain ⟨h0, h2, h⟩ := h1
    cases rep_int_inv (o1.dat List.mem_cons_self)
    refine ⟨n, rfl, RgOk.of_le (by decide) h2 (by decide) h0, fun p hp => ?_⟩
    rw [rgV_ups]
    have e : ((ups n).map fun i => R.dat (.int i)) = ((ups n).map PyData.int).map R.dat := by rw [List.map_map]; rfl
    have hh := h p
    rw [e] at hh
    exact q _ _ _ _ (((o1.sub tl_mem).lstC hp (all_reps (RepAll.ints _))).push (r := .val (.ref p)) rfl) hh
  · exact h1.elim
theorem d_lrgC {X : Cx} {a : Expr} {da : DE} {p pos p1 pos1 : Pos} (hg : Gl X "list") (hm : X.mg "list" = none) (hg1 : Gl X "range") (hm1 : X.mg "range" = none) (ha : PD X a da) (hc : X.calm = true := by rfl) (na : starEach [a] X.env = (false, eval a X.env) :: starEach [] X.env := by rfl)
    (nb : starEach [Expr.Call (.Name "range" p1) [a] [] pos1] X.env = (false, eval (.Call (.Name "range" p1) [a] [] pos1) X.env) :: starEach [] X.env := by rfl) : PD X (.Call (.Name "list" p) [.Call (.Name "range" p1) [a] [] pos1] [] pos) (dLRgC da) := by
  obtain ⟨_, pa, la⟩ := ha.ex
  exact ⟨_, pe_listRg hc hg hm (prg_1 hg1 hm1 pa na) nb, lift_lrgC la⟩
end DL
set_option Elab.async false
set_option linter.all false
set_option maxRecDepth 100000
set_option maxHeartbeats 4000000
/-! DL: a, b, c = a list. -/
namespace DL
open PySem PySem.Spec PyProof.Rows L2
section
variable {prog : Program} {w : World} {A : Around} {E : Value → Shared → Prop}
theorem draw_walk {I : Addr} {fp wr : List Addr} {n : Nat} {Pv : Nat → Value → Prop} {St : Nat → Heap → Prop} (W : Walks prog w A I fp wr n Pv St) : ∀ (k i : Nat) (s : Shared) (Q : List Value → Shared → Prop), i + k = n → St i s.heap →
    (∀ vs h' tk, vs.length = k → (∀ j v, vs[j]? = some v → Pv (i + j) v) → St n h' → (∀ b o, b ∉ wr → s.heap.get? b = some o → h'.get? b = some o) → Q vs { s with heap := h', toks := tk }) → wpAny (model prog w) A (draw (.ref I) k) Q E s
  | 0, i, s, Q, hi, st, h => by
    show wpAny _ _ (pure []) Q E s
    have e : i = n := by omega
    subst e
    exact wpAny_pure (h [] s.heap s.toks rfl (fun j v e => by simp at e) st fun b o _ e => e)
  | k + 1, i, s, Q, hi, st, h => by
    show wpAny _ _ (pyNext (.ref I) >>= _) Q E s
    refine wpAny_bind (W.item i s _ _ (by omega) st fun v h1 tk1 hv st1 k1 => ?_)
    refine wpAny_bind (wpAny_holding (draw_walk W k (i + 1) { s with heap := h1, toks := tk1 } _ (by omega) st1 fun vs h2 tk2 hl hp st2 k2 => wpAny_pure ?_))
    refine h (v :: vs) h2 tk2 (by simp [hl]) (fun j u e => ?_) st2 fun b o hb e => k2 b o hb (k1 b o hb e)
    cases j with
    | zero => simp at e; subst e; exact hv
    | succ j =>
      have := hp j u (by simpa using e)
      rw [show i + 1 + j = i + (j + 1) from by omega] at this
      exact this
theorem unpack_list {s : Shared} {l : Addr} {items : Array Value} {Q : List Value → Shared → Prop} (hh : A.handled = none) (hl : s.heap.IsList l items)
    (hQ : ∀ h' tk, (∀ b o, s.heap.get? b = some o → h'.get? b = some o) → Q items.toList { s with heap := h', toks := tk }) : wpAny (model prog w) A (unpackItems (.ref l) items.size none) Q E s := by
  have hlt : l < s.heap.objs.size := by obtain ⟨o, ho, _⟩ := hl; exact Heap.lt_size ho
  unfold unpackItems
  refine wpAny_bind ?_
  unfold notIterableAtAll
  refine wpAny_bind (wpAny_specialOf hl.typeIs PySem.F.slot_list_iter.lookup ?_)
  refine wpAny_pure ?_
  simp only [Bool.false_eq_true, if_false]
  refine wpAny_bind (wpAny_holding (wpAny_pyIter_list hl ?_))
  have W := Walks.list (prog := prog) (w := w) (A := A) hh s.heap.objs.size l (Nat.ne_of_lt hlt) items
  refine wpAny_bind (wpAny_holding (draw_walk W items.size 0 _ _ (by omega) ⟨⟨_, Heap.get?_push_size _ rfl, rfl, rfl⟩, hl.push _⟩ fun vs h1 tk1 hlen hp st1 k1 => ?_))
  have ev : vs = items.toList := by
    apply List.ext_getElem?
    intro j
    cases e : vs[j]? with
    | none =>
      have := List.getElem?_eq_none_iff.mp e
      rw [List.getElem?_eq_none (by simp; omega)]
    | some v =>
      have := hp j v e
      rw [Nat.zero_add] at this
      rw [Array.getElem?_toList, this]
  subst ev
  rw [if_neg (by simp)]
  refine wpAny_bind (wpAny_holding (W.done { s with heap := h1, toks := tk1 } _ _ st1 fun h2 tk2 k2 => ?_))
  simp only [Option.isSome_none, Bool.false_eq_true, if_false]
  refine wpAny_pure (hQ h2 tk2 fun b o e => ?_)
  have hb : b ∉ [s.heap.objs.size] := by
    have := Heap.lt_size e
    simp only [List.mem_singleton]
    exact Nat.ne_of_lt this
  exact k2 b o hb (k1 b o hb (Heap.get?_push_of_some _ e))
end
section
variable {X : Cx} {K : Fg} {pos : Pos}
/-- (a, b, ..) = a list of that length -/
def gTupL (K : Fg) (n : Nat) (t : TGs) : TG := fun v σ H Q => ∃ a xs, v = .ref a ∧ SqL K H a xs ∧ xs.length = n ∧ t xs σ H Q
theorem pg_tupL {es : List Expr} {k : Nat} {t : TGs} {n : Nat} (hc : X.calm = true) (h : PGs X es t)
    (hn : (assignEach es X.env).length = n := by rfl) (hst : (assignEach es X.env).findIdx? (·.1) = none := by rfl) : PG X (.Tuple es k pos) (gTupL X.K n t) := by
  refine ⟨fun pins s σ H v u Q I r hw => ?_⟩
  obtain ⟨a, xs, e1, hq, hl, hw⟩ := hw
  subst e1
  cases r
  obtain ⟨its, rv, ht, hz⟩ := I.list hq
  rw [assign_Tuple]
  refine wpAny_bind (wpAny_standAt ?_)
  unfold unpack
  have en : (assignEach es X.env).length = its.toArray.size := by simp [hn, ← hl, rv.length]
  rw [en, hst]
  refine wpAny_bind (wpAny_holding (unpack_list (I.ok.hd hc) ht.isList fun h' tk kp => ?_))
  have I1 : Inv X pins σ H { s with heap := h', toks := tk } := I.kept (t' := tk) kp
  exact h.run pins _ σ H xs _ Q I1 (by simpa using rv) hw
def gTpL (n : Nat) (t : DGs) : DG := fun r fr S C => match r with
  | .dat (.list ds) => ds.length = n ∧ t (ds.map R.dat) fr S C
  | _ => False
theorem lift_gtupL {n : Nat} {t : TGs} {dt : DGs} (l : LiftGs K t dt) : LiftG K (gTupL K n t) (gTpL n dt) := fun F H σ fr S L v r f o m C Q h q => by
  unfold gTpL at h
  split at h
  · obtain ⟨hn, h⟩ := h
    have hr := o.dat m
    cases hr with | lst h1 n1 q1 =>
    obtain ⟨L', o', s', lv⟩ := push_all o q1
    refine ⟨_, _, rfl, SqL.of h1, q1.length.trans hn, ?_⟩
    exact l F H σ fr S L' _ _ (f.mono s') o' lv _ _ h fun σ1 fr1 S1 H1 L1 f1 o1 s1 h1 => q σ1 fr1 S1 H1 L1 f1 o1 (fun e he => s1 e (s' e he)) h1
  · exact h.elim
theorem g_tupL {es : List Expr} {dgs : DGs} {k n : Nat} (h : PDGs X es dgs) (hc : X.calm = true := by rfl) (hn : (assignEach es X.env).length = n := by rfl) (hst : (assignEach es X.env).findIdx? (·.1) = none := by rfl) : PDG X (.Tuple es k pos) (gTpL n dgs) := by
  obtain ⟨_, p, l⟩ := h.ex
  exact ⟨_, pg_tupL hc p hn hst, lift_gtupL l⟩
end
end DL
set_option Elab.async false
set_option linter.all false
set_option maxRecDepth 100000
set_option maxHeartbeats 4000000
/-! DL: comprehensions over known lists; a dict frozen; two promises of one def. -/
namespace DL
open PySem PySem.Spec PyProof.Rows L2
def lcGo (E : List R → SH → CR0 → Prop) (C : CR0) (fr : Fr) (i : Nat) (dt : DT) (de : DE) : List R → List R → SH → Prop
  | [], acc, S => E acc S C
  | r :: rs, acc, S => dt (fr.set i (some r)) S fun b S2 => if b = true then de (fr.set i (some r)) S2 fun y S3 => acc.length < 100000 ∧ lcGo E C fr i dt de rs (acc ++ [y]) S3 else lcGo E C fr i dt de rs acc S2
theorem lc_unroll {E : List R → SH → CR0 → Prop} {items : List R} {fr : Fr} {S : SH} {C : CR0} {i : Nat} {dt : DT} {de : DE} (h : lcGo E C fr i dt de items [] S) : ∃ I : Nat → List R → SH → Prop, I 0 [] S ∧
  (∀ k r acc S, items[k]? = some r → I k acc S → dt (fr.set i (some r)) S fun b S2 => if b = true then de (fr.set i (some r)) S2 fun y S3 => acc.length < 100000 ∧ I (k + 1) (acc ++ [y]) S3 else I (k + 1) acc S2) ∧
  ∀ acc S, I items.length acc S → E acc S C := by
  refine ⟨fun k acc S => lcGo E C fr i dt de (items.drop k) acc S, h, fun k r acc S hk hI => ?_, fun acc S hI => ?_⟩
  · have e : items.drop k = r :: items.drop (k + 1) := by
      obtain ⟨hl, e⟩ := List.getElem?_eq_some_iff.mp hk
      rw [List.drop_eq_getElem_cons hl, e]
    have hI' : lcGo E C fr i dt de (items.drop k) acc S := hI
    rw [e] at hI'
    exact hI'
  · have hI' : lcGo E C fr i dt de (items.drop items.length) acc S := hI
    rw [List.drop_length] at hI'
    exact hI'
/-- a dict's cell is frozen -/
theorem wkn_dic {p : Addr} {kvs : List (Key × R)} {S : SH} : Wkn (.val (.ref p)) (.dct p kvs :: S) (.dic (kvs.map fun x : Key × R => x.1) (kvs.map fun x : Key × R => x.2)) S := fun K F H L v o => by
  have e := o.val List.mem_cons_self
  subst e
  exact ((Ok.frzD (i := 0) o rfl)).sub (sub_cons tl_mem)
theorem wkf_dic {fr : Fr} {i : Nat} {p : Addr} {kvs : List (Key × R)} {S S1 : SH} (hi : fr[i]? = some (some (.val (.ref p)))) (hp : S.Perm (.dct p kvs :: S1)) : WkF fr S (fr.set i (some (.dic (kvs.map fun x : Key × R => x.1) (kvs.map fun x : Key × R => x.2)))) S1 := fun K F H σ L f o => by
  have o1 : Ok K H (.dct p kvs :: (S1 ++ F)) L := o.perm (hp.append_right F)
  obtain ⟨v, hv, hm⟩ := f.at_ i _ hi
  have ev : v = .ref p := o.val hm
  subst ev
  have o2 := Ok.frzD (i := 0) o1 rfl
  refine ⟨(.ref p, .dic (kvs.map fun x : Key × R => x.1) (kvs.map fun x : Key × R => x.2)) :: L, ?_, o2, tl_mem⟩
  have q := (f.mono (L' := (V.ref p, R.dic (kvs.map fun x : Key × R => x.1) (kvs.map fun x : Key × R => x.2)) :: L) tl_mem).set (v := .ref p) (r := .dic (kvs.map fun x : Key × R => x.1) (kvs.map fun x : Key × R => x.2)) List.mem_cons_self i
  rw [list_set_same hv] at q
  exact q
theorem wkf_sub {fr : Fr} {S S1 S' : SH} (hp : S.Perm S1) (hs : S'.Sublist S1) : WkF fr S fr S' := fun K F H σ L f o => ⟨L, f, (o.perm (hp.append_right F)).less (hs.append (List.Sublist.refl F)), fun _ h => h⟩
theorem WkF.trans {fr fr' fr'' : Fr} {S S' S'' : SH} (h : WkF fr S fr' S') (g : WkF fr' S' fr'' S'') : WkF fr S fr'' S'' := fun K F H σ L f o => by
  obtain ⟨L1, f1, o1, s1⟩ := h K F H σ L f o
  obtain ⟨L2, f2, o2, s2⟩ := g K F H σ L1 f1 o1
  exact ⟨L2, f2, o2, fun e he => s2 e (s1 e he)⟩
section
variable {X : Cx} {sts : List Stmt} {d1 d2 : DS}
theorem ss_or (h1 : PDSs X sts d1) (h2 : PDSs X sts d2) : PDSs X sts (fun D fr S => d1 D fr S ∨ d2 D fr S) := by
  obtain ⟨t1, p1, l1⟩ := h1.ex
  obtain ⟨t2, p2, l2⟩ := h2.ex
  refine ⟨fun D σ H => t1 D σ H ∨ t2 D σ H, ⟨fun pins s σ H D I h => ?_⟩, fun F H σ fr S L f o D D' e h => ?_⟩
  · rcases h with h | h
    · exact p1.run pins s σ H D I h
    · exact p2.run pins s σ H D I h
  · rcases h with h | h
    · exact .inl (l1 F H σ fr S L f o D D' e h)
    · exact .inr (l2 F H σ fr S L f o D D' e h)
end
/-! what is told is let go of, all its cells with it -/
section
variable {K : Fg} {A A' : Addr → Prop} {H : Hp} {T : SH}
mutual
theorem View.rep (s : Stp A A' H H) (hc : ∀ c ∈ T, CellOk K A H c) (hn : ∀ c ∈ T, ¬ A' c.pt) : ∀ {r : R} {d : PyData} {v : V}, View T r d → RepR K A H v r → Rep K A' H v d
  | _, _, _, .dat d, h => Rep.stp s h
  | _, _, v, .cel (p := p) hj q, h => by
    cases (show v = V.ref p from h)
    have hm := List.mem_of_getElem? hj
    obtain ⟨vs, e, qs⟩ := hc _ hm
    exact .lst e (hn _ hm) (Views.rep s hc hn q qs)
  | _, _, v, .tp (rs := rs) q, h => by
    obtain ⟨a, vs, rfl, e, qs⟩ := (show ∃ a vs, v = .ref a ∧ (H a = some (.tup vs) ∨ KTup K a vs) ∧ RepRl K _ H vs rs from h)
    exact .tup e (Views.rep s hc hn q qs.pair)
theorem Views.rep (s : Stp A A' H H) (hc : ∀ c ∈ T, CellOk K A H c) (hn : ∀ c ∈ T, ¬ A' c.pt) : ∀ {rs : List R} {ds : List PyData} {vs : List V}, Views T rs ds → RepRs K A H vs rs → RepAll K A' H vs ds
  | _, _, _, .nil, .nil => .nil
  | _, _, _, .cons v t, .cons r u => .cons (View.rep s hc hn v r) (Views.rep s hc hn t u)
end
end
theorem off_of_nodup {T S : SH} (h : ((T ++ S).map Cell.pt).Nodup) : ∀ c ∈ T, ¬ Av S c.pt := fun c hc z => by
  rw [List.map_append] at h
  exact (List.nodup_append.mp h).2.2 _ (List.mem_map_of_mem hc) _ z rfl
theorem wkn_view {T S0 : SH} {r : R} {d : PyData} (h : View T r d) : Wkn r (T ++ S0) (.dat d) S0 := fun K F H L v o => by
  have o0 : Ok K H (T ++ (S0 ++ F)) ((v, r) :: L) := by rw [← List.append_assoc]; exact o
  have hs : ∀ a, Av (S0 ++ F) a → Av (T ++ (S0 ++ F)) a := fun a z => by
    unfold Av at z ⊢
    rw [List.map_append]
    exact List.mem_append_right _ z
  have o1 : Ok K H (S0 ++ F) ((v, r) :: L) := o0.less (List.sublist_append_right T _)
  refine Ok.push (o1.sub tl_mem) ?_
  exact h.rep (stp_less hs) (fun c hc => o0.cells c (List.mem_append_left _ hc)) (off_of_nodup o0.nd) (o0.live _ List.mem_cons_self)
/-! a slice of a list, a cell or data -/
def fSlA (lo hi : Option Int) : F1 := fun a S C => ∃ (xs : List R) (ds : List PyData), lstR S a xs ∧ dats xs = some ds ∧ C (.dat (.list (cutD ds lo hi))) S
theorem sld_any {K : Fg} : SlD K (rSlAll K) fSlA := by
  intro F x lo hi a H S L C Q o hx hf q
  obtain ⟨xs, ds, hl, hd, h⟩ := hf
  obtain ⟨p, vs, rfl, e1, q1⟩ := lstR_at o (o.live _ hx) hl
  exact .inl ⟨_, _, rfl, SqL.of e1, fun p hp => q _ _ S _ (o.lst hp (cut_all (reps_all q1 hd) lo hi)) h⟩
theorem d_sliceA {X : Cx} {a : Expr} {da : DE} {dl dh : DO} {pos : Pos} {lo hi : Option Expr} {p2 : Pos} (ha : PD X a da) (hl : PDO X lo dl) (hh : PDO X hi dh) : PD X (.Subscript a (.Slice lo hi none p2) pos) (dSl fSlA da dl dh) := by
  obtain ⟨_, p, l⟩ := ha.ex
  obtain ⟨_, p2, l2⟩ := hl.ex
  obtain ⟨_, p3, l3⟩ := hh.ex
  exact ⟨_, pe_slice sl_all p p2 p3, lift_sl sld_any l l2 l3⟩
/-- a name of the frame, read through, its cells let go -/
theorem wkf_view {fr : Fr} {i : Nat} {r : R} {d : PyData} {T S S0 : SH} (hi : fr[i]? = some (some r)) (hp : S.Perm (T ++ S0)) (h : View T r d) : WkF fr S (fr.set i (some (.dat d))) S0 := fun K F H σ L f o => by
  obtain ⟨v, hv, hm⟩ := f.at_ i _ hi
  have o1 : OkF K F H (T ++ S0) L := o.perm (hp.append_right F)
  have o2 : OkF K F H (T ++ S0) ((v, r) :: L) := Ok.push o1 (o1.live _ hm)
  have o3 := wkn_view (S0 := S0) h K F H L v o2
  refine ⟨(v, .dat d) :: L, ?_, o3, tl_mem⟩
  have q := (f.mono (L' := (v, R.dat d) :: L) tl_mem).set (v := v) (r := .dat d) List.mem_cons_self i
  rw [list_set_same hv] at q
  exact q
/-! dict(d): a copy -/
def fDictC : FA := fun rs S C => match rs with
  | [.val (.ref q)] => ∃ (j : Nat) (kvs : List (Key × R)), S[j]? = some (.dct q kvs) ∧ ∀ p, C (.val (.ref p)) (.dct p kvs :: S)
  | [.dic ks rs] => ∀ p, C (.val (.ref p)) (.dct p (ks.zip rs) :: S)
  | _ => False
theorem cd_dictC {K : Fg} : CallD K (fun xs H Q => ∃ (a : Addr) (kvs : List (Key × V)), xs = [.ref a] ∧ Rd H a (.dK kvs) ∧ ∀ p, H p = none → Q (.ref p) (upd H p (.dK kvs))) fDictC := by
  intro F vs rs H S L C Q o lv hf q
  unfold fDictC at hf
  split at hf
  · rename_i q0
    cases lv with | cons m t =>
    cases t
    cases o.val m
    obtain ⟨j, kvs, hj, h⟩ := hf
    obtain ⟨kws, e1, q1⟩ := o.cells _ (at_split (in_app hj))
    refine ⟨q0, kws, rfl, .inl e1, fun p hp => ?_⟩
    have o2 : OkF K F (upd H p (.dK kws)) (.dct p kvs :: S) L := o.cell (c := .dct p kvs) (u := .dK kws) rfl hp ⟨kws, upd_same, Paired.mapP q1 fun _ _ z => ⟨z.1, z.2.stp (stp_cell rfl hp)⟩⟩
    exact q _ _ _ _ (Ok.push (r := .val (.ref p)) o2 rfl) (h p)
  · rename_i ks rs
    cases lv with | cons m t =>
    cases t
    rename_i v
    obtain ⟨a, vs, rfl, e1, _, el, q1⟩ := (show ∃ a vs, v = .ref a ∧ H a = some (.dK (ks.zip vs)) ∧ ¬ _ ∧ vs.length = ks.length ∧ RepRl K _ H vs rs from o.live _ m)
    refine ⟨a, _, rfl, .inl e1, fun p hp => ?_⟩
    have o2 : OkF K F (upd H p (.dK (ks.zip vs))) (.dct p (ks.zip rs) :: S) L := o.cell (c := .dct p (ks.zip rs)) (u := .dK (ks.zip vs)) rfl hp ⟨_, upd_same, Paired.mapP (zip_kv q1.pair) fun _ _ z => ⟨z.1, z.2.stp (stp_cell rfl hp)⟩⟩
    exact q _ _ _ _ (Ok.push (r := .val (.ref p)) o2 rfl) (hf p)
  · exact hf.elim
theorem d_dictC {X : Cx} {e : Expr} {dA : DA} {p pos : Pos} (hg : Gl X "dict") (hm : X.mg "dict" = none) (ha : PDA X [e] dA) (he : starEach [e] X.env = [(false, eval e X.env)] := by rfl) : PD X (.Call (.Name "dict" p) [e] [] pos) (dCB fDictC dA) := d_callTy call_dictD cd_dictC hg hm (by decide +kernel) ha (by decide) (by decide) he (by rfl)
end DL
set_option Elab.async false
set_option linter.all false
set_option maxRecDepth 100000
set_option maxHeartbeats 4000000
/-! The works as plain states, and how they lie in cells. -/
namespace PM
open PySem PySem.Spec PyProof.Rows L2 DL

structure MarkS where
  row : Int
  names : List Int
  taken : Int
  passed : Int
  letters : Int
structure InnerS where
  row : Int
  names : List Int
  taken : Int
  passed : Int
  letters : Int
  since : Int
  noted : Option Eff
  out : Bool
  again : Int
structure WorkS where
  rows : List PRow
  handed : List Int
  way : Str
  often : Int
  held : List (List Int)
  letters : List Int
  mark : MarkS
  jots : List Eff
  made : Int
  over : PyData
  inner : Option InnerS
  count : Int
abbrev backW : Str := "back"
abbrev onW : Str := "on"
/-! ### what the methods do -/
def putFile (held : List (List Int)) (f : Option Int) (pos : Int) (new : List Int) : List (List Int) := match f with
  | none => held
  | some f => held.set f.toNat ((held.getD f.toNat []).take pos.toNat ++ new)
def putName (ns : List Int) (e : Eff) : List Int := match e.name, e.number with
  | some n, some v => ns.set n.toNat v
  | _, _ => ns
def one (b : Bool) : Int := if b then 1 else 0
def takeOver (e : Eff) (i : InnerS) : InnerS := { i with names := putName i.names e, letters := i.letters + one e.letter.isSome, row := e.row, taken := e.taken, passed := i.passed + 1, since := i.since + 1 }
def told1 (w : Str) : PyData := .tuple [.str w]
def told2 (w : Str) (n : Int) : PyData := .tuple [.str w, .int n]
def keepW (st : WorkS) (i : InnerS) : PyData × WorkS := (told2 "marks" i.row, { st with mark := ⟨i.row, i.names, i.taken, i.passed, i.letters⟩, jots := [], made := 0, inner := some { i with since := 0 } })
def endsW (st : WorkS) (how : PyData) : PyData × WorkS := (.tuple [.str "ends", how], { st with over := how })
def sendsW (st : WorkS) (i : InnerS) (v : Int) : PyData × WorkS :=
  if i.letters < st.letters.length then (told2 "skips" i.row, { st with inner := some { i with out := true } })
  else (told2 "sends" i.row, { st with inner := some { i with out := true }, letters := st.letters ++ [v] })
def doesW (st : WorkS) (i : InnerS) (e : Eff) : PyData × WorkS :=
  (told2 "does" i.row, { st with held := putFile st.held e.file e.pos e.new, made := st.jots.length, inner := some (takeOver e { i with noted := none, out := false }), count := st.count + 1 })
def doneW (st : WorkS) (i : InnerS) (e : Eff) : PyData × WorkS := match e.letter, i.out with
  | some v, false => sendsW st i v
  | _, _ => doesW st i e
def isMark : PRow → Bool
  | .mark => true | _ => false
def changes : PRow → Bool
  | .add _ _ => true | .put _ _ _ => true | .cut _ _ => true | _ => false
def rowAt (rows : List PRow) (i : Int) : PRow := rows.getD i.toNat .mark
def effAt (st : WorkS) (i : InnerS) : Eff := effect (rowAt st.rows i.row) i.row i.taken i.names st.handed st.held
def beginW (st : WorkS) (i : InnerS) : PyData × WorkS :=
  if i.row = st.rows.length then endsW st (told1 "end")
  else if i.passed = 1000 then endsW st (told1 "long")
  else if 0 < st.often ∧ st.often ≤ i.since then keepW st i
  else match (effAt st i).fault with
    | some f => endsW st (.tuple [.str "fault", .str f])
    | none =>
      if isMark (rowAt st.rows i.row) = true then keepW { st with count := st.count + 1 } (takeOver (effAt st i) i)
      else if st.way = onW ∨ changes (rowAt st.rows i.row) = true then (told2 "notes" i.row, { st with jots := st.jots ++ [effAt st i], inner := some { i with noted := some (effAt st i) } })
      else doneW { st with inner := some { i with noted := some (effAt st i) } } { i with noted := some (effAt st i) } (effAt st i)
def mkInner (m : MarkS) (again : Int) : InnerS := ⟨m.row, m.names, m.taken, m.passed, m.letters, 0, none, false, again⟩
def riseW (st : WorkS) : PyData × WorkS := match st.jots.getLast? with
  | some e => if st.way = backW then (told2 "back" (e.file.getD 0), { st with jots := st.jots.dropLast, held := putFile st.held e.file e.pos e.old })
    else (told2 "rises" st.mark.row, { st with inner := some (mkInner st.mark st.jots.length) })
  | none => (told2 "rises" st.mark.row, { st with inner := some (mkInner st.mark st.jots.length) })
def goW (st : WorkS) (i : InnerS) : PyData × WorkS :=
  let place := (st.jots.length : Int) - i.again
  let e := st.jots.getD place.toNat (eff0 0 0)
  if place = st.made then (told2 "again" i.row, { st with inner := some { i with again := i.again - 1, noted := some e } })
  else (told2 "again" i.row, { st with inner := some (takeOver e { i with again := i.again - 1 }) })
def isOver (st : WorkS) : Bool := match st.over with
  | .none => false
  | _ => true
def moveW (st : WorkS) : PyData × WorkS :=
  if isOver st = true then (told1 "rests", st) else match st.inner with
    | none => riseW st
    | some i => if 0 < i.again then goW st i else match i.noted with
      | some e => doneW st i e
      | none => beginW st i
def fallW (st : WorkS) : WorkS := { st with inner := none }
def newW (p : Prog) (hs : List Int) (way : Str) (often : Int) : WorkS :=
  { rows := p.rows, handed := hs, way := way, often := often, held := List.replicate p.files.toNat [], letters := [], mark := ⟨0, List.replicate p.names.toNat 0, 0, 0, 0⟩, jots := [], made := 0, over := .none,
    inner := some (mkInner ⟨0, List.replicate p.names.toNat 0, 0, 0, 0⟩ 0), count := 0 }
/-! ### what is known of states -/
def NN (ns : List Int) : Prop := ∀ n ∈ ns, 0 ≤ n
structure EffOk (nN nF hl many : Nat) (e : Eff) : Prop where
  row : 0 ≤ e.row ∧ e.row ≤ many
  taken : 0 ≤ e.taken ∧ e.taken ≤ hl
  name : ∀ n, e.name = some n → NumOk n nN ∧ ∃ v, e.number = some v ∧ 0 ≤ v
  file : ∀ f, e.file = some f → NumOk f nF
  pos : 0 ≤ e.pos
  old : e.pos + e.old.length ≤ 40 ∧ NN e.old
  new : e.pos + e.new.length ≤ 40 ∧ NN e.new
structure NamesOk (nN : Nat) (ns : List Int) : Prop where
  len : ns.length = nN
  nn : NN ns
structure MarkOk (nN hl many : Nat) (m : MarkS) : Prop where
  row : 0 ≤ m.row ∧ m.row ≤ many
  names : NamesOk nN m.names
  taken : 0 ≤ m.taken ∧ m.taken ≤ hl
structure InnerOk (nN nF hl many jl : Nat) (i : InnerS) : Prop where
  row : 0 ≤ i.row ∧ i.row ≤ many
  names : NamesOk nN i.names
  taken : 0 ≤ i.taken ∧ i.taken ≤ hl
  noted : ∀ e, i.noted = some e → EffOk nN nF hl many e
  again : 0 ≤ i.again ∧ i.again ≤ jl
structure WorkOk (nN nF : Nat) (st : WorkS) : Prop where
  rows : ∀ r ∈ st.rows, r.ok nN nF st.rows.length
  handed : NN st.handed
  held : st.held.length = nF ∧ ∀ f ∈ st.held, f.length ≤ 40 ∧ NN f
  mark : MarkOk nN st.handed.length st.rows.length st.mark
  jots : ∀ e ∈ st.jots, EffOk nN nF st.handed.length st.rows.length e
  back : st.way = backW → ∀ e ∈ st.jots, ∃ f, e.file = some f
  inner : ∀ i, st.inner = some i → InnerOk nN nF st.handed.length st.rows.length st.jots.length i
def filesD (held : List (List Int)) : PyData := .list (held.map lstI)
/-! ### how a work lies in cells -/
structure Cs where
  E : Addr
  M : Addr
  I : Addr
  W : Addr
structure As where
  h : Addr
  l : Addr
  j : Addr
  i : Addr
  n : Addr
def effR (c : Cs) (e : Eff) : R := .obj c.E FE e.rs
def notedR (c : Cs) : Option Eff → R
  | none => .dat .none
  | some e => effR c e
def MarkS.rs (m : MarkS) : List R := [.dat (.int m.row), .dat (tupI m.names), .dat (.int m.taken), .dat (.int m.passed), .dat (.int m.letters)]
def InnerS.rs (c : Cs) (n : Addr) (i : InnerS) : List R := [.dat (.int i.row), .val (.ref n), .dat (.int i.taken), .dat (.int i.passed), .dat (.int i.letters), .dat (.int i.since), notedR c i.noted, .dat (.bool i.out), .dat (.int i.again)]
def inR (a : As) : Option InnerS → R
  | none => .dat .none
  | some _ => .val (.ref a.i)
def inC (c : Cs) (a : As) : Option InnerS → SH
  | none => []
  | some i => [.ins a.i c.I FI (i.rs c a.n), .lst a.n (iR i.names)]
def WorkS.rs (c : Cs) (a : As) (st : WorkS) : List R := [.dat (.tuple (st.rows.map PRow.dat)), .dat (lstI st.handed), .dat (.str st.way), .dat (.int st.often), .val (.ref a.h), .val (.ref a.l), .obj c.M FM st.mark.rs, .val (.ref a.j), .dat (.int st.made), .dat st.over, inR a st.inner, .dat (.int st.count)]
def wC (c : Cs) (w : Addr) (a : As) (st : WorkS) : SH := [.ins w c.W FW (st.rs c a), .lst a.h (fileR st.held), .lst a.l (iR st.letters), .lst a.j (st.jots.map (effR c))] ++ inC c a st.inner
/-- a method's promise: what it tells, what it leaves -/
def spM (c : Cs) (f : WorkS → PyData × WorkS) (ok : WorkS → Prop) : SpD := fun rs S C => ∃ (w : Addr) (a : As) (st : WorkS), rs = [.val (.ref w)] ∧ S = wC c w a st ∧ ok st ∧ ∀ a', C (.dat (f st).1) (wC c w a' (f st).2)
theorem ixN_of {l : Nat} {n : Int} (h : NumOk n l) : ixN l n = some n.toNat := by
  unfold ixN
  rw [if_pos h.1, if_pos h.2]
/-! ### the frame -/
def framed (sp : SpD) : SpD := fun rs S C => ∃ S0 T, S.Perm (S0 ++ T) ∧ sp rs S0 fun r S' => C r (S' ++ T)
theorem toSp_frame {K : Fg} {n : Nat} {sp : SpD} : ∀ vs H Q E, toSp K n (framed sp) vs H Q E → toSp K n sp vs H Q E := fun vs H Q E ⟨hl, F, S, L, rs, C, o, lv, ⟨S0, T, hp, hs⟩, q⟩ =>
  ⟨hl, T ++ F, S0, L, rs, fun r S' => C r (S' ++ T), (by
    have o2 := o.perm (hp.append_right F)
    rw [List.append_assoc] at o2
    exact o2), lv, hs, fun v r S' H' o' h' => q v r (S' ++ T) H' (by
    have o3 : Ok K H' (S' ++ (T ++ F)) ((v, r) :: L) := o'
    rw [← List.append_assoc] at o3
    exact o3) h'⟩
section
variable {P : Program} {w : World} {K : Fg} {mg : Str → Option Value} {base : Heap} {C : Addr} {m x : Str} {k n : Nat} {sp : SpD}
theorem frameM (d : DefM P w K mg base C m k n sp) : DefM P w K mg base C m k n (framed sp) := by
  obtain ⟨f, fd, ps, a, b⟩ := d.ex
  exact ⟨f, fd, ps, a.imp toSp_frame, b⟩
theorem frameI (d : DefI P w K mg base x C k n sp) : DefI P w K mg base x C k n (framed sp) := by
  obtain ⟨f, fd, ps, a, b⟩ := d.ex
  exact ⟨f, fd, ps, a.imp toSp_frame, b⟩
theorem frameF (d : Def P w K mg base x k n sp) : Def P w K mg base x k n (framed sp) := by
  obtain ⟨f, fd, ps, a, b⟩ := d.ex
  exact ⟨f, fd, ps, a.imp toSp_frame, b⟩
end
end PM
set_option Elab.async false
set_option linter.all false
set_option maxRecDepth 100000
set_option maxHeartbeats 4000000
namespace K19
open PySem PySem.Spec PyProof.Rows L2 DL PM TL
section
variable {P : Program} {w : World} {K : Fg} {mg : Str → Option Value} {base : Heap}
/-! read -/
def spRead : SpD := fun rs S C => ∃ p : Prog, rs = [.dat (.str p.text)] ∧ p.ok ∧ ∀ S', C (.dat p.dat) S'
abbrev s_read : Stmt := topS 27
abbrev N_read : List Str := ["text", "rows", "words", "head", "found", "number", "row", "told", "program", "word"]
theorem sc_read : FnScope N_read ["text"] (defScope s_read) := ⟨rfl, rfl, rfl, by decide +kernel, rfl, by decide +kernel, by decide +kernel⟩
theorem ok_read {k : Nat} (F : FunAt K mg "read" s_read ["text"]) (B : Blt mg) (D1 : Def P w K mg base "number_of" 1 1 spNumberOf) (D2 : Def P w K mg base "row_of" 7 1 (framed spRowOf)) (D3 : Def P w K mg base "need_program" 7 1 spNeedProgram) : Def P w K mg base "read" (k + 9) 1 spRead := by
  refine okF F sc_read rfl fun cdv A outer s H E f hr => ⟨_,
    (ss_cons (s_set (i := 1) sc_read.nd (d_split (dv 0) d_str))
      (ss_cons (s_set (i := 2) sc_read.nd (d_split (d_ix (hu_of hr) (dv 1) d_int) d_str))
      (ss_cons (s_lc (j := 3) sc_read.nd (i := 9) (i_src (d_slice (dv 2) (o_some d_int) o_none)) (blkOk_by (N := N_read) (sc := defScope s_read) (own := [("word", 9)]) (by decide +kernel)) (fun _ _ _ _ _ => pg_name (i := 9) sc_read.nd rfl (Or.inl rfl)) (fun _ _ _ _ _ => ts_nil) (fun _ _ _ _ _ => (d_callF D1 (hr.mono (by omega)) (by rfl) (a_cons (dv 9) a_nil))))
      (ss_cons (s_if (PDW.pt (w_or (t_ne hr.units (d_ix (hu_of hr) (dv 2) d_int) d_str) (w_or (t_ne hr.units (d_len (by rfl) B.len (a_cons (dv 3) a_nil)) d_int) (w_or1 (t_in d_non (dv 3))))))
      (ss_one s_never)
      ss_nil)
      (ss_cons (s_set (i := 4) sc_read.nd (d_lstC a_nil))
      (ss_cons (s_for (i_enum1 (by rfl) B.enumerate (a_cons (d_slice (dv 1) (o_some d_int) o_none) (a_cons d_int a_nil))) (g_tup (gs_cons (g_name (i := 5) sc_read.nd) (gs_cons (g_name (i := 6) sc_read.nd) gs_nil)))
      (ss_cons (s_set (i := 7) sc_read.nd (d_callF D2 (hr.mono (by omega)) (by rfl) (a_cons (d_split (dv 6) d_str) a_nil)))
      (ss_cons (s_if (t_isN (dv 7) d_non)
      (ss_one s_never)
      ss_nil)
      (ss_one (s_expr (d_appT (dv 4) (dv 7)))))))
      (ss_cons (s_set (i := 8) sc_read.nd (d_tup (a_cons (d_ix (hu_of hr) (dv 3) d_int) (a_cons (d_ix (hu_of hr) (dv 3) d_int) (a_cons (d_tuple (by rfl) B.tuple (a_cons (dv 4) a_nil)) a_nil)))))
      (ss_cons (s_expr (d_callF D3 (hr.mono (by omega)) (by rfl) (a_cons (dv 8) a_nil)))
      (ss_one (s_ret (dv 8)))))))))))
    , ?_⟩
  intro rs S C hl h
  obtain ⟨p, rfl, ok, h⟩ := h
  have hn := ok.n
  have hf := ok.f
  have hl60 := ok.l
  have tlen := Prog.textLen ok
  have nl1 : ((Str.ofString "\n").length == 0) = false := by decide +kernel
  have bl1 : ((Str.ofString " ").length == 0) = false := by decide +kernel
  have hlen := Prog.headLen ok
  refine ⟨_, rfl, nl1, by omega, ?_⟩
  rw [show Txt.split p.text (Str.ofString "\n") = p.lines from Prog.textSplit ok]
  refine ⟨_, rfl, _, at0, bl1, by omega, ?_⟩
  rw [show Txt.split (headS p) (Str.ofString " ") = [("work" : Str), numS p.names, numS p.files] from Prog.headSplit ok]
  refine ⟨_, rfl, lc_unroll ?_⟩
  rw [show DL.cutD (strD [("work" : Str), numS p.names, numS p.files]) (some 1) none = [PyData.str (numS p.names), PyData.str (numS p.files)] from by rw [cut_from _ (by decide)]; rfl]
  refine ⟨_, rfl, rfl, p.names, rfl, by omega, by omega, by simp, _, rfl, rfl, p.files, rfl, by omega, by omega, by simp, _, rfl, ?_⟩
  refine ⟨_, rfl, _, at0, rfl, iteFb rfl ⟨_, rfl, rfl, iteFb rfl ⟨_, rfl, rfl, rfl, iteFb rfl ?_⟩⟩⟩
  refine ⟨le_ok rfl, fun q => ?_⟩
  refine ⟨_, rfl, fun i fr S' => ∃ (T : SH) (a b c : Option R), fr = [some (.dat (.str p.text)), some (.dat (.list (strD p.lines))), some (.dat (.list (strD [("work" : Str), numS p.names, numS p.files]))), some (.dat (.list [.int p.names, .int p.files])), some (.val (.ref q)), a, b, c, none, none] ∧ S' = T ++ .lst q (((p.rows.take i).map PRow.dat).map R.dat) :: S, ⟨[], none, none, none, rfl, rfl⟩, ?_, ?_⟩
  · rintro i rr fr S' hi ⟨T, a, b, c, rfl, rfl⟩
    obtain ⟨d, hd, rfl⟩ := enum1_get hi
    rw [cut_from _ (by decide)] at hd
    replace hd : ((strD (p.rows.map PRow.text)))[i]? = some d := hd
    unfold strD at hd
    rw [List.getElem?_map, List.getElem?_map] at hd
    cases hx : p.rows[i]? with
    | none => rw [hx] at hd; cases hd
    | some r =>
      rw [hx] at hd
      cases hd
      have hr := List.mem_of_getElem? hx
      have hlt := (List.getElem?_eq_some_iff.mp hx).1
      have rl := Prog.rowT ok hr
      refine ⟨rfl, rfl, ?_⟩
      refine ⟨_, rfl, bl1, by omega, rfl, [], _, .refl _, p, r, ?_, ok, hr, fun S2 => ?_⟩
      · rw [show Txt.split r.text (Str.ofString " ") = r.words from Prog.rowSplit ok hr]
      refine ⟨_, rfl, ?_⟩
      have e2 : S2 ++ (T ++ Cell.lst q (((p.rows.take i).map PRow.dat).map R.dat) :: S) = (S2 ++ T) ++ Cell.lst q (((p.rows.take i).map PRow.dat).map R.dat) :: S := by rw [List.append_assoc]
      have eg : (S2 ++ (T ++ Cell.lst q (((p.rows.take i).map PRow.dat).map R.dat) :: S))[(S2 ++ T).length]? = some (Cell.lst q (((p.rows.take i).map PRow.dat).map R.dat)) := by
        rw [e2]
        exact DL.mid_get _ _
      refine ⟨_, rfl, ⟨(S2 ++ T).length, _, eg⟩, _, rfl, (S2 ++ T).length, _, eg, ?_, ?_⟩
      · simp only [List.length_map, List.length_take]
        omega
      refine ⟨S2 ++ T, _, _, _, rfl, ?_⟩
      show (S2 ++ (T ++ Cell.lst q (((p.rows.take i).map PRow.dat).map R.dat) :: S)).set (S2 ++ T).length (Cell.lst q ((((p.rows.take i).map PRow.dat).map R.dat) ++ [R.dat r.dat])) = (S2 ++ T) ++ Cell.lst q (((p.rows.take (i + 1)).map PRow.dat).map R.dat) :: S
      rw [e2, List.set_append_right _ _ (Nat.le_refl _), Nat.sub_self, List.take_add_one, hx]
      simp
  · rintro fr S' ⟨T, a, b, c, rfl, rfl⟩
    have en : (enumD1 (DL.cutD (strD p.lines) (some 1) none)).length = p.rows.length := by
      rw [cut_from _ (by decide)]
      unfold enumD1 strD Prog.lines
      simp
    rw [en, List.take_length]
    refine ⟨_, rfl, _, at0, _, rfl, _, rfl, _, rfl, T.length, _, _, mid_get _ _, dats_map _, le_ok rfl, _, rfl, ?_⟩
    refine ⟨_, rfl, rfl, p, rfl, ok, ?_⟩
    exact ⟨_, rfl, h _⟩
end
end K19
set_option Elab.async false
set_option linter.all false
set_option maxRecDepth 100000
set_option maxHeartbeats 4000000
namespace K19
open PySem PySem.Spec PyProof.Rows L2 DL PM
local macro_rules | `(tactic| walk_at "dl") => `(tactic| repeat (first | refine ⟨_, rfl, ?_⟩ | refine .inl ⟨_, _, _, by assumption, rfl, ?_⟩ | refine ⟨rfl, _, rfl, ?_⟩ | refine iteT ?_ | refine iteF ?_))
section
variable {P : Program} {w : World} {K : Fg} {mg : Str → Option Value} {base : Heap}
/-! _law_next -/
abbrev s__law_next : Stmt := topS 30
abbrev N__law_next : List Str := ["_law_dice_here", "_law_many", "_law_found", "_law_cell"]
theorem sc__law_next : FnScope N__law_next ["_law_dice_here", "_law_many"] (defScope s__law_next) := ⟨rfl, rfl, rfl, by decide +kernel, rfl, by decide +kernel, by decide +kernel⟩
theorem ok_next0 {k : Nat} (F : FunAt K mg "_law_next" s__law_next ["_law_dice_here", "_law_many"]) (B : Blt mg) : Def P w K mg base "_law_next" (k + 1) 2 spNext0 := by
  refine okF F sc__law_next rfl fun cdv A outer s H E f hr => ⟨_,
    (ss_cons (s_if (t_gt (d_ix (hu_of hr) (dv 0) d_int) d_int)
      (ss_cons (s_set (i := 2) sc__law_next.nd (d_mod (d_ix (hu_of hr) (dv 0) d_int) (dv 1)))
      (ss_cons (s_asg (d_fdiv (d_ix (hu_of hr) (dv 0) d_int) (dv 1)) (g_sub (hu_of hr) (dv 0) d_int))
      (ss_one (s_ret (dv 2)))))
      ss_nil)
      (ss_cons (s_asg (d_add (d_ix (hu_of hr) (dv 0) d_int) d_int) (g_sub (hu_of hr) (dv 0) d_int))
      (ss_cons (s_if (t_le (d_ix (hu_of hr) (dv 0) d_int) (d_len (by rfl) B.len (a_cons (d_ix (hu_of hr) (dv 0) d_int) a_nil)))
      (ss_cons (s_set (i := 3) sc__law_next.nd (d_ix (hu_of hr) (d_ix (hu_of hr) (dv 0) d_int) (d_sub (d_ix (hu_of hr) (dv 0) d_int) d_int)))
      (ss_cons (s_asg (d_if (t_ge (dv 3) (d_pow d_int d_int)) (d_fdiv (dv 3) (dv 1)) d_int) (g_sub (hu_of hr) (dv 0) d_int))
      (ss_one (s_ret (d_mod (dv 3) (dv 1))))))
      ss_nil)
      (ss_cons (s_asg (d_mod (d_mul (d_ix (hu_of hr) (dv 0) d_int) d_int) d_int) (g_sub (hu_of hr) (dv 0) d_int))
      (ss_one (s_ret (d_mod (d_fdiv (d_ix (hu_of hr) (dv 0) d_int) d_int) (dv 1))))))))
    , ?_⟩
  intro rs S C hl h
  obtain ⟨D, n, j, xs, rfl, hj, ⟨ns, at_, mixed, left, rfl, h0, h1, h2⟩, hn, hn2, q⟩ := h
  walk_at "dl"
  refine ite2d (fun hc => ?_) (fun hc => ?_)
  · walk_at "dl"
    refine ⟨hn, ?_⟩
    walk_at "dl"
    refine ⟨cdiv hn hn2, ?_⟩
    walk_at "dl"
    exact q _ _ (Int.emod_nonneg _ (by omega)) (Int.emod_lt_of_pos _ hn) ⟨ns, at_, mixed, _, rfl, h0, h1, h2⟩
  · walk_at "dl"
    have hj1 := getset hj (.lst D [.scr ns, .dat (.int (at_ + 1)), .dat (.int mixed), .dat (.int left)])
    walk_at "dl"
    refine ite2d (fun hc => ?_) (fun hc => ?_)
    · walk_at "dl"
      obtain ⟨z, hz⟩ : ∃ z, atI ns (at_ + 1 - 1) = some z := by
        have e : at_ + 1 - 1 = ((at_.toNat : Nat) : Int) := by omega
        rw [e]
        exact ⟨_, atI_nat (List.getElem?_eq_getElem (by omega))⟩
      refine ⟨z, hz, ?_⟩
      walk_at "dl"
      refine ⟨⟨by decide, by decide, by decide⟩, ?_⟩
      refine ite2d (fun hc => ?_) (fun hc => ?_)
      · walk_at "dl"
        refine ⟨cdiv hn hn2, ?_⟩
        walk_at "dl"
        refine ⟨hn, ?_⟩
        rw [List.set_set]
        exact q _ _ (Int.emod_nonneg _ (by omega)) (Int.emod_lt_of_pos _ hn) ⟨ns, at_ + 1, mixed, _, rfl, by omega, h1, h2⟩
      · walk_at "dl"
        refine ⟨hn, ?_⟩
        rw [List.set_set]
        exact q _ _ (Int.emod_nonneg _ (by omega)) (Int.emod_lt_of_pos _ hn) ⟨ns, at_ + 1, mixed, _, rfl, by omega, h1, h2⟩
    · walk_at "dl"
      refine ⟨cmul (by omega) (by omega) (by decide) (by decide), ?_⟩
      refine ⟨(by show (0 : Int) < 2147483647; decide), ?_⟩
      walk_at "dl"
      have hj2 := getset hj1 (.lst D [.scr ns, .dat (.int (at_ + 1)), .dat (.int (mixed * 48271 % 2147483647)), .dat (.int left)])
      walk_at "dl"
      refine ⟨cdiv (by decide) (by decide), ?_⟩
      walk_at "dl"
      refine ⟨hn, ?_⟩
      rw [List.set_set]
      exact q _ _ (Int.emod_nonneg _ (by omega)) (Int.emod_lt_of_pos _ hn) ⟨ns, at_ + 1, _, _, rfl, by omega, Int.emod_nonneg _ (by decide), Int.emod_lt_of_pos _ (by decide)⟩
theorem ok_next {k : Nat} (F : FunAt K mg "_law_next" s__law_next ["_law_dice_here", "_law_many"]) (B : Blt mg) : Def P w K mg base "_law_next" (k + 1) 2 spNext := next_of (ok_next0 F B)
/-! _law_dice -/
def spDice0 : SpD := fun rs S C => ∃ ns : List Int, rs = [.scr ns] ∧ ns.length ≤ 1000 ∧ ∀ p xs, DiceOk xs → C (.val (.ref p)) (.lst p xs :: S)
def spDice : SpD := fun rs S C => ∃ ns : List Int, rs = [.scr ns] ∧ ns.length ≤ 1000 ∧ ∀ p, C (.val (.ref p)) (dice p :: S)
theorem dice_of {x : Str} {k : Nat} (d : Def P w K mg base x k 1 spDice0) : Def P w K mg base x k 1 spDice := by
  obtain ⟨f, fd, ps, a, b⟩ := d.ex
  refine ⟨f, fd, ps, a.imp fun vs H Q E h => ?_, b⟩
  obtain ⟨hl, F, S, L, rs, C, o, lv, ⟨ns, rfl, hn, q⟩, fin⟩ := h
  refine ⟨hl, F, S, L, _, fun r S' => ∃ p xs, r = .val (.ref p) ∧ DiceOk xs ∧ S' = .lst p xs :: S, o, lv, ⟨ns, rfl, hn, fun p xs hx => ⟨p, xs, rfl, hx, rfl⟩⟩, ?_⟩
  rintro v r S' H' o' ⟨p, xs, rfl, hx, rfl⟩
  have o3 := o'.pack (P := DiceOk) (i := 0) rfl hx
  exact fin v _ (dice p :: S) H' o3 (q p)
abbrev s__law_dice : Stmt := topS 29
abbrev N__law_dice : List Str := ["_law_script", "_law_mixed", "_law_cell"]
theorem sc__law_dice : FnScope N__law_dice ["_law_script"] (defScope s__law_dice) := ⟨rfl, rfl, rfl, by decide +kernel, rfl, by decide +kernel, by decide +kernel⟩
theorem ok_dice {k : Nat} (F : FunAt K mg "_law_dice" s__law_dice ["_law_script"]) (B : Blt mg) : Def P w K mg base "_law_dice" (k + 1) 1 spDice := by
  refine dice_of (okF F sc__law_dice rfl fun cdv A outer s H E f hr => ⟨_,
    (ss_cons (s_set (i := 1) sc__law_dice.nd d_int)
      (ss_cons (s_for (i_src (dv 0)) (g_name (i := 2) sc__law_dice.nd)
      (ss_one (s_set (i := 1) sc__law_dice.nd (d_mod (d_add (d_add (d_mul (dv 1) d_int) (d_mul (d_mod (dv 2) d_int) d_int)) d_int) d_int))))
      (ss_one (s_ret (d_lstC (a_cons (dv 0) (a_cons d_int (a_cons (d_mul (dv 1) (d_intF (by rfl) B.int (a_cons (d_gt (d_len (by rfl) B.len (a_cons (dv 0) a_nil)) d_int) a_nil))) (a_cons d_int a_nil)))))))))
    , ?_⟩)
  intro rs S C hl h
  obtain ⟨ns, rfl, hn, h⟩ := h
  refine ⟨_, rfl, fun i fr S' => S' = S ∧ ∃ (x : Int) (a : Option R), fr = [some (.scr ns), some (.dat (.int x)), a] ∧ 0 ≤ x ∧ x < 2147483647, ⟨rfl, 0, none, rfl, by decide, by decide⟩, ?_, ?_⟩
  · rintro i r fr S' hi ⟨rfl, x, a, rfl, h0, h1⟩
    obtain ⟨z, rfl⟩ : ∃ z, r = .dat (.int z) := by
      rw [List.getElem?_map] at hi
      cases e : ns[i]? with
      | none => rw [e] at hi; cases hi
      | some n => rw [e] at hi; exact ⟨n, (Option.some.inj hi).symm⟩
    have hz0 := Int.emod_nonneg z (show (2147483647 : Int) ≠ 0 by decide)
    have hz1 := Int.emod_lt_of_pos z (show (0 : Int) < 2147483647 by decide)
    refine ⟨_, rfl, cmul (by omega) (by omega) (by decide) (by decide), _, rfl, (by show (0 : Int) < 2147483647; decide), cmul (by omega) (by omega) (by decide) (by decide), (by show (0 : Int) < 2147483647; decide), ?_⟩
    exact ⟨rfl, _, _, rfl, Int.emod_nonneg _ (by decide), Int.emod_lt_of_pos _ (by decide)⟩
  · rintro fr S' ⟨rfl, x, a, rfl, h0, h1⟩
    refine ⟨_, rfl, _, rfl, _, rfl, cmul (by omega) (by omega) ?_ ?_, by simp, fun p => h p _ ⟨ns, 0, _, 0, rfl, by decide, ?_, ?_⟩⟩
    all_goals (by_cases hc : (2 : Int) < ns.length <;> simp [hc] <;> omega)
/-! _law_any_part -/
def spAnyPart (n : Nat) : SpD := fun rs S C => ∃ (D : Addr) (names : Int) (deep j : Nat), rs = [.val (.ref D), .dat (.int names), .dat (.int deep)] ∧ S[j]? = some (dice D) ∧ 1 ≤ names ∧ names ≤ 8 ∧ 1 ≤ deep ∧ deep ≤ n ∧ ∀ p : Part, p.ok names → p.deep ≤ deep → C (.dat p.dat) S
abbrev s__law_any_part : Stmt := topS 32
abbrev N__law_any_part : List Str := ["_law_d", "_law_names", "_law_deep", "_law_way", "_law_one"]
theorem sc__law_any_part : FnScope N__law_any_part ["_law_d", "_law_names", "_law_deep"] (defScope s__law_any_part) := ⟨rfl, rfl, rfl, by decide +kernel, rfl, by decide +kernel, by decide +kernel⟩
theorem any_part_body {n k : Nat} {spR : SpD} (F : FunAt K mg "_law_any_part" s__law_any_part ["_law_d", "_law_names", "_law_deep"]) (B : Blt mg) (D0 : Def P w K mg base "_law_any_part" (k + 1) 3 spR) (D1 : Def P w K mg base "_law_next" 1 2 spNext) (hR : ∀ m rs S C, m + 1 = n → spAnyPart m rs S C → spR rs S C) : Def P w K mg base "_law_any_part" (k + 2) 3 (spAnyPart n) := by
  refine okF F sc__law_any_part rfl fun cdv A outer s H E f hr => ⟨_,
    (ss_cons (s_set (i := 3) sc__law_any_part.nd (d_callF D1 (hr.mono (by omega)) (by rfl) (a_cons (dv 0) (a_cons d_int a_nil))))
      (ss_cons (s_if (PDW.pt (w_and (t_gt (dv 2) d_int) (w_and1 (t_lt (dv 3) d_int))))
      (ss_cons (s_set (i := 4) sc__law_any_part.nd (d_callF D0 (hr.mono (by omega)) (by rfl) (a_cons (dv 0) (a_cons (dv 1) (a_cons (d_sub (dv 2) d_int) a_nil)))))
      (ss_one (s_ret (d_tup (a_cons (d_ix (hu_of hr) (d_lst (a_cons d_str (a_cons d_str (a_cons d_str a_nil)))) (d_callF D1 (hr.mono (by omega)) (by rfl) (a_cons (dv 0) (a_cons d_int a_nil)))) (a_cons (dv 4) (a_cons (d_callF D0 (hr.mono (by omega)) (by rfl) (a_cons (dv 0) (a_cons (dv 1) (a_cons (d_sub (dv 2) d_int) a_nil)))) a_nil)))))))
      ss_nil)
      (ss_cons (s_if (t_lt (dv 3) d_int)
      (ss_one (s_ret (d_tup (a_cons d_str (a_cons (d_callF D1 (hr.mono (by omega)) (by rfl) (a_cons (dv 0) (a_cons (dv 1) a_nil))) a_nil)))))
      ss_nil)
      (ss_one (s_ret (d_tup (a_cons d_str (a_cons (d_ix (hu_of hr) (d_lst (a_cons (d_callF D1 (hr.mono (by omega)) (by rfl) (a_cons (dv 0) (a_cons d_int a_nil))) (a_cons (d_callF D1 (hr.mono (by omega)) (by rfl) (a_cons (dv 0) (a_cons d_int a_nil))) a_nil))) (d_mul (d_mod (dv 3) d_int) (d_callF D1 (hr.mono (by omega)) (by rfl) (a_cons (dv 0) (a_cons d_int a_nil))))) a_nil))))))))
    , ?_⟩
  intro rs S C hl h
  obtain ⟨D, names, deep, j, rfl, hj, hn1, hn8, hd1, hdn, h⟩ := h
  refine dnext (D := D) (j := j) rfl hj (by decide) (by decide) fun way w0 w1 => ?_
  have rest : way < 6 → sSeq (sIf (dTest (dOp fLt (dVar 3) (dC (.dat (.int 4))))) (sRet (dTup (dCons (dC (.dat (.str "name"))) (dCons (dCall 2 spNext (dCons (dVar 0) (dCons (dVar 1) dNil))) dNil)))) sNext)
      (sRet (dTup (dCons (dC (.dat (.str "num"))) (dCons (dOp fIx (dLst (dCons (dCall 2 spNext (dCons (dVar 0) (dCons (dC (.dat (.int 4))) dNil))) (dCons (dCall 2 spNext (dCons (dVar 0) (dCons (dC (.dat (.int 10007))) dNil))) dNil))) (dOp fMul (dOp (fI (fun _ j => 0 < j) fun i j => .int (i % j)) (dVar 3) (dC (.dat (.int 2)))) (dCall 2 spNext (dCons (dVar 0) (dCons (dC (.dat (.int 2))) dNil))))) dNil))))
      { nx := fun _ S => C (.dat .none) S, rt := C } [some (.val (.ref D)), some (.dat (.int names)), some (.dat (.int deep)), some (.dat (.int way)), none] S := by
    intro _
    refine ⟨_, rfl, ite2d (fun hb => ?_) (fun hb => ?_)⟩
    · refine dnextV (D := D) (j := j) (m := 1) rfl rfl hj (by omega) (by omega) fun x x0 x1 => ?_
      exact ⟨by simp, _, rfl, h (.name x) ⟨x0, x1⟩ hd1⟩
    · refine dnext (D := D) (j := j) rfl hj (by decide) (by decide) fun a a0 a1 => ?_
      refine dnext (D := D) (j := j) rfl hj (by decide) (by decide) fun b b0 b1 => ?_
      refine ⟨by simp, _, rfl, _, rfl, (by show (0 : Int) < 2; decide), ?_⟩
      refine dnext (D := D) (j := j) rfl hj (by decide) (by decide) fun z z0 z1 => ?_
      have m0 := Int.emod_nonneg way (show (2 : Int) ≠ 0 by decide)
      have m1 := Int.emod_lt_of_pos way (show (0 : Int) < 2 by decide)
      refine ⟨cmul (by omega) (by omega) (by omega) (by omega), ?_⟩
      have hi : 0 ≤ way % 2 * z ∧ way % 2 * z < 2 := by
        rcases (show way % 2 = 0 ∨ way % 2 = 1 by omega) with e | e <;> rw [e] <;> omega
      obtain ⟨d, e1, md⟩ := pick (ds := [PyData.int a, PyData.int b]) hi.1 hi.2
      refine ⟨d, e1, by simp, ?_⟩
      rcases List.mem_cons.mp md with rfl | md
      · exact ⟨_, rfl, h (.num a) ⟨a0, by omega⟩ hd1⟩
      · cases List.mem_singleton.mp md
        exact ⟨_, rfl, h (.num b) ⟨b0, by omega⟩ hd1⟩
  refine ⟨_, rfl, ite2d (fun hb => ?_) (fun hb => ?_)⟩
  · refine ⟨_, rfl, ite2d (fun hb2 => ?_) (fun hb2 => ?_)⟩
    · obtain ⟨m, hm⟩ : ∃ m, m + 1 = n := ⟨n - 1, by omega⟩
      obtain ⟨dp, rfl⟩ : ∃ dp, deep = dp + 1 := ⟨deep - 1, by omega⟩
      have ed : ((dp + 1 : Nat) : Int) - 1 = (dp : Int) := by omega
      refine ⟨_, rfl, _, rfl, _, rfl, rfl, hR m _ _ _ hm ⟨D, names, dp, j, by dsimp only; rw [ed], hj, hn1, hn8, by omega, by omega, fun p1 ok1 d1 => ?_⟩⟩
      refine ⟨by simp, _, rfl, ?_⟩
      refine dnext (D := D) (j := j) rfl hj (by decide) (by decide) fun o o0 o1 => ?_
      obtain ⟨d, e1, md⟩ := pick (ds := [PyData.str "sum", PyData.str "diff", PyData.str "less"]) o0 o1
      refine ⟨d, e1, _, rfl, _, rfl, _, rfl, _, rfl, rfl, hR m _ _ _ hm ⟨D, names, dp, j, by dsimp only; rw [ed], hj, hn1, hn8, by omega, by omega, fun p2 ok2 d2 => ?_⟩⟩
      obtain ⟨o3, rfl⟩ : ∃ o3 : Op3, d = .str o3.word := by
        rcases List.mem_cons.mp md with rfl | md
        · exact ⟨.sum, rfl⟩
        · rcases List.mem_cons.mp md with rfl | md
          · exact ⟨.diff, rfl⟩
          · cases List.mem_singleton.mp md
            exact ⟨.less, rfl⟩
      exact ⟨by simp, _, rfl, h (.op o3 p1 p2) ⟨ok1, ok2⟩ (by show max p1.deep p2.deep + 1 ≤ dp + 1; omega)⟩
    · exact rest (by omega)
  · exact rest (by omega)
theorem ok_any_part (F : FunAt K mg "_law_any_part" s__law_any_part ["_law_d", "_law_names", "_law_deep"]) (B : Blt mg) (D1 : Def P w K mg base "_law_next" 1 2 spNext) : ∀ n : Nat, Def P w K mg base "_law_any_part" (n + 2) 3 (spAnyPart n)
  | 0 => any_part_body F B (Def.never F) D1 (fun m _ _ _ h _ => by omega)
  | n + 1 => any_part_body F B (ok_any_part F B D1 n) D1 (fun m rs S C h q => by
    have e : m = n := by omega
    subst e
    exact q)
end
end K19
set_option Elab.async false
set_option linter.all false
set_option maxRecDepth 100000
set_option maxHeartbeats 4000000
namespace K19
open PySem PySem.Spec PyProof.Rows L2 DL PM
section
variable {P : Program} {w : World} {K : Fg} {mg : Str → Option Value} {base : Heap}
/-! _law_any_row -/
def spAnyRow : SpD := fun rs S C => ∃ (D : Addr) (names files at_ many : Int) (j : Nat), rs = [.val (.ref D), .dat (.int names), .dat (.int files), .dat (.int at_), .dat (.int many)] ∧ S[j]? = some (dice D) ∧ 1 ≤ names ∧ names ≤ 8 ∧ 1 ≤ files ∧ files ≤ 4 ∧ 0 ≤ at_ ∧ at_ < many ∧ many ≤ 60 ∧ ∀ r : PRow, r.ok names files many → C (.dat r.dat) S
abbrev s__law_any_row : Stmt := topS 33
abbrev N__law_any_row : List Str := ["_law_d", "_law_names", "_law_files", "_law_at", "_law_many", "_law_way", "_law_name", "_law_file", "_law_to"]
theorem sc__law_any_row : FnScope N__law_any_row ["_law_d", "_law_names", "_law_files", "_law_at", "_law_many"] (defScope s__law_any_row) := ⟨rfl, rfl, rfl, by decide +kernel, rfl, by decide +kernel, by decide +kernel⟩
theorem ok_any_row {k : Nat} (F : FunAt K mg "_law_any_row" s__law_any_row ["_law_d", "_law_names", "_law_files", "_law_at", "_law_many"]) (B : Blt mg) (D1 : Def P w K mg base "_law_next" 1 2 spNext) (D2 : Def P w K mg base "_law_any_part" 5 3 (spAnyPart 3)) : Def P w K mg base "_law_any_row" (k + 6) 5 spAnyRow := by
  refine okF F sc__law_any_row rfl fun cdv A outer s H E f hr => ⟨_,
    (ss_cons (s_set (i := 5) sc__law_any_row.nd (d_callF D1 (hr.mono (by omega)) (by rfl) (a_cons (dv 0) (a_cons d_int a_nil))))
      (ss_cons (s_par (i := 6) (j := 7) sc__law_any_row.nd (a_cons (d_callF D1 (hr.mono (by omega)) (by rfl) (a_cons (dv 0) (a_cons (dv 1) a_nil))) (a_cons (d_callF D1 (hr.mono (by omega)) (by rfl) (a_cons (dv 0) (a_cons (dv 2) a_nil))) a_nil)))
      (ss_cons (s_if (t_lt (dv 5) d_int)
      (ss_one (s_ret (d_tup (a_cons d_str (a_cons (dv 6) (a_cons (d_callF D2 (hr.mono (by omega)) (by rfl) (a_cons (dv 0) (a_cons (dv 1) (a_cons d_int a_nil)))) a_nil))))))
      ss_nil)
      (ss_cons (s_if (t_lt (dv 5) d_int)
      (ss_one (s_ret (d_if (t_eq hr.units (dv 5) d_int) (d_tup (a_cons d_str (a_cons (dv 6) a_nil))) (d_tup (a_cons d_str (a_cons (dv 6) (a_cons (dv 7) a_nil)))))))
      ss_nil)
      (ss_cons (s_if (t_lt (dv 5) d_int)
      (ss_one (s_ret (d_tup (a_cons d_str (a_cons (dv 7) (a_cons (d_callF D2 (hr.mono (by omega)) (by rfl) (a_cons (dv 0) (a_cons (dv 1) (a_cons d_int a_nil)))) a_nil))))))
      ss_nil)
      (ss_cons (s_if (t_eq hr.units (dv 5) d_int)
      (ss_one (s_ret (d_tup (a_cons d_str (a_cons (dv 7) (a_cons (d_tup (a_cons d_str (a_cons (d_callF D1 (hr.mono (by omega)) (by rfl) (a_cons (dv 0) (a_cons d_int a_nil))) a_nil))) (a_cons (d_callF D2 (hr.mono (by omega)) (by rfl) (a_cons (dv 0) (a_cons (dv 1) (a_cons d_int a_nil)))) a_nil)))))))
      ss_nil)
      (ss_cons (s_if (t_eq hr.units (dv 5) d_int)
      (ss_one (s_ret (d_tup (a_cons d_str (a_cons (dv 7) (a_cons (d_ix (hu_of hr) (d_lst (a_cons (d_tup (a_cons d_str (a_cons (d_callF D1 (hr.mono (by omega)) (by rfl) (a_cons (dv 0) (a_cons d_int a_nil))) a_nil))) (a_cons (d_callF D2 (hr.mono (by omega)) (by rfl) (a_cons (dv 0) (a_cons (dv 1) (a_cons d_int a_nil)))) a_nil))) (d_callF D1 (hr.mono (by omega)) (by rfl) (a_cons (dv 0) (a_cons d_int a_nil)))) a_nil))))))
      ss_nil)
      (ss_cons (s_if (t_eq hr.units (dv 5) d_int)
      (ss_one (s_ret (d_tup (a_cons d_str (a_cons (dv 6) (a_cons (dv 7) (a_cons (d_tup (a_cons d_str (a_cons (d_callF D1 (hr.mono (by omega)) (by rfl) (a_cons (dv 0) (a_cons d_int a_nil))) a_nil))) a_nil)))))))
      ss_nil)
      (ss_cons (s_if (t_lt (dv 5) d_int)
      (ss_one (s_ret (d_tup (a_cons d_str (a_cons (d_callF D2 (hr.mono (by omega)) (by rfl) (a_cons (dv 0) (a_cons (dv 1) (a_cons d_int a_nil)))) a_nil)))))
      ss_nil)
      (ss_cons (s_if (t_eq hr.units (dv 5) d_int)
      (ss_one (s_ret (d_tup (a_cons d_str a_nil))))
      ss_nil)
      (ss_cons (s_set (i := 8) sc__law_any_row.nd (d_ix (hu_of hr) (d_lst (a_cons (d_min2 (by rfl) B.min (a_cons (dv 4) (a_cons (d_add (d_add (dv 3) d_int) (d_callF D1 (hr.mono (by omega)) (by rfl) (a_cons (dv 0) (a_cons d_int a_nil)))) a_nil))) (a_cons (d_callF D1 (hr.mono (by omega)) (by rfl) (a_cons (dv 0) (a_cons (d_add (dv 4) d_int) a_nil))) a_nil))) (d_fdiv (d_callF D1 (hr.mono (by omega)) (by rfl) (a_cons (dv 0) (a_cons d_int a_nil))) d_int)))
      (ss_one (s_ret (d_if (t_lt (dv 5) d_int) (d_tup (a_cons d_str (a_cons (dv 6) (a_cons (dv 8) a_nil)))) (d_tup (a_cons d_str (a_cons (d_if (t_le (dv 8) (dv 4)) (d_max2 (by rfl) B.max (a_cons (dv 8) (a_cons (d_add (dv 3) d_int) a_nil))) (dv 4)) a_nil)))))))))))))))))
    , ?_⟩
  intro rs S C hl h
  obtain ⟨D, names, files, at_, many, j, rfl, hj, hn1, hn8, hf1, hf4, ha0, ha1, hm, h⟩ := h
  refine dnext (D := D) (j := j) rfl hj (by decide) (by decide) fun way w0 w1 => ?_
  refine dnextV (D := D) (j := j) (m := 1) rfl rfl hj (by omega) (by omega) fun nm n0 n1 => ?_
  refine dnextV (D := D) (j := j) (m := 2) rfl rfl hj (by omega) (by omega) fun fl f0 f1 => ?_
  refine ⟨_, rfl, ite2d (fun hb => ?_) (fun hb => ?_)⟩
  · refine ⟨_, rfl, _, rfl, _, rfl, rfl, D, names, 3, j, rfl, hj, hn1, hn8, by decide, by decide, fun p okp dp => ?_⟩
    exact ⟨by simp, _, rfl, h (.set nm p) ⟨⟨n0, n1⟩, okp, dp⟩⟩
  refine ⟨_, rfl, ite2d (fun hb => ?_) (fun hb => ?_)⟩
  · refine ⟨_, rfl, rfl, ite2b (fun hb2 => ?_) (fun hb2 => ?_)⟩
    · exact ⟨_, rfl, by simp, _, rfl, h (.take nm) ⟨n0, n1⟩⟩
    · exact ⟨_, rfl, _, rfl, by simp, _, rfl, h (.size nm fl) ⟨⟨n0, n1⟩, f0, f1⟩⟩
  refine ⟨_, rfl, ite2d (fun hb => ?_) (fun hb => ?_)⟩
  · refine ⟨_, rfl, _, rfl, _, rfl, rfl, D, names, 2, j, rfl, hj, hn1, hn8, by decide, by decide, fun p okp dp => ?_⟩
    exact ⟨by simp, _, rfl, h (.add fl p) ⟨⟨f0, f1⟩, okp, by omega⟩⟩
  refine ⟨_, rfl, rfl, ite2b (fun hb => ?_) (fun hb => ?_)⟩
  · refine ⟨_, rfl, ?_⟩
    refine dnext (D := D) (j := j) rfl hj (by decide) (by decide) fun x x0 x1 => ?_
    refine ⟨by simp, _, rfl, _, rfl, _, rfl, rfl, D, names, 2, j, rfl, hj, hn1, hn8, by decide, by decide, fun p okp dp => ?_⟩
    exact ⟨by simp, _, rfl, h (.put fl (.num x) p) ⟨⟨f0, f1⟩, ⟨⟨x0, by omega⟩, (by show 1 ≤ 3; decide)⟩, okp, by omega⟩⟩
  refine ⟨_, rfl, rfl, ite2b (fun hb => ?_) (fun hb => ?_)⟩
  · refine ⟨_, rfl, ?_⟩
    refine dnext (D := D) (j := j) rfl hj (by decide) (by decide) fun x x0 x1 => ?_
    refine ⟨by simp, _, rfl, _, rfl, _, rfl, rfl, D, names, 2, j, rfl, hj, hn1, hn8, by decide, by decide, fun p okp dp => ?_⟩
    refine ⟨by simp, _, rfl, ?_⟩
    refine dnext (D := D) (j := j) rfl hj (by decide) (by decide) fun z z0 z1 => ?_
    obtain ⟨d, e1, md⟩ := pick (ds := [(Part.num x).dat, p.dat]) z0 z1
    refine ⟨d, e1, by simp, ?_⟩
    rcases List.mem_cons.mp md with rfl | md
    · exact ⟨_, rfl, h (.cut fl (.num x)) ⟨⟨f0, f1⟩, ⟨x0, by omega⟩, (by show 1 ≤ 3; decide)⟩⟩
    · cases List.mem_singleton.mp md
      exact ⟨_, rfl, h (.cut fl p) ⟨⟨f0, f1⟩, okp, by omega⟩⟩
  refine ⟨_, rfl, rfl, ite2b (fun hb => ?_) (fun hb => ?_)⟩
  · refine ⟨_, rfl, _, rfl, ?_⟩
    refine dnext (D := D) (j := j) rfl hj (by decide) (by decide) fun x x0 x1 => ?_
    exact ⟨by simp, _, rfl, by simp, _, rfl, h (.get nm fl (.num x)) ⟨⟨n0, n1⟩, ⟨f0, f1⟩, ⟨x0, by omega⟩, (by show 1 ≤ 3; decide)⟩⟩
  refine ⟨_, rfl, ite2d (fun hb => ?_) (fun hb => ?_)⟩
  · refine ⟨_, rfl, _, rfl, rfl, D, names, 3, j, rfl, hj, hn1, hn8, by decide, by decide, fun p okp dp => ?_⟩
    exact ⟨by simp, _, rfl, h (.send p) ⟨okp, dp⟩⟩
  refine ⟨_, rfl, rfl, ite2b (fun hb => ?_) (fun hb => ?_)⟩
  · exact ⟨by simp, _, rfl, h .mark True.intro⟩
  refine ⟨_, rfl, _, rfl, ?_⟩
  refine dnext (D := D) (j := j) rfl hj (by decide) (by decide) fun x x0 x1 => ?_
  refine dnextE (D := D) (j := j) (many + 1) rfl hj (fun C' q => ⟨_, rfl, q⟩) (by omega) (by omega) fun y y0 y1 => ?_
  refine ⟨by simp, _, rfl, ?_⟩
  refine dnext (D := D) (j := j) rfl hj (by decide) (by decide) fun z z0 z1 => ?_
  refine ⟨cdiv (by decide) (by decide), ?_⟩
  have hz0 : 0 ≤ z / 2 := by omega
  have hz1 : z / 2 < 2 := by omega
  obtain ⟨d, e1, md⟩ := pick (ds := [PyData.int (if at_ + 2 + x < many then at_ + 2 + x else many), PyData.int y]) hz0 hz1
  refine ⟨d, e1, ?_⟩
  obtain ⟨to, rfl, t0, t1⟩ : ∃ to : Int, d = .int to ∧ 0 ≤ to ∧ to ≤ many := by
    rcases List.mem_cons.mp md with rfl | md
    · refine ⟨_, rfl, ?_, ?_⟩ <;> split <;> omega
    · cases List.mem_singleton.mp md
      exact ⟨y, rfl, y0, by omega⟩
  refine ⟨_, rfl, ite2d (fun hb => ?_) (fun hb => ?_)⟩
  · exact ⟨_, rfl, _, rfl, by simp, _, rfl, h (.unl nm to) ⟨⟨n0, n1⟩, t0, by omega⟩⟩
  · refine ⟨_, rfl, _, rfl, iteTd t1 ⟨_, rfl, _, rfl, ?_⟩⟩
    exact ⟨by simp, _, rfl, h (.go (if at_ + 1 > to then at_ + 1 else to)) ⟨by split <;> omega, by split <;> omega⟩⟩
end
end K19
set_option Elab.async false
set_option linter.all false
set_option maxRecDepth 100000
set_option maxHeartbeats 4000000
namespace K19
open PySem PySem.Spec PyProof.Rows L2 DL PM
section
variable {P : Program} {w : World} {K : Fg} {mg : Str → Option Value} {base : Heap}
/-! _law_any_program -/
def rowR (rs : List PRow) : List R := rs.map fun r => R.dat r.dat
theorem rowR_len (rs : List PRow) : (rowR rs).length = rs.length := List.length_map _
theorem rowR_set (rs : List PRow) (m : Nat) (r : PRow) : (rowR rs).set m (.dat r.dat) = rowR (rs.set m r) := by
  unfold rowR; rw [List.map_set]
theorem rowR_app (rs : List PRow) (r : PRow) : rowR rs ++ [.dat r.dat] = rowR (rs ++ [r]) := by simp [rowR]
theorem dats_rowR (rs : List PRow) : dats (rowR rs) = some (rs.map PRow.dat) := by
  have := dats_map (rs.map PRow.dat)
  rw [List.map_map] at this
  exact this
theorem rows_of_acc {names files many : Int} : ∀ {acc : List R}, (∀ y ∈ acc, ∃ r : PRow, y = .dat r.dat ∧ r.ok names files many) → ∃ rs : List PRow, acc = rowR rs ∧ ∀ r ∈ rs, r.ok names files many
  | [], _ => ⟨[], rfl, by simp⟩
  | y :: ys, h => by
    obtain ⟨r, rfl, hr⟩ := h y List.mem_cons_self
    obtain ⟨rs, rfl, hrs⟩ := rows_of_acc fun z hz => h z (List.mem_cons_of_mem _ hz)
    exact ⟨r :: rs, rfl, fun z hz => by
      rcases List.mem_cons.mp hz with rfl | hz
      · exact hr
      · exact hrs z hz⟩
def clip (m : Int) : PRow → PRow
  | .go r => .go (if m < r then m else r)
  | .unl n r => .unl n (if m < r then m else r)
  | r => r
theorem clip_ok {names files many m : Int} (hm : many ≤ m) (h0 : 0 ≤ many) {r : PRow} (h : r.ok names files m) : (clip many r).ok names files many := by
  cases r with
  | go r => exact ⟨by have := h.1; split <;> omega, by split <;> omega⟩
  | unl n r => exact ⟨h.1, by have := h.2.1; split <;> omega, by split <;> omega⟩
  | _ => exact h
theorem ok_mono {names files many m : Int} (hm : many ≤ m) {r : PRow} (h : r.ok names files many) : r.ok names files m := by
  cases r with
  | go r => exact ⟨h.1, by have := h.2; omega⟩
  | unl n r => exact ⟨h.1, h.2.1, by have := h.2.2; omega⟩
  | _ => exact h
theorem set_row {p : Addr} {rs : List PRow} {i : Int} {r : PRow} {S : SH} {C : SH → Prop} (h0 : 0 ≤ i) (h1 : i < rs.length) (q : C (.lst p (rowR (rs.set i.toNat r)) :: S)) : fSet (.val (.ref p)) (.dat (.int i)) (.dat r.dat) (.lst p (rowR rs) :: S) C := by
  refine .inl ⟨0, _, i.toNat, rfl, ?_, ?_⟩
  · unfold ixN
    rw [rowR_len, if_pos h0, if_pos h1]
  · rw [rowR_set]; exact q
theorem lcK_rows {E : List R → SH → CR0 → Prop} {rs : List PRow} {fr : Fr} {S : SH} {C : CR0} {i : Nat} {de : DE} {p : Addr} (g : PRow → PRow) (hm : Cell.lst p (rowR rs) ∈ S)
    (he : ∀ r, r ∈ rs → ∀ C' : CR0, C' (.dat (g r).dat) S → de (fr.set i (some (.dat r.dat))) S C') (hl : rs.length ≤ 100000) (h : E (rowR (rs.map g)) S C) : ∃ items' : List R, Cell.lst p items' ∈ S ∧ ∃ I : Nat → List R → SH → Prop, I 0 [] S ∧ (∀ k acc S, I k acc S → Cell.lst p items' ∈ S) ∧
    (∀ k r acc S, items'[k]? = some r → I k acc S → dYes (fr.set i (some r)) S fun b S2 => if b = true then de (fr.set i (some r)) S2 fun y S3 => acc.length < 100000 ∧ I (k + 1) (acc ++ [y]) S3 else I (k + 1) acc S2) ∧
    ∀ acc S, I items'.length acc S → E acc S C := by
  refine ⟨rowR rs, hm, fun k acc S' => S' = S ∧ acc = rowR ((rs.take k).map g), ⟨rfl, rfl⟩, fun k acc S' z => by rw [z.1]; exact hm, ?_, ?_⟩
  · rintro k r acc S' hk ⟨rfl, rfl⟩
    unfold rowR at hk
    rw [List.getElem?_map] at hk
    cases hk2 : rs[k]? with
    | none => rw [hk2] at hk; cases hk
    | some r0 =>
    rw [hk2] at hk
    cases hk
    have hmem : r0 ∈ rs := List.mem_of_getElem? hk2
    obtain ⟨hlt, _⟩ := List.getElem?_eq_some_iff.mp hk2
    have et : rs.take (k + 1) = rs.take k ++ [r0] := by rw [List.take_add_one, hk2]; rfl
    refine he r0 hmem _ ⟨?_, rfl, ?_⟩
    · rw [rowR_len, List.length_map]
      have h2 := List.length_take_le k rs
      omega
    · rw [et, List.map_append, rowR_app]; rfl
  · rintro acc S' ⟨rfl, rfl⟩
    rw [rowR_len, List.take_length]; exact h
theorem mem_set {α : Type} {xs : List α} {m : Nat} {a b : α} (h : b ∈ xs.set m a) : b = a ∨ b ∈ xs := by
  rcases List.mem_or_eq_of_mem_set h with h | h
  · exact .inr h
  · exact .inl h
def spAnyProgram : SpD := fun rs S C => ∃ (D : Addr) (most : Int) (j : Nat), rs = [.val (.ref D), .dat (.int most)] ∧ S[j]? = some (dice D) ∧ 0 ≤ most ∧ most ≤ 58 ∧ ∀ p : Prog, p.ok → (p.rows.length : Int) ≤ most + 1 → C (.dat p.dat) S
abbrev s__law_any_program : Stmt := topS 34
abbrev N__law_any_program : List Str := ["_law_d", "_law_most", "_law_names", "_law_files", "_law_loop", "_law_many", "_law_rows", "_law_at", "_law_row"]
theorem sc__law_any_program : FnScope N__law_any_program ["_law_d", "_law_most"] (defScope s__law_any_program) := ⟨rfl, rfl, rfl, by decide +kernel, rfl, by decide +kernel, by decide +kernel⟩
theorem ok_any_program {k : Nat} (F : FunAt K mg "_law_any_program" s__law_any_program ["_law_d", "_law_most"]) (B : Blt mg) (D1 : Def P w K mg base "_law_next" 1 2 spNext) (D2 : Def P w K mg base "_law_any_row" 6 5 spAnyRow) : Def P w K mg base "_law_any_program" (k + 7) 2 spAnyProgram := by
  refine okW F sc__law_any_program rfl fun cdv A outer s H E f hr => ⟨_,
    (ss_cons (s_asg (d_tup (a_cons (d_add d_int (d_callF D1 (hr.mono (by omega)) (by rfl) (a_cons (dv 0) (a_cons d_int a_nil)))) (a_cons (d_add d_int (d_callF D1 (hr.mono (by omega)) (by rfl) (a_cons (dv 0) (a_cons d_int a_nil)))) a_nil))) (g_tup (gs_cons (g_name (i := 2) sc__law_any_program.nd) (gs_cons (g_name (i := 3) sc__law_any_program.nd) gs_nil))))
      (ss_cons (s_set (i := 4) sc__law_any_program.nd (d_eq hr.units (d_callF D1 (hr.mono (by omega)) (by rfl) (a_cons (dv 0) (a_cons d_int a_nil))) d_int))
      (ss_cons (s_set (i := 5) sc__law_any_program.nd (d_callF D1 (hr.mono (by omega)) (by rfl) (a_cons (dv 0) (a_cons (d_add (dv 1) d_int) a_nil))))
      (ss_cons (s_lcC (j := 6) sc__law_any_program.nd (i := 7) (i_r1 (by rfl) B.range (a_cons (dv 5) a_nil)) (blkOk_by (N := N__law_any_program) (sc := defScope s__law_any_program) (own := [("_law_at", 7)]) (by decide +kernel)) (fun _ _ _ _ _ => pg_name (i := 7) sc__law_any_program.nd rfl (Or.inl rfl)) (fun _ _ _ _ _ => ts_nil) (fun _ _ _ _ _ => (d_callF D2 (hr.mono (by omega)) (by rfl) (a_cons (dv 0) (a_cons (dv 2) (a_cons (dv 3) (a_cons (dv 7) (a_cons (dv 5) a_nil))))))))
      (ss_cons (s_if (PDW.pt (w_and (t_val (dv 4)) (w_and1 (t_gt (dv 5) d_int))))
      (ss_cons (s_set (i := 7) sc__law_any_program.nd (d_callF D1 (hr.mono (by omega)) (by rfl) (a_cons (dv 0) (a_cons (d_sub (dv 5) d_int) a_nil))))
      (ss_cons (s_asg (d_tup (a_cons d_str (a_cons (d_sub (dv 2) d_int) (a_cons (d_tup (a_cons d_str (a_cons (d_add d_int (d_callF D1 (hr.mono (by omega)) (by rfl) (a_cons (dv 0) (a_cons d_int a_nil)))) a_nil))) a_nil)))) (g_sub (hu_of hr) (dv 6) d_int))
      (ss_cons (s_asg (d_tup (a_cons d_str (a_cons (d_sub (dv 2) d_int) (a_cons (d_tup (a_cons d_str (a_cons (d_tup (a_cons d_str (a_cons (d_sub (dv 2) d_int) a_nil))) (a_cons (d_tup (a_cons d_str (a_cons d_int a_nil))) a_nil)))) a_nil)))) (g_sub (hu_of hr) (dv 6) (d_sub (dv 5) d_int)))
      (ss_cons (s_asg (d_tup (a_cons d_str (a_cons (d_sub (dv 2) d_int) (a_cons (dv 5) a_nil)))) (g_sub (hu_of hr) (dv 6) (d_sub (dv 5) d_int)))
      (ss_cons (s_expr (d_appT (dv 6) (d_tup (a_cons d_str (a_cons (d_add d_int (dv 7)) a_nil)))))
      (ss_cons (s_lcK (j := 6) (fun _ => end_cel) sc__law_any_program.nd (i := 8) (dv 6) (blkOk_by (N := N__law_any_program) (sc := defScope s__law_any_program) (own := [("_law_row", 8)]) (by decide +kernel)) (fun _ _ _ _ _ => pg_name (i := 8) sc__law_any_program.nd rfl (Or.inl rfl)) (fun _ _ _ _ _ => ts_nil) (fun _ _ _ _ _ => (d_if (t_in (d_ix (hu_of hr) (dv 8) d_int) (d_tup (a_cons d_str (a_cons d_str a_nil)))) (d_add (d_slice (dv 8) o_none (o_some (d_neg d_int))) (d_tup (a_cons (d_min2 (by rfl) B.min (a_cons (d_ix (hu_of hr) (dv 8) (d_neg d_int)) (a_cons (d_add (dv 5) d_int) a_nil))) a_nil))) (dv 8))))
      (ss_one (s_asg (d_tup (a_cons d_str (a_cons (d_sub (dv 2) d_int) (a_cons (d_add (dv 5) d_int) a_nil)))) (g_sub (hu_of hr) (dv 6) (d_sub (dv 5) d_int))))))))))
      ss_nil)
      (ss_one (s_ret (d_tup (a_cons (dv 2) (a_cons (dv 3) (a_cons (d_tuple (by rfl) B.tuple (a_cons (dv 6) a_nil)) a_nil)))))))))))
    , ?_⟩
  intro rs S C hl h
  obtain ⟨D, most, j, rfl, hj, hm0, hm1, h⟩ := h
  refine dnext (D := D) (j := j) rfl hj (by decide) (by decide) fun nm n0 n1 => ?_
  refine dnext (D := D) (j := j) rfl hj (by decide) (by decide) fun fl f0 f1 => ?_
  refine ⟨le_ok rfl, _, rfl, ?_⟩
  refine ⟨rfl, ?_⟩
  dsimp only [List.map, gCn, gNl, gnm]
  refine ⟨rfl, ?_⟩
  dsimp only [sSeq, sAsg]
  refine dnext (D := D) (j := j) rfl hj (by decide) (by decide) fun lp l0 l1 => ?_
  refine ⟨rfl, ?_⟩
  refine dnextE (D := D) (j := j) (most + 1) rfl hj (fun C' q => ⟨_, rfl, q⟩) (by omega) (by omega) fun many m0 m1 => ?_
  refine ⟨_, rfl, ⟨by omega, by omega⟩, lc_nd (fun y => ∃ r : PRow, y = .dat r.dat ∧ r.ok (1 + nm) (1 + fl) many) (fun k r hk C' q => ?_) (by rw [rng_len]; omega) fun acc hacc hP p => ?_⟩
  · obtain ⟨k1, rfl⟩ := rng_get hk
    exact ⟨_, rfl, _, rfl, _, rfl, _, rfl, _, rfl, rfl, D, _, _, _, _, j, rfl, hj, by omega, by omega, by omega, by omega, by omega, by omega, by omega, fun r hr => q _ ⟨r, rfl, hr⟩⟩
  obtain ⟨rs, rfl, hrs⟩ := rows_of_acc hP
  rw [rowR_len, rng_len] at hacc
  have hj2 : ∀ xs, (Cell.lst p xs :: S)[j + 1]? = some (dice D) := fun xs => by simpa using hj
  -- the end
  have fin : ∀ (Dn : DEnds) (q : Addr) (T : SH) (rs' : List PRow) (fr : Fr), Dn.rt = WkC C → (rs'.length : Int) ≤ most + 1 → (∀ r ∈ rs', r.ok (1 + nm) (1 + fl) rs'.length) → S.Sublist T → fr[2]? = some (some (.dat (.int (1 + nm)))) → fr[3]? = some (some (.dat (.int (1 + fl)))) → fr[6]? = some (some (.val (.ref q))) →
      sRet (dTup (dCons (dVar 2) (dCons (dVar 3) (dCons (dCB fTuple (dCons (dVar 6) dNil)) dNil)))) Dn fr (.lst q (rowR rs') :: T) := by
    intro Dn q T rs' fr hD hl hok hS e2 e3 e6
    refine ⟨_, e2, _, e3, _, e6, 0, _, _, rfl, dats_rowR rs', le_ok rfl, _, rfl, ?_⟩
    dsimp only
    rw [hD]
    exact ⟨_, S, wkn_sub (List.Perm.refl _) (hS.trans (List.sublist_cons_self _ _)), h ⟨1 + nm, 1 + fl, rs'⟩ ⟨⟨by show 1 ≤ 1 + nm; omega, by show 1 + nm ≤ 8; omega⟩, ⟨by show 1 ≤ 1 + fl; omega, by show 1 + fl ≤ 4; omega⟩, by show rs'.length ≤ 60; omega, hok⟩ hl⟩
  refine ⟨_, rfl, ?_⟩
  refine ite2b (fun hb => ?_) (fun hb => ?_)
  · refine ⟨_, rfl, ite2d (fun hb2 => ?_) (fun hb2 => ?_)⟩
    · refine dnextE (D := D) (j := j + 1) (many - 2) rfl (hj2 _) (fun C' q => ⟨_, rfl, q⟩) (by omega) (by omega) fun at_ a0 a1 => ?_
      refine ⟨_, rfl, ?_⟩
      refine dnext (D := D) (j := j + 1) rfl (hj2 _) (by decide) (by decide) fun x x0 x1 => ?_
      refine ⟨le_ok rfl, _, rfl, le_ok rfl, _, rfl, _, rfl, ?_⟩
      refine set_row (r := .set (1 + nm - 1) (.num (1 + x))) (by omega) (by omega) ?_
      refine ⟨_, rfl, _, rfl, le_ok rfl, _, rfl, le_ok rfl, _, rfl, le_ok rfl, _, rfl, le_ok rfl, _, rfl, _, rfl, _, rfl, ?_⟩
      refine set_row (r := .set (1 + nm - 1) (.op .diff (.name (1 + nm - 1)) (.num 1))) (by omega) (by rw [List.length_set]; omega) ?_
      refine ⟨_, rfl, _, rfl, le_ok rfl, _, rfl, _, rfl, _, rfl, ?_⟩
      refine set_row (r := .unl (1 + nm - 1) many) (by omega) (by rw [List.length_set, List.length_set]; omega) ?_
      refine ⟨_, rfl, ⟨0, _, rfl⟩, _, rfl, le_ok rfl, _, rfl, 0, _, rfl, by rw [rowR_len, List.length_set, List.length_set, List.length_set]; omega, ?_⟩
      generalize hrs1 : ((rs.set (Int.toNat 0) (PRow.set (1 + nm - 1) (Part.num (1 + x)))).set (many - 2).toNat (PRow.set (1 + nm - 1) (Part.op Op3.diff (Part.name (1 + nm - 1)) (Part.num 1)))).set (many - 1).toNat (PRow.unl (1 + nm - 1) many) = rs1
      have hl1 : rs1.length = many.toNat := by rw [← hrs1, List.length_set, List.length_set, List.length_set, hacc]
      have hok1 : ∀ r ∈ rs1, r.ok (1 + nm) (1 + fl) (many + 1) := by
        intro r hr
        rw [← hrs1] at hr
        rcases mem_set hr with rfl | hr
        · exact ⟨⟨by omega, by omega⟩, by omega, by omega⟩
        rcases mem_set hr with rfl | hr
        · exact ⟨⟨by omega, by omega⟩, ⟨⟨by omega, by omega⟩, by decide, by decide⟩, (by show 2 ≤ 3; decide)⟩
        rcases mem_set hr with rfl | hr
        · exact ⟨⟨by omega, by omega⟩, ⟨by omega, by omega⟩, (by show 1 ≤ 3; decide)⟩
        exact ok_mono (by omega) (hrs r hr)
      have e1 : rowR rs1 ++ [R.dat (PRow.go (1 + at_)).dat] = rowR (rs1 ++ [.go (1 + at_)]) := rowR_app _ _
      generalize hrs2 : rs1 ++ [PRow.go (1 + at_)] = rs2 at e1
      have hl2 : rs2.length = many.toNat + 1 := by rw [← hrs2, List.length_append, hl1]; rfl
      have hok2 : ∀ r ∈ rs2, r.ok (1 + nm) (1 + fl) (many + 1) := by
        intro r hr
        rw [← hrs2] at hr
        rcases List.mem_append.mp hr with hr | hr
        · exact hok1 r hr
        · cases List.mem_singleton.mp hr
          exact ⟨by omega, by omega⟩
      have e2 : (Cell.lst p (rowR rs1) :: S).set 0 (Cell.lst p (rowR rs1 ++ [R.dat (PRow.go (1 + at_)).dat])) = Cell.lst p (rowR rs2) :: S := by rw [e1]; rfl
      dsimp only
      have e3 : PyData.tuple [PyData.str "go", PyData.int (1 + at_)] = (PRow.go (1 + at_)).dat := rfl
      rw [e3, e2]
      refine ⟨_, rfl, lcK_rows (rs := rs2) (clip (many + 1)) List.mem_cons_self (fun r hr C' q => ?_) (by omega) fun q => ?_⟩
      · refine ⟨_, rfl, _, at0, le_ok rfl, _, rfl, ?_⟩
        cases r with
        | go r =>
          refine ⟨rfl, rfl, ?_⟩
          refine ⟨_, rfl, ?_⟩
          refine ⟨_, rfl, _, rfl, _, rfl, le_ok rfl, _, rfl, ?_⟩
          exact ⟨le_ok rfl, q⟩
        | unl n r =>
          refine ⟨rfl, rfl, ?_⟩
          refine ⟨_, rfl, ?_⟩
          refine ⟨_, rfl, _, rfl, _, rfl, le_ok rfl, _, rfl, ?_⟩
          exact ⟨le_ok rfl, q⟩
        | set n a => exact ⟨rfl, rfl, _, rfl, q⟩
        | take n => exact ⟨rfl, rfl, _, rfl, q⟩
        | add f a => exact ⟨rfl, rfl, _, rfl, q⟩
        | put f a b => exact ⟨rfl, rfl, _, rfl, q⟩
        | cut f a => exact ⟨rfl, rfl, _, rfl, q⟩
        | get n f a => exact ⟨rfl, rfl, _, rfl, q⟩
        | size n f => exact ⟨rfl, rfl, _, rfl, q⟩
        | send a => exact ⟨rfl, rfl, _, rfl, q⟩
        | mark => exact ⟨rfl, rfl, _, rfl, q⟩
      refine ⟨_, rfl, _, rfl, le_ok rfl, _, rfl, _, rfl, _, rfl, ?_⟩
      refine set_row (r := .unl (1 + nm - 1) (many + 1)) (by omega) (by rw [List.length_map]; omega) ?_
      refine fin _ _ _ _ _ rfl (by rw [List.length_set, List.length_map]; omega) (fun r hr => ?_) (List.sublist_cons_self _ _) rfl rfl rfl
      rw [List.length_set, List.length_map, hl2]
      have e5 : ((many.toNat + 1 : Nat) : Int) = many + 1 := by omega
      rw [e5]
      rcases mem_set hr with rfl | hr
      · exact ⟨⟨by omega, by omega⟩, by omega, by omega⟩
      obtain ⟨r', hr', rfl⟩ := List.mem_map.mp hr
      exact clip_ok (by omega) (by omega) (hok2 r' hr')
    · exact fin _ _ _ rs _ rfl (by rw [hacc]; omega) (fun r hr => by rw [hacc, toNat_cast m0]; exact hrs r hr) (List.Sublist.refl _) rfl rfl rfl
  · exact fin _ _ _ rs _ rfl (by rw [hacc]; omega) (fun r hr => by rw [hacc, toNat_cast m0]; exact hrs r hr) (List.Sublist.refl _) rfl rfl rfl
end
end K19
set_option Elab.async false
set_option linter.all false
set_option maxRecDepth 100000
set_option maxHeartbeats 4000000
namespace K19
open PySem PySem.Spec PyProof.Rows L2 DL PM TL
section
variable {P : Program} {w : World} {K : Fg} {mg : Str → Option Value} {base : Heap}
/-! _law_part_words -/
theorem empty_add (x : Str) : Str.ofString "" ++ x = x := by
  apply ext_tl
  rw [tl_append]
  rfl
abbrev s__law_part_words : Stmt := topS 35
abbrev N__law_part_words : List Str := ["_law_part"]
theorem sc__law_part_words : FnScope N__law_part_words ["_law_part"] (defScope s__law_part_words) := ⟨rfl, rfl, rfl, by decide +kernel, rfl, by decide +kernel, by decide +kernel⟩
theorem lpw_body {n k : Nat} {spR : SpD} (F : FunAt K mg "_law_part_words" s__law_part_words ["_law_part"]) (B : Blt mg) (D : Def P w K mg base "_law_part_words" (k + 1) 1 spR) (hR : ∀ m rs S C, m + 1 = n → spPartWords m rs S C → spR rs S C) : Def P w K mg base "_law_part_words" (k + 2) 1 (spPartWords n) := by
  refine okF F sc__law_part_words rfl fun cdv A outer s H E f hr => ⟨_,
    (ss_cons (s_if (t_in (d_ix (hu_of hr) (dv 0) d_int) (d_tup (a_cons d_str (a_cons d_str a_nil))))
      (ss_one (s_ret (d_lst (a_cons (d_add (d_ix (hu_of hr) (d_lst (a_cons d_str (a_cons d_str a_nil))) (d_intF (by rfl) B.int (a_cons (d_eq hr.units (d_ix (hu_of hr) (dv 0) d_int) d_str) a_nil))) (d_strF (by rfl) B.str (a_cons (d_ix (hu_of hr) (dv 0) d_int) a_nil))) a_nil))))
      ss_nil)
      (ss_one (s_ret (d_add (d_add (d_lst (a_cons (d_ix (hu_of hr) (dv 0) d_int) a_nil)) (d_callF D (hr.mono (by omega)) (by rfl) (a_cons (d_ix (hu_of hr) (dv 0) d_int) a_nil))) (d_callF D (hr.mono (by omega)) (by rfl) (a_cons (d_ix (hu_of hr) (dv 0) d_int) a_nil))))))
    , ?_⟩
  intro rs S C hl h
  obtain ⟨p, names, rfl, hp, h8, hn, h10, h⟩ := h
  have hpos := p.deep_pos
  cases p with
  | num i =>
    obtain ⟨i0, i1⟩ := hp
    have l5 := len_numS (i := i) i0 (by omega)
    refine ⟨_, rfl, _, rfl, le_ok rfl, _, rfl, rfl, rfl, iteTb rfl ?_⟩
    refine ⟨le_ok rfl, _, rfl, _, rfl, _, rfl, rfl, _, rfl, _, rfl, _, rfl, log_small i0 (by omega), ?_, le_ok rfl, _, rfl, ?_⟩
    · show 0 + (numS i).length ≤ 100000
      omega
    · rw [empty_add]
      exact h
  | name i =>
    obtain ⟨i0, i1⟩ := hp
    have l5 := len_numS (i := i) i0 (by omega)
    refine ⟨_, rfl, _, rfl, le_ok rfl, _, rfl, rfl, rfl, iteTb rfl ?_⟩
    refine ⟨le_ok rfl, _, rfl, _, rfl, _, rfl, rfl, _, rfl, _, rfl, _, rfl, log_small i0 (by omega), ?_, le_ok rfl, _, rfl, h⟩
    show 1 + (numS i).length ≤ 100000
    omega
  | op o a b =>
    obtain ⟨m, hm⟩ : ∃ m, m + 1 = n := ⟨n - 1, by omega⟩
    have hda : a.deep + 1 ≤ (Part.op o a b).deep := by simp only [Part.deep]; omega
    have hdb : b.deep + 1 ≤ (Part.op o a b).deep := by simp only [Part.deep]; omega
    have la := words_big (p := a) (by omega)
    have lb := words_big (p := b) (by omega)
    have hw : inD (.str o.word) [.str "num", .str "name"] = false := by cases o <;> rfl
    refine ⟨_, rfl, _, rfl, le_ok rfl, _, rfl, rfl, rfl, iteFb hw ?_⟩
    refine ⟨_, rfl, _, rfl, le_ok rfl, _, rfl, _, rfl, _, rfl, rfl, hR m _ _ _ hm ⟨a, names, rfl, hp.1, h8, by omega, by omega, ?_⟩⟩
    refine ⟨by rw [strD_len]; show 1 + _ ≤ _; omega, _, rfl, _, rfl, rfl, hR m _ _ _ hm ⟨b, names, rfl, hp.2, h8, by omega, by omega, ?_⟩⟩
    refine ⟨?_, ?_⟩
    · rw [strD_len, List.length_append, strD_len]
      show 1 + a.words.length + b.words.length ≤ 100000
      omega
    · have e : [PyData.str o.word] ++ strD a.words ++ strD b.words = strD (Part.op o a b).words := by
        simp [strD, Part.words]
      rw [e]
      exact h
theorem ok_lpw (F : FunAt K mg "_law_part_words" s__law_part_words ["_law_part"]) (B : Blt mg) : ∀ n : Nat, Def P w K mg base "_law_part_words" (n + 2) 1 (spPartWords n)
  | 0 => lpw_body F B (Def.never F) (fun m _ _ _ h _ => by omega)
  | n + 1 => lpw_body F B (ok_lpw F B n) (fun m rs S C h q => by
    have e : m = n := by omega
    subst e
    exact q)
/-! _law_text_rows -/
def RArg.isN : RArg → Bool
  | .n _ => true
  | _ => false
abbrev nameWs : List PyData := [.str "set", .str "take", .str "get", .str "size", .str "unless"]
theorem is_name (r : PRow) {i : Nat} {a : RArg} (h : r.argl[i]? = some a) : (decide (i = 0) && inD (.str r.word) nameWs) = RArg.isN a := by
  cases r <;> (rcases i with _ | _ | _ | i <;> simp [PRow.argl] at h <;> (try subst h) <;> rfl)
theorem row_at (r : PRow) {i : Nat} {a : RArg} (h : r.argl[i]? = some a) : atI (PyData.str r.word :: r.args) (1 + (i : Int)) = some a.dat := by
  have e : (1 + (i : Int)) = ((i + 1 : Nat) : Int) := by omega
  rw [e]
  refine atI_nat ?_
  rw [List.getElem?_cons_succ, row_args, List.getElem?_map, h]
  rfl
theorem part_only {names : Int} (hn : names ≤ 8) : ∀ {p : Part}, p.ok names → tupOnly p.dat = true
  | .num i, h => by
    simp only [Part.dat, tupOnly, tupOnlys, Bool.and_true, Bool.true_and]
    exact decide_eq_true (log_small h.1 (by have := h.2; omega))
  | .name i, h => by
    simp only [Part.dat, tupOnly, tupOnlys, Bool.and_true, Bool.true_and]
    exact decide_eq_true (log_small h.1 (by have := h.2; omega))
  | .op o a b, h => by
    simp only [Part.dat, tupOnly, tupOnlys, part_only hn h.1, part_only hn h.2, Bool.and_true]
theorem part_lim {names : Int} (hn : names ≤ 8) : ∀ {p : Part}, p.ok names → tupLim p.dat + 20 ≤ 40 * 2 ^ p.deep
  | .num i, h => by
    have l := len_numS (i := i) h.1 (by have := h.2; omega)
    have e : (reprText (Str.ofString "num")).length = 5 := by decide +kernel
    simp only [Part.dat, tupLim, tupLims, Part.deep, e]
    show 5 + 2 + ((numS i).length + 2 + 0) + 5 + 20 ≤ 40 * 2 ^ 1
    omega
  | .name i, h => by
    have l := len_numS (i := i) h.1 (by have := h.2; omega)
    have e : (reprText (Str.ofString "name")).length = 6 := by decide +kernel
    simp only [Part.dat, tupLim, tupLims, Part.deep, e]
    show 6 + 2 + ((numS i).length + 2 + 0) + 5 + 20 ≤ 40 * 2 ^ 1
    omega
  | .op o a b, h => by
    have h1 := part_lim hn h.1
    have h2 := part_lim hn h.2
    have e : (reprText o.word).length ≤ 6 := by cases o <;> decide +kernel
    have e1 : 2 ^ a.deep ≤ 2 ^ max a.deep b.deep := Nat.pow_le_pow_right (by decide) (Nat.le_max_left _ _)
    have e2 : 2 ^ b.deep ≤ 2 ^ max a.deep b.deep := Nat.pow_le_pow_right (by decide) (Nat.le_max_right _ _)
    simp only [Part.dat, tupLim, tupLims, Part.deep, Nat.pow_succ]
    omega
theorem part_tup (p : Part) : ∃ ds, p.dat = .tuple ds := by cases p <;> exact ⟨_, rfl⟩
theorem cutN {t u : DS} {D : DEnds} {fr : Fr} {S : SH} (X : (Fr → SH → Prop) → Prop) (h1 : X (u D)) (h2 : ∀ N, X N → t { D with nx := N } fr S) : sSeq t u D fr S := h2 (u D) h1
def spTextRows : SpD := fun rs S C => ∃ p : Prog, rs = [.dat p.dat] ∧ p.ok ∧ ∀ q, C (.val (.ref q)) (.lst q (strR p.lines) :: S)
abbrev s__law_text_rows : Stmt := topS 36
abbrev N__law_text_rows : List Str := ["_law_p", "_law_found", "_law_row", "_law_words", "_law_k", "_law_is_name", "_law_more"]
theorem sc__law_text_rows : FnScope N__law_text_rows ["_law_p"] (defScope s__law_text_rows) := ⟨rfl, rfl, rfl, by decide +kernel, rfl, by decide +kernel, by decide +kernel⟩
theorem ok_text_rows {k : Nat} (F : FunAt K mg "_law_text_rows" s__law_text_rows ["_law_p"]) (B : Blt mg) (D1 : Def P w K mg base "_law_part_words" 5 1 (spPartWords 3)) : Def P w K mg base "_law_text_rows" (k + 6) 1 spTextRows := by
  refine okF F sc__law_text_rows rfl fun cdv A outer s H E f hr => ⟨_,
    (ss_cons (s_set (i := 1) sc__law_text_rows.nd (d_lstC (a_cons (d_add (d_add (d_add d_str (d_strF (by rfl) B.str (a_cons (d_ix (hu_of hr) (dv 0) d_int) a_nil))) d_str) (d_strF (by rfl) B.str (a_cons (d_ix (hu_of hr) (dv 0) d_int) a_nil))) a_nil)))
      (ss_cons (s_for (i_src (d_ix (hu_of hr) (dv 0) d_int)) (g_name (i := 2) sc__law_text_rows.nd)
      (ss_cons (s_set (i := 3) sc__law_text_rows.nd (d_lst (a_cons (d_ix (hu_of hr) (dv 2) d_int) a_nil)))
      (ss_cons (s_for (i_r2 (by rfl) B.range (a_cons d_int (a_cons (d_len (by rfl) B.len (a_cons (dv 2) a_nil)) a_nil))) (g_name (i := 4) sc__law_text_rows.nd)
      (ss_cons (s_set (i := 5) sc__law_text_rows.nd (d_and (d_eq hr.units (dv 4) d_int) (d_one (d_in (d_ix (hu_of hr) (dv 2) d_int) (d_tup (a_cons d_str (a_cons d_str (a_cons d_str (a_cons d_str (a_cons d_str a_nil))))))))))
      (ss_cons (s_set (i := 6) sc__law_text_rows.nd (d_lst (a_cons (d_add (d_ix (hu_of hr) (d_lst (a_cons d_str (a_cons d_str a_nil))) (d_intF (by rfl) B.int (a_cons (dv 5) a_nil))) (d_strT hr.units (by rfl) B.str (a_cons (d_ix (hu_of hr) (dv 2) (dv 4)) a_nil))) a_nil)))
      (ss_one (s_set (i := 3) sc__law_text_rows.nd (d_add (dv 3) (d_if (t_val (d_isi kit_tuple (by rfl) B.isinstance (a_cons (d_ix (hu_of hr) (dv 2) (dv 4)) (a_cons (d_bltn (v := .ty "tuple") (by rfl) B.tuple (by decide +kernel) rfl) a_nil)))) (d_callF D1 (hr.mono (by omega)) (by rfl) (a_cons (d_ix (hu_of hr) (dv 2) (dv 4)) a_nil)) (dv 6))))))))
      (ss_one (s_expr (d_appT (dv 1) (d_join d_str (dv 3))))))))
      (ss_one (s_ret (dv 1)))))
    , ?_⟩
  intro rs S C hl h
  obtain ⟨p, rfl, ok, h⟩ := h
  have hn := ok.n
  have hf := ok.f
  have hl60 := ok.l
  have l1 := len_numS (i := p.names) (by omega) (by omega)
  have l2 := len_numS (i := p.files) (by omega) (by omega)
  have eh : ((Str.ofString "work " ++ Str.ofString (toString p.names)) ++ Str.ofString " ") ++ Str.ofString (toString p.files) = headS p := rfl
  have w5 : (Str.ofString "work ").length = 5 := by decide
  have b1 : (Str.ofString " ").length = 1 := by decide
  refine ⟨_, rfl, _, rfl, log_small (by omega) (by omega), ?_, ?_, _, rfl, _, rfl, log_small (by omega) (by omega), ?_, le_ok rfl, fun q => ?_⟩
  · rw [w5]
    show 5 + (numS p.names).length ≤ _
    omega
  · rw [strLen_append, w5, b1]
    show 5 + (numS p.names).length + 1 ≤ _
    omega
  · rw [strLen_append, strLen_append, w5, b1]
    show 5 + (numS p.names).length + 1 + (numS p.files).length ≤ _
    omega
  rw [eh]
  refine ⟨_, rfl, _, rfl, fun i fr S' => ∃ a b c d e : Option R, fr = [some (.dat p.dat), some (.val (.ref q)), a, b, c, d, e] ∧ S' = .lst q (strR (headS p :: (p.rows.take i).map PRow.text)) :: S, ⟨none, none, none, none, none, rfl, rfl⟩, ?_, ?_⟩
  · rintro i rr fr S' hi ⟨a, b, c, d, e, rfl, rfl⟩
    rw [List.getElem?_map, List.getElem?_map] at hi
    cases hx : p.rows[i]? with
    | none => rw [hx] at hi; cases hi
    | some r =>
      rw [hx] at hi
      cases hi
      have hr := List.mem_of_getElem? hx
      have hlt := (List.getElem?_eq_some_iff.mp hx).1
      have hao := Prog.argsOk ok hr
      have hl3 := argl_len r
      refine ⟨_, rfl, _, at0, le_ok rfl, _, rfl, ?_⟩
      have la : r.args.length = r.argl.length := by rw [row_args, List.length_map]
      have ln : ((((PyData.str r.word :: r.args).length : Nat) : Int) - 1).toNat = r.argl.length := by
        rw [List.length_cons, la]; omega
      refine ⟨_, rfl, ⟨by decide, by decide, ?_, ?_⟩, fun j fr S' => ∃ b c d : Option R, fr = [some (.dat p.dat), some (.val (.ref q)), some (.dat r.dat), some (.dat (.list (strD (r.word :: argWords (r.argl.take j))))), b, c, d] ∧ S' = .lst q (strR (headS p :: (p.rows.take i).map PRow.text)) :: S, ⟨c, d, e, rfl, rfl⟩, ?_, ?_⟩
      · rw [List.length_cons, la]; omega
      · rw [List.length_cons, la]; omega
      · rintro j rr fr S' hj ⟨b, c, d, rfl, rfl⟩
        obtain ⟨hj1, rfl⟩ := rng_get hj
        rw [ln] at hj1
        cases ha : r.argl[j]? with
        | none => rw [List.getElem?_eq_getElem hj1] at ha; cases ha
        | some a =>
          have hok := hao a (List.mem_of_getElem? ha)
          have hn1 := is_name r ha
          have hra := row_at r ha
          have hw7 : (argWords (r.argl.take j)).length ≤ 21 := by
            have h1 := argWords_len (as := r.argl.take j) fun b hb => hao b (List.mem_of_mem_take hb)
            have h3 : (r.argl.take j).length ≤ 3 := by rw [List.length_take]; omega
            omega
          have e2 : strD (r.word :: argWords (r.argl.take j)) ++ strD a.words = strD (r.word :: argWords (r.argl.take (j + 1))) := by
            rw [List.take_add_one, ha]
            show _ = strD (r.word :: argWords (r.argl.take j ++ [a]))
            rw [argWords_snoc, strD_app]; rfl
          refine cutN (fun N => N [some (.dat p.dat), some (.val (.ref q)), some (.dat r.dat), some (.dat (.list (strD (r.word :: argWords (r.argl.take j))))), some (.dat (.int (1 + (j : Int)))), some (.dat (.bool (RArg.isN a))), d] (.lst q (strR (headS p :: (p.rows.take i).map PRow.text)) :: S)) ?_ fun N hN => ?_
          · cases a with
            | n i' =>
              have l5 := len_numS hok.1 hok.2
              refine ⟨le_ok rfl, _, rfl, _, rfl, _, rfl, _, rfl, _, rfl, _, hra, log_small hok.1 hok.2, ?_, le_ok rfl, _, rfl, ?_⟩
              · show 1 + (numS i').length ≤ 100000
                omega
              refine ⟨_, rfl, _, rfl, _, rfl, _, hra, rfl, _, rfl, iteFb rfl ⟨_, rfl, ?_, ?_⟩⟩
              · rw [strD_len, List.length_cons]
                show _ + 1 ≤ _
                omega
              · show ∃ b c d : Option R, _ ∧ _
                rw [← e2]
                exact ⟨_, _, _, rfl, rfl⟩
            | f i' =>
              have l5 := len_numS hok.1 hok.2
              refine ⟨le_ok rfl, _, rfl, _, rfl, _, rfl, _, rfl, _, rfl, _, hra, log_small hok.1 hok.2, ?_, le_ok rfl, _, rfl, ?_⟩
              · show 0 + (numS i').length ≤ 100000
                omega
              refine ⟨_, rfl, _, rfl, _, rfl, _, hra, rfl, _, rfl, iteFb rfl ⟨_, rfl, ?_, ?_⟩⟩
              · rw [strD_len, List.length_cons]
                show _ + 1 ≤ _
                omega
              · show ∃ b c d : Option R, _ ∧ _
                rw [← e2, empty_add]
                exact ⟨_, _, _, rfl, rfl⟩
            | r i' =>
              have l5 := len_numS hok.1 hok.2
              refine ⟨le_ok rfl, _, rfl, _, rfl, _, rfl, _, rfl, _, rfl, _, hra, log_small hok.1 hok.2, ?_, le_ok rfl, _, rfl, ?_⟩
              · show 0 + (numS i').length ≤ 100000
                omega
              refine ⟨_, rfl, _, rfl, _, rfl, _, hra, rfl, _, rfl, iteFb rfl ⟨_, rfl, ?_, ?_⟩⟩
              · rw [strD_len, List.length_cons]
                show _ + 1 ≤ _
                omega
              · show ∃ b c d : Option R, _ ∧ _
                rw [← e2, empty_add]
                exact ⟨_, _, _, rfl, rfl⟩
            | x p' =>
              obtain ⟨ds, ed⟩ := part_tup p'
              have h1 := part_only hn.2 hok.1
              have h2 := part_lim hn.2 hok.1
              have h3 := p'.depth
              have h4 : 2 ^ p'.deep ≤ 2 ^ 3 := Nat.pow_le_pow_right (by decide) hok.2
              have h5 := hok.2
              have h7 := part_len3 hok.2
              have hra2 : atI (PyData.str r.word :: r.args) (1 + (j : Int)) = some (.tuple ds) := by rw [hra, ← ed]; rfl
              rw [ed, tupOnly] at h1
              rw [ed, tupLim] at h2
              rw [ed, PyData.depth] at h3
              refine ⟨le_ok rfl, _, rfl, _, rfl, _, rfl, _, rfl, _, rfl, _, hra2, h1, by omega, by omega, fun t ht => ⟨?_, le_ok rfl, _, rfl, ?_⟩⟩
              · show 0 + t.length ≤ 100000
                omega
              refine ⟨_, rfl, _, rfl, _, rfl, _, hra2, rfl, _, rfl, iteTb rfl ⟨_, rfl, _, rfl, _, hra2, rfl, p', p.names, by rw [ed], hok.1, hn.2, hok.2, by omega, ?_⟩⟩
              refine ⟨?_, ?_⟩
              · rw [strD_len, strD_len, List.length_cons]
                omega
              · show ∃ b c d : Option R, _ ∧ _
                rw [← e2]
                exact ⟨_, _, _, rfl, rfl⟩
          · by_cases hj0 : j = 0
            · subst hj0
              refine ⟨_, rfl, rfl, iteTb rfl ⟨_, rfl, _, at0, le_ok rfl, _, rfl, rfl, rfl, ?_⟩⟩
              have e3 : inD (.str r.word) nameWs = RArg.isN a := by simpa using hn1
              show N [some (.dat p.dat), some (.val (.ref q)), some (.dat r.dat), some (.dat (.list (strD (r.word :: argWords (r.argl.take 0))))), some (.dat (.int (1 + ((0 : Nat) : Int)))), some (.dat (.bool (inD (.str r.word) nameWs))), d] (.lst q (strR (headS p :: (p.rows.take i).map PRow.text)) :: S)
              rw [e3]
              exact hN
            · have e3 : false = RArg.isN a := by simpa [hj0] using hn1
              refine ⟨_, rfl, rfl, iteFb (by simp [PyData.eqv]; omega) ?_⟩
              rw [← e3] at hN
              exact hN
      · rintro fr S' ⟨b, c, d, rfl, rfl⟩
        rw [rng_len, ln, List.take_length]
        refine ⟨_, rfl, ⟨0, _, rfl⟩, _, rfl, r.words, rfl, Prog.rowJoin ok hr, 0, _, rfl, ?_, ?_⟩
        · simp only [strR, List.length_map, List.length_cons, List.length_take]
          omega
        · refine ⟨_, _, _, _, _, rfl, ?_⟩
          show [Cell.lst q (strR (headS p :: (p.rows.take i).map PRow.text) ++ [R.dat (.str r.text)])] ++ S = _
          rw [List.take_add_one, hx]
          simp [strR]
  · rintro fr S' ⟨a, b, c, d, e, rfl, rfl⟩
    rw [List.length_map, List.length_map, List.take_length]
    exact ⟨_, rfl, h q⟩
end
end K19
set_option Elab.async false
set_option linter.all false
set_option maxRecDepth 100000
set_option maxHeartbeats 4000000
namespace K19
open PySem PySem.Spec PyProof.Rows L2 DL PM
local macro_rules | `(tactic| walk_at "dl") => `(tactic| repeat (first | refine ⟨_, rfl, ?_⟩ | refine ⟨rfl, _, by assumption, ?_⟩ | refine iteT ?_ | refine iteF ?_))
section
variable {P : Program} {w : World} {K : Fg} {mg : Str → Option Value} {base : Heap}
/-! _law_like -/
theorem kd_view {S : SH} {r : R} {d : PyData} {k : Kd} (h : View S r d) (hk : kdOf d = some k) : kdR S r k := by
  cases h with
  | dat d => exact hk
  | cel hj q => cases hk; exact ⟨rfl, _, _, hj⟩
  | tp q => cases hk; rfl
theorem len_view {S : SH} {r : R} {ds : List PyData} {C : CR0} (h : View S r (.list ds) ∨ View S r (.tuple ds)) (q : C (.dat (.int ds.length)) S) : fLen [r] S C := by
  rcases h with h | h
  · cases h with
    | dat d => exact q
    | cel hj v => exact ⟨_, _, hj, by rw [v.length]; exact q⟩
  · cases h with
    | dat d => exact q
    | tp v => show C _ S; rw [v.length]; exact q
theorem dlen_view {S : SH} {fr : Fr} {i : Nat} {r : R} {ds : List PyData} {C : CR0} (hi : fr[i]? = some (some r)) (h : View S r (.list ds) ∨ View S r (.tuple ds)) (q : C (.dat (.int ds.length)) S) : dCB fLen (dCons (dVar i) dNil) fr S C := ⟨r, hi, len_view h q⟩
theorem ix_view {S : SH} {r : R} {ds : List PyData} {i : Nat} {d : PyData} {C : CR0} (h : View S r (.list ds) ∨ View S r (.tuple ds)) (e : ds[i]? = some d) (q : ∀ r', View S r' d → C r' S) : fIx r (.dat (.int (i : Int))) S C := by
  rcases h with h | h
  · cases h with
    | dat _ => exact ⟨d, atI_nat e, q _ (.dat d)⟩
    | cel hj v =>
      obtain ⟨r', e', v'⟩ := v.get' e
      exact .inl ⟨_, _, r', hj, atI_nat e', q _ v'⟩
  · cases h with
    | dat _ => exact ⟨d, atI_nat e, q _ (.dat d)⟩
    | tp v =>
      obtain ⟨r', e', v'⟩ := v.get' e
      exact ⟨r', atI_nat e', q _ v'⟩
theorem dix_view {S : SH} {fr : Fr} {i j : Nat} {r : R} {ds : List PyData} {m : Nat} {d : PyData} {C : CR0} (hi : fr[i]? = some (some r)) (hj : fr[j]? = some (some (.dat (.int (m : Int))))) (h : View S r (.list ds) ∨ View S r (.tuple ds)) (e : ds[m]? = some d) (q : ∀ r', View S r' d → C r' S) : dOp fIx (dVar i) (dVar j) fr S C := ⟨r, hi, _, hj, ix_view h e q⟩
mutual
def noDict : PyData → Bool
  | .dict _ => false
  | .list xs => decide (xs.length ≤ 100000) && noDicts xs
  | .tuple xs => decide (xs.length ≤ 100000) && noDicts xs
  | _ => true
def noDicts : List PyData → Bool
  | [] => true
  | x :: xs => noDict x && noDicts xs
end
theorem noDicts_at : ∀ {xs : List PyData} {i : Nat} {d : PyData}, noDicts xs = true → xs[i]? = some d → noDict d = true
  | [], _, _, _, e => by simp at e
  | x :: xs, 0, _, h, e => by
    rw [noDicts] at h
    simp at e
    subst e
    exact (Bool.and_eq_true_iff.mp h).1
  | x :: xs, i + 1, _, h, e => by
    rw [noDicts] at h
    exact noDicts_at (Bool.and_eq_true_iff.mp h).2 (by simpa using e)
theorem depth_at : ∀ {xs : List PyData} {i : Nat} {d : PyData}, xs[i]? = some d → d.depth ≤ PyData.depthAll xs
  | [], _, _, e => by simp at e
  | x :: xs, 0, _, e => by
    rw [PyData.depthAll]
    simp at e
    subst e
    exact Nat.le_max_left _ _
  | x :: xs, i + 1, _, e => by
    rw [PyData.depthAll]
    exact Nat.le_trans (depth_at (xs := xs) (i := i) (by simpa using e)) (Nat.le_max_right _ _)
def spLike (n : Nat) : SpD := fun rs S C => ∃ a b d, rs = [a, b] ∧ View S a d ∧ View S b d ∧ d.depth ≤ n ∧ noDict d = true ∧ C (.dat (.bool true)) S
abbrev s__law_like : Stmt := topS 31
abbrev N__law_like : List Str := ["_law_found", "_law_due", "_law_k"]
theorem sc__law_like : FnScope N__law_like ["_law_found", "_law_due"] (defScope s__law_like) := ⟨rfl, rfl, rfl, by decide +kernel, rfl, by decide +kernel, by decide +kernel⟩
theorem isNone_view {S : SH} {r : R} {d : PyData} (h : View S r d) (hd : d ≠ .none) : isNone r = false := by
  cases h with
  | dat d => cases d <;> first | rfl | exact absurd rfl hd
  | cel hj q => rfl
  | tp q => rfl
theorem eqv_refl_scal {d : PyData} (h : scalD d d = true) : PyData.eqv d d = true := by
  cases d <;> first | rfl | (simp [PyData.eqv]; done) | (exfalso; revert h; simp [scalD]; done)
theorem eqk (b : Bool) : (!PyData.eqv (.bool b) (.bool b)) = false := by cases b <;> rfl
theorem eqn (i : Int) : (!PyData.eqv (.int i) (.int i)) = false := by simp [PyData.eqv]
theorem like_body {n k : Nat} {spR : SpD} (F : FunAt K mg "_law_like" s__law_like ["_law_found", "_law_due"]) (B : Blt mg) (D : Def P w K mg base "_law_like" k 2 spR) (hR : ∀ m rs S C, m + 1 = n → spLike m rs S C → spR rs S C) : Def P w K mg base "_law_like" (k + 1) 2 (spLike n) := by
  refine okF F sc__law_like rfl fun cdv A outer s H E f hr => ⟨_,
    (ss_cons (s_if (t_val (d_isi kit_bool (by rfl) B.isinstance (a_cons (dv 1) (a_cons (d_bltn (v := .ty "bool") (by rfl) B.bool (by decide +kernel) rfl) a_nil))))
      (ss_one (s_ret (d_and (d_isi kit_bool (by rfl) B.isinstance (a_cons (dv 0) (a_cons (d_bltn (v := .ty "bool") (by rfl) B.bool (by decide +kernel) rfl) a_nil))) (d_one (d_eq hr.units (dv 0) (dv 1))))))
      ss_nil)
      (ss_cons (s_if (t_val (d_isi kit_str (by rfl) B.isinstance (a_cons (dv 1) (a_cons (d_bltn (v := .ty "str") (by rfl) B.str (by decide +kernel) rfl) a_nil))))
      (ss_one (s_ret (d_and (d_isi kit_str (by rfl) B.isinstance (a_cons (dv 0) (a_cons (d_bltn (v := .ty "str") (by rfl) B.str (by decide +kernel) rfl) a_nil))) (d_one (d_eq hr.units (dv 0) (dv 1))))))
      ss_nil)
      (ss_cons (s_if (t_val (d_isi kit_int (by rfl) B.isinstance (a_cons (dv 1) (a_cons (d_bltn (v := .ty "int") (by rfl) B.int (by decide +kernel) rfl) a_nil))))
      (ss_one (s_ret (d_and (d_isi kit_int (by rfl) B.isinstance (a_cons (dv 0) (a_cons (d_bltn (v := .ty "int") (by rfl) B.int (by decide +kernel) rfl) a_nil))) (d_and (d_not (d_isi kit_bool (by rfl) B.isinstance (a_cons (dv 0) (a_cons (d_bltn (v := .ty "bool") (by rfl) B.bool (by decide +kernel) rfl) a_nil)))) (d_one (d_eq hr.units (dv 0) (dv 1)))))))
      ss_nil)
      (ss_cons (s_if (t_isN (dv 1) d_non)
      (ss_one (s_ret (d_isN (dv 0) d_non)))
      ss_nil)
      (ss_cons (s_if (PDW.pt (w_or (t_ne hr.units (d_isi kit_tuple (by rfl) B.isinstance (a_cons (dv 1) (a_cons (d_bltn (v := .ty "tuple") (by rfl) B.tuple (by decide +kernel) rfl) a_nil))) (d_isi kit_tuple (by rfl) B.isinstance (a_cons (dv 0) (a_cons (d_bltn (v := .ty "tuple") (by rfl) B.tuple (by decide +kernel) rfl) a_nil)))) (w_or1 (t_ne hr.units (d_isi kit_list (by rfl) B.isinstance (a_cons (dv 1) (a_cons (d_bltn (v := .ty "list") (by rfl) B.list (by decide +kernel) rfl) a_nil))) (d_isi kit_list (by rfl) B.isinstance (a_cons (dv 0) (a_cons (d_bltn (v := .ty "list") (by rfl) B.list (by decide +kernel) rfl) a_nil)))))))
      (ss_one (s_ret d_bl))
      ss_nil)
      (ss_cons (s_if (t_ne hr.units (d_len (by rfl) B.len (a_cons (dv 0) a_nil)) (d_len (by rfl) B.len (a_cons (dv 1) a_nil)))
      (ss_one (s_ret d_bl))
      ss_nil)
      (ss_cons (s_for (i_r1 (by rfl) B.range (a_cons (d_len (by rfl) B.len (a_cons (dv 1) a_nil)) a_nil)) (g_name (i := 2) sc__law_like.nd)
      (ss_one (s_if (t_not (t_val (d_callF D (hr.mono (by omega)) (by rfl) (a_cons (d_ix (hu_of hr) (dv 0) (dv 2)) (a_cons (d_ix (hu_of hr) (dv 1) (dv 2)) a_nil)))))
      (ss_one (s_ret d_bl))
      ss_nil)))
      (ss_one (s_ret d_bl)))))))))
    , ?_⟩
  intro rs S C hl h
  obtain ⟨a, b, d, rfl, va, vb, hd, nd, h⟩ := h
  have seqc : ∀ ds : List PyData, (View S a (.list ds) ∧ View S b (.list ds)) ∨ (View S a (.tuple ds) ∧ View S b (.tuple ds)) → PyData.depthAll ds + 1 ≤ n → (decide (ds.length ≤ 100000) && noDicts ds) = true → (d = .list ds ∨ d = .tuple ds) →
      sSeq (sIf (dTest (dOp fNe (dCB fLen (dCons (dVar 0) dNil)) (dCB fLen (dCons (dVar 1) dNil)))) (sRet (dC (R.dat (PyData.bool false)))) sNext)
        (sSeq (sFor (iR1 (dCons (dCB fLen (dCons (dVar 1) dNil)) dNil)) (gnm 2)
            (sIf (dNot (dTest (dCall 2 spR (dCons (dOp fIx (dVar 0) (dVar 2)) (dCons (dOp fIx (dVar 1) (dVar 2)) dNil))))) (sRet (dC (R.dat (PyData.bool false)))) sNext))
          (sRet (dC (R.dat (PyData.bool true))))) { nx := fun x S => C (R.dat PyData.none) S, rt := C } (startF N__law_like [a, b]) S := by
    intro ds vs hdd hnd _
    have v1 : View S a (.list ds) ∨ View S a (.tuple ds) := vs.imp And.left And.left
    have v2 : View S b (.list ds) ∨ View S b (.tuple ds) := vs.imp And.right And.right
    obtain ⟨hl1, hnd⟩ := Bool.and_eq_true_iff.mp hnd
    have hl2 := of_decide_eq_true hl1
    have hlen : (ds.length : Int) < 2 ^ 62 := by omega
    refine dlen_view (i := 0) rfl v1 ?_
    refine dlen_view (i := 1) rfl v2 ?_
    refine ⟨rfl, iteFb (eqn _) ?_⟩
    refine dlen_view (i := 1) rfl v2 ?_
    refine ⟨⟨by omega, hlen⟩, ?_⟩
    refine ⟨fun i fr S' => S' = S ∧ ∃ c, fr = [some a, some b, c], ⟨rfl, none, rfl⟩, ?_, ?_⟩
    · rintro i r fr S' hi ⟨rfl, c, rfl⟩
      obtain ⟨hlt, rfl⟩ := rng_get hi
      have hi' : i < ds.length := by omega
      have e0 : (0 : Int) + (i : Int) = (i : Int) := Int.zero_add _
      rw [e0]
      have ed : ds[i]? = some ds[i] := List.getElem?_eq_getElem hi'
      refine dix_view (i := 0) (j := 2) rfl rfl v1 ed fun r1 w1 => ?_
      refine dix_view (i := 1) (j := 2) rfl rfl v2 ed fun r2 w2 => ⟨rfl, ?_⟩
      obtain ⟨m, hm⟩ : ∃ m, m + 1 = n := ⟨n - 1, by omega⟩
      have hde := depth_at ed
      refine hR m _ _ _ hm ⟨r1, r2, ds[i], rfl, w1, w2, by omega, noDicts_at hnd ed, ?_⟩
      exact ⟨rfl, _, rfl⟩
    · rintro fr S' ⟨rfl, c, rfl⟩
      exact h
  have ka : ∀ k, kdOf d = some k → kdR S a k := fun k hk => kd_view va hk
  have kb : ∀ k, kdOf d = some k → kdR S b k := fun k hk => kd_view vb hk
  cases d with
  | none =>
    have k1 := ka _ rfl
    have k2 := kb _ rfl
    cases va
    cases vb
    walk_at "dl"
    exact h
  | bool x =>
    have k1 := ka _ rfl
    have k2 := kb _ rfl
    cases va
    cases vb
    walk_at "dl"
    have e := eqv_refl_scal (d := .bool x) rfl
    refine ⟨rfl, ?_⟩
    rw [e]
    exact h
  | int x =>
    have k1 := ka _ rfl
    have k2 := kb _ rfl
    cases va
    cases vb
    walk_at "dl"
    have e := eqv_refl_scal (d := .int x) rfl
    refine ⟨rfl, ?_⟩
    rw [e]
    exact h
  | str x =>
    have k1 := ka _ rfl
    have k2 := kb _ rfl
    cases va
    cases vb
    walk_at "dl"
    have e := eqv_refl_scal (d := .str x) rfl
    refine ⟨rfl, ?_⟩
    rw [e]
    exact h
  | list ds =>
    have k1 := ka _ rfl
    have k2 := kb _ rfl
    have en := isNone_view vb (fun z => nomatch z)
    walk_at "dl"
    refine iteFb en ?_
    walk_at "dl"
    refine ⟨rfl, iteFb (eqk _) ?_⟩
    walk_at "dl"
    refine ⟨rfl, iteFb (eqk _) ?_⟩
    refine seqc ds (.inl ⟨va, vb⟩) (by rw [PyData.depth] at hd; exact hd) (by rw [noDict] at nd; exact nd) (.inl rfl)
  | tuple ds =>
    have k1 := ka _ rfl
    have k2 := kb _ rfl
    have en := isNone_view vb (fun z => nomatch z)
    walk_at "dl"
    refine iteFb en ?_
    walk_at "dl"
    refine ⟨rfl, iteFb (eqk _) ?_⟩
    walk_at "dl"
    refine ⟨rfl, iteFb (eqk _) ?_⟩
    refine seqc ds (.inr ⟨va, vb⟩) (by rw [PyData.depth] at hd; exact hd) (by rw [noDict] at nd; exact nd) (.inr rfl)
  | dict kvs => cases nd
theorem ok_like (F : FunAt K mg "_law_like" s__law_like ["_law_found", "_law_due"]) (B : Blt mg) : ∀ n : Nat, Def P w K mg base "_law_like" (n + 1) 2 (spLike n)
  | 0 => like_body F B (Def.never F) fun m _ _ _ h _ => by omega
  | n + 1 => like_body F B (ok_like F B n) fun m rs S C h q => by
    have e : m = n := by omega
    subst e
    exact q
end
end K19
set_option Elab.async false
set_option linter.all false
set_option maxRecDepth 100000
set_option maxHeartbeats 4000000
/-! DL: the end: the law's own def, what the head tells. -/
namespace DL
open PySem PySem.Spec PyProof.Rows L2
/-- the law's def and its promise, its text known -/
structure DefL (P : Program) (w : World) (K : Fg) (mg : Str → Option Value) (base : Heap) (x : Str) (st : Stmt) (ps : List Str) (k n : Nat) (sp : SpD) : Prop where
  ex : ∃ f fd, Fun K x x st f fd ∧ mg x = some (.ref f) ∧ FnOk P w K mg base CX0 k f fd ps (toSp K n sp)
section
variable {P : Program} {w : World} {K : Fg} {mg : Str → Option Value} {base : Heap}
theorem okL {x : Str} {st : Stmt} {N ps : List Str} {k n : Nat} {sp : SpD} (Fn : FunAt K mg x st ps) (Sc : FnScope N ps (defScope st)) (hn : ps.length = n)
    (hbody : ∀ (cdv : Value) (A : Around) (outer : List Env) (s : Shared) (H : Hp) (E : XK) (f : Addr), Room k (A.deeper (envOfC x (defScope st) s.heap.objs.size f cdv)) →
      ∃ ds, PDSs (cxOf CX0 P w K mg base N x (defScope st) f cdv A outer s H E).nox (defBody st) ds ∧ ∀ rs S C, rs.length = n → sp rs S C → ds { nx := fun _ S => C (.dat .none) S, rt := C } (startF N rs) S) : DefL P w K mg base x st ps (k + 1) n sp := by
  obtain ⟨f, fd, Fu, hm, hb⟩ := Fn.ex
  exact ⟨f, fd, Fu, hm, okD Fu Sc hn fun cdv A outer s H E hr => hbody cdv A outer s H E f hr⟩
theorem funAt_mk {x : Str} {st : Stmt} {ps : List Str} {f : Addr} {fd : FuncData} (F : FunD K x x (defArgs st) (defBody st) (defScope st) [] [] f fd) (hm : mg x = some (.ref f))
    (h : ∀ (kV doc pm : Value) (an : Option Addr) (cdv ct : Value) (us : List Value), us.length = ps.length → bindArgs (PySem.W.fnOf x x (defArgs st) (defBody st) (defScope st) .none kV doc pm an cdv ct) ⟨us, []⟩ = pure (ps.zip us)) : FunAt K mg x st ps := by
  have hb := F.bindsN h
  obtain ⟨oc, od, dV, kV, doc, pm, an, cdv, ct, osl, e, lk, hcd, hD, hK⟩ := F.ex
  rcases hD with ⟨_, rfl⟩ | ⟨z, _⟩
  · exact ⟨f, fd, ⟨⟨oc, od, kV, doc, pm, an, cdv, ct, osl, e, lk, hcd⟩, F.kp⟩, hm, hb⟩
  · exact absurd rfl z
/-- the promise that a law's end asks -/
theorem law_sp {sp : SpD} {H : Hp} {a : Addr} {ns : List Int} {m : Nat} (hl : ns.length ≤ m) (hO : Only H) (hS : SqL K H a (ns.map V.int)) (h : ∀ C : CR0, (∀ S', C (.dat (.bool true)) S') → sp [.scr ns] [] C) : toSp K 1 sp [.ref a] H (fun v _ => v = .bl true) fun _ _ _ => False := by
  refine ⟨rfl, [], [], [(.ref a, .scr ns)], [.scr ns], fun r _ => r = .dat (.bool true), ⟨List.nodup_nil, (fun c hc => nomatch hc), fun e he => ?_⟩, .cons List.mem_cons_self .nil, h _ fun _ => rfl, ?_⟩
  · cases List.mem_singleton.mp he
    exact ⟨a, rfl, ScrAt.of hO hS⟩
  · rintro v r S' H' o rfl
    exact rep_bool_inv (o.dat List.mem_cons_self)
end
end DL
set_option Elab.async false
set_option linter.all false
set_option maxRecDepth 100000
set_option maxHeartbeats 4000000
namespace K19
open PySem PySem.Spec PyProof.Rows L2 DL PM
section
variable {P : Program} {w : World} {K : Fg} {mg : Str → Option Value} {base : Heap}
theorem nd_part : ∀ p : Part, noDict p.dat = true
  | .num n => by simp [Part.dat, noDict, noDicts]
  | .name n => by simp [Part.dat, noDict, noDicts]
  | .op o a b => by simp [Part.dat, noDict, noDicts, nd_part a, nd_part b]
theorem nd_row (r : PRow) : noDict r.dat = true := by
  cases r <;> simp [PRow.dat, PRow.args, noDict, noDicts, nd_part]
theorem nds_all : ∀ {xs : List PyData}, (∀ x ∈ xs, noDict x = true) → noDicts xs = true
  | [], _ => by rw [noDicts]
  | x :: xs, h => by
    rw [noDicts, h x List.mem_cons_self, nds_all fun y hy => h y (List.mem_cons_of_mem _ hy)]; rfl
theorem nd_prog {p : Prog} (ok : p.ok) : noDict p.dat = true := by
  have hl := ok.l
  have e : noDict (.tuple (p.rows.map PRow.dat)) = true := by
    rw [noDict, nds_all fun x hx => ?_, decide_eq_true (by rw [List.length_map]; omega)]
    · rfl
    · obtain ⟨r, _, rfl⟩ := List.mem_map.mp hx
      exact nd_row r
  simp [Prog.dat, noDict, noDicts]
  simpa [noDict] using e
theorem depth_prog {p : Prog} (ok : p.ok) : p.dat.depth ≤ 7 := by
  have e : PyData.depthAll (p.rows.map PRow.dat) ≤ 5 := depth_all fun x hx => by
    obtain ⟨r, hr, rfl⟩ := List.mem_map.mp hx
    exact PRow.depth (ok.r r hr)
  simp only [Prog.dat, PyData.depth, PyData.depthAll]
  omega
theorem dmid {D : Addr} (T S : SH) : (T ++ dice D :: S)[T.length]? = some (dice D) := by simp
def spLaw : SpD := fun rs S C => ∃ ns : List Int, rs = [.scr ns] ∧ ns.length ≤ 63 ∧ ∀ S2, C (.dat (.bool true)) S2
/-! law -/
abbrev s_law : Stmt := topS 37
abbrev N_law : List Str := ["_law_script", "_law_d", "_law_turn", "_law_program", "_law_text", "_law_again", "_law_found"]
theorem sc_law : FnScope N_law ["_law_script"] (defScope s_law) := ⟨rfl, rfl, rfl, by decide +kernel, rfl, by decide +kernel, by decide +kernel⟩
theorem ok_law {k : Nat} (F : FunAt K mg "law" s_law ["_law_script"]) (B : Blt mg) (D1 : Def P w K mg base "_law_dice" 1 1 spDice) (D2 : Def P w K mg base "_law_next" 1 2 spNext) (D3 : Def P w K mg base "_law_any_program" 7 2 spAnyProgram)
    (D4 : Def P w K mg base "_law_text_rows" 6 1 spTextRows) (D5 : Def P w K mg base "read" 9 1 (framed spRead)) (D6 : Def P w K mg base "written" 9 1 (framed spWritten)) (D7 : Def P w K mg base "_law_like" 8 2 (spLike 7)) : DefL P w K mg base "law" s_law ["_law_script"] (k + 10) 1 spLaw := by
  refine okL F sc_law rfl fun cdv A outer s H E f hr => ⟨_,
    (ss_cons (s_set (i := 1) sc_law.nd (d_callF D1 (hr.mono (by omega)) (by rfl) (a_cons (dv 0) a_nil)))
      (ss_cons (s_for (i_r1 (by rfl) B.range (a_cons d_int a_nil)) (g_name (i := 2) sc_law.nd)
      (ss_cons (s_set (i := 3) sc_law.nd (d_callF D3 (hr.mono (by omega)) (by rfl) (a_cons (dv 1) (a_cons (d_ix (hu_of hr) (d_lst (a_cons d_int (a_cons d_int a_nil))) (d_callF D2 (hr.mono (by omega)) (by rfl) (a_cons (dv 1) (a_cons d_int a_nil)))) a_nil))))
      (ss_cons (s_set (i := 4) sc_law.nd (d_join d_str (d_callF D4 (hr.mono (by omega)) (by rfl) (a_cons (dv 3) a_nil))))
      (ss_one (s_for (i_r1 (by rfl) B.range (a_cons d_int a_nil)) (g_name (i := 5) sc_law.nd)
      (ss_cons (s_set (i := 6) sc_law.nd (d_callF D5 (hr.mono (by omega)) (by rfl) (a_cons (dv 4) a_nil)))
      (ss_one (s_if (PDW.pt (w_or (t_not (t_val (d_callF D7 (hr.mono (by omega)) (by rfl) (a_cons (d_callF D6 (hr.mono (by omega)) (by rfl) (a_cons (dv 3) a_nil)) (a_cons (dv 4) a_nil))))) (w_or (t_not (t_val (d_callF D7 (hr.mono (by omega)) (by rfl) (a_cons (dv 6) (a_cons (dv 3) a_nil))))) (w_or1 (t_ne hr.units (d_callF D6 (hr.mono (by omega)) (by rfl) (a_cons (dv 6) a_nil)) (dv 4))))))
      (ss_one (s_ret d_bl))
      ss_nil))))))))
      (ss_one (s_ret d_bl))))
    , ?_⟩
  intro rs S C hl h
  obtain ⟨ns, rfl, hn, h⟩ := h
  refine ⟨_, rfl, rfl, ns, rfl, by omega, fun D => ?_⟩
  refine ⟨⟨by decide, by decide⟩, fun i fr S' => ∃ (T : SH) (a2 a3 a4 a5 a6 : Option R), fr = [some (.scr ns), some (.val (.ref D)), a2, a3, a4, a5, a6] ∧ S' = T ++ dice D :: S, ⟨[], none, none, none, none, none, rfl, rfl⟩, ?_, ?_⟩
  · rintro i r fr S' hi ⟨T, a2, a3, a4, a5, a6, rfl, rfl⟩
    refine ⟨_, rfl, le_ok rfl, _, rfl, ?_⟩
    refine dnext (D := D) (j := T.length) rfl (dmid T S) (by decide) (by decide) fun z z0 z1 => ?_
    obtain ⟨d, e1, md⟩ := pick (ds := [PyData.int 8, PyData.int 58]) z0 z1
    refine ⟨d, e1, ?_⟩
    obtain ⟨m, rfl, m0, m1⟩ : ∃ m : Int, d = .int m ∧ 0 ≤ m ∧ m ≤ 58 := by
      rcases List.mem_cons.mp md with rfl | md
      · exact ⟨8, rfl, by decide, by decide⟩
      · cases List.mem_singleton.mp md; exact ⟨58, rfl, by decide, by decide⟩
    refine ⟨rfl, D, m, T.length, rfl, dmid T S, m0, m1, fun p ok hlen => ?_⟩
    refine ⟨_, rfl, rfl, p, rfl, ok, fun q => ⟨0, p.lines, rfl, Prog.linesJoin ok, ?_⟩⟩
    have hnd := nd_prog ok
    have hdp := depth_prog ok
    refine ⟨⟨by decide, by decide⟩, fun i fr S' => ∃ (T' : SH) (b5 b6 : Option R), fr = [some (.scr ns), some (.val (.ref D)), some r, some (.dat p.dat), some (.dat (.str p.text)), b5, b6] ∧ S' = T' ++ dice D :: S, ⟨.lst q (strR p.lines) :: T, a5, a6, rfl, rfl⟩, ?_, ?_⟩
    · rintro i2 r2 fr2 S2 hi2 ⟨T', b5, b6, rfl, rfl⟩
      refine ⟨_, rfl, rfl, [], _, .refl _, p, rfl, ok, fun S3 => ?_⟩
      refine ⟨_, rfl, rfl, [], _, .refl _, p, rfl, ok, fun S4 => ?_⟩
      refine ⟨_, rfl, rfl, _, _, .str p.text, rfl, .dat _, .dat _, by simp [PyData.depth], rfl, ?_⟩
      refine ⟨_, rfl, _, rfl, rfl, _, _, p.dat, rfl, .dat _, .dat _, hdp, hnd, ?_⟩
      refine ⟨_, rfl, rfl, [], _, .refl _, p, rfl, ok, fun S5 => ?_⟩
      refine ⟨_, rfl, rfl, iteFb (by simp [PyData.eqv]) ?_⟩
      exact ⟨S5 ++ (S4 ++ (S3 ++ T')), _, _, rfl, by simp⟩
    · rintro fr2 S2 ⟨T', b5, b6, rfl, rfl⟩
      exact ⟨T', _, _, _, _, _, rfl, rfl⟩
  · rintro fr S' ⟨T, a2, a3, a4, a5, a6, rfl, rfl⟩
    exact h _
end
end K19
set_option Elab.async false
set_option linter.all false
set_option maxRecDepth 100000
set_option maxHeartbeats 4000000
/-! DL: what the head tells of classes, methods, written tables. -/
namespace DL
open PySem PySem.Spec PyProof.Rows L2
section
variable {K : Fg} {mg : Str → Option Value} {w : World}
theorem funM_mk {x m qual : Str} {st : Stmt} {ps : List Str} {fd : FuncData} (F : FunD K m qual (defArgs st) (defBody st) (defScope st) [] [] (He.fAd K (x, some m)) fd) (M : Meth K (He.ga K x) m (He.ma K (He.ga K x) m))
    (h : ∀ (kV doc pm : Value) (an : Option Addr) (cdv ct : Value) (us : List Value), us.length = ps.length → bindArgs (PySem.W.fnOf m qual (defArgs st) (defBody st) (defScope st) .none kV doc pm an cdv ct) ⟨us, []⟩ = pure (ps.zip us)) : FunM K (He.ga K x) m qual st ps := by
  have hb := F.bindsN h
  obtain ⟨oc, od, dV, kV, doc, pm, an, cdv, ct, osl, e, lk, hcd, hD, hK⟩ := F.ex
  rcases hD with ⟨_, rfl⟩ | ⟨z, _⟩
  · exact ⟨_, fd, ⟨⟨oc, od, kV, doc, pm, an, cdv, ct, osl, e, lk, hcd⟩, F.kp⟩, M, hb⟩
  · exact absurd rfl z
theorem funI_mk {x qual : Str} {st : Stmt} {ps : List Str} {fd : FuncData} (F : FunD K "__init__" qual (defArgs st) (defBody st) (defScope st) [] [] (He.fAd K (x, some "__init__")) fd) (M : Mk K (He.ga K x) (He.ma K (He.ga K x) "__init__")) (hm : mg x = some (.ref (He.ga K x)))
    (h : ∀ (kV doc pm : Value) (an : Option Addr) (cdv ct : Value) (us : List Value), us.length = ps.length → bindArgs (PySem.W.fnOf "__init__" qual (defArgs st) (defBody st) (defScope st) .none kV doc pm an cdv ct) ⟨us, []⟩ = pure (ps.zip us)) : FunI K mg x (He.ga K x) qual st ps := by
  have hb := F.bindsN h
  obtain ⟨oc, od, dV, kV, doc, pm, an, cdv, ct, osl, e, lk, hcd, hD, hK⟩ := F.ex
  rcases hD with ⟨_, rfl⟩ | ⟨z, _⟩
  · exact ⟨_, fd, ⟨⟨oc, od, kV, doc, pm, an, cdv, ct, osl, e, lk, hcd⟩, F.kp⟩, M, hb, hm⟩
  · exact absurd rfl z
theorem kTup_mk {x : Str} {vs : List He.Dv} (h : He.tupB K x vs = true) : KTup K (He.ga K x) (vs.map (He.Dv.v K)) := by
  have z := He.tupB_ok h (fun _ => none)
  rcases z with (z | ⟨o, z⟩) | z
  · cases (show (none : Option HO) = some (.tup (vs.map (He.Dv.v K))) from z)
  · cases (show (none : Option HO) = some (.frz o (.tup (vs.map (He.Dv.v K)))) from z)
  · exact z
theorem noneK {n : Nat} {e : DictEntry} {x z : Str} {t : Tok} (hx : x ≠ z) (ek : e.key = .str x t) : ¬ (e.key.isStr z = true) ∧ e.refKey = false := by
  unfold DictEntry.refKey
  rw [ek]
  exact ⟨fun q => hx (eq_of_beq (show (x == z) = true from q)), rfl⟩
/-- the keys of a written dict -/
theorem keys_mem {P : Params} : ∀ {l : List DictEntry} {ks : List Str}, l.map He.keyOf = He.keysIn P ks → ∀ e ∈ l, ∃ x ∈ ks, ∃ t, e.key = .str x t
  | [], _, _, e, he => by cases he
  | e :: r, [], h, _, _ => by cases h
  | e :: r, k :: ks, h, e', he => by
    have h1 : He.keyOf e :: r.map He.keyOf = some (k, PyData.keyHash P k) :: He.keysIn P ks := h
    injection h1 with h2 h3
    rcases List.mem_cons.mp he with rfl | he
    · unfold He.keyOf at h2
      split at h2
      · rename_i x t q
        obtain ⟨h5, h6⟩ := Prod.mk.inj (Option.some.inj h2)
        subst h5
        exact ⟨_, List.mem_cons_self, t, q⟩
      · cases h2
    · obtain ⟨x, hx, t, q⟩ := keys_mem h3 e' he
      exact ⟨x, List.mem_cons_of_mem _ hx, t, q⟩
theorem dicW_none {P : Params} {a : Addr} {ks : List Str} {z : Str} (h : He.dicW K a = some (He.keysIn P ks)) (hz : ∀ x ∈ ks, x ≠ z) : PySem.W.nsIn K a z = some none := by
  unfold He.dicW at h
  unfold PySem.W.nsIn
  cases q : K.lookup a with
  | none => rw [q] at h; cases h
  | some o =>
    obtain ⟨oc, od, dt, osl⟩ := o
    rw [q] at h
    cases oc with
    | type c =>
      cases od with
      | none =>
        cases dt with
        | dict es n =>
          have h1 : (match decide (c = "dict") && (osl.isEmpty && !(a == sysModules)) with
            | true => some (es.toList.map He.keyOf)
            | false => none) = some (He.keysIn P ks) := h
          cases zz : decide (c = "dict") && (osl.isEmpty && !(a == sysModules)) with
          | false => rw [zz] at h1; cases h1
          | true =>
            rw [zz] at h1
            have km := keys_mem (Option.some.inj h1)
            have f1 : es.toList.find? (·.key.isStr z) = none := by
              rw [List.find?_eq_none]
              intro e he
              obtain ⟨x, hx, t, ek⟩ := km e he
              exact (noneK (n := 0) (hz x hx) ek).1
            have f2 : es.toList.any (·.refKey) = false := by
              rw [List.any_eq_false]
              intro e he
              obtain ⟨x, hx, t, ek⟩ := km e he
              rw [(noneK (n := 0) (hz x hx) ek).2]
              exact Bool.false_ne_true
            show (match es.toList.find? (·.key.isStr z) with
              | some e => some (some e.val)
              | none => if es.toList.any (·.refKey) then none else some none) = some none
            rw [f1, f2]; rfl
        | _ => cases h
      | some b => cases dt <;> cases h
    | _ => cases od <;> cases dt <;> cases h
end
section
variable {K : Fg} {mg : Str → Option Value} {w : World}
theorem lookup_some {kvs : List (Str × Str)} {z s : Str} (hl : kvs.lookup z = some s) : (z, s) ∈ kvs := by
  induction kvs with
  | nil => cases hl
  | cons q r ih =>
    obtain ⟨k, v⟩ := q
    rw [List.lookup_cons] at hl
    cases e : (z == k) with
    | true =>
      rw [e] at hl
      cases hl
      rw [eq_of_beq e]; exact List.mem_cons_self
    | false =>
      rw [e] at hl
      exact List.mem_cons_of_mem _ (ih hl)
theorem lookup_none {kvs : List (Str × Str)} {z : Str} (hl : kvs.lookup z = none) : ∀ x ∈ kvs.map (·.1), x ≠ z := by
  induction kvs with
  | nil => exact fun x hx => by cases hx
  | cons q r ih =>
    obtain ⟨k, v⟩ := q
    rw [List.lookup_cons] at hl
    cases e : (z == k) with
    | true => rw [e] at hl; cases hl
    | false =>
      rw [e] at hl
      intro x hx
      rcases List.mem_cons.mp hx with hx | hx
      · subst hx
        intro q
        rw [← q, beq_self_eq_true] at e
        cases e
      · exact ih hl x hx
theorem kTab_mk {a : Addr} {kvs : List (Str × Str)} (h : He.dicW K a = some (He.keysIn w.params (kvs.map (·.1)))) (hv : He.valsB K a (kvs.map fun q => (q.1, He.Dv.str q.2)) = true) : KTab K w a kvs := by
  refine ⟨He.dicW_ok h, fun z => ?_⟩
  cases hl : kvs.lookup z with
  | some s =>
    obtain ⟨u, e1, e2⟩ := He.valsB_ok hv (q := (z, He.Dv.str s)) (List.mem_map.mpr ⟨_, lookup_some hl, rfl⟩)
    exact ⟨some u, e1, u, rfl, e2⟩
  | none => exact ⟨none, dicW_none h (lookup_none hl), rfl⟩
theorem saysT_tab {fa : List He.Fa} {fn : List He.DefD} {ts : List He.Tab} (c : He.SaysT fa fn ts w K) (i : Nat) {t : He.Tab} (h : ts[i]? = some t) : He.dicW K (t.1 K) = some (He.keysIn w.params t.2) := by
  have e : ts.map (fun t => He.dicW K (t.1 K)) = ts.map fun t => some (He.keysIn w.params t.2) := congrArg (fun z : He.AlT => z.2) c
  have e2 : (ts.map fun t => He.dicW K (t.1 K))[i]? = (ts.map fun t => some (He.keysIn w.params t.2))[i]? := by rw [e]
  rw [List.getElem?_map, List.getElem?_map, h] at e2
  exact Option.some.inj e2
theorem klass_mk {x : Str} {ks : List Str} (h1 : (He.Fa.cls x).ok K = true) (h2 : ∀ f ∈ ks, (He.Fa.noat x f).ok K = true) (nd : ks.Nodup) (few : ks.length < 1000) : Klass K (He.ga K x) ks :=
  ⟨He.cls_ok h1, fun f hf => He.noat_ok (h2 f hf), nd, few⟩
end
end DL
set_option Elab.async false
set_option linter.all false
set_option maxRecDepth 100000
set_option maxHeartbeats 0
namespace K19
open PySem PySem.Spec PyProof.Rows L2 DL PM
def dd_is_number : He.DefD := ⟨("is_number", none), "is_number", "is_number", defArgs s_is_number, defBody s_is_number, defScope s_is_number, [], []⟩
def dd_is_part : He.DefD := ⟨("is_part", none), "is_part", "is_part", defArgs s_is_part, defBody s_is_part, defScope s_is_part, [], []⟩
def dd_shape_of : He.DefD := ⟨("shape_of", none), "shape_of", "shape_of", defArgs s_shape_of, defBody s_shape_of, defScope s_shape_of, [], []⟩
def dd_why_not : He.DefD := ⟨("why_not", none), "why_not", "why_not", defArgs s_why_not, defBody s_why_not, defScope s_why_not, [], []⟩
def dd_need_program : He.DefD := ⟨("need_program", none), "need_program", "need_program", defArgs s_need_program, defBody s_need_program, defScope s_need_program, [], []⟩
def dd_part_words : He.DefD := ⟨("part_words", none), "part_words", "part_words", defArgs s_part_words, defBody s_part_words, defScope s_part_words, [], []⟩
def dd_row_text : He.DefD := ⟨("row_text", none), "row_text", "row_text", defArgs s_row_text, defBody s_row_text, defScope s_row_text, [], []⟩
def dd_written : He.DefD := ⟨("written", none), "written", "written", defArgs s_written, defBody s_written, defScope s_written, [], []⟩
def dd_number_of : He.DefD := ⟨("number_of", none), "number_of", "number_of", defArgs s_number_of, defBody s_number_of, defScope s_number_of, [], []⟩
def dd_name_of : He.DefD := ⟨("name_of", none), "name_of", "name_of", defArgs s_name_of, defBody s_name_of, defScope s_name_of, [], []⟩
def dd_part_of : He.DefD := ⟨("part_of", none), "part_of", "part_of", defArgs s_part_of, defBody s_part_of, defScope s_part_of, [], []⟩
def dd_row_of : He.DefD := ⟨("row_of", none), "row_of", "row_of", defArgs s_row_of, defBody s_row_of, defScope s_row_of, [], []⟩
def dd_read : He.DefD := ⟨("read", none), "read", "read", defArgs s_read, defBody s_read, defScope s_read, [], []⟩
def dd__law_dice : He.DefD := ⟨("_law_dice", none), "_law_dice", "_law_dice", defArgs s__law_dice, defBody s__law_dice, defScope s__law_dice, [], []⟩
def dd__law_next : He.DefD := ⟨("_law_next", none), "_law_next", "_law_next", defArgs s__law_next, defBody s__law_next, defScope s__law_next, [], []⟩
def dd__law_like : He.DefD := ⟨("_law_like", none), "_law_like", "_law_like", defArgs s__law_like, defBody s__law_like, defScope s__law_like, [], []⟩
def dd__law_any_part : He.DefD := ⟨("_law_any_part", none), "_law_any_part", "_law_any_part", defArgs s__law_any_part, defBody s__law_any_part, defScope s__law_any_part, [], []⟩
def dd__law_any_row : He.DefD := ⟨("_law_any_row", none), "_law_any_row", "_law_any_row", defArgs s__law_any_row, defBody s__law_any_row, defScope s__law_any_row, [], []⟩
def dd__law_any_program : He.DefD := ⟨("_law_any_program", none), "_law_any_program", "_law_any_program", defArgs s__law_any_program, defBody s__law_any_program, defScope s__law_any_program, [], []⟩
def dd__law_part_words : He.DefD := ⟨("_law_part_words", none), "_law_part_words", "_law_part_words", defArgs s__law_part_words, defBody s__law_part_words, defScope s__law_part_words, [], []⟩
def dd__law_text_rows : He.DefD := ⟨("_law_text_rows", none), "_law_text_rows", "_law_text_rows", defArgs s__law_text_rows, defBody s__law_text_rows, defScope s__law_text_rows, [], []⟩
def dd_law : He.DefD := ⟨("law", none), "law", "law", defArgs s_law, defBody s_law, defScope s_law, [], []⟩
def fn : List He.DefD := [dd_is_number, dd_is_part, dd_shape_of, dd_why_not, dd_need_program, dd_part_words, dd_row_text, dd_written, dd_number_of, dd_name_of, dd_part_of, dd_row_of, dd_read, dd__law_dice, dd__law_next, dd__law_like, dd__law_any_part, dd__law_any_row, dd__law_any_program, dd__law_part_words, dd__law_text_rows, dd_law]
def faA : List He.Fa := [.glo "is_number", .glo "is_part", .glo "shape_of", .glo "why_not", .glo "need_program", .glo "part_words", .glo "row_text", .glo "written", .glo "number_of", .glo "name_of", .glo "part_of", .glo "row_of", .glo "read", .glo "_law_dice", .glo "_law_next", .glo "_law_like", .glo "_law_any_part", .glo "_law_any_row", .glo "_law_any_program", .glo "_law_part_words", .glo "_law_text_rows", .glo "law", .free "len", .free "range", .free "int", .free "sum", .free "max", .free "min", .free "sorted", .free "list", .free "tuple", .free "isinstance", .free "enumerate", .free "str", .free "bool", .free "zip", .free "set", .free "dict", .int "REST" (10007), .int "MOST_NAMES" (8), .int "MOST_FILES" (4), .int "MOST_ROWS" (60), .int "MOST_DEEP" (3), .str "FIGURES" "0123456789", .glo "PAIRS", .glo "SHAPES", .glo "JUMPS"]
def fa : List He.Fa := faA
def ts : List He.Tab := [(fun K => He.ga K "SHAPES", shapes.map (·.1)), (fun K => He.ga K "JUMPS", jumps.map (·.1))]
def ex (K : PySem.W.Frag) : Bool := He.tupB K "PAIRS" [.str "sum", .str "diff", .str "less"] && (He.valsB K (He.ga K "SHAPES") (shapes.map fun q => (q.1, He.Dv.str q.2)) && (He.valsB K (He.ga K "JUMPS") (jumps.map fun q => (q.1, He.Dv.str q.2))))
abbrev Rw : PySem.W.OpenRow := PySem.W.OpenLaw.row PySem.Challenge.rw_longwork_k19_written_and_read
abbrev hk : PySem.W.Hook := He.hookX 5 fa fn ts [] ex
def ob (s : PySem.W.SharedT) : He.AlX := He.obsX 5 fa fn ts [] ex (HandSHeadRun.getT s)
theorem ob_eq (s : PySem.W.SharedT) : ob s = hk.obs s.abs := He.obsX_eq (HandSHeadRun.getT_eq s)
def loose0 : List Str := ["WorkError", "BadProgram", "BadText", "REST", "MOST_NAMES", "MOST_FILES", "MOST_ROWS", "MOST_DEEP", "SHAPES", "JUMPS", "PAIRS", "is_number", "is_part", "shape_of", "why_not", "need_program", "FIGURES", "part_words", "row_text", "written", "number_of", "name_of", "part_of", "row_of", "read", "_law_dice", "_law_next", "_law_like", "_law_any_part", "_law_any_row"]
def loose1 : List Str := ["_law_any_program", "_law_part_words", "_law_text_rows"]
def loose : List Str := loose0 ++ loose1
theorem runF (w : World) : HandSHeadRun.RunEq Rw (PySem.W.view Rw.prog [37]) hk ob 6000 loose (w.withFollow "special-get-raises" false) := by
  intro os
  kernel_rfl
theorem runT (w : World) : HandSHeadRun.RunEq Rw (PySem.W.view Rw.prog [37]) hk ob 6000 loose (w.withFollow "special-get-raises" true) := by
  intro os
  kernel_rfl
theorem run (w : World) : HandSHeadRun.RunEq Rw (PySem.W.view Rw.prog [37]) hk ob 6000 loose w := PySem.W.byRow2 "special-get-raises" (P := fun w => HandSHeadRun.RunEq Rw (PySem.W.view Rw.prog [37]) hk ob 6000 loose w) runF runT w
theorem facts {P : Program} {w : World} {K : Fg} {h : Heap} {mg : Str → Option Value} {f : Addr} (X : K.In h) (G : h.Ns mainGlobals mg) (hfa : mg ("law" : Str) = some (.ref f)) (c : He.SaysX fa fn ts [] ex w h K) :
    ∃ fd : FuncData, (∀ (s : Shared) (v : Value), BindsTo s fd ⟨[v], []⟩ [("_law_script", v)]) ∧ ∀ base : Heap, K.In base → base.Ns mainGlobals mg → FnOk P w K mg base CX0 10 f fd ["_law_script"] (toSp K 1 spLaw) := by
  have F_is_number : FunAt K mg "is_number" s_is_number ["part", "low", "high"] := by
    obtain ⟨fd, F⟩ := c.t.d.def_ 0 (d := dd_is_number) rfl
    exact funAt_mk F (He.glo_ok X G (c.t.d.fact 0 (f := .glo "is_number") rfl)) fun _ _ _ _ _ _ us hl => match us, hl with | [_, _, _], _ => rfl
  have F_is_part : FunAt K mg "is_part" s_is_part ["part", "names", "deep"] := by
    obtain ⟨fd, F⟩ := c.t.d.def_ 1 (d := dd_is_part) rfl
    exact funAt_mk F (He.glo_ok X G (c.t.d.fact 1 (f := .glo "is_part") rfl)) fun _ _ _ _ _ _ us hl => match us, hl with | [_, _, _], _ => rfl
  have F_shape_of : FunAt K mg "shape_of" s_shape_of ["word"] := by
    obtain ⟨fd, F⟩ := c.t.d.def_ 2 (d := dd_shape_of) rfl
    exact funAt_mk F (He.glo_ok X G (c.t.d.fact 2 (f := .glo "shape_of") rfl)) fun _ _ _ _ _ _ us hl => match us, hl with | [_], _ => rfl
  have F_why_not : FunAt K mg "why_not" s_why_not ["row", "names", "files", "many"] := by
    obtain ⟨fd, F⟩ := c.t.d.def_ 3 (d := dd_why_not) rfl
    exact funAt_mk F (He.glo_ok X G (c.t.d.fact 3 (f := .glo "why_not") rfl)) fun _ _ _ _ _ _ us hl => match us, hl with | [_, _, _, _], _ => rfl
  have F_need_program : FunAt K mg "need_program" s_need_program ["program"] := by
    obtain ⟨fd, F⟩ := c.t.d.def_ 4 (d := dd_need_program) rfl
    exact funAt_mk F (He.glo_ok X G (c.t.d.fact 4 (f := .glo "need_program") rfl)) fun _ _ _ _ _ _ us hl => match us, hl with | [_], _ => rfl
  have F_part_words : FunAt K mg "part_words" s_part_words ["part"] := by
    obtain ⟨fd, F⟩ := c.t.d.def_ 5 (d := dd_part_words) rfl
    exact funAt_mk F (He.glo_ok X G (c.t.d.fact 5 (f := .glo "part_words") rfl)) fun _ _ _ _ _ _ us hl => match us, hl with | [_], _ => rfl
  have F_row_text : FunAt K mg "row_text" s_row_text ["row"] := by
    obtain ⟨fd, F⟩ := c.t.d.def_ 6 (d := dd_row_text) rfl
    exact funAt_mk F (He.glo_ok X G (c.t.d.fact 6 (f := .glo "row_text") rfl)) fun _ _ _ _ _ _ us hl => match us, hl with | [_], _ => rfl
  have F_written : FunAt K mg "written" s_written ["program"] := by
    obtain ⟨fd, F⟩ := c.t.d.def_ 7 (d := dd_written) rfl
    exact funAt_mk F (He.glo_ok X G (c.t.d.fact 7 (f := .glo "written") rfl)) fun _ _ _ _ _ _ us hl => match us, hl with | [_], _ => rfl
  have F_number_of : FunAt K mg "number_of" s_number_of ["word"] := by
    obtain ⟨fd, F⟩ := c.t.d.def_ 8 (d := dd_number_of) rfl
    exact funAt_mk F (He.glo_ok X G (c.t.d.fact 8 (f := .glo "number_of") rfl)) fun _ _ _ _ _ _ us hl => match us, hl with | [_], _ => rfl
  have F_name_of : FunAt K mg "name_of" s_name_of ["word"] := by
    obtain ⟨fd, F⟩ := c.t.d.def_ 9 (d := dd_name_of) rfl
    exact funAt_mk F (He.glo_ok X G (c.t.d.fact 9 (f := .glo "name_of") rfl)) fun _ _ _ _ _ _ us hl => match us, hl with | [_], _ => rfl
  have F_part_of : FunAt K mg "part_of" s_part_of ["words", "at"] := by
    obtain ⟨fd, F⟩ := c.t.d.def_ 10 (d := dd_part_of) rfl
    exact funAt_mk F (He.glo_ok X G (c.t.d.fact 10 (f := .glo "part_of") rfl)) fun _ _ _ _ _ _ us hl => match us, hl with | [_, _], _ => rfl
  have F_row_of : FunAt K mg "row_of" s_row_of ["words"] := by
    obtain ⟨fd, F⟩ := c.t.d.def_ 11 (d := dd_row_of) rfl
    exact funAt_mk F (He.glo_ok X G (c.t.d.fact 11 (f := .glo "row_of") rfl)) fun _ _ _ _ _ _ us hl => match us, hl with | [_], _ => rfl
  have F_read : FunAt K mg "read" s_read ["text"] := by
    obtain ⟨fd, F⟩ := c.t.d.def_ 12 (d := dd_read) rfl
    exact funAt_mk F (He.glo_ok X G (c.t.d.fact 12 (f := .glo "read") rfl)) fun _ _ _ _ _ _ us hl => match us, hl with | [_], _ => rfl
  have F__law_dice : FunAt K mg "_law_dice" s__law_dice ["_law_script"] := by
    obtain ⟨fd, F⟩ := c.t.d.def_ 13 (d := dd__law_dice) rfl
    exact funAt_mk F (He.glo_ok X G (c.t.d.fact 13 (f := .glo "_law_dice") rfl)) fun _ _ _ _ _ _ us hl => match us, hl with | [_], _ => rfl
  have F__law_next : FunAt K mg "_law_next" s__law_next ["_law_dice_here", "_law_many"] := by
    obtain ⟨fd, F⟩ := c.t.d.def_ 14 (d := dd__law_next) rfl
    exact funAt_mk F (He.glo_ok X G (c.t.d.fact 14 (f := .glo "_law_next") rfl)) fun _ _ _ _ _ _ us hl => match us, hl with | [_, _], _ => rfl
  have F__law_like : FunAt K mg "_law_like" s__law_like ["_law_found", "_law_due"] := by
    obtain ⟨fd, F⟩ := c.t.d.def_ 15 (d := dd__law_like) rfl
    exact funAt_mk F (He.glo_ok X G (c.t.d.fact 15 (f := .glo "_law_like") rfl)) fun _ _ _ _ _ _ us hl => match us, hl with | [_, _], _ => rfl
  have F__law_any_part : FunAt K mg "_law_any_part" s__law_any_part ["_law_d", "_law_names", "_law_deep"] := by
    obtain ⟨fd, F⟩ := c.t.d.def_ 16 (d := dd__law_any_part) rfl
    exact funAt_mk F (He.glo_ok X G (c.t.d.fact 16 (f := .glo "_law_any_part") rfl)) fun _ _ _ _ _ _ us hl => match us, hl with | [_, _, _], _ => rfl
  have F__law_any_row : FunAt K mg "_law_any_row" s__law_any_row ["_law_d", "_law_names", "_law_files", "_law_at", "_law_many"] := by
    obtain ⟨fd, F⟩ := c.t.d.def_ 17 (d := dd__law_any_row) rfl
    exact funAt_mk F (He.glo_ok X G (c.t.d.fact 17 (f := .glo "_law_any_row") rfl)) fun _ _ _ _ _ _ us hl => match us, hl with | [_, _, _, _, _], _ => rfl
  have F__law_any_program : FunAt K mg "_law_any_program" s__law_any_program ["_law_d", "_law_most"] := by
    obtain ⟨fd, F⟩ := c.t.d.def_ 18 (d := dd__law_any_program) rfl
    exact funAt_mk F (He.glo_ok X G (c.t.d.fact 18 (f := .glo "_law_any_program") rfl)) fun _ _ _ _ _ _ us hl => match us, hl with | [_, _], _ => rfl
  have F__law_part_words : FunAt K mg "_law_part_words" s__law_part_words ["_law_part"] := by
    obtain ⟨fd, F⟩ := c.t.d.def_ 19 (d := dd__law_part_words) rfl
    exact funAt_mk F (He.glo_ok X G (c.t.d.fact 19 (f := .glo "_law_part_words") rfl)) fun _ _ _ _ _ _ us hl => match us, hl with | [_], _ => rfl
  have F__law_text_rows : FunAt K mg "_law_text_rows" s__law_text_rows ["_law_p"] := by
    obtain ⟨fd, F⟩ := c.t.d.def_ 20 (d := dd__law_text_rows) rfl
    exact funAt_mk F (He.glo_ok X G (c.t.d.fact 20 (f := .glo "_law_text_rows") rfl)) fun _ _ _ _ _ _ us hl => match us, hl with | [_], _ => rfl
  have F_law : FunAt K mg "law" s_law ["_law_script"] := by
    obtain ⟨fd, F⟩ := c.t.d.def_ 21 (d := dd_law) rfl
    exact funAt_mk F (He.glo_ok X G (c.t.d.fact 21 (f := .glo "law") rfl)) fun _ _ _ _ _ _ us hl => match us, hl with | [_], _ => rfl
  have B : Blt mg := ⟨He.free_ok X G (c.t.d.fact 22 (f := .free "len") rfl), He.free_ok X G (c.t.d.fact 23 (f := .free "range") rfl), He.free_ok X G (c.t.d.fact 24 (f := .free "int") rfl), He.free_ok X G (c.t.d.fact 25 (f := .free "sum") rfl), He.free_ok X G (c.t.d.fact 26 (f := .free "max") rfl), He.free_ok X G (c.t.d.fact 27 (f := .free "min") rfl), He.free_ok X G (c.t.d.fact 28 (f := .free "sorted") rfl), He.free_ok X G (c.t.d.fact 29 (f := .free "list") rfl), He.free_ok X G (c.t.d.fact 30 (f := .free "tuple") rfl), He.free_ok X G (c.t.d.fact 31 (f := .free "isinstance") rfl), He.free_ok X G (c.t.d.fact 32 (f := .free "enumerate") rfl), He.free_ok X G (c.t.d.fact 33 (f := .free "str") rfl), He.free_ok X G (c.t.d.fact 34 (f := .free "bool") rfl), He.free_ok X G (c.t.d.fact 35 (f := .free "zip") rfl), He.free_ok X G (c.t.d.fact 36 (f := .free "set") rfl), He.free_ok X G (c.t.d.fact 37 (f := .free "dict") rfl)⟩
  obtain ⟨t_REST, c_REST⟩ := He.int_ok X G (c.t.d.fact 38 (f := .int "REST" (10007)) rfl)
  obtain ⟨t_MOST_NAMES, c_MOST_NAMES⟩ := He.int_ok X G (c.t.d.fact 39 (f := .int "MOST_NAMES" (8)) rfl)
  obtain ⟨t_MOST_FILES, c_MOST_FILES⟩ := He.int_ok X G (c.t.d.fact 40 (f := .int "MOST_FILES" (4)) rfl)
  obtain ⟨t_MOST_ROWS, c_MOST_ROWS⟩ := He.int_ok X G (c.t.d.fact 41 (f := .int "MOST_ROWS" (60)) rfl)
  obtain ⟨t_MOST_DEEP, c_MOST_DEEP⟩ := He.int_ok X G (c.t.d.fact 42 (f := .int "MOST_DEEP" (3)) rfl)
  obtain ⟨t_FIGURES, c_FIGURES⟩ := He.str_ok X G (c.t.d.fact 43 (f := .str "FIGURES" "0123456789") rfl)
  have ex0 : ex K = true := c.more
  unfold ex at ex0
  obtain ⟨m_PAIRS, ex1⟩ := He.ba ex0
  obtain ⟨v_SHAPES, ex2⟩ := He.ba ex1
  have v_JUMPS := ex2
  have g_PAIRS : mg "PAIRS" = some (.ref (He.ga K "PAIRS")) := He.glo_ok X G (c.t.d.fact 44 (f := .glo "PAIRS") rfl)
  have k_PAIRS : KTup K (He.ga K "PAIRS") ((["sum", "diff", "less"] : List Str).map V.str) := kTup_mk m_PAIRS
  have g_SHAPES : mg "SHAPES" = some (.ref (He.ga K "SHAPES")) := He.glo_ok X G (c.t.d.fact 45 (f := .glo "SHAPES") rfl)
  have k_SHAPES : KTab K w (He.ga K "SHAPES") shapes := kTab_mk (saysT_tab c.t 0 rfl) v_SHAPES
  have g_JUMPS : mg "JUMPS" = some (.ref (He.ga K "JUMPS")) := He.glo_ok X G (c.t.d.fact 46 (f := .glo "JUMPS") rfl)
  have k_JUMPS : KTab K w (He.ga K "JUMPS") jumps := kTab_mk (saysT_tab c.t 1 rfl) v_JUMPS
  obtain ⟨fd, Fd⟩ := c.t.d.def_ 21 (d := dd_law) rfl
  have e := hfa.symm.trans (He.glo_ok X G (c.t.d.fact 21 (f := .glo "law") rfl))
  cases e
  refine ⟨fd, fun s v => FunD.bindsA (ps := ["_law_script"]) Fd (fun _ _ _ _ _ _ us hl => match us, hl with | [_], _ => rfl) s [v] rfl, fun base _ _ => ?_⟩
  have D_num : Def P w K mg base "is_number" 1 3 spIsNumber := ok_is_number F_is_number B
  have D_part : Def P w K mg base "is_part" 5 3 (spIsPart 3) := ok_is_part F_is_part B D_num g_PAIRS k_PAIRS c_REST 3
  have D_shape : Def P w K mg base "shape_of" 1 1 spShapeOf := ok_shape_of F_shape_of B g_SHAPES k_SHAPES g_JUMPS k_JUMPS
  have D_why : Def P w K mg base "why_not" 6 4 spWhyNot := ok_why_not F_why_not B D_num D_part D_shape c_MOST_DEEP
  have D_np : Def P w K mg base "need_program" 7 1 spNeedProgram := ok_need_program F_need_program B D_num D_why c_MOST_NAMES c_MOST_FILES c_MOST_ROWS
  have D_next : Def P w K mg base "_law_next" 1 2 spNext := ok_next F__law_next B
  have D_apart : Def P w K mg base "_law_any_part" 5 3 (spAnyPart 3) := ok_any_part F__law_any_part B D_next 3
  have D_arow : Def P w K mg base "_law_any_row" 6 5 spAnyRow := ok_any_row F__law_any_row B D_next D_apart
  have D_aprog : Def P w K mg base "_law_any_program" 7 2 spAnyProgram := ok_any_program F__law_any_program B D_next D_arow
  have D_pw : Def P w K mg base "part_words" 5 1 (spPartWords 3) := ok_part_words F_part_words B g_PAIRS k_PAIRS 3
  have D_rt : Def P w K mg base "row_text" 6 1 spRowText := ok_row_text F_row_text B D_shape D_pw
  have D_wr : Def P w K mg base "written" 9 1 spWritten := ok_written F_written B D_np D_rt
  have D_no : Def P w K mg base "number_of" 1 1 spNumberOf := ok_number_of F_number_of B c_FIGURES
  have D_na : Def P w K mg base "name_of" 2 1 spNameOf := ok_name_of F_name_of B D_no
  have D_po : Def P w K mg base "part_of" 6 2 (spPartOf 3) := ok_part_of F_part_of B D_no D_na g_PAIRS k_PAIRS 3
  have D_ro : Def P w K mg base "row_of" 7 1 spRowOf := ok_row_of F_row_of B D_shape D_po D_no D_na
  have D_rd : Def P w K mg base "read" 9 1 spRead := ok_read F_read B D_no (frameF D_ro) D_np
  have D_tr : Def P w K mg base "_law_text_rows" 6 1 spTextRows := ok_text_rows F__law_text_rows B (ok_lpw F__law_part_words B 3)
  have L : DefL P w K mg base "law" s_law ["_law_script"] 10 1 spLaw := ok_law F_law B (ok_dice F__law_dice B) D_next D_aprog D_tr (frameF D_rd) (frameF D_wr) (ok_like F__law_like B 7)
  obtain ⟨f', fd', Fu, hm, ok⟩ := L.ex
  have e1 := hfa.symm.trans hm
  cases e1
  have e2 : fd = fd' := by
    obtain ⟨oc, od, dV, kV, doc, pm, an, cdv, ct, osl, e, lk, hcd, hD, hK⟩ := Fd.ex
    obtain ⟨oc', od', kV', doc', pm', an', cdv', ct', osl', e', lk', hcd'⟩ := Fu.ex
    have lk2 := (show K.lookup (He.ga K "law") = _ from lk).symm.trans lk'
    cases lk2
    rfl
  rw [e2]
  exact ok
end K19
open PySem PySem.W PySem.Calls PyProof.Rows
set_option maxRecDepth 100000 in
set_option maxHeartbeats 0 in
theorem PySem.Challenge.cw_longwork_k19_written_and_read_holds : PySem.Challenge.rw_longwork_k19_written_and_read.Holds := by
  w_on; o_law
  refine HandSHeadRun.head_any (r := OpenLaw.row PySem.Challenge.rw_longwork_k19_written_and_read) (q := view (OpenLaw.row PySem.Challenge.rw_longwork_k19_written_and_read).prog [37]) (H := K19.hk) (ob := K19.ob) (M := 6000) (loose := K19.loose) (d := HandSHeadRun.topDef (OpenLaw.row PySem.Challenge.rw_longwork_k19_written_and_read).prog 37) (kwd := []) K19.ob_eq
    (by kernel_rfl) (fun s => by kernel_rfl) K19.run (by kernel_rfl) (by kernel_rfl) (by kernel_rfl) (by rfl) (by first | assumption | decide +kernel) (by decide +kernel) ⟨rfl, rfl, rfl, rfl, rfl, by decide +kernel⟩ ?hw ?hc
  case hw => w_witness2
  case hc =>
    refine L2.walk_ofE (l := PySem.Challenge.rw_longwork_k19_written_and_read) (n := 63) (k := 10) (x := "_law_script") (CX := L2.CX0) rfl (by decide) (by kernel_rfl) ⟨rfl, by decide, by decide⟩ ?F (fun _ _ _ _ z => z)
    intro w mg fa h Y G hmg0
    obtain ⟨K, KX, c⟩ := Y
    have hmg : mg ("law" : PySem.Str) = some (.ref fa) := by
      have e : (HandSHeadRun.topDef (OpenLaw.row PySem.Challenge.rw_longwork_k19_written_and_read).prog 37).name = ("law" : PySem.Str) := by kernel_rfl
      rw [← e]
      exact hmg0
    obtain ⟨fd, hb, hF⟩ := K19.facts (P := (PySem.Challenge.rw_longwork_k19_written_and_read).prog) (w := w) KX G hmg c
    exact ⟨K, fd, DL.toSp K 1 K19.spLaw, KX, hb, fun H a ns hl hO hS => DL.law_sp hl hO hS fun C hC => ⟨ns, rfl, hl, hC⟩, hF⟩
