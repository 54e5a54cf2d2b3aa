import PyProof.Rows.All
import Wide.All
import OpenK.AllK
import Wide.FinOn
import HandS.ForMost
import HandS.Wide
import HandS.IsInst
import HandS.SortInts
import HandS.EndBits
import HandS.TupAny
import HandS.TupMul
import KE.LtData
import HandS.Style
import HandS.More
import HandS.Zip
import HandS.HeadHook3
import KE.GoesMore
import KE.GoesNew
import KE.GoesEnum
import PySem.Challenge.RW_longwork_k17_whole_redone_as_reckoned
import HandS.Defaults
import HandS.Head0
import HandS.Head1
import HandS.Head2
import HandS.HeadEnd
import HandS.HeadHook1
import HandS.HeadHook2
import HandS.HeadHook4
import HandS.Deep
import KE.DataFind
import HandS.Conv
set_option Elab.async false
set_option linter.all false
set_option maxRecDepth 100000
set_option maxHeartbeats 4000000
/-! DL, first part: live values known by data, a symbolic heap of cells, and how readings of the hand layer are lifted over them. -/
namespace DL
open PySem PySem.Spec PyProof.Rows L2

abbrev Fg := PySem.W.Frag

/-- what a live value is known as: data, or itself -/
inductive R where
  | dat (d : PyData)
  | val (v : V)
  | scr (ns : List Int)
  | tp (rs : List R)
  | obj (C : Addr) (ks : List Str) (rs : List R)
  | dic (ks : List Key) (rs : List R)

def KTup (K : Fg) (a : Addr) (xs : List V) : Prop := ∃ (o : Obj) (its : Array Value) (n : Nat), K.lookup a = some o ∧ o.cls = .type "tuple" ∧ o.data = .seq its n ∧ its.size ≤ sizeLine ∧ Vals xs its.toList

mutual
inductive Rep (K : Fg) (A : Addr → Prop) (H : Hp) : V → PyData → Prop
  | non : Rep K A H .non .none
  | bl (b : Bool) : Rep K A H (.bl b) (.bool b)
  | int (i : Int) : Rep K A H (.int i) (.int i)
  | str (x : Str) : Rep K A H (.str x) (.str x)
  | lst {a : Addr} {xs : List V} {ds : List PyData} : H a = some (.lst xs) → ¬ A a → RepAll K A H xs ds → Rep K A H (.ref a) (.list ds)
  | tup {a : Addr} {xs : List V} {ds : List PyData} : (H a = some (.tup xs) ∨ KTup K a xs) → RepAll K A H xs ds → Rep K A H (.ref a) (.tuple ds)
inductive RepAll (K : Fg) (A : Addr → Prop) (H : Hp) : List V → List PyData → Prop
  | nil : RepAll K A H [] []
  | cons {v : V} {vs : List V} {d : PyData} {ds : List PyData} : Rep K A H v d → RepAll K A H vs ds → RepAll K A H (v :: vs) (d :: ds)
end

/-- a step of the heap and of the addresses to be kept off that data outlives -/
structure Stp (A A' : Addr → Prop) (H H' : Hp) : Prop where
  l : ∀ a xs, H a = some (.lst xs) → ¬ A a → H' a = some (.lst xs) ∧ ¬ A' a
  t : ∀ a xs, H a = some (.tup xs) → H' a = some (.tup xs)
  f : ∀ a o u, H a = some (.frz o u) → H' a = some (.frz o u)
  i : ∀ a C dx ws, H a = some (.ins C dx ws) → ¬ A a → H' a = some (.ins C dx ws) ∧ ¬ A' a
  d : ∀ a ws, H a = some (.dK ws) → ¬ A a → H' a = some (.dK ws) ∧ ¬ A' a
theorem Stp.refl {A : Addr → Prop} {H : Hp} : Stp A A H H := ⟨fun _ _ h n => ⟨h, n⟩, fun _ _ h => h, fun _ _ _ h => h, fun _ _ _ _ h n => ⟨h, n⟩, fun _ _ h n => ⟨h, n⟩⟩
section
variable {K : Fg} {A A' : Addr → Prop} {H H' : Hp}
mutual
theorem Rep.stp (s : Stp A A' H H') : ∀ {v : V} {d : PyData}, Rep K A H v d → Rep K A' H' v d
  | _, _, .non => .non
  | _, _, .bl b => .bl b
  | _, _, .int i => .int i
  | _, _, .str x => .str x
  | _, _, .lst h n q => .lst (s.l _ _ h n).1 (s.l _ _ h n).2 (RepAll.stp s q)
  | _, _, .tup h q => .tup (h.imp (s.t _ _) id) (RepAll.stp s q)
theorem RepAll.stp (s : Stp A A' H H') : ∀ {v : List V} {d : List PyData}, RepAll K A H v d → RepAll K A' H' v d
  | _, _, .nil => .nil
  | _, _, .cons h q => .cons (Rep.stp s h) (RepAll.stp s q)
end
mutual
theorem Rep.dp : ∀ {v : V} {d : PyData}, Rep K A H v d → Dp K H v d
  | _, _, .non => .non
  | _, _, .bl b => .bl b
  | _, _, .int i => .int i
  | _, _, .str x => .str x
  | _, _, .lst h n q => .lst (SqL.of h) (RepAll.dp q)
  | _, _, .tup (.inl h) q => .tup (SqT.of h) (RepAll.dp q)
  | _, _, .tup (.inr h) q => .tup (.inr h) (RepAll.dp q)
theorem RepAll.dp : ∀ {v : List V} {d : List PyData}, RepAll K A H v d → DpAll K H v d
  | _, _, .nil => .nil
  | _, _, .cons h q => .cons (Rep.dp h) (RepAll.dp q)
end
theorem RepAll.length : ∀ {vs : List V} {ds : List PyData}, RepAll K A H vs ds → vs.length = ds.length
  | _, _, .nil => rfl
  | _, _, .cons _ q => by rw [List.length_cons, List.length_cons, RepAll.length q]
theorem RepAll.get : ∀ {vs : List V} {ds : List PyData} {i : Nat} {v : V}, RepAll K A H vs ds → vs[i]? = some v → ∃ d, ds[i]? = some d ∧ Rep K A H v d
  | _, _, _, _, .nil, e => by simp at e
  | _, _, 0, _, .cons r _, e => by simp at e; subst e; exact ⟨_, rfl, r⟩
  | _, _, i + 1, v, .cons _ t, e => by
    obtain ⟨d, h1, h2⟩ := RepAll.get (i := i) (v := v) t (by simpa using e)
    exact ⟨d, by simpa using h1, h2⟩
theorem RepAll.get' : ∀ {vs : List V} {ds : List PyData} {i : Nat} {d : PyData}, RepAll K A H vs ds → ds[i]? = some d → ∃ v, vs[i]? = some v ∧ Rep K A H v d
  | _, _, _, _, .nil, e => by simp at e
  | _, _, 0, _, .cons r _, e => by simp at e; subst e; exact ⟨_, rfl, r⟩
  | _, _, i + 1, v, .cons _ t, e => by
    obtain ⟨d, h1, h2⟩ := RepAll.get' (i := i) (d := v) t (by simpa using e)
    exact ⟨d, by simpa using h1, h2⟩
theorem RepAll.append : ∀ {vs ws : List V} {ds es : List PyData}, RepAll K A H vs ds → RepAll K A H ws es → RepAll K A H (vs ++ ws) (ds ++ es)
  | _, _, _, _, .nil, q => q
  | _, _, _, _, .cons h t, q => .cons h (RepAll.append t q)
theorem RepAll.take : ∀ {vs : List V} {ds : List PyData} (n : Nat), RepAll K A H vs ds → RepAll K A H (vs.take n) (ds.take n)
  | _, _, 0, _ => .nil
  | _, _, _ + 1, .nil => .nil
  | _, _, n + 1, .cons h t => .cons h (RepAll.take n t)
theorem RepAll.drop : ∀ {vs : List V} {ds : List PyData} (n : Nat), RepAll K A H vs ds → RepAll K A H (vs.drop n) (ds.drop n)
  | _, _, 0, h => h
  | _, _, _ + 1, .nil => .nil
  | _, _, n + 1, .cons _ t => RepAll.drop n t
theorem RepAll.reverse {vs : List V} {ds : List PyData} (h : RepAll K A H vs ds) : RepAll K A H vs.reverse ds.reverse := by
  induction ds generalizing vs with
  | nil => cases h; exact .nil
  | cons d ds ih =>
    cases h with
    | cons h t =>
      rw [List.reverse_cons, List.reverse_cons]
      exact RepAll.append (ih t) (.cons h .nil)
theorem RepAll.rep {vs : List V} {ds : List PyData} (h : RepAll K A H vs ds) : ∀ n : Nat, RepAll K A H (List.replicate n vs).flatten (List.replicate n ds).flatten
  | 0 => .nil
  | n + 1 => by
    rw [List.replicate_succ, List.replicate_succ, List.flatten_cons, List.flatten_cons]
    exact RepAll.append h (RepAll.rep h n)
theorem RepAll.ints : ∀ (ns : List Int), RepAll K A H (ns.map V.int) (ns.map PyData.int)
  | [] => .nil
  | n :: ns => .cons (.int n) (RepAll.ints ns)
theorem RepAll.strs : ∀ (ns : List Str), RepAll K A H (ns.map V.str) (ns.map PyData.str)
  | [] => .nil
  | n :: ns => .cons (.str n) (RepAll.strs ns)
theorem RepAll.ints_inv : ∀ {ns : List Int} {vs : List V}, RepAll K A H vs (ns.map PyData.int) → vs = ns.map V.int
  | [], _, .nil => rfl
  | n :: ns, _, .cons h t => by cases h; rw [RepAll.ints_inv t]; rfl
theorem RepAll.strs_inv : ∀ {ns : List Str} {vs : List V}, RepAll K A H vs (ns.map PyData.str) → vs = ns.map V.str
  | [], _, .nil => rfl
  | n :: ns, _, .cons h t => by cases h; rw [RepAll.strs_inv t]; rfl
theorem RepAll.bls_inv : ∀ {ns : List Bool} {vs : List V}, RepAll K A H vs (ns.map PyData.bool) → vs = ns.map V.bl
  | [], _, .nil => rfl
  | n :: ns, _, .cons h t => by cases h; rw [RepAll.bls_inv t]; rfl
end

/-- the script: locked, or written -/
def ScrAt (K : Fg) (H : Hp) (a : Addr) (xs : List V) : Prop := (∃ o, H a = some (.frz o (.lst xs))) ∨
  ∃ (o : Obj) (its : Array Value) (n : Nat), K.lookup a = some o ∧ o.cls = .type "list" ∧ o.dict = none ∧ o.data = .seq its n ∧ its.size ≤ sizeLine ∧ Vals xs its.toList
theorem ScrAt.sq {K : Fg} {H : Hp} {a : Addr} {xs : List V} (h : ScrAt K H a xs) : SqL K H a xs := h.imp (fun ⟨o, e⟩ => .inr ⟨o, e⟩) id
theorem ScrAt.of {K : Fg} {H : Hp} {a : Addr} {xs : List V} (hO : Only H) (h : SqL K H a xs) : ScrAt K H a xs := by
  rcases h with (h | ⟨o, e⟩) | h
  · rcases hO a with z | ⟨o, ys, z⟩
    · rw [z] at h; cases h
    · rw [z] at h; cases h
  · exact .inl ⟨o, e⟩
  · exact .inr h
mutual
def RepR (K : Fg) (A : Addr → Prop) (H : Hp) : V → R → Prop
  | v, .dat d => Rep K A H v d
  | v, .val w => v = w
  | v, .scr ns => ∃ a, v = .ref a ∧ ScrAt K H a (ns.map V.int)
  | v, .tp rs => ∃ a vs, v = .ref a ∧ (H a = some (.tup vs) ∨ KTup K a vs) ∧ RepRl K A H vs rs
  | v, .obj C ks rs => ∃ a dx vs, v = .ref a ∧ H a = some (.ins C dx (ks.zip vs)) ∧ ¬ A a ∧ vs.length = ks.length ∧ RepRl K A H vs rs
  | v, .dic ks rs => ∃ a vs, v = .ref a ∧ H a = some (.dK (ks.zip vs)) ∧ ¬ A a ∧ vs.length = ks.length ∧ RepRl K A H vs rs
def RepRl (K : Fg) (A : Addr → Prop) (H : Hp) : List V → List R → Prop
  | [], [] => True
  | v :: vs, r :: rs => RepR K A H v r ∧ RepRl K A H vs rs
  | [], _ :: _ => False
  | _ :: _, [] => False
end
mutual
theorem RepR.stp {K : Fg} {A A' : Addr → Prop} {H H' : Hp} (s : Stp A A' H H') : ∀ {v : V} {r : R}, RepR K A H v r → RepR K A' H' v r
  | _, .dat d, h => Rep.stp s h
  | _, .val w, h => h
  | _, .scr ns, h => by obtain ⟨a, e, h⟩ := h; exact ⟨a, e, h.imp (fun ⟨o, h⟩ => ⟨o, s.f _ _ _ h⟩) id⟩
  | _, .tp rs, h => by obtain ⟨a, vs, e, h, q⟩ := h; exact ⟨a, vs, e, h.imp (s.t _ _) id, RepRl.stp s q⟩
  | _, .obj C ks rs, h => by obtain ⟨a, dx, vs, e, h, n, l, q⟩ := h; exact ⟨a, dx, vs, e, (s.i _ _ _ _ h n).1, (s.i _ _ _ _ h n).2, l, RepRl.stp s q⟩
  | _, .dic ks rs, h => by obtain ⟨a, vs, e, h, n, l, q⟩ := h; exact ⟨a, vs, e, (s.d _ _ h n).1, (s.d _ _ h n).2, l, RepRl.stp s q⟩
theorem RepRl.stp {K : Fg} {A A' : Addr → Prop} {H H' : Hp} (s : Stp A A' H H') : ∀ {v : List V} {r : List R}, RepRl K A H v r → RepRl K A' H' v r
  | [], [], h => h
  | _ :: _, _ :: _, h => ⟨RepR.stp s h.1, RepRl.stp s h.2⟩
  | [], _ :: _, h => h.elim
  | _ :: _, [], h => h.elim
end
abbrev RepRs (K : Fg) (A : Addr → Prop) (H : Hp) : List V → List R → Prop := Paired (RepR K A H)
theorem RepRl.pair {K : Fg} {A : Addr → Prop} {H : Hp} : ∀ {vs : List V} {rs : List R}, RepRl K A H vs rs → RepRs K A H vs rs
  | [], [], _ => .nil
  | _ :: _, _ :: _, h => .cons h.1 (RepRl.pair h.2)
  | [], _ :: _, h => h.elim
  | _ :: _, [], h => h.elim
theorem RepRl.of {K : Fg} {A : Addr → Prop} {H : Hp} : ∀ {vs : List V} {rs : List R}, RepRs K A H vs rs → RepRl K A H vs rs
  | _, _, .nil => True.intro
  | _, _, .cons h t => ⟨h, RepRl.of t⟩
theorem RepRs.stp {K : Fg} {A A' : Addr → Prop} {H H' : Hp} (s : Stp A A' H H') {vs : List V} {rs : List R} (h : RepRs K A H vs rs) : RepRs K A' H' vs rs := Paired.mapP h fun _ _ q => q.stp s

inductive Cell where
  | lst (p : Addr) (xs : List R)
  | dct (p : Addr) (kvs : List (Key × R))
  | ins (p C : Addr) (ks : List Str) (rs : List R)
  | pk (p : Addr) (P : List R → Prop)
def Cell.pt : Cell → Addr
  | .lst p _ => p
  | .dct p _ => p
  | .ins p _ _ _ => p
  | .pk p _ => p
abbrev SH := List Cell
def Av (S : SH) : Addr → Prop := fun a => a ∈ S.map Cell.pt
def CellOk (K : Fg) (A : Addr → Prop) (H : Hp) : Cell → Prop
  | .lst p xs => ∃ vs, H p = some (.lst vs) ∧ RepRs K A H vs xs
  | .dct p kvs => ∃ kws : List (Key × V), H p = some (.dK kws) ∧ Paired (fun (a : Key × V) (b : Key × R) => a.1 = b.1 ∧ RepR K A H a.2 b.2) kws kvs
  | .ins p C ks rs => ∃ (dx : Addr) (vs : List V), H p = some (.ins C dx (ks.zip vs)) ∧ vs.length ≤ ks.length ∧ RepRs K A H vs rs
  | .pk p P => ∃ vs xs, H p = some (.lst vs) ∧ RepRs K A H vs xs ∧ P xs
theorem CellOk.some {K : Fg} {A : Addr → Prop} {H : Hp} {c : Cell} (h : CellOk K A H c) : ∃ o, H c.pt = some o := by
  cases c with
  | lst p xs => obtain ⟨_, h, _⟩ := h; exact ⟨_, h⟩
  | dct p xs => obtain ⟨_, h, _⟩ := h; exact ⟨_, h⟩
  | ins p C ks xs => obtain ⟨_, _, h, _⟩ := h; exact ⟨_, h⟩
  | pk p xs => obtain ⟨_, _, h, _⟩ := h; exact ⟨_, h⟩
/-- a cell stays where its own object stays -/
theorem CellOk.stp {K : Fg} {A A' : Addr → Prop} {H H' : Hp} (s : Stp A A' H H') {c : Cell} (h : CellOk K A H c) (e : H' c.pt = H c.pt) : CellOk K A' H' c := by
  cases c with
  | lst p xs => obtain ⟨vs, h, q⟩ := h; exact ⟨vs, by rw [← h]; exact e, q.stp s⟩
  | dct p xs => obtain ⟨vs, h, q⟩ := h; exact ⟨vs, by rw [← h]; exact e, Paired.mapP q fun _ _ z => ⟨z.1, z.2.stp s⟩⟩
  | ins p C ks xs => obtain ⟨dx, vs, h, l, q⟩ := h; exact ⟨dx, vs, by rw [← h]; exact e, l, q.stp s⟩
  | pk p P => obtain ⟨vs, xs, h, q, z⟩ := h; exact ⟨vs, xs, by rw [← h]; exact e, q.stp s, z⟩

abbrev Live := List (V × R)
structure Ok (K : Fg) (H : Hp) (S : SH) (L : Live) : Prop where
  nd : (S.map Cell.pt).Nodup
  cells : ∀ c ∈ S, CellOk K (Av S) H c
  live : ∀ e ∈ L, RepR K (Av S) H e.1 e.2
section
variable {K : Fg} {H : Hp} {S : SH} {L L' : Live}
theorem Ok.sub (o : Ok K H S L) (h : ∀ e ∈ L', e ∈ L) : Ok K H S L' := ⟨o.nd, o.cells, fun e he => o.live e (h e he)⟩
theorem Ok.at (o : Ok K H S L) {v : V} {r : R} (h : (v, r) ∈ L) : RepR K (Av S) H v r := o.live _ h
theorem Ok.dat (o : Ok K H S L) {v : V} {d : PyData} (h : (v, R.dat d) ∈ L) : Rep K (Av S) H v d := o.live _ h
theorem Ok.val (o : Ok K H S L) {v w : V} (h : (v, R.val w) ∈ L) : v = w := o.live _ h
theorem Ok.push (o : Ok K H S L) {v : V} {r : R} (h : RepR K (Av S) H v r) : Ok K H S ((v, r) :: L) := ⟨o.nd, o.cells, fun e he => by
  rcases List.mem_cons.mp he with rfl | he
  · exact h
  · exact o.live e he⟩
theorem Ok.pd (o : Ok K H S L) {v : V} {d : PyData} (h : Rep K (Av S) H v d) : Ok K H S ((v, .dat d) :: L) := o.push h
theorem Ok.av (o : Ok K H S L) {a : Addr} (h : Av S a) : ∃ u, H a = some u := by
  obtain ⟨c, hc, rfl⟩ := List.mem_map.mp h
  exact (o.cells c hc).some
/-- a new object -/
theorem stp_new {A : Addr → Prop} {p : Addr} {u : HO} (h : H p = none) : Stp A A H (upd H p u) :=
  ⟨fun a xs e n => ⟨by rw [upd_ne (ne_of_none e h)]; exact e, n⟩, fun a xs e => by rw [upd_ne (ne_of_none e h)]; exact e, fun a ob xs e => by rw [upd_ne (ne_of_none e h)]; exact e, fun a C dx ws e n => ⟨by rw [upd_ne (ne_of_none e h)]; exact e, n⟩, fun a ws e n => ⟨by rw [upd_ne (ne_of_none e h)]; exact e, n⟩⟩
theorem Ok.new (o : Ok K H S L) {p : Addr} {u : HO} (h : H p = none) : Ok K (upd H p u) S L := ⟨o.nd, fun c hc => (o.cells c hc).stp (stp_new h) (by
    obtain ⟨w, e⟩ := (o.cells c hc).some
    rw [upd_ne (ne_of_none e h)]), fun e he => (o.live e he).stp (stp_new h)⟩
theorem Ok.fresh (o : Ok K H S L) {p : Addr} (h : H p = none) : ¬ Av S p := fun q => by
  obtain ⟨u, e⟩ := o.av q
  rw [e] at h; cases h
abbrev Lives (L : Live) : List V → List R → Prop := Paired fun v r => (v, r) ∈ L
theorem Lives.mono (h : ∀ e ∈ L, e ∈ L') {vs : List V} {rs : List R} (q : Lives L vs rs) : Lives L' vs rs := Paired.mapP q fun _ _ z => h _ z
def dats : List R → Option (List PyData)
  | [] => some []
  | .dat d :: r => (dats r).map fun ds => d :: ds
  | _ :: _ => none
theorem dats_map : ∀ ds : List PyData, dats (ds.map R.dat) = some ds
  | [] => rfl
  | d :: ds => by show (dats (ds.map R.dat)).map _ = _; rw [dats_map ds]; rfl
theorem of_dats : ∀ {rs : List R} {ds : List PyData}, dats rs = some ds → rs = ds.map R.dat
  | [], _, h => by cases h; rfl
  | .dat d :: r, ds, h => by
    cases e : dats r with
    | none => simp [dats, e] at h
    | some es =>
      have h' : some (d :: es) = some ds := by simpa [dats, e] using h
      cases h'
      rw [List.map_cons, of_dats e]
  | .val _ :: _, _, h => by simp [dats] at h
  | .scr _ :: _, _, h => by simp [dats] at h
  | .tp _ :: _, _, h => by simp [dats] at h
  | .obj _ _ _ :: _, _, h => by simp [dats] at h
  | .dic _ _ :: _, _, h => by simp [dats] at h
theorem Ok.reps (o : Ok K H S L) : ∀ {vs : List V} {rs : List R}, Lives L vs rs → RepRs K (Av S) H vs rs := fun q => Paired.mapP q fun _ _ z => o.live _ z
theorem reps_all {A : Addr → Prop} : ∀ {vs : List V} {rs : List R} {ds : List PyData}, RepRs K A H vs rs → dats rs = some ds → RepAll K A H vs ds := by
  intro vs rs ds h e
  have e' := of_dats e
  subst e'
  clear e
  induction ds generalizing vs with
  | nil => cases h; exact .nil
  | cons d ds ih =>
    cases h with
    | cons h t => exact .cons h (ih t)
theorem all_reps {A : Addr → Prop} : ∀ {vs : List V} {ds : List PyData}, RepAll K A H vs ds → RepRs K A H vs (ds.map R.dat)
  | _, _, .nil => .nil
  | _, _, .cons h t => .cons h (all_reps t)
theorem Ok.all (o : Ok K H S L) {vs : List V} {rs : List R} {ds : List PyData} (h : Lives L vs rs) (e : dats rs = some ds) : RepAll K (Av S) H vs ds := reps_all (o.reps h) e
theorem Ok.tup (o : Ok K H S L) {p : Addr} {vs : List V} {ds : List PyData} (h : H p = none) (q : RepAll K (Av S) H vs ds) : Ok K (upd H p (.tup vs)) S ((.ref p, .dat (.tuple ds)) :: L) :=
  (o.new h).push (.tup (.inl upd_same) (q.stp (stp_new h)))
theorem Ok.lst (o : Ok K H S L) {p : Addr} {vs : List V} {ds : List PyData} (h : H p = none) (q : RepAll K (Av S) H vs ds) : Ok K (upd H p (.lst vs)) S ((.ref p, .dat (.list ds)) :: L) :=
  (o.new h).push (.lst upd_same (o.fresh h) (q.stp (stp_new h)))
/-- a new object that is a cell -/
theorem stp_cell {p : Addr} {u : HO} {c : Cell} (hc : c.pt = p) (h : H p = none) : Stp (Av S) (Av (c :: S)) H (upd H p u) :=
  ⟨fun a xs e n => ⟨by rw [upd_ne (ne_of_none e h)]; exact e, fun z => by
    rcases List.mem_cons.mp z with z | z
    · exact ne_of_none e h (z.trans hc)
    · exact n z⟩, fun a xs e => by rw [upd_ne (ne_of_none e h)]; exact e, fun a ob xs e => by rw [upd_ne (ne_of_none e h)]; exact e, fun a C dx ws e n => ⟨by rw [upd_ne (ne_of_none e h)]; exact e, fun z => by
    rcases List.mem_cons.mp z with z | z
    · exact ne_of_none e h (z.trans hc)
    · exact n z⟩, fun a ws e n => ⟨by rw [upd_ne (ne_of_none e h)]; exact e, fun z => by
    rcases List.mem_cons.mp z with z | z
    · exact ne_of_none e h (z.trans hc)
    · exact n z⟩⟩
theorem Ok.cell (o : Ok K H S L) {p : Addr} {u : HO} {c : Cell} (hc : c.pt = p) (h : H p = none) (new : CellOk K (Av (c :: S)) (upd H p u) c) : Ok K (upd H p u) (c :: S) L :=
  ⟨List.nodup_cons.mpr ⟨fun z => o.fresh h (by rw [hc] at z; exact z), o.nd⟩, fun c' hc' => by
    rcases List.mem_cons.mp hc' with rfl | hc'
    · exact new
    · refine (o.cells c' hc').stp (stp_cell hc h) ?_
      obtain ⟨w, e⟩ := (o.cells c' hc').some
      rw [upd_ne (ne_of_none e h)], fun e he => (o.live e he).stp (stp_cell hc h)⟩
theorem Ok.lstC (o : Ok K H S L) {p : Addr} {vs : List V} {rs : List R} (h : H p = none) (q : RepRs K (Av S) H vs rs) : Ok K (upd H p (.lst vs)) (.lst p rs :: S) L :=
  o.cell (c := .lst p rs) rfl h ⟨vs, upd_same, q.stp (stp_cell rfl h)⟩
/-- a cell is let go -/
theorem stp_less {S' : SH} (h : ∀ a, Av S' a → Av S a) : Stp (Av S) (Av S') H H := ⟨fun _ _ e n => ⟨e, fun z => n (h _ z)⟩, fun _ _ e => e, fun _ _ _ e => e, fun _ _ _ _ e n => ⟨e, fun z => n (h _ z)⟩, fun _ _ e n => ⟨e, fun z => n (h _ z)⟩⟩
theorem Ok.less (o : Ok K H S L) {S' : SH} (h : S'.Sublist S) : Ok K H S' L := by
  have hs : ∀ a, Av S' a → Av S a := fun a z => (h.map Cell.pt).subset z
  exact ⟨(h.map Cell.pt).nodup o.nd, fun c hc => (o.cells c (h.subset hc)).stp (stp_less hs) rfl, fun e he => (o.live e he).stp (stp_less hs)⟩
/-- the cell at i is changed -/
theorem at_split {i : Nat} {c : Cell} (h : S[i]? = some c) : c ∈ S := List.mem_of_getElem? h
theorem pts_set {i : Nat} {c c' : Cell} (h : S[i]? = some c) (e : c'.pt = c.pt) : (S.set i c').map Cell.pt = S.map Cell.pt := by
  apply List.ext_getElem?
  intro j
  rw [List.getElem?_map, List.getElem?_map, List.getElem?_set]
  split
  · rename_i hj
    subst hj
    obtain ⟨hl, _⟩ := List.getElem?_eq_some_iff.mp h
    rw [if_pos hl, h]
    simp [e]
  · rfl
theorem av_set {i : Nat} {c c' : Cell} (h : S[i]? = some c) (e : c'.pt = c.pt) : Av (S.set i c') = Av S := by unfold Av; rw [pts_set h e]
theorem stp_upd {A : Addr → Prop} {p : Addr} {u w : HO} (hp : H p = some w) (ha : A p) (hw : Mut (some w)) : Stp A A H (upd H p u) :=
  ⟨fun a xs e n => ⟨by rw [upd_ne (fun z => n (by rw [z]; exact ha))]; exact e, n⟩, fun a xs e => by rw [upd_ne (fun z => by subst z; rw [hp] at e; cases e; exact hw)]; exact e, fun a ob xs e => by rw [upd_ne (fun z => by subst z; rw [hp] at e; cases e; exact hw)]; exact e, fun a C dx ws e n => ⟨by rw [upd_ne (fun z => n (by rw [z]; exact ha))]; exact e, n⟩, fun a ws e n => ⟨by rw [upd_ne (fun z => n (by rw [z]; exact ha))]; exact e, n⟩⟩
theorem pt_at {i : Nat} {c : Cell} (h : S[i]? = some c) : Av S c.pt := List.mem_map.mpr ⟨c, at_split h, rfl⟩
theorem Ok.put (o : Ok K H S L) {i : Nat} {c c' : Cell} {p : Addr} {u w : HO} (h : S[i]? = some c) (hp : c.pt = p) (e : c'.pt = p) (hw : H p = some w) (nt : Mut (some w)) (new : CellOk K (Av S) (upd H p u) c') : Ok K (upd H p u) (S.set i c') L := by
  have ec : c'.pt = c.pt := e.trans hp.symm
  have st : Stp (Av S) (Av S) H (upd H p u) := stp_upd hw (by rw [← hp]; exact pt_at h) nt
  refine ⟨by rw [pts_set h ec]; exact o.nd, fun d hd => ?_, fun e he => ?_⟩
  · rw [av_set h ec]
    obtain ⟨j, hj⟩ := List.getElem?_of_mem hd
    rw [List.getElem?_set] at hj
    split at hj
    · split at hj
      · cases hj; exact new
      · cases hj
    · rename_i hij
      have hne : d.pt ≠ p := fun z => by
        have h1 : (S.map Cell.pt)[i]? = some p := by rw [List.getElem?_map, h]; simp [hp]
        have h2 : (S.map Cell.pt)[j]? = some p := by rw [List.getElem?_map, hj]; simp [z]
        exact hij (nd_ix o.nd h1 h2)
      exact (o.cells d (List.mem_of_getElem? hj)).stp st (by rw [upd_ne hne])
  · rw [av_set h ec]
    exact (o.live e he).stp st
theorem Ok.putL (o : Ok K H S L) {i : Nat} {p : Addr} {xs ys : List R} {us : List V} (h : S[i]? = some (.lst p xs)) (q : RepRs K (Av S) H us ys) : Ok K (upd H p (.lst us)) (S.set i (.lst p ys)) L := by
  obtain ⟨vs, e, _⟩ := o.cells _ (at_split h)
  exact o.put h rfl rfl e True.intro ⟨us, upd_same, q.stp (stp_upd e (pt_at h) True.intro)⟩
/-- a list cell becomes data -/
theorem Ok.frz (o : Ok K H S L) {i : Nat} {p : Addr} {xs : List R} {ds : List PyData} (h : S[i]? = some (.lst p xs)) (e : dats xs = some ds) : Ok K H (S.eraseIdx i) ((.ref p, .dat (.list ds)) :: L) := by
  obtain ⟨vs, e1, q⟩ := o.cells _ (at_split h)
  have hs : (S.eraseIdx i).Sublist S := List.eraseIdx_sublist S i
  have o' := o.less hs
  have hs' : ∀ a, Av (S.eraseIdx i) a → Av S a := fun a z => (hs.map Cell.pt).subset z
  refine o'.push (.lst e1 (fun z => ?_) ((reps_all q e).stp (stp_less hs')))
  have nd := o.nd
  obtain ⟨c, hc, hp⟩ := List.mem_map.mp z
  obtain ⟨j, hj, hji⟩ : ∃ j, S[j]? = some c ∧ j ≠ i := by
    obtain ⟨k, hk⟩ := List.getElem?_of_mem hc
    rw [List.getElem?_eraseIdx] at hk
    split at hk
    · exact ⟨k, hk, by omega⟩
    · exact ⟨k + 1, hk, by omega⟩
  have h1 : (S.map Cell.pt)[i]? = some p := by rw [List.getElem?_map, h]; rfl
  have h2 : (S.map Cell.pt)[j]? = some p := by rw [List.getElem?_map, hj]; simp [hp]
  exact hji (nd_ix nd h2 h1)
theorem Ok.erase_pt (o : Ok K H S L) {i : Nat} {c : Cell} (h : S[i]? = some c) : ¬ Av (S.eraseIdx i) c.pt := fun z => by
  obtain ⟨d, hd, hp⟩ := List.mem_map.mp z
  obtain ⟨j, hj, hji⟩ : ∃ j, S[j]? = some d ∧ j ≠ i := by
    obtain ⟨k, hk⟩ := List.getElem?_of_mem hd
    rw [List.getElem?_eraseIdx] at hk
    split at hk
    · exact ⟨k, hk, by omega⟩
    · exact ⟨k + 1, hk, by omega⟩
  have h1 : (S.map Cell.pt)[i]? = some c.pt := by rw [List.getElem?_map, h]; rfl
  have h2 : (S.map Cell.pt)[j]? = some c.pt := by rw [List.getElem?_map, hj]; simp [hp]
  exact hji (nd_ix o.nd h2 h1)
/-- an instance's cell becomes a frozen one -/
theorem Ok.frzI (o : Ok K H S L) {i : Nat} {p C : Addr} {ks : List Str} {rs : List R} (h : S[i]? = some (.ins p C ks rs)) (hl : rs.length = ks.length) : Ok K H (S.eraseIdx i) ((.ref p, .obj C ks rs) :: L) := by
  obtain ⟨dx, vs, e1, hv, q⟩ := o.cells _ (at_split h)
  have hs : (S.eraseIdx i).Sublist S := List.eraseIdx_sublist S i
  have hs' : ∀ a, Av (S.eraseIdx i) a → Av S a := fun a z => (hs.map Cell.pt).subset z
  have lv : vs.length = ks.length := by
    have : ∀ {l : List V} {m : List R}, Paired (RepR K (Av S) H) l m → l.length = m.length := by
      intro l m w
      induction w with
      | nil => rfl
      | cons _ _ ih => rw [List.length_cons, List.length_cons, ih]
    rw [this q]; exact hl
  exact (o.less hs).push ⟨p, dx, vs, rfl, e1, o.erase_pt h, lv, RepRl.of (q.stp (stp_less hs'))⟩
/-- a dict's cell becomes a frozen one -/
theorem zip_of_kv {K : Fg} {A : Addr → Prop} {H : Hp} : ∀ {kws : List (Key × V)} {kvs : List (Key × R)}, Paired (fun (a : Key × V) (b : Key × R) => a.1 = b.1 ∧ RepR K A H a.2 b.2) kws kvs → kws = (kvs.map (·.1)).zip (kws.map (·.2)) ∧ (kws.map (·.2)).length = (kvs.map (·.1)).length ∧ RepRs K A H (kws.map (·.2)) (kvs.map (·.2))
  | _, _, .nil => ⟨rfl, rfl, .nil⟩
  | (k, v) :: kws, (k', r) :: kvs, .cons h t => by
    obtain ⟨e, hr⟩ := h
    cases (show k = k' from e)
    obtain ⟨a, b, c⟩ := zip_of_kv t
    refine ⟨?_, by simpa using b, .cons hr c⟩
    show (k, v) :: kws = (k, v) :: (kvs.map (·.1)).zip (kws.map (·.2))
    rw [← a]
theorem Ok.frzD (o : Ok K H S L) {i : Nat} {p : Addr} {kvs : List (Key × R)} (h : S[i]? = some (.dct p kvs)) : Ok K H (S.eraseIdx i) ((.ref p, .dic (kvs.map (·.1)) (kvs.map (·.2))) :: L) := by
  obtain ⟨kws, e1, q⟩ := o.cells _ (at_split h)
  have hs : (S.eraseIdx i).Sublist S := List.eraseIdx_sublist S i
  have hs' : ∀ a, Av (S.eraseIdx i) a → Av S a := fun a z => (hs.map Cell.pt).subset z
  obtain ⟨ez, el, er⟩ := zip_of_kv q
  exact (o.less hs).push ⟨p, _, rfl, by rw [← ez]; exact e1, o.erase_pt h, el, RepRl.of (er.stp (stp_less hs'))⟩
/-- a packed list is opened; a list is packed -/
theorem Ok.open_pk (o : Ok K H S L) {i : Nat} {p : Addr} {P : List R → Prop} (h : S[i]? = some (.pk p P)) : ∃ xs, P xs ∧ Ok K H (S.set i (.lst p xs)) L := by
  obtain ⟨vs, xs, e, q, z⟩ := o.cells _ (at_split h)
  have ec : (Cell.lst p xs).pt = (Cell.pk p P).pt := rfl
  refine ⟨xs, z, by rw [pts_set h ec]; exact o.nd, fun d hd => ?_, fun e he => by rw [av_set h ec]; exact o.live e he⟩
  rw [av_set h ec]
  rcases List.mem_or_eq_of_mem_set hd with hd | rfl
  · exact o.cells d hd
  · exact ⟨vs, e, q⟩
theorem Ok.pack (o : Ok K H S L) {i : Nat} {p : Addr} {xs : List R} {P : List R → Prop} (h : S[i]? = some (.lst p xs)) (z : P xs) : Ok K H (S.set i (.pk p P)) L := by
  obtain ⟨vs, e, q⟩ := o.cells _ (at_split h)
  have ec : (Cell.pk p P).pt = (Cell.lst p xs).pt := rfl
  refine ⟨by rw [pts_set h ec]; exact o.nd, fun d hd => ?_, fun e he => by rw [av_set h ec]; exact o.live e he⟩
  rw [av_set h ec]
  rcases List.mem_or_eq_of_mem_set hd with hd | rfl
  · exact o.cells d hd
  · exact ⟨vs, xs, e, q, z⟩
/-- cells in another order -/
theorem Ok.perm (o : Ok K H S L) {S' : SH} (h : S.Perm S') : Ok K H S' L := by
  have hm : ∀ a, Av S a ↔ Av S' a := fun a => (h.map Cell.pt).mem_iff
  have ea : Av S = Av S' := funext fun a => propext (hm a)
  exact ⟨(h.map Cell.pt).nodup_iff.mp o.nd, fun c hc => by rw [← ea]; exact o.cells c (h.mem_iff.mpr hc), fun e he => by rw [← ea]; exact o.live e he⟩
end

/-! ### frames, readings, lifts -/
abbrev Fr := List (Option R)
structure FrOk (σ : L2.St) (fr : Fr) (L : Live) : Prop where
  len : fr.length = σ.length
  at_ : ∀ (i : Nat) (r : R), fr[i]? = some (some r) → ∃ v, σ[i]? = some (some v) ∧ (v, r) ∈ L
theorem FrOk.mono {σ : L2.St} {fr : Fr} {L L' : Live} (f : FrOk σ fr L) (h : ∀ e ∈ L, e ∈ L') : FrOk σ fr L' := ⟨f.len, fun i r e => let ⟨v, a, b⟩ := f.at_ i r e; ⟨v, a, h _ b⟩⟩
theorem FrOk.set {σ : L2.St} {fr : Fr} {L : Live} (f : FrOk σ fr L) {v : V} {r : R} (h : (v, r) ∈ L) (i : Nat) : FrOk (σ.set i (some v)) (fr.set i (some r)) L := by
  refine ⟨by rw [List.length_set, List.length_set]; exact f.len, fun j q e => ?_⟩
  rw [List.getElem?_set] at e
  split at e
  · rename_i hj
    subst hj
    split at e
    · rename_i hl
      cases e
      exact ⟨v, by rw [List.getElem?_set_self (by rw [← f.len]; exact hl)], h⟩
    · cases e
  · rename_i hj
    rw [List.getElem?_set_ne hj]
    exact f.at_ j q e
theorem FrOk.none {σ : L2.St} {fr : Fr} {L : Live} (f : FrOk σ fr L) (i : Nat) : FrOk (σ.set i .none) (fr.set i .none) L := by
  refine ⟨by rw [List.length_set, List.length_set]; exact f.len, fun j q e => ?_⟩
  rw [List.getElem?_set] at e
  split at e
  · split at e <;> cases e
  · rename_i hj
    rw [List.getElem?_set_ne hj]
    exact f.at_ j q e
def wipeF (fr : Fr) : List Nat → Fr
  | [] => fr
  | v :: vs => (wipeF fr vs).set v none
theorem FrOk.wipe {σ : L2.St} {fr : Fr} {L : Live} (f : FrOk σ fr L) : ∀ vs : List Nat, FrOk (L2.wipe σ vs) (wipeF fr vs) L
  | [] => f
  | v :: vs => (FrOk.wipe f vs).none v

abbrev DE := Fr → SH → (R → SH → Prop) → Prop
abbrev DA := Fr → SH → (List R → SH → Prop) → Prop
abbrev DT := Fr → SH → (Bool → SH → Prop) → Prop
abbrev DO := Fr → SH → (Option Int → SH → Prop) → Prop
structure DEnds where
  nx : Fr → SH → Prop
  rt : R → SH → Prop
  bk : Fr → SH → Prop := fun _ _ => False
  ct : Fr → SH → Prop := fun _ _ => False
abbrev DS := DEnds → Fr → SH → Prop
abbrev DG := R → Fr → SH → (Fr → SH → Prop) → Prop
abbrev DGs := List R → Fr → SH → (Fr → SH → Prop) → Prop

/-- F: cells that a reading doesn't speak of -/
abbrev OkF (K : Fg) (F : SH) (H : Hp) (S : SH) (L : Live) : Prop := Ok K H (S ++ F) L
section
variable {K : Fg} {F : SH} {H : Hp} {S : SH} {L : Live}
theorem in_app {i : Nat} {c : Cell} (h : S[i]? = some c) : (S ++ F)[i]? = some c := by
  obtain ⟨hl, _⟩ := List.getElem?_eq_some_iff.mp h
  rw [List.getElem?_append_left hl]; exact h
theorem set_app {i : Nat} {c : Cell} (h : S[i]? = some c) (c' : Cell) : (S ++ F).set i c' = S.set i c' ++ F := by
  obtain ⟨hl, _⟩ := List.getElem?_eq_some_iff.mp h
  rw [List.set_append_left _ _ hl]
theorem erase_app {i : Nat} {c : Cell} (h : S[i]? = some c) : (S ++ F).eraseIdx i = S.eraseIdx i ++ F := by
  obtain ⟨hl, _⟩ := List.getElem?_eq_some_iff.mp h
  rw [List.eraseIdx_append_of_lt_length hl]
end

def Lift (K : Fg) (te : TE) (de : DE) : Prop := ∀ (F : SH) (H : Hp) (σ : L2.St) (fr : Fr) (S : SH) (L : Live), FrOk σ fr L → OkF K F H S L → ∀ (C : R → SH → Prop) (Q : VK), de fr S C →
  (∀ v r S' H', OkF K F H' S' ((v, r) :: L) → C r S' → Q v H') → te σ H Q
def LiftT (K : Fg) (tt : TT) (dt : DT) : Prop := ∀ (F : SH) (H : Hp) (σ : L2.St) (fr : Fr) (S : SH) (L : Live), FrOk σ fr L → OkF K F H S L → ∀ (C : Bool → SH → Prop) (Q : Bool → Hp → Prop), dt fr S C →
  (∀ b S' H', OkF K F H' S' L → C b S' → Q b H') → tt σ H Q
def LiftA (K : Fg) (ta : TA) (da : DA) : Prop := ∀ (F : SH) (H : Hp) (σ : L2.St) (fr : Fr) (S : SH) (L : Live), FrOk σ fr L → OkF K F H S L → ∀ (C : List R → SH → Prop) (Q : List V → Hp → Prop), da fr S C →
  (∀ vs rs S' H' L', OkF K F H' S' L' → (∀ e ∈ L, e ∈ L') → Lives L' vs rs → C rs S' → Q vs H') → ta σ H Q
def LiftO (K : Fg) (to : TO) (do_ : DO) : Prop := ∀ (F : SH) (H : Hp) (σ : L2.St) (fr : Fr) (S : SH) (L : Live), FrOk σ fr L → OkF K F H S L → ∀ (C : Option Int → SH → Prop) (Q : Option Int → Hp → Prop), do_ fr S C →
  (∀ o S' H', OkF K F H' S' L → C o S' → Q o H') → to σ H Q
structure EndsOk (K : Fg) (F : SH) (L : Live) (D : Ends) (D' : DEnds) : Prop where
  nx : ∀ σ fr S H L', FrOk σ fr L' → OkF K F H S L' → (∀ e ∈ L, e ∈ L') → D'.nx fr S → D.nx σ H
  rt : ∀ v r S H, OkF K F H S ((v, r) :: L) → D'.rt r S → D.rt v H
  bk : ∀ σ fr S H L', FrOk σ fr L' → OkF K F H S L' → (∀ e ∈ L, e ∈ L') → D'.bk fr S → D.bk σ H
  ct : ∀ σ fr S H L', FrOk σ fr L' → OkF K F H S L' → (∀ e ∈ L, e ∈ L') → D'.ct fr S → D.ct σ H
theorem tl_mem {α : Type} {a : α} {L : List α} : ∀ e ∈ L, e ∈ a :: L := fun _ h => List.mem_cons_of_mem _ h
theorem sub_cons {α : Type} {a : α} {L L' : List α} (h : ∀ e ∈ L, e ∈ L') : ∀ e ∈ a :: L, e ∈ a :: L' := fun e he => by
  rcases List.mem_cons.mp he with rfl | he
  · exact List.mem_cons_self
  · exact List.mem_cons_of_mem _ (h e he)
theorem EndsOk.mono {K : Fg} {F : SH} {L L' : Live} {D : Ends} {D' : DEnds} (e : EndsOk K F L D D') (h : ∀ e ∈ L, e ∈ L') : EndsOk K F L' D D' :=
  ⟨fun σ fr S H L2 f o s q => e.nx σ fr S H L2 f o (fun x hx => s x (h x hx)) q, fun v r S H o q => e.rt v r S H (o.sub (sub_cons h)) q,
   fun σ fr S H L2 f o s q => e.bk σ fr S H L2 f o (fun x hx => s x (h x hx)) q, fun σ fr S H L2 f o s q => e.ct σ fr S H L2 f o (fun x hx => s x (h x hx)) q⟩
def LiftS (K : Fg) (ts : TS) (ds : DS) : Prop := ∀ (F : SH) (H : Hp) (σ : L2.St) (fr : Fr) (S : SH) (L : Live), FrOk σ fr L → OkF K F H S L → ∀ (D : Ends) (D' : DEnds), EndsOk K F L D D' → ds D' fr S → ts D σ H
def LiftG (K : Fg) (g : TG) (dg : DG) : Prop := ∀ (F : SH) (H : Hp) (σ : L2.St) (fr : Fr) (S : SH) (L : Live) (v : V) (r : R), FrOk σ fr L → OkF K F H S L → (v, r) ∈ L → ∀ (C : Fr → SH → Prop) (Q : L2.St → Hp → Prop), dg r fr S C →
  (∀ σ' fr' S' H' L', FrOk σ' fr' L' → OkF K F H' S' L' → (∀ e ∈ L, e ∈ L') → C fr' S' → Q σ' H') → g v σ H Q
def LiftGs (K : Fg) (g : TGs) (dg : DGs) : Prop := ∀ (F : SH) (H : Hp) (σ : L2.St) (fr : Fr) (S : SH) (L : Live) (vs : List V) (rs : List R), FrOk σ fr L → OkF K F H S L → Lives L vs rs → ∀ (C : Fr → SH → Prop) (Q : L2.St → Hp → Prop), dg rs fr S C →
  (∀ σ' fr' S' H' L', FrOk σ' fr' L' → OkF K F H' S' L' → (∀ e ∈ L, e ∈ L') → C fr' S' → Q σ' H') → g vs σ H Q

structure PD (X : Cx) (e : Expr) (de : DE) : Prop where
  ex : ∃ te, PE X e te ∧ Lift X.K te de
structure PDT (X : Cx) (e : Expr) (dt : DT) : Prop where
  ex : ∃ tt, PT X e tt ∧ LiftT X.K tt dt
structure PDW (X : Cx) (e : Expr) (dt : DT) : Prop where
  ex : ∃ tt, PW X e tt ∧ LiftT X.K tt dt
structure PDA (X : Cx) (es : List Expr) (da : DA) : Prop where
  ex : ∃ ta, PA X es ta ∧ LiftA X.K ta da
structure PDO (X : Cx) (e : Option Expr) (d : DO) : Prop where
  ex : ∃ t, PO X e t ∧ LiftO X.K t d
structure PDS (X : Cx) (st : Stmt) (ds : DS) : Prop where
  ex : ∃ ts, PS X st ts ∧ LiftS X.K ts ds
structure PDSs (X : Cx) (st : List Stmt) (ds : DS) : Prop where
  ex : ∃ ts, PSs X st ts ∧ LiftS X.K ts ds
structure PDG (X : Cx) (e : Expr) (dg : DG) : Prop where
  ex : ∃ g, PG X e g ∧ LiftG X.K g dg
structure PDGs (X : Cx) (es : List Expr) (dg : DGs) : Prop where
  ex : ∃ g, PGs X es g ∧ LiftGs X.K g dg

end DL
set_option Elab.async false
set_option linter.all false
set_option maxRecDepth 100000
set_option maxHeartbeats 4000000
/-! DL, second part: the rules for expressions and tests. -/
namespace DL
open PySem PySem.Spec PyProof.Rows L2

abbrev CR0 := R → SH → Prop
theorem big_of {n : Nat} (h : n ≤ 100000) : n ≤ sizeLine := Nat.le_trans h (by decide)
theorem big_lt {n : Nat} (h : n < 100000) : n < sizeLine := Nat.lt_of_lt_of_le h (by decide)

section
variable {K : Fg}
/-! ### names, constants -/
def dVar (i : Nat) : DE := fun fr S C => ∃ r, fr[i]? = some (some r) ∧ C r S
def dC (r : R) : DE := fun _ S C => C r S
theorem lift_var (i : Nat) : Lift K (tVar i) (dVar i) := fun F H σ fr S L f o C Q ⟨r, e, h⟩ q => by
  obtain ⟨v, ev, m⟩ := f.at_ i r e
  exact ⟨v, ev, q v r S H (o.push (o.live _ m)) h⟩
theorem lift_c {v : V} {r : R} (h : ∀ A H, RepR K A H v r) : Lift K (tC v) (dC r) := fun F H σ fr S L f o C Q h' q => q v r S H (o.push (h _ _)) h'

/-! ### two operands -/
abbrev F2 := R → R → SH → CR0 → Prop
def OpD (K : Fg) (r : R2) (f : F2) : Prop := ∀ (F : SH) (x y : V) (a b : R) (H : Hp) (S : SH) (L : Live) (C : CR0) (Q : VK), OkF K F H S L → (x, a) ∈ L → (y, b) ∈ L → f a b S C →
  (∀ v c S' H', OkF K F H' S' ((v, c) :: L) → C c S' → Q v H') → r x y H Q
def dOp (f : F2) (da db : DE) : DE := fun fr S C => da fr S fun a S1 => db fr S1 fun b S2 => f a b S2 C
theorem lift_op {r : R2} {f : F2} {ta tb : TE} {da db : DE} (h : OpD K r f) (la : Lift K ta da) (lb : Lift K tb db) : Lift K (tOp r ta tb) (dOp f da db) := by
  intro F H σ fr S L fo o C Q hd q
  refine la F H σ fr S L fo o _ _ hd fun x a S1 H1 o1 h1 => ?_
  refine lb F H1 σ fr S1 _ (fo.mono tl_mem) o1 _ _ h1 fun y b S2 H2 o2 h2 => ?_
  refine h F x y a b H2 S2 _ C Q o2 (List.mem_cons_of_mem _ List.mem_cons_self) List.mem_cons_self h2 fun v c S3 H3 o3 h3 => ?_
  exact q v c S3 H3 (o3.sub (sub_cons fun e he => List.mem_cons_of_mem _ (List.mem_cons_of_mem _ he))) h3
/-- an answer that makes nothing new -/
theorem OpD.flat {r : R2} {f : F2} (h : ∀ (A : Addr → Prop) (x y : V) (a b : R) (H : Hp) (S : SH) (C : CR0) (Q : VK), RepR K A H x a → RepR K A H y b → f a b S C → (∀ v c, RepR K A H v c → C c S → Q v H) → r x y H Q) : OpD K r f :=
  fun F x y a b H S L C Q o hx hy hf q => h (Av (S ++ F)) x y a b H S C Q (o.live _ hx) (o.live _ hy) hf fun v c hv hc => q v c S H (o.push hv) hc

/-! ### ints -/
def fI (P : Int → Int → Prop) (g : Int → Int → PyData) : F2 := fun a b S C => match a, b with
  | .dat (.int i), .dat (.int j) => P i j ∧ C (.dat (g i j)) S
  | _, _ => False
def fI0 (g : Int → Int → PyData) : F2 := fun a b S C => match a, b with
  | .dat (.int i), .dat (.int j) => C (.dat (g i j)) S
  | _, _ => False
theorem rep_int_inv {A : Addr → Prop} {H : Hp} {v : V} {i : Int} (h : Rep K A H v (.int i)) : v = .int i := by cases h; rfl
theorem opd_I0 {g : Int → Int → V} {g' : Int → Int → PyData} (hg : ∀ i j A H, Rep K A H (g i j) (g' i j)) : OpD K (rI0 g) (fI0 g') := OpD.flat fun A x y a b H S C Q hx hy hf q => by
  unfold fI0 at hf
  split at hf
  · rename_i i j
    cases rep_int_inv hx; cases rep_int_inv hy
    exact ⟨i, j, rfl, rfl, q _ (.dat _) (hg i j A H) hf⟩
  · exact hf.elim
theorem opd_I {P P' : Int → Int → Prop} {g : Int → Int → V} {g' : Int → Int → PyData} (hp : ∀ i j, P' i j → P i j) (hg : ∀ i j A H, Rep K A H (g i j) (g' i j)) : OpD K (rI P g) (fI P' g') := OpD.flat fun A x y a b H S C Q hx hy hf q => by
  unfold fI at hf
  split at hf
  · rename_i i j
    cases rep_int_inv hx; cases rep_int_inv hy
    exact ⟨i, j, rfl, rfl, hp i j hf.1, q _ (.dat _) (hg i j A H) hf.2⟩
  · exact hf.elim

/-! ### + of ints, texts, lists, tuples -/
def fAdd : F2 := fun a b S C => match a, b with
  | .dat (.int i), .dat (.int j) => C (.dat (.int (i + j))) S
  | .dat (.str x), .dat (.str y) => x.length + y.length ≤ 100000 ∧ C (.dat (.str (x ++ y))) S
  | .dat (.list xs), .dat (.list ys) => xs.length + ys.length ≤ 100000 ∧ C (.dat (.list (xs ++ ys))) S
  | .dat (.tuple xs), .dat (.tuple ys) => xs.length + ys.length ≤ 100000 ∧ C (.dat (.tuple (xs ++ ys))) S
  | _, _ => False
def rStrAdd : R2 := fun x y H Q => ∃ i j, x = .str i ∧ y = .str j ∧ i.length + j.length ≤ sizeLine ∧ Q (.str (i ++ j)) H
def rAddAll (K : Fg) : R2 := fun x y H Q => (rI0 (fun i j => V.int (i + j))) x y H Q ∨ rStrAdd x y H Q ∨ rCat x y H Q ∨ rCatA K x y H Q
theorem op_addAll {X : Cx} : OpR X (binaryOp .Add) (rAddAll X.K) := op_add.or (op_add_str.or (op_cat.or op_catA))
theorem sqT_of {A : Addr → Prop} {H : Hp} {a : Addr} {xs : List V} (h : H a = some (.tup xs) ∨ KTup K a xs) : SqT K H a xs := by
  rcases h with h | h
  · exact SqT.of h
  · exact .inr h
theorem opd_add : OpD K (rAddAll K) fAdd := by
  intro F x y a b H S L C Q o hx hy hf q
  replace hx := o.live _ hx
  replace hy := o.live _ hy
  unfold fAdd at hf
  split at hf
  · cases rep_int_inv hx; cases rep_int_inv hy
    exact .inl ⟨_, _, rfl, rfl, q _ _ S H (o.pd (.int _)) hf⟩
  · cases hx; cases hy
    exact .inr (.inl ⟨_, _, rfl, rfl, big_of hf.1, q _ _ S H (o.pd (.str _)) hf.2⟩)
  · cases hx with | lst h1 n1 q1 => cases hy with | lst h2 n2 q2 =>
    exact .inr (.inr (.inl ⟨_, _, _, _, rfl, rfl, h1, h2, by rw [q1.length, q2.length]; exact big_of hf.1, fun p hp => q _ _ S _ (o.lst hp (q1.append q2)) hf.2⟩))
  · cases hx with | tup h1 q1 => cases hy with | tup h2 q2 =>
    refine .inr (.inr (.inr ⟨_, _, _, _, rfl, rfl, sqT_of (A := Av S) h1, sqT_of (A := Av S) h2, by rw [q1.length, q2.length]; exact big_of hf.1, fun z => ?_, fun _ z => ?_, fun _ _ p hp => q _ _ S _ (o.tup hp (q1.append q2)) hf.2⟩))
    · subst z
      cases q1
      exact q _ _ S H (o.pd (.tup h2 q2)) hf.2
    · subst z
      cases q2
      have e := hf.2
      rw [List.append_nil] at e
      exact q _ _ S H (o.pd (.tup h1 q1)) e
  · exact hf.elim

/-! ### * of ints, of lists -/
def fMul : F2 := fun a b S C => match a, b with
  | .dat (.int i), .dat (.int j) => CMulW i j ∧ C (.dat (.int (i * j))) S
  | .dat (.list xs), .dat (.int k) => k ≤ 1000 ∧ -1000 ≤ k ∧ xs.length ≤ 100 ∧ C (.dat (.list (List.replicate k.toNat xs).flatten)) S
  | _, _ => False
def fMulC : F2 := fun a b S C => match a, b with
  | .dat (.list xs), .dat (.int k) => k ≤ 1000 ∧ -1000 ≤ k ∧ xs.length ≤ 100 ∧ ∀ p, C (.val (.ref p)) (.lst p ((List.replicate k.toNat xs).flatten.map R.dat) :: S)
  | _, _ => False
def rMulAll : R2 := fun x y H Q => (rI CMulW fun i j => V.int (i * j)) x y H Q ∨ rRep x y H Q
theorem op_mulAll {X : Cx} : OpR X (binaryOp .Mult) rMulAll := op_mulW.or op_rep
theorem rep_size {n : Nat} {k : Int} (h : n ≤ 100) (hk : k ≤ 1000) : n * k.toNat ≤ sizeLine := by
  have h1 : k.toNat ≤ 1000 := by omega
  have h2 : n * k.toNat ≤ 100 * 1000 := Nat.mul_le_mul h h1
  exact Nat.le_trans h2 (by decide)
theorem opd_mul : OpD K rMulAll fMul := by
  intro F x y a b H S L C Q o hx hy hf q
  replace hx := o.live _ hx
  replace hy := o.live _ hy
  unfold fMul at hf
  split at hf
  · cases rep_int_inv hx; cases rep_int_inv hy
    exact .inl ⟨_, _, rfl, rfl, hf.1, q _ _ S H (o.pd (.int _)) hf.2⟩
  · cases rep_int_inv hy
    cases hx with | lst h1 n1 q1 =>
    exact .inr ⟨_, _, _, rfl, rfl, h1, by omega, by omega, by rw [q1.length]; exact rep_size hf.2.2.1 hf.1, fun p hp => q _ _ S _ (o.lst hp (q1.rep _)) hf.2.2.2⟩
  · exact hf.elim
theorem opd_mulC : OpD K rMulAll fMulC := by
  intro F x y a b H S L C Q o hx hy hf q
  replace hx := o.live _ hx
  replace hy := o.live _ hy
  unfold fMulC at hf
  split at hf
  · cases rep_int_inv hy
    cases hx with | lst h1 n1 q1 =>
    exact .inr ⟨_, _, _, rfl, rfl, h1, by omega, by omega, by rw [q1.length]; exact rep_size hf.2.2.1 hf.1, fun p hp => q _ _ (_ :: S) _ (Ok.push (r := .val (.ref p)) (o.lstC hp (all_reps (q1.rep _))) rfl) (hf.2.2.2 p)⟩
  · exact hf.elim
/-! ### equality of data -/
def scalD : PyData → PyData → Bool
  | .none, .none => true | .none, .int _ => true | .int _, .none => true | .none, .bool _ => true | .bool _, .none => true | .none, .str _ => true | .str _, .none => true
  | .int _, .int _ => true | .bool _, .bool _ => true | .str _, .str _ => true
  | .int _, .str _ => true | .str _, .int _ => true | .bool _, .str _ => true | .str _, .bool _ => true
  | _, _ => false
def eqOk (d e : PyData) : Bool := scalD d e || (SeqAt.shaped d && SeqAt.shaped e)
def fEq : F2 := fun a b S C => match a, b with
  | .dat d, .dat e => eqOk d e = true ∧ C (.dat (.bool (PyData.eqv d e))) S
  | _, _ => False
def fNe : F2 := fun a b S C => match a, b with
  | .dat d, .dat e => eqOk d e = true ∧ C (.dat (.bool (!PyData.eqv d e))) S
  | _, _ => False
theorem scal_eq {A : Addr → Prop} {H : Hp} {x y : V} {d e : PyData} (hx : Rep K A H x d) (hy : Rep K A H y e) (h : scalD d e = true) : scal x y = true ∧ decide (x = y) = PyData.eqv d e := by
  cases hx <;> cases hy <;> first
    | (refine ⟨rfl, ?_⟩; rfl)
    | (refine ⟨rfl, ?_⟩; simp [PyData.eqv, Bool.beq_eq_decide_eq]; done)
    | (refine ⟨rfl, ?_⟩; rw [dec_str]; simp [PyData.eqv]; done)
    | (refine ⟨rfl, ?_⟩; rw [dec_bl]; simp [PyData.eqv]; done)
    | (exfalso; revert h; simp [scalD]; done)
def rEqAll (K : Fg) : R2 := fun x y H Q => rEq x y H Q ∨ rEqD K x y H Q
def rNeAll (K : Fg) : R2 := fun x y H Q => rNe x y H Q ∨ rNeD K x y H Q
theorem op_eqAll {X : Cx} (hu : X.A.units + 64 < cLine) : OpR X (compareOp .Eq) (rEqAll X.K) := op_eq.or (op_eqD hu)
theorem op_neAll {X : Cx} (hu : X.A.units + 64 < cLine) : OpR X (compareOp .NotEq) (rNeAll X.K) := op_ne.or (op_neD hu)
theorem opd_eq : OpD K (rEqAll K) fEq := OpD.flat fun A x y a b H S C Q hx hy hf q => by
  unfold fEq at hf
  split at hf
  · rename_i d e
    obtain ⟨h1, h2⟩ := hf
    rcases Bool.or_eq_true_iff.mp h1 with h | h
    · obtain ⟨s, e1⟩ := scal_eq hx hy h
      exact .inl ⟨s, q _ (.dat _) (by rw [e1]; exact Rep.bl _) h2⟩
    · obtain ⟨s1, s2⟩ := Bool.and_eq_true_iff.mp h
      exact .inr ⟨d, e, hx.dp, hy.dp, s1, s2, q _ (.dat _) (Rep.bl _) h2⟩
  · exact hf.elim
theorem opd_ne : OpD K (rNeAll K) fNe := OpD.flat fun A x y a b H S C Q hx hy hf q => by
  unfold fNe at hf
  split at hf
  · rename_i d e
    obtain ⟨h1, h2⟩ := hf
    rcases Bool.or_eq_true_iff.mp h1 with h | h
    · obtain ⟨s, e1⟩ := scal_eq hx hy h
      exact .inl ⟨s, q _ (.dat _) (by rw [e1]; exact Rep.bl _) h2⟩
    · obtain ⟨s1, s2⟩ := Bool.and_eq_true_iff.mp h
      exact .inr ⟨d, e, hx.dp, hy.dp, s1, s2, q _ (.dat _) (Rep.bl _) h2⟩
  · exact hf.elim

/-! ### is None -/
def isNone : R → Bool
  | .dat .none => true
  | .dat _ => false
  | .val v => decide (v = .non)
  | .scr _ => false
  | .tp _ => false
  | .obj _ _ _ => false
  | .dic _ _ => false
def fIsN : F2 := fun a b S C => match b with
  | .dat .none => C (.dat (.bool (isNone a))) S
  | _ => False
def fNotN : F2 := fun a b S C => match b with
  | .dat .none => C (.dat (.bool (!isNone a))) S
  | _ => False
theorem isNone_of {A : Addr → Prop} {H : Hp} {x : V} {a : R} (h : RepR K A H x a) : decide (x = .non) = isNone a := by
  cases a with
  | dat d => cases h <;> rfl
  | val v => cases (show x = v from h); rfl
  | scr ns => obtain ⟨a, e, _⟩ := h; rw [e]; rfl
  | tp rs => obtain ⟨a, o, e, _⟩ := h; rw [e]; rfl
  | obj C ks rs => obtain ⟨a, dx, vs, e, _⟩ := h; rw [e]; rfl
  | dic ks rs => obtain ⟨a, vs, e, _⟩ := h; rw [e]; rfl
def rIsNn : R2 := fun x y H Q => y = .non ∧ Q (.bl (decide (x = .non))) H
def rNotNn : R2 := fun x y H Q => y = .non ∧ Q (.bl (!decide (x = .non))) H
theorem opd_isN : OpD K rIsNn fIsN := OpD.flat fun A x y a b H S C Q hx hy hf q => by
  unfold fIsN at hf
  split at hf
  · refine ⟨by cases hy; rfl, q _ (.dat _) ?_ hf⟩
    rw [isNone_of hx]; exact Rep.bl _
  · exact hf.elim
theorem opd_notN : OpD K rNotNn fNotN := OpD.flat fun A x y a b H S C Q hx hy hf q => by
  unfold fNotN at hf
  split at hf
  · refine ⟨by cases hy; rfl, q _ (.dat _) ?_ hf⟩
    rw [isNone_of hx]; exact Rep.bl _
  · exact hf.elim

/-! ### in, not in: flat data -/
def flatD : PyData → Bool
  | .none => true | .bool _ => true | .int _ => true | .str _ => true | _ => false
def inD (d : PyData) (ds : List PyData) : Bool := ds.any fun e => PyData.eqv e d
def fIn (neg : Bool) : F2 := fun a b S C => match a, b with
  | .dat d, .dat (.list ds) => flatD d = true ∧ ds.all flatD = true ∧ C (.dat (.bool (if neg then !inD d ds else inD d ds))) S
  | .dat d, .dat (.tuple ds) => flatD d = true ∧ ds.all flatD = true ∧ C (.dat (.bool (if neg then !inD d ds else inD d ds))) S
  | _, _ => False
theorem flat_of {A : Addr → Prop} {H : Hp} {x : V} {d : PyData} (h : Rep K A H x d) (f : flatD d = true) : flatV x = true := by
  cases h <;> first | rfl | (exfalso; revert f; simp [flatD]; done)
theorem flats_of {A : Addr → Prop} {H : Hp} : ∀ {xs : List V} {ds : List PyData}, RepAll K A H xs ds → ds.all flatD = true → xs.all flatV = true
  | _, _, .nil, _ => rfl
  | _, _, .cons h t, f => by
    rw [List.all_cons] at f ⊢
    obtain ⟨f1, f2⟩ := Bool.and_eq_true_iff.mp f
    rw [flat_of h f1, flats_of t f2]; rfl
theorem eqV_of {A : Addr → Prop} {H : Hp} {x y : V} {d e : PyData} (h : Rep K A H x d) (h' : Rep K A H y e) (f : flatD d = true) (f' : flatD e = true) : eqV x y = PyData.eqv d e := by
  cases h <;> cases h' <;> first | rfl | (exfalso; revert f; simp [flatD]; done) | (exfalso; revert f'; simp [flatD]; done) | (simp [eqV, PyData.eqv]; done)
theorem inV_of {A : Addr → Prop} {H : Hp} {x : V} {d : PyData} (h : Rep K A H x d) (f : flatD d = true) : ∀ {xs : List V} {ds : List PyData}, RepAll K A H xs ds → ds.all flatD = true → inV x xs = inD d ds
  | _, _, .nil, _ => rfl
  | _, _, .cons (v := v) (vs := vs) (d := e) (ds := ds) h' t, f' => by
    rw [List.all_cons] at f'
    obtain ⟨f1, f2⟩ := Bool.and_eq_true_iff.mp f'
    have ih := inV_of h f t f2
    unfold inV inD at ih ⊢
    rw [List.any_cons, List.any_cons, ih, eqV_of h' h f1 f]
theorem opd_in {neg : Bool} : OpD K (rIn K neg) (fIn neg) := OpD.flat fun A x y a b H S C Q hx hy hf q => by
  unfold fIn at hf
  split at hf
  · obtain ⟨f1, f2, h⟩ := hf
    cases hy with | lst h1 n1 q1 =>
    refine ⟨_, _, rfl, .inl (SqL.of h1), flat_of hx f1, flats_of q1 f2, q _ (.dat _) ?_ h⟩
    rw [inV_of hx f1 q1 f2]; exact Rep.bl _
  · obtain ⟨f1, f2, h⟩ := hf
    cases hy with | tup h1 q1 =>
    refine ⟨_, _, rfl, .inr (sqT_of (A := A) h1), flat_of hx f1, flats_of q1 f2, q _ (.dat _) ?_ h⟩
    rw [inV_of hx f1 q1 f2]; exact Rep.bl _
  · exact hf.elim

/-! ### subscripts -/
def fIx : F2 := fun a b S C => match a, b with
  | .dat (.list ds), .dat (.int i) => ∃ d, atI ds i = some d ∧ C (.dat d) S
  | .dat (.tuple ds), .dat (.int i) => ∃ d, atI ds i = some d ∧ C (.dat d) S
  | .dat (.str z), .dat (.int i) => z.length ≤ 100000 ∧ ∃ c, atI z.cps.toList i = some c ∧ C (.dat (.str ⟨#[c]⟩)) S
  | .scr ns, .dat (.int i) => ∃ z, atI ns i = some z ∧ C (.dat (.int z)) S
  | .tp rs, .dat (.int i) => ∃ r, atI rs i = some r ∧ C r S
  | .val (.ref p), .dat (.int i) => (∃ (j : Nat) (xs : List R) (r : R), S[j]? = some (.lst p xs) ∧ atI xs i = some r ∧ C r S) ∨
      ∃ (j : Nat) (kvs : List (Key × R)) (r : R), S[j]? = some (.dct p kvs) ∧ kvs.find? (fun kv => decide (kv.1 = Sum.inl i)) = some (Sum.inl i, r) ∧ C r S
  | .val (.ref p), .dat (.str x) => ∃ (j : Nat) (kvs : List (Key × R)) (r : R), S[j]? = some (.dct p kvs) ∧ kvs.find? (fun kv => decide (kv.1 = Sum.inr x)) = some (Sum.inr x, r) ∧ C r S
  | .dic ks rs, .dat (.str x) => ∃ r, (ks.zip rs).find? (fun kv => decide (kv.1 = Sum.inr x)) = some (Sum.inr x, r) ∧ C r S
  | _, _ => False
theorem atI_all {A : Addr → Prop} {H : Hp} {xs : List V} {ds : List PyData} {i : Int} {d : PyData} (h : RepAll K A H xs ds) (e : atI ds i = some d) : ∃ v, atI xs i = some v ∧ Rep K A H v d := by
  unfold atI at e ⊢
  rw [← h.length] at e
  cases e1 : ixN xs.length i with
  | none => rw [e1] at e; cases e
  | some j =>
    rw [e1] at e
    exact h.get' e
theorem atI_map {α β : Type} (f : α → β) {xs : List α} {i : Int} {x : α} (e : atI xs i = some x) : atI (xs.map f) i = some (f x) := by
  unfold atI at e ⊢
  rw [List.length_map]
  cases e1 : ixN xs.length i with
  | none => rw [e1] at e; cases e
  | some j =>
    rw [e1] at e
    show (xs.map f)[j]? = some (f x)
    rw [List.getElem?_map, show xs[j]? = some x from e]; rfl
theorem paired_get' {α β : Type} {P : α → β → Prop} : ∀ {l : List α} {m : List β} {i : Nat} {b : β}, Paired P l m → m[i]? = some b → ∃ a, l[i]? = some a ∧ P a b
  | _, _, _, _, .nil, e => by simp at e
  | _, _, 0, _, .cons r _, e => by simp at e; subst e; exact ⟨_, rfl, r⟩
  | _, _, i + 1, b, .cons _ t, e => by
    obtain ⟨u, h1, h2⟩ := paired_get' (i := i) (b := b) t (by simpa using e)
    exact ⟨u, by simpa using h1, h2⟩
theorem paired_len {α β : Type} {P : α → β → Prop} : ∀ {l : List α} {m : List β}, Paired P l m → l.length = m.length
  | _, _, .nil => rfl
  | _, _, .cons _ t => by rw [List.length_cons, List.length_cons, paired_len t]
theorem atI_rs {P : V → R → Prop} {xs : List V} {ds : List R} {i : Int} {d : R} (h : Paired P xs ds) (e : atI ds i = some d) : ∃ v, atI xs i = some v ∧ P v d := by
  unfold atI at e ⊢
  rw [← paired_len h] at e
  cases e1 : ixN xs.length i with
  | none => rw [e1] at e; cases e
  | some j =>
    rw [e1] at e
    exact paired_get' h e
theorem find_kv {P : V → R → Prop} {k : Key} {r : R} : ∀ {kws : List (Key × V)} {kvs : List (Key × R)}, Paired (fun (a : Key × V) (b : Key × R) => a.1 = b.1 ∧ P a.2 b.2) kws kvs → kvs.find? (fun kv => decide (kv.1 = k)) = some (k, r) → ∃ v, valV kws k = some v ∧ P v r
  | _, _, .nil, e => by simp at e
  | a :: as, b :: bs, .cons ⟨h1, h2⟩ t, e => by
    rw [List.find?_cons] at e
    by_cases hk : b.1 = k
    · rw [decide_eq_true hk] at e
      have e' : b = (k, r) := Option.some.inj e
      refine ⟨a.2, valV_pos (h1.trans hk), ?_⟩
      rw [e'] at h2; exact h2
    · rw [decide_eq_false hk] at e
      obtain ⟨v, e1, e2⟩ := find_kv t e
      exact ⟨v, by rw [valV_neg (fun z => hk (h1.symm.trans z))]; exact e1, e2⟩
def rDGet : R2 := fun x y H Q => ∃ a v, x = .ref a ∧ DGet H a y (some v) ∧ Q v H
theorem ix_dict {X : Cx} (hu : X.A.units + 1 < cLine) : IxR X rDGet := by
  intro value slice pins s σ H x y v u Q I rx ry h hs
  obtain ⟨a, w, rfl, g, q⟩ := h
  obtain rfl : v = Value.ref a := rx
  have hT := dict_typeIs I g
  unfold subscriptTail
  refine wpAny_bind ?_
  rw [getitemInPython_of_ne hT.not_modules]
  refine wpAny_bind (wpAny_specialOf hT PySem.F.slot_dict_getitem.lookup ?_)
  have fin : wpAny (model X.prog X.w) X.A (subscripted slice false (Value.ref a) u) (fun r s₃ => wpAny (model X.prog X.w) X.A (letTemporaryGo value (Value.ref a) r >>= fun _ => pure r) (EP X pins σ Q) X.xe s₃) X.xe s := by
    rw [hs]
    exact wpAny_operating (d_getItem hu I g ry fun w' s3 I3 rw' => wpAny_bind (wpAny_letTemporaryGo (wpAny_pure ⟨w, H, I3, rw', q⟩)))
  first
    | exact wpAny_pure (wpAny_bind fin)
    | exact wpAny_bind (wpAny_pure (wpAny_bind fin))
    | exact wpAny_bind fin
def rIxAll (K : Fg) : R2 := fun x y H Q => rIx K x y H Q ∨ rDGet x y H Q
theorem ix_all {X : Cx} (hu : X.A.units + 1 < cLine) : IxR X (rIxAll X.K) := ix_seq.or (ix_dict hu)
theorem zip_kv {P : V → R → Prop} : ∀ {ks : List Key} {vs : List V} {rs : List R}, Paired P vs rs → Paired (fun (a : Key × V) (b : Key × R) => a.1 = b.1 ∧ P a.2 b.2) (ks.zip vs) (ks.zip rs)
  | [], _, _, _ => .nil
  | _ :: _, _, _, .nil => .nil
  | _ :: _, _, _, .cons h t => .cons ⟨rfl, h⟩ (zip_kv t)
theorem opd_ix : OpD K (rIxAll K) fIx := by
  intro F x y a b H S L C Q o hx hy hf q
  replace hx := o.live _ hx
  replace hy := o.live _ hy
  unfold fIx at hf
  split at hf
  · obtain ⟨d, e, h⟩ := hf
    cases rep_int_inv hy
    cases hx with | lst h1 n1 q1 =>
    obtain ⟨v, e1, r1⟩ := atI_all q1 e
    exact .inl (.inl ⟨_, _, _, v, rfl, rfl, SqL.of h1, e1, q _ _ S H (o.pd r1) h⟩)
  · obtain ⟨d, e, h⟩ := hf
    cases rep_int_inv hy
    cases hx with | tup h1 q1 =>
    obtain ⟨v, e1, r1⟩ := atI_all q1 e
    exact .inl (.inr (.inl ⟨_, _, _, v, rfl, rfl, sqT_of (A := Av S) h1, e1, q _ _ S H (o.pd r1) h⟩))
  · obtain ⟨hl, c, e, h⟩ := hf
    cases rep_int_inv hy
    cases hx
    exact .inl (.inr (.inr ⟨_, _, c, rfl, rfl, big_of hl, e, q _ _ S H (o.pd (.str _)) h⟩))
  · rename_i ns i
    cases rep_int_inv hy
    obtain ⟨a, rfl, e⟩ := (show ∃ a, x = .ref a ∧ ScrAt K H a (ns.map V.int) from hx)
    obtain ⟨z, e1, h⟩ := hf
    exact .inl (.inl ⟨_, _, _, _, rfl, rfl, e.sq, atI_map V.int e1, q _ _ S H (o.pd (.int z)) h⟩)
  · rename_i rs i
    cases rep_int_inv hy
    obtain ⟨a, vs, rfl, h1, q1⟩ := (show ∃ a vs, x = .ref a ∧ (H a = some (.tup vs) ∨ KTup K a vs) ∧ RepRl K _ H vs rs from hx)
    obtain ⟨r, e1, h⟩ := hf
    obtain ⟨v, e2, r2⟩ := atI_rs q1.pair e1
    exact .inl (.inr (.inl ⟨_, _, _, v, rfl, rfl, sqT_of (A := Av S) h1, e2, q _ _ S H (o.push r2) h⟩))
  · rename_i p i
    cases rep_int_inv hy
    cases (show x = V.ref p from hx)
    rcases hf with ⟨j, xs, r, hj, e, h⟩ | ⟨j, kvs, r, hj, e, h⟩
    · obtain ⟨vs, e1, q1⟩ := o.cells _ (at_split (in_app hj))
      obtain ⟨v, e2, r2⟩ := atI_rs q1 e
      exact .inl (.inl ⟨_, _, _, v, rfl, rfl, SqL.of e1, e2, q _ _ S H (o.push r2) h⟩)
    · obtain ⟨vs, e1, q1⟩ := o.cells _ (at_split (in_app hj))
      obtain ⟨v, e2, r2⟩ := find_kv q1 e
      exact .inr ⟨_, v, rfl, by rw [← e2]; exact DGet.k (k := Sum.inl i) e1, q _ _ S H (o.push r2) h⟩
  · rename_i p z
    cases hy
    cases (show x = V.ref p from hx)
    obtain ⟨j, kvs, r, hj, e, h⟩ := hf
    obtain ⟨vs, e1, q1⟩ := o.cells _ (at_split (in_app hj))
    obtain ⟨v, e2, r2⟩ := find_kv q1 e
    exact .inr ⟨_, v, rfl, by rw [← e2]; exact DGet.k (k := Sum.inr z) e1, q _ _ S H (o.push r2) h⟩
  · rename_i ks rs z
    cases hy
    obtain ⟨a, vs, rfl, e1, _, el, q1⟩ := (show ∃ a vs, x = .ref a ∧ H a = some (.dK (ks.zip vs)) ∧ ¬ _ ∧ vs.length = ks.length ∧ RepRl K _ H vs rs from hx)
    obtain ⟨r, e, h⟩ := hf
    obtain ⟨v, e2, r2⟩ := find_kv (zip_kv q1.pair) e
    exact .inr ⟨_, v, rfl, by rw [← e2]; exact DGet.k (k := Sum.inr z) e1, q _ _ S H (o.push r2) h⟩
  · exact hf.elim

/-! ### slices -/
def cutD {α : Type} (xs : List α) (lo hi : Option Int) : List α := (xs.drop (HT.sIx xs.length 0 lo)).take (HT.sIx xs.length xs.length hi - HT.sIx xs.length 0 lo)
theorem cut_all {A : Addr → Prop} {H : Hp} {xs : List V} {ds : List PyData} (h : RepAll K A H xs ds) (lo hi : Option Int) : RepAll K A H (cutV xs lo hi) (cutD ds lo hi) := by
  unfold cutV cutD
  rw [← h.length]
  exact (h.drop _).take _
abbrev F1 := R → SH → CR0 → Prop
def fSl (lo hi : Option Int) : F1 := fun a S C => match a with
  | .dat (.list ds) => C (.dat (.list (cutD ds lo hi))) S
  | .dat (.tuple ds) => C (.dat (.tuple (cutD ds lo hi))) S
  | .dat (.str z) => z.length ≤ 100000 ∧ C (.dat (.str (cutS z lo hi))) S
  | _ => False
def dSl (f : Option Int → Option Int → F1) (da : DE) (dl dh : DO) : DE := fun fr S C => da fr S fun a S1 => dl fr S1 fun lo S2 => dh fr S2 fun hi S3 => f lo hi a S3 C
def SlD (K : Fg) (r : V → Option Int → Option Int → Hp → VK → Prop) (f : Option Int → Option Int → F1) : Prop := ∀ (F : SH) (x : V) (lo hi : Option Int) (a : R) (H : Hp) (S : SH) (L : Live) (C : CR0) (Q : VK), OkF K F H S L → (x, a) ∈ L → f lo hi a S C →
  (∀ v c S' H', OkF K F H' S' ((v, c) :: L) → C c S' → Q v H') → r x lo hi H Q
theorem lift_sl {r : V → Option Int → Option Int → Hp → VK → Prop} {f : Option Int → Option Int → F1} {ta : TE} {tl th : TO} {da : DE} {dl dh : DO} (h : SlD K r f) (la : Lift K ta da) (ll : LiftO K tl dl) (lh : LiftO K th dh) : Lift K (tSl r ta tl th) (dSl f da dl dh) := by
  intro F H σ fr S L fo o C Q hd q
  refine la F H σ fr S L fo o _ _ hd fun x a S1 H1 o1 h1 => ?_
  refine ll F H1 σ fr S1 _ (fo.mono tl_mem) o1 _ _ h1 fun lo S2 H2 o2 h2 => ?_
  refine lh F H2 σ fr S2 _ (fo.mono tl_mem) o2 _ _ h2 fun hi S3 H3 o3 h3 => ?_
  exact h F x lo hi a H3 S3 _ C Q o3 List.mem_cons_self h3 fun v c S4 H4 o4 h4 => q v c S4 H4 (o4.sub (sub_cons tl_mem)) h4
def rSlAll (K : Fg) : V → Option Int → Option Int → Hp → VK → Prop := fun x lo hi H Q => rSlL K x lo hi H Q ∨ rSlA K x lo hi H Q ∨ rSlS x lo hi H Q
theorem sl_all {X : Cx} : SlR X (rSlAll X.K) := sl_list.or (sl_tupA.or sl_str)
theorem cutD_whole {α : Type} {xs : List α} {lo hi : Option Int} (h : HT.sIx xs.length 0 lo = 0 ∧ HT.sIx xs.length xs.length hi = xs.length) : cutD xs lo hi = xs := by
  unfold cutD
  rw [h.1, h.2]
  simp
theorem sld_all : SlD K (rSlAll K) fSl := by
  intro F x lo hi a H S L C Q o hx hf q
  replace hx := o.live _ hx
  unfold fSl at hf
  split at hf
  · cases hx with | lst h1 n1 q1 =>
    exact .inl ⟨_, _, rfl, SqL.of h1, fun p hp => q _ _ S _ (o.lst hp (cut_all q1 lo hi)) hf⟩
  · cases hx with | tup h1 q1 =>
    refine .inr (.inl ⟨_, _, rfl, sqT_of (A := Av S) h1, fun w => ?_, fun _ p hp => q _ _ S _ (o.tup hp (cut_all q1 lo hi)) hf⟩)
    rw [q1.length] at w
    rw [cutD_whole w] at hf
    exact q _ _ S H (o.pd (.tup h1 q1)) hf
  · cases hx
    exact .inr (.inr ⟨_, rfl, big_of hf.1, q _ _ S H (o.pd (.str _)) hf.2⟩)
  · exact hf.elim
def dNoPart : DO := fun _ S C => C none S
def dPart (d : DE) : DO := fun fr S C => d fr S fun a S1 => match a with
  | .dat (.int i) => C (some i) S1
  | _ => False
theorem lift_noPart : LiftO K tNoPart dNoPart := fun F H σ fr S L fo o C Q hd q => q none S H o hd
theorem lift_part {ta : TE} {da : DE} (la : Lift K ta da) : LiftO K (tPart ta) (dPart da) := by
  intro F H σ fr S L fo o C Q hd q
  refine la F H σ fr S L fo o _ _ hd fun x a S1 H1 o1 h1 => ?_
  split at h1
  · rename_i i
    cases rep_int_inv (o1.dat List.mem_cons_self)
    exact ⟨i, rfl, q _ S1 H1 (o1.sub tl_mem) h1⟩
  · exact h1.elim

/-! ### calls of built-ins by values -/
abbrev FA := List R → SH → CR0 → Prop
def CallD (K : Fg) (r : List V → Hp → VK → Prop) (f : FA) : Prop := ∀ (F : SH) (vs : List V) (rs : List R) (H : Hp) (S : SH) (L : Live) (C : CR0) (Q : VK), OkF K F H S L → Lives L vs rs → f rs S C →
  (∀ v c S' H', OkF K F H' S' ((v, c) :: L) → C c S' → Q v H') → r vs H Q
def dCB (f : FA) (da : DA) : DE := fun fr S C => da fr S fun rs S1 => f rs S1 C
theorem lift_cb {r : List V → Hp → VK → Prop} {f : FA} {ta : TA} {da : DA} (h : CallD K r f) (la : LiftA K ta da) : Lift K (tCB r ta) (dCB f da) := by
  intro F H σ fr S L fo o C Q hd q
  refine la F H σ fr S L fo o _ _ hd fun vs rs S1 H1 L1 o1 hs lv h1 => ?_
  exact h F vs rs H1 S1 L1 C Q o1 lv h1 fun v c S2 H2 o2 h2 => q v c S2 H2 (o2.sub (sub_cons hs)) h2
def dNil : DA := fun _ S C => C [] S
def dCons (d : DE) (da : DA) : DA := fun fr S C => d fr S fun a S1 => da fr S1 fun rs S2 => C (a :: rs) S2
theorem lift_nil : LiftA K tNil dNil := fun F H σ fr S L fo o C Q hd q => q [] [] S H L o (fun _ h => h) .nil hd
theorem lift_cons {te : TE} {de : DE} {ta : TA} {da : DA} (l : Lift K te de) (la : LiftA K ta da) : LiftA K (tCons te ta) (dCons de da) := by
  intro F H σ fr S L fo o C Q hd q
  refine l F H σ fr S L fo o _ _ hd fun x a S1 H1 o1 h1 => ?_
  refine la F H1 σ fr S1 _ (fo.mono tl_mem) o1 _ _ h1 fun vs rs S2 H2 L2 o2 hs lv h2 => ?_
  exact q (x :: vs) (a :: rs) S2 H2 L2 o2 (fun e he => hs e (List.mem_cons_of_mem _ he)) (.cons (hs _ List.mem_cons_self) lv) h2
/-! ### displays -/
def dTup (da : DA) : DE := fun fr S C => da fr S fun rs S1 => rs.length ≤ 100000 ∧ ∃ ds, dats rs = some ds ∧ C (.dat (.tuple ds)) S1
def dLst (da : DA) : DE := fun fr S C => da fr S fun rs S1 => rs.length ≤ 100000 ∧ ∃ ds, dats rs = some ds ∧ C (.dat (.list ds)) S1
def dLstC (da : DA) : DE := fun fr S C => da fr S fun rs S1 => rs.length ≤ 100000 ∧ ∀ p, C (.val (.ref p)) (.lst p rs :: S1)
def dTp (da : DA) : DE := fun fr S C => da fr S fun rs S1 => rs.length ≤ 100000 ∧ C (.tp rs) S1
theorem lift_tp {ta : TA} {da : DA} (la : LiftA K ta da) : Lift K (tTup ta) (dTp da) := by
  intro F H σ fr S L fo o C Q hd q
  refine la F H σ fr S L fo o _ _ hd fun vs rs S1 H1 L1 o1 hs lv h1 => ?_
  obtain ⟨hl, h⟩ := h1
  exact ⟨by rw [paired_len lv]; exact big_of hl, fun p hp => q _ _ S1 _ ((Ok.push (r := .tp rs) (o1.new hp) ⟨p, vs, rfl, .inl upd_same, RepRl.of ((o1.reps lv).stp (stp_new hp))⟩).sub (sub_cons hs)) h⟩
theorem lift_tup {ta : TA} {da : DA} (la : LiftA K ta da) : Lift K (tTup ta) (dTup da) := by
  intro F H σ fr S L fo o C Q hd q
  refine la F H σ fr S L fo o _ _ hd fun vs rs S1 H1 L1 o1 hs lv h1 => ?_
  obtain ⟨hl, ds, e, h⟩ := h1
  exact ⟨by rw [paired_len lv]; exact big_of hl, fun p hp => q _ _ S1 _ ((o1.tup hp (o1.all lv e)).sub (sub_cons hs)) h⟩
theorem lift_lst {ta : TA} {da : DA} (la : LiftA K ta da) : Lift K (tLst ta) (dLst da) := by
  intro F H σ fr S L fo o C Q hd q
  refine la F H σ fr S L fo o _ _ hd fun vs rs S1 H1 L1 o1 hs lv h1 => ?_
  obtain ⟨hl, ds, e, h⟩ := h1
  exact ⟨by rw [paired_len lv]; exact big_of hl, fun p hp => q _ _ S1 _ ((o1.lst hp (o1.all lv e)).sub (sub_cons hs)) h⟩
theorem lift_lstC {ta : TA} {da : DA} (la : LiftA K ta da) : Lift K (tLst ta) (dLstC da) := by
  intro F H σ fr S L fo o C Q hd q
  refine la F H σ fr S L fo o _ _ hd fun vs rs S1 H1 L1 o1 hs lv h1 => ?_
  obtain ⟨hl, h⟩ := h1
  refine ⟨by rw [paired_len lv]; exact big_of hl, fun p hp => q _ _ (.lst p rs :: S1) _ (((Ok.push (r := .val (.ref p)) (o1.lstC hp (o1.reps lv)) rfl)).sub (sub_cons hs)) (h p)⟩
/-! ### tests -/
def dTest (d : DE) : DT := fun fr S C => d fr S fun a S1 => match a with
  | .dat (.bool k) => C k S1
  | _ => False
theorem lift_test {t : TE} {d : DE} (l : Lift K t d) : LiftT K (tTest t) (dTest d) := by
  intro F H σ fr S L fo o C Q hd q
  refine l F H σ fr S L fo o _ _ hd fun x a S1 H1 o1 h1 => ?_
  split at h1
  · rename_i k
    have e : x = .bl k := by cases (o1.dat List.mem_cons_self); rfl
    exact ⟨k, e, q k S1 H1 (o1.sub tl_mem) h1⟩
  · exact h1.elim
theorem lift_testB {t : TE} {d : DE} (l : Lift K t d) : LiftT K (tB t) (dTest d) := lift_test l
def dAnd (t u : DT) : DT := fun fr S C => t fr S fun c S1 => if c = true then u fr S1 C else C false S1
def dOr (t u : DT) : DT := fun fr S C => t fr S fun c S1 => if c = true then C true S1 else u fr S1 C
def dNot (t : DT) : DT := fun fr S C => t fr S fun c S1 => C (!c) S1
theorem lift_and {t u : TT} {dt du : DT} (l : LiftT K t dt) (l2 : LiftT K u du) : LiftT K (tAnd t u) (dAnd dt du) := by
  intro F H σ fr S L fo o C Q hd q
  refine l F H σ fr S L fo o _ _ hd fun c S1 H1 o1 h1 => ?_
  cases c with
  | true => exact l2 F H1 σ fr S1 L fo o1 C Q h1 q
  | false => exact q false S1 H1 o1 h1
theorem lift_or {t u : TT} {dt du : DT} (l : LiftT K t dt) (l2 : LiftT K u du) : LiftT K (tOr t u) (dOr dt du) := by
  intro F H σ fr S L fo o C Q hd q
  refine l F H σ fr S L fo o _ _ hd fun c S1 H1 o1 h1 => ?_
  cases c with
  | true => exact q true S1 H1 o1 h1
  | false => exact l2 F H1 σ fr S1 L fo o1 C Q h1 q
theorem lift_not {t : TT} {dt : DT} (l : LiftT K t dt) : LiftT K (tNot t) (dNot dt) := by
  intro F H σ fr S L fo o C Q hd q
  exact l F H σ fr S L fo o _ _ hd fun c S1 H1 o1 h1 => q (!c) S1 H1 o1 h1
/-- .. as values -/
def dAndV (a b : DE) : DE := fun fr S C => a fr S fun x S1 => match x with
  | .dat (.bool c) => if c = true then b fr S1 C else C (.dat (.bool false)) S1
  | _ => False
def dOrV (a b : DE) : DE := fun fr S C => a fr S fun x S1 => match x with
  | .dat (.bool c) => if c = true then C (.dat (.bool true)) S1 else b fr S1 C
  | _ => False
def dNotV (a : DE) : DE := fun fr S C => a fr S fun x S1 => match x with
  | .dat (.bool c) => C (.dat (.bool (!c))) S1
  | _ => False
theorem rep_bool_inv {A : Addr → Prop} {H : Hp} {v : V} {i : Bool} (h : Rep K A H v (.bool i)) : v = .bl i := by cases h; rfl
theorem lift_andV {ta tb : TE} {da db : DE} (la : Lift K ta da) (lb : Lift K tb db) : Lift K (tAndV ta tb) (dAndV da db) := by
  intro F H σ fr S L fo o C Q hd q
  refine la F H σ fr S L fo o _ _ hd fun x a S1 H1 o1 h1 => ?_
  split at h1
  · rename_i c
    refine ⟨c, rep_bool_inv (o1.dat List.mem_cons_self), ?_⟩
    cases c with
    | true => exact lb F H1 σ fr S1 L fo (o1.sub tl_mem) C Q h1 q
    | false => exact q _ _ S1 H1 ((o1.sub tl_mem).pd (.bl _)) h1
  · exact h1.elim
theorem lift_orV {ta tb : TE} {da db : DE} (la : Lift K ta da) (lb : Lift K tb db) : Lift K (tOrV ta tb) (dOrV da db) := by
  intro F H σ fr S L fo o C Q hd q
  refine la F H σ fr S L fo o _ _ hd fun x a S1 H1 o1 h1 => ?_
  split at h1
  · rename_i c
    refine ⟨c, rep_bool_inv (o1.dat List.mem_cons_self), ?_⟩
    cases c with
    | false => exact lb F H1 σ fr S1 L fo (o1.sub tl_mem) C Q h1 q
    | true => exact q _ _ S1 H1 ((o1.sub tl_mem).pd (.bl _)) h1
  · exact h1.elim
theorem lift_notV {ta : TE} {da : DE} (la : Lift K ta da) : Lift K (tNotV ta) (dNotV da) := by
  intro F H σ fr S L fo o C Q hd q
  refine la F H σ fr S L fo o _ _ hd fun x a S1 H1 o1 h1 => ?_
  split at h1
  · rename_i c
    exact ⟨c, rep_bool_inv (o1.dat List.mem_cons_self), q _ _ S1 H1 ((o1.sub tl_mem).pd (.bl _)) h1⟩
  · exact h1.elim
def dIf (t : DT) (a b : DE) : DE := fun fr S C => t fr S fun c S1 => if c = true then a fr S1 C else b fr S1 C
theorem lift_if {t : TT} {dt : DT} {ta tb : TE} {da db : DE} (l : LiftT K t dt) (la : Lift K ta da) (lb : Lift K tb db) : Lift K (tIf t ta tb) (dIf dt da db) := by
  intro F H σ fr S L fo o C Q hd q
  refine l F H σ fr S L fo o _ _ hd fun c S1 H1 o1 h1 => ?_
  cases c with
  | true => exact la F H1 σ fr S1 L fo o1 C Q h1 q
  | false => exact lb F H1 σ fr S1 L fo o1 C Q h1 q
/-- a < b < c -/
def dChain (f g : F2) (da db dc : DE) : DE := fun fr S C => da fr S fun a S1 => db fr S1 fun b S2 => f a b S2 fun z S3 => match z with
  | .dat (.bool k) => if k = true then dc fr S3 fun c S4 => g b c S4 C else C (.dat (.bool false)) S3
  | _ => False
theorem lift_chain {r r' : R2} {f g : F2} {ta tb tc : TE} {da db dc : DE} (h : OpD K r f) (h' : OpD K r' g) (la : Lift K ta da) (lb : Lift K tb db) (lc : Lift K tc dc) : Lift K (tChain r r' ta tb tc) (dChain f g da db dc) := by
  intro F H σ fr S L fo o C Q hd q
  refine la F H σ fr S L fo o _ _ hd fun x a S1 H1 o1 h1 => ?_
  refine lb F H1 σ fr S1 _ (fo.mono tl_mem) o1 _ _ h1 fun y b S2 H2 o2 h2 => ?_
  refine h F x y a b H2 S2 _ _ _ o2 (List.mem_cons_of_mem _ List.mem_cons_self) List.mem_cons_self h2 fun z c S3 H3 o3 h3 => ?_
  have o3' := o3.sub tl_mem
  split at h3
  · rename_i k
    refine ⟨k, rep_bool_inv (o3.dat List.mem_cons_self), ?_⟩
    cases k with
    | false => exact q _ _ S3 H3 ((o3'.pd (.bl false)).sub (sub_cons fun e he => List.mem_cons_of_mem _ (List.mem_cons_of_mem _ he))) h3
    | true =>
      refine lc F H3 σ fr S3 _ (fo.mono fun e he => List.mem_cons_of_mem _ (List.mem_cons_of_mem _ he)) o3' _ _ h3 fun w d S4 H4 o4 h4 => ?_
      exact h' F y w b d H4 S4 _ C Q o4 (List.mem_cons_of_mem _ List.mem_cons_self) List.mem_cons_self h4 fun v e S5 H5 o5 h5 =>
        q v e S5 H5 (o5.sub (sub_cons fun e he => List.mem_cons_of_mem _ (List.mem_cons_of_mem _ (List.mem_cons_of_mem _ he)))) h5
  · exact h3.elim
end

/-! ### the rules -/
section
variable {X : Cx} {a b c e f : Expr} {da db dc de df : DE} {dA : DA} {dt du : DT} {dl dh : DO} {pos : Pos} {es : List Expr}
theorem dv (i : Nat) {x : Str} {pos : Pos} (hN : X.N[i]? = some x := by rfl) (hv : Vis X.env.scope x := by first | exact Or.inl rfl | exact Or.inr (Or.inl rfl) | exact Or.inr (Or.inr rfl)) (hd : (x == ("__debug__" : Str)) = false := by decide)
    (hcd : (x == ("__classdict__" : Str)) = false := by decide) : PD X (.Name x pos) (dVar i) := ⟨_, pe_var hN hv hd hcd, lift_var i⟩
theorem d_int {i : Int} {j : Nat} : PD X (.Constant (.int i) j pos) (dC (.dat (.int i))) := ⟨_, pe_int, lift_c fun _ _ => .int i⟩
theorem d_bl {i : Bool} {j : Nat} : PD X (.Constant (.bool i) j pos) (dC (.dat (.bool i))) := ⟨_, pe_bl, lift_c fun _ _ => .bl i⟩
theorem d_non {j : Nat} : PD X (.Constant .none j pos) (dC (.dat .none)) := ⟨_, pe_non, lift_c fun _ _ => .non⟩
theorem d_str {i : Str} {j : Nat} : PD X (.Constant (.str i) j pos) (dC (.dat (.str i))) := ⟨_, pe_str, lift_c fun _ _ => .str i⟩
/-- a module's constant -/
theorem d_globI {x : Str} {i : Int} {t : Tok} (hg : Gl X x) (hm : X.mg x = some (.int i t)) (hd : (x == ("__debug__" : Str)) = false := by decide) : PD X (.Name x pos) (dC (.dat (.int i))) := ⟨_, pe_glob (v := .int i) hg hm ⟨_, rfl⟩ hd, lift_c fun _ _ => .int i⟩
theorem d_globS {x : Str} {i : Str} {t : Tok} (hg : Gl X x) (hm : X.mg x = some (.str i t)) (hd : (x == ("__debug__" : Str)) = false := by decide) : PD X (.Name x pos) (dC (.dat (.str i))) := ⟨_, pe_glob (v := .str i) hg hm ⟨_, rfl⟩ hd, lift_c fun _ _ => .str i⟩
theorem d_globV {x : Str} {v : V} {u : Value} (hg : Gl X x) (hm : X.mg x = some u) (r : RelV v u) (hd : (x == ("__debug__" : Str)) = false := by decide) : PD X (.Name x pos) (dC (.val v)) := ⟨_, pe_glob hg hm r hd, lift_c fun _ _ => rfl⟩
theorem d_bltn {x : Str} {v : V} {u : Value} (hg : Gl X x) (hm : X.mg x = none) (hv : bootBuiltins x = some u) (r : RelV v u) (hn : x ≠ "__name__" := by decide) (hd : (x == ("__debug__" : Str)) = false := by decide) : PD X (.Name x pos) (dC (.val v)) := ⟨_, pe_bltn hg hm hv r hn hd, lift_c fun _ _ => rfl⟩
theorem d_opG {op : Operator} {r : R2} {f : F2} (ho : OpR X (binaryOp op) r) (hd : OpD X.K r f) (ha : PD X a da) (hb : PD X b db) : PD X (.BinOp a op b pos) (dOp f da db) := by
  obtain ⟨_, pa, la⟩ := ha.ex
  obtain ⟨_, pb, lb⟩ := hb.ex
  exact ⟨_, pe_op ho pa pb, lift_op hd la lb⟩
theorem d_add (ha : PD X a da) (hb : PD X b db) : PD X (.BinOp a .Add b pos) (dOp fAdd da db) := d_opG op_addAll opd_add ha hb
theorem d_sub (ha : PD X a da) (hb : PD X b db) : PD X (.BinOp a .Sub b pos) (dOp (fI0 fun i j => .int (i - j)) da db) := d_opG op_sub (opd_I0 fun _ _ _ _ => .int _) ha hb
theorem d_mul (ha : PD X a da) (hb : PD X b db) : PD X (.BinOp a .Mult b pos) (dOp fMul da db) := d_opG op_mulAll opd_mul ha hb
theorem d_mulC (ha : PD X a da) (hb : PD X b db) : PD X (.BinOp a .Mult b pos) (dOp fMulC da db) := d_opG op_mulAll opd_mulC ha hb
theorem d_mod (ha : PD X a da) (hb : PD X b db) : PD X (.BinOp a .Mod b pos) (dOp (fI (fun _ j => 0 < j) fun i j => .int (i % j)) da db) := d_opG op_mod (opd_I (fun _ _ h => h) fun _ _ _ _ => .int _) ha hb
theorem d_fdiv (ha : PD X a da) (hb : PD X b db) : PD X (.BinOp a .FloorDiv b pos) (dOp (fI CDivW fun i j => .int (i / j)) da db) := d_opG op_fdivW (opd_I (fun _ _ h => h) fun _ _ _ _ => .int _) ha hb
theorem d_pow (ha : PD X a da) (hb : PD X b db) : PD X (.BinOp a .Pow b pos) (dOp (fI CPow fun i j => .int (i ^ j.toNat)) da db) := d_opG op_pow (opd_I (fun _ _ h => h) fun _ _ _ _ => .int _) ha hb
def fNeg : F1 := fun a S C => match a with
  | .dat (.int i) => C (.dat (.int (-i))) S
  | _ => False
def dUn (f : F1) (da : DE) : DE := fun fr S C => da fr S fun a S1 => f a S1 C
theorem d_neg (ha : PD X a da) : PD X (.UnaryOp .USub a pos) (dUn fNeg da) := by
  obtain ⟨_, pa, la⟩ := ha.ex
  refine ⟨_, pe_un un_neg pa, ?_⟩
  intro F H σ fr S L fo o C Q hd q
  refine la F H σ fr S L fo o _ _ hd fun x a S1 H1 o1 h1 => ?_
  unfold fNeg at h1
  split at h1
  · cases rep_int_inv (o1.dat List.mem_cons_self)
    exact ⟨_, rfl, q _ _ S1 H1 ((o1.sub tl_mem).pd (.int _)) h1⟩
  · exact h1.elim
/-! comparisons -/
theorem d_cmpG {op : CmpOp} {r : R2} {f : F2} (ho : OpR X (compareOp op) r) (hd : OpD X.K r f) (ha : PD X a da) (hb : PD X b db) (hm : behindInMarks op b = false) : PD X (.Compare a [op] [b] pos) (dOp f da db) := by
  obtain ⟨_, pa, la⟩ := ha.ex
  obtain ⟨_, pb, lb⟩ := hb.ex
  exact ⟨_, pe_cmpR ho pa pb hm, lift_op hd la lb⟩
theorem t_cmpG {op : CmpOp} {r : R2} {f : F2} (ho : OpR X (compareOp op) r) (hd : OpD X.K r f) (ha : PD X a da) (hb : PD X b db) (hm : behindInMarks op b = false) : PDT X (.Compare a [op] [b] pos) (dTest (dOp f da db)) := by
  obtain ⟨_, pa, la⟩ := ha.ex
  obtain ⟨_, pb, lb⟩ := hb.ex
  exact ⟨_, pt_cmpR ho pa pb hm, lift_test (lift_op hd la lb)⟩
abbrev fLt : F2 := fI0 fun i j => .bool (decide (i < j))
abbrev fLe : F2 := fI0 fun i j => .bool (decide (i ≤ j))
abbrev fGt : F2 := fI0 fun i j => .bool (decide (j < i))
abbrev fGe : F2 := fI0 fun i j => .bool (decide (j ≤ i))
theorem opd_lt {K : Fg} : OpD K (rI0 fun i j => .bl (decide (i < j))) fLt := opd_I0 fun _ _ _ _ => .bl _
theorem opd_le {K : Fg} : OpD K (rI0 fun i j => .bl (decide (i ≤ j))) fLe := opd_I0 fun _ _ _ _ => .bl _
theorem opd_gt {K : Fg} : OpD K (rI0 fun i j => .bl (decide (j < i))) fGt := opd_I0 fun _ _ _ _ => .bl _
theorem opd_ge {K : Fg} : OpD K (rI0 fun i j => .bl (decide (j ≤ i))) fGe := opd_I0 fun _ _ _ _ => .bl _
theorem d_lt (ha : PD X a da) (hb : PD X b db) : PD X (.Compare a [.Lt] [b] pos) (dOp fLt da db) := d_cmpG op_lt opd_lt ha hb (nomark _)
theorem d_le (ha : PD X a da) (hb : PD X b db) : PD X (.Compare a [.LtE] [b] pos) (dOp fLe da db) := d_cmpG op_le opd_le ha hb (nomark _)
theorem d_gt (ha : PD X a da) (hb : PD X b db) : PD X (.Compare a [.Gt] [b] pos) (dOp fGt da db) := d_cmpG op_gt opd_gt ha hb (nomark _)
theorem d_ge (ha : PD X a da) (hb : PD X b db) : PD X (.Compare a [.GtE] [b] pos) (dOp fGe da db) := d_cmpG op_ge opd_ge ha hb (nomark _)
theorem d_eq (hu : X.A.units + 64 < cLine) (ha : PD X a da) (hb : PD X b db) : PD X (.Compare a [.Eq] [b] pos) (dOp fEq da db) := d_cmpG (op_eqAll hu) opd_eq ha hb (nomark _)
theorem d_ne (hu : X.A.units + 64 < cLine) (ha : PD X a da) (hb : PD X b db) : PD X (.Compare a [.NotEq] [b] pos) (dOp fNe da db) := d_cmpG (op_neAll hu) opd_ne ha hb (nomark _)
theorem d_isN (ha : PD X a da) (hb : PD X b db) : PD X (.Compare a [.Is] [b] pos) (dOp fIsN da db) := d_cmpG op_isN opd_isN ha hb (nomark _)
theorem d_notN (ha : PD X a da) (hb : PD X b db) : PD X (.Compare a [.IsNot] [b] pos) (dOp fNotN da db) := d_cmpG op_notN opd_notN ha hb (nomark _)
theorem d_in (ha : PD X a da) (hb : PD X b db) (hm : behindInMarks .In b = false := by rfl) : PD X (.Compare a [.In] [b] pos) (dOp (fIn false) da db) := d_cmpG op_in_seq opd_in ha hb hm
theorem d_notIn (ha : PD X a da) (hb : PD X b db) (hm : behindInMarks .NotIn b = false := by rfl) : PD X (.Compare a [.NotIn] [b] pos) (dOp (fIn true) da db) := d_cmpG op_notIn_seq opd_in ha hb hm
theorem t_lt (ha : PD X a da) (hb : PD X b db) : PDT X (.Compare a [.Lt] [b] pos) (dTest (dOp fLt da db)) := t_cmpG op_lt opd_lt ha hb (nomark _)
theorem t_le (ha : PD X a da) (hb : PD X b db) : PDT X (.Compare a [.LtE] [b] pos) (dTest (dOp fLe da db)) := t_cmpG op_le opd_le ha hb (nomark _)
theorem t_gt (ha : PD X a da) (hb : PD X b db) : PDT X (.Compare a [.Gt] [b] pos) (dTest (dOp fGt da db)) := t_cmpG op_gt opd_gt ha hb (nomark _)
theorem t_ge (ha : PD X a da) (hb : PD X b db) : PDT X (.Compare a [.GtE] [b] pos) (dTest (dOp fGe da db)) := t_cmpG op_ge opd_ge ha hb (nomark _)
theorem t_eq (hu : X.A.units + 64 < cLine) (ha : PD X a da) (hb : PD X b db) : PDT X (.Compare a [.Eq] [b] pos) (dTest (dOp fEq da db)) := t_cmpG (op_eqAll hu) opd_eq ha hb (nomark _)
theorem t_ne (hu : X.A.units + 64 < cLine) (ha : PD X a da) (hb : PD X b db) : PDT X (.Compare a [.NotEq] [b] pos) (dTest (dOp fNe da db)) := t_cmpG (op_neAll hu) opd_ne ha hb (nomark _)
theorem t_isN (ha : PD X a da) (hb : PD X b db) : PDT X (.Compare a [.Is] [b] pos) (dTest (dOp fIsN da db)) := t_cmpG op_isN opd_isN ha hb (nomark _)
theorem t_notN (ha : PD X a da) (hb : PD X b db) : PDT X (.Compare a [.IsNot] [b] pos) (dTest (dOp fNotN da db)) := t_cmpG op_notN opd_notN ha hb (nomark _)
theorem t_in (ha : PD X a da) (hb : PD X b db) (hm : behindInMarks .In b = false := by rfl) : PDT X (.Compare a [.In] [b] pos) (dTest (dOp (fIn false) da db)) := t_cmpG op_in_seq opd_in ha hb hm
theorem t_notIn (ha : PD X a da) (hb : PD X b db) (hm : behindInMarks .NotIn b = false := by rfl) : PDT X (.Compare a [.NotIn] [b] pos) (dTest (dOp (fIn true) da db)) := t_cmpG op_notIn_seq opd_in ha hb hm
theorem d_leLe (ha : PD X a da) (hb : PD X b db) (hc : PD X c dc) (hm : lastMarks [.LtE, .LtE] [b, c] = false := by with_unfolding_all rfl) : PD X (.Compare a [.LtE, .LtE] [b, c] pos) (dChain fLe fLe da db dc) := by
  obtain ⟨_, pa, la⟩ := ha.ex
  obtain ⟨_, pb, lb⟩ := hb.ex
  obtain ⟨_, pc, lc⟩ := hc.ex
  exact ⟨_, pe_chain op_le op_le pa pb pc hm, lift_chain opd_le opd_le la lb lc⟩
theorem d_leLt (ha : PD X a da) (hb : PD X b db) (hc : PD X c dc) (hm : lastMarks [.LtE, .Lt] [b, c] = false := by with_unfolding_all rfl) : PD X (.Compare a [.LtE, .Lt] [b, c] pos) (dChain fLe fLt da db dc) := by
  obtain ⟨_, pa, la⟩ := ha.ex
  obtain ⟨_, pb, lb⟩ := hb.ex
  obtain ⟨_, pc, lc⟩ := hc.ex
  exact ⟨_, pe_chain op_le op_lt pa pb pc hm, lift_chain opd_le opd_lt la lb lc⟩
theorem t_leLe (ha : PD X a da) (hb : PD X b db) (hc : PD X c dc) (hm : lastMarks [.LtE, .LtE] [b, c] = false := by with_unfolding_all rfl) : PDT X (.Compare a [.LtE, .LtE] [b, c] pos) (dTest (dChain fLe fLe da db dc)) := by
  obtain ⟨_, pa, la⟩ := ha.ex
  obtain ⟨_, pb, lb⟩ := hb.ex
  obtain ⟨_, pc, lc⟩ := hc.ex
  exact ⟨_, pt_chain op_le op_le pa pb pc hm, lift_test (lift_chain opd_le opd_le la lb lc)⟩
theorem t_leLt (ha : PD X a da) (hb : PD X b db) (hc : PD X c dc) (hm : lastMarks [.LtE, .Lt] [b, c] = false := by with_unfolding_all rfl) : PDT X (.Compare a [.LtE, .Lt] [b, c] pos) (dTest (dChain fLe fLt da db dc)) := by
  obtain ⟨_, pa, la⟩ := ha.ex
  obtain ⟨_, pb, lb⟩ := hb.ex
  obtain ⟨_, pc, lc⟩ := hc.ex
  exact ⟨_, pt_chain op_le op_lt pa pb pc hm, lift_test (lift_chain opd_le opd_lt la lb lc)⟩
theorem t_ltLe (ha : PD X a da) (hb : PD X b db) (hc : PD X c dc) (hm : lastMarks [.Lt, .LtE] [b, c] = false := by with_unfolding_all rfl) : PDT X (.Compare a [.Lt, .LtE] [b, c] pos) (dTest (dChain fLt fLe da db dc)) := by
  obtain ⟨_, pa, la⟩ := ha.ex
  obtain ⟨_, pb, lb⟩ := hb.ex
  obtain ⟨_, pc, lc⟩ := hc.ex
  exact ⟨_, pt_chain op_lt op_le pa pb pc hm, lift_test (lift_chain opd_lt opd_le la lb lc)⟩
/-! tests -/
theorem t_val (h : PD X e de) (he : ∀ whole, isTrue e X.env whole = (do let v ← whole; standAt e.pos; holding [v] (truthy v)) := by intro _; rfl) : PDT X e (dTest de) := by
  obtain ⟨_, p, l⟩ := h.ex
  exact ⟨_, pt_val p he, lift_testB l⟩
theorem PDW.pt (h : PDW X e dt) : PDT X e dt := by
  obtain ⟨_, p, l⟩ := h.ex
  exact ⟨_, p.pt, l⟩
theorem w_and1 (ha : PDT X a dt) : PDW X (.BoolOp .And [a] pos) dt := by
  obtain ⟨_, p, l⟩ := ha.ex
  exact ⟨_, pw_and1 p, l⟩
theorem w_or1 (ha : PDT X a dt) : PDW X (.BoolOp .Or [a] pos) dt := by
  obtain ⟨_, p, l⟩ := ha.ex
  exact ⟨_, pw_or1 p, l⟩
theorem w_and {rest : List Expr} (ha : PDT X a dt) (hb : PDW X (.BoolOp .And (b :: rest) pos) du) : PDW X (.BoolOp .And (a :: b :: rest) pos) (dAnd dt du) := by
  obtain ⟨_, p, l⟩ := ha.ex
  obtain ⟨_, p2, l2⟩ := hb.ex
  exact ⟨_, pw_and p p2, lift_and l l2⟩
theorem w_or {rest : List Expr} (ha : PDT X a dt) (hb : PDW X (.BoolOp .Or (b :: rest) pos) du) : PDW X (.BoolOp .Or (a :: b :: rest) pos) (dOr dt du) := by
  obtain ⟨_, p, l⟩ := ha.ex
  obtain ⟨_, p2, l2⟩ := hb.ex
  exact ⟨_, pw_or p p2, lift_or l l2⟩
theorem t_not (ha : PDT X a dt) : PDT X (.UnaryOp .Not a pos) (dNot dt) := by
  obtain ⟨_, p, l⟩ := ha.ex
  exact ⟨_, pt_not p, lift_not l⟩
theorem d_one {op : BoolOp} (ha : PD X a da) : PD X (.BoolOp op [a] pos) da := by
  obtain ⟨_, p, l⟩ := ha.ex
  exact ⟨_, pe_one p, l⟩
theorem d_and {rest : List Expr} (ha : PD X a da) (hb : PD X (.BoolOp .And (b :: rest) pos) db) : PD X (.BoolOp .And (a :: b :: rest) pos) (dAndV da db) := by
  obtain ⟨_, p, l⟩ := ha.ex
  obtain ⟨_, p2, l2⟩ := hb.ex
  exact ⟨_, pe_and p p2, lift_andV l l2⟩
theorem d_or {rest : List Expr} (ha : PD X a da) (hb : PD X (.BoolOp .Or (b :: rest) pos) db) : PD X (.BoolOp .Or (a :: b :: rest) pos) (dOrV da db) := by
  obtain ⟨_, p, l⟩ := ha.ex
  obtain ⟨_, p2, l2⟩ := hb.ex
  exact ⟨_, pe_or p p2, lift_orV l l2⟩
theorem d_not (ha : PD X a da) : PD X (.UnaryOp .Not a pos) (dNotV da) := by
  obtain ⟨_, p, l⟩ := ha.ex
  exact ⟨_, pe_not p, lift_notV l⟩
theorem d_if (hc : PDT X c dt) (ha : PD X a da) (hb : PD X b db) : PD X (.IfExp c a b pos) (dIf dt da db) := by
  obtain ⟨_, p, l⟩ := hc.ex
  obtain ⟨_, pa, la⟩ := ha.ex
  obtain ⟨_, pb, lb⟩ := hb.ex
  exact ⟨_, pe_ifExp p pa pb, lift_if l la lb⟩
/-! subscripts, slices, displays -/
theorem d_ix (hu : X.A.units + 1 < cLine) (ha : PD X a da) (hb : PD X b db) (hs : PlainIx b := by exact fun _ _ => rfl) : PD X (.Subscript a b pos) (dOp fIx da db) := by
  obtain ⟨_, pa, la⟩ := ha.ex
  obtain ⟨_, pb, lb⟩ := hb.ex
  exact ⟨_, pe_ix (ix_all hu) pa pb hs, lift_op opd_ix la lb⟩
theorem o_none : PDO X none dNoPart := ⟨_, po_none, lift_noPart⟩
theorem o_some (h : PD X e de) : PDO X (some e) (dPart de) := by
  obtain ⟨_, p, l⟩ := h.ex
  exact ⟨_, po_some p, lift_part l⟩
theorem d_slice {lo hi : Option Expr} {p2 : Pos} (ha : PD X a da) (hl : PDO X lo dl) (hh : PDO X hi dh) : PD X (.Subscript a (.Slice lo hi none p2) pos) (dSl fSl da dl dh) := by
  obtain ⟨_, p, l⟩ := ha.ex
  obtain ⟨_, p2, l2⟩ := hl.ex
  obtain ⟨_, p3, l3⟩ := hh.ex
  exact ⟨_, pe_slice sl_all p p2 p3, lift_sl sld_all l l2 l3⟩
theorem a_nil : PDA X [] dNil := ⟨_, pa_nil, lift_nil⟩
theorem a_cons (h : PD X e de) (hr : PDA X es dA) (hs : starEach (e :: es) X.env = (false, eval e X.env) :: starEach es X.env := by rfl) : PDA X (e :: es) (dCons de dA) := by
  obtain ⟨_, p, l⟩ := h.ex
  obtain ⟨_, p2, l2⟩ := hr.ex
  exact ⟨_, pa_cons p p2 hs, lift_cons l l2⟩
theorem d_tup {x1} (h : PDA X es dA) : PD X (.Tuple es x1 pos) (dTup dA) := by
  obtain ⟨_, p, l⟩ := h.ex
  exact ⟨_, pe_tup p, lift_tup l⟩
theorem d_tp {x1} (h : PDA X es dA) : PD X (.Tuple es x1 pos) (dTp dA) := by
  obtain ⟨_, p, l⟩ := h.ex
  exact ⟨_, pe_tup p, lift_tp l⟩
theorem d_lst (h : PDA X es dA) : PD X (.List es pos) (dLst dA) := by
  obtain ⟨_, p, l⟩ := h.ex
  exact ⟨_, pe_lst p, lift_lst l⟩
theorem d_lstC (h : PDA X es dA) : PD X (.List es pos) (dLstC dA) := by
  obtain ⟨_, p, l⟩ := h.ex
  exact ⟨_, pe_lst p, lift_lstC l⟩
theorem d_callB {id : String} {x : Str} {p : Pos} {r : List V → Hp → VK → Prop} {f : FA} (hc : CallR X (.builtin id) r) (hd : CallD X.K r f) (hg : Gl X x) (hm : X.mg x = none) (hv : bootBuiltins x = some (.builtin id)) (ha : PDA X (e :: es) dA) (hn : x ≠ "__name__" := by decide) (hdb : (x == ("__debug__" : Str)) = false := by decide)
    (he : starEach (e :: es) X.env = (false, eval e X.env) :: starEach es X.env := by rfl) (hpl : (backTo pos (starEach es X.env)).any (·.1) = false := by rfl) :
    PD X (.Call (.Name x p) (e :: es) [] pos) (dCB f dA) := by
  obtain ⟨_, pa, la⟩ := ha.ex
  exact ⟨_, pe_callB hc hg hm hv pa hn hdb he hpl, lift_cb hd la⟩
theorem d_callTy {T : String} {x : Str} {p : Pos} {r : List V → Hp → VK → Prop} {f : FA} (hc : CallR X (.type T) r) (hd : CallD X.K r f) (hg : Gl X x) (hm : X.mg x = none) (hv : bootBuiltins x = some (.type T)) (ha : PDA X (e :: es) dA) (hn : x ≠ "__name__" := by decide) (hdb : (x == ("__debug__" : Str)) = false := by decide)
    (he : starEach (e :: es) X.env = (false, eval e X.env) :: starEach es X.env := by rfl) (hpl : (backTo pos (starEach es X.env)).any (·.1) = false := by rfl) :
    PD X (.Call (.Name x p) (e :: es) [] pos) (dCB f dA) := by
  obtain ⟨_, pa, la⟩ := ha.ex
  exact ⟨_, pe_callTy hc hg hm hv pa hn hdb he hpl, lift_cb hd la⟩
end
end DL
set_option Elab.async false
set_option linter.all false
set_option maxRecDepth 100000
set_option maxHeartbeats 4000000
/-! DL, third part: statements, loops, comprehensions, calls of defs. -/
namespace DL
open PySem PySem.Spec PyProof.Rows L2

section
variable {K : Fg}
/-! ### canonical readings -/
def toTE (K : Fg) (de : DE) : TE := fun σ H Q => ∃ (F : SH) (fr : Fr) (S : SH) (L : Live) (C : CR0), FrOk σ fr L ∧ OkF K F H S L ∧ de fr S C ∧ ∀ v r S' H', OkF K F H' S' ((v, r) :: L) → C r S' → Q v H'
theorem lift_to (de : DE) : Lift K (toTE K de) de := fun F H σ fr S L f o C Q hd q => ⟨F, fr, S, L, C, f, o, hd, q⟩
def toTT (K : Fg) (dt : DT) : TT := fun σ H Q => ∃ (F : SH) (fr : Fr) (S : SH) (L : Live) (C : Bool → SH → Prop), FrOk σ fr L ∧ OkF K F H S L ∧ dt fr S C ∧ ∀ b S' H', OkF K F H' S' L → C b S' → Q b H'
theorem liftT_to (dt : DT) : LiftT K (toTT K dt) dt := fun F H σ fr S L f o C Q hd q => ⟨F, fr, S, L, C, f, o, hd, q⟩
theorem PD.pe {X : Cx} {e : Expr} {de : DE} (h : PD X e de) : PE X e (toTE X.K de) := by
  obtain ⟨te, p, l⟩ := h.ex
  exact ⟨fun pins s σ H Q I ⟨F, fr, S, L, C, f, o, hd, q⟩ => p.run pins s σ H Q I (l F H σ fr S L f o C Q hd q)⟩
theorem PDT.pt {X : Cx} {e : Expr} {dt : DT} (h : PDT X e dt) : PT X e (toTT X.K dt) := by
  obtain ⟨te, p, l⟩ := h.ex
  exact ⟨fun pins s σ H Q I ⟨F, fr, S, L, C, f, o, hd, q⟩ => p.run pins s σ H Q I (l F H σ fr S L f o C Q hd q)⟩

/-! ### blocks and simple statements -/
def sNext : DS := fun D fr S => D.nx fr S
def sSeq (t u : DS) : DS := fun D fr S => t { D with nx := u D } fr S
def sBreak : DS := fun D fr S => D.bk fr S
def sCont : DS := fun D fr S => D.ct fr S
def sDrop (d : DE) : DS := fun D fr S => d fr S fun _ S1 => D.nx fr S1
def sRet (d : DE) : DS := fun D fr S => d fr S D.rt
def sRetN : DS := fun D _ S => D.rt (.dat .none) S
def sIf (t : DT) (a b : DS) : DS := fun D fr S => t fr S fun c S1 => if c = true then a D fr S1 else b D fr S1
def sNever : DS := fun _ _ _ => False
theorem lift_next : LiftS K tNext sNext := fun F H σ fr S L f o D D' e h => e.nx σ fr S H L f o (fun _ z => z) h
theorem lift_brk : LiftS K tBreak sBreak := fun F H σ fr S L f o D D' e h => e.bk σ fr S H L f o (fun _ z => z) h
theorem lift_cnt : LiftS K tCont sCont := fun F H σ fr S L f o D D' e h => e.ct σ fr S H L f o (fun _ z => z) h
theorem lift_never : LiftS K tNever sNever := fun F H σ fr S L f o D D' e h => h.elim
theorem lift_seq {t u : TS} {dt du : DS} (l : LiftS K t dt) (l2 : LiftS K u du) : LiftS K (tSeq t u) (sSeq dt du) := fun F H σ fr S L f o D D' e h =>
  l F H σ fr S L f o { D with nx := u D } { D' with nx := du D' } ⟨fun σ' fr' S' H' L' f' o' s' h' => l2 F H' σ' fr' S' L' f' o' D D' (e.mono s') h', e.rt, e.bk, e.ct⟩ h
theorem lift_drop {t : TE} {d : DE} (l : Lift K t d) : LiftS K (tDrop t) (sDrop d) := fun F H σ fr S L f o D D' e h =>
  l F H σ fr S L f o _ _ h fun v r S' H' o' h' => e.nx σ fr S' H' L f (o'.sub tl_mem) (fun _ z => z) h'
theorem lift_ret {t : TE} {d : DE} (l : Lift K t d) : LiftS K (tRet t) (sRet d) := fun F H σ fr S L f o D D' e h =>
  l F H σ fr S L f o _ _ h fun v r S' H' o' h' => e.rt v r S' H' o' h'
theorem lift_retN : LiftS K tRetN sRetN := fun F H σ fr S L f o D D' e h => e.rt _ _ S H (o.pd .non) h
theorem lift_ifS {t : TT} {dt : DT} {a b : TS} {da db : DS} (l : LiftT K t dt) (la : LiftS K a da) (lb : LiftS K b db) : LiftS K (tIfS t a b) (sIf dt da db) := fun F H σ fr S L f o D D' e h => by
  refine l F H σ fr S L f o _ _ h fun c S' H' o' h' => ?_
  cases c with
  | true => exact la F H' σ fr S' L f o' D D' e h'
  | false => exact lb F H' σ fr S' L f o' D D' e h'
/-! ### targets -/
def gnm (i : Nat) : DG := fun r fr S C => C (fr.set i (some r)) S
theorem lift_name (i : Nat) : LiftG K (gName i) (gnm i) := fun F H σ fr S L v r f o m C Q h q => q _ _ S H L (f.set m i) o (fun _ z => z) h
def gNl : DGs := fun rs fr S C => rs = [] ∧ C fr S
def gCn (t : DG) (u : DGs) : DGs := fun rs fr S C => match rs with
  | r :: rs => t r fr S fun fr' S' => u rs fr' S' C
  | [] => False
theorem lift_gnil : LiftGs K gNil gNl := fun F H σ fr S L vs rs f o m C Q h q => by
  obtain ⟨rfl, h⟩ := h
  cases m
  exact ⟨rfl, q σ fr S H L f o (fun _ z => z) h⟩
theorem lift_gcons {t : TG} {u : TGs} {dt : DG} {du : DGs} (l : LiftG K t dt) (l2 : LiftGs K u du) : LiftGs K (gCons t u) (gCn dt du) := fun F H σ fr S L vs rs f o m C Q h q => by
  cases m with
  | nil => exact h.elim
  | cons m1 m2 =>
    refine ⟨_, _, rfl, ?_⟩
    refine l F H σ fr S L _ _ f o m1 _ _ h fun σ1 fr1 S1 H1 L1 f1 o1 s1 h1 => ?_
    exact l2 F H1 σ1 fr1 S1 L1 _ _ f1 o1 (Lives.mono s1 m2) _ _ h1 fun σ2 fr2 S2 H2 L2 f2 o2 s2 h2 => q σ2 fr2 S2 H2 L2 f2 o2 (fun z hz => s2 z (s1 z hz)) h2
def gTp (n : Nat) (t : DGs) : DG := fun r fr S C => match r with
  | .dat (.tuple ds) => ds.length = n ∧ t (ds.map R.dat) fr S C
  | .tp rs => rs.length = n ∧ t rs fr S C
  | _ => False
theorem push_all {H : Hp} {S : SH} {L : Live} (o : Ok K H S L) : ∀ {vs : List V} {ds : List PyData}, RepAll K (Av S) H vs ds → ∃ L', Ok K H S L' ∧ (∀ e ∈ L, e ∈ L') ∧ Lives L' vs (ds.map R.dat)
  | _, _, .nil => ⟨L, o, fun _ z => z, .nil⟩
  | _, _, .cons h t => by
    obtain ⟨L', o', s', lv⟩ := push_all o t
    exact ⟨_, o'.pd h, fun e he => List.mem_cons_of_mem _ (s' e he), .cons List.mem_cons_self (Lives.mono tl_mem lv)⟩
theorem push_rs {H : Hp} {S : SH} {L : Live} (o : Ok K H S L) : ∀ {vs : List V} {rs : List R}, RepRs K (Av S) H vs rs → ∃ L', Ok K H S L' ∧ (∀ e ∈ L, e ∈ L') ∧ Lives L' vs rs
  | _, _, .nil => ⟨L, o, fun _ z => z, .nil⟩
  | _, _, .cons h t => by
    obtain ⟨L', o', s', lv⟩ := push_rs o t
    exact ⟨_, o'.push h, fun e he => List.mem_cons_of_mem _ (s' e he), .cons List.mem_cons_self (Lives.mono tl_mem lv)⟩
theorem lift_gtup {n : Nat} {t : TGs} {dt : DGs} (l : LiftGs K t dt) : LiftG K (gTup K n t) (gTp n dt) := fun F H σ fr S L v r f o m C Q h q => by
  unfold gTp at h
  split at h
  · obtain ⟨hn, h⟩ := h
    have hr := o.dat m
    cases hr with | tup h1 q1 =>
    obtain ⟨L', o', s', lv⟩ := push_all o q1
    refine ⟨_, _, rfl, sqT_of (A := Av S) h1, q1.length.trans hn, ?_⟩
    exact l F H σ fr S L' _ _ (f.mono s') o' lv _ _ h fun σ1 fr1 S1 H1 L1 f1 o1 s1 h1 => q σ1 fr1 S1 H1 L1 f1 o1 (fun e he => s1 e (s' e he)) h1
  · rename_i rs
    obtain ⟨hn, h⟩ := h
    obtain ⟨a, vs, rfl, h1, q1⟩ := (show ∃ a vs, v = .ref a ∧ (H a = some (.tup vs) ∨ KTup K a vs) ∧ RepRl K _ H vs rs from o.live _ m)
    obtain ⟨L', o', s', lv⟩ := push_rs o q1.pair
    refine ⟨_, _, rfl, sqT_of (A := Av S) h1, (paired_len lv).trans hn, ?_⟩
    exact l F H σ fr S L' _ _ (f.mono s') o' lv _ _ h fun σ1 fr1 S1 H1 L1 f1 o1 s1 h1 => q σ1 fr1 S1 H1 L1 f1 o1 (fun e he => s1 e (s' e he)) h1
  · exact h.elim
def sAsg (d : DE) (g : DG) : DS := fun D fr S => d fr S fun r S1 => g r fr S1 D.nx
theorem lift_asg {t : TE} {d : DE} {g : TG} {dg : DG} (l : Lift K t d) (lg : LiftG K g dg) : LiftS K (tAsg t g) (sAsg d dg) := fun F H σ fr S L f o D D' e h => by
  refine l F H σ fr S L f o _ _ h fun v r S1 H1 o1 h1 => ?_
  exact lg F H1 σ fr S1 _ v r (f.mono tl_mem) o1 List.mem_cons_self _ _ h1 fun σ2 fr2 S2 H2 L2 f2 o2 s2 h2 => e.nx σ2 fr2 S2 H2 L2 f2 o2 (fun z hz => s2 z (List.mem_cons_of_mem _ hz)) h2
/-- a, b = x, y -/
def sPar (i j : Nat) (da : DA) : DS := fun D fr S => da fr S fun rs S1 => match rs with
  | [r, q] => D.nx ((fr.set i (some r)).set j (some q)) S1
  | _ => False
theorem lift_par {i j : Nat} {ta : TA} {da : DA} (l : LiftA K ta da) : LiftS K (tPar i j ta) (sPar i j da) := fun F H σ fr S L f o D D' e h => by
  refine l F H σ fr S L f o _ _ h fun vs rs S1 H1 L1 o1 s1 lv h1 => ?_
  split at h1
  · cases lv with | cons m1 t => cases t with | cons m2 t2 =>
    cases t2
    exact ⟨_, _, rfl, e.nx _ _ S1 H1 L1 (((f.mono s1).set m1 i).set m2 j) o1 s1 h1⟩
  · exact h1.elim
/-! ### o[i] = e -/
def gSb (dO di : DE) (f : R → R → R → SH → (SH → Prop) → Prop) : DG := fun r fr S C => dO fr S fun a S1 => di fr S1 fun b S2 => f a b r S2 fun S3 => C fr S3
/-- kvs with k bound to r -/
def putR (kvs : List (Key × R)) (k : Key) (r : R) : List (Key × R) := if kvs.any (fun kv => decide (kv.1 = k)) then kvs.map (fun kv => if kv.1 = k then (kv.1, r) else kv) else kvs ++ [(k, r)]
def fSet : R → R → R → SH → (SH → Prop) → Prop := fun a b r S C => match a, b with
  | .val (.ref p), .dat (.int i) => (∃ (j : Nat) (xs : List R) (m : Nat), S[j]? = some (.lst p xs) ∧ ixN xs.length i = some m ∧ C (S.set j (.lst p (xs.set m r)))) ∨
      ∃ (j : Nat) (kvs : List (Key × R)), S[j]? = some (.dct p kvs) ∧ kvs.length < 100000 ∧ C (S.set j (.dct p (putR kvs (Sum.inl i) r)))
  | .val (.ref p), .dat (.str x) => ∃ (j : Nat) (kvs : List (Key × R)), S[j]? = some (.dct p kvs) ∧ kvs.length < 100000 ∧ C (S.set j (.dct p (putR kvs (Sum.inr x) r)))
  | _, _ => False
def rSetAll : TSet := fun o i v H Q => rSetL o i v H Q ∨ ∃ a H', o = .ref a ∧ DPut H a i v H' ∧ Q H'
theorem paired_set {α β : Type} {P : α → β → Prop} {x : α} {y : β} (r : P x y) : ∀ {xs : List α} {us : List β} (i : Nat), Paired P xs us → Paired P (xs.set i x) (us.set i y)
  | _, _, _, .nil => .nil
  | _, _, 0, .cons _ t => .cons r t
  | _, _, i + 1, .cons q t => .cons q (paired_set r i t)
theorem paired_app {α β : Type} {P : α → β → Prop} : ∀ {xs ys : List α} {us ws : List β}, Paired P xs us → Paired P ys ws → Paired P (xs ++ ys) (us ++ ws)
  | _, _, _, _, .nil, s => s
  | _, _, _, _, .cons r t, s => .cons r (paired_app t s)
theorem any_kv {P : V → R → Prop} (k : Key) : ∀ {kws : List (Key × V)} {kvs : List (Key × R)}, Paired (fun (a : Key × V) (b : Key × R) => a.1 = b.1 ∧ P a.2 b.2) kws kvs → (kws.any fun kv => decide (kv.1 = k)) = kvs.any fun kv => decide (kv.1 = k)
  | _, _, .nil => rfl
  | a :: as, b :: bs, .cons ⟨h1, h2⟩ t => by rw [List.any_cons, List.any_cons, any_kv k t, h1]
theorem map_kv {P : V → R → Prop} {v : V} {r : R} (k : Key) (h : P v r) : ∀ {kws : List (Key × V)} {kvs : List (Key × R)}, Paired (fun (a : Key × V) (b : Key × R) => a.1 = b.1 ∧ P a.2 b.2) kws kvs →
    Paired (fun (a : Key × V) (b : Key × R) => a.1 = b.1 ∧ P a.2 b.2) (kws.map fun kv => if kv.1 = k then (kv.1, v) else kv) (kvs.map fun kv => if kv.1 = k then (kv.1, r) else kv)
  | _, _, .nil => .nil
  | a :: as, b :: bs, .cons ⟨h1, h2⟩ t => by
    rw [List.map_cons, List.map_cons]
    refine .cons ?_ (map_kv k h t)
    by_cases hk : b.1 = k
    · rw [if_pos hk, if_pos (h1.trans hk)]; exact ⟨h1, h⟩
    · rw [if_neg hk, if_neg (fun z => hk (h1.symm.trans z))]; exact ⟨h1, h2⟩
theorem put_kv {P : V → R → Prop} {v : V} {r : R} (k : Key) (h : P v r) {kws : List (Key × V)} {kvs : List (Key × R)} (q : Paired (fun (a : Key × V) (b : Key × R) => a.1 = b.1 ∧ P a.2 b.2) kws kvs) :
    Paired (fun (a : Key × V) (b : Key × R) => a.1 = b.1 ∧ P a.2 b.2) (putK kws k v) (putR kvs k r) := by
  unfold putK putR
  rw [any_kv k q]
  split
  · exact map_kv k h q
  · exact paired_app q (.cons ⟨rfl, h⟩ .nil)
theorem lift_gsub {to ti : TE} {dO di : DE} (lo : Lift K to dO) (li : Lift K ti di) : LiftG K (gSub to ti rSetAll) (gSb dO di fSet) := fun F H σ fr S L v r f o m C Q h q => by
  refine lo F H σ fr S L f o _ _ h fun a ra S1 H1 o1 h1 => ?_
  refine li F H1 σ fr S1 _ (f.mono tl_mem) o1 _ _ h1 fun b rb S2 H2 o2 h2 => ?_
  have ha := o2.live (a, ra) (List.mem_cons_of_mem _ List.mem_cons_self)
  have hb := o2.live (b, rb) List.mem_cons_self
  have hv := o2.live (v, r) (List.mem_cons_of_mem _ (List.mem_cons_of_mem _ m))
  have sb : ∀ e ∈ L, e ∈ (b, rb) :: (a, ra) :: L := fun e he => List.mem_cons_of_mem _ (List.mem_cons_of_mem _ he)
  unfold fSet at h2
  split at h2
  · rename_i p i
    cases (show a = V.ref p from ha)
    cases rep_int_inv hb
    rcases h2 with ⟨j, xs, mm, hj, em, h2⟩ | ⟨j, kvs, hj, hl, h2⟩
    · obtain ⟨vs, e1, q1⟩ := o2.cells _ (at_split (in_app hj))
      refine .inl ⟨p, vs, i, mm, rfl, rfl, e1, by rw [paired_len q1]; exact em, ?_⟩
      have o3 := o2.putL (in_app hj) (paired_set (P := RepR K (Av (S2 ++ F)) H2) hv mm q1)
      rw [set_app hj] at o3
      exact q _ _ _ _ _ (f.mono sb) o3 sb h2
    · obtain ⟨vs, e1, q1⟩ := o2.cells _ (at_split (in_app hj))
      refine .inr ⟨p, _, rfl, DPut.k (k := Sum.inl i) e1 (by rw [paired_len q1]; exact big_lt hl), ?_⟩
      have o3 := o2.put (u := .dK (putK vs (Sum.inl i) v)) (c' := .dct p (putR kvs (Sum.inl i) r)) (in_app hj) rfl rfl e1 True.intro ⟨_, upd_same, Paired.mapP (put_kv (P := RepR K (Av (S2 ++ F)) H2) (Sum.inl i) hv q1) fun _ _ z => ⟨z.1, z.2.stp (stp_upd e1 (pt_at (in_app hj)) True.intro)⟩⟩
      rw [set_app hj] at o3
      exact q _ _ _ _ _ (f.mono sb) o3 sb h2
  · rename_i p x
    cases (show a = V.ref p from ha)
    cases hb
    obtain ⟨j, kvs, hj, hl, h2⟩ := h2
    obtain ⟨vs, e1, q1⟩ := o2.cells _ (at_split (in_app hj))
    refine .inr ⟨p, _, rfl, DPut.k (k := Sum.inr x) e1 (by rw [paired_len q1]; exact big_lt hl), ?_⟩
    have o3 := o2.put (u := .dK (putK vs (Sum.inr x) v)) (c' := .dct p (putR kvs (Sum.inr x) r)) (in_app hj) rfl rfl e1 True.intro ⟨_, upd_same, Paired.mapP (put_kv (P := RepR K (Av (S2 ++ F)) H2) (Sum.inr x) hv q1) fun _ _ z => ⟨z.1, z.2.stp (stp_upd e1 (pt_at (in_app hj)) True.intro)⟩⟩
    rw [set_app hj] at o3
    exact q _ _ _ _ _ (f.mono sb) o3 sb h2
  · exact h2.elim
/-! ### what is walked -/
def ItOk (K : Fg) (J : It) (items : List R) (L : Live) : Prop := ∀ (H : Hp) (T : SH) (L' : Live), Ok K H T L' → (∀ e ∈ L, e ∈ L') → ∀ i : Nat, (∀ r, items[i]? = some r → J.go i H ∧ ∀ x H', J.yld i H x H' → Ok K H' T ((x, r) :: L')) ∧ (items.length = i → J.stop i H)
abbrev DI := Fr → SH → (List R → SH → Prop) → Prop
def LiftI (K : Fg) (wi : TI) (di : DI) : Prop := ∀ (F : SH) (H : Hp) (σ : L2.St) (fr : Fr) (S : SH) (L : Live), FrOk σ fr L → OkF K F H S L → ∀ (C : List R → SH → Prop) (Rr : It → Hp → Prop), di fr S C →
  (∀ J items S' H' L', OkF K F H' S' L' → (∀ e ∈ L, e ∈ L') → ItOk K J items L' → C items S' → Rr J H') → wi σ H Rr
structure PDI (X : Cx) (tg iter : Expr) (di : DI) : Prop where
  ex : ∃ wi, PI X tg iter wi ∧ LiftI X.K wi di
def iSrc (d : DE) : DI := fun fr S C => d fr S fun a S1 => match a with
  | .dat (.list ds) => C (ds.map R.dat) S1
  | .dat (.tuple ds) => C (ds.map R.dat) S1
  | .dat (.str z) => C (z.cps.toList.map fun c => R.dat (.str ⟨#[c]⟩)) S1
  | .scr ns => C (ns.map fun n => R.dat (.int n)) S1
  | _ => False
theorem it_list {a : Addr} {ds : List PyData} {L : Live} (m : (V.ref a, R.dat (.list ds)) ∈ L) : ItOk K (Itl K a) (ds.map R.dat) L := fun H T L' o s i => by
  have hr := o.dat (s _ m)
  cases hr with | @lst _ xs _ h1 n1 q1 =>
  refine ⟨fun r e => ?_, fun hl => ⟨xs, SqL.of h1, by rw [q1.length]; simpa using Nat.le_of_eq hl⟩⟩
  rw [List.getElem?_map] at e
  cases e1 : ds[i]? with
  | none => rw [e1] at e; cases e
  | some d =>
    rw [e1] at e
    cases e
    obtain ⟨v, ev, rv⟩ := q1.get' e1
    refine ⟨⟨xs, v, SqL.of h1, ev⟩, fun x H' y => ?_⟩
    obtain ⟨rfl, y⟩ := y
    have := y xs (SqL.of h1)
    rw [ev] at this
    cases this
    exact o.pd rv
theorem it_tup {a : Addr} {ds : List PyData} {L : Live} (m : (V.ref a, R.dat (.tuple ds)) ∈ L) : ItOk K (Itt K a) (ds.map R.dat) L := fun H T L' o s i => by
  have hr := o.dat (s _ m)
  cases hr with | @tup _ xs _ h1 q1 =>
  have hq : SqT K H a xs := sqT_of (A := Av T) h1
  refine ⟨fun r e => ?_, fun hl => ⟨xs, hq, by rw [q1.length]; simpa using Nat.le_of_eq hl⟩⟩
  rw [List.getElem?_map] at e
  cases e1 : ds[i]? with
  | none => rw [e1] at e; cases e
  | some d =>
    rw [e1] at e
    cases e
    obtain ⟨v, ev, rv⟩ := q1.get' e1
    refine ⟨⟨xs, v, hq, ev⟩, fun x H' y => ?_⟩
    obtain ⟨rfl, y⟩ := y
    have := y xs hq
    rw [ev] at this
    cases this
    exact o.pd rv
theorem it_scr {a : Addr} {ns : List Int} {L : Live} (m : (V.ref a, R.scr ns) ∈ L) : ItOk K (Itl K a) (ns.map fun n => R.dat (.int n)) L := fun H T L' o s i => by
  obtain ⟨a', ea, h1⟩ := (show ∃ a', V.ref a = .ref a' ∧ ScrAt K H a' (ns.map V.int) from o.live _ (s _ m))
  cases ea
  have hq : SqL K H a (ns.map V.int) := h1.sq
  refine ⟨fun r e => ?_, fun hl => ⟨_, hq, by simpa using Nat.le_of_eq hl⟩⟩
  rw [List.getElem?_map] at e
  cases e1 : ns[i]? with
  | none => rw [e1] at e; cases e
  | some d =>
    rw [e1] at e
    cases e
    have ev : (ns.map V.int)[i]? = some (.int d) := by rw [List.getElem?_map, e1]; rfl
    refine ⟨⟨_, _, hq, ev⟩, fun x H' y => ?_⟩
    obtain ⟨rfl, y⟩ := y
    have := y _ hq
    rw [ev] at this
    cases this
    exact o.pd (.int d)
theorem it_str {z : Str} {L : Live} : ItOk K (Its z) (z.cps.toList.map fun c => R.dat (.str ⟨#[c]⟩)) L := fun H T L' o s i => by
  refine ⟨fun r e => ?_, fun hl => show z.cps.size ≤ i by simpa using Nat.le_of_eq hl⟩
  rw [List.getElem?_map] at e
  cases e1 : z.cps.toList[i]? with
  | none => rw [e1] at e; cases e
  | some d =>
    rw [e1] at e
    cases e
    have h1 : z.cps[i]? = some d := by simpa using e1
    obtain ⟨hl, _⟩ := Array.getElem?_eq_some_iff.mp h1
    refine ⟨hl, fun x H' y => ?_⟩
    obtain ⟨rfl, c, ec, rfl⟩ := y
    rw [h1] at ec
    cases ec
    exact o.pd (.str _)
def iAny (K : Fg) (tl : TE) : TI := fun σ H R => tl σ H fun x H1 => (∃ a, x = .ref a ∧ (∃ xs, SqL K H1 a xs) ∧ R (Itl K a) H1) ∨ (∃ a, x = .ref a ∧ (∃ xs, SqT K H1 a xs) ∧ R (Itt K a) H1) ∨ ∃ z, x = .str z ∧ R (Its z) H1
theorem pi_any {X : Cx} {tg l : Expr} {tl : TE} (hl : PE X l tl) : PI X tg l (iAny X.K tl) := by
  refine ⟨fun pins s σ H R I h => ?_⟩
  refine thn (hl.run pins s σ H _ I h) fun v s1 ⟨x, H1, I1, r1, q1⟩ => ?_
  rcases q1 with ⟨a, e, ⟨xs, hq⟩, q⟩ | ⟨a, e, ⟨xs, hq⟩, q⟩ | ⟨z, e, q⟩
  · subst e
    cases r1
    obtain ⟨its, rv, p, hz⟩ := I1.list hq
    refine wpAny_pyIter_list p.isList ?_
    refine ⟨s1.heap.objs.size, [s1.heap.objs.size], _, _, H1, rfl, I1.kept (t' := s1.toks) fun b o e => Heap.get?_push_of_some _ e, turn_list a _, ⟨_, Heap.get?_push_size _ rfl, rfl, rfl⟩, fun b hb => ?_, q⟩
    have e : b = s1.heap.objs.size := by simpa using hb
    subst e
    exact I1.fpOk (Nat.le_refl _) (I1.hok.fresh (Nat.le_refl _))
  · subst e
    cases r1
    obtain ⟨its, rv, p, hz⟩ := I1.tuple hq
    refine wpAny_pyIter_tuple (show s1.heap.IsTuple a its.toArray from p) ?_
    refine ⟨s1.heap.objs.size, [s1.heap.objs.size], _, _, H1, rfl, I1.kept (t' := s1.toks) fun b o e => Heap.get?_push_of_some _ e, turn_tuple a _, ⟨_, Heap.get?_push_size _ rfl, rfl, rfl⟩, fun b hb => ?_, q⟩
    have e : b = s1.heap.objs.size := by simpa using hb
    subst e
    exact I1.fpOk (Nat.le_refl _) (I1.hok.fresh (Nat.le_refl _))
  · subst e
    obtain ⟨t, rfl⟩ := r1
    cases ha : z.cps.all (· < 128)
    · exact wpAny_pyIter_wide ha (pi_one (tk := s1.toks) I1 _ (turn_str _ z t "str_iterator" (.inr rfl)) ⟨_, Heap.get?_push_size _ rfl, rfl, rfl⟩ q)
    · exact wpAny_pyIter_ascii ha (pi_one (tk := s1.toks) I1 _ (turn_str _ z t "str_ascii_iterator" (.inl rfl)) ⟨_, Heap.get?_push_size _ rfl, rfl, rfl⟩ q)
theorem lift_src {t : TE} {d : DE} (l : Lift K t d) : LiftI K (iAny K t) (iSrc d) := fun F H σ fr S L f o C Rr h q => by
  refine l F H σ fr S L f o _ _ h fun x r S1 H1 o1 h1 => ?_
  have hr := o1.live _ List.mem_cons_self
  split at h1
  · cases hr with | lst e1 n1 q1 =>
    exact .inl ⟨_, rfl, ⟨_, SqL.of e1⟩, q _ _ S1 H1 _ o1 tl_mem (it_list List.mem_cons_self) h1⟩
  · cases hr with | tup e1 q1 =>
    exact .inr (.inl ⟨_, rfl, ⟨_, sqT_of (A := Av S1) e1⟩, q _ _ S1 H1 _ o1 tl_mem (it_tup List.mem_cons_self) h1⟩)
  · cases hr
    exact .inr (.inr ⟨_, rfl, q _ _ S1 H1 _ o1 tl_mem it_str h1⟩)
  · obtain ⟨a, rfl, e1⟩ := hr
    exact .inl ⟨_, rfl, ⟨_, e1.sq⟩, q _ _ S1 H1 _ o1 tl_mem (it_scr List.mem_cons_self) h1⟩
  · exact h1.elim
def rng (lo : Int) (n : Nat) : List R := (List.range n).map fun (i : Nat) => R.dat (.int (lo + (i : Int)))
theorem it_rng {lo : Int} {n : Nat} {L : Live} : ItOk K (Itr lo n) (rng lo n) L := fun H T L' o s i => by
  unfold rng
  refine ⟨fun r e => ?_, fun hl => show n ≤ i by simpa using Nat.le_of_eq hl⟩
  rw [List.getElem?_map] at e
  by_cases hi : i < n
  · rw [List.getElem?_range hi] at e
    cases e
    refine ⟨hi, fun x H' y => ?_⟩
    obtain ⟨rfl, rfl⟩ := y
    exact o.pd (.int _)
  · rw [List.getElem?_eq_none (by simpa using hi)] at e
    cases e
def iR1 (da : DA) : DI := fun fr S C => da fr S fun rs S1 => match rs with
  | [.dat (.int j)] => (-(2 ^ 62) ≤ j ∧ j < 2 ^ 62) ∧ C (rng 0 j.toNat) S1
  | _ => False
def iR2 (da : DA) : DI := fun fr S C => da fr S fun rs S1 => match rs with
  | [.dat (.int i), .dat (.int j)] => (-(2 ^ 62) ≤ i ∧ i < 2 ^ 62 ∧ -(2 ^ 62) ≤ j ∧ j < 2 ^ 62) ∧ C (rng i (j - i).toNat) S1
  | _ => False
/-- downwards by ones -/
def rngD (hi : Int) (n : Nat) : List R := (List.range n).map fun (i : Nat) => R.dat (.int (hi - (i : Int)))
def iR3 (da : DA) : DI := fun fr S C => da fr S fun rs S1 => match rs with
  | [.dat (.int i), .dat (.int j), .dat (.int k)] => (-(2 ^ 62) ≤ i ∧ i < 2 ^ 62 ∧ -(2 ^ 62) ≤ j ∧ j < 2 ^ 62) ∧ k = -1 ∧ C (rngD i (i - j).toNat) S1
  | _ => False
theorem lift_R1 {ta : TA} {da : DA} (l : LiftA K ta da) : LiftI K (iRng1 ta) (iR1 da) := fun F H σ fr S L f o C Rr h q => by
  refine l F H σ fr S L f o _ _ h fun vs rs S1 H1 L1 o1 s1 lv h1 => ?_
  split at h1
  · cases lv with | cons m t =>
    cases t
    cases rep_int_inv (o1.dat m)
    exact ⟨_, rfl, h1.1.1, h1.1.2, q _ _ S1 H1 L1 o1 s1 it_rng h1.2⟩
  · exact h1.elim
theorem lift_R2 {ta : TA} {da : DA} (l : LiftA K ta da) : LiftI K (iRng2 ta) (iR2 da) := fun F H σ fr S L f o C Rr h q => by
  refine l F H σ fr S L f o _ _ h fun vs rs S1 H1 L1 o1 s1 lv h1 => ?_
  split at h1
  · cases lv with | cons m t => cases t with | cons m2 t =>
    cases t
    cases rep_int_inv (o1.dat m)
    cases rep_int_inv (o1.dat m2)
    exact ⟨_, _, rfl, h1.1, q _ _ S1 H1 L1 o1 s1 it_rng h1.2⟩
  · exact h1.elim
theorem it_rngD {hi : Int} {n : Nat} {L : Live} : ItOk K (Itc hi (-1) n) (rngD hi n) L := fun H T L' o s i => by
  unfold rngD
  refine ⟨fun r e => ?_, fun hl => show n ≤ i by simpa using Nat.le_of_eq hl⟩
  rw [List.getElem?_map] at e
  by_cases hlt : i < n
  · rw [List.getElem?_range hlt] at e
    cases e
    refine ⟨hlt, fun x H' y => ?_⟩
    obtain ⟨rfl, rfl⟩ := y
    have e : hi + ((i : Nat) : Int) * -1 = hi - (i : Int) := by omega
    rw [e]
    exact o.pd (.int _)
  · rw [List.getElem?_eq_none (by simpa using hlt)] at e
    cases e
theorem lift_R3 {ta : TA} {da : DA} (l : LiftA K ta da) : LiftI K (iRng3 ta) (iR3 da) := fun F H σ fr S L f o C Rr h q => by
  refine l F H σ fr S L f o _ _ h fun vs rs S1 H1 L1 o1 s1 lv h1 => ?_
  split at h1
  · cases lv with | cons m t => cases t with | cons m2 t => cases t with | cons m3 t =>
    cases t
    cases rep_int_inv (o1.dat m)
    cases rep_int_inv (o1.dat m2)
    cases rep_int_inv (o1.dat m3)
    obtain ⟨⟨a1, a2, a3, a4⟩, rfl, h1⟩ := h1
    exact ⟨_, _, _, _, rfl, RgC.neg a1 a2 a3 a4, q _ _ S1 H1 L1 o1 s1 it_rngD h1⟩
  · exact h1.elim
/-- enumerate(list) -/
def enumD (ds : List PyData) : List R := (List.range ds.length).map fun (i : Nat) => R.dat (.tuple [.int (i : Int), ds.getD i .none])
def iEn (da : DA) : DI := fun fr S C => da fr S fun rs S1 => match rs with
  | [.dat (.list ds)] => C (enumD ds) S1
  | _ => False
theorem it_enum {a : Addr} {ds : List PyData} {L : Live} (m : (V.ref a, R.dat (.list ds)) ∈ L) : ItOk K (Ite K a) (enumD ds) L := fun H T L' o s i => by
  have hr := o.dat (s _ m)
  cases hr with | @lst _ xs _ h1 n1 q1 =>
  unfold enumD
  refine ⟨fun r e => ?_, fun hl => ⟨xs, SqL.of h1, by rw [q1.length]; simpa using Nat.le_of_eq hl⟩⟩
  rw [List.getElem?_map] at e
  by_cases hi : i < ds.length
  · rw [List.getElem?_range hi] at e
    cases e
    have e1 : ds[i]? = some ds[i] := List.getElem?_eq_getElem hi
    obtain ⟨v, ev, rv⟩ := q1.get' e1
    refine ⟨⟨xs, v, SqL.of h1, ev⟩, fun x H' y => ?_⟩
    obtain ⟨T', x', rfl, hT, rfl, y⟩ := y
    have := y xs (SqL.of h1)
    rw [ev] at this
    cases this
    have e2 : ds.getD i .none = ds[i] := by rw [List.getD_eq_getElem?_getD, e1]; rfl
    show Ok K _ T ((V.ref T', R.dat (.tuple [.int ((i : Nat) : Int), ds.getD i .none])) :: L')
    rw [e2]
    exact o.tup hT (.cons (.int _) (.cons rv .nil))
  · rw [List.getElem?_eq_none (by simpa using hi)] at e
    cases e
theorem lift_enum {ta : TA} {da : DA} (l : LiftA K ta da) : LiftI K (iEnum K ta) (iEn da) := fun F H σ fr S L f o C Rr h q => by
  refine l F H σ fr S L f o _ _ h fun vs rs S1 H1 L1 o1 s1 lv h1 => ?_
  split at h1
  · cases lv with | cons m t =>
    cases t
    have hr := o1.dat m
    cases hr with | lst e1 n1 q1 =>
    exact ⟨_, _, rfl, SqL.of e1, q _ _ S1 H1 L1 o1 s1 (it_enum m) h1⟩
  · exact h1.elim
/-! ### for -/
def sFor (di : DI) (dg : DG) (db : DS) : DS := fun D fr S => di fr S fun items S1 => ∃ I : Nat → Fr → SH → Prop, I 0 fr S1 ∧
  (∀ i r fr S, items[i]? = some r → I i fr S → dg r fr S fun fr2 S2 => db { D with nx := I (i + 1), ct := I (i + 1), bk := D.nx } fr2 S2) ∧ ∀ fr S, I items.length fr S → D.nx fr S
theorem lift_for {wi : TI} {di : DI} {g : TG} {dg : DG} {tb : TS} {db : DS} (li : LiftI K wi di) (lg : LiftG K g dg) (lb : LiftS K tb db) : LiftS K (tFor wi g tb) (sFor di dg db) := fun F H σ fr S L f o D D' e h => by
  refine li F H σ fr S L f o _ _ h fun J items S1 H1 L1 o1 s1 it h1 => ?_
  obtain ⟨I, i0, st, dn⟩ := h1
  refine ⟨fun i m σ H => m = items.length - i ∧ i ≤ items.length ∧ ∃ fr S L', FrOk σ fr L' ∧ OkF K F H S L' ∧ (∀ e ∈ L1, e ∈ L') ∧ I i fr S, ⟨items.length, by simp, Nat.zero_le _, fr, S1, L1, f.mono s1, o1, fun _ z => z, i0⟩, ?_⟩
  rintro i m σ2 H2 ⟨rfl, hi, fr2, S2, L2, f2, o2, s2, i2⟩
  obtain ⟨go, sp⟩ := it H2 (S2 ++ F) L2 o2 s2 i
  by_cases hlt : i < items.length
  · obtain ⟨hg, hy⟩ := go _ (List.getElem?_eq_getElem hlt)
    refine .inr ⟨hg, fun σ H => ∃ fr S L', FrOk σ fr L' ∧ OkF K F H S L' ∧ (∀ e ∈ L1, e ∈ L') ∧ I (i + 1) fr S, fun σ' H' n => ⟨items.length - (i + 1), by omega, rfl, hlt, n⟩, fun x H3 y => ?_⟩
    have o3 : OkF K F H3 S2 ((x, items[i]) :: L2) := hy x H3 y
    refine lg F H3 σ2 fr2 S2 _ x _ (f2.mono tl_mem) o3 List.mem_cons_self _ _ (st i _ fr2 S2 (List.getElem?_eq_getElem hlt) i2) fun σ4 fr4 S4 H4 L4 f4 o4 s4 h4 => ?_
    have s14 : ∀ e ∈ L1, e ∈ L4 := fun z hz => s4 z (List.mem_cons_of_mem _ (s2 z hz))
    have sL4 : ∀ e ∈ L, e ∈ L4 := fun z hz => s14 z (s1 z hz)
    refine lb F H4 σ4 fr4 S4 L4 f4 o4 _ { D' with nx := I (i + 1), ct := I (i + 1), bk := D'.nx } ⟨fun σ5 fr5 S5 H5 L5 f5 o5 s5 h5 => ⟨fr5, S5, L5, f5, o5, fun z hz => s5 z (s14 z hz), h5⟩, (e.mono sL4).rt, fun σ5 fr5 S5 H5 L5 f5 o5 s5 h5 => e.nx σ5 fr5 S5 H5 L5 f5 o5 (fun z hz => s5 z (sL4 z hz)) h5,
      fun σ5 fr5 S5 H5 L5 f5 o5 s5 h5 => ⟨fr5, S5, L5, f5, o5, fun z hz => s5 z (s14 z hz), h5⟩⟩ h4
  · have ei : i = items.length := by omega
    subst ei
    exact .inl ⟨sp rfl, e.nx σ2 fr2 S2 H2 L2 f2 o2 (fun z hz => s2 z (s1 z hz)) (dn fr2 S2 i2)⟩
/-! ### while -/
def sWhile (t : DT) (db : DS) : DS := fun D fr S => ∃ W : Nat → Fr → SH → Prop, (∃ m, W m fr S) ∧ ∀ m fr S, W m fr S → t fr S fun b S1 => if b = true then db { D with nx := fun fr S => ∃ m', m' < m ∧ W m' fr S, ct := fun fr S => ∃ m', m' < m ∧ W m' fr S, bk := D.nx } fr S1 else D.nx fr S1
theorem lift_while {t : TT} {dt : DT} {tb : TS} {db : DS} (lt : LiftT K t dt) (lb : LiftS K tb db) : LiftS K (tWhile t tb) (sWhile dt db) := fun F H σ fr S L f o D D' e h => by
  obtain ⟨W, ⟨m0, w0⟩, st⟩ := h
  refine ⟨fun m σ H => ∃ fr S L', FrOk σ fr L' ∧ OkF K F H S L' ∧ (∀ e ∈ L, e ∈ L') ∧ W m fr S, ⟨m0, fr, S, L, f, o, fun _ z => z, w0⟩, ?_⟩
  rintro m σ2 H2 ⟨fr2, S2, L2, f2, o2, s2, w2⟩
  refine lt F H2 σ2 fr2 S2 L2 f2 o2 _ _ (st m fr2 S2 w2) fun b S3 H3 o3 h3 => ?_
  cases b with
  | false => exact e.nx σ2 fr2 S3 H3 L2 f2 o3 s2 h3
  | true =>
    refine ⟨fun σ H => ∃ m', m' < m ∧ ∃ fr S L', FrOk σ fr L' ∧ OkF K F H S L' ∧ (∀ e ∈ L, e ∈ L') ∧ W m' fr S, fun σ' H' n => n, ?_⟩
    have nx : ∀ σ5 fr5 S5 H5 L5, FrOk σ5 fr5 L5 → OkF K F H5 S5 L5 → (∀ e ∈ L2, e ∈ L5) → (∃ m', m' < m ∧ W m' fr5 S5) → ∃ m', m' < m ∧ ∃ fr S L', FrOk σ5 fr L' ∧ OkF K F H5 S L' ∧ (∀ e ∈ L, e ∈ L') ∧ W m' fr S :=
      fun σ5 fr5 S5 H5 L5 f5 o5 s5 ⟨m', hm, h5⟩ => ⟨m', hm, fr5, S5, L5, f5, o5, fun z hz => s5 z (s2 z hz), h5⟩
    exact lb F H3 σ2 fr2 S3 L2 f2 o3 _ { D' with nx := fun fr S => ∃ m', m' < m ∧ W m' fr S, ct := fun fr S => ∃ m', m' < m ∧ W m' fr S, bk := D'.nx } ⟨nx, (e.mono s2).rt, fun σ5 fr5 S5 H5 L5 f5 o5 s5 h5 => e.nx σ5 fr5 S5 H5 L5 f5 o5 (fun z hz => s5 z (s2 z hz)) h5, nx⟩ h3
/-! ### comprehensions, one name -/
def dLcG (E : List R → SH → CR0 → Prop) (di : DI) (i : Nat) (dt : DT) (de : DE) : DE := fun fr S C => di fr S fun items S1 => ∃ I : Nat → List R → SH → Prop, I 0 [] S1 ∧
  (∀ k r acc S, items[k]? = some r → I k acc S → dt (fr.set i (some r)) S fun b S2 => if b = true then de (fr.set i (some r)) S2 fun y S3 => acc.length < 100000 ∧ I (k + 1) (acc ++ [y]) S3 else I (k + 1) acc S2) ∧
  ∀ acc S, I items.length acc S → E acc S C
def eDat : List R → SH → CR0 → Prop := fun acc S C => ∃ ds, dats acc = some ds ∧ C (.dat (.list ds)) S
def eCel : List R → SH → CR0 → Prop := fun acc S C => ∀ p, C (.val (.ref p)) (.lst p acc :: S)
abbrev dLc := dLcG eDat
abbrev dLcC := dLcG eCel
def EndD (K : Fg) (E : List R → SH → CR0 → Prop) : Prop := ∀ (F : SH) (H : Hp) (S : SH) (L : Live) (p : Addr) (acc : List R) (C : CR0), OkF K (.lst p acc :: F) H S L → E acc S C → ∃ r S', OkF K F H S' ((.ref p, r) :: L) ∧ C r S'
theorem mid_get {α : Type} {c : α} : ∀ (S F : List α), (S ++ c :: F)[S.length]? = some c := fun S F => by simp
theorem end_dat : EndD K eDat := fun F H S L p acc C o ⟨ds, e, h⟩ => by
  refine ⟨_, S, ?_, h⟩
  have o2 := o.frz (mid_get S F) e
  have e2 : (S ++ Cell.lst p acc :: F).eraseIdx S.length = S ++ F := by rw [List.eraseIdx_append_of_length_le (Nat.le_refl _)]; simp
  rw [e2] at o2
  exact o2
theorem end_cel : EndD K eCel := fun F H S L p acc C o h => ⟨.val (.ref p), .lst p acc :: S, Ok.push (o.perm List.perm_middle) rfl, h p⟩
theorem lift_lc {E : List R → SH → CR0 → Prop} (hE : EndD K E) {wi : TI} {di : DI} {tt : TT} {dt : DT} {te : TE} {de : DE} {i : Nat} (li : LiftI K wi di) (lt : LiftT K tt dt) (le : Lift K te de) : Lift K (tLc wi (gName i) tt te [i]) (dLcG E di i dt de) := fun F H σ fr S L f o C Q h q => by
  refine li F H σ fr S L f o _ _ h fun J items S1 H1 L1 o1 s1 it h1 D hD => ?_
  obtain ⟨I, i0, st, dn⟩ := h1
  have o0 : OkF K (.lst D [] :: F) (upd H1 D (.lst [])) S1 L1 := (o1.lstC hD .nil).perm List.perm_middle.symm
  refine ⟨fun k m H => m = items.length - k ∧ k ≤ items.length ∧ ∃ S acc L', OkF K (.lst D acc :: F) H S L' ∧ (∀ e ∈ L1, e ∈ L') ∧ I k acc S, ⟨items.length, by simp, Nat.zero_le _, S1, [], L1, o0, fun _ z => z, i0⟩, ?_⟩
  rintro k m H2 ⟨rfl, hk, S2, acc, L2, o2, s2, i2⟩
  obtain ⟨go, sp⟩ := it H2 _ L2 o2 s2 k
  have s02 : ∀ e ∈ L, e ∈ L2 := fun z hz => s2 z (s1 z hz)
  by_cases hlt : k < items.length
  · obtain ⟨hg, hy⟩ := go _ (List.getElem?_eq_getElem hlt)
    refine .inr ⟨hg, fun H => ∃ S acc L', OkF K (.lst D acc :: F) H S L' ∧ (∀ e ∈ L1, e ∈ L') ∧ I (k + 1) acc S, fun H' n => ⟨items.length - (k + 1), by omega, rfl, hlt, n⟩, fun x H3 y => ?_⟩
    have o3 : OkF K (.lst D acc :: F) H3 S2 ((x, items[k]) :: L2) := hy x H3 y
    show wipe ((wipe σ [i]).set i (some x)) [i] = wipe σ [i] ∧ _
    refine ⟨by simp [wipe], ?_⟩
    have f3 : FrOk ((wipe σ [i]).set i (some x)) (fr.set i (some items[k])) ((x, items[k]) :: L2) := by
      have e1 : (wipe σ [i]).set i (some x) = σ.set i (some x) := by simp [wipe]
      rw [e1]
      exact (f.mono fun z hz => List.mem_cons_of_mem _ (s02 z hz)).set List.mem_cons_self i
    refine lt _ H3 _ _ S2 _ f3 o3 _ _ (st k _ acc S2 (List.getElem?_eq_getElem hlt) i2) fun b S4 H4 o4 h4 => ?_
    cases b with
    | false => exact ⟨S4, acc, _, o4, fun z hz => List.mem_cons_of_mem _ (s2 z hz), h4⟩
    | true =>
      refine le _ H4 _ _ S4 _ f3 o4 _ _ h4 fun v r S5 H5 o5 h5 => ?_
      obtain ⟨vs, e5, q5⟩ := o5.cells _ (at_split (mid_get S5 F))
      refine ⟨vs, e5, by rw [paired_len q5]; exact big_lt h5.1, S5, acc ++ [r], (v, r) :: (x, items[k]) :: L2, ?_, fun z hz => List.mem_cons_of_mem _ (List.mem_cons_of_mem _ (s2 z hz)), h5.2⟩
      have o6 := o5.putL (mid_get S5 F) (paired_app q5 (.cons (o5.live (v, r) List.mem_cons_self) .nil))
      rw [List.set_append_right _ _ (Nat.le_refl _)] at o6
      simpa using o6
  · have ek : k = items.length := by omega
    subst ek
    obtain ⟨r, S', o', h'⟩ := hE F H2 S2 L2 D acc C o2 (dn acc S2 i2)
    exact .inl ⟨sp rfl, q _ r S' H2 (o'.sub (sub_cons s02)) h'⟩
/-! ### defs -/
abbrev SpD := List R → SH → CR0 → Prop
def toSp (K : Fg) (n : Nat) (sp : SpD) : Sp := fun vs H Q _ => vs.length = n ∧ ∃ (F S : SH) (L : Live) (rs : List R) (C : CR0), OkF K F H S L ∧ Lives L vs rs ∧ sp rs S C ∧ ∀ v r S' H', OkF K F H' S' ((v, r) :: L) → C r S' → Q v H'
def dCall (n : Nat) (sp : SpD) (da : DA) : DE := fun fr S C => da fr S fun rs S1 => rs.length = n ∧ sp rs S1 C
theorem lift_call {n : Nat} {sp : SpD} {E : XK} {ta : TA} {da : DA} (l : LiftA K ta da) : Lift K (tCall (toSp K n sp) [] E ta) (dCall n sp da) := fun F H σ fr S L f o C Q h q => by
  refine l F H σ fr S L f o _ _ h fun vs rs S1 H1 L1 o1 s1 lv h1 => ?_
  refine ⟨by rw [List.append_nil, paired_len lv]; exact h1.1, F, S1, L1, rs, C, o1, by rw [List.append_nil]; exact lv, h1.2, fun v r S' H' o' h' => q v r S' H' (o'.sub (sub_cons s1)) h'⟩
def startF (N : List Str) (rs : List R) : Fr := rs.map some ++ List.replicate (N.length - rs.length) none
theorem fr_start {N : List Str} {vs : List V} {rs : List R} {L : Live} (lv : Lives L vs rs) : FrOk (L2.start N vs) (startF N rs) L := by
  have hl := paired_len lv
  refine ⟨by unfold L2.start startF; simp [hl], fun i r e => ?_⟩
  unfold startF at e
  rw [List.getElem?_append] at e
  split at e
  · rename_i hi
    rw [List.getElem?_map] at e
    cases e1 : rs[i]? with
    | none => rw [e1] at e; cases e
    | some q =>
      rw [e1] at e
      cases e
      obtain ⟨v, ev, m⟩ := paired_get' lv e1
      refine ⟨v, ?_, m⟩
      unfold L2.start
      rw [List.getElem?_append_left (by
        rw [List.length_map] at hi ⊢
        omega), List.getElem?_map, ev]
      rfl
  · rw [List.getElem?_replicate] at e
    split at e <;> cases e
theorem okD {P : Program} {w : World} {mg : Str → Option Value} {base : Heap} {x qual : Str} {st : Stmt} {f : Addr} {fd : FuncData} {N ps : List Str} {k n : Nat} {sp : SpD} (Fn : Fun K x qual st f fd) (Sc : FnScope N ps (defScope st)) (hn : ps.length = n)
    (hbody : ∀ (cdv : Value) (A : Around) (outer : List Env) (s : Shared) (H : Hp) (E : XK), Room k (A.deeper (envOfC qual (defScope st) s.heap.objs.size f cdv)) →
      ∃ ds, PDSs (cxOf CX0 P w K mg base N qual (defScope st) f cdv A outer s H E).nox (defBody st) ds ∧ ∀ rs S C, rs.length = n → sp rs S C → ds { nx := fun _ S => C (.dat .none) S, rt := C } (startF N rs) S) : FnOk P w K mg base CX0 (k + 1) f fd ps (toSp K n sp) := by
  refine Fn.ok Sc (fun vs H Q E h => h.1.trans hn.symm) fun cdv A outer s H vs Q E hr h => ?_
  obtain ⟨ds, hp, hd⟩ := hbody cdv A outer s H E hr
  obtain ⟨ts, p, l⟩ := hp.ex
  obtain ⟨hl, F, S, L, rs, C, o, lv, hs, q⟩ := h
  refine ⟨ts, p, ?_⟩
  refine l F H (L2.start N vs) (startF N rs) S L (fr_start lv) o _ { nx := fun _ S => C (.dat .none) S, rt := C } ⟨fun σ' fr' S' H' L' f' o' s' h' => ?_, fun v r S' H' o' h' => q v r S' H' o' h', fun _ _ _ _ _ _ _ _ h => h.elim, fun _ _ _ _ _ _ _ _ h => h.elim⟩ (hd rs S C ((paired_len lv).symm.trans hl) hs)
  exact q .non (.dat .none) S' H' ((o'.sub s').pd .non) h'
end

/-! ### the rules -/
section
variable {X : Cx} {a b c e tg iter : Expr} {da db dc de : DE} {dA : DA} {dt du : DT} {di : DI} {dg : DG} {dgs : DGs} {ds d2 : DS} {pos : Pos} {es : List Expr} {st : Stmt} {sts st2 : List Stmt}
theorem ss_nil : PDSs X [] sNext := ⟨_, pss_nil, lift_next⟩
theorem ss_cons (h1 : PDS X st ds) (h2 : PDSs X sts d2) : PDSs X (st :: sts) (sSeq ds d2) := by
  obtain ⟨_, p, l⟩ := h1.ex
  obtain ⟨_, p2, l2⟩ := h2.ex
  exact ⟨_, pss_cons p p2, lift_seq l l2⟩
theorem ss_one (h1 : PDS X st ds) : PDSs X [st] ds := by
  obtain ⟨_, p, l⟩ := h1.ex
  exact ⟨_, pss_one p, l⟩
theorem s_pass : PDS X (.Pass pos) sNext := ⟨_, ps_pass, lift_next⟩
theorem s_break : PDS X (.Break pos) sBreak := ⟨_, ps_break, lift_brk⟩
theorem s_continue : PDS X (.Continue pos) sCont := ⟨_, ps_continue, lift_cnt⟩
theorem s_never : PDS X st sNever := ⟨_, ps_never, lift_never⟩
theorem s_expr (he : PD X e de) (hs : swapsWith e none pos.line X.env = pure false := by rfl) : PDS X (.Expr e pos) (sDrop de) := by
  obtain ⟨_, p, l⟩ := he.ex
  exact ⟨_, ps_expr p hs, lift_drop l⟩
theorem s_ret (he : PD X e de) : PDS X (.Return (some e) pos) (sRet de) := by
  obtain ⟨_, p, l⟩ := he.ex
  exact ⟨_, ps_ret p, lift_ret l⟩
theorem s_retN : PDS X (.Return none pos) sRetN := ⟨_, ps_retN, lift_retN⟩
theorem s_if (hc : PDT X c dt) (ha : PDSs X sts ds) (hb : PDSs X st2 d2) : PDS X (.If c sts st2 pos) (sIf dt ds d2) := by
  obtain ⟨_, p, l⟩ := hc.ex
  obtain ⟨_, p1, l1⟩ := ha.ex
  obtain ⟨_, p2, l2⟩ := hb.ex
  exact ⟨_, ps_if p p1 p2, lift_ifS l l1 l2⟩
theorem g_name {i : Nat} {x : Str} (hN : X.N.Nodup) (hi : X.N[i]? = some x := by rfl) (hx : Loc X.env.scope x := by first | exact Or.inl rfl | exact Or.inr rfl) (hf : X.fn x = true ∨ X.env.scope.names.lookup x = some .local := by first | exact .inl rfl | exact .inr rfl) : PDG X (.Name x pos) (gnm i) := ⟨_, pg_name hN hi hx hf, lift_name i⟩
theorem gs_nil : PDGs X [] gNl := ⟨_, pgs_nil, lift_gnil⟩
theorem gs_cons (h1 : PDG X e dg) (h2 : PDGs X es dgs) (hs : (assignEach (e :: es) X.env).map (·.2) = assign e X.env :: (assignEach es X.env).map (·.2) := by rfl) : PDGs X (e :: es) (gCn dg dgs) := by
  obtain ⟨_, p, l⟩ := h1.ex
  obtain ⟨_, p2, l2⟩ := h2.ex
  exact ⟨_, pgs_cons p p2 hs, lift_gcons l l2⟩
theorem g_tup {k n : Nat} (h : PDGs X es dgs) (hc : X.calm = true := by rfl) (hn : (assignEach es X.env).length = n := by rfl) (hst : (assignEach es X.env).findIdx? (·.1) = none := by rfl) : PDG X (.Tuple es k pos) (gTp n dgs) := by
  obtain ⟨_, p, l⟩ := h.ex
  exact ⟨_, pg_tup hc p hn hst, lift_gtup l⟩
theorem set_all (hu : X.A.units + 1 < cLine) : PSet X rSetAll := by
  intro pins s σ H o i v ov iv vv Q I ro ri rv h
  rcases h with h | ⟨a, H', rfl, g, q⟩
  · exact set_list pins s σ H o i v ov iv vv Q I ro ri rv h
  · obtain rfl : ov = Value.ref a := ro
    exact d_setItem hu I g ri rv fun s' I' => ⟨H', I', q⟩
theorem g_sub {o i : Expr} {dO di : DE} (hu : X.A.units + 1 < cLine) (ho : PD X o dO) (hi : PD X i di)
    (ha : ∀ v, assign (.Subscript o i pos) X.env v = (do
      let ov ← holding [v] (eval o X.env)
      let iv ← holding [v, ov] (eval i X.env)
      standAt pos
      holding [v, ov, iv] (setItem ov iv v)
      release [v, ov, iv] []) := by intro _; rfl) : PDG X (.Subscript o i pos) (gSb dO di fSet) := by
  obtain ⟨_, p, l⟩ := ho.ex
  obtain ⟨_, p2, l2⟩ := hi.ex
  exact ⟨_, pg_sub p p2 (set_all hu) ha, lift_gsub l l2⟩
theorem s_asg (he : PD X e de) (hg : PDG X tg dg) (hs : swapsWithSole [tg] e pos.line X.env = pure false := by rfl) (hw : swappedStores [tg] e X.env = pure none := by rfl) (h1 : (assignEach [tg] X.env).map (·.2) = [assign tg X.env] := by rfl) : PDS X (.Assign [tg] e pos) (sAsg de dg) := by
  obtain ⟨_, p, l⟩ := he.ex
  obtain ⟨_, p2, l2⟩ := hg.ex
  exact ⟨_, ps_asg p p2 hs hw h1, lift_asg l l2⟩
theorem s_set {i : Nat} {x : Str} {pos' : Pos} (hN : X.N.Nodup) (he : PD X e de) (hi : X.N[i]? = some x := by rfl) (hx : Loc X.env.scope x := by first | exact Or.inl rfl | exact Or.inr rfl) (hs : swapsWith e (some (.Name x pos')) pos.line X.env = pure false := by rfl) (hf : X.fn x = true ∨ X.env.scope.names.lookup x = some .local := by first | exact .inl rfl | exact .inr rfl) :
    PDS X (.Assign [.Name x pos'] e pos) (sAsg de (gnm i)) := by
  obtain ⟨_, p, l⟩ := he.ex
  exact ⟨_, ps_set hN hi hx p hs hf, lift_asg l (lift_name i)⟩
theorem s_par {i j : Nat} {x y : Str} {px py pt : Pos} {kt k2 pt2} (hN : X.N.Nodup) (ha : PDA X [a, b] dA) (hc : X.calm = true := by rfl) (hi : X.N[i]? = some x := by rfl) (hj : X.N[j]? = some y := by rfl) (hij : i ≠ j := by decide)
    (hx : X.env.scope.names.lookup x = some .local := by rfl) (hy : X.env.scope.names.lookup y = some .local := by rfl)
    (hw : swappedStores [.Tuple [.Name x px, .Name y py] kt pt] (.Tuple [a, b] k2 pt2) X.env = pure (some [x, y]) := by rfl)
    (hs : swapsWithSole [.Tuple [.Name x px, .Name y py] kt pt] (.Tuple [a, b] k2 pt2) pos.line X.env = pure false := by rfl) :
    PDS X (.Assign [.Tuple [.Name x px, .Name y py] kt pt] (.Tuple [a, b] k2 pt2) pos) (sPar i j dA) := by
  obtain ⟨_, p, l⟩ := ha.ex
  exact ⟨_, ps_par hc hN hi hj hij hx hy p hw hs, lift_par l⟩
theorem i_src (he : PD X e de) : PDI X tg e (iSrc de) := by
  obtain ⟨_, p, l⟩ := he.ex
  exact ⟨_, pi_any p, lift_src l⟩
theorem i_r1 {p : Pos} (hg : Gl X "range") (hm : X.mg "range" = none) (ha : PDA X [a] dA) (hs : starEach [a] X.env = [(false, eval a X.env)] := by rfl) : PDI X tg (.Call (.Name "range" p) [a] [] pos) (iR1 dA) := by
  obtain ⟨_, p, l⟩ := ha.ex
  exact ⟨_, pi_range1 hg hm p hs, lift_R1 l⟩
theorem i_r2 {p : Pos} (hg : Gl X "range") (hm : X.mg "range" = none) (ha : PDA X [a, b] dA) (hs : starEach [a, b] X.env = [(false, eval a X.env), (false, eval b X.env)] := by rfl) (hs2 : starEach [b] X.env = [(false, eval b X.env)] := by rfl) : PDI X tg (.Call (.Name "range" p) [a, b] [] pos) (iR2 dA) := by
  obtain ⟨_, p, l⟩ := ha.ex
  exact ⟨_, pi_range2 hg hm p hs hs2, lift_R2 l⟩
theorem i_enum {p tpos : Pos} {elts : List Expr} {kk : Nat} (hg : Gl X "enumerate") (hm : X.mg "enumerate" = none) (ha : PDA X [e] dA) (hs : starEach [e] X.env = [(false, eval e X.env)] := by rfl) :
    PDI X (.Tuple elts kk tpos) (.Call (.Name "enumerate" p) [e] [] pos) (iEn dA) := by
  obtain ⟨_, p, l⟩ := ha.ex
  exact ⟨_, pi_enum hg hm p hs, lift_enum l⟩
theorem s_for (hi : PDI X tg iter di) (hg : PDG X tg dg) (hb : PDSs X sts ds) (hp : PassesOwn (model X.prog X.w) X.A X.env X.xe := by exact PassesOwn.never) (hc : X.calm = true := by rfl)
    (hs : ∀ x, foldedSetIterable iter X.env x = pure x := by intro _; rfl) : PDS X (.For tg iter sts [] pos) (sFor di dg ds) := by
  obtain ⟨_, p, l⟩ := hi.ex
  obtain ⟨_, p2, l2⟩ := hg.ex
  obtain ⟨_, p3, l3⟩ := hb.ex
  exact ⟨_, ps_for hp hc p p2 p3 hs, lift_for l l2 l3⟩
theorem s_while (hc : PDT X c dt) (hb : PDSs X sts ds) (hp : PassesOwn (model X.prog X.w) X.A X.env X.xe := by exact PassesOwn.never) : PDS X (.While c sts [] pos) (sWhile dt ds) := by
  obtain ⟨_, p, l⟩ := hc.ex
  obtain ⟨_, p2, l2⟩ := hb.ex
  exact ⟨_, ps_while hp p p2, lift_while l l2⟩
theorem i_r3 {p : Pos} (hg : Gl X "range") (hm : X.mg "range" = none) (ha : PDA X [a, b, c] dA) (hs : starEach [a, b, c] X.env = (false, eval a X.env) :: starEach [b, c] X.env := by rfl) (hpl : (backTo pos (starEach [b, c] X.env)).any (·.1) = false := by rfl) : PDI X tg (.Call (.Name "range" p) [a, b, c] [] pos) (iR3 dA) := by
  obtain ⟨_, p, l⟩ := ha.ex
  exact ⟨_, pi_range3 hg hm p hs hpl, lift_R3 l⟩
theorem d_call {P : SpD} {k n : Nat} {f : Addr} {fd : FuncData} {ps : List Str} {x : Str} {p : Pos} (F : FnOk X.prog X.w X.K X.mg X.base CX0 k f fd ps (toSp X.K n P)) (hr : Room k X.A) (hg : Gl X x) (hm : X.mg x = some (.ref f)) (hk : PySem.W.keepIn X.K (.ref f) = true) (hb : Binds X.K fd ps [])
    (ha : PDA X (e :: es) dA) (hdb : (x == ("__debug__" : Str)) = false := by decide) (he : starEach (e :: es) X.env = (false, eval e X.env) :: starEach es X.env := by rfl) (hpl : (backTo pos (starEach es X.env)).any (·.1) = false := by rfl) :
    PD X (.Call (.Name x p) (e :: es) [] pos) (dCall n P dA) := by
  obtain ⟨_, pa, la⟩ := ha.ex
  exact ⟨_, pe_call F hr hg hm hk hb .nil pass0 pa hdb he hpl, lift_call la⟩
structure PDTs (X : Cx) (ifs : List Expr) (dt : DT) : Prop where
  run : PTs X ifs (toTT X.K dt)
def dYes : DT := fun _ S C => C true S
theorem ts_nil : PDTs X [] dYes := ⟨⟨fun pins s σ H Q I ⟨F, fr, S, L, C, f, o, hd, q⟩ => (pts_nil (X := X)).run pins s σ H Q I (q true S H o hd)⟩⟩
theorem ts_one (h : PDT X c dt) : PDTs X [c] dt := ⟨pts_one h.pt⟩
theorem lc_core' {E : List R → SH → CR0 → Prop} (hE : ∀ K, EndD K E) {elt : Expr} {x : Str} {p : Pos} {ifs : List Expr} {scope : Scope} {i : Nat} (hN : X.N.Nodup) (hi : PDI X (.Name x p) iter di) (ok : BlkOk X.N X.env.scope scope [(x, i)])
    (hg : ∀ (s : Shared) (H : Hp) (C : Addr) (cl : List (Str × Addr)) (fp : List Addr), PG (X.blk s H scope (compEnvC scope cl C X.env) fp) (.Name x p) (gName i))
    (ht : ∀ (s : Shared) (H : Hp) (C : Addr) (cl : List (Str × Addr)) (fp : List Addr), PDTs (X.blk s H scope (compEnvC scope cl C X.env) fp) ifs dt)
    (he : ∀ (s : Shared) (H : Hp) (C : Addr) (cl : List (Str × Addr)) (fp : List Addr), PD (X.blk s H scope (compEnvC scope cl C X.env) fp) elt de)
    (hc : X.calm = true) (hs : ∀ x, foldedSetIterable iter X.env x = pure x) :
    PD X (.ListComp elt [⟨.Name x p, iter, ifs, 0⟩] scope pos) (dLcG E di i dt de) := by
  obtain ⟨_, pi, li⟩ := hi.ex
  exact ⟨_, pe_lc (own := [(x, i)]) (te := toTE X.K de) (tt := toTT X.K dt) hc hN pi ok hg (fun s H C cl fp => (ht s H C cl fp).run) (fun s H C cl fp => (he s H C cl fp).pe) hs, lift_lc (hE X.K) li (liftT_to dt) (lift_to de)⟩
theorem d_lc {elt : Expr} {x : Str} {p : Pos} {ifs : List Expr} {scope : Scope} {i : Nat} (hN : X.N.Nodup) (hi : PDI X (.Name x p) iter di) (ok : BlkOk X.N X.env.scope scope [(x, i)])
    (hg : ∀ (s : Shared) (H : Hp) (C : Addr) (cl : List (Str × Addr)) (fp : List Addr), PG (X.blk s H scope (compEnvC scope cl C X.env) fp) (.Name x p) (gName i))
    (ht : ∀ (s : Shared) (H : Hp) (C : Addr) (cl : List (Str × Addr)) (fp : List Addr), PDTs (X.blk s H scope (compEnvC scope cl C X.env) fp) ifs dt)
    (he : ∀ (s : Shared) (H : Hp) (C : Addr) (cl : List (Str × Addr)) (fp : List Addr), PD (X.blk s H scope (compEnvC scope cl C X.env) fp) elt de)
    (hc : X.calm = true := by rfl) (hs : ∀ x, foldedSetIterable iter X.env x = pure x := by intro _; rfl) :
    PD X (.ListComp elt [⟨.Name x p, iter, ifs, 0⟩] scope pos) (dLc di i dt de) := lc_core' (fun _ => end_dat) hN hi ok hg ht he hc hs
theorem d_lcC {elt : Expr} {x : Str} {p : Pos} {ifs : List Expr} {scope : Scope} {i : Nat} (hN : X.N.Nodup) (hi : PDI X (.Name x p) iter di) (ok : BlkOk X.N X.env.scope scope [(x, i)])
    (hg : ∀ (s : Shared) (H : Hp) (C : Addr) (cl : List (Str × Addr)) (fp : List Addr), PG (X.blk s H scope (compEnvC scope cl C X.env) fp) (.Name x p) (gName i))
    (ht : ∀ (s : Shared) (H : Hp) (C : Addr) (cl : List (Str × Addr)) (fp : List Addr), PDTs (X.blk s H scope (compEnvC scope cl C X.env) fp) ifs dt)
    (he : ∀ (s : Shared) (H : Hp) (C : Addr) (cl : List (Str × Addr)) (fp : List Addr), PD (X.blk s H scope (compEnvC scope cl C X.env) fp) elt de)
    (hc : X.calm = true := by rfl) (hs : ∀ x, foldedSetIterable iter X.env x = pure x := by intro _; rfl) :
    PD X (.ListComp elt [⟨.Name x p, iter, ifs, 0⟩] scope pos) (dLcC di i dt de) := lc_core' (fun _ => end_cel) hN hi ok hg ht he hc hs
/-- y = [..], y a local -/
theorem lcS_core {E : List R → SH → CR0 → Prop} (hE : ∀ K, EndD K E) {elt : Expr} {x y : Str} {p py spos : Pos} {ifs : List Expr} {scope : Scope} {i j : Nat} (hN : X.N.Nodup) (hi : PDI X (.Name x p) iter di) (ok : BlkOk X.N X.env.scope scope [(x, i)])
    (hg : ∀ (s : Shared) (H : Hp) (C : Addr) (cl : List (Str × Addr)) (fp : List Addr), PG (X.blk s H scope (compEnvC scope cl C X.env) fp) (.Name x p) (gName i))
    (ht : ∀ (s : Shared) (H : Hp) (C : Addr) (cl : List (Str × Addr)) (fp : List Addr), PDTs (X.blk s H scope (compEnvC scope cl C X.env) fp) ifs dt)
    (he : ∀ (s : Shared) (H : Hp) (C : Addr) (cl : List (Str × Addr)) (fp : List Addr), PD (X.blk s H scope (compEnvC scope cl C X.env) fp) elt de)
    (hc : X.calm = true) (hy : X.N[j]? = some y) (hyl : X.env.scope.names.lookup y = some .local)
    (hsw : swapsWith (.ListComp elt [⟨.Name x p, iter, ifs, 0⟩] scope pos) (some (.Name y py)) spos.line X.env = pure true) (hs : ∀ x, foldedSetIterable iter X.env x = pure x) :
    PDS X (.Assign [.Name y py] (.ListComp elt [⟨.Name x p, iter, ifs, 0⟩] scope pos) spos) (sAsg (dLcG E di i dt de) (gnm j)) := by
  obtain ⟨_, pi, li⟩ := hi.ex
  exact ⟨_, ps_setLc (own := [(x, i)]) (te := toTE X.K de) (tt := toTT X.K dt) hc hN hy hyl hsw pi ok hg (fun s H C cl fp => (ht s H C cl fp).run) (fun s H C cl fp => (he s H C cl fp).pe) hs, lift_asg (lift_lc (hE X.K) li (liftT_to dt) (lift_to de)) (lift_name j)⟩
theorem s_lc {elt : Expr} {x y : Str} {p py spos : Pos} {ifs : List Expr} {scope : Scope} {i j : Nat} (hN : X.N.Nodup) (hi : PDI X (.Name x p) iter di) (ok : BlkOk X.N X.env.scope scope [(x, i)])
    (hg : ∀ (s : Shared) (H : Hp) (C : Addr) (cl : List (Str × Addr)) (fp : List Addr), PG (X.blk s H scope (compEnvC scope cl C X.env) fp) (.Name x p) (gName i))
    (ht : ∀ (s : Shared) (H : Hp) (C : Addr) (cl : List (Str × Addr)) (fp : List Addr), PDTs (X.blk s H scope (compEnvC scope cl C X.env) fp) ifs dt)
    (he : ∀ (s : Shared) (H : Hp) (C : Addr) (cl : List (Str × Addr)) (fp : List Addr), PD (X.blk s H scope (compEnvC scope cl C X.env) fp) elt de)
    (hc : X.calm = true := by rfl) (hy : X.N[j]? = some y := by rfl) (hyl : X.env.scope.names.lookup y = some .local := by rfl)
    (hsw : swapsWith (.ListComp elt [⟨.Name x p, iter, ifs, 0⟩] scope pos) (some (.Name y py)) spos.line X.env = pure true := by exact sw_true rfl rfl rfl (by decide +kernel)) (hs : ∀ x, foldedSetIterable iter X.env x = pure x := by intro _; rfl) :
    PDS X (.Assign [.Name y py] (.ListComp elt [⟨.Name x p, iter, ifs, 0⟩] scope pos) spos) (sAsg (dLc di i dt de) (gnm j)) := lcS_core (fun _ => end_dat) hN hi ok hg ht he hc hy hyl hsw hs
theorem s_lcC {elt : Expr} {x y : Str} {p py spos : Pos} {ifs : List Expr} {scope : Scope} {i j : Nat} (hN : X.N.Nodup) (hi : PDI X (.Name x p) iter di) (ok : BlkOk X.N X.env.scope scope [(x, i)])
    (hg : ∀ (s : Shared) (H : Hp) (C : Addr) (cl : List (Str × Addr)) (fp : List Addr), PG (X.blk s H scope (compEnvC scope cl C X.env) fp) (.Name x p) (gName i))
    (ht : ∀ (s : Shared) (H : Hp) (C : Addr) (cl : List (Str × Addr)) (fp : List Addr), PDTs (X.blk s H scope (compEnvC scope cl C X.env) fp) ifs dt)
    (he : ∀ (s : Shared) (H : Hp) (C : Addr) (cl : List (Str × Addr)) (fp : List Addr), PD (X.blk s H scope (compEnvC scope cl C X.env) fp) elt de)
    (hc : X.calm = true := by rfl) (hy : X.N[j]? = some y := by rfl) (hyl : X.env.scope.names.lookup y = some .local := by rfl)
    (hsw : swapsWith (.ListComp elt [⟨.Name x p, iter, ifs, 0⟩] scope pos) (some (.Name y py)) spos.line X.env = pure true := by exact sw_true rfl rfl rfl (by decide +kernel)) (hs : ∀ x, foldedSetIterable iter X.env x = pure x := by intro _; rfl) :
    PDS X (.Assign [.Name y py] (.ListComp elt [⟨.Name x p, iter, ifs, 0⟩] scope pos) spos) (sAsg (dLcC di i dt de) (gnm j)) := lcS_core (fun _ => end_cel) hN hi ok hg ht he hc hy hyl hsw hs
end
end DL
set_option Elab.async false
set_option linter.all false
set_option maxRecDepth 100000
set_option maxHeartbeats 4000000
/-! DL, fourth part: built-in functions and methods. -/
namespace DL
open PySem PySem.Spec PyProof.Rows L2

section
variable {K : Fg}
def intsOf : List PyData → Option (List Int)
  | [] => some []
  | .int i :: r => (intsOf r).map fun ns => i :: ns
  | _ :: _ => none
theorem intsOf_map : ∀ ns : List Int, intsOf (ns.map PyData.int) = some ns
  | [] => rfl
  | n :: ns => by show (intsOf (ns.map PyData.int)).map _ = _; rw [intsOf_map ns]; rfl
theorem of_intsOf : ∀ {ds : List PyData} {ns : List Int}, intsOf ds = some ns → ds = ns.map PyData.int
  | [], _, h => by cases h; rfl
  | .int d :: r, ds, h => by
    cases e : intsOf r with
    | none => simp [intsOf, e] at h
    | some es =>
      have h' : some (d :: es) = some ds := by simpa [intsOf, e] using h
      cases h'
      rw [List.map_cons, of_intsOf e]
  | .none :: _, _, h => by simp [intsOf] at h
  | .bool _ :: _, _, h => by simp [intsOf] at h
  | .str _ :: _, _, h => by simp [intsOf] at h
  | .list _ :: _, _, h => by simp [intsOf] at h
  | .tuple _ :: _, _, h => by simp [intsOf] at h
  | .dict _ :: _, _, h => by simp [intsOf] at h
/-! len -/
def fLen : FA := fun rs S C => match rs with
  | [.dat (.list ds)] => C (.dat (.int ds.length)) S
  | [.dat (.tuple ds)] => C (.dat (.int ds.length)) S
  | [.dat (.str z)] => z.length ≤ 100000 ∧ C (.dat (.int z.length)) S
  | [.scr ns] => C (.dat (.int ns.length)) S
  | [.tp rs] => C (.dat (.int rs.length)) S
  | [.val (.ref p)] => ∃ (j : Nat) (xs : List R), S[j]? = some (.lst p xs) ∧ C (.dat (.int xs.length)) S
  | _ => False
theorem cd_len : CallD K (fun xs H Q => ∃ x n, xs = [x] ∧ LenV K x H n ∧ Q (.int n) H) fLen := by
  intro F vs rs H S L C Q o lv hf q
  unfold fLen at hf
  split at hf
  · cases lv with | cons m t =>
    cases t
    have hr := o.dat m
    cases hr with | lst h1 n1 q1 =>
    exact ⟨_, _, rfl, .inl ⟨_, SqL.of h1, q1.length.symm⟩, q _ _ S H (o.pd (.int _)) hf⟩
  · cases lv with | cons m t =>
    cases t
    have hr := o.dat m
    cases hr with | tup h1 q1 =>
    exact ⟨_, _, rfl, .inr ⟨_, sqT_of (A := Av S) h1, q1.length.symm⟩, q _ _ S H (o.pd (.int _)) hf⟩
  · cases lv with | cons m t =>
    cases t
    have hr := o.dat m
    cases hr
    exact ⟨_, _, rfl, ⟨big_of hf.1, rfl⟩, q _ _ S H (o.pd (.int _)) hf.2⟩
  · rename_i ns
    cases lv with | cons m t =>
    cases t
    obtain ⟨a, rfl, h1⟩ := o.live _ m
    exact ⟨_, ns.length, rfl, .inl ⟨_, h1.sq, by simp⟩, q _ _ S H (o.pd (.int _)) hf⟩
  · rename_i rs
    cases lv with | cons m t =>
    cases t
    obtain ⟨a, us, rfl, h1, q1⟩ := o.live _ m
    exact ⟨_, _, rfl, .inr ⟨_, sqT_of (A := Av S) h1, (paired_len q1.pair).symm⟩, q _ _ S H (o.pd (.int _)) hf⟩
  · rename_i p
    cases lv with | cons m t =>
    cases t
    cases o.val m
    obtain ⟨j, xs, hj, h⟩ := hf
    obtain ⟨us, e1, q1⟩ := o.cells _ (at_split (in_app hj))
    exact ⟨_, _, rfl, .inl ⟨_, SqL.of e1, (paired_len q1).symm⟩, q _ _ S H (o.pd (.int _)) h⟩
  · exact hf.elim
/-! int(x) -/
def fInt : FA := fun rs S C => match rs with
  | [.dat (.int i)] => C (.dat (.int i)) S
  | [.dat (.bool b)] => C (.dat (.int (if b then 1 else 0))) S
  | [.dat (.str z)] => ∃ n, PySem.intText? z = some n ∧ z.length ≤ 640 ∧ C (.dat (.int n)) S
  | _ => False
def rInt : List V → Hp → VK → Prop := fun xs H Q => ((∃ i, xs = [.int i] ∧ Q (.int i) H) ∨ ∃ k, xs = [.bl k] ∧ Q (.int (if k then 1 else 0)) H) ∨ ∃ (a : Str) (n : Int), xs = [.str a] ∧ PySem.intText? a = some n ∧ a.length ≤ 640 ∧ Q (.int n) H
theorem cr_int {X : Cx} : CallR X (.type "int") rInt := call_int1.or call_int_str
theorem cd_int : CallD K rInt fInt := by
  intro F vs rs H S L C Q o lv hf q
  unfold fInt at hf
  split at hf
  · cases lv with | cons m t =>
    cases t
    cases rep_int_inv (o.dat m)
    exact .inl (.inl ⟨_, rfl, q _ _ S H (o.pd (.int _)) hf⟩)
  · cases lv with | cons m t =>
    cases t
    cases rep_bool_inv (o.dat m)
    exact .inl (.inr ⟨_, rfl, q _ _ S H (o.pd (.int _)) hf⟩)
  · cases lv with | cons m t =>
    cases t
    have hr := o.dat m
    cases hr
    obtain ⟨n, h1, h2, h3⟩ := hf
    exact .inr ⟨_, n, rfl, h1, h2, q _ _ S H (o.pd (.int _)) h3⟩
  · exact hf.elim
/-! str(n) -/
def fStr : FA := fun rs S C => match rs with
  | [.dat (.int i)] => i.natAbs.log2 < 1920 ∧ C (.dat (.str (toString i))) S
  | _ => False
theorem cd_str : CallD K (fun xs H Q => ∃ i, xs = [.int i] ∧ i.natAbs.log2 < 1920 ∧ Q (.str (toString i)) H) fStr := by
  intro F vs rs H S L C Q o lv hf q
  unfold fStr at hf
  split at hf
  · cases lv with | cons m t =>
    cases t
    cases rep_int_inv (o.dat m)
    exact ⟨_, rfl, hf.1, q _ _ S H (o.pd (.str _)) hf.2⟩
  · exact hf.elim
/-! sum, max, min, sorted of a list of ints -/
def fSum : FA := fun rs S C => match rs with
  | [.dat (.list ds)] => ∃ ns, intsOf ds = some ns ∧ C (.dat (.int ns.sum)) S
  | _ => False
theorem cd_sum : CallD K (rSum K) fSum := by
  intro F vs rs H S L C Q o lv hf q
  unfold fSum at hf
  split at hf
  · cases lv with | cons m t =>
    cases t
    obtain ⟨ns, e, h⟩ := hf
    have e' := of_intsOf e
    subst e'
    have hr := o.dat m
    cases hr with | lst h1 n1 q1 =>
    rw [q1.ints_inv] at h1
    exact ⟨_, ns, rfl, SqL.of h1, q _ _ S H (o.pd (.int _)) h⟩
  · exact hf.elim
def fMax : FA := fun rs S C => match rs with
  | [.dat (.list ds)] => ∃ ns, intsOf ds = some ns ∧ ns ≠ [] ∧ ∀ m, m ∈ ns → (∀ y ∈ ns, y ≤ m) → C (.dat (.int m)) S
  | [.dat (.int i), .dat (.int j)] => C (.dat (.int (if j > i then j else i))) S
  | _ => False
def fMin : FA := fun rs S C => match rs with
  | [.dat (.list ds)] => ∃ ns, intsOf ds = some ns ∧ ns ≠ [] ∧ ∀ m, m ∈ ns → (∀ y ∈ ns, m ≤ y) → C (.dat (.int m)) S
  | [.dat (.int i), .dat (.int j)] => C (.dat (.int (if j < i then j else i))) S
  | _ => False
def rMaxAll (K : Fg) : List V → Hp → VK → Prop := fun xs H Q => rMax K xs H Q ∨ ∃ i j, xs = [.int i, .int j] ∧ Q (.int (if j > i then j else i)) H
def rMinAll (K : Fg) : List V → Hp → VK → Prop := fun xs H Q => rMin K xs H Q ∨ ∃ i j, xs = [.int i, .int j] ∧ Q (.int (if j < i then j else i)) H
theorem cr_maxA {X : Cx} (hc : X.calm = true) : CallR X (.builtin "max") (rMaxAll X.K) := (cr_max hc).or (call_max2 hc)
theorem cr_minA {X : Cx} (hc : X.calm = true) : CallR X (.builtin "min") (rMinAll X.K) := (cr_min hc).or (call_min2 hc)
theorem cd_max : CallD K (rMaxAll K) fMax := by
  intro F vs rs H S L C Q o lv hf q
  unfold fMax at hf
  split at hf
  · cases lv with | cons m t =>
    cases t
    obtain ⟨ns, e, hne, h⟩ := hf
    have e' := of_intsOf e
    subst e'
    have hr := o.dat m
    cases hr with | lst h1 n1 q1 =>
    rw [q1.ints_inv] at h1
    exact .inl ⟨_, ns, rfl, SqL.of h1, List.length_pos_iff.mpr hne, fun m hm hy => q _ _ S H (o.pd (.int _)) (h m hm hy)⟩
  · cases lv with | cons m t => cases t with | cons m2 t =>
    cases t
    cases rep_int_inv (o.dat m)
    cases rep_int_inv (o.dat m2)
    exact .inr ⟨_, _, rfl, q _ _ S H (o.pd (.int _)) hf⟩
  · exact hf.elim
theorem cd_min : CallD K (rMinAll K) fMin := by
  intro F vs rs H S L C Q o lv hf q
  unfold fMin at hf
  split at hf
  · cases lv with | cons m t =>
    cases t
    obtain ⟨ns, e, hne, h⟩ := hf
    have e' := of_intsOf e
    subst e'
    have hr := o.dat m
    cases hr with | lst h1 n1 q1 =>
    rw [q1.ints_inv] at h1
    exact .inl ⟨_, ns, rfl, SqL.of h1, List.length_pos_iff.mpr hne, fun m hm hy => q _ _ S H (o.pd (.int _)) (h m hm hy)⟩
  · cases lv with | cons m t => cases t with | cons m2 t =>
    cases t
    cases rep_int_inv (o.dat m)
    cases rep_int_inv (o.dat m2)
    exact .inr ⟨_, _, rfl, q _ _ S H (o.pd (.int _)) hf⟩
  · exact hf.elim
def fSorted : FA := fun rs S C => match rs with
  | [.dat (.list ds)] => ∃ ns, intsOf ds = some ns ∧ ∀ ns' : List Int, ns'.Perm ns → ns'.Pairwise (· ≤ ·) → C (.dat (.list (ns'.map PyData.int))) S
  | _ => False
theorem cd_sorted : CallD K (rSortedI K) fSorted := by
  intro F vs rs H S L C Q o lv hf q
  unfold fSorted at hf
  split at hf
  · cases lv with | cons m t =>
    cases t
    obtain ⟨ns, e, h⟩ := hf
    have e' := of_intsOf e
    subst e'
    have hr := o.dat m
    cases hr with | lst h1 n1 q1 =>
    rw [q1.ints_inv] at h1
    exact ⟨_, ns, rfl, SqL.of h1, fun ns' p hp hs hn => q _ _ S _ (o.lst hn (RepAll.ints ns')) (h ns' hp hs)⟩
  · exact hf.elim
/-! list(x), tuple(x) -/
def fList : FA := fun rs S C => match rs with
  | [.dat (.list ds)] => C (.dat (.list ds)) S
  | [.dat (.tuple ds)] => C (.dat (.list ds)) S
  | [.val (.ref p)] => ∃ (j : Nat) (xs : List R) (ds : List PyData), S[j]? = some (.lst p xs) ∧ dats xs = some ds ∧ C (.dat (.list ds)) S
  | _ => False
def fListC : FA := fun rs S C => match rs with
  | [.dat (.list ds)] => ∀ p, C (.val (.ref p)) (.lst p (ds.map R.dat) :: S)
  | [.dat (.tuple ds)] => ∀ p, C (.val (.ref p)) (.lst p (ds.map R.dat) :: S)
  | [.val (.ref q)] => ∃ (j : Nat) (xs : List R), S[j]? = some (.lst q xs) ∧ ∀ p, C (.val (.ref p)) (.lst p xs :: S)
  | _ => False
abbrev rListOf (K : Fg) : List V → Hp → VK → Prop := fun xs H Q => ∃ p ys, xs = [.ref p] ∧ (SqL K H p ys ∨ SqT K H p ys) ∧ ∀ l, H l = none → Q (.ref l) (upd H l (.lst ys))
theorem cd_list : CallD K (rListOf K) fList := by
  intro F vs rs H S L C Q o lv hf q
  unfold fList at hf
  split at hf
  · cases lv with | cons m t =>
    cases t
    have hr := o.dat m
    cases hr with | lst h1 n1 q1 =>
    exact ⟨_, _, rfl, .inl (SqL.of h1), fun l hl => q _ _ S _ (o.lst hl q1) hf⟩
  · cases lv with | cons m t =>
    cases t
    have hr := o.dat m
    cases hr with | tup h1 q1 =>
    exact ⟨_, _, rfl, .inr (sqT_of (A := Av S) h1), fun l hl => q _ _ S _ (o.lst hl q1) hf⟩
  · cases lv with | cons m t =>
    cases t
    cases o.val m
    obtain ⟨j, xs, ds, hj, e, h⟩ := hf
    obtain ⟨us, e1, q1⟩ := o.cells _ (at_split (in_app hj))
    exact ⟨_, _, rfl, .inl (SqL.of e1), fun l hl => q _ _ S _ (o.lst hl (reps_all q1 e)) h⟩
  · exact hf.elim
theorem cd_listC : CallD K (rListOf K) fListC := by
  intro F vs rs H S L C Q o lv hf q
  unfold fListC at hf
  split at hf
  · cases lv with | cons m t =>
    cases t
    have hr := o.dat m
    cases hr with | lst h1 n1 q1 =>
    exact ⟨_, _, rfl, .inl (SqL.of h1), fun l hl => q _ _ (_ :: S) _ (Ok.push (r := .val (.ref l)) (o.lstC hl (all_reps q1)) rfl) (hf l)⟩
  · cases lv with | cons m t =>
    cases t
    have hr := o.dat m
    cases hr with | tup h1 q1 =>
    exact ⟨_, _, rfl, .inr (sqT_of (A := Av S) h1), fun l hl => q _ _ (_ :: S) _ (Ok.push (r := .val (.ref l)) (o.lstC hl (all_reps q1)) rfl) (hf l)⟩
  · cases lv with | cons m t =>
    cases t
    cases o.val m
    obtain ⟨j, xs, hj, h⟩ := hf
    obtain ⟨us, e1, q1⟩ := o.cells _ (at_split (in_app hj))
    exact ⟨_, _, rfl, .inl (SqL.of e1), fun l hl => q _ _ (_ :: S) _ (Ok.push (r := .val (.ref l)) (o.lstC hl q1) rfl) (h l)⟩
  · exact hf.elim
def fTuple : FA := fun rs S C => match rs with
  | [.dat (.list ds)] => C (.dat (.tuple ds)) S
  | [.dat (.tuple ds)] => C (.dat (.tuple ds)) S
  | [.val (.ref p)] => ∃ (j : Nat) (xs : List R) (ds : List PyData), S[j]? = some (.lst p xs) ∧ dats xs = some ds ∧ C (.dat (.tuple ds)) S
  | _ => False
abbrev rTupleOf (K : Fg) : List V → Hp → VK → Prop := fun xs H Q => ∃ p ys, xs = [.ref p] ∧ ((SqL K H p ys ∧ ∀ l, H l = none → Q (.ref l) (upd H l (.tup ys))) ∨ (SqT K H p ys ∧ Q (.ref p) H))
theorem cd_tuple : CallD K (rTupleOf K) fTuple := by
  intro F vs rs H S L C Q o lv hf q
  unfold fTuple at hf
  split at hf
  · cases lv with | cons m t =>
    cases t
    have hr := o.dat m
    cases hr with | lst h1 n1 q1 =>
    exact ⟨_, _, rfl, .inl ⟨SqL.of h1, fun l hl => q _ _ S _ (o.tup hl q1) hf⟩⟩
  · cases lv with | cons m t =>
    cases t
    have hr := o.dat m
    cases hr with | tup h1 q1 =>
    exact ⟨_, _, rfl, .inr ⟨sqT_of (A := Av S) h1, q _ _ S H (o.pd (.tup h1 q1)) hf⟩⟩
  · cases lv with | cons m t =>
    cases t
    cases o.val m
    obtain ⟨j, xs, ds, hj, e, h⟩ := hf
    obtain ⟨us, e1, q1⟩ := o.cells _ (at_split (in_app hj))
    exact ⟨_, _, rfl, .inl ⟨SqL.of e1, fun l hl => q _ _ S _ (o.tup hl (reps_all q1 e)) h⟩⟩
  · exact hf.elim
/-! isinstance -/
inductive Kd where
  | non | bl | int | str | lst | tup
def Kd.nm : Kd → String
  | .non => "NoneType" | .bl => "bool" | .int => "int" | .str => "str" | .lst => "list" | .tup => "tuple"
def kdOf : PyData → Option Kd
  | .none => some .non
  | .bool _ => some .bl
  | .int _ => some .int
  | .str _ => some .str
  | .list _ => some .lst
  | .tuple _ => some .tup
  | .dict _ => none
/-- what kind a live value has: its cell, where it is one -/
def kdR (S : SH) : R → Kd → Prop
  | .dat d, k => kdOf d = some k
  | .tp _, k => k = .tup
  | .val (.ref p), k => k = .lst ∧ ∃ (j : Nat) (xs : List R), S[j]? = some (.lst p xs)
  | _, _ => False
theorem kd_ty {F : SH} {H : Hp} {S : SH} {L : Live} {v : V} {r : R} {k : Kd} (o : OkF K F H S L) (m : (v, r) ∈ L) (h : kdR S r k) : TyX K H v (.type k.nm) := by
  have hr := o.live _ m
  cases r with
  | dat d =>
    have h : kdOf d = some k := h
    cases hr with
    | non => cases h; exact .base .non
    | bl b => cases h; exact .base (.bl b)
    | int i => cases h; exact .base (.int i)
    | str x => cases h; exact .base (.str x)
    | lst e n q => cases h; exact .base (.lst e)
    | tup e q =>
      cases h
      rcases e with e | ⟨ob, its, n, e, c, _⟩
      · exact .base (.tup e)
      · exact .kTuple e c
  | val w =>
    cases w with
    | ref p =>
      obtain ⟨rfl, j, xs, hj⟩ := h
      cases (show v = V.ref p from hr)
      obtain ⟨us, e1, _⟩ := o.cells _ (at_split (in_app hj))
      exact .base (.lst e1)
    | _ => exact h.elim
  | scr ns => exact h.elim
  | tp rs =>
    cases (show k = .tup from h)
    obtain ⟨a, vs, rfl, e, _⟩ := hr
    rcases e with e | ⟨ob, its, n, e, c, _⟩
    · exact .base (.tup e)
    · exact .kTuple e c
  | obj C ks rs => exact h.elim
  | dic ks rs => exact h.elim
/-- isinstance(x, T): by the kind -/
def fIsi (T : String) (g : Kd → Bool) : FA := fun rs S C => match rs with
  | [r, .val (.ty U)] => U = T ∧ ∃ k, kdR S r k ∧ C (.dat (.bool (g k))) S
  | _ => False
theorem cd_isi {T : String} {g : Kd → Bool} (hT : ∀ k : Kd, kitB k.nm T = some (g k)) : CallD K (rIsi K) (fIsi T g) := by
  intro F vs rs H S L C Q o lv hf q
  unfold fIsi at hf
  split at hf
  · cases lv with | cons m t => cases t with | cons m2 t =>
    cases t
    obtain ⟨rfl, k, hk, h⟩ := hf
    cases o.val m2
    exact ⟨_, _, _, _, _, rfl, .ty _, kd_ty o m hk, kit_ty (hT k), q _ _ S H (o.pd (.bl _)) h⟩
  · exact hf.elim
def gInt : Kd → Bool | .int => true | .bl => true | _ => false
def gBool : Kd → Bool | .bl => true | _ => false
def gStr : Kd → Bool | .str => true | _ => false
def gList : Kd → Bool | .lst => true | _ => false
def gTuple : Kd → Bool | .tup => true | _ => false
theorem kit_int : ∀ k : Kd, kitB k.nm "int" = some (gInt k) := fun k => by cases k <;> decide +kernel
theorem kit_bool : ∀ k : Kd, kitB k.nm "bool" = some (gBool k) := fun k => by cases k <;> decide +kernel
theorem kit_str : ∀ k : Kd, kitB k.nm "str" = some (gStr k) := fun k => by cases k <;> decide +kernel
theorem kit_list : ∀ k : Kd, kitB k.nm "list" = some (gList k) := fun k => by cases k <;> decide +kernel
theorem kit_tuple : ∀ k : Kd, kitB k.nm "tuple" = some (gTuple k) := fun k => by cases k <;> decide +kernel
/-! xs.append(e) -/
def dApp (da de : DE) : DE := fun fr S C => da fr S fun a S1 => match a with
  | .val (.ref p) => (∃ (j : Nat) (xs : List R), S1[j]? = some (.lst p xs)) ∧ de fr S1 fun r S2 => ∃ (j : Nat) (xs : List R), S2[j]? = some (.lst p xs) ∧ xs.length < 100000 ∧ C (.dat .none) (S2.set j (.lst p (xs ++ [r])))
  | _ => False
theorem lift_app {to te : TE} {da de : DE} (la : Lift K to da) (le : Lift K te de) : Lift K (tBM K "list" rAppend to (tCons te tNil)) (dApp da de) := by
  intro F H σ fr S L fo o C Q hd q
  refine la F H σ fr S L fo o _ _ hd fun x a S1 H1 o1 h1 => ?_
  split at h1
  · rename_i p
    obtain ⟨⟨j, xs, hj⟩, h1⟩ := h1
    cases o1.val List.mem_cons_self
    obtain ⟨us, e1, _⟩ := o1.cells _ (at_split (in_app hj))
    refine ⟨.inl ⟨rfl, _, SqL.of e1⟩, ?_⟩
    refine le F H1 σ fr S1 _ (fo.mono tl_mem) o1 _ _ h1 fun v r S2 H2 o2 h2 => ?_
    obtain ⟨j2, ys, hj2, hl, h2⟩ := h2
    obtain ⟨ws, e2, q2⟩ := o2.cells _ (at_split (in_app hj2))
    refine ⟨p, ws, v, rfl, rfl, e2, by rw [paired_len q2]; exact big_lt hl, ?_⟩
    have o3 := o2.putL (in_app hj2) (paired_app q2 (.cons (o2.live (v, r) List.mem_cons_self) .nil))
    rw [set_app hj2] at o3
    exact q _ _ _ _ ((o3.sub fun e he => List.mem_cons_of_mem _ (List.mem_cons_of_mem _ he)).pd .non) h2
  · exact h1.elim
/-! {} -/
def dNewD : DE := fun _ S C => ∀ p, C (.val (.ref p)) (.dct p [] :: S)
theorem lift_newD : Lift K tDNewK dNewD := fun F H σ fr S L fo o C Q hd q p hp => q _ _ (.dct p [] :: S) _ (Ok.push (r := .val (.ref p)) (o.cell (c := .dct p []) rfl hp ⟨[], upd_same, .nil⟩) rfl) (hd p)
end
section
variable {X : Cx} {a b c e : Expr} {da db dc de : DE} {dA : DA} {pos p : Pos} {es : List Expr}
theorem d_len (hg : Gl X "len") (hm : X.mg "len" = none) (ha : PDA X [e] dA) (he : starEach [e] X.env = [(false, eval e X.env)] := by rfl) : PD X (.Call (.Name "len" p) [e] [] pos) (dCB fLen dA) := d_callB call_len cd_len hg hm PySem.boot_len ha (by decide) (by decide) he (by rfl)
theorem d_intF (hg : Gl X "int") (hm : X.mg "int" = none) (ha : PDA X [e] dA) (he : starEach [e] X.env = [(false, eval e X.env)] := by rfl) : PD X (.Call (.Name "int" p) [e] [] pos) (dCB fInt dA) := d_callTy cr_int cd_int hg hm (by decide +kernel) ha (by decide) (by decide) he (by rfl)
theorem d_strF (hg : Gl X "str") (hm : X.mg "str" = none) (ha : PDA X [e] dA) (he : starEach [e] X.env = [(false, eval e X.env)] := by rfl) : PD X (.Call (.Name "str" p) [e] [] pos) (dCB fStr dA) := d_callTy call_str_int cd_str hg hm (by decide +kernel) ha (by decide) (by decide) he (by rfl)
theorem d_sum (hg : Gl X "sum") (hm : X.mg "sum" = none) (ha : PDA X [e] dA) (hc : X.calm = true := by rfl) (he : starEach [e] X.env = [(false, eval e X.env)] := by rfl) : PD X (.Call (.Name "sum" p) [e] [] pos) (dCB fSum dA) := d_callB (cr_sum hc) cd_sum hg hm (by decide +kernel) ha (by decide) (by decide) he (by rfl)
theorem d_max1 (hg : Gl X "max") (hm : X.mg "max" = none) (ha : PDA X [e] dA) (hc : X.calm = true := by rfl) (he : starEach [e] X.env = [(false, eval e X.env)] := by rfl) : PD X (.Call (.Name "max" p) [e] [] pos) (dCB fMax dA) := d_callB (cr_maxA hc) cd_max hg hm (by decide +kernel) ha (by decide) (by decide) he (by rfl)
theorem d_max2 (hg : Gl X "max") (hm : X.mg "max" = none) (ha : PDA X [a, b] dA) (hc : X.calm = true := by rfl) (he : starEach [a, b] X.env = (false, eval a X.env) :: starEach [b] X.env := by rfl) (hpl : (backTo pos (starEach [b] X.env)).any (·.1) = false := by rfl) : PD X (.Call (.Name "max" p) [a, b] [] pos) (dCB fMax dA) := d_callB (cr_maxA hc) cd_max hg hm (by decide +kernel) ha (by decide) (by decide) he hpl
theorem d_min1 (hg : Gl X "min") (hm : X.mg "min" = none) (ha : PDA X [e] dA) (hc : X.calm = true := by rfl) (he : starEach [e] X.env = [(false, eval e X.env)] := by rfl) : PD X (.Call (.Name "min" p) [e] [] pos) (dCB fMin dA) := d_callB (cr_minA hc) cd_min hg hm (by decide +kernel) ha (by decide) (by decide) he (by rfl)
theorem d_min2 (hg : Gl X "min") (hm : X.mg "min" = none) (ha : PDA X [a, b] dA) (hc : X.calm = true := by rfl) (he : starEach [a, b] X.env = (false, eval a X.env) :: starEach [b] X.env := by rfl) (hpl : (backTo pos (starEach [b] X.env)).any (·.1) = false := by rfl) : PD X (.Call (.Name "min" p) [a, b] [] pos) (dCB fMin dA) := d_callB (cr_minA hc) cd_min hg hm (by decide +kernel) ha (by decide) (by decide) he hpl
theorem d_sorted (hg : Gl X "sorted") (hm : X.mg "sorted" = none) (ha : PDA X [e] dA) (he : starEach [e] X.env = [(false, eval e X.env)] := by rfl) : PD X (.Call (.Name "sorted" p) [e] [] pos) (dCB fSorted dA) := d_callB cr_sortedI cd_sorted hg hm (by decide +kernel) ha (by decide) (by decide) he (by rfl)
theorem d_list (hg : Gl X "list") (hm : X.mg "list" = none) (ha : PDA X [e] dA) (he : starEach [e] X.env = [(false, eval e X.env)] := by rfl) : PD X (.Call (.Name "list" p) [e] [] pos) (dCB fList dA) := d_callTy call_list_of cd_list hg hm (by decide +kernel) ha (by decide) (by decide) he (by rfl)
theorem d_listC (hg : Gl X "list") (hm : X.mg "list" = none) (ha : PDA X [e] dA) (he : starEach [e] X.env = [(false, eval e X.env)] := by rfl) : PD X (.Call (.Name "list" p) [e] [] pos) (dCB fListC dA) := d_callTy call_list_of cd_listC hg hm (by decide +kernel) ha (by decide) (by decide) he (by rfl)
theorem d_tuple (hg : Gl X "tuple") (hm : X.mg "tuple" = none) (ha : PDA X [e] dA) (he : starEach [e] X.env = [(false, eval e X.env)] := by rfl) : PD X (.Call (.Name "tuple" p) [e] [] pos) (dCB fTuple dA) := d_callTy call_tuple_of cd_tuple hg hm (by decide +kernel) ha (by decide) (by decide) he (by rfl)
theorem d_isi {T : String} {g : Kd → Bool} (hT : ∀ k : Kd, kitB k.nm T = some (g k)) (hg : Gl X "isinstance") (hm : X.mg "isinstance" = none) (ha : PDA X [a, b] dA) (he : starEach [a, b] X.env = (false, eval a X.env) :: starEach [b] X.env := by rfl) (hpl : (backTo pos (starEach [b] X.env)).any (·.1) = false := by rfl) :
    PD X (.Call (.Name "isinstance" p) [a, b] [] pos) (dCB (fIsi T g) dA) := d_callB call_isi (cd_isi hT) hg hm (by decide +kernel) ha (by decide) (by decide) he hpl
theorem d_app {apos : Pos} (ha : PD X a da) (he : PD X e de) (hp : PE X (.Call (.Attribute a "append" apos) [e] [] pos) (tBM X.K "list" rAppend (toTE X.K da) (tCons (toTE X.K de) tNil))) : PD X (.Call (.Attribute a "append" apos) [e] [] pos) (dApp da de) := ⟨_, hp, lift_app (lift_to da) (lift_to de)⟩
theorem d_newD : PD X (.Dict [] [] pos) dNewD := ⟨_, pe_dnewK, lift_newD⟩
end
end DL
set_option Elab.async false
set_option linter.all false
set_option maxRecDepth 100000
set_option maxHeartbeats 4000000
/-! DL, fifth part: defs of the text as they are called; the built-in names. -/
namespace DL
open PySem PySem.Spec PyProof.Rows L2

structure Blt (mg : Str → Option Value) : Prop where
  len : mg "len" = none
  range : mg "range" = none
  int : mg "int" = none
  sum : mg "sum" = none
  max : mg "max" = none
  min : mg "min" = none
  sorted : mg "sorted" = none
  list : mg "list" = none
  tuple : mg "tuple" = none
  isinstance : mg "isinstance" = none
  enumerate : mg "enumerate" = none
  str : mg "str" = none
  bool : mg "bool" = none
  zip : mg "zip" = none
  set : mg "set" = none
  dict : mg "dict" = none

/-- a def of the top as it stands -/
structure FunAt (K : Fg) (mg : Str → Option Value) (x : Str) (st : Stmt) (ps : List Str) : Prop where
  ex : ∃ f fd, Fun K x x st f fd ∧ mg x = some (.ref f) ∧ Binds K fd ps []
/-- a def of the top and its promise -/
structure Def (P : Program) (w : World) (K : Fg) (mg : Str → Option Value) (base : Heap) (x : Str) (k n : Nat) (sp : SpD) : Prop where
  ex : ∃ f fd ps, FnOk P w K mg base CX0 k f fd ps (toSp K n sp) ∧ mg x = some (.ref f) ∧ PySem.W.keepIn K (.ref f) = true ∧ Binds K fd ps []
theorem Def.mono {P : Program} {w : World} {K : Fg} {mg : Str → Option Value} {base : Heap} {x : Str} {j k n : Nat} {sp : SpD} (d : Def P w K mg base x j n sp) (h : j ≤ k) : Def P w K mg base x k n sp := by
  obtain ⟨f, fd, ps, a, b⟩ := d.ex
  exact ⟨f, fd, ps, a.mono h, b⟩
/-- a weaker promise -/
theorem Def.imp {P : Program} {w : World} {K : Fg} {mg : Str → Option Value} {base : Heap} {x : Str} {k n : Nat} {sp sp' : SpD} (d : Def P w K mg base x k n sp) (h : ∀ rs S C, rs.length = n → sp' rs S C → sp rs S C) : Def P w K mg base x k n sp' := by
  obtain ⟨f, fd, ps, a, b⟩ := d.ex
  exact ⟨f, fd, ps, a.imp fun vs H Q E ⟨hl, F, S, L, rs, C, o, lv, hs, q⟩ => ⟨hl, F, S, L, rs, C, o, lv, h rs S C ((paired_len lv).symm.trans hl) hs, q⟩, b⟩
section
variable {P : Program} {w : World} {K : Fg} {mg : Str → Option Value} {base : Heap}
theorem okF {x : Str} {st : Stmt} {N ps : List Str} {k n : Nat} {sp : SpD} (Fn : FunAt K mg x st ps) (Sc : FnScope N ps (defScope st)) (hn : ps.length = n)
    (hbody : ∀ (cdv : Value) (A : Around) (outer : List Env) (s : Shared) (H : Hp) (E : XK) (f : Addr), Room k (A.deeper (envOfC x (defScope st) s.heap.objs.size f cdv)) →
      ∃ ds, PDSs (cxOf CX0 P w K mg base N x (defScope st) f cdv A outer s H E).nox (defBody st) ds ∧ ∀ rs S C, rs.length = n → sp rs S C → ds { nx := fun _ S => C (.dat .none) S, rt := C } (startF N rs) S) : Def P w K mg base x (k + 1) n sp := by
  obtain ⟨f, fd, Fu, hm, hb⟩ := Fn.ex
  exact ⟨f, fd, ps, okD Fu Sc hn fun cdv A outer s H E hr => hbody cdv A outer s H E f hr, hm, Fu.kp, hb⟩
end
section
variable {X : Cx} {a b c e : Expr} {da db dc de : DE} {dA : DA} {pos p : Pos} {es : List Expr}
theorem d_callF {sp : SpD} {k n : Nat} {x : Str} (d : Def X.prog X.w X.K X.mg X.base x k n sp) (hr : Room k X.A) (hg : Gl X x)
    (ha : PDA X (e :: es) dA) (hdb : (x == ("__debug__" : Str)) = false := by decide) (he : starEach (e :: es) X.env = (false, eval e X.env) :: starEach es X.env := by rfl) (hpl : (backTo pos (starEach es X.env)).any (·.1) = false := by rfl) :
    PD X (.Call (.Name x p) (e :: es) [] pos) (dCall n sp dA) := by
  obtain ⟨f, fd, ps, F, hm, hk, hb⟩ := d.ex
  exact d_call F hr hg hm hk hb ha hdb he hpl
theorem d_appT {apos : Pos} (ha : PD X a da) (he : PD X e de) (hbase : attributeBase a "append" X.env (eval a X.env) = eval a X.env := by rfl)
    (hfew : ((backTo pos (starEach [e] X.env)).all (fun x => !x.1) && (backToKw pos (keywordEach [] X.env)).all (fun x => x.1.isSome)
      && decide (([e] : List Expr).length + ([] : List Keyword).length + (if ([] : List Keyword).isEmpty then 0 else 1) < 30)) = true := by rfl)
    (hline : (apos.endLine == pos.line) = true := by rfl) (hs : starEach [e] X.env = [(false, eval e X.env)] := by rfl) : PD X (.Call (.Attribute a "append" apos) [e] [] pos) (dApp da de) :=
  d_app ha he (pe_bm PySem.F.plainAttrs_list PySem.F.slot_list_append PySem.F.type_list_append mt_append ha.pe (pa_cons he.pe pa_nil hs) hbase hfew hline hs rfl)
end

theorem ite2d {p : Prop} [Decidable p] {A B : Prop} (h1 : p → A) (h2 : ¬ p → B) : if decide p = true then A else B := by
  by_cases h : p
  · rw [if_pos (decide_eq_true h)]; exact h1 h
  · rw [if_neg (by rw [decide_eq_false h]; exact Bool.false_ne_true)]; exact h2 h
theorem ite2b {b : Bool} {A B : Prop} (h1 : b = true → A) (h2 : b = false → B) : if b = true then A else B := by
  cases b with
  | true => rw [if_pos rfl]; exact h1 rfl
  | false => rw [if_neg Bool.false_ne_true]; exact h2 rfl
theorem iteTb {b : Bool} {A B : Prop} (h : b = true) (h1 : A) : if b = true then A else B := by rw [if_pos h]; exact h1
theorem iteFb {b : Bool} {A B : Prop} (h : b = false) (h1 : B) : if b = true then A else B := by rw [if_neg (by rw [h]; exact Bool.false_ne_true)]; exact h1
theorem iteTd {p : Prop} [Decidable p] {A B : Prop} (h : p) (h1 : A) : if decide p = true then A else B := iteTb (decide_eq_true h) h1
theorem iteFd {p : Prop} [Decidable p] {A B : Prop} (h : ¬ p) (h1 : B) : if decide p = true then A else B := iteFb (decide_eq_false h) h1
theorem getset {S : SH} {j : Nat} {c : Cell} (h : S[j]? = some c) (c' : Cell) : (S.set j c')[j]? = some c' := by
  obtain ⟨hl, _⟩ := List.getElem?_eq_some_iff.mp h
  exact List.getElem?_set_self hl
theorem cdiv {i j : Int} (h : 0 < j) (h2 : j < 1073741824) : CDivW i j := wide_div (b := 30) h (by
  have e : (2 : Nat) ^ 30 = 1073741824 := by decide
  rw [e]; omega) (by decide) (by decide)
theorem cmul {i j : Int} (h : -4294967296 < i) (h2 : i < 4294967296) (h3 : -4294967296 < j) (h4 : j < 4294967296) : CMulW i j := wide_mul (a := 32) (b := 32) (by
  have e : (2 : Nat) ^ 32 = 4294967296 := by decide
  rw [e]; omega) (by
  have e : (2 : Nat) ^ 32 = 4294967296 := by decide
  rw [e]; omega) (by decide) (by decide) (by decide)
/-! ### the dice -/
/-- the dice: the script, the place, the mixed number, what is left of a great one -/
def DiceOk (rs : List R) : Prop := ∃ (ns : List Int) (at_ mixed left : Int), rs = [.scr ns, .dat (.int at_), .dat (.int mixed), .dat (.int left)] ∧ 0 ≤ at_ ∧ 0 ≤ mixed ∧ mixed < 2147483647
abbrev dice (D : Addr) : Cell := .pk D DiceOk
end DL
set_option Elab.async false
set_option linter.all false
set_option maxRecDepth 100000
set_option maxHeartbeats 4000000
/-! DL, sixth part: forms of loops and comprehensions that one uses; the dice's next. -/
namespace DL
open PySem PySem.Spec PyProof.Rows L2

/-- a comprehension whose tests and elements are told by the item alone -/
theorem lc_pure {E : List R → SH → CR0 → Prop} {items : List R} {fr : Fr} {S : SH} {C : CR0} {i : Nat} {dt : DT} {de : DE} (p : R → Bool) (g : R → R)
    (ht : ∀ r, r ∈ items → ∀ C' : Bool → SH → Prop, C' (p r) S → dt (fr.set i (some r)) S C') (he : ∀ r, r ∈ items → p r = true → ∀ C' : CR0, C' (g r) S → de (fr.set i (some r)) S C') (hl : items.length ≤ 100000)
    (h : E ((items.filter p).map g) S C) : ∃ I : Nat → List R → SH → Prop, I 0 [] S ∧
  (∀ k r acc S, items[k]? = some r → I k acc S → dt (fr.set i (some r)) S fun b S2 => if b = true then de (fr.set i (some r)) S2 fun y S3 => acc.length < 100000 ∧ I (k + 1) (acc ++ [y]) S3 else I (k + 1) acc S2) ∧
  ∀ acc S, I items.length acc S → E acc S C := by
  refine ⟨fun k acc S' => S' = S ∧ acc = ((items.take k).filter p).map g, ⟨rfl, rfl⟩, ?_, ?_⟩
  · rintro k r acc S' hk ⟨rfl, rfl⟩
    have hm : r ∈ items := List.mem_of_getElem? hk
    obtain ⟨hlt, _⟩ := List.getElem?_eq_some_iff.mp hk
    have et : items.take (k + 1) = items.take k ++ [r] := by rw [List.take_add_one, hk]; rfl
    refine ht r hm _ ?_
    refine ite2b (fun hp => ?_) (fun hp => ?_)
    · refine he r hm hp _ ⟨?_, rfl, ?_⟩
      · rw [List.length_map]
        have h1 := List.length_filter_le p (items.take k)
        have h2 := List.length_take_le k items
        omega
      · rw [et, List.filter_append, List.map_append, List.filter_cons, if_pos hp]; rfl
    · refine ⟨rfl, ?_⟩
      rw [et, List.filter_append, List.filter_cons, if_neg (by rw [hp]; exact Bool.false_ne_true)]; simp
  · rintro acc S' ⟨rfl, rfl⟩
    rw [List.take_length]; exact h
/-- without a test -/
theorem lc_map {E : List R → SH → CR0 → Prop} {items : List R} {fr : Fr} {S : SH} {C : CR0} {i : Nat} {de : DE} (g : R → R)
    (he : ∀ r, r ∈ items → ∀ C' : CR0, C' (g r) S → de (fr.set i (some r)) S C') (hl : items.length ≤ 100000) (h : E (items.map g) S C) : ∃ I : Nat → List R → SH → Prop, I 0 [] S ∧
  (∀ k r acc S, items[k]? = some r → I k acc S → dYes (fr.set i (some r)) S fun b S2 => if b = true then de (fr.set i (some r)) S2 fun y S3 => acc.length < 100000 ∧ I (k + 1) (acc ++ [y]) S3 else I (k + 1) acc S2) ∧
  ∀ acc S, I items.length acc S → E acc S C :=
  lc_pure (fun _ => true) g (fun _ _ _ q => q) (fun r hr _ C' q => he r hr C' q) hl (by rw [List.filter_eq_self.mpr (fun _ _ => rfl)]; exact h)
/-- elements that are drawn: each as Q tells of its item -/
theorem lc_nd {E : List R → SH → CR0 → Prop} {items : List R} {fr : Fr} {S : SH} {C : CR0} {i : Nat} {de : DE} (P : R → Prop)
    (he : ∀ (k : Nat) r, items[k]? = some r → ∀ C' : CR0, (∀ y, P y → C' y S) → de (fr.set i (some r)) S C') (hl : items.length ≤ 100000) (h : ∀ acc : List R, acc.length = items.length → (∀ y ∈ acc, P y) → E acc S C) : ∃ I : Nat → List R → SH → Prop, I 0 [] S ∧
  (∀ k r acc S, items[k]? = some r → I k acc S → dYes (fr.set i (some r)) S fun b S2 => if b = true then de (fr.set i (some r)) S2 fun y S3 => acc.length < 100000 ∧ I (k + 1) (acc ++ [y]) S3 else I (k + 1) acc S2) ∧
  ∀ acc S, I items.length acc S → E acc S C := by
  refine ⟨fun k acc S' => S' = S ∧ acc.length = k ∧ ∀ y ∈ acc, P y, ⟨rfl, rfl, by simp⟩, ?_, ?_⟩
  · rintro k r acc S' hk ⟨rfl, hlen, hP⟩
    obtain ⟨hlt, _⟩ := List.getElem?_eq_some_iff.mp hk
    refine he k r hk _ fun y hy => ⟨by omega, rfl, by rw [List.length_append, hlen]; rfl, fun z hz => ?_⟩
    rcases List.mem_append.mp hz with hz | hz
    · exact hP z hz
    · cases List.mem_singleton.mp hz; exact hy
  · rintro acc S' ⟨rfl, hlen, hP⟩
    exact h acc hlen hP
/-- elements that are drawn, each by its place -/
theorem lc_ndI {E : List R → SH → CR0 → Prop} {items : List R} {fr : Fr} {S : SH} {C : CR0} {i : Nat} {de : DE} (P : Nat → R → Prop)
    (he : ∀ (k : Nat) r, items[k]? = some r → ∀ C' : CR0, (∀ y, P k y → C' y S) → de (fr.set i (some r)) S C') (hl : items.length ≤ 100000) (h : ∀ acc : List R, acc.length = items.length → (∀ (k : Nat) y, acc[k]? = some y → P k y) → E acc S C) : ∃ I : Nat → List R → SH → Prop, I 0 [] S ∧
  (∀ k r acc S, items[k]? = some r → I k acc S → dYes (fr.set i (some r)) S fun b S2 => if b = true then de (fr.set i (some r)) S2 fun y S3 => acc.length < 100000 ∧ I (k + 1) (acc ++ [y]) S3 else I (k + 1) acc S2) ∧
  ∀ acc S, I items.length acc S → E acc S C := by
  refine ⟨fun k acc S' => S' = S ∧ acc.length = k ∧ ∀ (m : Nat) y, acc[m]? = some y → P m y, ⟨rfl, rfl, by simp⟩, ?_, ?_⟩
  · rintro k r acc S' hk ⟨rfl, hlen, hP⟩
    obtain ⟨hlt, _⟩ := List.getElem?_eq_some_iff.mp hk
    refine he k r hk _ fun y hy => ⟨by omega, rfl, by rw [List.length_append, hlen]; rfl, fun m z hz => ?_⟩
    rw [List.getElem?_append] at hz
    split at hz
    · exact hP m z hz
    · rename_i hm
      have e : m = acc.length := by
        obtain ⟨h1, _⟩ := List.getElem?_eq_some_iff.mp hz
        simp at h1
        omega
      subst e
      simp at hz
      subst hz
      rw [hlen]; exact hy
  · rintro acc S' ⟨rfl, hlen, hP⟩
    exact h acc hlen hP
/-- drawn ints -/
theorem ints_of_acc {lo hi : Int} : ∀ {acc : List R}, (∀ y ∈ acc, ∃ i : Int, y = .dat (.int i) ∧ lo ≤ i ∧ i ≤ hi) → ∃ ns : List Int, acc = ns.map (fun n => R.dat (.int n)) ∧ ∀ n ∈ ns, lo ≤ n ∧ n ≤ hi
  | [], _ => ⟨[], rfl, by simp⟩
  | y :: r, h => by
    obtain ⟨ns, e, hb⟩ := ints_of_acc (acc := r) fun z hz => h z (List.mem_cons_of_mem _ hz)
    obtain ⟨i, ei, h1, h2⟩ := h y List.mem_cons_self
    refine ⟨i :: ns, by rw [ei, e]; rfl, fun n hn => ?_⟩
    rcases List.mem_cons.mp hn with rfl | hn
    · exact ⟨h1, h2⟩
    · exact hb n hn
theorem dats_ints (ns : List Int) : dats (ns.map (fun n => R.dat (.int n))) = some (ns.map PyData.int) := by
  have e : ns.map (fun n => R.dat (.int n)) = (ns.map PyData.int).map R.dat := by rw [List.map_map]; rfl
  rw [e, dats_map]
theorem set_same {S : SH} {j : Nat} {c : Cell} (h : S[j]? = some c) : S.set j c = S := by
  apply List.ext_getElem?
  intro i
  rw [List.getElem?_set]
  split
  · rename_i e
    subst e
    obtain ⟨hl, _⟩ := List.getElem?_eq_some_iff.mp h
    rw [if_pos hl, h]
  · rfl
theorem cutD_map {α β : Type} (f : α → β) (xs : List α) (lo hi : Option Int) : cutD (xs.map f) lo hi = (cutD xs lo hi).map f := by
  unfold cutD
  rw [List.length_map, List.map_take, List.map_drop]
theorem enum_get {ds : List PyData} {i : Nat} {r : R} (h : (enumD ds)[i]? = some r) : ∃ d, ds[i]? = some d ∧ r = .dat (.tuple [.int (i : Int), d]) := by
  unfold enumD at h
  rw [List.getElem?_map] at h
  by_cases hi : i < ds.length
  · rw [List.getElem?_range hi] at h
    cases h
    have e1 : ds[i]? = some ds[i] := List.getElem?_eq_getElem hi
    exact ⟨ds[i], e1, by show R.dat (.tuple [.int (i : Int), ds.getD i .none]) = _; rw [List.getD_eq_getElem?_getD, e1]; rfl⟩
  · rw [List.getElem?_eq_none (by simpa using hi)] at h
    cases h
theorem enum_len (ds : List PyData) : (enumD ds).length = ds.length := by simp [enumD]
theorem get_ints {ns : List Int} {i : Nat} {d : PyData} (h : (ns.map PyData.int)[i]? = some d) : ∃ n, ns[i]? = some n ∧ d = .int n := by
  rw [List.getElem?_map] at h
  cases e : ns[i]? with
  | none => rw [e] at h; cases h
  | some n => rw [e] at h; exact ⟨n, rfl, (Option.some.inj h).symm⟩
theorem get_dat {ds : List PyData} {i : Nat} {r : R} (h : (ds.map R.dat)[i]? = some r) : ∃ d, ds[i]? = some d ∧ r = .dat d := by
  rw [List.getElem?_map] at h
  cases e : ds[i]? with
  | none => rw [e] at h; cases h
  | some n => rw [e] at h; exact ⟨n, rfl, (Option.some.inj h).symm⟩
theorem mem_ints {ns : List Int} {r : R} (h : r ∈ (ns.map PyData.int).map R.dat) : ∃ n ∈ ns, r = .dat (.int n) := by
  obtain ⟨d, hd, rfl⟩ := List.mem_map.mp h
  obtain ⟨n, hn, rfl⟩ := List.mem_map.mp hd
  exact ⟨n, hn, rfl⟩
theorem rng_get {lo : Int} {n i : Nat} {r : R} (h : (rng lo n)[i]? = some r) : i < n ∧ r = .dat (.int (lo + (i : Int))) := by
  unfold rng at h
  rw [List.getElem?_map] at h
  by_cases hi : i < n
  · rw [List.getElem?_range hi] at h
    cases h
    exact ⟨hi, rfl⟩
  · rw [List.getElem?_eq_none (by simpa using hi)] at h
    cases h
theorem rng_len (lo : Int) (n : Nat) : (rng lo n).length = n := by simp [rng]
theorem rngD_get {hi : Int} {n i : Nat} {r : R} (h : (rngD hi n)[i]? = some r) : i < n ∧ r = .dat (.int (hi - (i : Int))) := by
  unfold rngD at h
  rw [List.getElem?_map] at h
  by_cases hi : i < n
  · rw [List.getElem?_range hi] at h
    cases h
    exact ⟨hi, rfl⟩
  · rw [List.getElem?_eq_none (by simpa using hi)] at h
    cases h
theorem rngD_len (hi : Int) (n : Nat) : (rngD hi n).length = n := by simp [rngD]
/-! ### the dice's next -/
def spNext : SpD := fun rs S C => ∃ (D : Addr) (n : Int) (j : Nat), rs = [.val (.ref D), .dat (.int n)] ∧ S[j]? = some (dice D) ∧ 0 < n ∧ n < 1073741824 ∧ ∀ r, 0 ≤ r → r < n → C (.dat (.int r)) S
/-- the same, the dice being open -/
def spNext0 : SpD := fun rs S C => ∃ (D : Addr) (n : Int) (j : Nat) (xs : List R), rs = [.val (.ref D), .dat (.int n)] ∧ S[j]? = some (.lst D xs) ∧ DiceOk xs ∧ 0 < n ∧ n < 1073741824 ∧ ∀ r ys, 0 ≤ r → r < n → DiceOk ys → C (.dat (.int r)) (S.set j (.lst D ys))
/-- a draw below a number that is known -/
theorem dnext {fr : Fr} {S : SH} {C : CR0} {D : Addr} {n : Int} {i j : Nat} (hv : fr[i]? = some (some (.val (.ref D)))) (hj : S[j]? = some (dice D)) (h0 : 0 < n) (h1 : n < 1073741824) (q : ∀ r, 0 ≤ r → r < n → C (.dat (.int r)) S) :
    dCall 2 spNext (dCons (dVar i) (dCons (dC (.dat (.int n))) dNil)) fr S C := ⟨_, hv, rfl, D, n, j, rfl, hj, h0, h1, q⟩
theorem dnextV {fr : Fr} {S : SH} {C : CR0} {D : Addr} {n : Int} {i j m : Nat} (hv : fr[i]? = some (some (.val (.ref D)))) (hm : fr[m]? = some (some (.dat (.int n)))) (hj : S[j]? = some (dice D)) (h0 : 0 < n) (h1 : n < 1073741824) (q : ∀ r, 0 ≤ r → r < n → C (.dat (.int r)) S) :
    dCall 2 spNext (dCons (dVar i) (dCons (dVar m) dNil)) fr S C := ⟨_, hv, _, hm, rfl, D, n, j, rfl, hj, h0, h1, q⟩
theorem dnextE {fr : Fr} {S : SH} {C : CR0} {D : Addr} {dn : DE} {i j : Nat} (n : Int) (hv : fr[i]? = some (some (.val (.ref D)))) (hj : S[j]? = some (dice D)) (hn : ∀ C', C' (.dat (.int n)) S → dn fr S C') (h0 : 0 < n) (h1 : n < 1073741824) (q : ∀ r, 0 ≤ r → r < n → C (.dat (.int r)) S) :
    dCall 2 spNext (dCons (dVar i) (dCons dn dNil)) fr S C := ⟨_, hv, hn _ ⟨rfl, D, n, j, rfl, hj, h0, h1, q⟩⟩
/-- an item of a list that is written -/
theorem pick {α : Type} {ds : List α} {r : Int} (h0 : 0 ≤ r) (h1 : r < ds.length) : ∃ d, atI ds r = some d ∧ d ∈ ds := by
  have e : r = ((r.toNat : Nat) : Int) := by omega
  have hl : r.toNat < ds.length := by omega
  refine ⟨ds[r.toNat], ?_, List.getElem_mem hl⟩
  have z := atI_nat (List.getElem?_eq_getElem hl)
  rw [← e] at z
  exact z
theorem next_of {P : Program} {w : World} {K : Fg} {mg : Str → Option Value} {base : Heap} {x : Str} {k : Nat} (d : Def P w K mg base x k 2 spNext0) : Def P w K mg base x k 2 spNext := by
  obtain ⟨f, fd, ps, a, b⟩ := d.ex
  refine ⟨f, fd, ps, a.imp fun vs H Q E h => ?_, b⟩
  obtain ⟨hl, F, S, L, rs, C, o, lv, ⟨D, n, j, rfl, hj, hn, hn2, q⟩, fin⟩ := h
  obtain ⟨xs, hx, o2⟩ := o.open_pk (in_app (F := F) hj)
  rw [set_app hj] at o2
  refine ⟨hl, F, S.set j (.lst D xs), L, _, fun r S' => ∃ i ys, r = .dat (.int i) ∧ 0 ≤ i ∧ i < n ∧ DiceOk ys ∧ S' = (S.set j (.lst D xs)).set j (.lst D ys), o2, lv, ⟨D, n, j, xs, rfl, getset hj _, hx, hn, hn2, fun r ys h0 h1 hy => ⟨r, ys, rfl, h0, h1, hy, rfl⟩⟩, ?_⟩
  rintro v r S' H' o' ⟨i, ys, rfl, h0, h1, hy, rfl⟩
  rw [List.set_set] at o'
  have o3 := o'.pack (P := DiceOk) (in_app (F := F) (getset hj (.lst D ys))) hy
  rw [set_app (getset hj _), List.set_set, set_same hj] at o3
  exact fin v _ S H' o3 (q i h0 h1)
end DL
set_option Elab.async false
set_option linter.all false
set_option maxRecDepth 100000
set_option maxHeartbeats 4000000
/-! DL: min of data that is compared place by place (tuples of numbers and lists). -/
namespace DL
open PySem PySem.Spec PyProof.Rows L2

/-- < between what stands at two places, wherever the objects of h0 are kept -/
def LtIn (prog : Program) (w : World) (A : Around) (h0 : Heap) (P : Nat → Value → Prop) (bt : Nat → Nat → Bool) : Prop :=
  ∀ i j vi vj (s : Shared) (Q : Value → Shared → Prop) (E : Value → Shared → Prop), j < i → (∀ b o, h0.get? b = some o → s.heap.get? b = some o) → P i vi → P j vj → Q (.bool (bt i j)) s → wpAny (model prog w) A (richCompare .Lt vi vj) Q E s
theorem argBest_le (bt : Nat → Nat → Bool) : ∀ k, argBest bt k ≤ k
  | 0 => Nat.le_refl _
  | k + 1 => by
    unfold argBest
    split
    · exact Nat.le_refl _
    · exact Nat.le_succ_of_le (argBest_le bt k)
section
variable {prog : Program} {w : World} {A : Around} {R : Result → Shared → Prop} {I : Addr} {fp wr : List Addr} {n : Nat} {P : Nat → Value → Prop} {St : Nat → Heap → Prop} {h0 : Heap}
theorem minloop (W : Walks prog w A.in1 I fp wr n P St) (bt : Nat → Nat → Bool) (lt : LtIn prog w A.in1 h0 P bt) (S : Addr) (hSf : S ∉ fp) (hw : ∀ b o, h0.get? b = some o → b ∉ wr ∧ b ≠ S) :
    ∀ (k j : Nat) (s : Shared) (vb : Value) (c : Nat), n - (j + 1) = k → j + 1 ≤ n → St (j + 1) s.heap → P (argBest bt j) vb → (∀ b o, h0.get? b = some o → s.heap.get? b = some o) →
    s.heap.get? S = some { cls := .type "list", dict := none, data := .seq #[vb, vb] c, slots := #[] } →
    (∀ v h' tk, P (argBest bt (n - 1)) v → (∀ b o, b ∉ wr → b ≠ S → s.heap.get? b = some o → h'.get? b = some o) → R (.ok (.ret v)) { s with heap := h', toks := tk }) →
    codeAny (model prog w) A (.builtin "min.loop" ⟨[.ref I, .none, .ref S], []⟩) R s := by
  have nSw : S ∉ wr := fun h => hSf (W.sub _ h)
  have nm : (toString "min" ++ toString ".loop" : String) = "min.loop" := by decide
  intro k
  induction k with
  | zero =>
    intro j s vb c hk hj st pb keep hS fin
    have ej : j + 1 = n := by omega
    refine codeAny_builtin F.entry_min_loop ?_
    rw [Around.under_plainId F.plain_min_loop _]
    show wpAny _ A.in1 (seqItems? (.ref S) >>= _) _ _ s
    refine wpAny_bind (wpAny_seqItems hS rfl ?_)
    show wpAny _ A.in1 (tryCatch (pyNext (.ref I)) _ >>= _) _ _ s
    refine wpAny_bind (wpAny_tryCatch (W.done s _ _ (ej ▸ st) fun h' tk kp => ?_))
    have hS' := kp S _ nSw hS
    show wpAny _ A.in1 (updateSeq S (fun _ => #[]) >>= _) _ _ _
    refine wpAny_bind ?_
    refine wpAny_updateSeq hS' rfl (wpAny_bind (wpAny_letGo (wpAny_pure ?_)))
    exact fin vb _ tk (by rw [← ej]; exact pb) fun b o hb hbS e => (Heap.get?_update_other _ _ (Ne.symm hbS)).trans (kp b o hb e)
  | succ k ih =>
    intro j s vb c hk hj st pb keep hS fin
    have lj : j + 1 < n := by omega
    refine codeAny_builtin F.entry_min_loop ?_
    rw [Around.under_plainId F.plain_min_loop _]
    show wpAny _ A.in1 (seqItems? (.ref S) >>= _) _ _ s
    refine wpAny_bind (wpAny_seqItems hS rfl ?_)
    show wpAny _ A.in1 (tryCatch (pyNext (.ref I)) _ >>= _) _ _ s
    refine wpAny_bind (wpAny_tryCatch (W.item (j + 1) s _ _ lj st fun v h' tk pv st' kp => ?_))
    have hS' := kp S _ nSw hS
    have keep' : ∀ b o, h0.get? b = some o → h'.get? b = some o := fun b o e => kp b o (hw b o e).1 (keep b o e)
    show wpAny _ A.in1 (tryCatch (holding [v, v] (richCompare .Lt v vb >>= _)) _ >>= _) _ _ _
    refine wpAny_bind (wpAny_tryCatch (wpAny_holding (wpAny_bind (lt (j + 1) (argBest bt j) v vb _ _ _ (Nat.lt_succ_of_le (argBest_le bt j)) keep' pv pb ?_))))
    refine wpAny_bind (wpAny_holding (wpAny_truthy_bool ?_))
    refine wpAny_bind (wpAny_letGo (wpAny_pure ?_))
    cases hb : bt (j + 1) (argBest bt j) with
    | true =>
      simp only [if_true]
      refine wpAny_bind ?_
      refine wpAny_updateSeq hS' rfl (wpAny_bind (wpAny_letGo ?_))
      rw [nm]
      refine wpAny_pure ⟨plainId_quiet F.plain_min_loop _, ih (j + 1) _ v _ (by omega) lj (W.frame _ _ _ st' fun b hbf o e => ?_) (by simp only [argBest, hb, if_true]; exact pv) (fun b o e => (Heap.get?_update_other _ _ (Ne.symm (hw b o e).2)).trans (keep' b o e)) (Heap.get?_update_self _ hS' rfl) fun v' h'' tk'' pv' kp'' => ?_⟩
      · exact (Heap.get?_update_other _ _ (fun h : S = b => hSf (by rw [h]; exact hbf))).trans e
      · exact fin v' h'' tk'' pv' fun b o hbw hbS e => kp'' b o hbw hbS ((Heap.get?_update_other _ _ (Ne.symm hbS)).trans (kp b o hbw e))
    | false =>
      simp only [Bool.false_eq_true, if_false]
      refine wpAny_bind (wpAny_letGo ?_)
      rw [nm]
      refine wpAny_pure ⟨plainId_quiet F.plain_min_loop _, ih (j + 1) _ vb c (by omega) lj st' (by simp only [argBest, hb, Bool.false_eq_true, if_false]; exact pb) keep' hS' fun v' h'' tk'' pv' kp'' => ?_⟩
      exact fin v' h'' tk'' pv' fun b o hbw hbS e => kp'' b o hbw hbS (kp b o hbw e)
theorem minfirst (W : Walks prog w A.in1 I fp wr n P St) (bt : Nat → Nat → Bool) (lt : LtIn prog w A.in1 h0 P bt) (S : Addr) (hSf : S ∉ fp) (hw : ∀ b o, h0.get? b = some o → b ∉ wr ∧ b ≠ S) (hn : 0 < n) {s : Shared} {c : Nat} (st : St 0 s.heap)
    (keep : ∀ b o, h0.get? b = some o → s.heap.get? b = some o) (hS : s.heap.get? S = some { cls := .type "list", dict := none, data := .seq #[] c, slots := #[] })
    (fin : ∀ v h' tk, P (argBest bt (n - 1)) v → (∀ b o, b ∉ wr → b ≠ S → s.heap.get? b = some o → h'.get? b = some o) → R (.ok (.ret v)) { s with heap := h', toks := tk }) :
    codeAny (model prog w) A (.builtin "min.loop" ⟨[.ref I, .none, .ref S], []⟩) R s := by
  have nSw : S ∉ wr := fun h => hSf (W.sub _ h)
  have nm : (toString "min" ++ toString ".loop" : String) = "min.loop" := by decide
  refine codeAny_builtin F.entry_min_loop ?_
  rw [Around.under_plainId F.plain_min_loop _]
  show wpAny _ A.in1 (seqItems? (.ref S) >>= _) _ _ s
  refine wpAny_bind (wpAny_seqItems hS rfl ?_)
  show wpAny _ A.in1 (tryCatch (pyNext (.ref I)) _ >>= _) _ _ s
  refine wpAny_bind (wpAny_tryCatch (W.item 0 s _ _ hn st fun v h' tk pv st' kp => ?_))
  have hS' := kp S _ nSw hS
  show wpAny _ A.in1 (updateSeq S (fun _ => #[v, v]) >>= _) _ _ _
  refine wpAny_bind ?_
  refine wpAny_updateSeq hS' rfl ?_
  rw [nm]
  refine wpAny_pure ⟨plainId_quiet F.plain_min_loop _, minloop W bt lt S hSf hw _ 0 _ v _ rfl hn (W.frame _ _ _ st' fun b hbf o e => ?_) pv (fun b o e => (Heap.get?_update_other _ _ (Ne.symm (hw b o e).2)).trans (kp b o (hw b o e).1 (keep b o e))) (Heap.get?_update_self _ hS' rfl) fun v' h'' tk'' pv' kp'' => ?_⟩
  · exact (Heap.get?_update_other _ _ (fun h : S = b => hSf (by rw [h]; exact hbf))).trans e
  · exact fin v' h'' tk'' pv' fun b o hbw hbS e => kp'' b o hbw hbS ((Heap.get?_update_other _ _ (Ne.symm hbS)).trans (kp b o hbw e))
end
section
variable {prog : Program} {w : World} {A : Around} {E : Value → Shared → Prop} {s : Shared}
/-- min(xs), a list -/
theorem min_listH {l : Addr} {its : Array Value} {bt : Nat → Nat → Bool} {Q : Value → Shared → Prop} (hh : A.handled = none) (hl : s.heap.IsList l its) (hn : 0 < its.size) (lt : LtIn prog w A.in1 s.heap (fun i v => its[i]? = some v) bt)
    (fin : ∀ v h' tk, its[argBest bt (its.size - 1)]? = some v → (∀ b o, s.heap.get? b = some o → h'.get? b = some o) → Q v { s with heap := h', toks := tk }) : wpAny (model prog w) A (call (.builtin "min") [.ref l]) Q E s := by
  have nm : (toString "min" ++ toString ".loop" : String) = "min.loop" := by decide
  refine call_function_tree F.kind_min F.plain_min F.entry_min (F.args_min1 _) ?_
  show wpAny _ A.in1 (Builtin.Builtins.bindParams "min" ["key", "default"] 0 ⟨[], []⟩ >>= _) _ _ s
  refine wpAny_bind (wpAny_of_eq (show Builtin.Builtins.bindParams "min" ["key", "default"] 0 ⟨[], []⟩ = pure [none, none] from rfl) ?_)
  refine wpAny_bind (wpAny_pure ?_)
  refine wpAny_bind (iter_any hl fun s₂ e st hlI => ?_)
  have hlt : l < s.heap.objs.size := by obtain ⟨_, e, _⟩ := hl; exact Heap.lt_size e
  have hsz : s₂.heap.objs.size = s.heap.objs.size + 1 := by rw [e]; exact Heap.size_push ..
  have kp0 : ∀ b o, s.heap.get? b = some o → s₂.heap.get? b = some o := fun b o q => by rw [e]; exact Heap.get?_push_of_some _ q
  refine wpAny_bind (wpAny_newObj_type ?_)
  have W := Walks.list (prog := prog) (w := w) (A := A.in1) hh s.heap.objs.size l hlI its
  have hSf : s₂.heap.objs.size ∉ [s.heap.objs.size, l] := fun hm => by
    have hm' : s₂.heap.objs.size = s.heap.objs.size ∨ s₂.heap.objs.size = l := by simpa using hm
    rw [hsz] at hm'
    rcases hm' with z | z
    · omega
    · exact Nat.lt_irrefl _ (Nat.lt_trans (Nat.lt_succ_self _) (Nat.lt_of_le_of_lt (Nat.le_of_eq z) hlt))
  rw [nm]
  have far : ∀ b o, s.heap.get? b = some o → b ∉ [s.heap.objs.size] ∧ b ≠ s₂.heap.objs.size := fun b o q => ⟨fun hm => by
      have e1 : b = s.heap.objs.size := by simpa using hm
      rw [e1] at q
      exact Nat.lt_irrefl _ (Heap.lt_size q), fun z => by
      have := Heap.lt_size q
      rw [z, hsz] at this
      exact Nat.lt_irrefl _ (Nat.lt_trans (Nat.lt_succ_self _) this)⟩
  refine wpAny_pure ⟨plainId_quiet F.plain_min_loop _, minfirst (h0 := s.heap) W bt lt _ hSf far hn (W.frame _ _ _ st fun b _ o e => Heap.get?_push_of_some _ e) (fun b o q => Heap.get?_push_of_some _ (kp0 b o q)) (Heap.get?_push_size _ rfl) fun v h' tk pv kp => ?_⟩
  have hq := fin v h' tk pv fun b o q => kp b o (far b o q).1 (far b o q).2 (Heap.get?_push_of_some _ (kp0 b o q))
  rw [e]
  exact hq
/-- min(a, b) -/
theorem min_twoH {a b : Value} {c : Bool} {Q : Value → Shared → Prop} (hh : A.handled = none) (lt : ∀ (s' : Shared) (Q : Value → Shared → Prop) (E : Value → Shared → Prop), (∀ b o, s.heap.get? b = some o → s'.heap.get? b = some o) → Q (.bool c) s' → wpAny (model prog w) A.in1 (richCompare .Lt b a) Q E s')
    (fin : ∀ h' tk, (∀ b o, s.heap.get? b = some o → h'.get? b = some o) → Q (if c then b else a) { s with heap := h', toks := tk }) : wpAny (model prog w) A (call (.builtin "min") [a, b]) Q E s := by
  have nm : (toString "min" ++ toString ".loop" : String) = "min.loop" := by decide
  refine call_function_tree F.kind_min F.plain_min F.entry_min (F.args_min2 _ _) ?_
  show wpAny _ A.in1 (Builtin.Builtins.bindParams "min" ["key", "default"] 0 ⟨[], []⟩ >>= _) _ _ s
  refine wpAny_bind (wpAny_of_eq (show Builtin.Builtins.bindParams "min" ["key", "default"] 0 ⟨[], []⟩ = pure [none, none] from rfl) ?_)
  show wpAny _ A.in1 (newTuple [a, b] >>= _) _ _ s
  refine wpAny_bind (wpAny_newObj_type ?_)
  have hT : (s.heap.push { cls := .type "tuple", data := .seq #[a, b] }).IsTuple s.heap.objs.size #[a, b] := ⟨_, Heap.get?_push_size _ rfl, rfl, 0, rfl⟩
  have hs1 : (s.heap.push { cls := .type "tuple", data := .seq #[a, b] }).objs.size = s.heap.objs.size + 1 := Heap.size_push ..
  refine wpAny_bind (wpAny_pyIter_tuple hT ?_)
  refine wpAny_bind (wpAny_newObj_type ?_)
  have hs2 : ((s.heap.push { cls := .type "tuple", data := .seq #[a, b] }).push { cls := .type "tuple_iterator", data := .fields #[.ref s.heap.objs.size, .int 0 0] }).objs.size = s.heap.objs.size + 1 + 1 := by rw [Heap.size_push, hs1]
  have W := Walks.tuple (prog := prog) (w := w) (A := A.in1) hh (s.heap.push { cls := .type "tuple", data := .seq #[a, b] }).objs.size s.heap.objs.size (by rw [hs1]; exact Nat.ne_of_lt (Nat.lt_succ_self _)) #[a, b]
  rw [nm]
  have kp0 : ∀ b' o, s.heap.get? b' = some o → ((s.heap.push { cls := .type "tuple", data := .seq #[a, b] }).push { cls := .type "tuple_iterator", data := .fields #[.ref s.heap.objs.size, .int 0 0] }).get? b' = some o := fun b' o q => Heap.get?_push_of_some _ (Heap.get?_push_of_some _ q)
  have far : ∀ b' o, s.heap.get? b' = some o → b' ∉ [(s.heap.push { cls := .type "tuple", data := .seq #[a, b] }).objs.size] ∧ b' ≠ ((s.heap.push { cls := .type "tuple", data := .seq #[a, b] }).push { cls := .type "tuple_iterator", data := .fields #[.ref s.heap.objs.size, .int 0 0] }).objs.size := fun b' o q => ⟨fun hm => by
      have e1 : b' = (s.heap.push { cls := .type "tuple", data := .seq #[a, b] }).objs.size := by simpa using hm
      have := Heap.lt_size q
      rw [e1, hs1] at this
      exact Nat.lt_irrefl _ (Nat.lt_trans (Nat.lt_succ_self _) this), fun z => by
      have := Heap.lt_size q
      rw [z, hs2] at this
      exact Nat.lt_irrefl _ (Nat.lt_trans (Nat.lt_succ_self _) (Nat.lt_trans (Nat.lt_succ_self _) this))⟩
  have LT : LtIn prog w A.in1 s.heap (fun i v => #[a, b][i]? = some v) (fun _ _ => c) := fun i j vi vj s' Q E hij kp hi hj hq => by
    have h2 : i < 2 := (Array.getElem?_eq_some_iff.mp hi).1
    have e1 : i = 1 := by omega
    have e2 : j = 0 := by omega
    subst e1 e2
    cases hi
    cases hj
    exact lt s' Q E kp hq
  have hSf : ((s.heap.push { cls := .type "tuple", data := .seq #[a, b] }).push { cls := .type "tuple_iterator", data := .fields #[.ref s.heap.objs.size, .int 0 0] }).objs.size ∉ [(s.heap.push { cls := .type "tuple", data := .seq #[a, b] }).objs.size, s.heap.objs.size] := fun hm => by
    have hm' : ((s.heap.push { cls := .type "tuple", data := .seq #[a, b] }).push { cls := .type "tuple_iterator", data := .fields #[.ref s.heap.objs.size, .int 0 0] }).objs.size = (s.heap.push { cls := .type "tuple", data := .seq #[a, b] }).objs.size ∨ ((s.heap.push { cls := .type "tuple", data := .seq #[a, b] }).push { cls := .type "tuple_iterator", data := .fields #[.ref s.heap.objs.size, .int 0 0] }).objs.size = s.heap.objs.size := by simpa using hm
    rw [hs2, hs1] at hm'
    omega
  have st0 : ((s.heap.push { cls := .type "tuple", data := .seq #[a, b] }).push { cls := .type "tuple_iterator", data := .fields #[.ref s.heap.objs.size, .int 0 0] }).IsTupleIter (s.heap.push { cls := .type "tuple", data := .seq #[a, b] }).objs.size s.heap.objs.size 0 ∧ ((s.heap.push { cls := .type "tuple", data := .seq #[a, b] }).push { cls := .type "tuple_iterator", data := .fields #[.ref s.heap.objs.size, .int 0 0] }).IsTuple s.heap.objs.size #[a, b] := ⟨⟨_, Heap.get?_push_size _ rfl, rfl, rfl⟩, hT.push _⟩
  refine wpAny_pure ⟨plainId_quiet F.plain_min_loop _, minfirst (h0 := s.heap) W _ LT _ hSf far (show 0 < 2 by decide) (W.frame 0 _ _ st0 fun b _ o e => Heap.get?_push_of_some _ e) (fun b o q => Heap.get?_push_of_some _ (kp0 b o q)) (Heap.get?_push_size _ rfl) fun v h' tk pv kp => ?_⟩
  · have hq := fin h' tk fun b' o q => kp b' o (far b' o q).1 (far b' o q).2 (Heap.get?_push_of_some _ (kp0 b' o q))
    have ev : v = if c then b else a := by
      cases c with
      | true =>
        have pv' : #[a, b][1]? = some v := pv
        cases pv'
        rfl
      | false =>
        have pv' : #[a, b][0]? = some v := pv
        cases pv'
        rfl
    rw [ev]
    exact hq
end
end DL
set_option Elab.async false
set_option linter.all false
set_option maxRecDepth 100000
set_option maxHeartbeats 4000000
/-! DL: min of data, as a rule. -/
namespace DL
open PySem PySem.Spec PyProof.Rows L2

/-- two data that may be compared -/
def CmpOk (d e : PyData) : Prop := PySem.W.alike d e = true ∧ d ≠ .none ∧ d.depth ≤ 60
def rMinDat (K : Fg) : List V → Hp → VK → Prop := fun vs H Q =>
  (∃ (p : Addr) (xs : List V) (ds : List PyData), vs = [.ref p] ∧ SqL K H p xs ∧ DpAll K H xs ds ∧ (∀ x ∈ ds, ∀ y ∈ ds, CmpOk x y) ∧ 0 < ds.length ∧ ∀ v, xs[argBest (fun i j => PySem.W.dataLt (ds.getD i .none) (ds.getD j .none)) (ds.length - 1)]? = some v → Q v H) ∨
  ∃ (x y : V) (d e : PyData), vs = [x, y] ∧ Dp K H x d ∧ Dp K H y e ∧ CmpOk e d ∧ Q (if PySem.W.dataLt e d then y else x) H
section
variable {X : Cx}
theorem dpAll_len {K : Fg} {H : Hp} : ∀ {xs : List V} {ds : List PyData}, DpAll K H xs ds → xs.length = ds.length
  | _, _, .nil => rfl
  | _, _, .cons _ t => by rw [List.length_cons, List.length_cons, dpAll_len t]
theorem reads_get {h : Heap} : ∀ {us : List Value} {ds : List PyData} {as : List Addr} {i : Nat} {u : Value}, ReadsAll h us ds as → us[i]? = some u → ∃ d as', ds[i]? = some d ∧ Reads h u d as'
  | _, _, _, i, _, .nil, e => by simp at e
  | _, _, _, 0, _, .cons r _, e => by simp at e; subst e; exact ⟨_, _, rfl, r⟩
  | _, _, _, i + 1, u, .cons _ t, e => by
    obtain ⟨d, as', h1, h2⟩ := reads_get (i := i) (u := u) t (by simpa using e)
    exact ⟨d, as', by simpa using h1, h2⟩
theorem units_in1 (A : Around) : A.in1.units = A.units + 1 := rfl
theorem cr_minDat (hc : X.calm = true) (hu : X.A.units + 64 < cLine) : CallR X (.builtin "min") (rMinDat X.K) := by
  intro pins s σ H xs us Q I r h
  have hh := I.ok.hd hc
  rcases h with ⟨p, ys, ds, rfl, hs, hd, hcmp, hn, q⟩ | ⟨x, y, d, e, rfl, hx, hy, hcmp, q⟩
  · obtain ⟨its, rv, hl, _⟩ := I.list hs
    rw [Vals.ref1 r]
    obtain ⟨as, hr⟩ := Dp.readsAll I ds ys its hd rv
    have hlen : its.length = ds.length := rv.length.symm.trans (dpAll_len hd)
    refine min_listH (bt := fun i j => PySem.W.dataLt (ds.getD i .none) (ds.getD j .none)) hh hl.isList (by simpa [hlen] using hn) ?_ ?_
    · intro i j vi vj s' Q' E' hij kp hi hj hq
      obtain ⟨di, ai, e1, r1⟩ := reads_get hr (by simpa using hi)
      obtain ⟨dj, aj, e2, r2⟩ := reads_get hr (by simpa using hj)
      have c := hcmp di (List.mem_of_getElem? e1) dj (List.mem_of_getElem? e2)
      have e1' : ds.getD i .none = di := by rw [List.getD_eq_getElem?_getD, e1]; rfl
      have e2' : ds.getD j .none = dj := by rw [List.getD_eq_getElem?_getD, e2]; rfl
      refine PySem.W.rcLt_alike di dj X.A.in1 s' vi vj ai aj (Reads.keeps kp r1) (Reads.keeps kp r2) c.1 c.2.1 ?_ _ _ _ _ (by rw [← e1', ← e2']; exact hq)
      rw [units_in1]
      have h1 : min di.depth dj.depth ≤ di.depth := Nat.min_le_left _ _
      have h2 := c.2.2
      omega
    · intro v h' tk hv kp
      have hv' : its[argBest (fun i j => PySem.W.dataLt (ds.getD i .none) (ds.getD j .none)) (ds.length - 1)]? = some v := by
        rw [← hlen]
        simpa using hv
      cases ey : ys[argBest (fun i j => PySem.W.dataLt (ds.getD i .none) (ds.getD j .none)) (ds.length - 1)]? with
      | none => rw [rv.none_of ey] at hv'; cases hv'
      | some z =>
        obtain ⟨u, eu, ru⟩ := rv.get ey
        rw [eu] at hv'
        cases hv'
        exact ⟨z, H, I.kept (t' := tk) kp, ru, q z ey⟩
  · obtain ⟨u, w', rfl, ru, rw'⟩ := vals2 r
    obtain ⟨au, r1⟩ := Dp.reads I d x u hx ru
    obtain ⟨aw, r2⟩ := Dp.reads I e y w' hy rw'
    refine min_twoH (c := PySem.W.dataLt e d) hh (fun s' Q' E' kp hq => ?_) fun h' tk kp => ?_
    · refine PySem.W.rcLt_alike e d X.A.in1 s' w' u aw au (Reads.keeps kp r2) (Reads.keeps kp r1) hcmp.1 hcmp.2.1 ?_ _ _ _ _ hq
      rw [units_in1]
      have h1 : min e.depth d.depth ≤ e.depth := Nat.min_le_left _ _
      have h2 := hcmp.2.2
      omega
    · cases hb : PySem.W.dataLt e d with
      | true =>
        rw [hb] at q
        exact ⟨y, H, I.kept (t' := tk) kp, rw', q⟩
      | false =>
        rw [hb] at q
        exact ⟨x, H, I.kept (t' := tk) kp, ru, q⟩
end
def fMinDat : FA := fun rs S C => match rs with
  | [.dat (.list ds)] => (∀ x ∈ ds, ∀ y ∈ ds, CmpOk x y) ∧ ds ≠ [] ∧ ∀ d, ds[argBest (fun i j => PySem.W.dataLt (ds.getD i .none) (ds.getD j .none)) (ds.length - 1)]? = some d → C (.dat d) S
  | [.dat d, .dat e] => CmpOk e d ∧ C (.dat (if PySem.W.dataLt e d then e else d)) S
  | _ => False
theorem cd_minDat {K : Fg} : CallD K (rMinDat K) fMinDat := by
  intro F vs rs H S L C Q o lv hf q
  unfold fMinDat at hf
  split at hf
  · cases lv with | cons m t =>
    cases t
    obtain ⟨hc, hne, h⟩ := hf
    have hr := o.dat m
    cases hr with | lst h1 n1 q1 =>
    refine .inl ⟨_, _, _, rfl, SqL.of h1, q1.dp, hc, List.length_pos_iff.mpr hne, fun v hv => ?_⟩
    obtain ⟨d, hd, rd⟩ := q1.get hv
    exact q v _ S H (o.pd rd) (h d hd)
  · rename_i d e
    cases lv with | cons m t => cases t with | cons m2 t =>
    cases t
    refine .inr ⟨_, _, d, e, rfl, (o.dat m).dp, (o.dat m2).dp, hf.1, ?_⟩
    cases hb : PySem.W.dataLt e d with
    | true =>
      have h2 := hf.2
      rw [hb] at h2
      exact q _ _ S H (o.pd (o.dat m2)) h2
    | false =>
      have h2 := hf.2
      rw [hb] at h2
      exact q _ _ S H (o.pd (o.dat m)) h2
  · exact hf.elim
section
variable {X : Cx} {a b c e : Expr} {da db dc de : DE} {dA : DA} {pos p : Pos} {es : List Expr}
theorem d_minD1U (hu : X.A.units + 64 < cLine) (hg : Gl X "min") (hm : X.mg "min" = none) (ha : PDA X [e] dA) (hc : X.calm = true := by rfl) (he : starEach [e] X.env = [(false, eval e X.env)] := by rfl) : PD X (.Call (.Name "min" p) [e] [] pos) (dCB fMinDat dA) := d_callB (cr_minDat hc hu) cd_minDat hg hm (by decide +kernel) ha (by decide) (by decide) he (by rfl)
theorem d_minD2U (hu : X.A.units + 64 < cLine) (hg : Gl X "min") (hm : X.mg "min" = none) (ha : PDA X [a, b] dA) (hc : X.calm = true := by rfl) (he : starEach [a, b] X.env = (false, eval a X.env) :: starEach [b] X.env := by rfl) (hpl : (backTo pos (starEach [b] X.env)).any (·.1) = false := by rfl) : PD X (.Call (.Name "min" p) [a, b] [] pos) (dCB fMinDat dA) := d_callB (cr_minDat hc hu) cd_minDat hg hm (by decide +kernel) ha (by decide) (by decide) he hpl
end
/-! ### (a number, a list of numbers): the order -/
abbrev CM := Int × List Int
def CM.dat (x : CM) : PyData := .tuple [.int x.1, .list (x.2.map PyData.int)]
/-- lists of ints, the first that differs, the shorter one first -/
def lexI : List Int → List Int → Bool
  | [], [] => false
  | [], _ :: _ => true
  | _ :: _, [] => false
  | x :: xs, y :: ys => if x = y then lexI xs ys else decide (x < y)
def ltCM (x y : CM) : Bool := if x.1 = y.1 then lexI x.2 y.2 else decide (x.1 < y.1)
theorem lex_end (l m : List (Int ⊕ List Nat)) : PyProof.Rows.lexLt PyProof.Rows.itemOrd (.inl 0 :: l) (.inl 1 :: m) = true := by
  rw [PySem.W.lex_atom (by decide), PySem.W.lex_one]; rfl
theorem lex_end2 (l m : List (Int ⊕ List Nat)) : PyProof.Rows.lexLt PyProof.Rows.itemOrd (.inl 1 :: l) (.inl 0 :: m) = false := by
  rw [PySem.W.lex_atom (by decide), PySem.W.lex_one]; rfl
theorem lex_same (l : List (Int ⊕ List Nat)) : PyProof.Rows.lexLt PyProof.Rows.itemOrd l l = false := by
  have h := PySem.W.lex_pre l [] []
  rw [List.append_nil] at h
  rw [h]; rfl
theorem eqv_int (x y : Int) : PyData.eqv (.int x) (.int y) = (x == y) := by rw [PyData.eqv]
theorem lexI_toks : ∀ xs ys : List Int, PyProof.Rows.lexLt PyProof.Rows.itemOrd (PySem.W.keyToksAll (xs.map PyData.int)) (PySem.W.keyToksAll (ys.map PyData.int)) = lexI xs ys
  | [], [] => lex_same _
  | [], y :: ys => by
    rw [List.map_nil, List.map_cons, PySem.W.toks_all_cons]
    show PyProof.Rows.lexLt PyProof.Rows.itemOrd (PySem.W.keyToksAll []) _ = true
    rw [PySem.W.keyToksAll]
    exact lex_end _ _
  | x :: xs, [] => by
    rw [List.map_nil, List.map_cons, PySem.W.toks_all_cons]
    show PyProof.Rows.lexLt PyProof.Rows.itemOrd _ (PySem.W.keyToksAll []) = false
    rw [PySem.W.keyToksAll]
    exact lex_end2 _ _
  | x :: xs, y :: ys => by
    have ha : PySem.W.alike (.int x) (.int y) = true := by rw [PySem.W.alike]
    rw [List.map_cons, List.map_cons]
    unfold lexI
    by_cases h : x = y
    · rw [if_pos h, PySem.W.dataLt_all_yes ha (by rw [eqv_int, h]; simp), lexI_toks xs ys]
    · rw [if_neg h, PySem.W.dataLt_all_no ha (by rw [eqv_int]; simpa using h), PySem.W.dataLt_int]
theorem eqvAll_ints : ∀ xs ys : List Int, PyData.eqvAll (xs.map PyData.int) (ys.map PyData.int) = decide (xs = ys)
  | [], [] => by rw [List.map_nil, PyData.eqvAll]; rfl
  | [], y :: ys => by rw [List.map_nil, List.map_cons, PyData.eqvAll]; rfl
  | x :: xs, [] => by rw [List.map_nil, List.map_cons, PyData.eqvAll]; rfl
  | x :: xs, y :: ys => by
    rw [List.map_cons, List.map_cons, PyData.eqvAll, eqv_int, eqvAll_ints xs ys]
    by_cases h : x = y <;> by_cases h2 : xs = ys <;> simp [h, h2]
theorem alikeAll_ints : ∀ xs ys : List Int, PySem.W.alikeAll (xs.map PyData.int) (ys.map PyData.int) = true
  | [], _ => by rw [List.map_nil, PySem.W.alikeAll]
  | x :: xs, [] => by rw [List.map_nil, List.map_cons, PySem.W.alikeAll]
  | x :: xs, y :: ys => by rw [List.map_cons, List.map_cons, PySem.W.alikeAll, PySem.W.alike, alikeAll_ints xs ys]; rfl
theorem lexI_irrefl : ∀ xs : List Int, lexI xs xs = false
  | [] => rfl
  | x :: xs => by unfold lexI; rw [if_pos rfl]; exact lexI_irrefl xs
theorem dataLt_CM (x y : CM) : PySem.W.dataLt x.dat y.dat = ltCM x y := by
  have ha : PySem.W.alike (.int x.1) (.int y.1) = true := by rw [PySem.W.alike]
  unfold CM.dat ltCM
  rw [PySem.W.dataLt_tuple]
  by_cases h : x.1 = y.1
  · rw [if_pos h, PySem.W.dataLt_all_yes ha (by rw [eqv_int, h]; simp)]
    have hb : PySem.W.alike (.list (x.2.map PyData.int)) (.list (y.2.map PyData.int)) = true := by rw [PySem.W.alike]; exact alikeAll_ints _ _
    by_cases h2 : x.2 = y.2
    · rw [PySem.W.dataLt_all_yes hb (by rw [PyData.eqv, eqvAll_ints, h2]; simp), h2, lexI_irrefl]
      exact lex_same _
    · rw [PySem.W.dataLt_all_no hb (by rw [PyData.eqv, eqvAll_ints]; simpa using h2), PySem.W.dataLt_list, lexI_toks]
  · rw [if_neg h, PySem.W.dataLt_all_no ha (by rw [eqv_int]; simpa using h), PySem.W.dataLt_int]
theorem depth_ints : ∀ xs : List Int, PyData.depthAll (xs.map PyData.int) ≤ 1
  | [] => by rw [List.map_nil, PyData.depthAll]; decide
  | x :: xs => by
    rw [List.map_cons, PyData.depthAll, PyData.depth]
    have := depth_ints xs
    omega
theorem cmp_CM (x y : CM) : CmpOk x.dat y.dat := by
  refine ⟨?_, (fun h => nomatch h), ?_⟩
  · unfold CM.dat
    rw [PySem.W.alike, PySem.W.alikeAll, PySem.W.alike, PySem.W.alikeAll, PySem.W.alike, alikeAll_ints, PySem.W.alikeAll]; rfl
  · unfold CM.dat
    have := depth_ints x.2
    simp only [PyData.depth, PyData.depthAll]
    omega
end DL
set_option Elab.async false
set_option linter.all false
set_option maxRecDepth 100000
set_option maxHeartbeats 4000000
/-! DL: what a live value stands for, its cells read through; ends that let cells go. -/
namespace DL
open PySem PySem.Spec PyProof.Rows L2

mutual
inductive View (S : SH) : R → PyData → Prop
  | dat (d : PyData) : View S (.dat d) d
  | cel {p : Addr} {j : Nat} {xs : List R} {ds : List PyData} : S[j]? = some (.lst p xs) → Views S xs ds → View S (.val (.ref p)) (.list ds)
  | tp {rs : List R} {ds : List PyData} : Views S rs ds → View S (.tp rs) (.tuple ds)
inductive Views (S : SH) : List R → List PyData → Prop
  | nil : Views S [] []
  | cons {r : R} {rs : List R} {d : PyData} {ds : List PyData} : View S r d → Views S rs ds → Views S (r :: rs) (d :: ds)
end
theorem Views.of_dats {S : SH} : ∀ ds : List PyData, Views S (ds.map R.dat) ds
  | [] => .nil
  | d :: ds => .cons (.dat d) (Views.of_dats ds)
theorem Views.length {S : SH} : ∀ {rs : List R} {ds : List PyData}, Views S rs ds → rs.length = ds.length
  | _, _, .nil => rfl
  | _, _, .cons _ t => by rw [List.length_cons, List.length_cons, Views.length t]
theorem Views.get' {S : SH} : ∀ {rs : List R} {ds : List PyData} {i : Nat} {d : PyData}, Views S rs ds → ds[i]? = some d → ∃ r, rs[i]? = some r ∧ View S r d
  | _, _, _, _, .nil, e => by simp at e
  | _, _, 0, _, .cons r _, e => by simp at e; subst e; exact ⟨_, rfl, r⟩
  | _, _, i + 1, d, .cons _ t, e => by
    obtain ⟨u, h1, h2⟩ := Views.get' (i := i) (d := d) t (by simpa using e)
    exact ⟨u, by simpa using h1, h2⟩
section
variable {K : Fg} {F : SH} {H : Hp} {S : SH} {L : Live}
mutual
theorem View.dp (o : OkF K F H S L) : ∀ {r : R} {d : PyData} {v : V}, View S r d → RepR K (Av (S ++ F)) H v r → Dp K H v d
  | _, _, _, .dat d, h => Rep.dp h
  | _, _, v, .cel (p := p) hj q, h => by
    cases (show v = V.ref p from h)
    obtain ⟨vs, e, qs⟩ := o.cells _ (at_split (in_app hj))
    exact .lst (SqL.of e) (Views.dp o q qs)
  | _, _, v, .tp (rs := rs) q, h => by
    obtain ⟨a, vs, rfl, e, qs⟩ := (show ∃ a vs, v = .ref a ∧ (H a = some (.tup vs) ∨ KTup K a vs) ∧ RepRl K _ H vs rs from h)
    exact .tup (sqT_of (A := Av S) e) (Views.dp o q qs.pair)
theorem Views.dp (o : OkF K F H S L) : ∀ {rs : List R} {ds : List PyData} {vs : List V}, Views S rs ds → RepRs K (Av (S ++ F)) H vs rs → DpAll K H vs ds
  | _, _, _, .nil, .nil => .nil
  | _, _, _, .cons v t, .cons r s => .cons (View.dp o v r) (Views.dp o t s)
end
/-- min of two, read through -/
def fMinV : FA := fun rs S C => match rs with
  | [a, b] => ∃ d e, View S a d ∧ View S b e ∧ CmpOk e d ∧ C (if PySem.W.dataLt e d then b else a) S
  | _ => False
theorem cd_minV : CallD K (rMinDat K) fMinV := by
  intro F vs rs H S L C Q o lv hf q
  unfold fMinV at hf
  split at hf
  · rename_i a b
    cases lv with | cons m t => cases t with | cons m2 t =>
    cases t
    obtain ⟨d, e, hd, he, hc, h⟩ := hf
    refine .inr ⟨_, _, d, e, rfl, hd.dp o (o.live _ m), he.dp o (o.live _ m2), hc, ?_⟩
    cases hb : PySem.W.dataLt e d with
    | true =>
      rw [hb] at h
      exact q _ _ S H (o.push (o.live _ m2)) h
    | false =>
      rw [hb] at h
      exact q _ _ S H (o.push (o.live _ m)) h
  · exact hf.elim
/-- a list, its items -/
def lstR (S : SH) : R → List R → Prop
  | .dat (.list ds), xs => xs = ds.map R.dat
  | .val (.ref p), xs => ∃ j : Nat, S[j]? = some (.lst p xs)
  | _, _ => False
theorem lstR_at (o : OkF K F H S L) {v : V} {r : R} {xs : List R} (h : RepR K (Av (S ++ F)) H v r) (l : lstR S r xs) : ∃ p vs, v = .ref p ∧ H p = some (.lst vs) ∧ RepRs K (Av (S ++ F)) H vs xs := by
  cases r with
  | dat d =>
    cases d with
    | list ds =>
      cases (show xs = ds.map R.dat from l)
      have h : Rep K _ H v (.list ds) := h
      cases h with | lst e n q => exact ⟨_, _, rfl, e, all_reps q⟩
    | _ => exact l.elim
  | val w =>
    cases w with
    | ref p =>
      obtain ⟨j, hj⟩ := l
      cases (show v = V.ref p from h)
      obtain ⟨vs, e, q⟩ := o.cells _ (at_split (in_app hj))
      exact ⟨_, _, rfl, e, q⟩
    | _ => exact l.elim
  | scr ns => exact l.elim
  | tp rs => exact l.elim
  | obj C ks rs => exact l.elim
  | dic ks rs => exact l.elim
/-- xs + ys, a new cell -/
def fAddC : F2 := fun a b S C => ∃ xs ys, lstR S a xs ∧ lstR S b ys ∧ xs.length + ys.length ≤ 100000 ∧ ∀ p, C (.val (.ref p)) (.lst p (xs ++ ys) :: S)
theorem opd_addC : OpD K (rAddAll K) fAddC := by
  intro F x y a b H S L C Q o hx hy hf q
  obtain ⟨xs, ys, l1, l2, hl, h⟩ := hf
  obtain ⟨p1, v1, rfl, e1, q1⟩ := lstR_at o (o.live _ hx) l1
  obtain ⟨p2, v2, rfl, e2, q2⟩ := lstR_at o (o.live _ hy) l2
  exact .inr (.inr (.inl ⟨_, _, _, _, rfl, rfl, e1, e2, by rw [paired_len q1, paired_len q2]; exact big_of hl, fun p hp => q _ _ (_ :: S) _ (Ok.push (r := .val (.ref p)) (o.lstC hp (paired_app q1 q2)) rfl) (h p)⟩))
end
/-- an end that lets cells go -/
def Wk (C : CR0) : CR0 := fun r S => ∃ S1 S', S.Perm S1 ∧ S'.Sublist S1 ∧ C r S'
theorem wk {C : CR0} {r : R} {S : SH} (h : C r S) : Wk C r S := ⟨S, S, List.Perm.refl _, List.Sublist.refl _, h⟩
theorem wk_tail {C : CR0} {r : R} {S : SH} (T : SH) (h : C r S) : Wk C r (T ++ S) := ⟨T ++ S, S, List.Perm.refl _, List.sublist_append_right T S, h⟩
theorem wk_one {C : CR0} {r : R} {S : SH} {c : Cell} (T U : SH) (h : C r (c :: S)) : Wk C r (T ++ c :: (U ++ S)) := ⟨T ++ c :: (U ++ S), c :: S, List.Perm.refl _, (List.Sublist.cons₂ c (List.sublist_append_right U S)).trans (List.sublist_append_right T _), h⟩
section
variable {P : Program} {w : World} {K : Fg} {mg : Str → Option Value} {base : Heap}
theorem Ok.wk {C : CR0} {H : Hp} {F S : SH} {L : Live} {r : R} (o : OkF K F H S L) (h : Wk C r S) : ∃ S', OkF K F H S' L ∧ C r S' := by
  obtain ⟨S1, S', hp, hs, h⟩ := h
  exact ⟨S', (o.perm (hp.append_right F)).less (hs.append (List.Sublist.refl F)), h⟩
theorem okFw {x : Str} {st : Stmt} {N ps : List Str} {k n : Nat} {sp : SpD} (Fn : FunAt K mg x st ps) (Sc : FnScope N ps (defScope st)) (hn : ps.length = n)
    (hbody : ∀ (cdv : Value) (A : Around) (outer : List Env) (s : Shared) (H : Hp) (E : XK) (f : Addr), Room k (A.deeper (envOfC x (defScope st) s.heap.objs.size f cdv)) →
      ∃ ds, PDSs (cxOf CX0 P w K mg base N x (defScope st) f cdv A outer s H E).nox (defBody st) ds ∧ ∀ rs S C, rs.length = n → sp rs S C → ds { nx := fun _ S => Wk C (.dat .none) S, rt := Wk C } (startF N rs) S) : Def P w K mg base x (k + 1) n sp := by
  have h := okF (P := P) (w := w) (base := base) (sp := fun rs S C => ∃ C', sp rs S C' ∧ ∀ r S, Wk C' r S → C r S) Fn Sc hn fun cdv A outer s H E f hr => by
    obtain ⟨ds, hp, hd⟩ := hbody cdv A outer s H E f hr
    obtain ⟨ts, pt, l⟩ := hp.ex
    refine ⟨fun D fr S => ∃ C', (∀ r S, Wk C' r S → D.rt r S) ∧ (∀ fr S, Wk C' (.dat .none) S → D.nx fr S) ∧ ds { nx := fun _ S => Wk C' (.dat .none) S, rt := Wk C' } fr S, ⟨ts, pt, fun F H σ fr S L f o D D' e ⟨C', h1, h2, h3⟩ => ?_⟩, fun rs S C hl ⟨C', hs, hw⟩ => ⟨C', hw, fun _ S q => hw _ S q, hd rs S C' hl hs⟩⟩
    exact l F H σ fr S L f o D { nx := fun _ S => Wk C' (.dat .none) S, rt := Wk C' } ⟨fun σ' fr' S' H' L' f' o' s' q => e.nx σ' fr' S' H' L' f' o' s' (h2 fr' S' q), fun v r S' H' o' q => e.rt v r S' H' o' (h1 r S' q), fun _ _ _ _ _ _ _ _ q => q.elim, fun _ _ _ _ _ _ _ _ q => q.elim⟩ h3
  obtain ⟨f, fd, ps', a, b⟩ := h.ex
  refine ⟨f, fd, ps', a.imp fun vs H Q E h => ?_, b⟩
  obtain ⟨hl, F, S, L, rs, C, o, lv, hs, fin⟩ := h
  refine ⟨hl, F, S, L, rs, Wk C, o, lv, ⟨C, hs, fun _ _ q => q⟩, fun v r S' H' o' q => ?_⟩
  obtain ⟨S2, o2, q2⟩ := o'.wk q
  exact fin v r S2 H' o2 q2
end
section
variable {X : Cx} {a b c e : Expr} {da db dc de : DE} {dA : DA} {pos p : Pos} {es : List Expr}
theorem d_minVU (hu : X.A.units + 64 < cLine) (hg : Gl X "min") (hm : X.mg "min" = none) (ha : PDA X [a, b] dA) (hc : X.calm = true := by rfl) (he : starEach [a, b] X.env = (false, eval a X.env) :: starEach [b] X.env := by rfl) (hpl : (backTo pos (starEach [b] X.env)).any (·.1) = false := by rfl) : PD X (.Call (.Name "min" p) [a, b] [] pos) (dCB fMinV dA) := d_callB (cr_minDat hc hu) cd_minV hg hm (by decide +kernel) ha (by decide) (by decide) he hpl
theorem d_addC (ha : PD X a da) (hb : PD X b db) : PD X (.BinOp a .Add b pos) (dOp fAddC da db) := d_opG op_addAll opd_addC ha hb
end
end DL
set_option Elab.async false
set_option linter.all false
set_option maxRecDepth 100000
set_option maxHeartbeats 4000000
/-! DL: instances of own classes: fields, methods, making; further list methods; weakenings in a body. -/
namespace DL
open PySem PySem.Spec PyProof.Rows L2

/-- what is known of a class: its instances' fields, in order -/
structure Klass (K : Fg) (C : Addr) (ks : List Str) : Prop where
  cl : Cls K C
  nf : ∀ f ∈ ks, NoAttr K C f
  nd : ks.Nodup
  few : ks.length < 1000
def putAt {α : Type} : Nat → α → List α → List α
  | _, x, [] => [x]
  | 0, x, _ :: t => x :: t
  | n + 1, x, y :: t => y :: putAt n x t
section
variable {α : Type}
theorem lookup_zip {f : Str} : ∀ {ks : List Str} {vs : List α} {i : Nat} {v : α}, ks.Nodup → ks[i]? = some f → vs[i]? = some v → (ks.zip vs).lookup f = some v
  | [], _, _, _, _, h, _ => by simp at h
  | k :: ks, [], _, _, _, _, h => by simp at h
  | k :: ks, w :: vs, 0, v, _, h1, h2 => by
    simp at h1 h2
    subst h1 h2
    rw [List.zip_cons_cons, List.lookup_cons, beq_self_eq_true]
  | k :: ks, w :: vs, i + 1, v, nd, h1, h2 => by
    rw [List.nodup_cons] at nd
    have h1' : ks[i]? = some f := by simpa using h1
    have hne : f ≠ k := fun e => nd.1 (by rw [← e]; exact List.mem_of_getElem? h1')
    rw [List.zip_cons_cons, List.lookup_cons]
    have : (f == k) = false := by simpa using hne
    rw [this]
    exact lookup_zip nd.2 h1' (by simpa using h2)
theorem lookup_zip_none {f : Str} : ∀ {ks : List Str} {vs : List α}, f ∉ ks → (ks.zip vs).lookup f = none
  | [], _, _ => rfl
  | k :: ks, [], _ => rfl
  | k :: ks, w :: vs, h => by
    rw [List.zip_cons_cons, List.lookup_cons]
    have : (f == k) = false := by simpa using fun e => h (by rw [e]; exact List.mem_cons_self)
    rw [this]
    exact lookup_zip_none fun z => h (List.mem_cons_of_mem _ z)
theorem putF_zip {f : Str} {v : V} : ∀ {ks : List Str} {vs : List V} {i : Nat}, ks.Nodup → ks[i]? = some f → i ≤ vs.length → vs.length ≤ ks.length → putF f v (ks.zip vs) = ks.zip (putAt i v vs)
  | [], _, _, _, h, _, _ => by simp at h
  | k :: ks, [], i, _, h1, h2, _ => by
    have : i = 0 := by simpa using h2
    subst this
    simp at h1
    subst h1
    simp [putF, putAt]
  | k :: ks, w :: vs, 0, _, h1, _, _ => by
    simp at h1
    subst h1
    simp [putF, putAt]
  | k :: ks, w :: vs, i + 1, nd, h1, h2, h3 => by
    rw [List.nodup_cons] at nd
    have h1' : ks[i]? = some f := by simpa using h1
    have hne : k ≠ f := fun e => nd.1 (by rw [e]; exact List.mem_of_getElem? h1')
    have ih := putF_zip (v := v) (i := i) (ks := ks) (vs := vs) nd.2 h1' (by simpa using h2) (by simpa using h3)
    rw [List.zip_cons_cons, putF, if_neg hne, ih]
    rfl
end
theorem paired_put {α β : Type} {P : α → β → Prop} {x : α} {y : β} (r : P x y) : ∀ {xs : List α} {us : List β} (i : Nat), Paired P xs us → Paired P (putAt i x xs) (putAt i y us)
  | _, _, 0, .nil => .cons r .nil
  | _, _, _ + 1, .nil => .cons r .nil
  | _, _, 0, .cons _ t => .cons r t
  | _, _, i + 1, .cons h t => .cons h (paired_put r i t)
theorem putAt_len {α : Type} {x : α} : ∀ {i n : Nat} {xs : List α}, i < n → xs.length ≤ n → i ≤ xs.length → (putAt i x xs).length ≤ n
  | 0, n, [], h, _, _ => h
  | _ + 1, n, [], _, _, h3 => absurd h3 (Nat.not_succ_le_zero _)
  | 0, n, _ :: t, _, h2, _ => h2
  | i + 1, n, y :: t, h, h2, h3 => by
    obtain ⟨m, rfl⟩ : ∃ m, n = m + 1 := ⟨n - 1, by omega⟩
    have := putAt_len (x := x) (i := i) (n := m) (xs := t) (by omega) (by simpa using h2) (by simpa using h3)
    show (putAt i x t).length + 1 ≤ m + 1
    omega
section
variable {K : Fg}
/-! ### e.f -/
def dFld (C : Addr) (ks : List Str) (i : Nat) (da : DE) : DE := fun fr S Q => da fr S fun a S1 => match a with
  | .val (.ref p) => ∃ (j : Nat) (rs : List R) (r : R), S1[j]? = some (.ins p C ks rs) ∧ rs[i]? = some r ∧ Q r S1
  | .obj C' ks' rs => C' = C ∧ ks' = ks ∧ ∃ r, rs[i]? = some r ∧ Q r S1
  | _ => False
theorem lift_fld {C : Addr} {ks : List Str} {i : Nat} {f : Str} {ta : TE} {da : DE} (T : Klass K C ks) (hi : ks[i]? = some f) (la : Lift K ta da) : Lift K (tFld K ta f) (dFld C ks i da) := by
  intro F H σ fr S L fo o C' Q hd q
  refine la F H σ fr S L fo o _ _ hd fun x a S1 H1 o1 h1 => ?_
  have hx := o1.live _ List.mem_cons_self
  have nf : NoAttr K C f := T.nf f (List.mem_of_getElem? hi)
  split at h1
  · rename_i p
    cases (show x = V.ref p from hx)
    obtain ⟨j, rs, r, hj, hr, h⟩ := h1
    obtain ⟨dx, vs, e1, _, q1⟩ := o1.cells _ (at_split (in_app hj))
    obtain ⟨v, ev, rv⟩ := paired_get' q1 hr
    exact ⟨p, C, dx, _, v, rfl, e1, T.cl, nf, lookup_zip T.nd hi ev, q v r S1 H1 ((o1.sub tl_mem).push rv) h⟩
  · rename_i C2 ks2 rs
    obtain ⟨rfl, rfl, r, hr, h⟩ := h1
    obtain ⟨a, dx, vs, rfl, e1, _, hl, q1⟩ := hx
    obtain ⟨v, ev, rv⟩ := paired_get' q1.pair hr
    exact ⟨a, C2, dx, _, v, rfl, e1, T.cl, nf, lookup_zip T.nd hi ev, q v r S1 H1 ((o1.sub tl_mem).push rv) h⟩
  · exact h1.elim
/-! ### o.f = e -/
def sFldD (C : Addr) (ks : List Str) (i : Nat) (da dv : DE) : DS := fun D fr S => dv fr S fun r S1 => da fr S1 fun a S2 => match a with
  | .val (.ref p) => ∃ (j : Nat) (rs : List R), S2[j]? = some (.ins p C ks rs) ∧ i ≤ rs.length ∧ D.nx fr (S2.set j (.ins p C ks (putAt i r rs)))
  | _ => False
theorem lift_sfld {C : Addr} {ks : List Str} {i : Nat} {f : Str} {ta tv : TE} {da dv : DE} (T : Klass K C ks) (hi : ks[i]? = some f) (la : Lift K ta da) (lv : Lift K tv dv) : LiftS K (L2.sFld K ta tv f) (sFldD C ks i da dv) := fun F H σ fr S L fo o D D' e h => by
  refine lv F H σ fr S L fo o _ _ h fun y r S1 H1 o1 h1 => ?_
  refine la F H1 σ fr S1 _ (fo.mono tl_mem) o1 _ _ h1 fun x a S2 H2 o2 h2 => ?_
  have hx := o2.live _ List.mem_cons_self
  have hy := o2.live (y, r) (List.mem_cons_of_mem _ List.mem_cons_self)
  have sb : ∀ e ∈ L, e ∈ (x, a) :: (y, r) :: L := fun e he => List.mem_cons_of_mem _ (List.mem_cons_of_mem _ he)
  split at h2
  · rename_i p
    cases (show x = V.ref p from hx)
    obtain ⟨j, rs, hj, hl, h⟩ := h2
    obtain ⟨dx, vs, e1, hv, q1⟩ := o2.cells _ (at_split (in_app hj))
    have el := paired_len q1
    have few := T.few
    refine ⟨p, C, dx, ks.zip vs, rfl, e1, T.cl, T.nf f (List.mem_of_getElem? hi), ?_, ?_⟩
    · rw [List.length_zip]; exact Nat.lt_of_le_of_lt (Nat.min_le_left _ _) few
    · rw [putF_zip T.nd hi (by omega) hv]
      have hik : i < ks.length := (List.getElem?_eq_some_iff.mp hi).1
      have o3 := o2.put (u := .ins C dx (ks.zip (putAt i y vs))) (c' := .ins p C ks (putAt i r rs)) (in_app hj) rfl rfl e1 True.intro ⟨dx, _, upd_same, putAt_len hik hv (by omega), RepRs.stp (stp_upd e1 (pt_at (in_app hj)) True.intro) (paired_put hy i q1)⟩
      rw [set_app hj] at o3
      exact e.nx _ _ _ _ _ (fo.mono sb) o3 sb h
  · exact h2.elim
/-! ### C(..) -/
def dMake (C : Addr) (ks : List Str) (n : Nat) (sp : SpD) (da : DA) : DE := fun fr S Q => da fr S fun rs S1 => rs.length + 1 = n ∧ ∀ x, sp (.val (.ref x) :: rs) (.ins x C ks [] :: S1) fun r S2 => r = .dat .none ∧ Q (.val (.ref x)) S2
theorem lift_make {C : Addr} {ks : List Str} {n : Nat} {sp : SpD} {E : XK} {ta : TA} {da : DA} (l : LiftA K ta da) : Lift K (tMake C (toSp K n sp) [] E ta) (dMake C ks n sp da) := fun F H σ fr S L f o Q0 Q h q => by
  refine l F H σ fr S L f o _ _ h fun vs rs S1 H1 L1 o1 s1 lv h1 x dx hx hdx hne => ?_
  have o2 : OkF K F (upd H1 dx (.own x)) S1 L1 := o1.new hdx
  have hx2 : upd H1 dx (.own x) x = none := by rw [upd_ne (Ne.symm hne)]; exact hx
  have o3 : OkF K F (upd (upd H1 dx (.own x)) x (.ins C dx [])) (.ins x C ks [] :: S1) L1 := o2.cell (c := .ins x C ks []) rfl hx2 ⟨dx, [], by rw [List.zip_nil_right]; exact upd_same, Nat.zero_le _, .nil⟩
  have o4 := Ok.push (v := .ref x) (r := .val (.ref x)) o3 rfl
  refine ⟨?_, F, _, _, .val (.ref x) :: rs, fun r S2 => r = .dat .none ∧ Q0 (.val (.ref x)) S2, o4, ?_, h1.2 x, ?_⟩
  · rw [List.append_nil, List.length_cons, paired_len lv]; exact h1.1
  · rw [List.append_nil]
    exact .cons List.mem_cons_self (Lives.mono tl_mem lv)
  · rintro v r S2 H2 o5 ⟨rfl, h2⟩
    have e : v = .non := by cases (o5.dat List.mem_cons_self); rfl
    refine ⟨e, q _ _ S2 H2 ?_ h2⟩
    exact (o5.sub tl_mem).sub (sub_cons s1)
/-! ### o.m(..) -/
def dMeth (C : Addr) (ks : List Str) (n : Nat) (sp : SpD) (da : DE) (dA : DA) : DE := fun fr S Q => da fr S fun a S1 => match a with
  | .val (.ref p) => (∃ (j : Nat) (rs : List R), S1[j]? = some (.ins p C ks rs)) ∧ dA fr S1 fun rs S2 => rs.length + 1 = n ∧ sp (.val (.ref p) :: rs) S2 Q
  | _ => False
theorem lift_meth {C : Addr} {ks : List Str} {m : Str} {n : Nat} {sp : SpD} {E : XK} {te : TE} {ta : TA} {de : DE} {da : DA} (hm : m ∉ ks) (le : Lift K te de) (l : LiftA K ta da) : Lift K (tMeth C m (toSp K n sp) [] E te ta) (dMeth C ks n sp de da) := fun F H σ fr S L f o Q0 Q h q => by
  refine le F H σ fr S L f o _ _ h fun x a S1 H1 o1 h1 => ?_
  have hx := o1.live _ List.mem_cons_self
  split at h1
  · rename_i p
    cases (show x = V.ref p from hx)
    obtain ⟨⟨j, rs, hj⟩, h1⟩ := h1
    obtain ⟨dx, vs, e1, _, q1⟩ := o1.cells _ (at_split (in_app hj))
    refine ⟨p, dx, _, rfl, e1, lookup_zip_none hm, ?_⟩
    refine l F H1 σ fr S1 _ (f.mono tl_mem) o1 _ _ h1 fun vs2 rs2 S2 H2 L2 o2 s2 lv h2 => ?_
    refine ⟨?_, F, S2, L2, .val (.ref p) :: rs2, Q0, o2, ?_, h2.2, fun v r S' H' o' h' => q v r S' H' (o'.sub (sub_cons fun e he => s2 e (List.mem_cons_of_mem _ he))) h'⟩
    · rw [List.append_nil, List.length_cons, paired_len lv]; exact h2.1
    · rw [List.append_nil]
      exact .cons (s2 _ List.mem_cons_self) lv
  · exact h1.elim
/-! ### xs.pop() -/
def dPop (da : DE) : DE := fun fr S Q => da fr S fun a S1 => match a with
  | .val (.ref p) => ∃ (j : Nat) (xs : List R) (r : R), S1[j]? = some (.lst p (xs ++ [r])) ∧ Q r (S1.set j (.lst p xs))
  | _ => False
theorem paired_snoc {α β : Type} {P : α → β → Prop} : ∀ {ws : List α} {xs : List β} {y : β}, Paired P ws (xs ++ [y]) → ∃ us u, ws = us ++ [u] ∧ Paired P us xs ∧ P u y
  | _, [], _, .cons h .nil => ⟨[], _, rfl, .nil, h⟩
  | _, x :: xs, y, .cons h t => by
    obtain ⟨us, u, rfl, a, b⟩ := paired_snoc (xs := xs) t
    exact ⟨_ :: us, u, rfl, .cons h a, b⟩
theorem lift_pop {to : TE} {da : DE} (la : Lift K to da) : Lift K (tBM0 K "list" rPop to) (dPop da) := by
  intro F H σ fr S L fo o C Q hd q
  refine la F H σ fr S L fo o _ _ hd fun x a S1 H1 o1 h1 => ?_
  split at h1
  · rename_i p
    obtain ⟨j, xs, r, hj, h⟩ := h1
    cases o1.val List.mem_cons_self
    obtain ⟨us, e1, q1⟩ := o1.cells _ (at_split (in_app hj))
    obtain ⟨us, u, rfl, q2, q3⟩ := paired_snoc q1
    refine ⟨.inl ⟨rfl, _, SqL.of e1⟩, p, _, u, rfl, rfl, e1, by simp, ?_⟩
    rw [List.dropLast_concat]
    have o3 := (o1.push q3).putL (in_app hj) q2
    rw [set_app hj] at o3
    exact q _ _ _ _ (o3.sub (sub_cons tl_mem)) h
  · exact h1.elim
/-! ### a, b, c = x, y, z -/
def sPar3 (i j l : Nat) (da : DA) : DS := fun D fr S => da fr S fun rs S1 => match rs with
  | [r, q, t] => D.nx (((fr.set i (some r)).set j (some q)).set l (some t)) S1
  | _ => False
theorem lift_par3 {i j l : Nat} {ta : TA} {da : DA} (la : LiftA K ta da) : LiftS K (tPar3 i j l ta) (sPar3 i j l da) := fun F H σ fr S L f o D D' e h => by
  refine la F H σ fr S L f o _ _ h fun vs rs S1 H1 L1 o1 s1 lv h1 => ?_
  split at h1
  · cases lv with | cons m1 t => cases t with | cons m2 t2 => cases t2 with | cons m3 t3 =>
    cases t3
    exact ⟨_, _, _, rfl, e.nx _ _ S1 H1 L1 ((((f.mono s1).set m1 i).set m2 j).set m3 l) o1 s1 h1⟩
  · exact h1.elim
end
/-! ### the rules -/
section
variable {X : Cx} {a b c e o v : Expr} {da db dc de dO dv : DE} {dA : DA} {pos pos' p apos : Pos} {es : List Expr} {C : Addr} {ks : List Str} {f m x : Str}
theorem d_fld (T : Klass X.K C ks) (i : Nat) (he : PD X e de) (hi : ks[i]? = some f := by rfl) (hb : attributeBase e f X.env (eval e X.env) = eval e X.env := by rfl) : PD X (.Attribute e f pos) (dFld C ks i de) := by
  obtain ⟨_, p, l⟩ := he.ex
  exact ⟨_, pe_fld p hb, lift_fld T hi l⟩
theorem s_fld (T : Klass X.K C ks) (i : Nat) (ho : PD X o dO) (hv : PD X v dv) (hi : ks[i]? = some f := by rfl) (hs : swapsWith v (some (.Attribute o f pos')) pos.line X.env = pure false := by rfl) : PDS X (.Assign [.Attribute o f pos'] v pos) (sFldD C ks i dO dv) := by
  obtain ⟨_, p, l⟩ := ho.ex
  obtain ⟨_, p2, l2⟩ := hv.ex
  exact ⟨_, ps_fld p p2 hs, lift_sfld T hi l l2⟩
theorem s_par3 {i j k : Nat} {x y z : Str} {px py pz pt : Pos} {kt k2 pt2} (hN : X.N.Nodup) (ha : PDA X [a, b, c] dA) (hc : X.calm = true := by rfl) (hi : X.N[i]? = some x := by rfl) (hj : X.N[j]? = some y := by rfl) (hk : X.N[k]? = some z := by rfl) (hij : i ≠ j := by decide) (hik : i ≠ k := by decide) (hjk : j ≠ k := by decide)
    (hx : X.env.scope.names.lookup x = some .local := by rfl) (hy : X.env.scope.names.lookup y = some .local := by rfl) (hz : X.env.scope.names.lookup z = some .local := by rfl)
    (hw : swappedStores [.Tuple [.Name x px, .Name y py, .Name z pz] kt pt] (.Tuple [a, b, c] k2 pt2) X.env = pure (some [x, y, z]) := by rfl)
    (hs : swapsWithSole [.Tuple [.Name x px, .Name y py, .Name z pz] kt pt] (.Tuple [a, b, c] k2 pt2) pos.line X.env = pure false := by rfl) :
    PDS X (.Assign [.Tuple [.Name x px, .Name y py, .Name z pz] kt pt] (.Tuple [a, b, c] k2 pt2) pos) (sPar3 i j k dA) := by
  obtain ⟨_, p, l⟩ := ha.ex
  exact ⟨_, ps_par3 hc hN hi hj hk hij hik hjk hx hy hz p hw hs, lift_par3 l⟩
theorem d_pop (ha : PD X a da) (hbase : attributeBase a "pop" X.env (eval a X.env) = eval a X.env := by rfl) (hline : (apos.endLine == pos.line) = true := by rfl) : PD X (.Call (.Attribute a "pop" apos) [] [] pos) (dPop da) := by
  obtain ⟨_, p, l⟩ := ha.ex
  exact ⟨_, pe_bm0 PySem.F.plainAttrs_list PySem.F.slot_list_pop PySem.F.type_list_pop mt_pop p hbase hline, lift_pop l⟩
end
/-! ### methods and makers as they are called -/
/-- a method of a class and its promise (self first) -/
structure DefM (P : Program) (w : World) (K : Fg) (mg : Str → Option Value) (base : Heap) (C : Addr) (m : Str) (k n : Nat) (sp : SpD) : Prop where
  ex : ∃ f fd ps, FnOk P w K mg base CX0 k f fd ps (toSp K n sp) ∧ Meth K C m f ∧ Binds K fd ps []
structure DefI (P : Program) (w : World) (K : Fg) (mg : Str → Option Value) (base : Heap) (x : Str) (C : Addr) (k n : Nat) (sp : SpD) : Prop where
  ex : ∃ f fd ps, FnOk P w K mg base CX0 k f fd ps (toSp K n sp) ∧ Mk K C f ∧ Binds K fd ps [] ∧ mg x = some (.ref C)
/-- a method's def as it stands -/
structure FunM (K : Fg) (C : Addr) (m qual : Str) (st : Stmt) (ps : List Str) : Prop where
  ex : ∃ f fd, Fun K m qual st f fd ∧ Meth K C m f ∧ Binds K fd ps []
structure FunI (K : Fg) (mg : Str → Option Value) (x : Str) (C : Addr) (qual : Str) (st : Stmt) (ps : List Str) : Prop where
  ex : ∃ f fd, Fun K "__init__" qual st f fd ∧ Mk K C f ∧ Binds K fd ps [] ∧ mg x = some (.ref C)
section
variable {P : Program} {w : World} {K : Fg} {mg : Str → Option Value} {base : Heap} {C : Addr} {m x qual : Str} {st : Stmt} {N ps : List Str} {j k n : Nat} {sp sp' : SpD}
theorem DefM.mono (d : DefM P w K mg base C m j n sp) (h : j ≤ k) : DefM P w K mg base C m k n sp := by
  obtain ⟨f, fd, ps, a, b⟩ := d.ex
  exact ⟨f, fd, ps, a.mono h, b⟩
theorem DefI.mono (d : DefI P w K mg base x C j n sp) (h : j ≤ k) : DefI P w K mg base x C k n sp := by
  obtain ⟨f, fd, ps, a, b⟩ := d.ex
  exact ⟨f, fd, ps, a.mono h, b⟩
theorem toSp_imp (h : ∀ rs S C, rs.length = n → sp' rs S C → sp rs S C) : ∀ vs H Q E, toSp K n sp' vs H Q E → toSp K n sp vs H Q E := fun vs H Q E ⟨hl, F, S, L, rs, C, o, lv, hs, q⟩ => ⟨hl, F, S, L, rs, C, o, lv, h rs S C ((paired_len lv).symm.trans hl) hs, q⟩
theorem DefM.imp (d : DefM P w K mg base C m k n sp) (h : ∀ rs S C, rs.length = n → sp' rs S C → sp rs S C) : DefM P w K mg base C m k n sp' := by
  obtain ⟨f, fd, ps, a, b⟩ := d.ex
  exact ⟨f, fd, ps, a.imp (toSp_imp h), b⟩
theorem DefI.imp (d : DefI P w K mg base x C k n sp) (h : ∀ rs S C, rs.length = n → sp' rs S C → sp rs S C) : DefI P w K mg base x C k n sp' := by
  obtain ⟨f, fd, ps, a, b⟩ := d.ex
  exact ⟨f, fd, ps, a.imp (toSp_imp h), b⟩
end
/-! ### weakenings: what is known is told otherwise (cells let go, frozen, in another order) -/
/-- of a value and the cells -/
def Wkn (r : R) (S : SH) (r' : R) (S' : SH) : Prop := ∀ (K : Fg) (F : SH) (H : Hp) (L : Live) (v : V), OkF K F H S ((v, r) :: L) → OkF K F H S' ((v, r') :: L)
/-- of a frame and the cells -/
def WkF (fr : Fr) (S : SH) (fr' : Fr) (S' : SH) : Prop := ∀ (K : Fg) (F : SH) (H : Hp) (σ : L2.St) (L : Live), FrOk σ fr L → OkF K F H S L → ∃ L', FrOk σ fr' L' ∧ OkF K F H S' L' ∧ ∀ e ∈ L, e ∈ L'
def WkC (C : CR0) : CR0 := fun r S => ∃ r' S', Wkn r S r' S' ∧ C r' S'
theorem WkC.of {C : CR0} {r : R} {S : SH} (h : C r S) : WkC C r S := ⟨r, S, fun _ _ _ _ _ o => o, h⟩
theorem wkn_sub {r : R} {S S1 S' : SH} (hp : S.Perm S1) (hs : S'.Sublist S1) : Wkn r S r S' := fun K F H L v o => (o.perm (hp.append_right F)).less (hs.append (List.Sublist.refl F))
theorem wkn_obj {p C : Addr} {ks : List Str} {rs : List R} {S : SH} (hl : rs.length = ks.length) : Wkn (.val (.ref p)) (.ins p C ks rs :: S) (.obj C ks rs) S := fun K F H L v o => by
  have e := o.val List.mem_cons_self
  subst e
  exact ((Ok.frzI (i := 0) o rfl hl)).sub (sub_cons tl_mem)
theorem wkn_lst {p : Addr} {ds : List PyData} {S : SH} : Wkn (.val (.ref p)) (.lst p (ds.map R.dat) :: S) (.dat (.list ds)) S := fun K F H L v o => by
  have e := o.val List.mem_cons_self
  subst e
  exact ((Ok.frz (i := 0) o rfl (dats_map ds))).sub (sub_cons tl_mem)
theorem Wkn.trans {r r' r'' : R} {S S' S'' : SH} (h : Wkn r S r' S') (g : Wkn r' S' r'' S'') : Wkn r S r'' S'' := fun K F H L v o => g K F H L v (h K F H L v o)
section
variable {P : Program} {w : World} {K : Fg} {mg : Str → Option Value} {base : Heap} {n : Nat} {sp : SpD}
theorem toSp_wk : ∀ vs H Q E, toSp K n sp vs H Q E → toSp K n (fun rs S C => ∃ C', sp rs S C' ∧ ∀ r S, WkC C' r S → C r S) vs H Q E := fun vs H Q E ⟨hl, F, S, L, rs, C, o, lv, hs, q⟩ =>
  ⟨hl, F, S, L, rs, WkC C, o, lv, ⟨C, hs, fun _ _ z => z⟩, fun v r S' H' o' ⟨r2, S2, hw, h2⟩ => q v r2 S2 H' (hw K F H' L v o') h2⟩
/-- THE RULE: a def's body, its ends weakened -/
theorem okD_wk {x qual : Str} {st : Stmt} {f : Addr} {fd : FuncData} {N ps : List Str} {k : Nat} (Fn : Fun K x qual st f fd) (Sc : FnScope N ps (defScope st)) (hn : ps.length = n)
    (hbody : ∀ (cdv : Value) (A : Around) (outer : List Env) (s : Shared) (H : Hp) (E : XK), Room k (A.deeper (envOfC qual (defScope st) s.heap.objs.size f cdv)) →
      ∃ ds, PDSs (cxOf CX0 P w K mg base N qual (defScope st) f cdv A outer s H E).nox (defBody st) ds ∧ ∀ rs S C, rs.length = n → sp rs S C → ds { nx := fun _ S => WkC C (.dat .none) S, rt := WkC C } (startF N rs) S) : FnOk P w K mg base CX0 (k + 1) f fd ps (toSp K n sp) := by
  refine (okD (sp := fun rs S C => ∃ C', sp rs S C' ∧ ∀ r S, WkC C' r S → C r S) Fn Sc hn fun cdv A outer s H E hr => ?_).imp toSp_wk
  obtain ⟨ds, hp, hd⟩ := hbody cdv A outer s H E hr
  obtain ⟨ts, pt, l⟩ := hp.ex
  refine ⟨fun D fr S => ∃ C', (∀ r S, WkC C' r S → D.rt r S) ∧ (∀ fr S, WkC C' (.dat .none) S → D.nx fr S) ∧ ds { nx := fun _ S => WkC C' (.dat .none) S, rt := WkC C' } fr S, ⟨ts, pt, fun F H σ fr S L f o D D' e ⟨C', h1, h2, h3⟩ => ?_⟩, fun rs S C hl ⟨C', hs, hw⟩ => ⟨C', hw, fun _ S q => hw _ S q, hd rs S C' hl hs⟩⟩
  exact l F H σ fr S L f o D { nx := fun _ S => WkC C' (.dat .none) S, rt := WkC C' } ⟨fun σ' fr' S' H' L' f' o' s' q => e.nx σ' fr' S' H' L' f' o' s' (h2 fr' S' q), fun v r S' H' o' q => e.rt v r S' H' o' (h1 r S' q), fun _ _ _ _ _ _ _ _ q => q.elim, fun _ _ _ _ _ _ _ _ q => q.elim⟩ h3
theorem okW {x : Str} {st : Stmt} {N ps : List Str} {k : Nat} (Fn : FunAt K mg x st ps) (Sc : FnScope N ps (defScope st)) (hn : ps.length = n)
    (hbody : ∀ (cdv : Value) (A : Around) (outer : List Env) (s : Shared) (H : Hp) (E : XK) (f : Addr), Room k (A.deeper (envOfC x (defScope st) s.heap.objs.size f cdv)) →
      ∃ ds, PDSs (cxOf CX0 P w K mg base N x (defScope st) f cdv A outer s H E).nox (defBody st) ds ∧ ∀ rs S C, rs.length = n → sp rs S C → ds { nx := fun _ S => WkC C (.dat .none) S, rt := WkC C } (startF N rs) S) : Def P w K mg base x (k + 1) n sp := by
  obtain ⟨f, fd, Fu, hm, hb⟩ := Fn.ex
  exact ⟨f, fd, ps, okD_wk Fu Sc hn fun cdv A outer s H E hr => hbody cdv A outer s H E f hr, hm, Fu.kp, hb⟩
theorem okM {C : Addr} {m qual : Str} {st : Stmt} {N ps : List Str} {k : Nat} (Fn : FunM K C m qual st ps) (Sc : FnScope N ps (defScope st)) (hn : ps.length = n)
    (hbody : ∀ (cdv : Value) (A : Around) (outer : List Env) (s : Shared) (H : Hp) (E : XK) (f : Addr), Room k (A.deeper (envOfC qual (defScope st) s.heap.objs.size f cdv)) →
      ∃ ds, PDSs (cxOf CX0 P w K mg base N qual (defScope st) f cdv A outer s H E).nox (defBody st) ds ∧ ∀ rs S C, rs.length = n → sp rs S C → ds { nx := fun _ S => WkC C (.dat .none) S, rt := WkC C } (startF N rs) S) : DefM P w K mg base C m (k + 1) n sp := by
  obtain ⟨f, fd, Fu, hm, hb⟩ := Fn.ex
  exact ⟨f, fd, ps, okD_wk Fu Sc hn fun cdv A outer s H E hr => hbody cdv A outer s H E f hr, hm, hb⟩
theorem okI {x : Str} {C : Addr} {qual : Str} {st : Stmt} {N ps : List Str} {k : Nat} (Fn : FunI K mg x C qual st ps) (Sc : FnScope N ps (defScope st)) (hn : ps.length = n)
    (hbody : ∀ (cdv : Value) (A : Around) (outer : List Env) (s : Shared) (H : Hp) (E : XK) (f : Addr), Room k (A.deeper (envOfC qual (defScope st) s.heap.objs.size f cdv)) →
      ∃ ds, PDSs (cxOf CX0 P w K mg base N qual (defScope st) f cdv A outer s H E).nox (defBody st) ds ∧ ∀ rs S C, rs.length = n → sp rs S C → ds { nx := fun _ S => WkC C (.dat .none) S, rt := WkC C } (startF N rs) S) : DefI P w K mg base x C (k + 1) n sp := by
  obtain ⟨f, fd, Fu, hm, hb, hx⟩ := Fn.ex
  exact ⟨f, fd, ps, okD_wk Fu Sc hn fun cdv A outer s H E hr => hbody cdv A outer s H E f hr, hm, hb, hx⟩
end
/-- a weakening ahead of a block -/
def sWk (ds : DS) : DS := fun D fr S => ∃ fr' S', WkF fr S fr' S' ∧ ds D fr' S'
section
variable {X : Cx} {a b c e o v : Expr} {da db dc de dO dv : DE} {dA : DA} {pos pos' p apos : Pos} {es : List Expr} {C : Addr} {ks : List Str} {f m x : Str} {sts : List Stmt} {ds : DS}
theorem ss_wk (h : PDSs X sts ds) : PDSs X sts (sWk ds) := by
  obtain ⟨ts, p, l⟩ := h.ex
  exact ⟨ts, p, fun F H σ fr S L fo o D D' e ⟨fr', S', hw, hd⟩ => by
    obtain ⟨L', f', o', s'⟩ := hw X.K F H σ L fo o
    exact l F H σ fr' S' L' f' o' D D' (e.mono s') hd⟩
theorem d_meth {sp : SpD} {k n : Nat} {pl : Sem Bool} (T : Klass X.K C ks) (d : DefM X.prog X.w X.K X.mg X.base C m k n sp) (hr : Room k X.A) (hm : m ∉ ks) (ho : PD X o dO) (ha : PDA X (e :: es) dA)
    (hst : starEach (e :: es) X.env = (false, eval e X.env) :: starEach es X.env := by rfl) (hpl : (backTo pos (starEach es X.env)).any (·.1) = false := by rfl)
    (ht : eval (.Call (.Attribute o m apos) (e :: es) [] pos) X.env = (do
      let ov ← eval o X.env
      standAt apos.atName
      let (f, first) ← holding [ov] (getMethod ov m pl)
      callWith pos f first (backTo pos (starEach (e :: es) X.env)) (backToKw pos (keywordEach [] X.env))) := by rfl) :
    PD X (.Call (.Attribute o m apos) (e :: es) [] pos) (dMeth C ks n sp dO dA) := by
  obtain ⟨f, fd, ps, F, hM, hb⟩ := d.ex
  obtain ⟨_, p1, l1⟩ := ho.ex
  obtain ⟨_, p2, l2⟩ := ha.ex
  exact ⟨_, pe_meth p1 T.cl hM F hr hb .nil pass0 p2 hst hpl ht, lift_meth hm l1 l2⟩
theorem d_meth0 {sp : SpD} {k n : Nat} {pl : Sem Bool} (T : Klass X.K C ks) (d : DefM X.prog X.w X.K X.mg X.base C m k n sp) (hr : Room k X.A) (hm : m ∉ ks) (ho : PD X o dO)
    (ht : eval (.Call (.Attribute o m apos) [] [] pos) X.env = (do
      let ov ← eval o X.env
      standAt apos.atName
      let (f, first) ← holding [ov] (getMethod ov m pl)
      callWith pos f first (backTo pos (starEach [] X.env)) (backToKw pos (keywordEach [] X.env))) := by rfl) :
    PD X (.Call (.Attribute o m apos) [] [] pos) (dMeth C ks n sp dO dNil) := by
  obtain ⟨f, fd, ps, F, hM, hb⟩ := d.ex
  obtain ⟨_, p1, l1⟩ := ho.ex
  exact ⟨_, pe_meth0 p1 T.cl hM F hr hb .nil pass0 ht, lift_meth hm l1 lift_nil⟩
theorem d_make {sp : SpD} {k n : Nat} (ks : List Str) (d : DefI X.prog X.w X.K X.mg X.base x C k n sp) (hr : Room (k + 1) X.A) (hg : Gl X x) (ha : PDA X (e :: es) dA) (hdb : (x == ("__debug__" : Str)) = false := by decide) (he : starEach (e :: es) X.env = (false, eval e X.env) :: starEach es X.env := by rfl) (hpl : (backTo pos (starEach es X.env)).any (·.1) = false := by rfl) :
    PD X (.Call (.Name x p) (e :: es) [] pos) (dMake C ks n sp dA) := by
  obtain ⟨f, fd, ps, F, M, hb, hm⟩ := d.ex
  obtain ⟨_, p2, l2⟩ := ha.ex
  exact ⟨_, pe_make M F hr hg hm hb .nil pass0 p2 hdb he hpl, lift_make l2⟩
end
end DL
set_option Elab.async false
set_option linter.all false
set_option maxRecDepth 100000
set_option maxHeartbeats 4000000
/-! DL: zip of a text and a tuple; written dicts and tuples; (x,) * n; comprehensions over a list that is a cell. -/
namespace DL
open PySem PySem.Spec PyProof.Rows L2

/-! ### zip(text, tuple) -/
def ItzS (K : Fg) (z : Str) (b : Addr) : It :=
  ⟨fun i H => i < z.cps.size ∧ ∃ (ys : List V) (y : V), SqT K H b ys ∧ ys[i]? = some y,
    fun i H v H' => ∃ T c y, v = .ref T ∧ H T = none ∧ H' = upd H T (.tup [.str ⟨#[c]⟩, y]) ∧ z.cps[i]? = some c ∧ ∀ ys, SqT K H b ys → ys[i]? = some y,
    fun i H => ∃ ys : List V, SqT K H b ys ∧ i = min z.cps.size ys.length⟩
theorem turn_zipS {P : Program} {w : World} {K : Fg} {elts : List Expr} {kk : Nat} {tpos : Pos} {z : Str} {tk0 : Tok} {b zz TI TO i1 i2 : Addr} (D : ZipSep2 zz TI TO i1 i2 [i1] [i2, b]) (hne : b ≠ i2) :
    Turn P w K (.Tuple elts kk tpos) (ItzS K z b) [zz, TI, TO, i1, i2] zz (fun i h => IsZip h zz TI TO .none ∧ IsTupOf2 h TI (.ref i1) (.ref i2) ∧ (∃ x y, IsTupOf2 h TO x y) ∧ h.IsStrIter i1 (strIterType z) z tk0 i ∧ h.IsTupleIter i2 b i) where
  mem := by simp
  obj := fun i h st c hc => by
    obtain ⟨hz, hTI, ⟨x, y, hTO⟩, ⟨o1, e1, _, d1⟩, ⟨o2, e2, _, d2⟩⟩ := st
    have e' : c = zz ∨ c = TI ∨ c = TO ∨ c = i1 ∨ c = i2 := by simpa using hc
    rcases e' with q | q | q | q | q
    · rw [q]; exact ⟨_, hz, fun v q => nomatch q⟩
    · rw [q]; exact ⟨_, hTI, fun v q => nomatch q⟩
    · rw [q]; exact ⟨_, hTO, fun v q => nomatch q⟩
    · rw [q]; exact ⟨o1, e1, fun v q => by rw [d1] at q; cases q⟩
    · rw [q]; exact ⟨o2, e2, fun v q => by rw [d2] at q; cases q⟩
  keep := fun i h h' st k => by
    obtain ⟨hz, hTI, ⟨x, y, hTO⟩, ⟨o1, e1, r1⟩, h2⟩ := st
    exact ⟨k zz (by simp) _ hz, k TI (by simp) _ hTI, ⟨x, y, k TO (by simp) _ hTO⟩, ⟨o1, k i1 (by simp) o1 e1, r1⟩, h2.at fun o q => k i2 (by simp) o q⟩
  item := by
    intro X hP hw hK hc i pins s σ H E I hf st hg
    subst hP hw hK
    obtain ⟨hz, hTI, hTO, h1, h2⟩ := st
    obtain ⟨hlt, ys, y, hqy, hy⟩ := hg
    obtain ⟨its, rv, p, _⟩ := I.tuple hqy
    obtain ⟨u, hu, ru⟩ := rv.get hy
    have hhd : X.A.in1.handled = none := I.ok.hd hc
    have G := GoesN.zip2 (prog := X.prog) (w := X.w) (A := X.A) (elts := elts) (x1 := kk) (pos := tpos) D (Draws.text hhd i1 z tk0) (Draws.tuple hhd i2 b hne its.toArray)
    have hlt2 : i < its.toArray.size := by
      have := (List.getElem?_eq_some_iff.mp hu).1
      simpa using this
    refine G.goes i s _ _ (by omega) ⟨hz, hTI, hTO, h1, h2, p⟩ fun v h' tk hY st' hk htk => ?_
    obtain ⟨T, xv, yv, rfl, hT0, ⟨c, t, hcx, rfl⟩, hyv, hT⟩ := hY
    have eyv : yv = u := by
      have e1 : its[i]? = some yv := by simpa using hyv
      rw [hu] at e1
      exact (Option.some.inj e1).symm
    subst eyv
    have new : ObjOk X.prog X.w (upd H T (.tup [.str ⟨#[c]⟩, y])) h' T (.tup [.str ⟨#[c]⟩, y]) :=
      ⟨by show 2 ≤ sizeLine; decide, [.str ⟨#[c]⟩ t, yv], .cons ⟨t, rfl⟩ (.cons ru .nil), hT⟩
    have I1 : Inv X pins σ (upd H T (.tup [.str ⟨#[c]⟩, y])) { s with heap := h', toks := tk } :=
      I.turnedNew (t' := tk) (ch := [zz, TI, TO, i1, i2]) (fun c o hb q => hk c o (fun q' => hb (by
        have q'' : c = zz ∨ c = TO ∨ c = i1 ∨ c = i2 := by simpa using q'
        rcases q'' with q'' | q'' | q'' | q'' <;> simp [q''])) q) hf hT0 new
    refine ⟨.ref T, _, I1, rfl, ⟨T, c, y, rfl, I.hok.fresh hT0, rfl, hcx, fun l hl => by rw [I.tuple_inj hl hqy]; exact hy⟩, ⟨st'.1, st'.2.1, st'.2.2.1, st'.2.2.2.1, st'.2.2.2.2.1⟩, fun c' hcm => ?_⟩
    have hlt : c' < s.heap.objs.size := by
      obtain ⟨x0, y0, hTO'⟩ := hTO
      have e' : c' = zz ∨ c' = TI ∨ c' = TO ∨ c' = i1 ∨ c' = i2 := by simpa using hcm
      rcases e' with q | q | q | q | q
      · rw [q]; exact Heap.lt_size hz
      · rw [q]; exact Heap.lt_size hTI
      · rw [q]; exact Heap.lt_size hTO'
      · rw [q]; obtain ⟨_, e1, _⟩ := h1; exact Heap.lt_size e1
      · rw [q]; obtain ⟨_, e2, _⟩ := h2; exact Heap.lt_size e2
    rw [upd_ne (Nat.ne_of_lt (Nat.lt_of_lt_of_le hlt hT0))]
    exact (hf c' hcm).1
  done := by
    intro X hP hw hK hc i pins s σ H E I hf st hg
    subst hP hw hK
    obtain ⟨hz, hTI, hTO, h1, h2⟩ := st
    obtain ⟨ys, hqy, hend⟩ := hg
    obtain ⟨its, rv, p, _⟩ := I.tuple hqy
    have l1 := rv.length
    have hhd : X.A.in1.handled = none := I.ok.hd hc
    have G := GoesN.zip2 (prog := X.prog) (w := X.w) (A := X.A) (elts := elts) (x1 := kk) (pos := tpos) D (Draws.text hhd i1 z tk0) (Draws.tuple hhd i2 b hne its.toArray)
    have e : i = min z.cps.size its.toArray.size := by rw [hend, l1]; simp
    subst e
    exact wpAny_mono (G.stops s (fun s1 => Inv X pins σ H s1) _ ⟨hz, hTI, hTO, h1, h2, p⟩ fun h' tk hk htk => I.turnedL (t' := tk) (ch := [zz, TI, TO, i1, i2]) (fun c o hb q =>
      hk c o (fun q' => hb (by
        have q'' : c = zz ∨ c = TO ∨ c = i1 ∨ c = i2 := by simpa using q'
        rcases q'' with q'' | q'' | q'' | q'' <;> simp [q''])) q) hf) (fun _ _ h => h) (fun _ _ h => h)
  self := fun A i s Q E st h => wpAny_pyIter_zip st.1 h
def iZipS (K : Fg) (ta : TA) : TI := fun σ H R => ta σ H fun vs H1 => ∃ z b ys, vs = [.str z, .ref b] ∧ SqT K H1 b ys ∧ R (ItzS K z b) H1
theorem pi_zipS {X : Cx} {e e2 : Expr} {ta : TA} {p pos tpos : Pos} {elts : List Expr} {kk : Nat} (hg : Gl X "zip") (hm : X.mg "zip" = none) (ha : PA X [e, e2] ta)
    (hs : starEach [e, e2] X.env = (false, eval e X.env) :: starEach [e2] X.env := by rfl) (hpl : (backTo pos (starEach [e2] X.env)).any (·.1) = false := by rfl) :
    PI X (.Tuple elts kk tpos) (.Call (.Name "zip" p) [e, e2] [] pos) (iZipS X.K ta) := by
  refine ⟨fun pins s σ H R I h => ?_⟩
  refine Call_ (ld_blt I hg hm PyProof.Rows.boot_zip (PyProof.Rows.callWith_type1 (thn (ha.run pos pins s σ H _ I h) fun us s1 ⟨vs, H1, I1, r1, q1⟩ => ?_) hs hpl))
  obtain ⟨z, b, ys, ex, hqy, q⟩ := q1
  subst ex
  cases r1 with
  | cons r rr =>
    cases rr with
    | cons r' rr =>
      cases rr
      obtain ⟨t, rfl⟩ := r
      cases r'
      have fresh5 : ∀ c, c ∈ [s1.heap.objs.size + 4, s1.heap.objs.size + 2, s1.heap.objs.size + 3, s1.heap.objs.size, s1.heap.objs.size + 1] → FpOk X pins H1 c := fun c hcm => by
        have e' : c = s1.heap.objs.size + 4 ∨ c = s1.heap.objs.size + 2 ∨ c = s1.heap.objs.size + 3 ∨ c = s1.heap.objs.size ∨ c = s1.heap.objs.size + 1 := by simpa using hcm
        have hle : s1.heap.objs.size ≤ c := by
          rcases e' with z | z | z | z | z
          · rw [z]; exact Nat.le_add_right _ _
          · rw [z]; exact Nat.le_add_right _ _
          · rw [z]; exact Nat.le_add_right _ _
          · rw [z]; exact Nat.le_refl _
          · rw [z]; exact Nat.le_add_right _ _
        exact I1.fpOk hle (I1.hok.fresh hle)
      obtain ⟨its, rv, p1, _⟩ := I1.tuple hqy
      obtain ⟨o1, ho1, _⟩ := id p1
      have hb : b < s1.heap.objs.size := Heap.lt_size ho1
      have nadd : ∀ (n k m : Nat), k ≠ m → n + k ≠ n + m := fun n k m h e => h (Nat.add_left_cancel e)
      have nz : ∀ (n k : Nat), k ≠ 0 → n + k ≠ n := fun n k h e => h (Nat.add_left_cancel (m := k) (k := 0) e)
      have sep : ZipSep2 (s1.heap.objs.size + 4) (s1.heap.objs.size + 2) (s1.heap.objs.size + 3) s1.heap.objs.size (s1.heap.objs.size + 1) [s1.heap.objs.size] [s1.heap.objs.size + 1, b] := by
        generalize s1.heap.objs.size = n at hb
        have hb' : ∀ k : Nat, n + k ≠ b := fun k e => Nat.lt_irrefl _ (Nat.lt_of_le_of_lt (Nat.le_add_right n k) (e ▸ hb))
        have hb0 : n ≠ b := fun e => Nat.lt_irrefl _ (e ▸ hb)
        refine ⟨nadd _ _ _ (by decide), nadd _ _ _ (by decide), nadd _ _ _ (by decide), nz _ _ (by decide), List.mem_singleton.mpr rfl, fun z => nz _ _ (by decide) (List.mem_singleton.mp z), fun z => nz _ _ (by decide) (List.mem_singleton.mp z), nadd _ _ _ (by decide), List.mem_cons_self, fun z => ?_, fun z => ?_, fun z => ?_, fun z => nz _ _ (by decide) (List.mem_singleton.mp z)⟩
        · rcases List.mem_cons.mp z with z | z
          · exact nadd _ _ _ (by decide) z
          · exact hb' _ (List.mem_singleton.mp z)
        · rcases List.mem_cons.mp z with z | z
          · exact nadd _ _ _ (by decide) z
          · exact hb' _ (List.mem_singleton.mp z)
        · rcases List.mem_cons.mp z with z | z
          · exact nz _ _ (by decide) z.symm
          · exact hb0 (List.mem_singleton.mp z)
      refine zip_begins2 (begins_text z t) (begins_tuple b its.toArray) trivial p1 fun h' hz hTI hTO h1 h2 hsz hk => wpAny_pyIter_zip hz ?_
      have I2 : Inv X pins σ H1 { s1 with heap := h' } := I1.kept (t' := s1.toks) hk
      exact ⟨s1.heap.objs.size + 4, [s1.heap.objs.size + 4, s1.heap.objs.size + 2, s1.heap.objs.size + 3, s1.heap.objs.size, s1.heap.objs.size + 1], _, _, H1, rfl, I2, turn_zipS (tk0 := t) sep (fun e => Nat.lt_irrefl _ (Nat.lt_of_le_of_lt (Nat.le_add_right _ 1) (e ▸ hb))), ⟨hz, hTI, ⟨_, _, hTO⟩, ⟨_, h1, rfl, rfl⟩, ⟨_, h2, rfl, rfl⟩⟩, fresh5, q⟩
section
variable {K : Fg}
def zipSD (z : Str) (ds : List PyData) : List R := (z.cps.toList.zip ds).map fun q => R.dat (.tuple [.str ⟨#[q.1]⟩, q.2])
def iZs (da : DA) : DI := fun fr S C => da fr S fun rs S1 => match rs with
  | [.dat (.str z), .dat (.tuple ds)] => C (zipSD z ds) S1
  | _ => False
theorem it_zipS {z : Str} {b : Addr} {ds : List PyData} {L : Live} (m : (V.ref b, R.dat (.tuple ds)) ∈ L) : ItOk K (ItzS K z b) (zipSD z ds) L := fun H T L' o s i => by
  have hr := o.dat (s _ m)
  cases hr with | @tup _ xs _ h1 q1 =>
  have hq : SqT K H b xs := sqT_of (A := Av T) h1
  unfold zipSD
  refine ⟨fun r e => ?_, fun hl => ⟨xs, hq, ?_⟩⟩
  · rw [List.getElem?_map] at e
    cases e1 : (z.cps.toList.zip ds)[i]? with
    | none => rw [e1] at e; cases e
    | some q =>
      rw [e1] at e
      cases e
      obtain ⟨c, d⟩ := q
      obtain ⟨ec, ed⟩ : z.cps.toList[i]? = some c ∧ ds[i]? = some d := by
        rw [List.getElem?_zip_eq_some] at e1
        exact e1
      obtain ⟨v, ev, rv⟩ := q1.get' ed
      have ec' : z.cps[i]? = some c := by simpa using ec
      refine ⟨⟨(Array.getElem?_eq_some_iff.mp ec').1, xs, v, hq, ev⟩, fun x H' y => ?_⟩
      obtain ⟨T', c', y', rfl, hT, rfl, hc', y⟩ := y
      have e3 := y xs hq
      rw [ev] at e3
      cases e3
      rw [ec'] at hc'
      cases hc'
      exact o.tup hT (.cons (.str _) (.cons rv .nil))
  · rw [List.length_map, List.length_zip] at hl
    rw [q1.length, ← hl]
    simp
theorem lift_zipS {ta : TA} {da : DA} (l : LiftA K ta da) : LiftI K (iZipS K ta) (iZs da) := fun F H σ fr S L f o C Rr h q => by
  refine l F H σ fr S L f o _ _ h fun vs rs S1 H1 L1 o1 s1 lv h1 => ?_
  split at h1
  · cases lv with | cons m t => cases t with | cons m2 t =>
    cases t
    have hr := o1.dat m
    cases hr
    have hr2 := o1.dat m2
    cases hr2 with | tup e1 q1 =>
    exact ⟨_, _, _, rfl, sqT_of (A := Av S1) e1, q _ _ S1 H1 L1 o1 s1 (it_zipS m2) h1⟩
  · exact h1.elim
end
section
variable {X : Cx} {a b e : Expr} {dA : DA} {pos : Pos}
theorem i_zipS {p tpos : Pos} {elts : List Expr} {kk : Nat} (hg : Gl X "zip") (hm : X.mg "zip" = none) (ha : PDA X [a, b] dA) (hs : starEach [a, b] X.env = (false, eval a X.env) :: starEach [b] X.env := by rfl) (hpl : (backTo pos (starEach [b] X.env)).any (·.1) = false := by rfl) :
    PDI X (.Tuple elts kk tpos) (.Call (.Name "zip" p) [a, b] [] pos) (iZs dA) := by
  obtain ⟨_, p, l⟩ := ha.ex
  exact ⟨_, pi_zipS hg hm p hs hpl, lift_zipS l⟩
end
end DL
set_option Elab.async false
set_option linter.all false
set_option maxRecDepth 100000
set_option maxHeartbeats 4000000
/-! DL: enumerate of a tuple. -/
namespace DL
open PySem PySem.Spec PyProof.Rows L2

theorem meets_enum1 {v : Value} {o : Obj} {H : Heap → Prop} (B : Begins v o H) :
    Meets (Builtin.«enumerate.__new__» ⟨[.type "enumerate", v], []⟩) (fun _ R s => H s.heap ∧
      R (.ok (.ret (.ref (s.heap.push o).objs.size))) { s with heap := (s.heap.push o).push { cls := .type "enumerate", data := .fields #[.none, .bool false, .ref s.heap.objs.size, rawInt 0, .none, .none] } }) :=
  .of_wp fun prog w A R s h => by
    obtain ⟨hp, g, d, tk, os⟩ := s; obtain ⟨h1, h⟩ := h
    have hsub := sub_enumerate
    have q1 : ∀ {A' : Around} {E : Value → Shared → Prop} {Q : Value → Shared → Prop}, Q (.ref hp.objs.size) ⟨hp.push o, g, d, tk, os⟩ → wpAny (model prog w) A' (pyIter v) Q E ⟨hp, g, d, tk, os⟩ :=
      fun q => B.iter prog w _ _ ⟨hp, g, d, tk, os⟩ _ h1 q
    wp_walk using q1
    refine wpAny_stack_any fun st => wpAny_pure ?_
    split
    · rename_i c _ _ _ _ _
      cases (c == Value.type "enumerate")
      · wp_walk using q1
        exact ⟨_, rfl, h⟩
      · wp_walk using q1
        exact ⟨_, rfl, h⟩
    · wp_walk using q1
      exact ⟨_, rfl, h⟩
section
variable {prog : Program} {w : World} {A : Around} {E : Value → Shared → Prop} {s : Shared}
theorem enum_begins1 {v : Value} {o : Obj} {H : Heap → Prop} {Q : Value → Shared → Prop} (B : Begins v o H) (h1 : H s.heap)
    (h : ∀ h', IsEnum h' (s.heap.objs.size + 1) s.heap.objs.size 0 .none → h'.get? s.heap.objs.size = some o → h'.objs.size = s.heap.objs.size + 2 →
      (∀ b o, s.heap.get? b = some o → h'.get? b = some o) → Q (.ref (s.heap.objs.size + 1)) { s with heap := h' }) :
    wpAny (model prog w) A (call (.type "enumerate") [v]) Q E s := by
  refine callType_new F.called_enumerate (by decide) (F.typeCall_enumerate_1 _) (F.newCall_enumerate_1 _) (fun obj => F.args_object_init_2 obj _) F.entry_enumerate_new
    (meets_enum1 B) ⟨h1, ?_⟩
  have hz : (s.heap.push o).objs.size = s.heap.objs.size + 1 := Heap.size_push ..
  show _ ∧ _
  rw [hz]
  have he : IsEnum ((s.heap.push o).push { cls := .type "enumerate", data := .fields #[.none, .bool false, .ref s.heap.objs.size, rawInt 0, .none, .none] }) (s.heap.objs.size + 1) s.heap.objs.size 0 .none := by
    have := Heap.get?_push_size (s.heap.push o) (o := { cls := .type "enumerate", data := .fields #[.none, .bool false, .ref s.heap.objs.size, rawInt 0, .none, .none] }) rfl
    rw [hz] at this; exact this
  refine ⟨⟨_, he, rfl⟩, h _ he (Heap.get?_push_of_some _ (Heap.get?_push_size _ B.free)) (by rw [Heap.size_push, hz]) fun b o x => Heap.get?_push_of_some _ (Heap.get?_push_of_some _ x)⟩
end
def IteT (K : Fg) (b : Addr) : It :=
  ⟨fun i H => ∃ (ys : List V) (y : V), SqT K H b ys ∧ ys[i]? = some y,
    fun i H v H' => ∃ T y, v = .ref T ∧ H T = none ∧ H' = upd H T (.tup [.int (i : Int), y]) ∧ ∀ ys, SqT K H b ys → ys[i]? = some y,
    fun i H => ∃ ys : List V, SqT K H b ys ∧ i = ys.length⟩
theorem turn_enumT {P : Program} {w : World} {K : Fg} {elts : List Expr} {kk : Nat} {tpos : Pos} {b e it : Addr} (hei : e ≠ it) (heb : e ≠ b) (hne : b ≠ it) :
    Turn P w K (.Tuple elts kk tpos) (IteT K b) [e, it] e (fun i h => (∃ old, IsEnum h e it (0 + (i : Int)) old) ∧ h.IsTupleIter it b i) where
  mem := by simp
  obj := fun i h st c hc => by
    obtain ⟨⟨old, he⟩, ⟨o2, e2, _, d2⟩⟩ := st
    have e' : c = e ∨ c = it := by simpa using hc
    rcases e' with q | q
    · rw [q]; exact ⟨_, he, fun v q => nomatch q⟩
    · rw [q]; exact ⟨o2, e2, fun v q => by rw [d2] at q; cases q⟩
  keep := fun i h h' st k => by
    obtain ⟨⟨old, he⟩, h2⟩ := st
    exact ⟨⟨old, k e (by simp) _ he⟩, h2.at fun o q => k it (by simp) o q⟩
  item := by
    intro X hP hw hK hc i pins s σ H E I hf st hg
    subst hP hw hK
    obtain ⟨⟨old, he⟩, h2⟩ := st
    obtain ⟨ys, y, hqy, hy⟩ := hg
    obtain ⟨its, rv, p, _⟩ := I.tuple hqy
    obtain ⟨u, hu, ru⟩ := rv.get hy
    have hhd : X.A.in1.handled = none := I.ok.hd hc
    have G := GoesN.enumFrom (prog := X.prog) (w := X.w) (A := X.A) (elts := elts) (x1 := kk) (pos := tpos) 0 (Draws.tuple hhd it b hne its.toArray) e hei (by
      intro z
      have z' : e = it ∨ e = b := by simpa using z
      rcases z' with z' | z'
      · exact hei z'
      · exact heb z') (by simp)
    have hlt2 : i < its.toArray.size := by
      have := (List.getElem?_eq_some_iff.mp hu).1
      simpa using this
    refine G.goes i s _ _ hlt2 ⟨⟨old, he⟩, h2, p⟩ fun v h' tk hY st' hk htk => ?_
    obtain ⟨T, t, yv, rfl, hT0, hyv, hT⟩ := hY
    have eyv : yv = u := by
      have e1 : its[i]? = some yv := by simpa using hyv
      rw [hu] at e1
      exact (Option.some.inj e1).symm
    subst eyv
    have e0 : (0 : Int) + (i : Int) = (i : Int) := Int.zero_add _
    rw [e0] at hT
    have new : ObjOk X.prog X.w (upd H T (.tup [.int (i : Int), y])) h' T (.tup [.int (i : Int), y]) :=
      ⟨by show 2 ≤ sizeLine; decide, [.int (i : Int) t, yv], .cons ⟨t, rfl⟩ (.cons ru .nil), hT⟩
    have I1 : Inv X pins σ (upd H T (.tup [.int (i : Int), y])) { s with heap := h', toks := tk } :=
      I.turnedNew (t' := tk) (ch := [e, it]) (fun c o hb q => hk c o hb q) hf hT0 new
    refine ⟨.ref T, _, I1, rfl, ⟨T, y, rfl, I.hok.fresh hT0, rfl, fun l hl => by rw [I.tuple_inj hl hqy]; exact hy⟩, ⟨st'.1, st'.2.1⟩, fun c' hcm => ?_⟩
    have hlt : c' < s.heap.objs.size := by
      have e' : c' = e ∨ c' = it := by simpa using hcm
      rcases e' with q | q
      · rw [q]; exact Heap.lt_size he
      · rw [q]; obtain ⟨_, e2, _⟩ := h2; exact Heap.lt_size e2
    rw [upd_ne (Nat.ne_of_lt (Nat.lt_of_lt_of_le hlt hT0))]
    exact (hf c' hcm).1
  done := by
    intro X hP hw hK hc i pins s σ H E I hf st hg
    subst hP hw hK
    obtain ⟨⟨old, he⟩, h2⟩ := st
    obtain ⟨ys, hqy, hend⟩ := hg
    obtain ⟨its, rv, p, _⟩ := I.tuple hqy
    have l1 := rv.length
    have hhd : X.A.in1.handled = none := I.ok.hd hc
    have G := GoesN.enumFrom (prog := X.prog) (w := X.w) (A := X.A) (elts := elts) (x1 := kk) (pos := tpos) 0 (Draws.tuple hhd it b hne its.toArray) e hei (by
      intro z
      have z' : e = it ∨ e = b := by simpa using z
      rcases z' with z' | z'
      · exact hei z'
      · exact heb z') (by simp)
    have e : i = its.toArray.size := by rw [hend, l1]; simp
    subst e
    exact wpAny_mono (G.stops s (fun s1 => Inv X pins σ H s1) _ ⟨⟨old, he⟩, h2, p⟩ fun h' tk hk htk => I.turnedL (t' := tk) (fun c o hb q => hk c o hb q) hf) (fun _ _ h => h) (fun _ _ h => h)
  self := fun A i s Q E st h => by
    obtain ⟨⟨old, he⟩, _⟩ := st
    exact wpAny_pyIter_enum he h
def iEnumT (K : Fg) (ta : TA) : TI := fun σ H R => ta σ H fun vs H1 => ∃ b ys, vs = [.ref b] ∧ SqT K H1 b ys ∧ R (IteT K b) H1
theorem pi_enumT {X : Cx} {e : Expr} {ta : TA} {p pos tpos : Pos} {elts : List Expr} {kk : Nat} (hg : Gl X "enumerate") (hm : X.mg "enumerate" = none) (ha : PA X [e] ta) (hs : starEach [e] X.env = [(false, eval e X.env)] := by rfl) :
    PI X (.Tuple elts kk tpos) (.Call (.Name "enumerate" p) [e] [] pos) (iEnumT X.K ta) := by
  refine ⟨fun pins s σ H R I h => ?_⟩
  refine Call_ (ld_blt I hg hm boot_enumerate (PyProof.Rows.callWith_type1 (thn (ha.run pos pins s σ H _ I h) fun us s1 ⟨vs, H1, I1, r1, q1⟩ => ?_) hs rfl))
  obtain ⟨b, ys, ex, hq, q⟩ := q1
  subst ex
  cases r1 with
  | cons r rr =>
    cases rr
    cases r
    obtain ⟨its, rv, p1, _⟩ := I1.tuple hq
    obtain ⟨o1, ho1, _⟩ := id p1
    have hb : b < s1.heap.objs.size := Heap.lt_size ho1
    refine enum_begins1 (begins_tuple b its.toArray) p1 fun h' he h2 hsz hk => wpAny_pyIter_enum he ?_
    have I2 : Inv X pins σ H1 { s1 with heap := h' } := I1.kept (t' := s1.toks) hk
    refine ⟨s1.heap.objs.size + 1, [s1.heap.objs.size + 1, s1.heap.objs.size], _, _, H1, rfl, I2, turn_enumT (b := b) (Nat.succ_ne_self _) (fun e => Nat.lt_irrefl _ (Nat.lt_of_le_of_lt (Nat.le_add_right _ 1) (e ▸ hb))) (fun e => Nat.lt_irrefl _ (e ▸ hb)), ⟨⟨.none, he⟩, ⟨_, h2, rfl, rfl⟩⟩, fun b' hb' => ?_, q⟩
    have e' : b' = s1.heap.objs.size + 1 ∨ b' = s1.heap.objs.size := by simpa using hb'
    have hle : s1.heap.objs.size ≤ b' := by
      rcases e' with z | z
      · rw [z]; exact Nat.le_add_right _ _
      · rw [z]; exact Nat.le_refl _
    exact I1.fpOk hle (I1.hok.fresh hle)
section
variable {K : Fg}
def iEnT (da : DA) : DI := fun fr S C => da fr S fun rs S1 => match rs with
  | [.dat (.tuple ds)] => C (enumD ds) S1
  | _ => False
theorem it_enumT {b : Addr} {ds : List PyData} {L : Live} (m : (V.ref b, R.dat (.tuple ds)) ∈ L) : ItOk K (IteT K b) (enumD ds) L := fun H T L' o s i => by
  have hr := o.dat (s _ m)
  cases hr with | @tup _ xs _ h1 q1 =>
  have hq : SqT K H b xs := sqT_of (A := Av T) h1
  refine ⟨fun r e => ?_, fun hl => ⟨xs, hq, ?_⟩⟩
  · unfold enumD at e
    rw [List.getElem?_map] at e
    by_cases hi : i < ds.length
    · rw [List.getElem?_range hi] at e
      cases e
      have e1 : ds[i]? = some ds[i] := List.getElem?_eq_getElem hi
      obtain ⟨v, ev, rv⟩ := q1.get' e1
      refine ⟨⟨xs, v, hq, ev⟩, fun x H' y => ?_⟩
      obtain ⟨T', y', rfl, hT, rfl, y⟩ := y
      have e3 := y xs hq
      rw [ev] at e3
      cases e3
      have e2 : ds.getD i .none = ds[i] := by rw [List.getD_eq_getElem?_getD, e1]; rfl
      show Ok K _ T ((V.ref T', R.dat (.tuple [.int ((i : Nat) : Int), ds.getD i .none])) :: L')
      rw [e2]
      exact o.tup hT (.cons (.int _) (.cons rv .nil))
    · rw [List.getElem?_eq_none (by simpa using hi)] at e
      cases e
  · rw [q1.length, ← hl]
    simp [enumD]
theorem lift_enumT {ta : TA} {da : DA} (l : LiftA K ta da) : LiftI K (iEnumT K ta) (iEnT da) := fun F H σ fr S L f o C Rr h q => by
  refine l F H σ fr S L f o _ _ h fun vs rs S1 H1 L1 o1 s1 lv h1 => ?_
  split at h1
  · cases lv with | cons m t =>
    cases t
    have hr := o1.dat m
    cases hr with | tup e1 q1 =>
    exact ⟨_, _, rfl, sqT_of (A := Av S1) e1, q _ _ S1 H1 L1 o1 s1 (it_enumT m) h1⟩
  · exact h1.elim
end
section
variable {X : Cx} {a b e : Expr} {dA : DA} {pos : Pos}
theorem i_enumT {p tpos : Pos} {elts : List Expr} {kk : Nat} (hg : Gl X "enumerate") (hm : X.mg "enumerate" = none) (ha : PDA X [e] dA) (hs : starEach [e] X.env = [(false, eval e X.env)] := by rfl) :
    PDI X (.Tuple elts kk tpos) (.Call (.Name "enumerate" p) [e] [] pos) (iEnT dA) := by
  obtain ⟨_, p, l⟩ := ha.ex
  exact ⟨_, pi_enumT hg hm p hs, lift_enumT l⟩
end
end DL
set_option Elab.async false
set_option linter.all false
set_option maxRecDepth 100000
set_option maxHeartbeats 4000000
/-! DL: (x,) * n; written tuples and dicts of texts; comprehensions over a list that is a cell. -/
namespace DL
open PySem PySem.Spec PyProof.Rows L2

/-! ### tuple * int -/
theorem tuple_mul1 (l : Addr) (items : Array Value) (n : Nat) (dd : Option Addr) (sl : Array (Option Value)) (u : Tok) :
    Meets (Builtin.«tuple.__mul__» ⟨[.ref l, .int 1 u], []⟩) (fun _ R s => s.heap.get? l = some { cls := .type "tuple", dict := dd, data := .seq items n, slots := sl } ∧
      R (.ok (.ret (Value.ref l))) s) :=
  .of_wp fun prog w A R s h => by
    obtain ⟨hp, g, d, tk, os⟩ := s
    obtain ⟨hl, h⟩ := h
    have f1 := AutoSeq1.idx_int
    wp_walk using wpAny_loadPart' hl
    exact ⟨_, rfl, h⟩
def rRep1 (K : Fg) : R2 := fun x y H Q => ∃ l xs, x = .ref l ∧ y = .int 1 ∧ SqT K H l xs ∧ Q (.ref l) H
theorem op_rep1 {X : Cx} : OpR X (binaryOp .Mult) (rRep1 X.K) := by
  intro pins s σ H x y v u Q I rx ry h
  obtain ⟨l, xs, rfl, rfl, hT, q⟩ := h
  cases rx
  obtain ⟨t, rfl⟩ := ry
  obtain ⟨its, r, ⟨⟨cls, dd, data, sl⟩, ho, hc, n, hd⟩, hs⟩ := I.tuple hT
  simp only at hc hd
  subst hc hd
  refine wpAny_binaryOp_repeat_ref (T := "tuple") (U := "int") (by decide) ⟨_, ho, rfl⟩ (fun s' => typeIs_int s' 1 t) noFill_tuple_mul F.fills_int_mul F.slot_int_rmul repeat_tuple F.slot_int_index.lookup
    (call_meets F.slot_int_rmul (typeIs_int s 1 t) F.entry_int_rmul (F.args_int_rmul_2 _ _) (int_rmul_tuple 1 t l its.toArray n dd sl)
      ⟨ho, rfl, ⟨_, ho, rfl⟩, call_meets F.slot_tuple_mul ⟨_, ho, rfl⟩ F.entry_tuple_mul (F.args_tuple_mul_2 _ _) (tuple_mul1 l its.toArray n dd sl t) ⟨ho, ?_⟩⟩)
  exact ⟨.ref l, H, I, rfl, q⟩
section
variable {K : Fg}
def fMulT : F2 := fun a b S C => match a, b with
  | .dat (.tuple xs), .dat (.int k) => xs ≠ [] ∧ 1 ≤ k ∧ k ≤ 1000 ∧ xs.length ≤ 1000 ∧ C (.dat (.tuple (List.replicate k.toNat xs).flatten)) S
  | _, _ => False
def rMulT (K : Fg) : R2 := fun x y H Q => rRepT K x y H Q ∨ rRep1 K x y H Q
theorem opd_mulT : OpD K (rMulT K) fMulT := by
  intro F x y a b H S L C Q o hx hy hf q
  replace hx := o.live _ hx
  replace hy := o.live _ hy
  unfold fMulT at hf
  split at hf
  · rename_i xs k
    cases rep_int_inv hy
    obtain ⟨hne, h1, h2, hl, h⟩ := hf
    cases hx with | @tup _ vs _ e1 q1 =>
    by_cases hk : k = 1
    · subst hk
      refine .inr ⟨_, _, rfl, rfl, sqT_of (A := Av S) e1, q _ _ S H (o.pd (.tup e1 q1)) ?_⟩
      have e : (List.replicate (1 : Int).toNat xs).flatten = xs := by simp
      rw [e] at h
      exact h
    · refine .inl ⟨_, _, _, rfl, rfl, sqT_of (A := Av S) e1, fun z => hne ?_, by omega, h2, by rw [q1.length]; exact hl, fun p hp => q _ _ S _ (o.tup hp (q1.rep _)) h⟩
      have := q1.length
      rw [z] at this
      exact List.eq_nil_of_length_eq_zero this.symm
  · exact hf.elim
end
/-! ### a written dict of texts: d.get(k, x) -/
structure KTab (K : Fg) (w : World) (a : Addr) (kvs : List (Str × Str)) : Prop where
  ex : ∃ es n, KDict K w a es n
  at_ : ∀ z, ∃ r, PySem.W.nsIn K a z = some r ∧ match kvs.lookup z with
    | some s => ∃ u, r = some u ∧ RelV (.str s) u
    | none => r = none
def tKGet (a : Addr) (kvs : List (Str × Str)) (ty tx : TE) : TE := fun σ H Q => ty σ H fun y H1 => tx σ H1 fun z H2 => ∃ s, y = .str s ∧ Q (match kvs.lookup s with | some v => .str v | none => z) H2
section
variable {X : Cx} {o e f : Expr} {apos cpos : Pos} {ty tx : TE} {a : Addr} {kvs : List (Str × Str)}
theorem pe_kget (T : KTab X.K X.w a kvs) (ho : PE X o (tC (.ref a))) (he : PE X e ty) (hf : PE X f tx) (m : M2 X o "get" apos e f cpos) : PE X (.Call (.Attribute o "get" apos) [e, f] [] cpos) (tKGet a kvs ty tx) := by
  refine ⟨fun pins s σ H Q I h => ?_⟩
  refine wpAny_Call_method m.base m.few m.line PySem.F.plainAttrs_dict PySem.F.slot_dict_get PySem.F.type_dict_get (thn (ho.run pins s σ H (fun v H' => v = .ref a ∧ ty σ H' fun y H1 => tx σ H1 fun z H2 => ∃ s, y = .str s ∧ Q (match kvs.lookup s with | some v => .str v | none => z) H2) I ⟨rfl, h⟩) fun u s1 ⟨x, H1, I1, rx, ex, q1⟩ => ?_)
  subst ex
  obtain rfl : u = Value.ref a := rx
  obtain ⟨es, n, D⟩ := T.ex
  have hk := I1.kIn a _ D.at_
  refine ⟨kd_type D I1, fun b q => ?_, ?_⟩
  · cases q
    exact ⟨_, hk, rfl⟩
  rw [m.trees]
  refine Calls.callWith_builtin rfl (Calls.evalArgs_plain (Calls.spliced_cons (thn (he.run pins s1 σ H1 _ I1 q1) fun iv s2 ⟨y, H2, I2, ry, q2⟩ =>
    Calls.spliced_cons (thn (hf.run pins s2 σ H2 _ I2 q2) fun fv s3 ⟨z, H3, I3, rz, st, ey, q3⟩ => Calls.spliced_nil ?_))))
  subst ey
  obtain ⟨t, rfl⟩ := ry
  have hm := PySem.W.mapOf_K (prog := X.prog) (w := X.w) I3.kIn D.at_ D.lit
  obtain ⟨r, er, hr⟩ := T.at_ st
  refine call_meetsIn PySem.F.slot_dict_get hm.typeIs PySem.F.entry_dict_get (PySem.F.args_dict_get_3 _ _ _) (meets_dict_get_default (strKind X.prog X.w) a (strKind_is X.prog X.w st t) D.low fv) ⟨_, hm, ?_⟩
  rw [PySem.W.find_K D.at_ er]
  cases hl : kvs.lookup st with
  | none =>
    rw [hl] at hr q3
    rw [hr]
    exact ⟨z, H3, I3.tok _, rz, q3⟩
  | some s' =>
    rw [hl] at hr q3
    obtain ⟨u, rfl, ru⟩ := hr
    exact ⟨.str s', H3, I3.tok _, ru, q3⟩
def dKGet (kvs : List (Str × Str)) (de df : DE) : DE := fun fr S Q => de fr S fun r S1 => df fr S1 fun q S2 => match r with
  | .dat (.str s) => Q (match kvs.lookup s with | some v => .dat (.str v) | none => q) S2
  | _ => False
theorem lift_kget {K : Fg} {de df : DE} (le : Lift K ty de) (lf : Lift K tx df) : Lift K (tKGet a kvs ty tx) (dKGet kvs de df) := by
  intro F H σ fr S L fo o C Q hd q
  refine le F H σ fr S L fo o _ _ hd fun y r S1 H1 o1 h1 => ?_
  refine lf F H1 σ fr S1 _ (fo.mono tl_mem) o1 _ _ h1 fun z d S2 H2 o2 h2 => ?_
  have hy := o2.live (y, r) (List.mem_cons_of_mem _ List.mem_cons_self)
  have hz := o2.live (z, d) List.mem_cons_self
  have o3 := o2.sub (fun e he => List.mem_cons_of_mem (z, d) (List.mem_cons_of_mem (y, r) he) : ∀ e ∈ L, e ∈ (z, d) :: (y, r) :: L)
  split at h2
  · rename_i st
    cases hy
    refine ⟨st, rfl, ?_⟩
    cases hl : kvs.lookup st with
    | none =>
      rw [hl] at h2
      exact q _ _ S2 H2 (o3.push hz) h2
    | some s' =>
      rw [hl] at h2
      exact q _ _ S2 H2 (o3.pd (.str _)) h2
  · exact h2.elim
theorem d_kget {de df : DE} {x : Str} {p : Pos} (T : KTab X.K X.w a kvs) (hg : Gl X x) (hm : X.mg x = some (.ref a)) (he : PD X e de) (hf : PD X f df) (hd : (x == ("__debug__" : Str)) = false := by decide)
    (h1 : attributeBase (.Name x p) "get" X.env (eval (.Name x p) X.env) = eval (.Name x p) X.env := by rfl)
    (h2 : ((backTo cpos (starEach [e, f] X.env)).all (fun x => !x.1) && (backToKw cpos (keywordEach [] X.env)).all (fun x => x.1.isSome)
      && decide (([e, f] : List Expr).length + ([] : List Keyword).length + (if ([] : List Keyword).isEmpty then 0 else 1) < 30)) = true := by rfl)
    (h3 : (apos.endLine == cpos.line) = true := by rfl)
    (h4 : backTo cpos (starEach [e, f] X.env) = [(false, eval e X.env), (false, eval f X.env)] := by rfl) : PD X (.Call (.Attribute (.Name x p) "get" apos) [e, f] [] cpos) (dKGet kvs de df) := by
  obtain ⟨_, p1, l1⟩ := he.ex
  obtain ⟨_, p2, l2⟩ := hf.ex
  exact ⟨_, pe_kget T (pe_glob (v := .ref a) hg hm rfl hd) p1 p2 ⟨h1, h2, h3, h4⟩, lift_kget l1 l2⟩
/-- a written tuple of texts -/
theorem d_globT {x : Str} {ns : List Str} {pos : Pos} (hg : Gl X x) (hm : X.mg x = some (.ref a)) (kt : KTup X.K a (ns.map V.str)) (hd : (x == ("__debug__" : Str)) = false := by decide) : PD X (.Name x pos) (dC (.dat (.tuple (ns.map PyData.str)))) :=
  ⟨_, pe_glob (v := .ref a) hg hm rfl hd, lift_c fun _ _ => Rep.tup (.inr kt) (RepAll.strs ns)⟩
theorem d_mulT {da db : DE} {pos : Pos} {b c : Expr} (ha : PD X b da) (hb : PD X c db) : PD X (.BinOp b .Mult c pos) (dOp fMulT da db) := d_opG (op_repT.or op_rep1) opd_mulT ha hb
end
/-! ### [.. for x in xs], xs a cell that stays -/
section
variable {K : Fg}
def ItKp (K : Fg) (J : It) (items : List R) (p : Addr) (L : Live) : Prop := ∀ (H : Hp) (T : SH) (L' : Live), Ok K H T L' → (∀ e ∈ L, e ∈ L') → Cell.lst p items ∈ T → ∀ i : Nat, (∀ r, items[i]? = some r → J.go i H ∧ ∀ x H', J.yld i H x H' → Ok K H' T ((x, r) :: L')) ∧ (items.length = i → J.stop i H)
theorem it_cell {p : Addr} {items : List R} {L : Live} : ItKp K (Itl K p) items p L := fun H T L' o s m i => by
  obtain ⟨vs, e1, q1⟩ := o.cells _ m
  have hl := paired_len q1
  refine ⟨fun r e => ?_, fun hi => ⟨vs, SqL.of e1, by rw [hl]; exact Nat.le_of_eq hi⟩⟩
  obtain ⟨v, ev, rv⟩ := paired_get' q1 e
  refine ⟨⟨vs, v, SqL.of e1, ev⟩, fun x H' y => ?_⟩
  obtain ⟨rfl, y⟩ := y
  have := y vs (SqL.of e1)
  rw [ev] at this
  cases this
  exact o.push rv
/-- the source: a cell -/
def dLcK (E : List R → SH → CR0 → Prop) (ds : DE) (i : Nat) (dt : DT) (de : DE) : DE := fun fr S C => ds fr S fun a S1 => match a with
  | .val (.ref p) => ∃ items : List R, Cell.lst p items ∈ S1 ∧ ∃ I : Nat → List R → SH → Prop, I 0 [] S1 ∧ (∀ k acc S, I k acc S → Cell.lst p items ∈ S) ∧
    (∀ k r acc S, items[k]? = some r → I k acc S → dt (fr.set i (some r)) S fun b S2 => if b = true then de (fr.set i (some r)) S2 fun y S3 => acc.length < 100000 ∧ I (k + 1) (acc ++ [y]) S3 else I (k + 1) acc S2) ∧
    ∀ acc S, I items.length acc S → E acc S C
  | _ => False
theorem lift_lcK {E : List R → SH → CR0 → Prop} (hE : EndD K E) {ts : TE} {ds : DE} {tt : TT} {dt : DT} {te : TE} {de : DE} {i : Nat} (ls : Lift K ts ds) (lt : LiftT K tt dt) (le : Lift K te de) : Lift K (tLc (iAny K ts) (gName i) tt te [i]) (dLcK E ds i dt de) := fun F H σ fr S L f o C Q h q => by
  refine ls F H σ fr S L f o _ _ h fun x a S1 H1 o1' h1 => ?_
  have hx := o1'.live _ List.mem_cons_self
  split at h1
  · rename_i p
    cases (show x = V.ref p from hx)
    obtain ⟨items, hm, I, i0, kp, st, dn⟩ := h1
    have o1 := o1'.sub tl_mem
    obtain ⟨vs0, e0, _⟩ := o1.cells _ (List.mem_append_left F hm)
    refine .inl ⟨p, rfl, ⟨_, SqL.of e0⟩, fun D hD => ?_⟩
    have o0 : OkF K (.lst D [] :: F) (upd H1 D (.lst [])) S1 L := (o1.lstC hD .nil).perm List.perm_middle.symm
    refine ⟨fun k m H => m = items.length - k ∧ k ≤ items.length ∧ ∃ S acc L', OkF K (.lst D acc :: F) H S L' ∧ (∀ e ∈ L, e ∈ L') ∧ I k acc S, ⟨items.length, by simp, Nat.zero_le _, S1, [], L, o0, fun _ z => z, i0⟩, ?_⟩
    rintro k m H2 ⟨rfl, hk, S2, acc, L2, o2, s2, i2⟩
    obtain ⟨go, sp⟩ := it_cell (K := K) (p := p) (items := items) (L := L) H2 _ L2 o2 s2 (List.mem_append_left _ (kp k acc S2 i2)) k
    by_cases hlt : k < items.length
    · obtain ⟨hg, hy⟩ := go _ (List.getElem?_eq_getElem hlt)
      refine .inr ⟨hg, fun H => ∃ S acc L', OkF K (.lst D acc :: F) H S L' ∧ (∀ e ∈ L, e ∈ L') ∧ I (k + 1) acc S, fun H' n => ⟨items.length - (k + 1), by omega, rfl, hlt, n⟩, fun x H3 y => ?_⟩
      have o3 : OkF K (.lst D acc :: F) H3 S2 ((x, items[k]) :: L2) := hy x H3 y
      show wipe ((wipe σ [i]).set i (some x)) [i] = wipe σ [i] ∧ _
      refine ⟨by simp [wipe], ?_⟩
      have f3 : FrOk ((wipe σ [i]).set i (some x)) (fr.set i (some items[k])) ((x, items[k]) :: L2) := by
        have e1 : (wipe σ [i]).set i (some x) = σ.set i (some x) := by simp [wipe]
        rw [e1]
        exact (f.mono fun z hz => List.mem_cons_of_mem _ (s2 z hz)).set List.mem_cons_self i
      refine lt _ H3 _ _ S2 _ f3 o3 _ _ (st k _ acc S2 (List.getElem?_eq_getElem hlt) i2) fun b S4 H4 o4 h4 => ?_
      cases b with
      | false => exact ⟨S4, acc, _, o4, fun z hz => List.mem_cons_of_mem _ (s2 z hz), h4⟩
      | true =>
        refine le _ H4 _ _ S4 _ f3 o4 _ _ h4 fun v r S5 H5 o5 h5 => ?_
        obtain ⟨vs, e5, q5⟩ := o5.cells _ (at_split (mid_get S5 F))
        refine ⟨vs, e5, by rw [paired_len q5]; exact big_lt h5.1, S5, acc ++ [r], (v, r) :: (x, items[k]) :: L2, ?_, fun z hz => List.mem_cons_of_mem _ (List.mem_cons_of_mem _ (s2 z hz)), h5.2⟩
        have o6 := o5.putL (mid_get S5 F) (paired_app q5 (.cons (o5.live (v, r) List.mem_cons_self) .nil))
        rw [List.set_append_right _ _ (Nat.le_refl _)] at o6
        simpa using o6
    · have ek : k = items.length := by omega
      subst ek
      obtain ⟨r, S', o', h'⟩ := hE F H2 S2 L2 D acc C o2 (dn acc S2 i2)
      exact .inl ⟨sp rfl, q _ r S' H2 (o'.sub (sub_cons s2)) h'⟩
  · exact h1.elim
end
section
variable {X : Cx} {a b c e iter : Expr} {da db dc de ds : DE} {dt : DT} {pos : Pos}
theorem d_lcK {E : List R → SH → CR0 → Prop} (hE : ∀ K, EndD K E) {elt : Expr} {x : Str} {p : Pos} {ifs : List Expr} {scope : Scope} {i : Nat} (hN : X.N.Nodup) (hi : PD X iter ds) (ok : BlkOk X.N X.env.scope scope [(x, i)])
    (hg : ∀ (s : Shared) (H : Hp) (C : Addr) (cl : List (Str × Addr)) (fp : List Addr), PG (X.blk s H scope (compEnvC scope cl C X.env) fp) (.Name x p) (gName i))
    (ht : ∀ (s : Shared) (H : Hp) (C : Addr) (cl : List (Str × Addr)) (fp : List Addr), PDTs (X.blk s H scope (compEnvC scope cl C X.env) fp) ifs dt)
    (he : ∀ (s : Shared) (H : Hp) (C : Addr) (cl : List (Str × Addr)) (fp : List Addr), PD (X.blk s H scope (compEnvC scope cl C X.env) fp) elt de)
    (hc : X.calm = true := by rfl) (hs : ∀ x, foldedSetIterable iter X.env x = pure x := by intro _; rfl) :
    PD X (.ListComp elt [⟨.Name x p, iter, ifs, 0⟩] scope pos) (dLcK E ds i dt de) := by
  obtain ⟨_, pi, li⟩ := hi.ex
  exact ⟨_, pe_lc (own := [(x, i)]) (te := toTE X.K de) (tt := toTT X.K dt) hc hN (pi_any pi) ok hg (fun s H C cl fp => (ht s H C cl fp).run) (fun s H C cl fp => (he s H C cl fp).pe) hs, lift_lcK (hE X.K) li (liftT_to dt) (lift_to de)⟩
end
end DL
set_option Elab.async false
set_option linter.all false
set_option maxRecDepth 100000
set_option maxHeartbeats 4000000
/-! DL: a list that is a cell against []; instances that are never changed behind their making. -/
namespace DL
open PySem PySem.Spec PyProof.Rows L2

def rNeE (K : Fg) : R2 := fun x y H Q => ∃ l b xs, x = .ref l ∧ y = .ref b ∧ SqL K H l xs ∧ SqL K H b [] ∧ Q (.bl (!xs.isEmpty)) H
theorem op_neE {X : Cx} (hu : X.A.units + 64 < cLine) : OpR X (compareOp .NotEq) (rNeE X.K) := by
  intro pins s σ H x y v u Q I rx ry h
  obtain ⟨l, b, xs, rfl, rfl, h1, h2, q⟩ := h
  cases rx
  cases ry
  obtain ⟨its, rv, p1, _⟩ := I.list h1
  obtain ⟨its2, rv2, p2, _⟩ := I.list h2
  cases rv2
  cases xs with
  | nil =>
    cases rv
    have h := SeqAt.RcNeAt.lists (A := X.A) (s := s) (e := fun _ => true) p1.isList p2.isList rfl (by omega) (fun j h1 h2 => absurd h1 (by simp))
    exact h X.prog X.w X.xe (EP X pins σ Q) ⟨.bl false, H, I, rfl, q⟩
  | cons a r =>
    cases rv with | cons ra rr =>
    have h := SeqAt.RcNeAt.lists_lengths (A := X.A) (s := s) p1.isList p2.isList (by simp) (by omega)
    exact h X.prog X.w X.xe (EP X pins σ Q) ⟨.bl true, H, I, rfl, q⟩
section
variable {K : Fg}
def fNeE : F2 := fun a b S C => match a, b with
  | .val (.ref p), .dat (.list []) => ∃ (j : Nat) (xs : List R), S[j]? = some (.lst p xs) ∧ C (.dat (.bool (!xs.isEmpty))) S
  | _, _ => False
theorem opd_neE : OpD K (rNeE K) fNeE := by
  intro F x y a b H S L C Q o hx hy hf q
  replace hx := o.live _ hx
  replace hy := o.live _ hy
  unfold fNeE at hf
  split at hf
  · rename_i p
    cases (show x = V.ref p from hx)
    obtain ⟨j, xs, hj, h⟩ := hf
    obtain ⟨vs, e1, q1⟩ := o.cells _ (at_split (in_app hj))
    cases hy with | lst e2 n2 q2 =>
    cases q2
    refine ⟨_, _, vs, rfl, rfl, SqL.of e1, SqL.of e2, q _ _ S H (o.pd (d := .bool (!xs.isEmpty)) ?_) h⟩
    have e : vs.isEmpty = xs.isEmpty := by
      cases q1 with
      | nil => rfl
      | cons _ _ => rfl
    rw [e]
    exact .bl _
  · exact hf.elim
/-- C(..), frozen at once -/
def dMakeF (C : Addr) (ks : List Str) (n : Nat) (sp : SpD) (da : DA) : DE := fun fr S Q => da fr S fun rs S1 => rs.length + 1 = n ∧ ∀ x, sp (.val (.ref x) :: rs) (.ins x C ks [] :: S1) fun r S2 => r = .dat .none ∧ ∃ vs S3, S2 = .ins x C ks vs :: S3 ∧ vs.length = ks.length ∧ Q (.obj C ks vs) S3
theorem lift_makeF {C : Addr} {ks : List Str} {n : Nat} {sp : SpD} {E : XK} {ta : TA} {da : DA} (l : LiftA K ta da) : Lift K (tMake C (toSp K n sp) [] E ta) (dMakeF C ks n sp da) := fun F H σ fr S L f o Q0 Q h q => by
  refine l F H σ fr S L f o _ _ h fun vs rs S1 H1 L1 o1 s1 lv h1 x dx hx hdx hne => ?_
  have o2 : OkF K F (upd H1 dx (.own x)) S1 L1 := o1.new hdx
  have hx2 : upd H1 dx (.own x) x = none := by rw [upd_ne (Ne.symm hne)]; exact hx
  have o3 : OkF K F (upd (upd H1 dx (.own x)) x (.ins C dx [])) (.ins x C ks [] :: S1) L1 := o2.cell (c := .ins x C ks []) rfl hx2 ⟨dx, [], by rw [List.zip_nil_right]; exact upd_same, Nat.zero_le _, .nil⟩
  have o4 := Ok.push (v := .ref x) (r := .val (.ref x)) o3 rfl
  refine ⟨?_, F, _, _, .val (.ref x) :: rs, fun r S2 => r = .dat .none ∧ ∃ vs S3, S2 = .ins x C ks vs :: S3 ∧ vs.length = ks.length ∧ Q0 (.obj C ks vs) S3, o4, ?_, h1.2 x, ?_⟩
  · rw [List.append_nil, List.length_cons, paired_len lv]; exact h1.1
  · rw [List.append_nil]
    exact .cons List.mem_cons_self (Lives.mono tl_mem lv)
  · rintro v r S2 H2 o5 ⟨rfl, ws, S3, rfl, hl, h2⟩
    have e : v = .non := by cases (o5.dat List.mem_cons_self); rfl
    have o6 : Ok K H2 (S3 ++ F) ((.ref x, .obj C ks ws) :: (v, .dat .none) :: (.ref x, .val (.ref x)) :: L1) := Ok.frzI (i := 0) o5 rfl hl
    refine ⟨e, q _ _ S3 H2 (o6.sub (sub_cons fun z hz => List.mem_cons_of_mem _ (List.mem_cons_of_mem _ (s1 z hz)))) h2⟩
end
section
variable {X : Cx} {a b e : Expr} {da db : DE} {dA : DA} {pos p : Pos} {es : List Expr} {C : Addr} {x : Str}
theorem d_neE (hu : X.A.units + 64 < cLine) (ha : PD X a da) (hb : PD X b db) : PD X (.Compare a [.NotEq] [b] pos) (dOp fNeE da db) := d_cmpG (op_neE hu) opd_neE ha hb (nomark _)
theorem t_neE (hu : X.A.units + 64 < cLine) (ha : PD X a da) (hb : PD X b db) : PDT X (.Compare a [.NotEq] [b] pos) (dTest (dOp fNeE da db)) := t_cmpG (op_neE hu) opd_neE ha hb (nomark _)
theorem d_makeF {sp : SpD} {k n : Nat} (ks : List Str) (d : DefI X.prog X.w X.K X.mg X.base x C k n sp) (hr : Room (k + 1) X.A) (hg : Gl X x) (ha : PDA X (e :: es) dA) (hdb : (x == ("__debug__" : Str)) = false := by decide) (he : starEach (e :: es) X.env = (false, eval e X.env) :: starEach es X.env := by rfl) (hpl : (backTo pos (starEach es X.env)).any (·.1) = false := by rfl) :
    PD X (.Call (.Name x p) (e :: es) [] pos) (dMakeF C ks n sp dA) := by
  obtain ⟨f, fd, ps, F, M, hb, hm⟩ := d.ex
  obtain ⟨_, p2, l2⟩ := ha.ex
  exact ⟨_, pe_make M F hr hg hm hb .nil pass0 p2 hdb he hpl, lift_makeF l2⟩
end
section
variable {X : Cx} {a b c e iter : Expr} {da db dc de ds : DE} {dt : DT} {pos : Pos}
/-- y = [.. for x in xs], xs a cell, y a local -/
theorem s_lcK {E : List R → SH → CR0 → Prop} (hE : ∀ K, EndD K E) {elt : Expr} {x y : Str} {p py spos : Pos} {ifs : List Expr} {scope : Scope} {i j : Nat} (hN : X.N.Nodup) (hi : PD X iter ds) (ok : BlkOk X.N X.env.scope scope [(x, i)])
    (hg : ∀ (s : Shared) (H : Hp) (C : Addr) (cl : List (Str × Addr)) (fp : List Addr), PG (X.blk s H scope (compEnvC scope cl C X.env) fp) (.Name x p) (gName i))
    (ht : ∀ (s : Shared) (H : Hp) (C : Addr) (cl : List (Str × Addr)) (fp : List Addr), PDTs (X.blk s H scope (compEnvC scope cl C X.env) fp) ifs dt)
    (he : ∀ (s : Shared) (H : Hp) (C : Addr) (cl : List (Str × Addr)) (fp : List Addr), PD (X.blk s H scope (compEnvC scope cl C X.env) fp) elt de)
    (hc : X.calm = true := by rfl) (hy : X.N[j]? = some y := by rfl) (hyl : X.env.scope.names.lookup y = some .local := by rfl)
    (hsw : swapsWith (.ListComp elt [⟨.Name x p, iter, ifs, 0⟩] scope pos) (some (.Name y py)) spos.line X.env = pure true := by exact sw_true rfl rfl rfl (by decide +kernel)) (hs : ∀ x, foldedSetIterable iter X.env x = pure x := by intro _; rfl) :
    PDS X (.Assign [.Name y py] (.ListComp elt [⟨.Name x p, iter, ifs, 0⟩] scope pos) spos) (sAsg (dLcK E ds i dt de) (gnm j)) := by
  obtain ⟨_, pi, li⟩ := hi.ex
  exact ⟨_, ps_setLc (own := [(x, i)]) (te := toTE X.K de) (tt := toTT X.K dt) hc hN hy hyl hsw (pi_any pi) ok hg (fun s H C cl fp => (ht s H C cl fp).run) (fun s H C cl fp => (he s H C cl fp).pe) hs, lift_asg (lift_lcK (hE X.K) li (liftT_to dt) (lift_to de)) (lift_name j)⟩
end
/-- a comprehension over a cell that stays: its elements by the items -/
theorem lcK_map {E : List R → SH → CR0 → Prop} {items : List R} {fr : Fr} {S : SH} {C : CR0} {i : Nat} {de : DE} {p : Addr} (g : R → R) (hm : Cell.lst p items ∈ S)
    (he : ∀ r, r ∈ items → ∀ C' : CR0, C' (g r) S → de (fr.set i (some r)) S C') (hl : items.length ≤ 100000) (h : E (items.map g) S C) : ∃ items' : List R, Cell.lst p items' ∈ S ∧ ∃ I : Nat → List R → SH → Prop, I 0 [] S ∧ (∀ k acc S, I k acc S → Cell.lst p items' ∈ S) ∧
    (∀ k r acc S, items'[k]? = some r → I k acc S → dYes (fr.set i (some r)) S fun b S2 => if b = true then de (fr.set i (some r)) S2 fun y S3 => acc.length < 100000 ∧ I (k + 1) (acc ++ [y]) S3 else I (k + 1) acc S2) ∧
    ∀ acc S, I items'.length acc S → E acc S C := by
  refine ⟨items, hm, fun k acc S' => S' = S ∧ acc = (items.take k).map g, ⟨rfl, rfl⟩, fun k acc S' z => by rw [z.1]; exact hm, ?_, ?_⟩
  · rintro k r acc S' hk ⟨rfl, rfl⟩
    have hmem : r ∈ items := List.mem_of_getElem? hk
    obtain ⟨hlt, _⟩ := List.getElem?_eq_some_iff.mp hk
    have et : items.take (k + 1) = items.take k ++ [r] := by rw [List.take_add_one, hk]; rfl
    refine he r hmem _ ⟨?_, rfl, ?_⟩
    · rw [List.length_map]
      have h2 := List.length_take_le k items
      omega
    · rw [et, List.map_append]; rfl
  · rintro acc S' ⟨rfl, rfl⟩
    rw [List.take_length]; exact h
end DL
set_option Elab.async false
set_option linter.all false
set_option maxRecDepth 100000
set_option maxHeartbeats 4000000
/-! The program's things as plain data: parts, rows, programs, what a row does. -/
namespace PM
open PySem PySem.Spec PyProof.Rows L2 DL

/-! ### loops over lists that are known -/
def loopD (dg : DG) (db : DS) (D : DEnds) : List R → Fr → SH → Prop
  | [] => D.nx
  | r :: rs => fun fr S => dg r fr S fun fr2 S2 => db { D with nx := loopD dg db D rs, ct := loopD dg db D rs, bk := D.nx } fr2 S2
theorem loop_unroll {dg : DG} {db : DS} {D : DEnds} {items : List R} {fr : Fr} {S : SH} (h : loopD dg db D items fr S) : ∃ I : Nat → Fr → SH → Prop, I 0 fr S ∧
    (∀ i r fr S, items[i]? = some r → I i fr S → dg r fr S fun fr2 S2 => db { D with nx := I (i + 1), ct := I (i + 1), bk := D.nx } fr2 S2) ∧ ∀ fr S, I items.length fr S → D.nx fr S := by
  refine ⟨fun i => loopD dg db D (items.drop i), h, fun i r fr S hi hI => ?_, fun fr S hI => ?_⟩
  · have e : items.drop i = r :: items.drop (i + 1) := by
      obtain ⟨hl, e⟩ := List.getElem?_eq_some_iff.mp hi
      rw [List.drop_eq_getElem_cons hl, e]
    have hI' : loopD dg db D (items.drop i) fr S := hI
    rw [e] at hI'
    exact hI'
  · have hI' : loopD dg db D (items.drop items.length) fr S := hI
    rw [List.drop_length] at hI'
    exact hI'
theorem at0 {α : Type} {x : α} {xs : List α} : atI (x :: xs) 0 = some x := atI_nat (j := 0) (by rfl)
/-! ### lists by what they hold, cells or data -/
theorem ix_lstR {S : SH} {r : R} {xs : List R} {i : Int} {x : R} {C : CR0} (h : lstR S r xs) (e : atI xs i = some x) (q : C x S) : fIx r (.dat (.int i)) S C := by
  cases r with
  | dat d =>
    cases d with
    | list ds =>
      cases (show xs = ds.map R.dat from h)
      unfold atI at e
      rw [List.length_map] at e
      cases e1 : ixN ds.length i with
      | none => rw [e1] at e; cases e
      | some j =>
        rw [e1] at e
        have e2 : (ds.map R.dat)[j]? = some x := e
        obtain ⟨d, ed, rfl⟩ := get_dat e2
        refine ⟨d, ?_, q⟩
        unfold atI
        rw [e1]; exact ed
    | _ => exact h.elim
  | val w =>
    cases w with
    | ref p =>
      obtain ⟨j, hj⟩ := h
      exact .inl ⟨j, xs, x, hj, e, q⟩
    | _ => exact h.elim
  | _ => exact h.elim
theorem len_lstR {S : SH} {r : R} {xs : List R} {C : CR0} (h : lstR S r xs) (q : C (.dat (.int xs.length)) S) : fLen [r] S C := by
  cases r with
  | dat d =>
    cases d with
    | list ds =>
      cases (show xs = ds.map R.dat from h)
      rw [List.length_map] at q
      exact q
    | _ => exact h.elim
  | val w =>
    cases w with
    | ref p =>
      obtain ⟨j, hj⟩ := h
      exact ⟨j, xs, hj, q⟩
    | _ => exact h.elim
  | _ => exact h.elim
theorem dlen_lstR {S : SH} {fr : Fr} {i : Nat} {r : R} {xs : List R} {C : CR0} (hi : fr[i]? = some (some r)) (h : lstR S r xs) (q : C (.dat (.int xs.length)) S) : dCB fLen (dCons (dVar i) dNil) fr S C := ⟨r, hi, len_lstR h q⟩
def iR (ns : List Int) : List R := ns.map fun n => R.dat (.int n)
theorem iR_at {ns : List Int} {i : Nat} (h : i < ns.length) : atI (iR ns) (i : Int) = some (.dat (.int (ns.getD i 0))) := by
  refine atI_nat ?_
  unfold iR
  rw [List.getElem?_map, List.getElem?_eq_getElem h, List.getD_eq_getElem?_getD, List.getElem?_eq_getElem h]
  rfl
theorem iR_len (ns : List Int) : (iR ns).length = ns.length := by simp [iR]
theorem toNat_cast {i : Int} (h : 0 ≤ i) : ((i.toNat : Nat) : Int) = i := by omega
/-! ### data: shaped -/
theorem lay_ints : ∀ xs : List Int, PyData.canLayAll0 (xs.map PyData.int) = true
  | [] => by rw [List.map_nil, PyData.canLayAll0]
  | x :: xs => by rw [List.map_cons, PyData.canLayAll0, lay_ints xs, PyData.canLay0]; rfl
theorem lay_app : ∀ {xs ys : List PyData}, PyData.canLayAll0 xs = true → PyData.canLayAll0 ys = true → PyData.canLayAll0 (xs ++ ys) = true
  | [], _, _, h => h
  | x :: xs, ys, h, g => by
    rw [PyData.canLayAll0] at h
    obtain ⟨h1, h2⟩ := Bool.and_eq_true_iff.mp h
    rw [List.cons_append, PyData.canLayAll0, h1, lay_app h2 g]; rfl
theorem lay_all : ∀ {xs : List PyData}, (∀ x ∈ xs, PyData.canLay0 x = true) → PyData.canLayAll0 xs = true
  | [], _ => by rw [PyData.canLayAll0]
  | x :: xs, h => by rw [PyData.canLayAll0, h x List.mem_cons_self, lay_all fun y hy => h y (List.mem_cons_of_mem _ hy)]; rfl
theorem depth_all {n : Nat} : ∀ {xs : List PyData}, (∀ x ∈ xs, x.depth ≤ n) → PyData.depthAll xs ≤ n
  | [], _ => by rw [PyData.depthAll]; exact Nat.zero_le _
  | x :: xs, h => by
    rw [PyData.depthAll]
    exact Nat.max_le.mpr ⟨h x List.mem_cons_self, depth_all fun y hy => h y (List.mem_cons_of_mem _ hy)⟩
theorem shaped_mk {d : PyData} (h : d.canLay0 = true) (g : d.depth ≤ 64) : SeqAt.shaped d = true := by
  unfold SeqAt.shaped
  rw [h, decide_eq_true g]; rfl
theorem eqOk_mk {d e : PyData} (h : SeqAt.shaped d = true) (g : SeqAt.shaped e = true) : eqOk d e = true := by
  unfold eqOk
  rw [h, g, Bool.and_self, Bool.or_true]
/-! ### parts -/
abbrev pairW : List Str := ["sum", "diff", "less"]
abbrev changeW : List Str := ["add", "put", "cut"]
inductive Op3 where
  | sum | diff | less
def Op3.word : Op3 → Str
  | .sum => "sum" | .diff => "diff" | .less => "less"
inductive Part where
  | num (n : Int)
  | name (n : Int)
  | op (o : Op3) (a b : Part)
def Part.dat : Part → PyData
  | .num n => .tuple [.str "num", .int n]
  | .name n => .tuple [.str "name", .int n]
  | .op o a b => .tuple [.str o.word, a.dat, b.dat]
def Part.deep : Part → Nat
  | .num _ => 1
  | .name _ => 1
  | .op _ a b => max a.deep b.deep + 1
def Part.ok (names : Int) : Part → Prop
  | .num n => 0 ≤ n ∧ n ≤ 10006
  | .name n => 0 ≤ n ∧ n < names
  | .op _ a b => a.ok names ∧ b.ok names
def Part.worth (ns : List Int) : Part → Int
  | .num n => n
  | .name n => ns.getD n.toNat 0
  | .op .less a b => if a.worth ns < b.worth ns then 1 else 0
  | .op .sum a b => (a.worth ns + b.worth ns) % 10007
  | .op .diff a b => (a.worth ns - b.worth ns) % 10007
theorem Part.nonneg {names : Int} {ns : List Int} (h : ∀ x ∈ ns, 0 ≤ x) : ∀ p : Part, p.ok names → 0 ≤ p.worth ns
  | .num n, hp => hp.1
  | .name n, _ => by
    unfold Part.worth
    rw [List.getD_eq_getElem?_getD]
    cases e : ns[n.toNat]? with
    | none => exact Int.le_refl _
    | some x => exact h x (List.mem_of_getElem? e)
  | .op .less a b, _ => by
    unfold Part.worth
    split <;> decide
  | .op .sum a b, _ => Int.emod_nonneg _ (by decide)
  | .op .diff a b, _ => Int.emod_nonneg _ (by decide)
theorem Part.depth : ∀ p : Part, p.dat.depth ≤ p.deep + 1
  | .num n => by simp [Part.dat, Part.deep, PyData.depth, PyData.depthAll]
  | .name n => by simp [Part.dat, Part.deep, PyData.depth, PyData.depthAll]
  | .op o a b => by
    have h1 := Part.depth a
    have h2 := Part.depth b
    simp only [Part.dat, Part.deep, PyData.depth, PyData.depthAll]
    omega
theorem Part.lay : ∀ p : Part, p.dat.canLay0 = true
  | .num n => by simp only [Part.dat, PyData.canLay0, PyData.canLayAll0]; decide +kernel
  | .name n => by simp only [Part.dat, PyData.canLay0, PyData.canLayAll0]; decide +kernel
  | .op o a b => by
    simp only [Part.dat, PyData.canLay0, PyData.canLayAll0, Part.lay a, Part.lay b]
    cases o <;> decide +kernel
theorem Part.deep_pos : ∀ p : Part, 1 ≤ p.deep
  | .num _ => Nat.le_refl _
  | .name _ => Nat.le_refl _
  | .op _ _ _ => Nat.le_add_left _ _
/-! ### rows -/
inductive PRow where
  | set (n : Int) (p : Part)
  | take (n : Int)
  | add (f : Int) (p : Part)
  | put (f : Int) (p q : Part)
  | cut (f : Int) (p : Part)
  | get (n f : Int) (p : Part)
  | size (n f : Int)
  | send (p : Part)
  | go (r : Int)
  | unl (n r : Int)
  | mark
def PRow.word : PRow → Str
  | .set _ _ => "set" | .take _ => "take" | .add _ _ => "add" | .put _ _ _ => "put" | .cut _ _ => "cut" | .get _ _ _ => "get" | .size _ _ => "size"
  | .send _ => "send" | .go _ => "go" | .unl _ _ => "unless" | .mark => "mark"
def PRow.args : PRow → List PyData
  | .set n p => [.int n, p.dat] | .take n => [.int n] | .add f p => [.int f, p.dat] | .put f p q => [.int f, p.dat, q.dat] | .cut f p => [.int f, p.dat]
  | .get n f p => [.int n, .int f, p.dat] | .size n f => [.int n, .int f] | .send p => [p.dat] | .go r => [.int r] | .unl n r => [.int n, .int r] | .mark => []
def PRow.dat (r : PRow) : PyData := .tuple (.str r.word :: r.args)
def PRow.shape : PRow → Str
  | .set _ _ => "nx" | .take _ => "n" | .add _ _ => "fx" | .put _ _ _ => "fxx" | .cut _ _ => "fx" | .get _ _ _ => "nfx" | .size _ _ => "nf"
  | .send _ => "x" | .go _ => "r" | .unl _ _ => "nr" | .mark => ""
def NumOk (n hi : Int) : Prop := 0 ≤ n ∧ n < hi
def PartOk (names : Int) (p : Part) : Prop := p.ok names ∧ p.deep ≤ 3
def PRow.ok (names files many : Int) : PRow → Prop
  | .set n p => NumOk n names ∧ PartOk names p
  | .take n => NumOk n names
  | .add f p => NumOk f files ∧ PartOk names p
  | .put f p q => NumOk f files ∧ PartOk names p ∧ PartOk names q
  | .cut f p => NumOk f files ∧ PartOk names p
  | .get n f p => NumOk n names ∧ NumOk f files ∧ PartOk names p
  | .size n f => NumOk n names ∧ NumOk f files
  | .send p => PartOk names p
  | .go r => NumOk r (many + 1)
  | .unl n r => NumOk n names ∧ NumOk r (many + 1)
  | .mark => True
theorem PRow.lay (r : PRow) : r.dat.canLay0 = true := by
  cases r <;> simp only [PRow.dat, PRow.word, PRow.args, PyData.canLay0, PyData.canLayAll0, Part.lay] <;> decide +kernel
theorem PRow.depth {names files many : Int} {r : PRow} (h : r.ok names files many) : r.dat.depth ≤ 5 := by
  cases r with
  | set n p => have := p.depth; have := h.2.2; simp only [PRow.dat, PRow.word, PRow.args, PyData.depth, PyData.depthAll]; omega
  | take n => simp [PRow.dat, PRow.word, PRow.args, PyData.depth, PyData.depthAll]
  | add f p => have := p.depth; have := h.2.2; simp only [PRow.dat, PRow.word, PRow.args, PyData.depth, PyData.depthAll]; omega
  | put f p q => have := p.depth; have := q.depth; have := h.2.1.2; have := h.2.2.2; simp only [PRow.dat, PRow.word, PRow.args, PyData.depth, PyData.depthAll]; omega
  | cut f p => have := p.depth; have := h.2.2; simp only [PRow.dat, PRow.word, PRow.args, PyData.depth, PyData.depthAll]; omega
  | get n f p => have := p.depth; have := h.2.2.2; simp only [PRow.dat, PRow.word, PRow.args, PyData.depth, PyData.depthAll]; omega
  | size n f => simp [PRow.dat, PRow.word, PRow.args, PyData.depth, PyData.depthAll]
  | send p => have := p.depth; have := h.2; simp only [PRow.dat, PRow.word, PRow.args, PyData.depth, PyData.depthAll]; omega
  | go r => simp [PRow.dat, PRow.word, PRow.args, PyData.depth, PyData.depthAll]
  | unl n r => simp [PRow.dat, PRow.word, PRow.args, PyData.depth, PyData.depthAll]
  | mark => simp [PRow.dat, PRow.word, PRow.args, PyData.depth, PyData.depthAll]
/-! ### programs -/
structure Prog where
  names : Int
  files : Int
  rows : List PRow
def Prog.dat (p : Prog) : PyData := .tuple [.int p.names, .int p.files, .tuple (p.rows.map PRow.dat)]
structure Prog.ok (p : Prog) : Prop where
  n : 1 ≤ p.names ∧ p.names ≤ 8
  f : 1 ≤ p.files ∧ p.files ≤ 4
  l : p.rows.length ≤ 60
  r : ∀ r ∈ p.rows, r.ok p.names p.files p.rows.length
def HandedOk (hs : List Int) : Prop := hs.length ≤ 40 ∧ ∀ x ∈ hs, 0 ≤ x ∧ x ≤ 10006
/-! ### classes' fields -/
abbrev FE : List Str := ["row", "taken", "name", "number", "file", "at", "old", "new", "letter", "fault"]
abbrev FM : List Str := ["row", "names", "taken", "passed", "letters"]
abbrev FI : List Str := ["row", "names", "taken", "passed", "letters", "since", "noted", "out", "again"]
abbrev FW : List Str := ["rows", "handed", "way", "often", "held", "letters", "mark", "jots", "made", "over", "inner", "count"]
theorem le_ok {a b : Nat} (h : Nat.ble a b = true) : a ≤ b := Nat.le_of_ble_eq_true h
/-! ### what is kept of lists -/
theorem lstR_cons {S : SH} {r : R} {xs : List R} (c : Cell) (h : lstR S r xs) : lstR (c :: S) r xs := by
  cases r with
  | dat d => cases d <;> exact h
  | val v =>
    cases v with
    | ref p =>
      obtain ⟨j, hj⟩ := h
      exact ⟨j + 1, by simpa using hj⟩
    | _ => exact h
  | _ => exact h
theorem lstR_set {S : SH} {r : R} {xs : List R} {j : Nat} {p C : Addr} {ks : List Str} {rs : List R} (hj : S[j]? = some (.ins p C ks rs)) (c : Cell) (h : lstR S r xs) : lstR (S.set j c) r xs := by
  cases r with
  | dat d => cases d <;> exact h
  | val v =>
    cases v with
    | ref p =>
      obtain ⟨i, hi⟩ := h
      refine ⟨i, ?_⟩
      rw [List.getElem?_set]
      split
      · rename_i e
        subst e
        rw [hj] at hi
        cases hi
      · exact hi
    | _ => exact h
  | _ => exact h
theorem cut_from {α : Type} (xs : List α) {i : Int} (h : 0 ≤ i) : cutD xs (some i) none = xs.drop i.toNat := by
  unfold DL.cutD
  have e : HT.sIx xs.length 0 (some i) = min i.toNat xs.length := by
    have := HT.sIx_nat xs.length 0 i.toNat
    rw [toNat_cast h] at this
    exact this
  rw [e, HT.sIx_none]
  by_cases hl : i.toNat ≤ xs.length
  · rw [Nat.min_eq_left hl, List.take_of_length_le (by rw [List.length_drop]; exact Nat.le_refl _)]
  · rw [Nat.min_eq_right (by omega), List.drop_length, List.drop_eq_nil_of_le (by omega)]
    simp
theorem cut_to {α : Type} (xs : List α) {i : Int} (h : 0 ≤ i) : cutD xs none (some i) = xs.take i.toNat := by
  unfold DL.cutD
  have e : HT.sIx xs.length xs.length (some i) = min i.toNat xs.length := by
    have := HT.sIx_nat xs.length xs.length i.toNat
    rw [toNat_cast h] at this
    exact this
  rw [e, HT.sIx_none]
  simp only [List.drop_zero, Nat.sub_zero]
  by_cases hl : i.toNat ≤ xs.length
  · rw [Nat.min_eq_left hl]
  · rw [Nat.min_eq_right (by omega), List.take_of_length_le (Nat.le_refl _), List.take_of_length_le (by omega)]
/-! ### what a row does -/
structure Eff where
  row : Int
  taken : Int
  name : Option Int
  number : Option Int
  file : Option Int
  pos : Int
  old : List Int
  new : List Int
  letter : Option Int
  fault : Option Str
def optI : Option Int → PyData
  | none => .none
  | some i => .int i
def optS : Option Str → PyData
  | none => .none
  | some i => .str i
def tupI (ns : List Int) : PyData := .tuple (ns.map PyData.int)
def lstI (ns : List Int) : PyData := .list (ns.map PyData.int)
def Eff.rs (e : Eff) : List R := [.dat (.int e.row), .dat (.int e.taken), .dat (optI e.name), .dat (optI e.number), .dat (optI e.file), .dat (.int e.pos), .dat (tupI e.old), .dat (tupI e.new), .dat (optI e.letter), .dat (optS e.fault)]
def eff0 (row taken : Int) : Eff := ⟨row, taken, none, none, none, 0, [], [], none, none⟩
def fileR (fs : List (List Int)) : List R := fs.map fun f => .dat (lstI f)
def changedE (e : Eff) (f : Int) (held : List Int) (at_ : Nat) (new : List Int) : Eff := { e with file := some f, pos := at_, old := held.drop at_, new := new }
def effect (row : PRow) (at_ taken : Int) (ns hs : List Int) (fs : List (List Int)) : Eff :=
  let e := eff0 (at_ + 1) taken
  match row with
  | .set n p => { e with name := some n, number := some (p.worth ns) }
  | .size n f => { e with name := some n, number := some ((fs.getD f.toNat []).length : Int) }
  | .take n => if taken = (hs.length : Int) then { e with name := some n, fault := some "none", taken := taken + 1 } else { e with name := some n, number := some (hs.getD taken.toNat 0), taken := taken + 1 }
  | .get n f p => if ((fs.getD f.toNat []).length : Int) ≤ p.worth ns then { e with name := some n, fault := some "place" } else { e with name := some n, number := some ((fs.getD f.toNat []).getD (p.worth ns).toNat 0) }
  | .add f p => let h := fs.getD f.toNat []; changedE (if h.length = 40 then { e with fault := some "full" } else e) f h h.length [p.worth ns]
  | .put f p q => let h := fs.getD f.toNat []; changedE (if (h.length : Int) ≤ p.worth ns then { e with fault := some "place" } else e) f h (p.worth ns).toNat (q.worth ns :: h.drop ((p.worth ns).toNat + 1))
  | .cut f p => let h := fs.getD f.toNat []; changedE e f h (min (p.worth ns).toNat h.length) []
  | .send p => { e with letter := some (p.worth ns) }
  | .go r => { e with row := r }
  | .unl n r => if ns.getD n.toNat 0 = 0 then { e with row := r } else e
  | .mark => e
theorem fileR_at {fs : List (List Int)} {i : Nat} (h : i < fs.length) : atI (fileR fs) (i : Int) = some (.dat (lstI (fs.getD i []))) := by
  refine atI_nat ?_
  unfold fileR
  rw [List.getElem?_map, List.getElem?_eq_getElem h, List.getD_eq_getElem?_getD, List.getElem?_eq_getElem h]
  rfl
theorem fileR_len (fs : List (List Int)) : (fileR fs).length = fs.length := by simp [fileR]
end PM
set_option Elab.async false
set_option linter.all false
set_option maxRecDepth 100000
set_option maxHeartbeats 4000000
namespace K17
open PySem PySem.Spec PyProof.Rows L2 DL PM
def topS (i : Nat) : Stmt := PySem.Challenge.pw_longwork_k17_whole_redone_as_reckoned.main.body.getD i (.Pass ⟨0, 0, 0, 0⟩)
section
variable {P : Program} {w : World} {K : Fg} {mg : Str → Option Value} {base : Heap}
/-! is_number -/
def isNum : PyData → Int → Int → Bool
  | .int i, lo, hi => decide (lo ≤ i) && decide (i ≤ hi)
  | _, _, _ => false
def spIsNumber : SpD := fun rs S C => ∃ d lo hi, rs = [.dat d, .dat (.int lo), .dat (.int hi)] ∧ kdOf d ≠ none ∧ C (.dat (.bool (isNum d lo hi))) S
abbrev s_is_number : Stmt := topS 23
abbrev N_is_number : List Str := ["part", "low", "high"]
theorem sc_is_number : FnScope N_is_number ["part", "low", "high"] (defScope s_is_number) := ⟨rfl, rfl, rfl, by decide +kernel, rfl, by decide +kernel, by decide +kernel⟩
theorem ok_is_number {k : Nat} (F : FunAt K mg "is_number" s_is_number ["part", "low", "high"]) (B : Blt mg) : Def P w K mg base "is_number" (k + 1) 3 spIsNumber := by
  refine okF F sc_is_number rfl fun cdv A outer s H E f hr => ⟨_,
    (ss_one (s_ret (d_and (d_isi kit_int (by rfl) B.isinstance (a_cons (dv 0) (a_cons (d_bltn (v := .ty "int") (by rfl) B.int (by decide +kernel) rfl) a_nil))) (d_and (d_not (d_isi kit_bool (by rfl) B.isinstance (a_cons (dv 0) (a_cons (d_bltn (v := .ty "bool") (by rfl) B.bool (by decide +kernel) rfl) a_nil)))) (d_one (d_leLe (dv 1) (dv 0) (dv 2)))))))
    , ?_⟩
  intro rs S C hl h
  obtain ⟨d, lo, hi, rfl, hk, h⟩ := h
  cases d with
  | int i =>
    refine ⟨_, rfl, rfl, _, rfl, iteTb rfl ⟨_, rfl, rfl, _, rfl, iteTb rfl ⟨_, rfl, _, rfl, ite2d (fun h1 => ?_) (fun h1 => ?_)⟩⟩⟩
    · refine ⟨_, rfl, ?_⟩
      have e : isNum (.int i) lo hi = decide (i ≤ hi) := by simp [isNum, h1]
      rw [e] at h
      exact h
    · have e : isNum (.int i) lo hi = false := by simp [isNum, h1]
      rw [e] at h
      exact h
  | dict kvs => exact absurd rfl hk
  | bool b => exact ⟨_, rfl, rfl, _, rfl, iteTb rfl ⟨_, rfl, rfl, _, rfl, iteFb rfl h⟩⟩
  | _ => exact ⟨_, rfl, rfl, _, rfl, iteFb rfl h⟩
theorem isNum_yes {i lo hi : Int} (h : lo ≤ i ∧ i ≤ hi) : isNum (.int i) lo hi = true := by simp [isNum, h.1, h.2]
/-! is_part -/
def spIsPart (n : Nat) : SpD := fun rs S C => ∃ (p : Part) (names deep : Int), rs = [.dat p.dat, .dat (.int names), .dat (.int deep)] ∧ p.ok names ∧ (p.deep : Int) ≤ deep ∧ p.deep ≤ n ∧ p.deep ≤ 60 ∧ C (.dat (.bool true)) S
theorem Def.never {x : Str} {st : Stmt} {ps : List Str} {k n : Nat} (Fn : FunAt K mg x st ps) : Def P w K mg base x k n (fun _ _ _ => False) := by
  obtain ⟨f, fd, Fu, hm, hb⟩ := Fn.ex
  exact ⟨f, fd, ps, ⟨fun vs H Q E h => by obtain ⟨_, _, _, _, _, _, _, _, z, _⟩ := h; exact z.elim, fun A outer s H args us vs Q E _ _ _ _ h => by obtain ⟨_, _, _, _, _, _, _, _, z, _⟩ := h; exact z.elim⟩, hm, Fu.kp, hb⟩
abbrev s_is_part : Stmt := topS 24
abbrev N_is_part : List Str := ["part", "names", "deep"]
theorem sc_is_part : FnScope N_is_part ["part", "names", "deep"] (defScope s_is_part) := ⟨rfl, rfl, rfl, by decide +kernel, rfl, by decide +kernel, by decide +kernel⟩
theorem part_body {n k : Nat} {spR : SpD} {a1 : Addr} {t1 : Tok} (F : FunAt K mg "is_part" s_is_part ["part", "names", "deep"]) (B : Blt mg) (D : Def P w K mg base "is_part" (k + 1) 3 spR) (D1 : Def P w K mg base "is_number" 1 3 spIsNumber) (hR : ∀ m rs S C, m + 1 = n → spIsPart m rs S C → spR rs S C)
    (c1 : mg "PAIRS" = some (.ref a1)) (k1 : KTup K a1 (pairW.map V.str)) (c2 : mg "REST" = some (.int 10007 t1)) : Def P w K mg base "is_part" (k + 2) 3 (spIsPart n) := by
  refine okF F sc_is_part rfl fun cdv A outer s H E f hr => ⟨_,
    (ss_cons (s_if (PDW.pt (w_or (t_eq hr.units (dv 2) d_int) (w_or (t_not (t_val (d_isi kit_tuple (by rfl) B.isinstance (a_cons (dv 0) (a_cons (d_bltn (v := .ty "tuple") (by rfl) B.tuple (by decide +kernel) rfl) a_nil))))) (w_or (t_eq hr.units (dv 0) (d_tup a_nil)) (w_or1 (t_not (t_val (d_isi kit_str (by rfl) B.isinstance (a_cons (d_ix (hu_of hr) (dv 0) d_int) (a_cons (d_bltn (v := .ty "str") (by rfl) B.str (by decide +kernel) rfl) a_nil))))))))))
      (ss_one (s_ret d_bl))
      ss_nil)
      (ss_cons (s_if (t_in (d_ix (hu_of hr) (dv 0) d_int) (d_globT (ns := pairW) (by rfl) c1 k1))
      (ss_one (s_ret (d_and (d_eq hr.units (d_len (by rfl) B.len (a_cons (dv 0) a_nil)) d_int) (d_and (d_callF D (hr.mono (by omega)) (by rfl) (a_cons (d_ix (hu_of hr) (dv 0) d_int) (a_cons (dv 1) (a_cons (d_sub (dv 2) d_int) a_nil)))) (d_one (d_callF D (hr.mono (by omega)) (by rfl) (a_cons (d_ix (hu_of hr) (dv 0) d_int) (a_cons (dv 1) (a_cons (d_sub (dv 2) d_int) a_nil)))))))))
      ss_nil)
      (ss_cons (s_if (PDW.pt (w_or (t_ne hr.units (d_len (by rfl) B.len (a_cons (dv 0) a_nil)) d_int) (w_or1 (t_notIn (d_ix (hu_of hr) (dv 0) d_int) (d_tup (a_cons d_str (a_cons d_str a_nil)))))))
      (ss_one (s_ret d_bl))
      ss_nil)
      (ss_one (s_ret (d_callF D1 (hr.mono (by omega)) (by rfl) (a_cons (d_ix (hu_of hr) (dv 0) d_int) (a_cons d_int (a_cons (d_if (t_eq hr.units (d_ix (hu_of hr) (dv 0) d_int) d_str) (d_sub (d_globI (by rfl) c2) d_int) (d_sub (dv 1) d_int)) a_nil)))))))))
    , ?_⟩
  intro rs S C hl h
  obtain ⟨p, names, deep, rfl, hp, hd, hn, h60, h⟩ := h
  have hpos := p.deep_pos
  have hsh : SeqAt.shaped p.dat = true := shaped_mk p.lay (by have := p.depth; omega)
  have he : eqOk p.dat (.tuple []) = true := eqOk_mk hsh (by decide)
  have hz : PyData.eqv (.int deep) (.int 0) = false := by simp [PyData.eqv]; omega
  have e0 : ∀ (x : PyData) (xs : List PyData), PyData.eqv (.tuple (x :: xs)) (.tuple []) = false := fun x xs => by rw [PyData.eqv, PyData.eqvAll]
  cases p with
  | num n =>
    refine ⟨_, rfl, rfl, iteFb hz ⟨_, rfl, rfl, _, rfl, iteFb rfl ⟨_, rfl, Nat.zero_le _, _, rfl, he, iteFb (e0 _ _) ⟨_, rfl, ⟨_, rfl, rfl, _, rfl, iteFb rfl ?_⟩⟩⟩⟩⟩
    refine ⟨_, rfl, _, rfl, rfl, rfl, iteFb rfl ?_⟩
    refine ⟨_, rfl, rfl, iteFb rfl ⟨_, rfl, _, rfl, by simp, _, rfl, rfl, rfl, iteFb rfl ?_⟩⟩
    refine ⟨_, rfl, _, rfl, _, rfl, _, rfl, rfl, iteTb rfl ⟨rfl, _, _, _, rfl, (fun z => nomatch z), ?_⟩⟩
    rw [isNum_yes ⟨hp.1, by have := hp.2; omega⟩]
    exact h
  | name n =>
    refine ⟨_, rfl, rfl, iteFb hz ⟨_, rfl, rfl, _, rfl, iteFb rfl ⟨_, rfl, Nat.zero_le _, _, rfl, he, iteFb (e0 _ _) ⟨_, rfl, ⟨_, rfl, rfl, _, rfl, iteFb rfl ?_⟩⟩⟩⟩⟩
    refine ⟨_, rfl, _, rfl, rfl, rfl, iteFb rfl ?_⟩
    refine ⟨_, rfl, rfl, iteFb rfl ⟨_, rfl, _, rfl, by simp, _, rfl, rfl, rfl, iteFb rfl ?_⟩⟩
    refine ⟨_, rfl, _, rfl, _, rfl, _, rfl, rfl, iteFb rfl ⟨_, rfl, rfl, _, _, _, rfl, (fun z => nomatch z), ?_⟩⟩
    rw [isNum_yes ⟨hp.1, by have := hp.2; omega⟩]
    exact h
  | op o a b =>
    have hm : ∃ m, m + 1 = n := ⟨n - 1, by omega⟩
    obtain ⟨m, hm⟩ := hm
    have hda : a.deep + 1 ≤ (Part.op o a b).deep := by simp only [Part.deep]; omega
    have hdb : b.deep + 1 ≤ (Part.op o a b).deep := by simp only [Part.deep]; omega
    refine ⟨_, rfl, rfl, iteFb hz ⟨_, rfl, rfl, _, rfl, iteFb rfl ⟨_, rfl, Nat.zero_le _, _, rfl, he, iteFb (e0 _ _) ⟨_, rfl, ⟨_, rfl, rfl, _, rfl, iteFb rfl ?_⟩⟩⟩⟩⟩
    have hw : inD (.str o.word) (pairW.map PyData.str) = true := by cases o <;> rfl
    refine ⟨_, rfl, _, rfl, rfl, rfl, iteTb hw ?_⟩
    refine ⟨_, rfl, rfl, iteTb rfl ⟨_, rfl, _, rfl, _, rfl, _, rfl, rfl, hR m _ _ _ hm ⟨a, names, deep - 1, rfl, hp.1, by omega, by omega, by omega, iteTb rfl ?_⟩⟩⟩
    exact ⟨_, rfl, _, rfl, _, rfl, _, rfl, rfl, hR m _ _ _ hm ⟨b, names, deep - 1, rfl, hp.2, by omega, by omega, by omega, h⟩⟩
theorem ok_is_part {a1 : Addr} {t1 : Tok} (F : FunAt K mg "is_part" s_is_part ["part", "names", "deep"]) (B : Blt mg) (D1 : Def P w K mg base "is_number" 1 3 spIsNumber)
    (c1 : mg "PAIRS" = some (.ref a1)) (k1 : KTup K a1 (pairW.map V.str)) (c2 : mg "REST" = some (.int 10007 t1)) : ∀ n : Nat, Def P w K mg base "is_part" (n + 2) 3 (spIsPart n)
  | 0 => part_body F B (Def.never F) D1 (fun m _ _ _ h _ => by omega) c1 k1 c2
  | n + 1 => part_body F B (ok_is_part F B D1 c1 k1 c2 n) D1 (fun m rs S C h q => by
    have e : m = n := by omega
    subst e
    exact q) c1 k1 c2
end
end K17
set_option Elab.async false
set_option linter.all false
set_option maxRecDepth 100000
set_option maxHeartbeats 4000000
namespace K17P
open PySem PySem.Spec PyProof.Rows L2 DL K17
section
variable {P : Program} {w : World} {K : Fg} {mg : Str → Option Value} {base : Heap}
/-! need_plan -/
structure PlanOk (ws fs : List Int) (pr : Int) : Prop where
  hw : ∀ w ∈ ws, 1 ≤ w ∧ w ≤ 99
  hwl : ws.length ≤ 60
  hf : ∀ f ∈ fs, 0 ≤ f ∧ f ≤ ws.length
  hfs : fs.Pairwise (· ≤ ·)
  hfl : fs.length ≤ 20
  hp : 0 ≤ pr ∧ pr ≤ 999
def spNeedPlan : SpD := fun rs S C => ∃ ws fs pr, rs = [.dat (.list (ws.map PyData.int)), .dat (.list (fs.map PyData.int)), .dat (.int pr)] ∧ PlanOk ws fs pr ∧ C (.dat .none) S
theorem isNum_yes {i lo hi : Int} (h : lo ≤ i ∧ i ≤ hi) : (!isNum (.int i) lo hi) = false := by simp [isNum, h.1, h.2]
abbrev s_need_plan : Stmt := topS 47
abbrev N_need_plan : List Str := ["weights", "falls", "price", "number", "weight", "last", "fall"]
theorem sc_need_plan : FnScope N_need_plan ["weights", "falls", "price"] (defScope s_need_plan) := ⟨rfl, rfl, rfl, by decide +kernel, rfl, by decide +kernel, by decide +kernel⟩
theorem ok_need_plan {k : Nat} {t1 t2 t3 t4 : Tok} (F : FunAt K mg "need_plan" s_need_plan ["weights", "falls", "price"]) (B : Blt mg) (D1 : Def P w K mg base "is_number" 1 3 spIsNumber) (c1 : mg "MOST_WEIGHTS" = some (.int 60 t1)) (c2 : mg "MOST_WEIGHT" = some (.int 99 t2)) (c3 : mg "MOST_FALLS" = some (.int 20 t3)) (c4 : mg "MOST_PRICE" = some (.int 999 t4)) :
    Def P w K mg base "need_plan" (k + 2) 3 spNeedPlan := by
  refine okF F sc_need_plan rfl fun cdv A outer s H E f hr => ⟨_,
    (ss_cons (s_for (i_enum (by rfl) B.enumerate (a_cons (dv 0) a_nil)) (g_tup (gs_cons (g_name (i := 3) sc_need_plan.nd) (gs_cons (g_name (i := 4) sc_need_plan.nd) gs_nil)))
      (ss_one (s_if (PDW.pt (w_or (t_ge (dv 3) (d_globI (by rfl) c1)) (w_or1 (t_not (t_val (d_callF D1 (hr.mono (by omega)) (by rfl) (a_cons (dv 4) (a_cons d_int (a_cons (d_globI (by rfl) c2) a_nil)))))))))
      (ss_one s_never)
      ss_nil)))
      (ss_cons (s_set (i := 5) sc_need_plan.nd d_int)
      (ss_cons (s_for (i_enum (by rfl) B.enumerate (a_cons (dv 1) a_nil)) (g_tup (gs_cons (g_name (i := 3) sc_need_plan.nd) (gs_cons (g_name (i := 6) sc_need_plan.nd) gs_nil)))
      (ss_cons (s_if (PDW.pt (w_or (t_ge (dv 3) (d_globI (by rfl) c3)) (w_or1 (t_not (t_val (d_callF D1 (hr.mono (by omega)) (by rfl) (a_cons (dv 6) (a_cons (dv 5) (a_cons (d_len (by rfl) B.len (a_cons (dv 0) a_nil)) a_nil)))))))))
      (ss_one s_never)
      ss_nil)
      (ss_one (s_set (i := 5) sc_need_plan.nd (dv 6)))))
      (ss_one (s_if (t_not (t_val (d_callF D1 (hr.mono (by omega)) (by rfl) (a_cons (dv 2) (a_cons d_int (a_cons (d_globI (by rfl) c4) a_nil))))))
      (ss_one s_never)
      ss_nil)))))
    , ?_⟩
  intro rs S C hl h
  obtain ⟨ws, fs, pr, rfl, ok, h⟩ := h
  refine ⟨_, rfl, fun i fr S' => S' = S ∧ ∃ a b, fr = [some (.dat (.list (ws.map PyData.int))), some (.dat (.list (fs.map PyData.int))), some (.dat (.int pr)), a, b, none, none], ⟨rfl, none, none, rfl⟩, ?_, ?_⟩
  · rintro i r fr S' hi ⟨rfl, a, b, rfl⟩
    obtain ⟨d, hd, rfl⟩ := enum_get hi
    obtain ⟨x, hx, rfl⟩ := get_ints hd
    have hlt := (List.getElem?_eq_some_iff.mp hx).1
    have hwl := ok.hwl
    refine ⟨rfl, rfl, _, rfl, iteFd (by omega) ⟨_, rfl, rfl, _, _, _, rfl, (fun z => nomatch z), iteFb (isNum_yes (ok.hw x (List.mem_of_getElem? hx))) ?_⟩⟩
    exact ⟨rfl, _, _, rfl⟩
  · rintro fr S' ⟨rfl, a, b, rfl⟩
    refine ⟨_, rfl, fun i fr S'' => S'' = S' ∧ ∃ (a b c : Option R) (l : Int), fr = [some (.dat (.list (ws.map PyData.int))), some (.dat (.list (fs.map PyData.int))), some (.dat (.int pr)), a, b, some (.dat (.int l)), c] ∧ ∀ x, fs[i]? = some x → l ≤ x, ⟨rfl, _, _, _, 0, rfl, fun x hx => (ok.hf x (List.mem_of_getElem? hx)).1⟩, ?_, ?_⟩
    · rintro i r fr S' hi ⟨rfl, a, b, c, l, rfl, hle⟩
      obtain ⟨d, hd, rfl⟩ := enum_get hi
      obtain ⟨x, hx, rfl⟩ := get_ints hd
      have hlt := (List.getElem?_eq_some_iff.mp hx).1
      have hfl := ok.hfl
      have hb := ok.hf x (List.mem_of_getElem? hx)
      refine ⟨rfl, rfl, _, rfl, iteFd (by omega) ⟨_, rfl, _, rfl, _, rfl, rfl, _, _, _, rfl, (fun z => nomatch z), iteFb (isNum_yes ⟨hle x hx, by rw [List.length_map]; exact hb.2⟩) ?_⟩⟩
      refine ⟨_, rfl, rfl, _, _, _, x, rfl, fun y hy => ?_⟩
      obtain ⟨h1, e1⟩ := List.getElem?_eq_some_iff.mp hx
      obtain ⟨h2, e2⟩ := List.getElem?_eq_some_iff.mp hy
      have := List.pairwise_iff_getElem.mp ok.hfs i (i + 1) h1 h2 (by omega)
      rw [e1, e2] at this
      exact this
    · rintro fr S' ⟨rfl, a, b, c, l, rfl, hle⟩
      refine ⟨_, rfl, rfl, _, _, _, rfl, (fun z => nomatch z), iteFb (isNum_yes ok.hp) ?_⟩
      exact h
/-! redone -/
def redone (ws fs : List Int) (b e : Int) : Int := ((fs.filter fun f => decide (b ≤ f) && decide (f < e)).map fun f => (cutD ws (some b) (some f)).sum).sum
def spRedone : SpD := fun rs S C => ∃ ws fs b e, rs = [.dat (.list (ws.map PyData.int)), .dat (.list (fs.map PyData.int)), .dat (.int b), .dat (.int e)] ∧ fs.length ≤ 1000 ∧ C (.dat (.int (redone ws fs b e))) S
abbrev s_redone : Stmt := topS 49
abbrev N_redone : List Str := ["weights", "falls", "begin", "end", "fall"]
theorem sc_redone : FnScope N_redone ["weights", "falls", "begin", "end"] (defScope s_redone) := ⟨rfl, rfl, rfl, by decide +kernel, rfl, by decide +kernel, by decide +kernel⟩
def pR (b e : Int) : R → Bool
  | .dat (.int f) => decide (b ≤ f) && decide (f < e)
  | _ => false
def gR (ws : List Int) (b : Int) : R → R
  | .dat (.int f) => .dat (.int (cutD ws (some b) (some f)).sum)
  | r => r
theorem redone_list (ws : List Int) (b e : Int) : ∀ fs : List Int, (((fs.map PyData.int).map R.dat).filter (pR b e)).map (gR ws b) = (((fs.filter fun f => decide (b ≤ f) && decide (f < e)).map fun f => (cutD ws (some b) (some f)).sum).map PyData.int).map R.dat
  | [] => rfl
  | f :: fs => by
    have ih := redone_list ws b e fs
    rw [List.map_cons, List.map_cons, List.filter_cons, List.filter_cons]
    have e1 : pR b e (.dat (.int f)) = (decide (b ≤ f) && decide (f < e)) := rfl
    rw [e1]
    split
    · rw [List.map_cons, List.map_cons, List.map_cons, List.map_cons, ih]; rfl
    · exact ih
theorem ok_redone {k : Nat} (F : FunAt K mg "redone" s_redone ["weights", "falls", "begin", "end"]) (B : Blt mg) : Def P w K mg base "redone" (k + 1) 4 spRedone := by
  refine okF F sc_redone rfl fun cdv A outer s H E f hr => ⟨_,
    (ss_one (s_ret (d_sum (by rfl) B.sum (a_cons (d_lc sc_redone.nd (i := 4) (i_src (dv 1)) (blkOk_by (N := N_redone) (sc := defScope s_redone) (own := [("fall", 4)]) (by decide +kernel)) (fun _ _ _ _ _ => pg_name (i := 4) sc_redone.nd rfl (Or.inl rfl)) (fun _ _ _ _ _ => (ts_one (t_leLt (dv 2) (dv 4) (dv 3)))) (fun _ _ _ _ _ => (d_sum (by rfl) B.sum (a_cons (d_slice (dv 0) (o_some (dv 2)) (o_some (dv 4))) a_nil)))) a_nil))))
    , ?_⟩
  intro rs S C hl h
  obtain ⟨ws, fs, b, e, rfl, hfl, h⟩ := h
  refine ⟨_, rfl, lc_pure (pR b e) (gR ws b) ?_ ?_ (by simp; omega) ?_⟩
  · rintro r hr C' q
    obtain ⟨n, hn, rfl⟩ := mem_ints hr
    refine ⟨_, rfl, _, rfl, ite2d (fun h1 => ?_) (fun h1 => ?_)⟩
    · refine ⟨_, rfl, ?_⟩
      have e1 : pR b e (.dat (.int n)) = decide (n < e) := by simp [pR, h1]
      rw [e1] at q
      exact q
    · have e1 : pR b e (.dat (.int n)) = false := by simp [pR, h1]
      rw [e1] at q
      exact q
  · rintro r hr hp C' q
    obtain ⟨n, hn, rfl⟩ := mem_ints hr
    refine ⟨_, rfl, _, rfl, _, rfl, (cutD ws (some b) (some n)), ?_, q⟩
    rw [cutD_map]
    exact intsOf_map _
  · rw [redone_list]
    refine ⟨_, dats_map _, _, intsOf_map _, h⟩
end
end K17P
set_option Elab.async false
set_option linter.all false
set_option maxRecDepth 100000
set_option maxHeartbeats 4000000
namespace K17P
open PySem PySem.Spec PyProof.Rows L2 DL K17
section
variable {P : Program} {w : World} {K : Fg} {mg : Str → Option Value} {base : Heap}
/-! best -/
def iR (ns : List Int) : List R := ns.map fun n => R.dat (.int n)
def cand (ws fs : List Int) (pr b : Int) (val : Int → CM) (m : Int) : CM := (redone ws fs b m + pr + (val m).1, m :: (val m).2)
def better (acc x : CM) : CM := if ltCM x acc then x else acc
/-- the least of what may follow a mark at b, by val -/
def inner (ws fs : List Int) (pr b : Int) (val : Int → CM) (k : Nat) : CM := (List.range k).foldl (fun acc (i : Nat) => better acc (cand ws fs pr b val (b + 1 + i))) (redone ws fs b (ws.length + 1), [])
theorem inner_succ (ws fs : List Int) (pr b : Int) (val : Int → CM) (k : Nat) : inner ws fs pr b val (k + 1) = better (inner ws fs pr b val k) (cand ws fs pr b val (b + 1 + k)) := by
  unfold inner
  rw [List.range_succ, List.foldl_append]; rfl
def Rec (ws fs : List Int) (pr : Int) (val : Int → CM) (lo : Int) : Prop := ∀ b, lo ≤ b → b ≤ max 0 ((ws.length : Int) - 1) → val b = inner ws fs pr b val (ws.length - (b + 1)).toNat
theorem inner_congr {ws fs : List Int} {pr b : Int} {val val' : Int → CM} : ∀ k : Nat, (∀ m, b < m → m ≤ b + k → val m = val' m) → inner ws fs pr b val k = inner ws fs pr b val' k
  | 0, _ => rfl
  | k + 1, h => by
    rw [inner_succ, inner_succ, inner_congr k fun m h1 h2 => h m h1 (by omega)]
    have e : val (b + 1 + k) = val' (b + 1 + k) := h _ (by omega) (by omega)
    unfold cand
    rw [e]
def HasL (S : SH) (q : Addr) (ms : List Int) : Prop := ∃ j : Nat, S[j]? = some (.lst q (iR ms))
theorem HasL.cons {S : SH} {q : Addr} {ms : List Int} (h : HasL S q ms) (c : Cell) : HasL (c :: S) q ms := by
  obtain ⟨j, hj⟩ := h
  exact ⟨j + 1, by simpa using hj⟩
def tpR (x : CM) (q : Addr) : R := .tp [.dat (.int x.1), .val (.ref q)]
theorem views_ints {S : SH} (ns : List Int) : Views S (iR ns) (ns.map PyData.int) := by
  have e : iR ns = (ns.map PyData.int).map R.dat := by unfold iR; rw [List.map_map]; rfl
  rw [e]; exact Views.of_dats _
theorem view_tp {S : SH} {x : CM} {q : Addr} (h : HasL S q x.2) : View S (tpR x q) x.dat := by
  obtain ⟨j, hj⟩ := h
  exact .tp (.cons (.dat _) (.cons (.cel hj (views_ints _)) .nil))
theorem HasL.app {S : SH} {q : Addr} {ms : List Int} (h : HasL S q ms) (U : SH) : HasL (S ++ U) q ms := by
  obtain ⟨j, hj⟩ := h
  exact ⟨j, in_app hj⟩
theorem find_put_self (k : Key) (r : R) : ∀ kvs : List (Key × R), (putR kvs k r).find? (fun kv => decide (kv.1 = k)) = some (k, r) := by
  intro kvs
  unfold putR
  split
  · rename_i h
    induction kvs with
    | nil => simp at h
    | cons a kvs ih =>
      rw [List.map_cons, List.find?_cons]
      by_cases ha : a.1 = k
      · rw [if_pos ha]
        show (match decide (a.1 = k) with | true => some (a.1, r) | false => _) = _
        rw [decide_eq_true ha, ha]
      · rw [if_neg ha, decide_eq_false ha]
        refine ih ?_
        rw [List.any_cons, decide_eq_false ha] at h
        simpa using h
  · rename_i h
    rw [List.find?_append]
    have e : kvs.find? (fun kv => decide (kv.1 = k)) = none := by
      rw [List.find?_eq_none]
      intro x hx hk
      exact h (List.any_eq_true.mpr ⟨x, hx, hk⟩)
    rw [e]
    simp
theorem find_put_ne {k k' : Key} (hk : k' ≠ k) (r : R) : ∀ kvs : List (Key × R), (putR kvs k r).find? (fun kv => decide (kv.1 = k')) = kvs.find? (fun kv => decide (kv.1 = k')) := by
  intro kvs
  unfold putR
  split
  · rename_i h
    clear h
    induction kvs with
    | nil => rfl
    | cons a kvs ih =>
      rw [List.map_cons, List.find?_cons, List.find?_cons]
      by_cases ha : a.1 = k
      · rw [if_pos ha]
        have : ¬ a.1 = k' := fun z => hk (z.symm.trans ha)
        show (match decide (a.1 = k') with | true => some (a.1, r) | false => _) = _
        rw [decide_eq_false this]
        exact ih
      · rw [if_neg ha, ih]
  · rw [List.find?_append]
    cases kvs.find? (fun kv => decide (kv.1 = k')) with
    | some x => rfl
    | none =>
      rw [List.find?_cons, decide_eq_false (show ¬ (k, r).1 = k' from fun z => hk z.symm)]; rfl
theorem putR_len (kvs : List (Key × R)) (k : Key) (r : R) : (putR kvs k r).length ≤ kvs.length + 1 := by
  unfold putR
  split
  · rw [List.length_map]; omega
  · rw [List.length_append]; exact Nat.le_refl _
structure Kn (S : SH) (kvs : List (Key × R)) (val : Int → CM) (lo hi : Int) : Prop where
  at_ : ∀ m, lo ≤ m → m ≤ hi → ∃ q, kvs.find? (fun kv => decide (kv.1 = Sum.inl m)) = some (Sum.inl m, tpR (val m) q) ∧ HasL S q (val m).2 ∧ ((val m).2.length : Int) ≤ hi - m
  len : (kvs.length : Int) ≤ hi - lo + 1
theorem top_eq (n : Nat) : (if (n : Int) - 1 > 0 then (n : Int) - 1 else 0) = max 0 ((n : Int) - 1) := by
  by_cases h : (n : Int) - 1 > 0
  · rw [if_pos h]; omega
  · rw [if_neg h]; omega
theorem Kn.cons {S : SH} {kvs : List (Key × R)} {val : Int → CM} {lo hi : Int} (k : Kn S kvs val lo hi) (c : Cell) : Kn (c :: S) kvs val lo hi :=
  ⟨fun m h1 h2 => let ⟨q, a, b, d⟩ := k.at_ m h1 h2; ⟨q, a, b.cons c, d⟩, k.len⟩
def spBest : SpD := fun rs S C => ∃ ws fs pr, rs = [.dat (.list (ws.map PyData.int)), .dat (.list (fs.map PyData.int)), .dat (.int pr)] ∧ PlanOk ws fs pr ∧
  ∀ val q, Rec ws fs pr val 0 → C (tpR (val 0) q) (.lst q (iR (val 0).2) :: S)
abbrev s_best : Stmt := topS 51
abbrev N_best : List Str := ["weights", "falls", "price", "many", "known", "begin", "found", "mark", "further", "whole"]
theorem sc_best : FnScope N_best ["weights", "falls", "price"] (defScope s_best) := ⟨rfl, rfl, rfl, by decide +kernel, rfl, by decide +kernel, by decide +kernel⟩
theorem ok_best {k : Nat} (F : FunAt K mg "best" s_best ["weights", "falls", "price"]) (B : Blt mg) (D1 : Def P w K mg base "need_plan" 2 3 spNeedPlan) (D2 : Def P w K mg base "redone" 1 4 spRedone) :
    Def P w K mg base "best" (k + 3) 3 spBest := by
  refine okFw F sc_best rfl fun cdv A outer s H E f hr => ⟨_,
    (ss_cons (s_expr (d_callF D1 (hr.mono (by omega)) (by rfl) (a_cons (dv 0) (a_cons (dv 1) (a_cons (dv 2) a_nil)))))
      (ss_cons (s_set (i := 3) sc_best.nd (d_len (by rfl) B.len (a_cons (dv 0) a_nil)))
      (ss_cons (s_set (i := 4) sc_best.nd d_newD)
      (ss_cons (s_for (i_r3 (by rfl) B.range (a_cons (d_max2 (by rfl) B.max (a_cons d_int (a_cons (d_sub (dv 3) d_int) a_nil))) (a_cons (d_neg d_int) (a_cons (d_neg d_int) a_nil)))) (g_name (i := 5) sc_best.nd)
      (ss_cons (s_set (i := 6) sc_best.nd (d_tp (a_cons (d_callF D2 (hr.mono (by omega)) (by rfl) (a_cons (dv 0) (a_cons (dv 1) (a_cons (dv 5) (a_cons (d_add (dv 3) d_int) a_nil))))) (a_cons (d_lstC a_nil) a_nil))))
      (ss_cons (s_for (i_r2 (by rfl) B.range (a_cons (d_add (dv 5) d_int) (a_cons (dv 3) a_nil))) (g_name (i := 7) sc_best.nd)
      (ss_cons (s_set (i := 8) sc_best.nd (d_ix (hu_of hr) (dv 4) (dv 7)))
      (ss_cons (s_set (i := 9) sc_best.nd (d_add (d_add (d_callF D2 (hr.mono (by omega)) (by rfl) (a_cons (dv 0) (a_cons (dv 1) (a_cons (dv 5) (a_cons (dv 7) a_nil))))) (dv 2)) (d_ix (hu_of hr) (dv 8) d_int)))
      (ss_one (s_set (i := 6) sc_best.nd (d_minVU hr.units (by rfl) B.min (a_cons (dv 6) (a_cons (d_tp (a_cons (dv 9) (a_cons (d_addC (d_lst (a_cons (dv 7) a_nil)) (d_ix (hu_of hr) (dv 8) d_int)) a_nil))) a_nil))))))))
      (ss_one (s_asg (dv 6) (g_sub (hu_of hr) (dv 4) (dv 5)))))))
      (ss_one (s_ret (d_ix (hu_of hr) (dv 4) d_int)))))))
    , ?_⟩
  intro rs S C hl h
  obtain ⟨ws, fs, pr, rfl, ok, h⟩ := h
  have hwl := ok.hwl
  have hfl := ok.hfl
  refine ⟨_, rfl, _, rfl, _, rfl, rfl, ws, fs, pr, rfl, ok, _, rfl, fun kp => ?_⟩
  simp only [List.length_map]
  have ht := top_eq ws.length
  refine ⟨_, rfl, ⟨by omega, by omega, by decide, by decide⟩, rfl, ?_⟩
  rw [ht]
  generalize htop : max 0 ((ws.length : Int) - 1) = top at *
  have htop0 : 0 ≤ top := by omega
  refine ⟨fun i fr S' => ∃ (val : Int → CM) (kvs : List (Key × R)) (T : SH) (a5 a6 a7 a8 a9 : Option R), fr = [some (.dat (.list (ws.map PyData.int))), some (.dat (.list (fs.map PyData.int))), some (.dat (.int pr)), some (.dat (.int (ws.length : Int))), some (.val (.ref kp)), a5, a6, a7, a8, a9] ∧
      S' = T ++ .dct kp kvs :: S ∧ Kn T kvs val (top - i + 1) top ∧ Rec ws fs pr val (top - i + 1), ?_, ?_, ?_⟩
  · exact ⟨fun _ => (0, []), [], [], none, none, none, none, none, rfl, rfl, ⟨fun m h1 h2 => by omega, by simp; omega⟩, fun b h1 h2 => by rw [htop] at h2; omega⟩
  · rintro i r fr S' hi ⟨val, kvs, T, a5, a6, a7, a8, a9, rfl, rfl, kn, rc⟩
    obtain ⟨hin, rfl⟩ := rngD_get hi
    generalize hb : top - (i : Int) = b at *
    have hb0 : 0 ≤ b := by omega
    refine ⟨_, rfl, _, rfl, _, rfl, _, rfl, rfl, ws, fs, b, (ws.length : Int) + 1, rfl, by omega, by simp, fun q0 => ⟨by simp, ?_⟩⟩
    refine ⟨_, rfl, _, rfl, ⟨by omega, by omega, by omega, by omega⟩, ?_⟩
    refine ⟨fun i2 fr S2 => ∃ (T2 : SH) (x : CM) (q : Addr) (a7 a8 a9 : Option R), fr = [some (.dat (.list (ws.map PyData.int))), some (.dat (.list (fs.map PyData.int))), some (.dat (.int pr)), some (.dat (.int (ws.length : Int))), some (.val (.ref kp)), some (.dat (.int b)), some (tpR x q), a7, a8, a9] ∧
        S2 = T2 ++ .dct kp kvs :: S ∧ Kn T2 kvs val (b + 1) top ∧ HasL T2 q x.2 ∧ x = inner ws fs pr b val i2 ∧ (x.2.length : Int) ≤ top - b, ?_, ?_, ?_⟩
    · exact ⟨.lst q0 [] :: T, (redone ws fs b (ws.length + 1), []), q0, a7, a8, a9, rfl, rfl, kn.cons _, ⟨0, rfl⟩, rfl, by simp; omega⟩
    · rintro i2 r2 fr2 S2 hi2 ⟨T2, x, q, b7, b8, b9, rfl, rfl, kn2, hx, ex, hxl⟩
      obtain ⟨hin2, rfl⟩ := rng_get hi2
      generalize hm : b + 1 + (i2 : Int) = m at *
      obtain ⟨qm, hf, hq, hql⟩ := kn2.at_ m (by omega) (by omega)
      refine ⟨_, rfl, _, rfl, .inr ⟨T2.length, kvs, _, mid_get T2 S, hf, ?_⟩⟩
      refine ⟨_, rfl, _, rfl, _, rfl, _, rfl, rfl, ws, fs, b, m, rfl, by omega, _, rfl, _, rfl, _, rfl, ?_⟩
      obtain ⟨jq, hjq⟩ := hq
      refine ⟨_, rfl, _, rfl, _, rfl, by simp, _, rfl, _, rfl, _, rfl, [.dat (.int m)], iR (val m).2, rfl, ⟨jq, in_app hjq⟩, by simp [iR]; omega, fun p => ⟨by simp, ?_⟩⟩
      have hy : HasL (.lst p ([.dat (.int m)] ++ iR (val m).2) :: T2) p (cand ws fs pr b val m).2 := ⟨0, rfl⟩
      refine ⟨x.dat, (cand ws fs pr b val m).dat, view_tp ((hx.cons _).app _), view_tp (hy.app _), cmp_CM _ _, ?_⟩
      rw [dataLt_CM]
      have es : inner ws fs pr b val (i2 + 1) = better x (cand ws fs pr b val m) := by rw [inner_succ, ← ex, hm]
      cases hlt : ltCM (cand ws fs pr b val m) x with
      | true =>
        refine ⟨.lst p ([.dat (.int m)] ++ iR (val m).2) :: T2, cand ws fs pr b val m, p, _, _, _, rfl, rfl, kn2.cons _, hy, ?_, ?_⟩
        · rw [es]; unfold better; rw [if_pos hlt]
        · show ((m :: (val m).2).length : Int) ≤ top - b
          rw [List.length_cons]; omega
      | false =>
        refine ⟨.lst p ([.dat (.int m)] ++ iR (val m).2) :: T2, x, q, _, _, _, rfl, rfl, kn2.cons _, hx.cons _, ?_, hxl⟩
        rw [es]; unfold better; rw [if_neg (by rw [hlt]; exact Bool.false_ne_true)]
    · rintro fr2 S2 ⟨T2, x, q, b7, b8, b9, rfl, rfl, kn2, hx, ex, hxl⟩
      rw [rng_len] at ex
      have hkl := kn2.len
      refine ⟨_, rfl, _, rfl, _, rfl, .inr ⟨T2.length, kvs, mid_get T2 S, by omega, ?_⟩⟩
      have es : (T2 ++ Cell.dct kp kvs :: S).set T2.length (.dct kp (putR kvs (Sum.inl b) (tpR x q))) = T2 ++ .dct kp (putR kvs (Sum.inl b) (tpR x q)) :: S := by
        rw [List.set_append_right _ _ (Nat.le_refl _)]; simp
      obtain ⟨val', evb, ev⟩ : ∃ val' : Int → CM, val' b = x ∧ ∀ m, m ≠ b → val' m = val m := ⟨fun m => if m = b then x else val m, if_pos rfl, fun m hm => if_neg hm⟩
      refine ⟨val', putR kvs (Sum.inl b) (tpR x q), T2, _, _, _, _, _, rfl, es, ⟨fun m h1 h2 => ?_, ?_⟩, fun m h1 h2 => ?_⟩
      · by_cases hmb : m = b
        · subst hmb
          rw [evb]
          exact ⟨q, find_put_self _ _ _, hx, hxl⟩
        · obtain ⟨q', a, b', d⟩ := kn2.at_ m (by omega) h2
          rw [ev m hmb]
          exact ⟨q', by rw [find_put_ne (fun z => hmb (Sum.inl.inj z))]; exact a, b', d⟩
      · have := putR_len kvs (Sum.inl b) (tpR x q)
        omega
      · by_cases hmb : m = b
        · subst hmb
          rw [evb, ex]
          exact inner_congr _ fun m' h3 h4 => (ev m' (by omega)).symm
        · rw [ev m hmb, rc m (by omega) h2]
          exact inner_congr _ fun m' h3 h4 => (ev m' (by omega)).symm
  · rintro fr S' ⟨val, kvs, T, a5, a6, a7, a8, a9, rfl, rfl, kn, rc⟩
    rw [rngD_len] at kn rc
    obtain ⟨q, hf, ⟨jq, hjq⟩, _⟩ := kn.at_ 0 (by omega) htop0
    refine ⟨_, rfl, .inr ⟨T.length, kvs, _, mid_get T S, hf, ?_⟩⟩
    have hr' : Rec ws fs pr val 0 := fun b h1 h2 => rc b (by omega) h2
    obtain ⟨A', B', eT⟩ : ∃ A' B', T = A' ++ Cell.lst q (iR (val 0).2) :: B' := List.append_of_mem (List.mem_of_getElem? hjq)
    have e3 : T ++ Cell.dct kp kvs :: S = A' ++ Cell.lst q (iR (val 0).2) :: ((B' ++ [.dct kp kvs]) ++ S) := by rw [eT]; simp
    rw [e3]
    exact wk_one A' (B' ++ [.dct kp kvs]) (h val q hr')
end
end K17P
namespace K17P
open DL
/-! ### the mathematics: the order -/
theorem lexI_irrefl' : ∀ xs : List Int, lexI xs xs = false
  | [] => rfl
  | x :: xs => by unfold lexI; rw [if_pos rfl]; exact lexI_irrefl' xs
theorem lexI_tri : ∀ xs ys : List Int, lexI xs ys = false → lexI ys xs = false → xs = ys
  | [], [], _, _ => rfl
  | [], _ :: _, h, _ => by simp [lexI] at h
  | _ :: _, [], _, h => by simp [lexI] at h
  | x :: xs, y :: ys, h, g => by
    unfold lexI at h g
    by_cases e : x = y
    · rw [if_pos e] at h
      rw [if_pos e.symm] at g
      rw [e, lexI_tri xs ys h g]
    · rw [if_neg e] at h
      rw [if_neg (Ne.symm e)] at g
      have h1 := of_decide_eq_false h
      have h2 := of_decide_eq_false g
      omega
theorem lexI_tr : ∀ xs ys zs : List Int, lexI ys xs = false → lexI zs ys = false → lexI zs xs = false
  | [], _, [], _, _ => rfl
  | [], [], _ :: _, _, _ => rfl
  | [], _ :: _, _ :: _, h, g => rfl
  | _ :: _, [], _, h, _ => by simp [lexI] at h
  | _ :: _, _ :: _, [], _, g => by simp [lexI] at g
  | x :: xs, y :: ys, z :: zs, h, g => by
    unfold lexI at h g ⊢
    by_cases e : y = x
    · rw [if_pos e] at h
      by_cases e2 : z = y
      · rw [if_pos e2] at g
        rw [if_pos (e2.trans e)]
        exact lexI_tr xs ys zs h g
      · rw [if_neg e2] at g
        have g' := of_decide_eq_false g
        rw [if_neg (fun q => e2 (q.trans e.symm))]
        exact decide_eq_false (by omega)
    · rw [if_neg e] at h
      have h' := of_decide_eq_false h
      by_cases e2 : z = y
      · rw [if_pos e2] at g
        rw [if_neg (fun q => e (e2.symm.trans q))]
        exact decide_eq_false (by omega)
      · rw [if_neg e2] at g
        have g' := of_decide_eq_false g
        rw [if_neg (by omega)]
        exact decide_eq_false (by omega)
def leCM (x y : CM) : Prop := ltCM y x = false
theorem leCM_refl (x : CM) : leCM x x := by unfold leCM ltCM; rw [if_pos rfl]; exact lexI_irrefl' _
theorem leCM_of_lt {x y : CM} (h : x.1 < y.1) : leCM x y := by unfold leCM ltCM; rw [if_neg (by omega)]; exact decide_eq_false (by omega)
theorem leCM_eq {x y : CM} (h : x.1 = y.1) (g : lexI y.2 x.2 = false) : leCM x y := by unfold leCM ltCM; rw [if_pos h.symm]; exact g
theorem leCM_cases {x y : CM} (h : leCM x y) : x.1 < y.1 ∨ (x.1 = y.1 ∧ lexI y.2 x.2 = false) := by
  unfold leCM ltCM at h
  by_cases e : y.1 = x.1
  · rw [if_pos e] at h; exact .inr ⟨e.symm, h⟩
  · rw [if_neg e] at h
    have := of_decide_eq_false h
    exact .inl (by omega)
theorem leCM_trans {x y z : CM} (h : leCM x y) (g : leCM y z) : leCM x z := by
  rcases leCM_cases h with h1 | ⟨h1, h2⟩
  · rcases leCM_cases g with g1 | ⟨g1, g2⟩
    · exact leCM_of_lt (by omega)
    · exact leCM_of_lt (by omega)
  · rcases leCM_cases g with g1 | ⟨g1, g2⟩
    · exact leCM_of_lt (by omega)
    · exact leCM_eq (by omega) (lexI_tr _ _ _ h2 g2)
theorem leCM_anti {x y : CM} (h : leCM x y) (g : leCM y x) : x = y := by
  rcases leCM_cases h with h1 | ⟨h1, h2⟩
  · rcases leCM_cases g with g1 | ⟨g1, g2⟩
    · omega
    · omega
  · rcases leCM_cases g with g1 | ⟨g1, g2⟩
    · omega
    · exact Prod.ext h1 (lexI_tri _ _ g2 h2)
theorem leCM_lt {x y : CM} (h : ltCM x y = true) : leCM x y := by
  unfold leCM
  unfold ltCM at h ⊢
  by_cases e : x.1 = y.1
  · rw [if_pos e] at h
    rw [if_pos e.symm]
    cases q : lexI y.2 x.2 with
    | false => rfl
    | true =>
      exfalso
      have h1 : lexI x.2 y.2 = false ∨ lexI y.2 x.2 = false := by
        clear h q e
        generalize x.2 = xs
        generalize y.2 = ys
        induction xs generalizing ys with
        | nil => cases ys with
          | nil => exact .inl rfl
          | cons => exact .inr rfl
        | cons a xs ih => cases ys with
          | nil => exact .inl rfl
          | cons b ys =>
            unfold lexI
            by_cases e : a = b
            · rw [if_pos e, if_pos e.symm]; exact ih ys
            · rw [if_neg e, if_neg (Ne.symm e)]
              by_cases l : a < b
              · exact .inr (decide_eq_false (by omega))
              · exact .inl (decide_eq_false l)
      rcases h1 with h1 | h1
      · rw [h1] at h; cases h
      · rw [h1] at q; cases q
  · rw [if_neg e] at h
    rw [if_neg (Ne.symm e)]
    have := of_decide_eq_true h
    exact decide_eq_false (by omega)
theorem better_le (a x : CM) : leCM (better a x) a ∧ leCM (better a x) x ∧ (better a x = a ∨ better a x = x) := by
  unfold better
  cases h : ltCM x a with
  | true => rw [if_pos rfl]; exact ⟨leCM_lt h, leCM_refl _, .inr rfl⟩
  | false => rw [if_neg Bool.false_ne_true]; exact ⟨leCM_refl _, h, .inl rfl⟩
/-! ### marks behind a mark -/
def Valid (n : Int) : Int → List Int → Prop
  | _, [] => True
  | b, m :: ms => b < m ∧ m < n ∧ Valid n m ms
def cF (ws fs : List Int) (pr : Int) : Int → List Int → Int
  | b, [] => redone ws fs b (ws.length + 1)
  | b, m :: ms => redone ws fs b m + pr + cF ws fs pr m ms
structure Best (ws fs : List Int) (pr b : Int) (x : CM) : Prop where
  ex : ∃ ms, Valid ws.length b ms ∧ x = (cF ws fs pr b ms, ms)
  le : ∀ ms, Valid ws.length b ms → leCM x (cF ws fs pr b ms, ms)
theorem inner_min (ws fs : List Int) (pr b : Int) (val : Int → CM) : ∀ k : Nat, leCM (inner ws fs pr b val k) (redone ws fs b (ws.length + 1), []) ∧ (∀ i : Nat, i < k → leCM (inner ws fs pr b val k) (cand ws fs pr b val (b + 1 + i))) ∧
    (inner ws fs pr b val k = (redone ws fs b (ws.length + 1), []) ∨ ∃ i : Nat, i < k ∧ inner ws fs pr b val k = cand ws fs pr b val (b + 1 + i))
  | 0 => ⟨leCM_refl _, fun i hi => absurd hi (Nat.not_lt_zero i), .inl rfl⟩
  | k + 1 => by
    obtain ⟨h1, h2, h3⟩ := inner_min ws fs pr b val k
    rw [inner_succ]
    obtain ⟨b1, b2, b3⟩ := better_le (inner ws fs pr b val k) (cand ws fs pr b val (b + 1 + k))
    refine ⟨leCM_trans b1 h1, fun i hi => ?_, ?_⟩
    · by_cases e : i = k
      · subst e; exact b2
      · exact leCM_trans b1 (h2 i (by omega))
    · rcases b3 with b3 | b3
      · rw [b3]
        rcases h3 with h3 | ⟨i, hi, h3⟩
        · exact .inl h3
        · exact .inr ⟨i, by omega, h3⟩
      · rw [b3]
        exact .inr ⟨k, by omega, rfl⟩
theorem best_of (ws fs : List Int) (pr : Int) (val : Int → CM) (h : Rec ws fs pr val 0) : ∀ (k : Nat) (b : Int), 0 ≤ b → b ≤ max 0 ((ws.length : Int) - 1) → ((ws.length : Int) - b).toNat ≤ k → Best ws fs pr b (val b)
  | 0, b, h0, h1, hk => by
    have hn : ws.length = 0 := by omega
    have hb : b = 0 := by omega
    rw [h b h0 h1]
    have e : ((ws.length : Int) - (b + 1)).toNat = 0 := by omega
    rw [e]
    refine ⟨⟨[], True.intro, rfl⟩, fun ms hv => ?_⟩
    cases ms with
    | nil => exact leCM_refl _
    | cons m ms => have := hv.1; have := hv.2.1; omega
  | k + 1, b, h0, h1, hk => by
    rw [h b h0 h1]
    obtain ⟨g1, g2, g3⟩ := inner_min ws fs pr b val ((ws.length : Int) - (b + 1)).toNat
    have ih : ∀ m, b < m → m < ws.length → Best ws fs pr m (val m) := fun m hm hm2 => best_of ws fs pr val h k m (by omega) (by omega) (by omega)
    refine ⟨?_, fun ms hv => ?_⟩
    · rcases g3 with g3 | ⟨i, hi, g3⟩
      · exact ⟨[], True.intro, g3⟩
      · obtain ⟨ms, hv, e⟩ := (ih (b + 1 + i) (by omega) (by omega)).ex
        refine ⟨(b + 1 + i) :: ms, ⟨by omega, by omega, hv⟩, ?_⟩
        rw [g3]
        unfold cand cF
        rw [e]
    · cases ms with
      | nil => exact g1
      | cons m ms =>
        obtain ⟨v1, v2, v3⟩ := hv
        have em : m = b + 1 + ((m - (b + 1)).toNat : Int) := by omega
        refine leCM_trans (g2 (m - (b + 1)).toNat (by omega)) ?_
        rw [← em]
        rcases leCM_cases ((ih m v1 v2).le ms v3) with q | ⟨q1, q2⟩
        · exact leCM_of_lt (by show _ < redone ws fs b m + pr + cF ws fs pr m ms; show redone ws fs b m + pr + (val m).1 < _; have : (val m).1 < cF ws fs pr m ms := q; omega)
        · refine leCM_eq (by show redone ws fs b m + pr + (val m).1 = redone ws fs b m + pr + cF ws fs pr m ms; have : (val m).1 = cF ws fs pr m ms := q1; omega) ?_
          show lexI (m :: ms) (m :: (val m).2) = false
          unfold lexI
          rw [if_pos rfl]
          exact q2
/-! ### the cost by falls -/
/-- the last of b :: ms that is at f or ahead of it -/
def atF (f : Int) : Int → List Int → Int
  | b, [] => b
  | b, m :: ms => if m ≤ f then atF f m ms else b
def cost (ws fs : List Int) (pr : Int) (b : Int) (ms : List Int) : Int := pr * ms.length + ((fs.filter fun f => decide (b ≤ f)).map fun f => (cutD ws (some (atF f b ms)) (some f)).sum).sum
theorem cost_cF (ws fs : List Int) (pr : Int) (hf : ∀ f ∈ fs, f ≤ ws.length) : ∀ (ms : List Int) (b : Int), Valid ws.length b ms → cost ws fs pr b ms = cF ws fs pr b ms
  | [], b, _ => by
    unfold cost cF redone
    have e : fs.filter (fun f => decide (b ≤ f)) = fs.filter fun f => decide (b ≤ f) && decide (f < (ws.length : Int) + 1) := by
      apply List.filter_congr
      intro f h
      have := hf f h
      have e2 : decide (f < (ws.length : Int) + 1) = true := decide_eq_true (by omega)
      rw [e2, Bool.and_true]
    rw [e]
    simp [atF]
  | m :: ms, b, ⟨h1, h2, h3⟩ => by
    unfold cF
    rw [← cost_cF ws fs pr hf ms m h3]
    unfold cost redone
    have key : ∀ (g : List Int), ((g.filter fun f => decide (b ≤ f)).map fun f => (cutD ws (some (atF f b (m :: ms))) (some f)).sum).sum =
        ((g.filter fun f => decide (b ≤ f) && decide (f < m)).map fun f => (cutD ws (some b) (some f)).sum).sum + ((g.filter fun f => decide (m ≤ f)).map fun f => (cutD ws (some (atF f m ms)) (some f)).sum).sum := by
      intro g
      induction g with
      | nil => rfl
      | cons f g ih =>
        rw [List.filter_cons, List.filter_cons, List.filter_cons]
        by_cases c1 : b ≤ f
        · by_cases c2 : f < m
          · have c3 : ¬ m ≤ f := by omega
            have ea : atF f b (m :: ms) = b := by unfold atF; rw [if_neg c3]
            rw [if_pos (by simp [c1]), if_pos (by simp [c1, c2]), if_neg (by simp; omega), List.map_cons, List.map_cons, List.sum_cons, List.sum_cons, ea, ih]
            omega
          · have c3 : m ≤ f := by omega
            have ea : atF f b (m :: ms) = atF f m ms := by rw [atF, if_pos c3]
            rw [if_pos (by simp [c1]), if_neg (by simp [c2]), if_pos (by simp [c3]), List.map_cons, List.map_cons, List.sum_cons, List.sum_cons, ea, ih]
            omega
        · rw [if_neg (by simp [c1]), if_neg (by simp [c1]), if_neg (by simp; omega)]
          exact ih
    rw [key fs, List.length_cons]
    have e3 : pr * ((ms.length + 1 : Nat) : Int) = pr + pr * ms.length := by
      rw [Int.natCast_succ, Int.mul_add]; omega
    rw [e3]
    omega
/-! ### all lists of marks -/
def every : Nat → List (List Int)
  | 0 => [[]]
  | k + 1 => every k ++ (every k).map (· ++ [((k + 1 : Nat) : Int)])
theorem valid_snoc (n : Int) : ∀ (ms : List Int) (b : Int), Valid n b ms → Valid (n + 1) b ms ∧ (b < n → Valid (n + 1) b (ms ++ [n]))
  | [], b, _ => ⟨True.intro, fun h => ⟨h, by omega, True.intro⟩⟩
  | m :: ms, b, ⟨h1, h2, h3⟩ => by
    obtain ⟨a, c⟩ := valid_snoc n ms m h3
    exact ⟨⟨h1, by omega, a⟩, fun _ => ⟨h1, by omega, c h2⟩⟩
theorem valid_split (n : Int) : ∀ (ms : List Int) (b : Int), Valid (n + 1) b ms → Valid n b ms ∨ ∃ ms', ms = ms' ++ [n] ∧ Valid n b ms'
  | [], b, _ => .inl True.intro
  | m :: ms, b, ⟨h1, h2, h3⟩ => by
    by_cases e : m = n
    · subst e
      cases ms with
      | nil => exact .inr ⟨[], rfl, True.intro⟩
      | cons m' ms' => have := h3.1; have := h3.2.1; omega
    · rcases valid_split n ms m h3 with q | ⟨ms', q1, q2⟩
      · exact .inl ⟨h1, by omega, q⟩
      · exact .inr ⟨m :: ms', by rw [q1]; rfl, h1, by omega, q2⟩
theorem mem_every : ∀ (k : Nat) (ms : List Int), ms ∈ every k ↔ Valid ((k : Int) + 1) 0 ms
  | 0, ms => by
    unfold every
    rw [List.mem_singleton]
    constructor
    · rintro rfl; exact True.intro
    · intro h
      cases ms with
      | nil => rfl
      | cons m ms => have := h.1; have := h.2.1; omega
  | k + 1, ms => by
    unfold every
    rw [List.mem_append, List.mem_map]
    constructor
    · rintro (h | ⟨ms', h, rfl⟩)
      · have := (valid_snoc _ _ _ ((mem_every k ms).mp h)).1
        exact this
      · have := (valid_snoc _ _ _ ((mem_every k ms').mp h)).2 (by omega)
        exact this
    · intro h
      rw [show ((k + 1 : Nat) : Int) + 1 = (k : Int) + 1 + 1 from by omega] at h
      rcases valid_split ((k : Int) + 1) ms 0 h with q | ⟨ms', q1, q2⟩
      · exact .inl ((mem_every k ms).mpr q)
      · exact .inr ⟨ms', (mem_every k ms').mpr q2, q1.symm⟩
theorem every_ne (k : Nat) : every k ≠ [] := by
  intro h
  have := (mem_every k []).mpr True.intro
  rw [h] at this
  exact absurd this (by simp)
theorem every_len : ∀ k : Nat, (every k).length = 2 ^ k
  | 0 => rfl
  | k + 1 => by unfold every; rw [List.length_append, List.length_map, every_len k, Nat.pow_succ]; omega
theorem valid_len (n : Int) : ∀ (ms : List Int) (b : Int), Valid n b ms → b < n → (ms.length : Int) < n - b
  | [], b, _, hb => by simp; omega
  | m :: ms, b, ⟨h1, h2, h3⟩, hb => by
    have := valid_len n ms m h3 h2
    rw [List.length_cons]; omega
end K17P
set_option Elab.async false
set_option linter.all false
set_option maxRecDepth 100000
set_option maxHeartbeats 4000000
namespace K17P
open PySem PySem.Spec PyProof.Rows L2 DL K17
section
variable {P : Program} {w : World} {K : Fg} {mg : Str → Option Value} {base : Heap}
/-! what is told, frozen -/
theorem Def.wk {x : Str} {k n : Nat} {sp : SpD} (d : Def P w K mg base x k n sp) : Def P w K mg base x k n (fun rs S C => sp rs S (WkC C)) := by
  obtain ⟨f, fd, ps, a, b⟩ := d.ex
  exact ⟨f, fd, ps, a.imp fun vs H Q E ⟨hl, F, S, L, rs, C, o, lv, hs, q⟩ => ⟨hl, F, S, L, rs, WkC C, o, lv, hs, fun v r S' H' o' ⟨r2, S2, hw, h2⟩ => q v r2 S2 H' (hw K F H' L v o') h2⟩, b⟩
theorem dats_iR (ns : List Int) : dats (iR ns) = some (ns.map PyData.int) := by
  have : iR ns = (ns.map PyData.int).map R.dat := by unfold iR; rw [List.map_map]; rfl
  rw [this]; exact dats_map _
theorem wkn_cm {x : CM} {q : Addr} {S : SH} : Wkn (tpR x q) (.lst q (iR x.2) :: S) (.dat (CM.dat x)) S := by
  intro K F H L v o
  have o3 : Ok K H (S ++ F) ((V.ref q, R.dat (.list (x.2.map PyData.int))) :: (v, tpR x q) :: L) := Ok.frz (i := 0) o rfl (dats_iR x.2)
  have hn := o3.dat (v := .ref q) List.mem_cons_self
  have hv := o3.live (v, tpR x q) (List.mem_cons_of_mem _ List.mem_cons_self)
  obtain ⟨a, vs, rfl, ha, hq⟩ := (show ∃ a vs, v = .ref a ∧ (H a = some (.tup vs) ∨ KTup K a vs) ∧ RepRl K _ H vs _ from hv)
  have o4 : Ok K H (S ++ F) L := o3.sub fun z hz => List.mem_cons_of_mem _ (List.mem_cons_of_mem _ hz)
  refine o4.pd (.tup ha ?_)
  have hq' := hq.pair
  cases hq' with | cons q1 t => cases t with | cons q2 t =>
  cases t
  cases q2
  exact .cons q1 (.cons hn .nil)
def spBestD : SpD := fun rs S C => ∃ ws fs pr, rs = [.dat (.list (ws.map PyData.int)), .dat (.list (fs.map PyData.int)), .dat (.int pr)] ∧ PlanOk ws fs pr ∧
  ∀ val, Rec ws fs pr val 0 → C (.dat (CM.dat (val 0))) S
theorem best_frz {k : Nat} (d : Def P w K mg base "best" k 3 spBest) : Def P w K mg base "best" k 3 spBestD :=
  Def.imp (Def.wk d) fun rs S C _ ⟨ws, fs, pr, e, ok, h⟩ => ⟨ws, fs, pr, e, ok, fun val q hr => ⟨_, _, wkn_cm, h val hr⟩⟩
/-! need_marks -/
def spNeedMarks : SpD := fun rs S C => ∃ ws ms : List Int, rs = [.dat (.list (ws.map PyData.int)), .dat (.list (ms.map PyData.int))] ∧ ms.length ≤ 1000 ∧ Valid (ws.length : Int) 0 ms ∧ C (.dat .none) S
theorem valid_drop {n : Int} : ∀ (ms : List Int) (b : Int) (i : Nat) (x : Int), Valid n b ms → ms[i]? = some x → (if i = 0 then b else ms.getD (i - 1) 0) < x ∧ x < n
  | [], _, _, _, _, e => by simp at e
  | m :: ms, b, 0, x, ⟨h1, h2, h3⟩, e => by simp at e; subst e; exact ⟨h1, h2⟩
  | m :: ms, b, i + 1, x, ⟨h1, h2, h3⟩, e => by
    have ih := valid_drop ms m i x h3 (by simpa using e)
    rw [if_neg (by omega)]
    cases i with
    | zero => simpa using ih
    | succ i => simpa using ih
abbrev s_need_marks : Stmt := topS 48
abbrev N_need_marks : List Str := ["weights", "marks", "last", "number", "mark"]
theorem sc_need_marks : FnScope N_need_marks ["weights", "marks"] (defScope s_need_marks) := ⟨rfl, rfl, rfl, by decide +kernel, rfl, by decide +kernel, by decide +kernel⟩
theorem ok_need_marks {k : Nat} (F : FunAt K mg "need_marks" s_need_marks ["weights", "marks"]) (B : Blt mg) (D1 : Def P w K mg base "is_number" 1 3 spIsNumber) :
    Def P w K mg base "need_marks" (k + 2) 2 spNeedMarks := by
  refine okF F sc_need_marks rfl fun cdv A outer s H E f hr => ⟨_,
    (ss_cons (s_set (i := 2) sc_need_marks.nd d_int)
      (ss_one (s_for (i_enum (by rfl) B.enumerate (a_cons (dv 1) a_nil)) (g_tup (gs_cons (g_name (i := 3) sc_need_marks.nd) (gs_cons (g_name (i := 4) sc_need_marks.nd) gs_nil)))
      (ss_cons (s_if (t_not (t_val (d_callF D1 (hr.mono (by omega)) (by rfl) (a_cons (dv 4) (a_cons (d_add (dv 2) d_int) (a_cons (d_sub (d_len (by rfl) B.len (a_cons (dv 0) a_nil)) d_int) a_nil))))))
      (ss_one s_never)
      ss_nil)
      (ss_one (s_set (i := 2) sc_need_marks.nd (dv 4)))))))
    , ?_⟩
  intro rs S C hl h
  obtain ⟨ws, ms, rfl, hml, hv, h⟩ := h
  refine ⟨_, rfl, fun i fr S'' => S'' = S ∧ ∃ (a b : Option R), fr = [some (.dat (.list (ws.map PyData.int))), some (.dat (.list (ms.map PyData.int))), some (.dat (.int (if i = 0 then 0 else ms.getD (i - 1) 0))), a, b], ⟨rfl, _, _, rfl⟩, ?_, ?_⟩
  · rintro i r fr S' hi ⟨rfl, a, b, rfl⟩
    obtain ⟨d, hd, rfl⟩ := enum_get hi
    obtain ⟨x, hx, rfl⟩ := get_ints hd
    obtain ⟨h1, h2⟩ := valid_drop ms 0 i x hv hx
    refine ⟨rfl, rfl, _, rfl, _, rfl, _, rfl, rfl, _, _, _, rfl, (fun z => nomatch z), iteFb (isNum_yes ⟨by omega, by rw [List.length_map]; omega⟩) ?_⟩
    refine ⟨_, rfl, rfl, some (.dat (.int i)), some (.dat (.int x)), ?_⟩
    have en : (if i + 1 = 0 then (0 : Int) else ms.getD (i + 1 - 1) 0) = x := by
      rw [if_neg (by omega), Nat.add_sub_cancel, List.getD_eq_getElem?_getD, hx]; rfl
    rw [en]
    rfl
  · rintro fr S' ⟨rfl, a, b, rfl⟩
    exact h
/-! cost -/
def upto (ws fs es : List Int) (k : Nat) : Int := ((List.range k).map fun j => redone ws fs (es.getD j 0) (es.getD (j + 1) 0)).sum
theorem upto_succ (ws fs es : List Int) (k : Nat) : upto ws fs es (k + 1) = upto ws fs es k + redone ws fs (es.getD k 0) (es.getD (k + 1) 0) := by
  unfold upto
  rw [List.range_succ, List.map_append, List.sum_append]
  simp
theorem upto_cons (ws fs : List Int) (b : Int) (es : List Int) : ∀ k : Nat, upto ws fs (b :: es) (k + 1) = redone ws fs b (es.getD 0 0) + upto ws fs es k
  | 0 => by simp [upto]
  | k + 1 => by
    rw [upto_succ, upto_cons ws fs b es k, upto_succ]
    simp only [List.getD_cons_succ]
    omega
theorem upto_cF (ws fs : List Int) (pr : Int) : ∀ (ms : List Int) (b : Int), pr * ms.length + upto ws fs (b :: (ms ++ [(ws.length : Int) + 1])) (ms.length + 1) = cF ws fs pr b ms
  | [], b => by
    rw [List.nil_append, List.length_nil, upto_cons]
    simp [upto, cF]
  | m :: ms, b => by
    rw [List.length_cons, upto_cons, cF, ← upto_cF ws fs pr ms m]
    have e3 : pr * ((ms.length + 1 : Nat) : Int) = pr + pr * ms.length := by
      rw [Int.natCast_succ, Int.mul_add]; omega
    rw [e3]
    simp only [List.cons_append, List.getD_cons_zero]
    omega
def spCostP : SpD := fun rs S C => ∃ ws fs pr ms, rs = [.dat (.list (ws.map PyData.int)), .dat (.list (fs.map PyData.int)), .dat (.int pr), .dat (.list (ms.map PyData.int))] ∧ PlanOk ws fs pr ∧ Valid ws.length 0 ms ∧ C (.dat (.int (cF ws fs pr 0 ms))) S
theorem valid_len60 {n : Nat} {ms : List Int} (hv : Valid n 0 ms) (hn : n ≤ 60) : ms.length ≤ 60 := by
  by_cases h0 : 0 < n
  · have := valid_len _ ms 0 hv (by omega); omega
  · cases ms with
    | nil => simp
    | cons m ms => have := hv.1; have := hv.2.1; omega
theorem getD_ints {es : List Int} {j : Nat} (h : j < es.length) : (es.map PyData.int)[j]? = some (.int (es.getD j 0)) := by
  rw [List.getElem?_map, List.getElem?_eq_getElem h, List.getD_eq_getElem?_getD, List.getElem?_eq_getElem h]; rfl
abbrev s_cost : Stmt := topS 50
abbrev N_cost : List Str := ["weights", "falls", "price", "marks", "edges", "found", "k"]
theorem sc_cost : FnScope N_cost ["weights", "falls", "price", "marks"] (defScope s_cost) := ⟨rfl, rfl, rfl, by decide +kernel, rfl, by decide +kernel, by decide +kernel⟩
theorem ok_costP {k : Nat} (F : FunAt K mg "cost" s_cost ["weights", "falls", "price", "marks"]) (B : Blt mg) (D1 : Def P w K mg base "need_plan" 2 3 spNeedPlan) (D2 : Def P w K mg base "need_marks" 2 2 spNeedMarks) (D3 : Def P w K mg base "redone" 1 4 spRedone) :
    Def P w K mg base "cost" (k + 3) 4 spCostP := by
  refine okF F sc_cost rfl fun cdv A outer s H E f hr => ⟨_,
    (ss_cons (s_expr (d_callF D1 (hr.mono (by omega)) (by rfl) (a_cons (dv 0) (a_cons (dv 1) (a_cons (dv 2) a_nil)))))
      (ss_cons (s_expr (d_callF D2 (hr.mono (by omega)) (by rfl) (a_cons (dv 0) (a_cons (dv 3) a_nil))))
      (ss_cons (s_set (i := 4) sc_cost.nd (d_add (d_add (d_lst (a_cons d_int a_nil)) (d_list (by rfl) B.list (a_cons (dv 3) a_nil))) (d_lst (a_cons (d_add (d_len (by rfl) B.len (a_cons (dv 0) a_nil)) d_int) a_nil))))
      (ss_cons (s_set (i := 5) sc_cost.nd (d_mul (dv 2) (d_len (by rfl) B.len (a_cons (dv 3) a_nil))))
      (ss_cons (s_for (i_r1 (by rfl) B.range (a_cons (d_sub (d_len (by rfl) B.len (a_cons (dv 4) a_nil)) d_int) a_nil)) (g_name (i := 6) sc_cost.nd)
      (ss_one (s_set (i := 5) sc_cost.nd (d_add (dv 5) (d_callF D3 (hr.mono (by omega)) (by rfl) (a_cons (dv 0) (a_cons (dv 1) (a_cons (d_ix (hu_of hr) (dv 4) (dv 6)) (a_cons (d_ix (hu_of hr) (dv 4) (d_add (dv 6) d_int)) a_nil)))))))))
      (ss_one (s_ret (dv 5))))))))
    , ?_⟩
  intro rs S C hl h
  obtain ⟨ws, fs, pr, ms, rfl, ok, hv, h⟩ := h
  have hp := ok.hp
  have hwl := ok.hwl
  have hfl := ok.hfl
  have hml : ms.length ≤ 60 := valid_len60 hv hwl
  refine ⟨_, rfl, _, rfl, _, rfl, rfl, ws, fs, pr, rfl, ok, ?_⟩
  refine ⟨_, rfl, _, rfl, rfl, ws, ms, rfl, by omega, hv, ?_⟩
  obtain ⟨es, hes⟩ : ∃ es : List Int, es = 0 :: (ms ++ [(ws.length : Int) + 1]) := ⟨_, rfl⟩
  have ee : es.map PyData.int = ([PyData.int 0] ++ ms.map PyData.int) ++ [PyData.int (((ws.map PyData.int).length : Int) + 1)] := by rw [hes]; simp
  have hel : es.length = ms.length + 2 := by rw [hes]; simp
  refine ⟨by simp, _, rfl, _, rfl, by simp; omega, _, rfl, by simp, _, rfl, by simp; omega, ?_⟩
  refine ⟨_, rfl, _, rfl, cmul (by omega) (by omega) (by simp; omega) (by simp; omega), ?_⟩
  refine ⟨_, rfl, ⟨by simp; omega, by simp; omega⟩, fun i fr S' => S' = S ∧ ∃ (a : Option R), fr = [some (.dat (.list (ws.map PyData.int))), some (.dat (.list (fs.map PyData.int))), some (.dat (.int pr)), some (.dat (.list (ms.map PyData.int))), some (.dat (.list (es.map PyData.int))), some (.dat (.int (pr * ms.length + upto ws fs es i))), a], ⟨rfl, none, ?_⟩, ?_, ?_⟩
  · rw [ee]
    have : upto ws fs es 0 = 0 := rfl
    rw [this, Int.add_zero, show (ms.length : Int) = ((ms.map PyData.int).length : Int) by rw [List.length_map]]
    rfl
  · rintro i r fr S' hi ⟨rfl, a, rfl⟩
    obtain ⟨hlt, rfl⟩ := rng_get hi
    have hlt2 : i < ms.length + 1 := by simp at hlt; omega
    have e0 : (0 : Int) + (i : Int) = (i : Int) := Int.zero_add _
    rw [e0]
    have e1 : (i : Int) + 1 = ((i + 1 : Nat) : Int) := by omega
    refine ⟨_, rfl, _, rfl, _, rfl, _, rfl, _, rfl, _, atI_nat (getD_ints (j := i) (by omega)), _, rfl, _, rfl, PyData.int (es.getD (i + 1) 0), ?_, rfl, ws, fs, es.getD i 0, es.getD (i + 1) 0, rfl, by omega, rfl, some (.dat (.int i)), ?_⟩
    · rw [e1]; exact atI_nat (getD_ints (j := i + 1) (by omega))
    · rw [upto_succ, ← Int.add_assoc]; rfl
  · rintro fr S' ⟨rfl, a, rfl⟩
    refine ⟨_, rfl, ?_⟩
    rw [rng_len]
    have en : ((((([PyData.int 0] ++ ms.map PyData.int) ++ [PyData.int (((ws.map PyData.int).length : Int) + 1)]).length : Nat) : Int) - 1).toNat = ms.length + 1 := by simp
    have := upto_cF ws fs pr ms 0
    rw [← hes] at this
    rw [← this, ← en] at h
    exact h
end
end K17P
set_option Elab.async false
set_option linter.all false
set_option maxRecDepth 100000
set_option maxHeartbeats 4000000
namespace K17
open PySem PySem.Spec PyProof.Rows L2 DL PM
local macro_rules | `(tactic| walk_at "dl") => `(tactic| repeat (first | refine ⟨_, rfl, ?_⟩ | refine .inl ⟨_, _, _, by assumption, rfl, ?_⟩ | refine ⟨rfl, _, rfl, ?_⟩ | refine iteT ?_ | refine iteF ?_))
section
variable {P : Program} {w : World} {K : Fg} {mg : Str → Option Value} {base : Heap}
/-! _law_next -/
abbrev s__law_next : Stmt := topS 54
abbrev N__law_next : List Str := ["_law_dice_here", "_law_many", "_law_found", "_law_cell"]
theorem sc__law_next : FnScope N__law_next ["_law_dice_here", "_law_many"] (defScope s__law_next) := ⟨rfl, rfl, rfl, by decide +kernel, rfl, by decide +kernel, by decide +kernel⟩
theorem ok_next0 {k : Nat} (F : FunAt K mg "_law_next" s__law_next ["_law_dice_here", "_law_many"]) (B : Blt mg) : Def P w K mg base "_law_next" (k + 1) 2 spNext0 := by
  refine okF F sc__law_next rfl fun cdv A outer s H E f hr => ⟨_,
    (ss_cons (s_if (t_gt (d_ix (hu_of hr) (dv 0) d_int) d_int)
      (ss_cons (s_set (i := 2) sc__law_next.nd (d_mod (d_ix (hu_of hr) (dv 0) d_int) (dv 1)))
      (ss_cons (s_asg (d_fdiv (d_ix (hu_of hr) (dv 0) d_int) (dv 1)) (g_sub (hu_of hr) (dv 0) d_int))
      (ss_one (s_ret (dv 2)))))
      ss_nil)
      (ss_cons (s_asg (d_add (d_ix (hu_of hr) (dv 0) d_int) d_int) (g_sub (hu_of hr) (dv 0) d_int))
      (ss_cons (s_if (t_le (d_ix (hu_of hr) (dv 0) d_int) (d_len (by rfl) B.len (a_cons (d_ix (hu_of hr) (dv 0) d_int) a_nil)))
      (ss_cons (s_set (i := 3) sc__law_next.nd (d_ix (hu_of hr) (d_ix (hu_of hr) (dv 0) d_int) (d_sub (d_ix (hu_of hr) (dv 0) d_int) d_int)))
      (ss_cons (s_asg (d_if (t_ge (dv 3) (d_pow d_int d_int)) (d_fdiv (dv 3) (dv 1)) d_int) (g_sub (hu_of hr) (dv 0) d_int))
      (ss_one (s_ret (d_mod (dv 3) (dv 1))))))
      ss_nil)
      (ss_cons (s_asg (d_mod (d_mul (d_ix (hu_of hr) (dv 0) d_int) d_int) d_int) (g_sub (hu_of hr) (dv 0) d_int))
      (ss_one (s_ret (d_mod (d_fdiv (d_ix (hu_of hr) (dv 0) d_int) d_int) (dv 1))))))))
    , ?_⟩
  intro rs S C hl h
  obtain ⟨D, n, j, xs, rfl, hj, ⟨ns, at_, mixed, left, rfl, h0, h1, h2⟩, hn, hn2, q⟩ := h
  walk_at "dl"
  refine ite2d (fun hc => ?_) (fun hc => ?_)
  · walk_at "dl"
    refine ⟨hn, ?_⟩
    walk_at "dl"
    refine ⟨cdiv hn hn2, ?_⟩
    walk_at "dl"
    exact q _ _ (Int.emod_nonneg _ (by omega)) (Int.emod_lt_of_pos _ hn) ⟨ns, at_, mixed, _, rfl, h0, h1, h2⟩
  · walk_at "dl"
    have hj1 := getset hj (.lst D [.scr ns, .dat (.int (at_ + 1)), .dat (.int mixed), .dat (.int left)])
    walk_at "dl"
    refine ite2d (fun hc => ?_) (fun hc => ?_)
    · walk_at "dl"
      obtain ⟨z, hz⟩ : ∃ z, atI ns (at_ + 1 - 1) = some z := by
        have e : at_ + 1 - 1 = ((at_.toNat : Nat) : Int) := by omega
        rw [e]
        exact ⟨_, atI_nat (List.getElem?_eq_getElem (by omega))⟩
      refine ⟨z, hz, ?_⟩
      walk_at "dl"
      refine ⟨⟨by decide, by decide, by decide⟩, ?_⟩
      refine ite2d (fun hc => ?_) (fun hc => ?_)
      · walk_at "dl"
        refine ⟨cdiv hn hn2, ?_⟩
        walk_at "dl"
        refine ⟨hn, ?_⟩
        rw [List.set_set]
        exact q _ _ (Int.emod_nonneg _ (by omega)) (Int.emod_lt_of_pos _ hn) ⟨ns, at_ + 1, mixed, _, rfl, by omega, h1, h2⟩
      · walk_at "dl"
        refine ⟨hn, ?_⟩
        rw [List.set_set]
        exact q _ _ (Int.emod_nonneg _ (by omega)) (Int.emod_lt_of_pos _ hn) ⟨ns, at_ + 1, mixed, _, rfl, by omega, h1, h2⟩
    · walk_at "dl"
      refine ⟨cmul (by omega) (by omega) (by decide) (by decide), ?_⟩
      refine ⟨(by show (0 : Int) < 2147483647; decide), ?_⟩
      walk_at "dl"
      have hj2 := getset hj1 (.lst D [.scr ns, .dat (.int (at_ + 1)), .dat (.int (mixed * 48271 % 2147483647)), .dat (.int left)])
      walk_at "dl"
      refine ⟨cdiv (by decide) (by decide), ?_⟩
      walk_at "dl"
      refine ⟨hn, ?_⟩
      rw [List.set_set]
      exact q _ _ (Int.emod_nonneg _ (by omega)) (Int.emod_lt_of_pos _ hn) ⟨ns, at_ + 1, _, _, rfl, by omega, Int.emod_nonneg _ (by decide), Int.emod_lt_of_pos _ (by decide)⟩
theorem ok_next {k : Nat} (F : FunAt K mg "_law_next" s__law_next ["_law_dice_here", "_law_many"]) (B : Blt mg) : Def P w K mg base "_law_next" (k + 1) 2 spNext := next_of (ok_next0 F B)
/-! _law_dice -/
def spDice0 : SpD := fun rs S C => ∃ ns : List Int, rs = [.scr ns] ∧ ns.length ≤ 1000 ∧ ∀ p xs, DiceOk xs → C (.val (.ref p)) (.lst p xs :: S)
def spDice : SpD := fun rs S C => ∃ ns : List Int, rs = [.scr ns] ∧ ns.length ≤ 1000 ∧ ∀ p, C (.val (.ref p)) (dice p :: S)
theorem dice_of {x : Str} {k : Nat} (d : Def P w K mg base x k 1 spDice0) : Def P w K mg base x k 1 spDice := by
  obtain ⟨f, fd, ps, a, b⟩ := d.ex
  refine ⟨f, fd, ps, a.imp fun vs H Q E h => ?_, b⟩
  obtain ⟨hl, F, S, L, rs, C, o, lv, ⟨ns, rfl, hn, q⟩, fin⟩ := h
  refine ⟨hl, F, S, L, _, fun r S' => ∃ p xs, r = .val (.ref p) ∧ DiceOk xs ∧ S' = .lst p xs :: S, o, lv, ⟨ns, rfl, hn, fun p xs hx => ⟨p, xs, rfl, hx, rfl⟩⟩, ?_⟩
  rintro v r S' H' o' ⟨p, xs, rfl, hx, rfl⟩
  have o3 := o'.pack (P := DiceOk) (i := 0) rfl hx
  exact fin v _ (dice p :: S) H' o3 (q p)
abbrev s__law_dice : Stmt := topS 53
abbrev N__law_dice : List Str := ["_law_script", "_law_mixed", "_law_cell"]
theorem sc__law_dice : FnScope N__law_dice ["_law_script"] (defScope s__law_dice) := ⟨rfl, rfl, rfl, by decide +kernel, rfl, by decide +kernel, by decide +kernel⟩
theorem ok_dice {k : Nat} (F : FunAt K mg "_law_dice" s__law_dice ["_law_script"]) (B : Blt mg) : Def P w K mg base "_law_dice" (k + 1) 1 spDice := by
  refine dice_of (okF F sc__law_dice rfl fun cdv A outer s H E f hr => ⟨_,
    (ss_cons (s_set (i := 1) sc__law_dice.nd d_int)
      (ss_cons (s_for (i_src (dv 0)) (g_name (i := 2) sc__law_dice.nd)
      (ss_one (s_set (i := 1) sc__law_dice.nd (d_mod (d_add (d_add (d_mul (dv 1) d_int) (d_mul (d_mod (dv 2) d_int) d_int)) d_int) d_int))))
      (ss_one (s_ret (d_lstC (a_cons (dv 0) (a_cons d_int (a_cons (d_mul (dv 1) (d_intF (by rfl) B.int (a_cons (d_gt (d_len (by rfl) B.len (a_cons (dv 0) a_nil)) d_int) a_nil))) (a_cons d_int a_nil)))))))))
    , ?_⟩)
  intro rs S C hl h
  obtain ⟨ns, rfl, hn, h⟩ := h
  refine ⟨_, rfl, fun i fr S' => S' = S ∧ ∃ (x : Int) (a : Option R), fr = [some (.scr ns), some (.dat (.int x)), a] ∧ 0 ≤ x ∧ x < 2147483647, ⟨rfl, 0, none, rfl, by decide, by decide⟩, ?_, ?_⟩
  · rintro i r fr S' hi ⟨rfl, x, a, rfl, h0, h1⟩
    obtain ⟨z, rfl⟩ : ∃ z, r = .dat (.int z) := by
      rw [List.getElem?_map] at hi
      cases e : ns[i]? with
      | none => rw [e] at hi; cases hi
      | some n => rw [e] at hi; exact ⟨n, (Option.some.inj hi).symm⟩
    have hz0 := Int.emod_nonneg z (show (2147483647 : Int) ≠ 0 by decide)
    have hz1 := Int.emod_lt_of_pos z (show (0 : Int) < 2147483647 by decide)
    refine ⟨_, rfl, cmul (by omega) (by omega) (by decide) (by decide), _, rfl, (by show (0 : Int) < 2147483647; decide), cmul (by omega) (by omega) (by decide) (by decide), (by show (0 : Int) < 2147483647; decide), ?_⟩
    exact ⟨rfl, _, _, rfl, Int.emod_nonneg _ (by decide), Int.emod_lt_of_pos _ (by decide)⟩
  · rintro fr S' ⟨rfl, x, a, rfl, h0, h1⟩
    refine ⟨_, rfl, _, rfl, _, rfl, cmul (by omega) (by omega) ?_ ?_, by simp, fun p => h p _ ⟨ns, 0, _, 0, rfl, by decide, ?_, ?_⟩⟩
    all_goals (by_cases hc : (2 : Int) < ns.length <;> simp [hc] <;> omega)
end
end K17
set_option Elab.async false
set_option linter.all false
set_option maxRecDepth 100000
set_option maxHeartbeats 4000000
namespace K17
open PySem PySem.Spec PyProof.Rows L2 DL PM
section
variable {P : Program} {w : World} {K : Fg} {mg : Str → Option Value} {base : Heap}
/-! shape_of -/
abbrev shapes : List (Str × Str) := [(Str.ofString "set", Str.ofString "nx"), (Str.ofString "take", Str.ofString "n"), (Str.ofString "add", Str.ofString "fx"), (Str.ofString "put", Str.ofString "fxx"), (Str.ofString "cut", Str.ofString "fx"), (Str.ofString "get", Str.ofString "nfx"), (Str.ofString "size", Str.ofString "nf"), (Str.ofString "send", Str.ofString "x")]
abbrev jumps : List (Str × Str) := [(Str.ofString "go", Str.ofString "r"), (Str.ofString "unless", Str.ofString "nr"), (Str.ofString "mark", Str.ofString "")]
def shapeD (z : Str) : PyData := match shapes.lookup z with
  | some v => .str v
  | none => match jumps.lookup z with
    | some v => .str v
    | none => .none
def spShapeOf : SpD := fun rs S C => ∃ z, rs = [.dat (.str z)] ∧ C (.dat (shapeD z)) S
abbrev s_shape_of : Stmt := topS 25
abbrev N_shape_of : List Str := ["word"]
theorem sc_shape_of : FnScope N_shape_of ["word"] (defScope s_shape_of) := ⟨rfl, rfl, rfl, by decide +kernel, rfl, by decide +kernel, by decide +kernel⟩
theorem ok_shape_of {k : Nat} {aS aJ : Addr} (F : FunAt K mg "shape_of" s_shape_of ["word"]) (B : Blt mg) (c1 : mg "SHAPES" = some (.ref aS)) (t1 : KTab K w aS shapes) (c2 : mg "JUMPS" = some (.ref aJ)) (t2 : KTab K w aJ jumps) : Def P w K mg base "shape_of" (k + 1) 1 spShapeOf := by
  refine okF F sc_shape_of rfl fun cdv A outer s H E f hr => ⟨_,
    (ss_one (s_ret (d_kget t1 (by rfl) c1 (dv 0) (d_kget t2 (by rfl) c2 (dv 0) d_non))))
    , ?_⟩
  intro rs S C hl h
  obtain ⟨z, rfl, h⟩ := h
  refine ⟨_, rfl, _, rfl, ?_⟩
  unfold shapeD at h
  show C (match shapes.lookup z with | some v => .dat (.str v) | none => match jumps.lookup z with | some v => .dat (.str v) | none => .dat .none) S
  cases e1 : shapes.lookup z with
  | some v => rw [e1] at h; exact h
  | none =>
    rw [e1] at h
    cases e2 : jumps.lookup z with
    | some v => rw [e2] at h; exact h
    | none => rw [e2] at h; exact h
theorem shape_len (r : PRow) : r.shape.length ≤ 100000 := by cases r <;> exact Nat.le_of_ble_eq_true rfl
theorem shape_row (r : PRow) : shapeD r.word = .str r.shape := by cases r <;> rfl
/-! why_not -/
local macro_rules | `(tactic| walk_at "pair") => `(tactic| refine ⟨rfl, rfl, ?_⟩)
local macro_rules | `(tactic| walk_at "off") => `(tactic| refine ⟨_, rfl, rfl, iteFb rfl (iteFb rfl ?_)⟩)
local macro_rules | `(tactic| walk_at "num") => `(tactic| refine ⟨_, rfl, rfl, iteTb rfl ⟨_, rfl, _, rfl, rfl, _, _, _, rfl, (fun z => nomatch z), iteFb (by simp [isNum]; omega) ?_⟩⟩)
local macro_rules | `(tactic| walk_at "part") => `(tactic| refine ⟨_, rfl, rfl, iteTb rfl ⟨_, rfl, _, rfl, rfl, _, _, _, rfl, by assumption, by omega, by omega, by omega, iteFb rfl ?_⟩⟩)

def spWhyNot : SpD := fun rs S C => ∃ (r : PRow) (names files many : Int), rs = [.dat r.dat, .dat (.int names), .dat (.int files), .dat (.int many)] ∧ r.ok names files many ∧ C (.dat .none) S
abbrev s_why_not : Stmt := topS 26
abbrev N_why_not : List Str := ["row", "names", "files", "many", "shape", "kind", "part"]
theorem sc_why_not : FnScope N_why_not ["row", "names", "files", "many"] (defScope s_why_not) := ⟨rfl, rfl, rfl, by decide +kernel, rfl, by decide +kernel, by decide +kernel⟩
theorem ok_why_not {k : Nat} {t1 : Tok} (F : FunAt K mg "why_not" s_why_not ["row", "names", "files", "many"]) (B : Blt mg) (D1 : Def P w K mg base "is_number" 1 3 spIsNumber) (D2 : Def P w K mg base "is_part" 5 3 (spIsPart 3)) (D3 : Def P w K mg base "shape_of" 1 1 spShapeOf) (c1 : mg "MOST_DEEP" = some (.int 3 t1)) : Def P w K mg base "why_not" (k + 6) 4 spWhyNot := by
  refine okF F sc_why_not rfl fun cdv A outer s H E f hr => ⟨_,
    (ss_cons (s_if (PDW.pt (w_or (t_not (t_val (d_isi kit_tuple (by rfl) B.isinstance (a_cons (dv 0) (a_cons (d_bltn (v := .ty "tuple") (by rfl) B.tuple (by decide +kernel) rfl) a_nil))))) (w_or (t_eq hr.units (dv 0) (d_tup a_nil)) (w_or (t_not (t_val (d_isi kit_str (by rfl) B.isinstance (a_cons (d_ix (hu_of hr) (dv 0) d_int) (a_cons (d_bltn (v := .ty "str") (by rfl) B.str (by decide +kernel) rfl) a_nil))))) (w_or1 (t_isN (d_callF D3 (hr.mono (by omega)) (by rfl) (a_cons (d_ix (hu_of hr) (dv 0) d_int) a_nil)) d_non))))))
      (ss_one (s_ret d_str))
      ss_nil)
      (ss_cons (s_set (i := 4) sc_why_not.nd (d_callF D3 (hr.mono (by omega)) (by rfl) (a_cons (d_ix (hu_of hr) (dv 0) d_int) a_nil)))
      (ss_cons (s_if (t_ne hr.units (d_len (by rfl) B.len (a_cons (dv 0) a_nil)) (d_add (d_len (by rfl) B.len (a_cons (dv 4) a_nil)) d_int))
      (ss_one (s_ret d_str))
      ss_nil)
      (ss_cons (s_for (i_zipS (by rfl) B.zip (a_cons (dv 4) (a_cons (d_slice (dv 0) (o_some d_int) o_none) a_nil))) (g_tup (gs_cons (g_name (i := 5) sc_why_not.nd) (gs_cons (g_name (i := 6) sc_why_not.nd) gs_nil)))
      (ss_cons (s_if (PDW.pt (w_and (t_eq hr.units (dv 5) d_str) (w_and1 (t_not (t_val (d_callF D1 (hr.mono (by omega)) (by rfl) (a_cons (dv 6) (a_cons d_int (a_cons (d_sub (dv 1) d_int) a_nil)))))))))
      (ss_one (s_ret d_str))
      ss_nil)
      (ss_cons (s_if (PDW.pt (w_and (t_eq hr.units (dv 5) d_str) (w_and1 (t_not (t_val (d_callF D1 (hr.mono (by omega)) (by rfl) (a_cons (dv 6) (a_cons d_int (a_cons (d_sub (dv 2) d_int) a_nil)))))))))
      (ss_one (s_ret d_str))
      ss_nil)
      (ss_cons (s_if (PDW.pt (w_and (t_eq hr.units (dv 5) d_str) (w_and1 (t_not (t_val (d_callF D1 (hr.mono (by omega)) (by rfl) (a_cons (dv 6) (a_cons d_int (a_cons (dv 3) a_nil)))))))))
      (ss_one (s_ret d_str))
      ss_nil)
      (ss_one (s_if (PDW.pt (w_and (t_eq hr.units (dv 5) d_str) (w_and1 (t_not (t_val (d_callF D2 (hr.mono (by omega)) (by rfl) (a_cons (dv 6) (a_cons (dv 1) (a_cons (d_globI (by rfl) c1) a_nil)))))))))
      (ss_one (s_ret d_str))
      ss_nil))))))
      (ss_one (s_ret d_non))))))
    , ?_⟩
  intro rs S C hl h
  obtain ⟨r, names, files, many, rfl, ok, h⟩ := h
  have hsh : SeqAt.shaped r.dat = true := shaped_mk r.lay (by have := PRow.depth ok; omega)
  have he : eqOk r.dat (.tuple []) = true := eqOk_mk hsh (by decide)
  have e0 : ∀ (x : PyData) (xs : List PyData), PyData.eqv (.tuple (x :: xs)) (.tuple []) = false := fun x xs => by rw [PyData.eqv, PyData.eqvAll]
  refine ⟨_, rfl, rfl, _, rfl, iteFb rfl ⟨_, rfl, Nat.zero_le _, _, rfl, he, iteFb (e0 _ _) ⟨_, rfl, ⟨_, at0, rfl, _, rfl, iteFb rfl ⟨_, rfl, ⟨_, at0, rfl, _, rfl, ?_⟩⟩⟩⟩⟩⟩
  rw [shape_row]
  dsimp only [dC, fIsN]
  refine iteFb ?_ ?_
  · rfl
  refine ⟨_, rfl, ⟨_, at0, rfl, _, rfl, ?_⟩⟩
  rw [shape_row]
  cases r with
  | set n p =>
    obtain ⟨⟨n1, n2⟩, hp, hd⟩ := ok
    refine ⟨_, rfl, _, rfl, shape_len _, rfl, iteFb rfl ⟨_, rfl, _, rfl, loop_unroll ?_⟩⟩
    walk_at "pair"; walk_at "num"; walk_at "off"; walk_at "off"; walk_at "off"
    walk_at "pair"; walk_at "off"; walk_at "off"; walk_at "off"; walk_at "part"
    exact h
  | take n =>
    obtain ⟨n1, n2⟩ := ok
    refine ⟨_, rfl, _, rfl, shape_len _, rfl, iteFb rfl ⟨_, rfl, _, rfl, loop_unroll ?_⟩⟩
    walk_at "pair"; walk_at "num"; walk_at "off"; walk_at "off"; walk_at "off"
    exact h
  | add n p =>
    obtain ⟨⟨n1, n2⟩, hp, hd⟩ := ok
    refine ⟨_, rfl, _, rfl, shape_len _, rfl, iteFb rfl ⟨_, rfl, _, rfl, loop_unroll ?_⟩⟩
    walk_at "pair"; walk_at "off"; walk_at "num"; walk_at "off"; walk_at "off"
    walk_at "pair"; walk_at "off"; walk_at "off"; walk_at "off"; walk_at "part"
    exact h
  | put n p q =>
    obtain ⟨⟨n1, n2⟩, ⟨hp, hd⟩, hq, he⟩ := ok
    refine ⟨_, rfl, _, rfl, shape_len _, rfl, iteFb rfl ⟨_, rfl, _, rfl, loop_unroll ?_⟩⟩
    walk_at "pair"; walk_at "off"; walk_at "num"; walk_at "off"; walk_at "off"
    walk_at "pair"; walk_at "off"; walk_at "off"; walk_at "off"; walk_at "part"
    walk_at "pair"; walk_at "off"; walk_at "off"; walk_at "off"; walk_at "part"
    exact h
  | cut n p =>
    obtain ⟨⟨n1, n2⟩, hp, hd⟩ := ok
    refine ⟨_, rfl, _, rfl, shape_len _, rfl, iteFb rfl ⟨_, rfl, _, rfl, loop_unroll ?_⟩⟩
    walk_at "pair"; walk_at "off"; walk_at "num"; walk_at "off"; walk_at "off"
    walk_at "pair"; walk_at "off"; walk_at "off"; walk_at "off"; walk_at "part"
    exact h
  | get n f p =>
    obtain ⟨⟨n1, n2⟩, ⟨f1, f2⟩, hp, hd⟩ := ok
    refine ⟨_, rfl, _, rfl, shape_len _, rfl, iteFb rfl ⟨_, rfl, _, rfl, loop_unroll ?_⟩⟩
    walk_at "pair"; walk_at "num"; walk_at "off"; walk_at "off"; walk_at "off"
    walk_at "pair"; walk_at "off"; walk_at "num"; walk_at "off"; walk_at "off"
    walk_at "pair"; walk_at "off"; walk_at "off"; walk_at "off"; walk_at "part"
    exact h
  | size n f =>
    obtain ⟨⟨n1, n2⟩, ⟨f1, f2⟩⟩ := ok
    refine ⟨_, rfl, _, rfl, shape_len _, rfl, iteFb rfl ⟨_, rfl, _, rfl, loop_unroll ?_⟩⟩
    walk_at "pair"; walk_at "num"; walk_at "off"; walk_at "off"; walk_at "off"
    walk_at "pair"; walk_at "off"; walk_at "num"; walk_at "off"; walk_at "off"
    exact h
  | send p =>
    obtain ⟨hp, hd⟩ := ok
    refine ⟨_, rfl, _, rfl, shape_len _, rfl, iteFb rfl ⟨_, rfl, _, rfl, loop_unroll ?_⟩⟩
    walk_at "pair"; walk_at "off"; walk_at "off"; walk_at "off"; walk_at "part"
    exact h
  | go n =>
    obtain ⟨n1, n2⟩ := ok
    refine ⟨_, rfl, _, rfl, shape_len _, rfl, iteFb rfl ⟨_, rfl, _, rfl, loop_unroll ?_⟩⟩
    walk_at "pair"; walk_at "off"; walk_at "off"; walk_at "num"; walk_at "off"
    exact h
  | unl n f =>
    obtain ⟨⟨n1, n2⟩, ⟨f1, f2⟩⟩ := ok
    refine ⟨_, rfl, _, rfl, shape_len _, rfl, iteFb rfl ⟨_, rfl, _, rfl, loop_unroll ?_⟩⟩
    walk_at "pair"; walk_at "num"; walk_at "off"; walk_at "off"; walk_at "off"
    walk_at "pair"; walk_at "off"; walk_at "off"; walk_at "num"; walk_at "off"
    exact h
  | mark =>
    refine ⟨_, rfl, _, rfl, shape_len _, rfl, iteFb rfl ⟨_, rfl, _, rfl, loop_unroll ?_⟩⟩
    exact h
end
end K17
set_option Elab.async false
set_option linter.all false
set_option maxRecDepth 100000
set_option maxHeartbeats 4000000
namespace K17
open PySem PySem.Spec PyProof.Rows L2 DL PM
section
variable {P : Program} {w : World} {K : Fg} {mg : Str → Option Value} {base : Heap}
/-! need_program -/
def spNeedProgram : SpD := fun rs S C => ∃ p : Prog, rs = [.dat p.dat] ∧ p.ok ∧ C (.dat .none) S
abbrev s_need_program : Stmt := topS 27
abbrev N_need_program : List Str := ["program", "names", "files", "rows", "number", "row", "why"]
theorem sc_need_program : FnScope N_need_program ["program"] (defScope s_need_program) := ⟨rfl, rfl, rfl, by decide +kernel, rfl, by decide +kernel, by decide +kernel⟩
theorem ok_need_program {k : Nat} {t1 t2 t3 : Tok} (F : FunAt K mg "need_program" s_need_program ["program"]) (B : Blt mg) (D1 : Def P w K mg base "is_number" 1 3 spIsNumber) (D2 : Def P w K mg base "why_not" 6 4 spWhyNot) (c1 : mg "MOST_NAMES" = some (.int 8 t1)) (c2 : mg "MOST_FILES" = some (.int 4 t2)) (c3 : mg "MOST_ROWS" = some (.int 60 t3)) : Def P w K mg base "need_program" (k + 7) 1 spNeedProgram := by
  refine okF F sc_need_program rfl fun cdv A outer s H E f hr => ⟨_,
    (ss_cons (s_if (PDW.pt (w_or (t_not (t_val (d_isi kit_tuple (by rfl) B.isinstance (a_cons (dv 0) (a_cons (d_bltn (v := .ty "tuple") (by rfl) B.tuple (by decide +kernel) rfl) a_nil))))) (w_or (t_ne hr.units (d_len (by rfl) B.len (a_cons (dv 0) a_nil)) d_int) (w_or1 (t_not (t_val (d_isi kit_tuple (by rfl) B.isinstance (a_cons (d_ix (hu_of hr) (dv 0) d_int) (a_cons (d_bltn (v := .ty "tuple") (by rfl) B.tuple (by decide +kernel) rfl) a_nil)))))))))
      (ss_one s_never)
      ss_nil)
      (ss_cons (s_asg (dv 0) (g_tup (gs_cons (g_name (i := 1) sc_need_program.nd) (gs_cons (g_name (i := 2) sc_need_program.nd) (gs_cons (g_name (i := 3) sc_need_program.nd) gs_nil)))))
      (ss_cons (s_if (t_not (t_val (d_callF D1 (hr.mono (by omega)) (by rfl) (a_cons (dv 1) (a_cons d_int (a_cons (d_globI (by rfl) c1) a_nil))))))
      (ss_one s_never)
      ss_nil)
      (ss_cons (s_if (t_not (t_val (d_callF D1 (hr.mono (by omega)) (by rfl) (a_cons (dv 2) (a_cons d_int (a_cons (d_globI (by rfl) c2) a_nil))))))
      (ss_one s_never)
      ss_nil)
      (ss_one (s_for (i_enumT (by rfl) B.enumerate (a_cons (dv 3) a_nil)) (g_tup (gs_cons (g_name (i := 4) sc_need_program.nd) (gs_cons (g_name (i := 5) sc_need_program.nd) gs_nil)))
      (ss_cons (s_set (i := 6) sc_need_program.nd (d_if (t_ge (dv 4) (d_globI (by rfl) c3)) d_str (d_callF D2 (hr.mono (by omega)) (by rfl) (a_cons (dv 5) (a_cons (dv 1) (a_cons (dv 2) (a_cons (d_len (by rfl) B.len (a_cons (dv 3) a_nil)) a_nil)))))))
      (ss_one (s_if (t_notN (dv 6) d_non)
      (ss_one s_never)
      ss_nil)))))))))
    , ?_⟩
  intro rs S C hl h
  obtain ⟨p, rfl, ok, h⟩ := h
  have hn := ok.n
  have hf := ok.f
  have hl60 := ok.l
  refine ⟨_, rfl, rfl, _, rfl, iteFb rfl ⟨_, rfl, rfl, iteFb rfl ⟨_, rfl, ⟨_, rfl, rfl, _, rfl, iteFb rfl ?_⟩⟩⟩⟩
  refine ⟨_, rfl, rfl, rfl, ?_⟩
  refine ⟨_, rfl, rfl, _, _, _, rfl, (fun z => nomatch z), iteFb (by simp [isNum]; omega) ?_⟩
  refine ⟨_, rfl, rfl, _, _, _, rfl, (fun z => nomatch z), iteFb (by simp [isNum]; omega) ?_⟩
  refine ⟨_, rfl, fun i fr S' => S' = S ∧ ∃ a b c : Option R, fr = [some (.dat p.dat), some (.dat (.int p.names)), some (.dat (.int p.files)), some (.dat (.tuple (p.rows.map PRow.dat))), a, b, c], ⟨rfl, none, none, none, rfl⟩, ?_, ?_⟩
  · rintro i r fr S' hi ⟨rfl, a, b, c, rfl⟩
    obtain ⟨d, hd, rfl⟩ := enum_get hi
    rw [List.getElem?_map] at hd
    cases hx : p.rows[i]? with
    | none => rw [hx] at hd; cases hd
    | some row =>
      rw [hx] at hd
      cases hd
      have hlt := (List.getElem?_eq_some_iff.mp hx).1
      refine ⟨rfl, rfl, _, rfl, iteFd (by omega) ⟨_, rfl, _, rfl, _, rfl, _, rfl, rfl, row, p.names, p.files, _, rfl, ?_, ?_⟩⟩
      · rw [List.length_map]
        exact ok.r row (List.mem_of_getElem? hx)
      · exact ⟨_, rfl, rfl, _, _, _, rfl⟩
  · rintro fr S' ⟨rfl, a, b, c, rfl⟩
    exact h
/-! need_handed -/
def spNeedHanded : SpD := fun rs S C => ∃ (r : R) (hs : List Int), rs = [r] ∧ r = .dat (lstI hs) ∧ HandedOk hs ∧ C (.dat .none) S
abbrev s_need_handed : Stmt := topS 28
abbrev N_need_handed : List Str := ["handed", "one"]
theorem sc_need_handed : FnScope N_need_handed ["handed"] (defScope s_need_handed) := ⟨rfl, rfl, rfl, by decide +kernel, rfl, by decide +kernel, by decide +kernel⟩
theorem ok_need_handed {k : Nat} {t1 t2 : Tok} (F : FunAt K mg "need_handed" s_need_handed ["handed"]) (B : Blt mg) (D1 : Def P w K mg base "is_number" 1 3 spIsNumber) (c1 : mg "MOST_HANDED" = some (.int 40 t1)) (c2 : mg "REST" = some (.int 10007 t2)) : Def P w K mg base "need_handed" (k + 2) 1 spNeedHanded := by
  refine okF F sc_need_handed rfl fun cdv A outer s H E f hr => ⟨_,
    (ss_one (s_if (PDW.pt (w_or (t_gt (d_len (by rfl) B.len (a_cons (dv 0) a_nil)) (d_globI (by rfl) c1)) (w_or1 (t_ne hr.units (d_lc sc_need_handed.nd (i := 1) (i_src (dv 0)) (blkOk_by (N := N_need_handed) (sc := defScope s_need_handed) (own := [("one", 1)]) (by decide +kernel)) (fun _ _ _ _ _ => pg_name (i := 1) sc_need_handed.nd rfl (Or.inl rfl)) (fun _ _ _ _ _ => (ts_one (t_not (t_val (d_callF D1 (hr.mono (by omega)) (by rfl) (a_cons (dv 1) (a_cons d_int (a_cons (d_sub (d_globI (by rfl) c2) d_int) a_nil)))))))) (fun _ _ _ _ _ => (dv 1))) (d_lst a_nil)))))
      (ss_one s_never)
      ss_nil))
    , ?_⟩
  intro rs S C hl h
  obtain ⟨r, hs, rfl, rfl, ok, h⟩ := h
  have h40 := ok.1
  refine ⟨_, rfl, iteFd (by simp; omega) ⟨_, rfl, lc_pure (fun _ => false) id ?_ ?_ (by simp; omega) ?_⟩⟩
  · intro r hr C' q
    obtain ⟨n, hn, rfl⟩ := mem_ints hr
    have := ok.2 n hn
    refine ⟨_, rfl, rfl, _, _, _, rfl, (fun z => nomatch z), ?_⟩
    have e : isNum (.int n) 0 (10007 - 1) = true := isNum_yes (by omega)
    show C' (!isNum (.int n) 0 (10007 - 1)) S
    rw [e]
    exact q
  · intro r hr hp
    cases hp
  · rw [List.filter_eq_nil_iff.mpr (fun _ _ => Bool.false_ne_true)]
    exact ⟨_, rfl, Nat.zero_le _, _, rfl, rfl, iteFb rfl h⟩
/-! worth -/
def spWorth (n : Nat) : SpD := fun rs S C => ∃ (p : Part) (r : R) (ns : List Int), rs = [.dat p.dat, r] ∧ lstR S r (iR ns) ∧ p.ok ns.length ∧ p.deep ≤ n ∧ C (.dat (.int (p.worth ns))) S
abbrev s_worth : Stmt := topS 29
abbrev N_worth : List Str := ["part", "names", "one", "other"]
theorem sc_worth : FnScope N_worth ["part", "names"] (defScope s_worth) := ⟨rfl, rfl, rfl, by decide +kernel, rfl, by decide +kernel, by decide +kernel⟩
theorem worth_body {n k : Nat} {spR : SpD} {t1 : Tok} (F : FunAt K mg "worth" s_worth ["part", "names"]) (B : Blt mg) (D : Def P w K mg base "worth" k 2 spR) (hR : ∀ m rs S C, m + 1 = n → spWorth m rs S C → spR rs S C)
    (c2 : mg "REST" = some (.int 10007 t1)) : Def P w K mg base "worth" (k + 1) 2 (spWorth n) := by
  refine okF F sc_worth rfl fun cdv A outer s H E f hr => ⟨_,
    (ss_cons (s_if (t_eq hr.units (d_ix (hu_of hr) (dv 0) d_int) d_str)
      (ss_one (s_ret (d_ix (hu_of hr) (dv 0) d_int)))
      ss_nil)
      (ss_cons (s_if (t_eq hr.units (d_ix (hu_of hr) (dv 0) d_int) d_str)
      (ss_one (s_ret (d_ix (hu_of hr) (dv 1) (d_ix (hu_of hr) (dv 0) d_int))))
      ss_nil)
      (ss_cons (s_par (i := 2) (j := 3) sc_worth.nd (a_cons (d_callF D (hr.mono (by omega)) (by rfl) (a_cons (d_ix (hu_of hr) (dv 0) d_int) (a_cons (dv 1) a_nil))) (a_cons (d_callF D (hr.mono (by omega)) (by rfl) (a_cons (d_ix (hu_of hr) (dv 0) d_int) (a_cons (dv 1) a_nil))) a_nil)))
      (ss_cons (s_if (t_eq hr.units (d_ix (hu_of hr) (dv 0) d_int) d_str)
      (ss_one (s_ret (d_intF (by rfl) B.int (a_cons (d_lt (dv 2) (dv 3)) a_nil))))
      ss_nil)
      (ss_one (s_ret (d_mod (d_if (t_eq hr.units (d_ix (hu_of hr) (dv 0) d_int) d_str) (d_add (dv 2) (dv 3)) (d_sub (dv 2) (dv 3))) (d_globI (by rfl) c2))))))))
    , ?_⟩
  intro rs S C hl h
  obtain ⟨p, r, ns, rfl, hr', hp, hd, h⟩ := h
  have hpos := p.deep_pos
  cases p with
  | num n => exact ⟨_, rfl, _, rfl, rfl, iteTb rfl ⟨_, rfl, _, rfl, h⟩⟩
  | name n =>
    refine ⟨_, rfl, _, rfl, rfl, iteFb rfl ⟨_, rfl, _, rfl, rfl, iteTb rfl ⟨_, rfl, _, rfl, _, rfl, ?_⟩⟩⟩
    have e := iR_at (ns := ns) (i := n.toNat) (by have := hp.1; have := hp.2; omega)
    rw [toNat_cast hp.1] at e
    exact ix_lstR hr' e h
  | op o a b =>
    obtain ⟨m, hm⟩ : ∃ m, m + 1 = n := ⟨n - 1, by omega⟩
    have hda : a.deep + 1 ≤ (Part.op o a b).deep := by simp only [Part.deep]; omega
    have hdb : b.deep + 1 ≤ (Part.op o a b).deep := by simp only [Part.deep]; omega
    have w1 : PyData.eqv (.str o.word) (.str "num") = false := by cases o <;> rfl
    have w2 : PyData.eqv (.str o.word) (.str "name") = false := by cases o <;> rfl
    refine ⟨_, rfl, _, rfl, rfl, iteFb w1 ⟨_, rfl, _, rfl, rfl, iteFb w2 ?_⟩⟩
    refine ⟨_, rfl, _, rfl, _, rfl, rfl, hR m _ _ _ hm ⟨a, r, ns, rfl, hr', hp.1, by omega, ?_⟩⟩
    refine ⟨_, rfl, _, rfl, _, rfl, rfl, hR m _ _ _ hm ⟨b, r, ns, rfl, hr', hp.2, by omega, ?_⟩⟩
    cases o with
    | less =>
      refine ⟨_, rfl, _, rfl, rfl, iteTb rfl ⟨_, rfl, _, rfl, ?_⟩⟩
      have e : (if decide (a.worth ns < b.worth ns) = true then (1 : Int) else 0) = (Part.op .less a b).worth ns := by simp [Part.worth]
      show C (.dat (.int (if decide (a.worth ns < b.worth ns) = true then (1 : Int) else 0))) S
      rw [e]
      exact h
    | sum =>
      exact ⟨_, rfl, _, rfl, rfl, iteFb rfl ⟨_, rfl, _, rfl, rfl, iteTb rfl ⟨_, rfl, _, rfl, (by show (0 : Int) < 10007; decide), h⟩⟩⟩
    | diff =>
      exact ⟨_, rfl, _, rfl, rfl, iteFb rfl ⟨_, rfl, _, rfl, rfl, iteFb rfl ⟨_, rfl, _, rfl, (by show (0 : Int) < 10007; decide), h⟩⟩⟩
theorem ok_worth {t1 : Tok} (F : FunAt K mg "worth" s_worth ["part", "names"]) (B : Blt mg) (c2 : mg "REST" = some (.int 10007 t1)) : ∀ n : Nat, Def P w K mg base "worth" (n + 1) 2 (spWorth n)
  | 0 => worth_body F B (Def.never F) (fun m _ _ _ h _ => by omega) c2
  | n + 1 => worth_body F B (ok_worth F B c2 n) (fun m rs S C h q => by
    have e : m = n := by omega
    subst e
    exact q) c2
end
end K17
set_option Elab.async false
set_option linter.all false
set_option maxRecDepth 100000
set_option maxHeartbeats 4000000
namespace K17
open PySem PySem.Spec PyProof.Rows L2 DL PM
section
variable {P : Program} {w : World} {K : Fg} {mg : Str → Option Value} {base : Heap} {CE : Addr}
/-! Effect.__init__ -/
def spEffInit (CE : Addr) : SpD := fun rs S C => ∃ (x : Addr) (row taken : Int) (S0 : SH), rs = [.val (.ref x), .dat (.int row), .dat (.int taken)] ∧ S = .ins x CE FE [] :: S0 ∧ C (.dat .none) (.ins x CE FE (eff0 row taken).rs :: S0)
abbrev s_Effect___init__ : Stmt := inClass (topS 31) 0
abbrev N_Effect___init__ : List Str := ["self", "row", "taken"]
theorem sc_Effect___init__ : FnScope N_Effect___init__ ["self", "row", "taken"] (defScope s_Effect___init__) := ⟨rfl, rfl, rfl, by decide +kernel, rfl, by decide +kernel, by decide +kernel⟩
theorem ok_eff_init {k : Nat} (F : FunI K mg "Effect" CE "Effect.__init__" s_Effect___init__ ["self", "row", "taken"]) (TE : Klass K CE FE) : DefI P w K mg base "Effect" CE (k + 1) 3 (spEffInit CE) := by
  refine okI F sc_Effect___init__ rfl fun cdv A outer s H E f hr => ⟨_,
    (ss_cons (s_fld TE 0 (dv 0) (dv 1))
      (ss_cons (s_fld TE 1 (dv 0) (dv 2))
      (ss_cons (s_fld TE 2 (dv 0) d_non)
      (ss_cons (s_fld TE 3 (dv 0) d_non)
      (ss_cons (s_fld TE 4 (dv 0) d_non)
      (ss_cons (s_fld TE 5 (dv 0) d_int)
      (ss_cons (s_fld TE 6 (dv 0) (d_tup a_nil))
      (ss_cons (s_fld TE 7 (dv 0) (d_tup a_nil))
      (ss_cons (s_fld TE 8 (dv 0) d_non)
      (ss_one (s_fld TE 9 (dv 0) d_non)))))))))))
    , ?_⟩
  intro rs S C hl h
  obtain ⟨x, row, taken, S0, rfl, rfl, h⟩ := h
  refine ⟨_, rfl, _, rfl, 0, _, rfl, le_ok rfl, ?_⟩
  refine ⟨_, rfl, _, rfl, 0, _, rfl, le_ok rfl, ?_⟩
  refine ⟨_, rfl, 0, _, rfl, le_ok rfl, ?_⟩
  refine ⟨_, rfl, 0, _, rfl, le_ok rfl, ?_⟩
  refine ⟨_, rfl, 0, _, rfl, le_ok rfl, ?_⟩
  refine ⟨_, rfl, 0, _, rfl, le_ok rfl, ?_⟩
  refine ⟨Nat.zero_le _, _, rfl, _, rfl, 0, _, rfl, le_ok rfl, ?_⟩
  refine ⟨Nat.zero_le _, _, rfl, _, rfl, 0, _, rfl, le_ok rfl, ?_⟩
  refine ⟨_, rfl, 0, _, rfl, le_ok rfl, ?_⟩
  refine ⟨_, rfl, 0, _, rfl, le_ok rfl, ?_⟩
  exact WkC.of h
/-! Effect.change -/
def spChange (CE : Addr) : SpD := fun rs S C => ∃ (x : Addr) (e : Eff) (fl at_ : Int) (h new : List Int) (j : Nat), rs = [.val (.ref x), .dat (.int fl), .dat (lstI h), .dat (.int at_), .dat (tupI new)] ∧ S[j]? = some (.ins x CE FE e.rs) ∧ 0 ≤ at_ ∧
  C (.dat .none) (S.set j (.ins x CE FE (changedE e fl h at_.toNat new).rs))
abbrev s_Effect_change : Stmt := inClass (topS 31) 1
abbrev N_Effect_change : List Str := ["self", "file", "held", "at", "new"]
theorem sc_Effect_change : FnScope N_Effect_change ["self", "file", "held", "at", "new"] (defScope s_Effect_change) := ⟨rfl, rfl, rfl, by decide +kernel, rfl, by decide +kernel, by decide +kernel⟩
theorem ok_change {k : Nat} (F : FunM K CE "change" "Effect.change" s_Effect_change ["self", "file", "held", "at", "new"]) (B : Blt mg) (TE : Klass K CE FE) : DefM P w K mg base CE "change" (k + 1) 5 (spChange CE) := by
  refine okM F sc_Effect_change rfl fun cdv A outer s H E f hr => ⟨_,
    (ss_cons (s_fld TE 4 (dv 0) (dv 1))
      (ss_cons (s_fld TE 5 (dv 0) (dv 3))
      (ss_cons (s_fld TE 6 (dv 0) (d_tuple (by rfl) B.tuple (a_cons (d_slice (dv 2) (o_some (dv 3)) o_none) a_nil)))
      (ss_one (s_fld TE 7 (dv 0) (d_tuple (by rfl) B.tuple (a_cons (dv 4) a_nil)))))))
    , ?_⟩
  intro rs S C hl h
  obtain ⟨x, e, fl, at_, hd, new, j, rfl, hj, h0, h⟩ := h
  refine ⟨_, rfl, _, rfl, j, _, hj, le_ok rfl, ?_⟩
  have hj1 := getset hj (.ins x CE FE (putAt 4 (.dat (.int fl)) e.rs))
  refine ⟨_, rfl, _, rfl, j, _, hj1, le_ok rfl, ?_⟩
  rw [List.set_set]
  have hj2 := getset hj (.ins x CE FE (putAt 5 (.dat (.int at_)) (putAt 4 (.dat (.int fl)) e.rs)))
  refine ⟨_, rfl, _, rfl, _, rfl, j, _, hj2, le_ok rfl, ?_⟩
  rw [List.set_set, cut_from _ h0]
  have hj3 := getset hj (.ins x CE FE (putAt 6 (.dat (.tuple ((hd.map PyData.int).drop at_.toNat))) (putAt 5 (.dat (.int at_)) (putAt 4 (.dat (.int fl)) e.rs))))
  refine ⟨_, rfl, _, rfl, j, _, hj3, le_ok rfl, ?_⟩
  rw [List.set_set]
  refine WkC.of ?_
  have e1 : (putAt 7 (.dat (.tuple (new.map PyData.int))) (putAt 6 (.dat (.tuple ((hd.map PyData.int).drop at_.toNat))) (putAt 5 (.dat (.int at_)) (putAt 4 (.dat (.int fl)) e.rs)))) = (changedE e fl hd at_.toNat new).rs := by
    rw [← List.map_drop]
    unfold changedE Eff.rs
    simp only [toNat_cast h0]
    rfl
  have e2 : S.set j (.ins x CE FE (putAt 7 (.dat (.tuple (new.map PyData.int))) (putAt 6 (.dat (.tuple ((hd.map PyData.int).drop at_.toNat))) (putAt 5 (.dat (.int at_)) (putAt 4 (.dat (.int fl)) e.rs))))) = S.set j (.ins x CE FE (changedE e fl hd at_.toNat new).rs) := by rw [e1]
  exact Eq.mp (congrArg (C (.dat .none)) e2.symm) h
end
end K17
set_option Elab.async false
set_option linter.all false
set_option maxRecDepth 100000
set_option maxHeartbeats 4000000
namespace K17
open PySem PySem.Spec PyProof.Rows L2 DL PM
section
variable {P : Program} {w : World} {K : Fg} {mg : Str → Option Value} {base : Heap} {CE : Addr}
theorem eqL {hd : List Int} {n : Nat} (h : PyData.eqv (.int (((hd.map PyData.int).length : Nat) : Int)) (.int (n : Int)) = true) : hd.length = n := by
  have h' : (((hd.map PyData.int).length : Nat) : Int) = (n : Int) := by simpa [PyData.eqv] using h
  rw [List.length_map] at h'
  omega
theorem neL {hd : List Int} {n : Nat} (h : PyData.eqv (.int (((hd.map PyData.int).length : Nat) : Int)) (.int (n : Int)) = false) : ¬ hd.length = n := fun z => by
  rw [PyData.eqv, List.length_map, z] at h
  simp at h
/-! changed -/
def isChange : PRow → Bool
  | .add _ _ => true | .put _ _ _ => true | .cut _ _ => true | _ => false
def spChanged (CE : Addr) : SpD := fun rs S C => ∃ (x : Addr) (row : PRow) (at_ taken many : Int) (rN rF : R) (ns hs : List Int) (fs : List (List Int)) (j : Nat), rs = [.val (.ref x), .dat row.dat, rN, rF] ∧ isChange row = true ∧ S[j]? = some (.ins x CE FE (eff0 (at_ + 1) taken).rs) ∧
  row.ok ns.length fs.length many ∧ lstR S rN (iR ns) ∧ lstR S rF (fileR fs) ∧ (∀ n ∈ ns, 0 ≤ n) ∧ (∀ f ∈ fs, f.length ≤ 1000) ∧ C (.val (.ref x)) (S.set j (.ins x CE FE (effect row at_ taken ns hs fs).rs))
abbrev s_changed : Stmt := topS 32
abbrev N_changed : List Str := ["found", "row", "names", "files", "held", "first"]
theorem sc_changed : FnScope N_changed ["found", "row", "names", "files"] (defScope s_changed) := ⟨rfl, rfl, rfl, by decide +kernel, rfl, by decide +kernel, by decide +kernel⟩
theorem ok_changed {k : Nat} {t1 : Tok} (F : FunAt K mg "changed" s_changed ["found", "row", "names", "files"]) (B : Blt mg) (TE : Klass K CE FE) (D1 : Def P w K mg base "worth" 4 2 (spWorth 3)) (M1 : DefM P w K mg base CE "change" 1 5 (spChange CE)) (c1 : mg "MOST_FILE" = some (.int 40 t1)) : Def P w K mg base "changed" (k + 5) 4 (spChanged CE) := by
  refine okW F sc_changed rfl fun cdv A outer s H E f hr => ⟨_,
    (ss_cons (s_set (i := 4) sc_changed.nd (d_ix (hu_of hr) (dv 3) (d_ix (hu_of hr) (dv 1) d_int)))
      (ss_cons (s_set (i := 5) sc_changed.nd (d_callF D1 (hr.mono (by omega)) (by rfl) (a_cons (d_ix (hu_of hr) (dv 1) d_int) (a_cons (dv 2) a_nil))))
      (ss_cons (s_if (t_eq hr.units (d_ix (hu_of hr) (dv 1) d_int) d_str)
      (ss_cons (s_if (t_eq hr.units (d_len (by rfl) B.len (a_cons (dv 4) a_nil)) (d_globI (by rfl) c1))
      (ss_one (s_fld TE 9 (dv 0) d_str))
      ss_nil)
      (ss_one (s_expr (d_meth TE M1 (hr.mono (by omega)) (by decide) (dv 0) (a_cons (d_ix (hu_of hr) (dv 1) d_int) (a_cons (dv 4) (a_cons (d_len (by rfl) B.len (a_cons (dv 4) a_nil)) (a_cons (d_tup (a_cons (dv 5) a_nil)) a_nil))))))))
      (ss_one (s_if (t_eq hr.units (d_ix (hu_of hr) (dv 1) d_int) d_str)
      (ss_cons (s_if (t_ge (dv 5) (d_len (by rfl) B.len (a_cons (dv 4) a_nil)))
      (ss_one (s_fld TE 9 (dv 0) d_str))
      ss_nil)
      (ss_one (s_expr (d_meth TE M1 (hr.mono (by omega)) (by decide) (dv 0) (a_cons (d_ix (hu_of hr) (dv 1) d_int) (a_cons (dv 4) (a_cons (dv 5) (a_cons (d_add (d_tup (a_cons (d_callF D1 (hr.mono (by omega)) (by rfl) (a_cons (d_ix (hu_of hr) (dv 1) d_int) (a_cons (dv 2) a_nil))) a_nil)) (d_tuple (by rfl) B.tuple (a_cons (d_slice (dv 4) (o_some (d_add (dv 5) d_int)) o_none) a_nil))) a_nil))))))))
      (ss_one (s_expr (d_meth TE M1 (hr.mono (by omega)) (by decide) (dv 0) (a_cons (d_ix (hu_of hr) (dv 1) d_int) (a_cons (dv 4) (a_cons (d_min2 (by rfl) B.min (a_cons (dv 5) (a_cons (d_len (by rfl) B.len (a_cons (dv 4) a_nil)) a_nil))) (a_cons (d_tup a_nil) a_nil))))))))))
      (ss_one (s_ret (dv 0))))))
    , ?_⟩
  intro rs S C hl h
  obtain ⟨x, row, at_, taken, many, rN, rF, ns, hs, fs, j, rfl, hc, hj, ok, hN, hF, hnn, hfl, h⟩ := h
  have file_len : ∀ fl : Int, (fs.getD fl.toNat []).length ≤ 1000 := fun fl => by
    rw [List.getD_eq_getElem?_getD]
    cases e : fs[fl.toNat]? with
    | none => exact Nat.zero_le _
    | some x => exact hfl x (List.mem_of_getElem? e)
  have file_at : ∀ fl : Int, NumOk fl fs.length → atI (fileR fs) fl = some (.dat (lstI (fs.getD fl.toNat []))) := fun fl hf => by
    have e := fileR_at (fs := fs) (i := fl.toNat) (by have := hf.1; have := hf.2; omega)
    rw [toNat_cast hf.1] at e
    exact e
  cases row with
  | add fl p =>
    obtain ⟨hf, hp, hd⟩ := ok
    have ef : effect (.add fl p) at_ taken ns hs fs = changedE (if (fs.getD fl.toNat []).length = 40 then { eff0 (at_ + 1) taken with fault := some "full" } else eff0 (at_ + 1) taken) fl (fs.getD fl.toNat []) (fs.getD fl.toNat []).length [p.worth ns] := rfl
    rw [ef] at h
    have fa := file_at fl hf
    clear ef
    generalize fs.getD fl.toNat [] = hd at fa h
    refine ⟨_, rfl, _, rfl, _, rfl, ix_lstR hF fa ?_⟩
    refine ⟨_, rfl, _, rfl, _, rfl, rfl, p, rN, ns, rfl, hN, hp, by assumption, ?_⟩
    refine ⟨_, rfl, _, rfl, rfl, iteTb rfl ?_⟩
    refine ⟨_, rfl, rfl, ite2b (fun hb => ?_) (fun hb => ?_)⟩
    · rw [if_pos (eqL hb)] at h
      refine ⟨_, rfl, j, _, hj, le_ok rfl, ?_⟩
      have hj1 := getset hj (.ins x CE FE ({ eff0 (at_ + 1) taken with fault := some "full" } : Eff).rs)
      refine ⟨_, rfl, ⟨j, _, hj1⟩, _, rfl, _, rfl, _, rfl, _, rfl, _, rfl, by simp, _, rfl, rfl, x, { eff0 (at_ + 1) taken with fault := some "full" }, fl, _, hd, [p.worth ns], j, rfl, hj1, by omega, ?_⟩
      refine ⟨_, rfl, WkC.of ?_⟩
      rw [List.set_set, Int.toNat_natCast, List.length_map]
      exact h
    · rw [if_neg (neL hb)] at h
      refine ⟨_, rfl, ⟨j, _, hj⟩, _, rfl, _, rfl, _, rfl, _, rfl, _, rfl, by simp, _, rfl, rfl, x, eff0 (at_ + 1) taken, fl, _, hd, [p.worth ns], j, rfl, hj, by omega, ?_⟩
      refine ⟨_, rfl, WkC.of ?_⟩
      rw [Int.toNat_natCast, List.length_map]
      exact h
  | put fl p q =>
    obtain ⟨hf, ⟨hp, hdp⟩, hq, hdq⟩ := ok
    have h0 := Part.nonneg hnn p hp
    have ef : effect (.put fl p q) at_ taken ns hs fs = changedE (if ((fs.getD fl.toNat []).length : Int) ≤ p.worth ns then { eff0 (at_ + 1) taken with fault := some "place" } else eff0 (at_ + 1) taken) fl (fs.getD fl.toNat []) (p.worth ns).toNat (q.worth ns :: (fs.getD fl.toNat []).drop ((p.worth ns).toNat + 1)) := rfl
    rw [ef] at h
    have fa := file_at fl hf
    have fb := file_len fl
    clear ef
    generalize fs.getD fl.toNat [] = hd at fa fb h
    refine ⟨_, rfl, _, rfl, _, rfl, ix_lstR hF fa ?_⟩
    refine ⟨_, rfl, _, rfl, _, rfl, rfl, p, rN, ns, rfl, hN, hp, by assumption, ?_⟩
    generalize p.worth ns = v at h h0
    have ec : DL.cutD (hd.map PyData.int) (some (v + 1)) none = (hd.drop (v.toNat + 1)).map PyData.int := by
      rw [cut_from _ (by omega), List.map_drop]
      congr 1
      omega
    have el : [PyData.int (q.worth ns)].length + (DL.cutD (hd.map PyData.int) (some (v + 1)) none).length ≤ 100000 := by
      rw [ec, List.length_map, List.length_drop]
      simp
      omega
    have ea : ([.val (.ref x), .dat (.int fl), .dat (lstI hd), .dat (.int v), .dat (.tuple ([PyData.int (q.worth ns)] ++ DL.cutD (hd.map PyData.int) (some (v + 1)) none))] : List R) = [.val (.ref x), .dat (.int fl), .dat (lstI hd), .dat (.int v), .dat (tupI (q.worth ns :: hd.drop (v.toNat + 1)))] := by
      rw [ec]; rfl
    refine ⟨_, rfl, _, rfl, rfl, iteFb rfl ⟨_, rfl, _, rfl, rfl, iteTb rfl ?_⟩⟩
    refine ⟨_, rfl, _, rfl, ite2d (fun hb => ?_) (fun hb => ?_)⟩
    · rw [List.length_map] at hb
      rw [if_pos hb] at h
      refine ⟨_, rfl, j, _, hj, le_ok rfl, ?_⟩
      have hj1 := getset hj (.ins x CE FE ({ eff0 (at_ + 1) taken with fault := some "place" } : Eff).rs)
      refine ⟨_, rfl, ⟨j, _, hj1⟩, _, rfl, _, rfl, _, rfl, _, rfl, _, rfl, _, rfl, _, rfl, rfl, q, rN, ns, rfl, lstR_set hj _ hN, hq, by assumption, by simp, _, rfl, _, rfl, _, rfl, el, rfl, x, { eff0 (at_ + 1) taken with fault := some "place" }, fl, v, hd, q.worth ns :: hd.drop (v.toNat + 1), j, ea, hj1, h0, ?_⟩
      refine ⟨_, rfl, WkC.of ?_⟩
      rw [List.set_set]
      exact h
    · rw [List.length_map] at hb
      rw [if_neg hb] at h
      refine ⟨_, rfl, ⟨j, _, hj⟩, _, rfl, _, rfl, _, rfl, _, rfl, _, rfl, _, rfl, _, rfl, rfl, q, rN, ns, rfl, hN, hq, by assumption, by simp, _, rfl, _, rfl, _, rfl, el, rfl, x, eff0 (at_ + 1) taken, fl, v, hd, q.worth ns :: hd.drop (v.toNat + 1), j, ea, hj, h0, ?_⟩
      exact ⟨_, rfl, WkC.of h⟩
  | cut fl p =>
    obtain ⟨hf, hp, hd⟩ := ok
    have h0 := Part.nonneg hnn p hp
    have ef : effect (.cut fl p) at_ taken ns hs fs = changedE (eff0 (at_ + 1) taken) fl (fs.getD fl.toNat []) (min (p.worth ns).toNat (fs.getD fl.toNat []).length) [] := rfl
    rw [ef] at h
    have fa := file_at fl hf
    clear ef
    generalize fs.getD fl.toNat [] = hd at fa h
    refine ⟨_, rfl, _, rfl, _, rfl, ix_lstR hF fa ?_⟩
    refine ⟨_, rfl, _, rfl, _, rfl, rfl, p, rN, ns, rfl, hN, hp, by assumption, ?_⟩
    generalize p.worth ns = v at h h0
    have em : (if (((hd.map PyData.int).length : Nat) : Int) < v then (((hd.map PyData.int).length : Nat) : Int) else v) = ((min v.toNat hd.length : Nat) : Int) := by
      rw [List.length_map]
      split <;> omega
    refine ⟨_, rfl, _, rfl, rfl, iteFb rfl ⟨_, rfl, _, rfl, rfl, iteFb rfl ?_⟩⟩
    refine ⟨_, rfl, ⟨j, _, hj⟩, _, rfl, _, rfl, _, rfl, _, rfl, _, rfl, Nat.zero_le _, _, rfl, rfl, x, eff0 (at_ + 1) taken, fl, ((min v.toNat hd.length : Nat) : Int), hd, [], j, by rw [em]; rfl, hj, by omega, ?_⟩
    exact ⟨_, rfl, WkC.of h⟩
  | _ => cases hc
end
end K17
set_option Elab.async false
set_option linter.all false
set_option maxRecDepth 100000
set_option maxHeartbeats 4000000
namespace K17
open PySem PySem.Spec PyProof.Rows L2 DL PM
section
variable {P : Program} {w : World} {K : Fg} {mg : Str → Option Value} {base : Heap} {CE : Addr}
/-! named -/
def isNamed : PRow → Bool
  | .set _ _ => true | .size _ _ => true | .take _ => true | .get _ _ _ => true | _ => false
def spNamed (CE : Addr) : SpD := fun rs S C => ∃ (x : Addr) (row : PRow) (at_ taken many : Int) (rN rH rF : R) (ns hs : List Int) (fs : List (List Int)) (j : Nat), rs = [.val (.ref x), .dat row.dat, rN, rH, rF] ∧ isNamed row = true ∧ S[j]? = some (.ins x CE FE (eff0 (at_ + 1) taken).rs) ∧
  row.ok ns.length fs.length many ∧ lstR S rN (iR ns) ∧ lstR S rH (iR hs) ∧ lstR S rF (fileR fs) ∧ (∀ n ∈ ns, 0 ≤ n) ∧ 0 ≤ taken ∧ taken ≤ hs.length ∧ C (.dat .none) (S.set j (.ins x CE FE (effect row at_ taken ns hs fs).rs))
abbrev s_named : Stmt := topS 34
abbrev N_named : List Str := ["found", "row", "names", "handed", "files", "place"]
theorem sc_named : FnScope N_named ["found", "row", "names", "handed", "files"] (defScope s_named) := ⟨rfl, rfl, rfl, by decide +kernel, rfl, by decide +kernel, by decide +kernel⟩
theorem ok_named {k : Nat} (F : FunAt K mg "named" s_named ["found", "row", "names", "handed", "files"]) (B : Blt mg) (TE : Klass K CE FE) (D1 : Def P w K mg base "worth" 4 2 (spWorth 3)) : Def P w K mg base "named" (k + 5) 5 (spNamed CE) := by
  refine okW F sc_named rfl fun cdv A outer s H E f hr => ⟨_,
    (ss_cons (s_fld TE 2 (dv 0) (d_ix (hu_of hr) (dv 1) d_int))
      (ss_one (s_if (t_eq hr.units (d_ix (hu_of hr) (dv 1) d_int) d_str)
      (ss_one (s_fld TE 3 (dv 0) (d_callF D1 (hr.mono (by omega)) (by rfl) (a_cons (d_ix (hu_of hr) (dv 1) d_int) (a_cons (dv 2) a_nil)))))
      (ss_one (s_if (t_eq hr.units (d_ix (hu_of hr) (dv 1) d_int) d_str)
      (ss_one (s_fld TE 3 (dv 0) (d_len (by rfl) B.len (a_cons (d_ix (hu_of hr) (dv 4) (d_ix (hu_of hr) (dv 1) d_int)) a_nil))))
      (ss_one (s_if (t_eq hr.units (d_ix (hu_of hr) (dv 1) d_int) d_str)
      (ss_cons (s_if (t_eq hr.units (d_fld TE 1 (dv 0)) (d_len (by rfl) B.len (a_cons (dv 3) a_nil)))
      (ss_one (s_fld TE 9 (dv 0) d_str))
      (ss_one (s_fld TE 3 (dv 0) (d_ix (hu_of hr) (dv 3) (d_fld TE 1 (dv 0))))))
      (ss_one (s_fld TE 1 (dv 0) (d_add (d_fld TE 1 (dv 0)) d_int))))
      (ss_cons (s_set (i := 5) sc_named.nd (d_callF D1 (hr.mono (by omega)) (by rfl) (a_cons (d_ix (hu_of hr) (dv 1) d_int) (a_cons (dv 2) a_nil))))
      (ss_one (s_if (t_ge (dv 5) (d_len (by rfl) B.len (a_cons (d_ix (hu_of hr) (dv 4) (d_ix (hu_of hr) (dv 1) d_int)) a_nil)))
      (ss_one (s_fld TE 9 (dv 0) d_str))
      (ss_one (s_fld TE 3 (dv 0) (d_ix (hu_of hr) (d_ix (hu_of hr) (dv 4) (d_ix (hu_of hr) (dv 1) d_int)) (dv 5))))))))))))))
    , ?_⟩
  intro rs S C hl h
  obtain ⟨x, row, at_, taken, many, rN, rH, rF, ns, hs, fs, j, rfl, hc, hj, ok, hN, hH, hF, hnn, ht0, ht1, h⟩ := h
  have file_at : ∀ fl : Int, NumOk fl fs.length → atI (fileR fs) fl = some (.dat (lstI (fs.getD fl.toNat []))) := fun fl hf => by
    have e := fileR_at (fs := fs) (i := fl.toNat) (by have := hf.1; have := hf.2; omega)
    rw [toNat_cast hf.1] at e
    exact e
  cases row with
  | set n p =>
    obtain ⟨hn, hp, hd⟩ := ok
    refine ⟨_, rfl, _, rfl, _, rfl, j, _, hj, le_ok rfl, ?_⟩
    have hj1 := getset hj (.ins x CE FE ({ eff0 (at_ + 1) taken with name := some n } : Eff).rs)
    refine ⟨_, rfl, _, rfl, rfl, iteTb rfl ?_⟩
    refine ⟨_, rfl, _, rfl, _, rfl, rfl, p, rN, ns, rfl, lstR_set hj _ hN, hp, hd, _, rfl, j, _, hj1, le_ok rfl, ?_⟩
    rw [List.set_set]
    exact WkC.of h
  | size n fl =>
    obtain ⟨hn, hf⟩ := ok
    have ef : effect (.size n fl) at_ taken ns hs fs = { eff0 (at_ + 1) taken with name := some n, number := some ((fs.getD fl.toNat []).length : Int) } := rfl
    rw [ef] at h
    have fa := file_at fl hf
    clear ef
    generalize fs.getD fl.toNat [] = hd at fa h
    refine ⟨_, rfl, _, rfl, _, rfl, j, _, hj, le_ok rfl, ?_⟩
    have hj1 := getset hj (.ins x CE FE ({ eff0 (at_ + 1) taken with name := some n } : Eff).rs)
    refine ⟨_, rfl, _, rfl, rfl, iteFb rfl ⟨_, rfl, _, rfl, rfl, iteTb rfl ?_⟩⟩
    refine ⟨_, rfl, _, rfl, _, rfl, ix_lstR (lstR_set hj _ hF) fa ⟨_, rfl, j, _, hj1, le_ok rfl, ?_⟩⟩
    rw [List.set_set, List.length_map]
    exact WkC.of h
  | take n =>
    refine ⟨_, rfl, _, rfl, _, rfl, j, _, hj, le_ok rfl, ?_⟩
    have hj1 := getset hj (.ins x CE FE ({ eff0 (at_ + 1) taken with name := some n } : Eff).rs)
    refine ⟨_, rfl, _, rfl, rfl, iteFb rfl ⟨_, rfl, _, rfl, rfl, iteFb rfl ⟨_, rfl, _, rfl, rfl, iteTb rfl ?_⟩⟩⟩
    refine ⟨_, rfl, j, _, _, hj1, rfl, ?_⟩
    refine dlen_lstR (i := 3) rfl (lstR_set hj _ hH) ⟨rfl, ite2b (fun hb => ?_) (fun hb => ?_)⟩
    · replace hb : PyData.eqv (.int taken) (.int (((iR hs).length : Nat) : Int)) = true := hb
      have hb' : taken = hs.length := by
        have h2 : taken = (((iR hs).length : Nat) : Int) := by simpa [PyData.eqv] using hb
        rw [iR_len] at h2
        exact h2
      have ef : effect (.take n) at_ taken ns hs fs = { eff0 (at_ + 1) taken with name := some n, fault := some "none", taken := taken + 1 } := if_pos hb'
      rw [ef] at h
      refine ⟨_, rfl, j, _, hj1, le_ok rfl, ?_⟩
      rw [List.set_set]
      have hj2 := getset hj (.ins x CE FE ({ eff0 (at_ + 1) taken with name := some n, fault := some "none" } : Eff).rs)
      refine ⟨_, rfl, j, _, _, hj2, rfl, _, rfl, j, _, hj2, le_ok rfl, ?_⟩
      rw [List.set_set]
      exact WkC.of h
    · replace hb : PyData.eqv (.int taken) (.int (((iR hs).length : Nat) : Int)) = false := hb
      have hb' : ¬ taken = hs.length := fun z => by
        rw [PyData.eqv, iR_len, ← z] at hb
        simp at hb
      have ef : effect (.take n) at_ taken ns hs fs = { eff0 (at_ + 1) taken with name := some n, number := some (hs.getD taken.toNat 0), taken := taken + 1 } := if_neg hb'
      rw [ef] at h
      have ha := iR_at (ns := hs) (i := taken.toNat) (by omega)
      rw [toNat_cast ht0] at ha
      refine ⟨_, rfl, _, rfl, j, _, _, hj1, rfl, ix_lstR (lstR_set hj _ hH) ha ⟨_, rfl, j, _, hj1, le_ok rfl, ?_⟩⟩
      rw [List.set_set]
      have hj2 := getset hj (.ins x CE FE ({ eff0 (at_ + 1) taken with name := some n, number := some (hs.getD taken.toNat 0) } : Eff).rs)
      refine ⟨_, rfl, j, _, _, hj2, rfl, _, rfl, j, _, hj2, le_ok rfl, ?_⟩
      rw [List.set_set]
      exact WkC.of h
  | get n fl p =>
    obtain ⟨hn, hf, hp, hd⟩ := ok
    have h0 := Part.nonneg hnn p hp
    have ef : effect (.get n fl p) at_ taken ns hs fs = if ((fs.getD fl.toNat []).length : Int) ≤ p.worth ns then { eff0 (at_ + 1) taken with name := some n, fault := some "place" } else { eff0 (at_ + 1) taken with name := some n, number := some ((fs.getD fl.toNat []).getD (p.worth ns).toNat 0) } := rfl
    rw [ef] at h
    have fa := file_at fl hf
    clear ef
    generalize fs.getD fl.toNat [] = hd at fa h
    refine ⟨_, rfl, _, rfl, _, rfl, j, _, hj, le_ok rfl, ?_⟩
    have hj1 := getset hj (.ins x CE FE ({ eff0 (at_ + 1) taken with name := some n } : Eff).rs)
    refine ⟨_, rfl, _, rfl, rfl, iteFb rfl ⟨_, rfl, _, rfl, rfl, iteFb rfl ⟨_, rfl, _, rfl, rfl, iteFb rfl ?_⟩⟩⟩
    refine ⟨_, rfl, _, rfl, _, rfl, rfl, p, rN, ns, rfl, lstR_set hj _ hN, hp, by assumption, ?_⟩
    generalize p.worth ns = v at h h0
    refine ⟨_, rfl, _, rfl, _, rfl, _, rfl, ix_lstR (lstR_set hj _ hF) fa (ite2d (fun hb => ?_) (fun hb => ?_))⟩
    · rw [List.length_map] at hb
      rw [if_pos hb] at h
      refine ⟨_, rfl, j, _, hj1, le_ok rfl, ?_⟩
      rw [List.set_set]
      exact WkC.of h
    · rw [List.length_map] at hb
      rw [if_neg hb] at h
      have ha : atI (hd.map PyData.int) v = some (.int (hd.getD v.toNat 0)) := by
        have e : (hd.map PyData.int)[v.toNat]? = some (.int (hd.getD v.toNat 0)) := by
          rw [List.getElem?_map, List.getD_eq_getElem?_getD, List.getElem?_eq_getElem (by omega)]
          rfl
        have e2 := atI_nat e
        rw [toNat_cast h0] at e2
        exact e2
      refine ⟨_, rfl, _, rfl, _, rfl, ix_lstR (lstR_set hj _ hF) fa ⟨_, rfl, _, ha, _, rfl, j, _, hj1, le_ok rfl, ?_⟩⟩
      rw [List.set_set]
      exact WkC.of h
  | _ => cases hc
/-! effect -/
def spEffect (CE : Addr) : SpD := fun rs S C => ∃ (rows : List PRow) (row : PRow) (at_ : Nat) (taken many : Int) (rN rH rF : R) (ns hs : List Int) (fs : List (List Int)), rs = [.dat (.tuple (rows.map PRow.dat)), .dat (.int at_), rN, .dat (.int taken), rH, rF] ∧ rows[at_]? = some row ∧
  row.ok ns.length fs.length many ∧ lstR S rN (iR ns) ∧ lstR S rH (iR hs) ∧ lstR S rF (fileR fs) ∧ (∀ n ∈ ns, 0 ≤ n) ∧ (∀ f ∈ fs, f.length ≤ 1000) ∧ 0 ≤ taken ∧ taken ≤ hs.length ∧ C (.obj CE FE (effect row at_ taken ns hs fs).rs) S
abbrev s_effect : Stmt := topS 33
abbrev N_effect : List Str := ["rows", "at", "names", "taken", "handed", "files", "row", "word", "found"]
theorem sc_effect : FnScope N_effect ["rows", "at", "names", "taken", "handed", "files"] (defScope s_effect) := ⟨rfl, rfl, rfl, by decide +kernel, rfl, by decide +kernel, by decide +kernel⟩
theorem ok_effect {k : Nat} {a1 : Addr} (F : FunAt K mg "effect" s_effect ["rows", "at", "names", "taken", "handed", "files"]) (B : Blt mg) (TE : Klass K CE FE) (I1 : DefI P w K mg base "Effect" CE 1 3 (spEffInit CE)) (D1 : Def P w K mg base "worth" 4 2 (spWorth 3)) (D2 : Def P w K mg base "changed" 5 4 (spChanged CE)) (D3 : Def P w K mg base "named" 5 5 (spNamed CE))
    (c1 : mg "CHANGES" = some (.ref a1)) (k1 : KTup K a1 (changeW.map V.str)) : Def P w K mg base "effect" (k + 6) 6 (spEffect CE) := by
  refine okW F sc_effect rfl fun cdv A outer s H E f hr => ⟨_,
    (ss_cons (s_set (i := 6) sc_effect.nd (d_ix (hu_of hr) (dv 0) (dv 1)))
      (ss_cons (s_set (i := 7) sc_effect.nd (d_ix (hu_of hr) (dv 6) d_int))
      (ss_cons (s_set (i := 8) sc_effect.nd (d_make FE I1 (hr.mono (by omega)) (by rfl) (a_cons (d_add (dv 1) d_int) (a_cons (dv 3) a_nil))))
      (ss_cons (s_if (t_in (dv 7) (d_globT (ns := changeW) (by rfl) c1 k1))
      (ss_one (s_ret (d_callF D2 (hr.mono (by omega)) (by rfl) (a_cons (dv 8) (a_cons (dv 6) (a_cons (dv 2) (a_cons (dv 5) a_nil)))))))
      ss_nil)
      (ss_cons (s_if (t_eq hr.units (dv 7) d_str)
      (ss_one (s_fld TE 8 (dv 8) (d_callF D1 (hr.mono (by omega)) (by rfl) (a_cons (d_ix (hu_of hr) (dv 6) d_int) (a_cons (dv 2) a_nil)))))
      (ss_one (s_if (t_eq hr.units (dv 7) d_str)
      (ss_one (s_fld TE 0 (dv 8) (d_ix (hu_of hr) (dv 6) d_int)))
      (ss_one (s_if (t_eq hr.units (dv 7) d_str)
      (ss_one (s_fld TE 0 (dv 8) (d_if (t_eq hr.units (d_ix (hu_of hr) (dv 2) (d_ix (hu_of hr) (dv 6) d_int)) d_int) (d_ix (hu_of hr) (dv 6) d_int) (d_add (dv 1) d_int))))
      (ss_one (s_if (t_ne hr.units (dv 7) d_str)
      (ss_one (s_expr (d_callF D3 (hr.mono (by omega)) (by rfl) (a_cons (dv 8) (a_cons (dv 6) (a_cons (dv 2) (a_cons (dv 4) (a_cons (dv 5) a_nil))))))))
      ss_nil)))))))
      (ss_one (s_ret (dv 8))))))))
    , ?_⟩
  intro rs S C hl h
  obtain ⟨rows, row, at_, taken, many, rN, rH, rF, ns, hs, fs, rfl, hrow, ok, hN, hH, hF, hnn, hfl, ht0, ht1, h⟩ := h
  have ha : atI (rows.map PRow.dat) (at_ : Int) = some row.dat := atI_nat (by rw [List.getElem?_map, hrow]; rfl)
  refine ⟨_, rfl, _, rfl, _, ha, ?_⟩
  refine ⟨_, rfl, _, at0, ?_⟩
  refine ⟨_, rfl, _, rfl, rfl, fun x => ⟨x, _, _, S, rfl, rfl, rfl, ?_⟩⟩
  refine ⟨_, rfl, rfl, rfl, ?_⟩
  have fin : ∀ e : Eff, e = effect row at_ taken ns hs fs → WkC C (.val (.ref x)) (.ins x CE FE e.rs :: S) := fun e he => by
    rw [he]
    exact ⟨_, _, wkn_obj rfl, h⟩
  clear h
  have hN' := lstR_cons (.ins x CE FE (eff0 ((at_ : Int) + 1) taken).rs) hN
  have hH' := lstR_cons (.ins x CE FE (eff0 ((at_ : Int) + 1) taken).rs) hH
  have hF' := lstR_cons (.ins x CE FE (eff0 ((at_ : Int) + 1) taken).rs) hF
  cases row with
  | add fl p => exact iteTb rfl ⟨_, rfl, _, rfl, _, rfl, _, rfl, rfl, x, .add fl p, at_, taken, many, rN, rF, ns, hs, fs, 0, rfl, rfl, rfl, ok, hN', hF', hnn, hfl, fin _ rfl⟩
  | put fl p q => exact iteTb rfl ⟨_, rfl, _, rfl, _, rfl, _, rfl, rfl, x, .put fl p q, at_, taken, many, rN, rF, ns, hs, fs, 0, rfl, rfl, rfl, ok, hN', hF', hnn, hfl, fin _ rfl⟩
  | cut fl p => exact iteTb rfl ⟨_, rfl, _, rfl, _, rfl, _, rfl, rfl, x, .cut fl p, at_, taken, many, rN, rF, ns, hs, fs, 0, rfl, rfl, rfl, ok, hN', hF', hnn, hfl, fin _ rfl⟩
  | send p =>
    refine iteFb rfl ⟨_, rfl, rfl, iteTb rfl ?_⟩
    refine ⟨_, rfl, _, rfl, _, rfl, rfl, p, rN, ns, rfl, hN', ok.1, ok.2, _, rfl, 0, _, rfl, le_ok rfl, ?_⟩
    exact ⟨_, rfl, fin _ rfl⟩
  | go r =>
    refine iteFb rfl ⟨_, rfl, rfl, iteFb rfl ⟨_, rfl, rfl, iteTb rfl ?_⟩⟩
    refine ⟨_, rfl, _, rfl, _, rfl, 0, _, rfl, le_ok rfl, ?_⟩
    exact ⟨_, rfl, fin _ rfl⟩
  | unl n r =>
    obtain ⟨hn, hr2⟩ := ok
    have hi := iR_at (ns := ns) (i := n.toNat) (by have := hn.1; have := hn.2; omega)
    rw [toNat_cast hn.1] at hi
    refine iteFb rfl ⟨_, rfl, rfl, iteFb rfl ⟨_, rfl, rfl, iteFb rfl ⟨_, rfl, rfl, iteTb rfl ?_⟩⟩⟩
    refine ⟨_, rfl, _, rfl, _, rfl, ix_lstR hN' hi ⟨rfl, ite2b (fun hb => ?_) (fun hb => ?_)⟩⟩
    · have hb' : ns.getD n.toNat 0 = 0 := by
        rw [PyData.eqv] at hb
        exact eq_of_beq hb
      refine ⟨_, rfl, _, rfl, _, rfl, 0, _, rfl, le_ok rfl, ?_⟩
      exact ⟨_, rfl, fin _ (if_pos hb').symm⟩
    · have hb' : ¬ ns.getD n.toNat 0 = 0 := fun z => by
        rw [PyData.eqv, z] at hb
        cases hb
      refine ⟨_, rfl, _, rfl, 0, _, rfl, le_ok rfl, ?_⟩
      exact ⟨_, rfl, fin _ (if_neg hb').symm⟩
  | mark =>
    refine iteFb rfl ⟨_, rfl, rfl, iteFb rfl ⟨_, rfl, rfl, iteFb rfl ⟨_, rfl, rfl, iteFb rfl ⟨_, rfl, rfl, iteFb rfl ?_⟩⟩⟩⟩
    exact ⟨_, rfl, fin _ rfl⟩
  | set n p =>
    refine iteFb rfl ⟨_, rfl, rfl, iteFb rfl ⟨_, rfl, rfl, iteFb rfl ⟨_, rfl, rfl, iteFb rfl ⟨_, rfl, rfl, iteTb rfl ?_⟩⟩⟩⟩
    exact ⟨_, rfl, _, rfl, _, rfl, _, rfl, _, rfl, rfl, x, .set n p, at_, taken, many, rN, rH, rF, ns, hs, fs, 0, rfl, rfl, rfl, ok, hN', hH', hF', hnn, ht0, ht1, _, rfl, fin _ rfl⟩
  | size n fl =>
    refine iteFb rfl ⟨_, rfl, rfl, iteFb rfl ⟨_, rfl, rfl, iteFb rfl ⟨_, rfl, rfl, iteFb rfl ⟨_, rfl, rfl, iteTb rfl ?_⟩⟩⟩⟩
    exact ⟨_, rfl, _, rfl, _, rfl, _, rfl, _, rfl, rfl, x, .size n fl, at_, taken, many, rN, rH, rF, ns, hs, fs, 0, rfl, rfl, rfl, ok, hN', hH', hF', hnn, ht0, ht1, _, rfl, fin _ rfl⟩
  | take n =>
    refine iteFb rfl ⟨_, rfl, rfl, iteFb rfl ⟨_, rfl, rfl, iteFb rfl ⟨_, rfl, rfl, iteFb rfl ⟨_, rfl, rfl, iteTb rfl ?_⟩⟩⟩⟩
    exact ⟨_, rfl, _, rfl, _, rfl, _, rfl, _, rfl, rfl, x, .take n, at_, taken, many, rN, rH, rF, ns, hs, fs, 0, rfl, rfl, rfl, ok, hN', hH', hF', hnn, ht0, ht1, _, rfl, fin _ rfl⟩
  | get n fl p =>
    refine iteFb rfl ⟨_, rfl, rfl, iteFb rfl ⟨_, rfl, rfl, iteFb rfl ⟨_, rfl, rfl, iteFb rfl ⟨_, rfl, rfl, iteTb rfl ?_⟩⟩⟩⟩
    exact ⟨_, rfl, _, rfl, _, rfl, _, rfl, _, rfl, rfl, x, .get n fl p, at_, taken, many, rN, rH, rF, ns, hs, fs, 0, rfl, rfl, rfl, ok, hN', hH', hF', hnn, ht0, ht1, _, rfl, fin _ rfl⟩
end
end K17
set_option Elab.async false
set_option linter.all false
set_option maxRecDepth 100000
set_option maxHeartbeats 4000000
/-! The works as plain states, and how they lie in cells. -/
namespace PM
open PySem PySem.Spec PyProof.Rows L2 DL

structure MarkS where
  row : Int
  names : List Int
  taken : Int
  passed : Int
  letters : Int
structure InnerS where
  row : Int
  names : List Int
  taken : Int
  passed : Int
  letters : Int
  since : Int
  noted : Option Eff
  out : Bool
  again : Int
structure WorkS where
  rows : List PRow
  handed : List Int
  way : Str
  often : Int
  held : List (List Int)
  letters : List Int
  mark : MarkS
  jots : List Eff
  made : Int
  over : PyData
  inner : Option InnerS
  count : Int
abbrev backW : Str := "back"
abbrev onW : Str := "on"
/-! ### what the methods do -/
def putFile (held : List (List Int)) (f : Option Int) (pos : Int) (new : List Int) : List (List Int) := match f with
  | none => held
  | some f => held.set f.toNat ((held.getD f.toNat []).take pos.toNat ++ new)
def putName (ns : List Int) (e : Eff) : List Int := match e.name, e.number with
  | some n, some v => ns.set n.toNat v
  | _, _ => ns
def one (b : Bool) : Int := if b then 1 else 0
def takeOver (e : Eff) (i : InnerS) : InnerS := { i with names := putName i.names e, letters := i.letters + one e.letter.isSome, row := e.row, taken := e.taken, passed := i.passed + 1, since := i.since + 1 }
def told1 (w : Str) : PyData := .tuple [.str w]
def told2 (w : Str) (n : Int) : PyData := .tuple [.str w, .int n]
def keepW (st : WorkS) (i : InnerS) : PyData × WorkS := (told2 "marks" i.row, { st with mark := ⟨i.row, i.names, i.taken, i.passed, i.letters⟩, jots := [], made := 0, inner := some { i with since := 0 } })
def endsW (st : WorkS) (how : PyData) : PyData × WorkS := (.tuple [.str "ends", how], { st with over := how })
def sendsW (st : WorkS) (i : InnerS) (v : Int) : PyData × WorkS :=
  if i.letters < st.letters.length then (told2 "skips" i.row, { st with inner := some { i with out := true } })
  else (told2 "sends" i.row, { st with inner := some { i with out := true }, letters := st.letters ++ [v] })
def doesW (st : WorkS) (i : InnerS) (e : Eff) : PyData × WorkS :=
  (told2 "does" i.row, { st with held := putFile st.held e.file e.pos e.new, made := st.jots.length, inner := some (takeOver e { i with noted := none, out := false }), count := st.count + 1 })
def doneW (st : WorkS) (i : InnerS) (e : Eff) : PyData × WorkS := match e.letter, i.out with
  | some v, false => sendsW st i v
  | _, _ => doesW st i e
def isMark : PRow → Bool
  | .mark => true | _ => false
def changes : PRow → Bool
  | .add _ _ => true | .put _ _ _ => true | .cut _ _ => true | _ => false
def rowAt (rows : List PRow) (i : Int) : PRow := rows.getD i.toNat .mark
def effAt (st : WorkS) (i : InnerS) : Eff := effect (rowAt st.rows i.row) i.row i.taken i.names st.handed st.held
def beginW (st : WorkS) (i : InnerS) : PyData × WorkS :=
  if i.row = st.rows.length then endsW st (told1 "end")
  else if i.passed = 1000 then endsW st (told1 "long")
  else if 0 < st.often ∧ st.often ≤ i.since then keepW st i
  else match (effAt st i).fault with
    | some f => endsW st (.tuple [.str "fault", .str f])
    | none =>
      if isMark (rowAt st.rows i.row) = true then keepW { st with count := st.count + 1 } (takeOver (effAt st i) i)
      else if st.way = onW ∨ changes (rowAt st.rows i.row) = true then (told2 "notes" i.row, { st with jots := st.jots ++ [effAt st i], inner := some { i with noted := some (effAt st i) } })
      else doneW { st with inner := some { i with noted := some (effAt st i) } } { i with noted := some (effAt st i) } (effAt st i)
def mkInner (m : MarkS) (again : Int) : InnerS := ⟨m.row, m.names, m.taken, m.passed, m.letters, 0, none, false, again⟩
def riseW (st : WorkS) : PyData × WorkS := match st.jots.getLast? with
  | some e => if st.way = backW then (told2 "back" (e.file.getD 0), { st with jots := st.jots.dropLast, held := putFile st.held e.file e.pos e.old })
    else (told2 "rises" st.mark.row, { st with inner := some (mkInner st.mark st.jots.length) })
  | none => (told2 "rises" st.mark.row, { st with inner := some (mkInner st.mark st.jots.length) })
def goW (st : WorkS) (i : InnerS) : PyData × WorkS :=
  let place := (st.jots.length : Int) - i.again
  let e := st.jots.getD place.toNat (eff0 0 0)
  if place = st.made then (told2 "again" i.row, { st with inner := some { i with again := i.again - 1, noted := some e } })
  else (told2 "again" i.row, { st with inner := some (takeOver e { i with again := i.again - 1 }) })
def isOver (st : WorkS) : Bool := match st.over with
  | .none => false
  | _ => true
def moveW (st : WorkS) : PyData × WorkS :=
  if isOver st = true then (told1 "rests", st) else match st.inner with
    | none => riseW st
    | some i => if 0 < i.again then goW st i else match i.noted with
      | some e => doneW st i e
      | none => beginW st i
def fallW (st : WorkS) : WorkS := { st with inner := none }
def newW (p : Prog) (hs : List Int) (way : Str) (often : Int) : WorkS :=
  { rows := p.rows, handed := hs, way := way, often := often, held := List.replicate p.files.toNat [], letters := [], mark := ⟨0, List.replicate p.names.toNat 0, 0, 0, 0⟩, jots := [], made := 0, over := .none,
    inner := some (mkInner ⟨0, List.replicate p.names.toNat 0, 0, 0, 0⟩ 0), count := 0 }
/-! ### what is known of states -/
def NN (ns : List Int) : Prop := ∀ n ∈ ns, 0 ≤ n
structure EffOk (nN nF hl many : Nat) (e : Eff) : Prop where
  row : 0 ≤ e.row ∧ e.row ≤ many
  taken : 0 ≤ e.taken ∧ e.taken ≤ hl
  name : ∀ n, e.name = some n → NumOk n nN ∧ ∃ v, e.number = some v ∧ 0 ≤ v
  file : ∀ f, e.file = some f → NumOk f nF
  pos : 0 ≤ e.pos
  old : e.pos + e.old.length ≤ 40 ∧ NN e.old
  new : e.pos + e.new.length ≤ 40 ∧ NN e.new
structure NamesOk (nN : Nat) (ns : List Int) : Prop where
  len : ns.length = nN
  nn : NN ns
structure MarkOk (nN hl many : Nat) (m : MarkS) : Prop where
  row : 0 ≤ m.row ∧ m.row ≤ many
  names : NamesOk nN m.names
  taken : 0 ≤ m.taken ∧ m.taken ≤ hl
structure InnerOk (nN nF hl many jl : Nat) (i : InnerS) : Prop where
  row : 0 ≤ i.row ∧ i.row ≤ many
  names : NamesOk nN i.names
  taken : 0 ≤ i.taken ∧ i.taken ≤ hl
  noted : ∀ e, i.noted = some e → EffOk nN nF hl many e
  again : 0 ≤ i.again ∧ i.again ≤ jl
structure WorkOk (nN nF : Nat) (st : WorkS) : Prop where
  rows : ∀ r ∈ st.rows, r.ok nN nF st.rows.length
  handed : NN st.handed
  held : st.held.length = nF ∧ ∀ f ∈ st.held, f.length ≤ 40 ∧ NN f
  mark : MarkOk nN st.handed.length st.rows.length st.mark
  jots : ∀ e ∈ st.jots, EffOk nN nF st.handed.length st.rows.length e
  back : st.way = backW → ∀ e ∈ st.jots, ∃ f, e.file = some f
  inner : ∀ i, st.inner = some i → InnerOk nN nF st.handed.length st.rows.length st.jots.length i
def filesD (held : List (List Int)) : PyData := .list (held.map lstI)
/-! ### how a work lies in cells -/
structure Cs where
  E : Addr
  M : Addr
  I : Addr
  W : Addr
structure As where
  h : Addr
  l : Addr
  j : Addr
  i : Addr
  n : Addr
def effR (c : Cs) (e : Eff) : R := .obj c.E FE e.rs
def notedR (c : Cs) : Option Eff → R
  | none => .dat .none
  | some e => effR c e
def MarkS.rs (m : MarkS) : List R := [.dat (.int m.row), .dat (tupI m.names), .dat (.int m.taken), .dat (.int m.passed), .dat (.int m.letters)]
def InnerS.rs (c : Cs) (n : Addr) (i : InnerS) : List R := [.dat (.int i.row), .val (.ref n), .dat (.int i.taken), .dat (.int i.passed), .dat (.int i.letters), .dat (.int i.since), notedR c i.noted, .dat (.bool i.out), .dat (.int i.again)]
def inR (a : As) : Option InnerS → R
  | none => .dat .none
  | some _ => .val (.ref a.i)
def inC (c : Cs) (a : As) : Option InnerS → SH
  | none => []
  | some i => [.ins a.i c.I FI (i.rs c a.n), .lst a.n (iR i.names)]
def WorkS.rs (c : Cs) (a : As) (st : WorkS) : List R := [.dat (.tuple (st.rows.map PRow.dat)), .dat (lstI st.handed), .dat (.str st.way), .dat (.int st.often), .val (.ref a.h), .val (.ref a.l), .obj c.M FM st.mark.rs, .val (.ref a.j), .dat (.int st.made), .dat st.over, inR a st.inner, .dat (.int st.count)]
def wC (c : Cs) (w : Addr) (a : As) (st : WorkS) : SH := [.ins w c.W FW (st.rs c a), .lst a.h (fileR st.held), .lst a.l (iR st.letters), .lst a.j (st.jots.map (effR c))] ++ inC c a st.inner
/-- a method's promise: what it tells, what it leaves -/
def spM (c : Cs) (f : WorkS → PyData × WorkS) (ok : WorkS → Prop) : SpD := fun rs S C => ∃ (w : Addr) (a : As) (st : WorkS), rs = [.val (.ref w)] ∧ S = wC c w a st ∧ ok st ∧ ∀ a', C (.dat (f st).1) (wC c w a' (f st).2)
theorem ixN_of {l : Nat} {n : Int} (h : NumOk n l) : ixN l n = some n.toNat := by
  unfold ixN
  rw [if_pos h.1, if_pos h.2]
/-! ### the frame -/
def framed (sp : SpD) : SpD := fun rs S C => ∃ S0 T, S.Perm (S0 ++ T) ∧ sp rs S0 fun r S' => C r (S' ++ T)
theorem toSp_frame {K : Fg} {n : Nat} {sp : SpD} : ∀ vs H Q E, toSp K n (framed sp) vs H Q E → toSp K n sp vs H Q E := fun vs H Q E ⟨hl, F, S, L, rs, C, o, lv, ⟨S0, T, hp, hs⟩, q⟩ =>
  ⟨hl, T ++ F, S0, L, rs, fun r S' => C r (S' ++ T), (by
    have o2 := o.perm (hp.append_right F)
    rw [List.append_assoc] at o2
    exact o2), lv, hs, fun v r S' H' o' h' => q v r (S' ++ T) H' (by
    have o3 : Ok K H' (S' ++ (T ++ F)) ((v, r) :: L) := o'
    rw [← List.append_assoc] at o3
    exact o3) h'⟩
section
variable {P : Program} {w : World} {K : Fg} {mg : Str → Option Value} {base : Heap} {C : Addr} {m x : Str} {k n : Nat} {sp : SpD}
theorem frameM (d : DefM P w K mg base C m k n sp) : DefM P w K mg base C m k n (framed sp) := by
  obtain ⟨f, fd, ps, a, b⟩ := d.ex
  exact ⟨f, fd, ps, a.imp toSp_frame, b⟩
theorem frameI (d : DefI P w K mg base x C k n sp) : DefI P w K mg base x C k n (framed sp) := by
  obtain ⟨f, fd, ps, a, b⟩ := d.ex
  exact ⟨f, fd, ps, a.imp toSp_frame, b⟩
theorem frameF (d : Def P w K mg base x k n sp) : Def P w K mg base x k n (framed sp) := by
  obtain ⟨f, fd, ps, a, b⟩ := d.ex
  exact ⟨f, fd, ps, a.imp toSp_frame, b⟩
end
end PM
set_option Elab.async false
set_option linter.all false
set_option maxRecDepth 100000
set_option maxHeartbeats 4000000
namespace K17
open PySem PySem.Spec PyProof.Rows L2 DL PM
section
variable {P : Program} {w : World} {K : Fg} {mg : Str → Option Value} {base : Heap} {c : Cs}
theorem iR_eq (ns : List Int) : (ns.map PyData.int).map R.dat = iR ns := by unfold iR; rw [List.map_map]; rfl
theorem dats_iR (ns : List Int) : dats (iR ns) = some (ns.map PyData.int) := by rw [← iR_eq]; exact dats_map _
theorem sub4 {α : Type} (a b c d : α) (T : List α) : [a, b, c, d].Sublist (a :: b :: c :: d :: T) := .cons₂ a (.cons₂ b (.cons₂ c (.cons₂ d (List.nil_sublist T))))
/-! Mark.__init__, Inner.__init__ -/
def spMarkInit (c : Cs) : SpD := fun rs S C => ∃ (x : Addr) (r1 r2 r3 r4 r5 : R) (S0 : SH), rs = [.val (.ref x), r1, r2, r3, r4, r5] ∧ S = .ins x c.M FM [] :: S0 ∧ C (.dat .none) (.ins x c.M FM [r1, r2, r3, r4, r5] :: S0)
abbrev s_Mark___init__ : Stmt := inClass (topS 39) 0
abbrev N_Mark___init__ : List Str := ["self", "row", "names", "taken", "passed", "letters"]
theorem sc_Mark___init__ : FnScope N_Mark___init__ ["self", "row", "names", "taken", "passed", "letters"] (defScope s_Mark___init__) := ⟨rfl, rfl, rfl, by decide +kernel, rfl, by decide +kernel, by decide +kernel⟩
theorem ok_mark_init {k : Nat} (F : FunI K mg "Mark" c.M "Mark.__init__" s_Mark___init__ ["self", "row", "names", "taken", "passed", "letters"]) (TM : Klass K c.M FM) : DefI P w K mg base "Mark" c.M (k + 1) 6 (spMarkInit c) := by
  refine okI F sc_Mark___init__ rfl fun cdv A outer s H E f hr => ⟨_,
    (ss_cons (s_fld TM 0 (dv 0) (dv 1))
      (ss_cons (s_fld TM 1 (dv 0) (dv 2))
      (ss_cons (s_fld TM 2 (dv 0) (dv 3))
      (ss_cons (s_fld TM 3 (dv 0) (dv 4))
      (ss_one (s_fld TM 4 (dv 0) (dv 5)))))))
    , ?_⟩
  intro rs S C hl h
  obtain ⟨x, r1, r2, r3, r4, r5, S0, rfl, rfl, h⟩ := h
  refine ⟨_, rfl, _, rfl, 0, _, rfl, le_ok rfl, ?_⟩
  refine ⟨_, rfl, _, rfl, 0, _, rfl, le_ok rfl, ?_⟩
  refine ⟨_, rfl, _, rfl, 0, _, rfl, le_ok rfl, ?_⟩
  refine ⟨_, rfl, _, rfl, 0, _, rfl, le_ok rfl, ?_⟩
  refine ⟨_, rfl, _, rfl, 0, _, rfl, le_ok rfl, ?_⟩
  exact WkC.of h
def spInnerInit (c : Cs) : SpD := fun rs S C => ∃ (x : Addr) (m : MarkS) (again : Int) (S0 : SH), rs = [.val (.ref x), .obj c.M FM m.rs, .dat (.int again)] ∧ S = .ins x c.I FI [] :: S0 ∧ ∀ n, C (.dat .none) (.lst n (iR m.names) :: .ins x c.I FI ((mkInner m again).rs c n) :: S0)
abbrev s_Inner___init__ : Stmt := inClass (topS 40) 0
abbrev N_Inner___init__ : List Str := ["self", "mark", "again"]
theorem sc_Inner___init__ : FnScope N_Inner___init__ ["self", "mark", "again"] (defScope s_Inner___init__) := ⟨rfl, rfl, rfl, by decide +kernel, rfl, by decide +kernel, by decide +kernel⟩
theorem ok_inner_init {k : Nat} (F : FunI K mg "Inner" c.I "Inner.__init__" s_Inner___init__ ["self", "mark", "again"]) (B : Blt mg) (TM : Klass K c.M FM) (TI : Klass K c.I FI) : DefI P w K mg base "Inner" c.I (k + 1) 3 (spInnerInit c) := by
  refine okI F sc_Inner___init__ rfl fun cdv A outer s H E f hr => ⟨_,
    (ss_cons (s_fld TI 0 (dv 0) (d_fld TM 0 (dv 1)))
      (ss_cons (s_fld TI 1 (dv 0) (d_listC (by rfl) B.list (a_cons (d_fld TM 1 (dv 1)) a_nil)))
      (ss_cons (s_fld TI 2 (dv 0) (d_fld TM 2 (dv 1)))
      (ss_cons (s_fld TI 3 (dv 0) (d_fld TM 3 (dv 1)))
      (ss_cons (s_fld TI 4 (dv 0) (d_fld TM 4 (dv 1)))
      (ss_cons (s_fld TI 5 (dv 0) d_int)
      (ss_cons (s_fld TI 6 (dv 0) d_non)
      (ss_cons (s_fld TI 7 (dv 0) d_bl)
      (ss_one (s_fld TI 8 (dv 0) (dv 2)))))))))))
    , ?_⟩
  intro rs S C hl h
  obtain ⟨x, m, again, S0, rfl, rfl, h⟩ := h
  refine ⟨_, rfl, rfl, rfl, _, rfl, _, rfl, 0, _, rfl, le_ok rfl, ?_⟩
  refine ⟨_, rfl, rfl, rfl, _, rfl, fun n => ⟨_, rfl, 1, _, rfl, le_ok rfl, ?_⟩⟩
  refine ⟨_, rfl, rfl, rfl, _, rfl, _, rfl, 1, _, rfl, le_ok rfl, ?_⟩
  refine ⟨_, rfl, rfl, rfl, _, rfl, _, rfl, 1, _, rfl, le_ok rfl, ?_⟩
  refine ⟨_, rfl, rfl, rfl, _, rfl, _, rfl, 1, _, rfl, le_ok rfl, ?_⟩
  refine ⟨_, rfl, 1, _, rfl, le_ok rfl, ?_⟩
  refine ⟨_, rfl, 1, _, rfl, le_ok rfl, ?_⟩
  refine ⟨_, rfl, 1, _, rfl, le_ok rfl, ?_⟩
  refine ⟨_, rfl, _, rfl, 1, _, rfl, le_ok rfl, ?_⟩
  have h2 := h n
  rw [← iR_eq] at h2
  exact WkC.of h2
/-! fall, what is told -/
abbrev s_Work_fall : Stmt := inClass (topS 41) 1
abbrev N_Work_fall : List Str := ["self"]
theorem sc_Work_fall : FnScope N_Work_fall ["self"] (defScope s_Work_fall) := ⟨rfl, rfl, rfl, by decide +kernel, rfl, by decide +kernel, by decide +kernel⟩
theorem ok_fall {k : Nat} (F : FunM K c.W "fall" "Work.fall" s_Work_fall ["self"]) (TW : Klass K c.W FW) : DefM P w K mg base c.W "fall" (k + 1) 1 (spM c (fun st => (.none, fallW st)) fun _ => True) := by
  refine okM F sc_Work_fall rfl fun cdv A outer s H E f hr => ⟨_,
    (ss_one (s_fld TW 10 (dv 0) d_non))
    , ?_⟩
  intro rs S C hl h
  obtain ⟨wa, a, ⟨rows, handed, way, often, held, letters, mark, jots, made, over, inner, count⟩, rfl, rfl, ok, h⟩ := h
  refine ⟨_, rfl, 0, _, rfl, le_ok rfl, ?_⟩
  exact ⟨_, _, wkn_sub (List.Perm.refl _) (sub4 _ _ _ _ _), h a⟩
abbrev s_Work_files : Stmt := inClass (topS 41) 11
abbrev N_Work_files : List Str := ["self", "file"]
theorem sc_Work_files : FnScope N_Work_files ["self"] (defScope s_Work_files) := ⟨rfl, rfl, rfl, by decide +kernel, rfl, by decide +kernel, by decide +kernel⟩
theorem ok_files {k : Nat} (F : FunM K c.W "files" "Work.files" s_Work_files ["self"]) (B : Blt mg) (TW : Klass K c.W FW) : DefM P w K mg base c.W "files" (k + 1) 1 (spM c (fun st => (filesD st.held, st)) fun st => st.held.length ≤ 1000) := by
  refine okM F sc_Work_files rfl fun cdv A outer s H E f hr => ⟨_,
    (ss_one (s_ret (d_lcK (fun _ => end_dat) sc_Work_files.nd (i := 1) (d_fld TW 4 (dv 0)) (blkOk_by (N := N_Work_files) (sc := defScope s_Work_files) (own := [("file", 1)]) (by decide +kernel)) (fun _ _ _ _ _ => pg_name (i := 1) sc_Work_files.nd rfl (Or.inl rfl)) (fun _ _ _ _ _ => ts_nil) (fun _ _ _ _ _ => (d_list (by rfl) B.list (a_cons (dv 1) a_nil))))))
    , ?_⟩
  intro rs S C hl h
  obtain ⟨wa, a, st, rfl, rfl, ok, h⟩ := h
  refine ⟨_, rfl, 0, _, _, rfl, rfl, fileR st.held, List.mem_of_getElem? (i := 1) rfl, fun i acc S' => S' = wC c wa a st ∧ acc = (fileR st.held).take i, ⟨rfl, rfl⟩, ?_, ?_, ?_⟩
  · rintro i acc S' ⟨rfl, _⟩
    exact List.mem_of_getElem? (i := 1) rfl
  · rintro i r acc S' hi ⟨rfl, rfl⟩
    have hlt := (List.getElem?_eq_some_iff.mp hi).1
    have et : (fileR st.held).take (i + 1) = (fileR st.held).take i ++ [r] := by rw [List.take_add_one, hi]; rfl
    obtain ⟨f, rfl⟩ : ∃ f, r = .dat (lstI f) := by
      unfold fileR at hi
      rw [List.getElem?_map] at hi
      cases e : st.held[i]? with
      | none => rw [e] at hi; cases hi
      | some f => rw [e] at hi; exact ⟨f, (Option.some.inj hi).symm⟩
    refine ⟨_, rfl, ?_⟩
    have h1 := List.length_take_le i (fileR st.held)
    rw [fileR_len] at hlt
    exact ⟨by omega, rfl, et.symm⟩
  · rintro acc S' ⟨rfl, rfl⟩
    rw [List.take_length]
    refine ⟨st.held.map lstI, ?_, WkC.of (h a)⟩
    have e : fileR st.held = (st.held.map lstI).map R.dat := by unfold fileR; rw [List.map_map]; rfl
    rw [e]
    exact dats_map _
abbrev s_Work_sent : Stmt := inClass (topS 41) 12
abbrev N_Work_sent : List Str := ["self"]
theorem sc_Work_sent : FnScope N_Work_sent ["self"] (defScope s_Work_sent) := ⟨rfl, rfl, rfl, by decide +kernel, rfl, by decide +kernel, by decide +kernel⟩
theorem ok_sent {k : Nat} (F : FunM K c.W "sent" "Work.sent" s_Work_sent ["self"]) (B : Blt mg) (TW : Klass K c.W FW) : DefM P w K mg base c.W "sent" (k + 1) 1 (spM c (fun st => (lstI st.letters, st)) fun _ => True) := by
  refine okM F sc_Work_sent rfl fun cdv A outer s H E f hr => ⟨_,
    (ss_one (s_ret (d_list (by rfl) B.list (a_cons (d_fld TW 5 (dv 0)) a_nil))))
    , ?_⟩
  intro rs S C hl h
  obtain ⟨wa, a, st, rfl, rfl, ok, h⟩ := h
  exact ⟨_, rfl, 0, _, _, rfl, rfl, 2, _, _, rfl, dats_iR _, WkC.of (h a)⟩
def standsD (st : WorkS) : PyData := match st.inner with
  | none => .none
  | some i => .tuple [.int i.row, lstI i.names]
abbrev s_Work_stands : Stmt := inClass (topS 41) 13
abbrev N_Work_stands : List Str := ["self"]
theorem sc_Work_stands : FnScope N_Work_stands ["self"] (defScope s_Work_stands) := ⟨rfl, rfl, rfl, by decide +kernel, rfl, by decide +kernel, by decide +kernel⟩
theorem ok_stands {k : Nat} (F : FunM K c.W "stands" "Work.stands" s_Work_stands ["self"]) (B : Blt mg) (TW : Klass K c.W FW) (TI : Klass K c.I FI) : DefM P w K mg base c.W "stands" (k + 1) 1 (spM c (fun st => (standsD st, st)) fun _ => True) := by
  refine okM F sc_Work_stands rfl fun cdv A outer s H E f hr => ⟨_,
    (ss_one (s_ret (d_if (t_isN (d_fld TW 10 (dv 0)) d_non) d_non (d_tup (a_cons (d_fld TI 0 (d_fld TW 10 (dv 0))) (a_cons (d_list (by rfl) B.list (a_cons (d_fld TI 1 (d_fld TW 10 (dv 0))) a_nil)) a_nil))))))
    , ?_⟩
  intro rs S C hl h
  obtain ⟨wa, a, ⟨rows, handed, way, often, held, letters, mark, jots, made, over, inner, count⟩, rfl, rfl, ok, h⟩ := h
  cases inner with
  | none => exact ⟨_, rfl, 0, _, _, rfl, rfl, WkC.of (h a)⟩
  | some i => exact ⟨_, rfl, 0, _, _, rfl, rfl, _, rfl, 0, _, _, rfl, rfl, 4, _, _, rfl, rfl, _, rfl, 0, _, _, rfl, rfl, 4, _, _, rfl, rfl, 5, _, _, rfl, dats_iR _, by simp, _, rfl, WkC.of (h a)⟩
abbrev s_Work_kept : Stmt := inClass (topS 41) 14
abbrev N_Work_kept : List Str := ["self"]
theorem sc_Work_kept : FnScope N_Work_kept ["self"] (defScope s_Work_kept) := ⟨rfl, rfl, rfl, by decide +kernel, rfl, by decide +kernel, by decide +kernel⟩
theorem ok_kept {k : Nat} (F : FunM K c.W "kept" "Work.kept" s_Work_kept ["self"]) (B : Blt mg) (TW : Klass K c.W FW) (TM : Klass K c.M FM) : DefM P w K mg base c.W "kept" (k + 1) 1 (spM c (fun st => (.tuple [.int st.mark.row, .int (st.jots.length : Int)], st)) fun _ => True) := by
  refine okM F sc_Work_kept rfl fun cdv A outer s H E f hr => ⟨_,
    (ss_one (s_ret (d_tup (a_cons (d_fld TM 0 (d_fld TW 6 (dv 0))) (a_cons (d_len (by rfl) B.len (a_cons (d_fld TW 7 (dv 0)) a_nil)) a_nil)))))
    , ?_⟩
  intro rs S C hl h
  obtain ⟨wa, a, st, rfl, rfl, ok, h⟩ := h
  refine ⟨_, rfl, 0, _, _, rfl, rfl, rfl, rfl, _, rfl, _, rfl, 0, _, _, rfl, rfl, 3, _, rfl, by simp, _, rfl, ?_⟩
  have h2 := h a
  refine WkC.of ?_
  rw [List.length_map]
  exact h2
abbrev s_Work_end : Stmt := inClass (topS 41) 15
abbrev N_Work_end : List Str := ["self"]
theorem sc_Work_end : FnScope N_Work_end ["self"] (defScope s_Work_end) := ⟨rfl, rfl, rfl, by decide +kernel, rfl, by decide +kernel, by decide +kernel⟩
theorem ok_end {k : Nat} (F : FunM K c.W "end" "Work.end" s_Work_end ["self"]) (TW : Klass K c.W FW) : DefM P w K mg base c.W "end" (k + 1) 1 (spM c (fun st => (st.over, st)) fun _ => True) := by
  refine okM F sc_Work_end rfl fun cdv A outer s H E f hr => ⟨_,
    (ss_one (s_ret (d_fld TW 9 (dv 0))))
    , ?_⟩
  intro rs S C hl h
  obtain ⟨wa, a, st, rfl, rfl, ok, h⟩ := h
  exact ⟨_, rfl, 0, _, _, rfl, rfl, WkC.of (h a)⟩
abbrev s_Work_steps : Stmt := inClass (topS 41) 16
abbrev N_Work_steps : List Str := ["self"]
theorem sc_Work_steps : FnScope N_Work_steps ["self"] (defScope s_Work_steps) := ⟨rfl, rfl, rfl, by decide +kernel, rfl, by decide +kernel, by decide +kernel⟩
theorem ok_steps {k : Nat} (F : FunM K c.W "steps" "Work.steps" s_Work_steps ["self"]) (TW : Klass K c.W FW) : DefM P w K mg base c.W "steps" (k + 1) 1 (spM c (fun st => (.int st.count, st)) fun _ => True) := by
  refine okM F sc_Work_steps rfl fun cdv A outer s H E f hr => ⟨_,
    (ss_one (s_ret (d_fld TW 11 (dv 0))))
    , ?_⟩
  intro rs S C hl h
  obtain ⟨wa, a, st, rfl, rfl, ok, h⟩ := h
  exact ⟨_, rfl, 0, _, _, rfl, rfl, WkC.of (h a)⟩
end
end K17
set_option Elab.async false
set_option linter.all false
set_option maxRecDepth 100000
set_option maxHeartbeats 4000000
namespace K17
open PySem PySem.Spec PyProof.Rows L2 DL PM
section
variable {P : Program} {w : World} {K : Fg} {mg : Str → Option Value} {base : Heap} {c : Cs}
/-! take_over -/
theorem putName_set {ns : List Int} {e : Eff} {n v : Int} (h1 : e.name = some n) (h2 : e.number = some v) : putName ns e = ns.set n.toNat v := by
  unfold putName; rw [h1, h2]
theorem iR_set (ns : List Int) (i : Nat) (v : Int) : (iR ns).set i (.dat (.int v)) = iR (ns.set i v) := by
  unfold iR; rw [List.map_set]
/-- with an effect handed in -/
def spT (c : Cs) (f : WorkS → InnerS → Eff → PyData × WorkS) (ok : WorkS → InnerS → Eff → Prop) : SpD := fun rs S C => ∃ (w : Addr) (a : As) (st : WorkS) (i : InnerS) (e : Eff), rs = [.val (.ref w), effR c e] ∧ S = wC c w a st ∧ st.inner = some i ∧ ok st i e ∧ ∀ a', C (.dat (f st i e).1) (wC c w a' (f st i e).2)
def nameFits (i : InnerS) (e : Eff) : Prop := ∀ n, e.name = some n → NumOk n i.names.length ∧ ∃ v, e.number = some v
abbrev s_Work_take_over : Stmt := inClass (topS 41) 5
abbrev N_Work_take_over : List Str := ["self", "told"]
theorem sc_Work_take_over : FnScope N_Work_take_over ["self", "told"] (defScope s_Work_take_over) := ⟨rfl, rfl, rfl, by decide +kernel, rfl, by decide +kernel, by decide +kernel⟩
theorem ok_take_over {k : Nat} (F : FunM K c.W "take_over" "Work.take_over" s_Work_take_over ["self", "told"]) (B : Blt mg) (TW : Klass K c.W FW) (TI : Klass K c.I FI) (TE : Klass K c.E FE) :
    DefM P w K mg base c.W "take_over" (k + 1) 2 (spT c (fun st i e => (.none, { st with inner := some (takeOver e i) })) fun _ i e => nameFits i e) := by
  refine okM F sc_Work_take_over rfl fun cdv A outer s H E f hr => ⟨_,
    (ss_cons (s_if (t_notN (d_fld TE 2 (dv 1)) d_non)
      (ss_one (s_asg (d_fld TE 3 (dv 1)) (g_sub (hu_of hr) (d_fld TI 1 (d_fld TW 10 (dv 0))) (d_fld TE 2 (dv 1)))))
      ss_nil)
      (ss_cons (s_fld TI 4 (d_fld TW 10 (dv 0)) (d_add (d_fld TI 4 (d_fld TW 10 (dv 0))) (d_intF (by rfl) B.int (a_cons (d_notN (d_fld TE 8 (dv 1)) d_non) a_nil))))
      (ss_cons (s_fld TI 0 (d_fld TW 10 (dv 0)) (d_fld TE 0 (dv 1)))
      (ss_cons (s_fld TI 2 (d_fld TW 10 (dv 0)) (d_fld TE 1 (dv 1)))
      (ss_cons (s_fld TI 3 (d_fld TW 10 (dv 0)) (d_add (d_fld TI 3 (d_fld TW 10 (dv 0))) d_int))
      (ss_one (s_fld TI 5 (d_fld TW 10 (dv 0)) (d_add (d_fld TI 5 (d_fld TW 10 (dv 0))) d_int))))))))
    , ?_⟩
  intro rs S C hl h
  obtain ⟨wa, a, ⟨rows, handed, way, often, held, letters, mark, jots, made, over, inner, count⟩, i, e, rfl, rfl, hin, ok, h⟩ := h
  cases (show inner = some i from hin)
  obtain ⟨irow, inames, itaken, ipassed, iletters, isince, inoted, iout, iagain⟩ := i
  obtain ⟨erow, etaken, ename, enumber, efile, epos, eold, enew, eletter, efault⟩ := e
  refine ⟨_, rfl, rfl, rfl, _, rfl, ?_⟩
  cases ename with
  | none =>
    cases eletter with
    | none =>
      refine ⟨_, rfl, 0, _, _, rfl, rfl, 4, _, _, rfl, rfl, _, rfl, rfl, rfl, _, rfl, _, rfl, 0, _, _, rfl, rfl, 4, _, rfl, le_ok rfl, ?_⟩
      refine ⟨_, rfl, rfl, rfl, _, rfl, _, rfl, 0, _, _, rfl, rfl, 4, _, rfl, le_ok rfl, ?_⟩
      refine ⟨_, rfl, rfl, rfl, _, rfl, _, rfl, 0, _, _, rfl, rfl, 4, _, rfl, le_ok rfl, ?_⟩
      refine ⟨_, rfl, 0, _, _, rfl, rfl, 4, _, _, rfl, rfl, _, rfl, 0, _, _, rfl, rfl, 4, _, rfl, le_ok rfl, ?_⟩
      refine ⟨_, rfl, 0, _, _, rfl, rfl, 4, _, _, rfl, rfl, _, rfl, 0, _, _, rfl, rfl, 4, _, rfl, le_ok rfl, ?_⟩
      exact WkC.of (h a)
    | some l =>
      refine ⟨_, rfl, 0, _, _, rfl, rfl, 4, _, _, rfl, rfl, _, rfl, rfl, rfl, _, rfl, _, rfl, 0, _, _, rfl, rfl, 4, _, rfl, le_ok rfl, ?_⟩
      refine ⟨_, rfl, rfl, rfl, _, rfl, _, rfl, 0, _, _, rfl, rfl, 4, _, rfl, le_ok rfl, ?_⟩
      refine ⟨_, rfl, rfl, rfl, _, rfl, _, rfl, 0, _, _, rfl, rfl, 4, _, rfl, le_ok rfl, ?_⟩
      refine ⟨_, rfl, 0, _, _, rfl, rfl, 4, _, _, rfl, rfl, _, rfl, 0, _, _, rfl, rfl, 4, _, rfl, le_ok rfl, ?_⟩
      refine ⟨_, rfl, 0, _, _, rfl, rfl, 4, _, _, rfl, rfl, _, rfl, 0, _, _, rfl, rfl, 4, _, rfl, le_ok rfl, ?_⟩
      exact WkC.of (h a)
  | some n =>
    obtain ⟨hn, v, ev⟩ := ok n rfl
    cases (show enumber = some v from ev)
    refine ⟨_, rfl, rfl, rfl, _, rfl, _, rfl, 0, _, _, rfl, rfl, 4, _, _, rfl, rfl, _, rfl, rfl, rfl, _, rfl, .inl ⟨5, _, n.toNat, rfl, by rw [iR_len]; exact ixN_of hn, ?_⟩⟩
    dsimp only [optI]
    rw [iR_set]
    cases eletter with
    | none =>
      refine ⟨_, rfl, 0, _, _, rfl, rfl, 4, _, _, rfl, rfl, _, rfl, rfl, rfl, _, rfl, _, rfl, 0, _, _, rfl, rfl, 4, _, rfl, le_ok rfl, ?_⟩
      refine ⟨_, rfl, rfl, rfl, _, rfl, _, rfl, 0, _, _, rfl, rfl, 4, _, rfl, le_ok rfl, ?_⟩
      refine ⟨_, rfl, rfl, rfl, _, rfl, _, rfl, 0, _, _, rfl, rfl, 4, _, rfl, le_ok rfl, ?_⟩
      refine ⟨_, rfl, 0, _, _, rfl, rfl, 4, _, _, rfl, rfl, _, rfl, 0, _, _, rfl, rfl, 4, _, rfl, le_ok rfl, ?_⟩
      refine ⟨_, rfl, 0, _, _, rfl, rfl, 4, _, _, rfl, rfl, _, rfl, 0, _, _, rfl, rfl, 4, _, rfl, le_ok rfl, ?_⟩
      exact WkC.of (h a)
    | some l =>
      refine ⟨_, rfl, 0, _, _, rfl, rfl, 4, _, _, rfl, rfl, _, rfl, rfl, rfl, _, rfl, _, rfl, 0, _, _, rfl, rfl, 4, _, rfl, le_ok rfl, ?_⟩
      refine ⟨_, rfl, rfl, rfl, _, rfl, _, rfl, 0, _, _, rfl, rfl, 4, _, rfl, le_ok rfl, ?_⟩
      refine ⟨_, rfl, rfl, rfl, _, rfl, _, rfl, 0, _, _, rfl, rfl, 4, _, rfl, le_ok rfl, ?_⟩
      refine ⟨_, rfl, 0, _, _, rfl, rfl, 4, _, _, rfl, rfl, _, rfl, 0, _, _, rfl, rfl, 4, _, rfl, le_ok rfl, ?_⟩
      refine ⟨_, rfl, 0, _, _, rfl, rfl, 4, _, _, rfl, rfl, _, rfl, 0, _, _, rfl, rfl, 4, _, rfl, le_ok rfl, ?_⟩
      exact WkC.of (h a)
end
end K17
set_option Elab.async false
set_option linter.all false
set_option maxRecDepth 100000
set_option maxHeartbeats 4000000
namespace K17
open PySem PySem.Spec PyProof.Rows L2 DL PM
section
variable {P : Program} {w : World} {K : Fg} {mg : Str → Option Value} {base : Heap} {c : Cs}
/-! keep -/
def spIn (c : Cs) (f : WorkS → InnerS → PyData × WorkS) (ok : WorkS → InnerS → Prop) : SpD := fun rs S C => ∃ (w : Addr) (a : As) (st : WorkS) (i : InnerS), rs = [.val (.ref w)] ∧ S = wC c w a st ∧ st.inner = some i ∧ ok st i ∧ ∀ a', C (.dat (f st i).1) (wC c w a' (f st i).2)
abbrev s_Work_keep : Stmt := inClass (topS 41) 6
abbrev N_Work_keep : List Str := ["self", "inner"]
theorem sc_Work_keep : FnScope N_Work_keep ["self"] (defScope s_Work_keep) := ⟨rfl, rfl, rfl, by decide +kernel, rfl, by decide +kernel, by decide +kernel⟩
theorem ok_keep {k : Nat} (F : FunM K c.W "keep" "Work.keep" s_Work_keep ["self"]) (B : Blt mg) (TW : Klass K c.W FW) (TI : Klass K c.I FI) (TM : Klass K c.M FM) (I1 : DefI P w K mg base "Mark" c.M 1 6 (spMarkInit c)) :
    DefM P w K mg base c.W "keep" (k + 3) 1 (spIn c keepW fun _ _ => True) := by
  refine okM F sc_Work_keep rfl fun cdv A outer s H E f hr => ⟨_,
    (ss_cons (s_set (i := 1) sc_Work_keep.nd (d_fld TW 10 (dv 0)))
      (ss_cons (s_fld TW 6 (dv 0) (d_makeF FM I1 (hr.mono (by omega)) (by rfl) (a_cons (d_fld TI 0 (dv 1)) (a_cons (d_tuple (by rfl) B.tuple (a_cons (d_fld TI 1 (dv 1)) a_nil)) (a_cons (d_fld TI 2 (dv 1)) (a_cons (d_fld TI 3 (dv 1)) (a_cons (d_fld TI 4 (dv 1)) a_nil)))))))
      (ss_cons (s_fld TW 7 (dv 0) (d_lstC a_nil))
      (ss_cons (s_fld TW 8 (dv 0) d_int)
      (ss_cons (s_fld TI 5 (dv 1) d_int)
      (ss_one (s_ret (d_tup (a_cons d_str (a_cons (d_fld TI 0 (dv 1)) a_nil))))))))))
    , ?_⟩
  intro rs S C hl h
  obtain ⟨wa, a, ⟨rows, handed, way, often, held, letters, mark, jots, made, over, inner, count⟩, i, rfl, rfl, hin, ok, h⟩ := h
  cases (show inner = some i from hin)
  refine ⟨_, rfl, 0, _, _, rfl, rfl, ?_⟩
  refine ⟨_, rfl, 4, _, _, rfl, rfl, _, rfl, 4, _, _, rfl, rfl, 5, _, _, rfl, dats_iR _, _, rfl, 4, _, _, rfl, rfl, _, rfl, 4, _, _, rfl, rfl, _, rfl, 4, _, _, rfl, rfl, rfl, fun x => ⟨x, _, _, _, _, _, _, rfl, rfl, rfl, _, _, rfl, rfl, ?_⟩⟩
  refine ⟨_, rfl, 0, _, rfl, le_ok rfl, ?_⟩
  refine ⟨Nat.zero_le _, fun p => ⟨_, rfl, 1, _, rfl, le_ok rfl, ?_⟩⟩
  refine ⟨_, rfl, 1, _, rfl, le_ok rfl, ?_⟩
  refine ⟨_, rfl, 5, _, rfl, le_ok rfl, ?_⟩
  refine ⟨_, rfl, 5, _, _, rfl, rfl, by simp, _, rfl, ?_⟩
  refine ⟨_, _, wkn_sub (List.perm_middle (l₁ := [_, _, _]) (a := _)).symm (.cons₂ _ (.cons₂ _ (.cons₂ _ (.cons₂ _ (.cons _ (List.Sublist.refl _)))))), h { a with j := p }⟩
/-! ends -/
def spEnds (c : Cs) : SpD := fun rs S C => ∃ (w : Addr) (a : As) (st : WorkS) (how : PyData), rs = [.val (.ref w), .dat how] ∧ S = wC c w a st ∧ ∀ a', C (.dat (endsW st how).1) (wC c w a' (endsW st how).2)
abbrev s_Work_ends : Stmt := inClass (topS 41) 7
abbrev N_Work_ends : List Str := ["self", "how"]
theorem sc_Work_ends : FnScope N_Work_ends ["self", "how"] (defScope s_Work_ends) := ⟨rfl, rfl, rfl, by decide +kernel, rfl, by decide +kernel, by decide +kernel⟩
theorem ok_ends {k : Nat} (F : FunM K c.W "ends" "Work.ends" s_Work_ends ["self", "how"]) (TW : Klass K c.W FW) : DefM P w K mg base c.W "ends" (k + 1) 2 (spEnds c) := by
  refine okM F sc_Work_ends rfl fun cdv A outer s H E f hr => ⟨_,
    (ss_cons (s_fld TW 9 (dv 0) (dv 1))
      (ss_one (s_ret (d_tup (a_cons d_str (a_cons (dv 1) a_nil))))))
    , ?_⟩
  intro rs S C hl h
  obtain ⟨wa, a, ⟨rows, handed, way, often, held, letters, mark, jots, made, over, inner, count⟩, how, rfl, rfl, h⟩ := h
  refine ⟨_, rfl, _, rfl, 0, _, rfl, le_ok rfl, ?_⟩
  exact ⟨_, rfl, by simp, _, rfl, WkC.of (h a)⟩
/-! sends -/
def spSends (c : Cs) : SpD := fun rs S C => ∃ (w : Addr) (a : As) (st : WorkS) (i : InnerS) (e : Eff) (v : Int), rs = [.val (.ref w), effR c e, .dat (.int i.row)] ∧ S = wC c w a st ∧ st.inner = some i ∧ e.letter = some v ∧ st.letters.length < 10000 ∧ ∀ a', C (.dat (sendsW st i v).1) (wC c w a' (sendsW st i v).2)
abbrev s_Work_sends : Stmt := inClass (topS 41) 10
abbrev N_Work_sends : List Str := ["self", "told", "row"]
theorem sc_Work_sends : FnScope N_Work_sends ["self", "told", "row"] (defScope s_Work_sends) := ⟨rfl, rfl, rfl, by decide +kernel, rfl, by decide +kernel, by decide +kernel⟩
theorem ok_sends {k : Nat} (F : FunM K c.W "sends" "Work.sends" s_Work_sends ["self", "told", "row"]) (B : Blt mg) (TW : Klass K c.W FW) (TI : Klass K c.I FI) (TE : Klass K c.E FE) : DefM P w K mg base c.W "sends" (k + 1) 3 (spSends c) := by
  refine okM F sc_Work_sends rfl fun cdv A outer s H E f hr => ⟨_,
    (ss_cons (s_fld TI 7 (d_fld TW 10 (dv 0)) d_bl)
      (ss_cons (s_if (t_lt (d_fld TI 4 (d_fld TW 10 (dv 0))) (d_len (by rfl) B.len (a_cons (d_fld TW 5 (dv 0)) a_nil)))
      (ss_one (s_ret (d_tup (a_cons d_str (a_cons (dv 2) a_nil)))))
      ss_nil)
      (ss_cons (s_expr (d_appT (d_fld TW 5 (dv 0)) (d_fld TE 8 (dv 1))))
      (ss_one (s_ret (d_tup (a_cons d_str (a_cons (dv 2) a_nil))))))))
    , ?_⟩
  intro rs S C hl h
  obtain ⟨wa, a, ⟨rows, handed, way, often, held, letters, mark, jots, made, over, inner, count⟩, i, e, v, rfl, rfl, hin, hv, hlen, h⟩ := h
  cases (show inner = some i from hin)
  obtain ⟨irow, inames, itaken, ipassed, iletters, isince, inoted, iout, iagain⟩ := i
  obtain ⟨erow, etaken, ename, enumber, efile, epos, eold, enew, eletter, efault⟩ := e
  cases (show eletter = some v from hv)
  refine ⟨_, rfl, 0, _, _, rfl, rfl, 4, _, rfl, le_ok rfl, ?_⟩
  refine ⟨_, rfl, 0, _, _, rfl, rfl, 4, _, _, rfl, rfl, _, rfl, 0, _, _, rfl, rfl, 2, _, rfl, ite2d (fun hb => ?_) (fun hb => ?_)⟩
  · rw [iR_len] at hb
    have e : sendsW ⟨rows, handed, way, often, held, letters, mark, jots, made, over, some ⟨irow, inames, itaken, ipassed, iletters, isince, inoted, iout, iagain⟩, count⟩ ⟨irow, inames, itaken, ipassed, iletters, isince, inoted, iout, iagain⟩ v = _ := if_pos hb
    rw [e] at h
    exact ⟨_, rfl, by simp, _, rfl, WkC.of (h a)⟩
  · rw [iR_len] at hb
    have e : sendsW ⟨rows, handed, way, often, held, letters, mark, jots, made, over, some ⟨irow, inames, itaken, ipassed, iletters, isince, inoted, iout, iagain⟩, count⟩ ⟨irow, inames, itaken, ipassed, iletters, isince, inoted, iout, iagain⟩ v = _ := if_neg hb
    rw [e] at h
    have e2 : iR letters ++ [.dat (.int v)] = iR (letters ++ [v]) := by unfold iR; rw [List.map_append]; rfl
    refine ⟨_, rfl, 0, _, _, rfl, rfl, ⟨2, _, rfl⟩, _, rfl, rfl, rfl, _, rfl, 2, _, rfl, ?_, ?_⟩
    · rw [iR_len]
      show letters.length < 100000
      have : letters.length < 10000 := hlen
      omega
    · dsimp only [optI]
      rw [e2]
      exact ⟨_, rfl, by simp, _, rfl, WkC.of (h a)⟩
end
end K17
set_option Elab.async false
set_option linter.all false
set_option maxRecDepth 100000
set_option maxHeartbeats 4000000
namespace K17
open PySem PySem.Spec PyProof.Rows L2 DL PM
section
variable {P : Program} {w : World} {K : Fg} {mg : Str → Option Value} {base : Heap} {c : Cs}
/-! done -/
theorem fileR_put {held : List (List Int)} {fl pos : Int} {new : List Int} (h0 : 0 ≤ pos) : (fileR held).set fl.toNat (.dat (.list (DL.cutD ((held.getD fl.toNat []).map PyData.int) none (some pos) ++ new.map PyData.int))) = fileR (putFile held (some fl) pos new) := by
  rw [cut_to _ h0]
  unfold putFile fileR
  rw [List.map_set]
  congr 1
  unfold lstI
  rw [List.map_append, List.map_take]
structure DoneOk (st : WorkS) (i : InnerS) (e : Eff) : Prop where
  name : nameFits i e
  file : ∀ f, e.file = some f → NumOk f st.held.length
  pos : 0 ≤ e.pos
  new : e.new.length ≤ 1000
  held : ∀ f ∈ st.held, f.length ≤ 1000
  letters : st.letters.length < 10000
theorem held_len {held : List (List Int)} (h : ∀ f ∈ held, f.length ≤ 1000) (i : Nat) : (held.getD i []).length ≤ 1000 := by
  rw [List.getD_eq_getElem?_getD]
  cases e : held[i]? with
  | none => exact Nat.zero_le _
  | some x => exact h x (List.mem_of_getElem? e)
theorem file_at {held : List (List Int)} {fl : Int} (hf : NumOk fl held.length) : atI (fileR held) fl = some (.dat (lstI (held.getD fl.toNat []))) := by
  have e := fileR_at (fs := held) (i := fl.toNat) (by have := hf.1; have := hf.2; omega)
  rw [toNat_cast hf.1] at e
  exact e
abbrev s_Work_done : Stmt := inClass (topS 41) 9
abbrev N_Work_done : List Str := ["self", "told", "row"]
theorem sc_Work_done : FnScope N_Work_done ["self", "told"] (defScope s_Work_done) := ⟨rfl, rfl, rfl, by decide +kernel, rfl, by decide +kernel, by decide +kernel⟩
theorem ok_done {k : Nat} (F : FunM K c.W "done" "Work.done" s_Work_done ["self", "told"]) (B : Blt mg) (TW : Klass K c.W FW) (TI : Klass K c.I FI) (TE : Klass K c.E FE) (M1 : DefM P w K mg base c.W "sends" 1 3 (spSends c))
    (M2 : DefM P w K mg base c.W "take_over" 1 2 (spT c (fun st i e => (.none, { st with inner := some (takeOver e i) })) fun _ i e => nameFits i e)) :
    DefM P w K mg base c.W "done" (k + 2) 2 (spT c doneW DoneOk) := by
  refine okM F sc_Work_done rfl fun cdv A outer s H E f hr => ⟨_,
    (ss_cons (s_set (i := 2) sc_Work_done.nd (d_fld TI 0 (d_fld TW 10 (dv 0))))
      (ss_cons (s_if (PDW.pt (w_and (t_notN (d_fld TE 8 (dv 1)) d_non) (w_and1 (t_not (t_val (d_fld TI 7 (d_fld TW 10 (dv 0))))))))
      (ss_one (s_ret (d_meth TW M1 (hr.mono (by omega)) (by decide) (dv 0) (a_cons (dv 1) (a_cons (dv 2) a_nil)))))
      ss_nil)
      (ss_cons (s_if (t_notN (d_fld TE 4 (dv 1)) d_non)
      (ss_one (s_asg (d_add (d_slice (d_ix (hu_of hr) (d_fld TW 4 (dv 0)) (d_fld TE 4 (dv 1))) o_none (o_some (d_fld TE 5 (dv 1)))) (d_list (by rfl) B.list (a_cons (d_fld TE 7 (dv 1)) a_nil))) (g_sub (hu_of hr) (d_fld TW 4 (dv 0)) (d_fld TE 4 (dv 1)))))
      ss_nil)
      (ss_cons (s_fld TI 6 (d_fld TW 10 (dv 0)) d_non)
      (ss_cons (s_fld TI 7 (d_fld TW 10 (dv 0)) d_bl)
      (ss_cons (s_fld TW 8 (dv 0) (d_len (by rfl) B.len (a_cons (d_fld TW 7 (dv 0)) a_nil)))
      (ss_cons (s_expr (d_meth TW M2 (hr.mono (by omega)) (by decide) (dv 0) (a_cons (dv 1) a_nil)))
      (ss_cons (s_fld TW 11 (dv 0) (d_add (d_fld TW 11 (dv 0)) d_int))
      (ss_one (s_ret (d_tup (a_cons d_str (a_cons (dv 2) a_nil)))))))))))))
    , ?_⟩
  intro rs S C hl h
  obtain ⟨wa, a, ⟨rows, handed, way, often, held, letters, mark, jots, made, over, inner, count⟩, i, e, rfl, rfl, hin, ok, h⟩ := h
  cases (show inner = some i from hin)
  obtain ⟨irow, inames, itaken, ipassed, iletters, isince, inoted, iout, iagain⟩ := i
  obtain ⟨erow, etaken, ename, enumber, efile, epos, eold, enew, eletter, efault⟩ := e
  have lt : (((jots.map (effR c)).length : Nat) : Int) = (jots.length : Int) := by rw [List.length_map]
  have tail : ∀ held' fr, held' = putFile held efile epos enew → fr = [some (.val (.ref wa)), some (effR c ⟨erow, etaken, ename, enumber, efile, epos, eold, enew, eletter, efault⟩), some (.dat (.int irow))] →
      (∀ a', C (.dat (told2 "does" irow)) (wC c wa a' (doesW ⟨rows, handed, way, often, held, letters, mark, jots, made, over, some ⟨irow, inames, itaken, ipassed, iletters, isince, inoted, iout, iagain⟩, count⟩ ⟨irow, inames, itaken, ipassed, iletters, isince, inoted, iout, iagain⟩ ⟨erow, etaken, ename, enumber, efile, epos, eold, enew, eletter, efault⟩).2)) →
      sSeq (sFldD c.I FI 6 (dFld c.W FW 10 (dVar 0)) (dC (.dat .none))) (sSeq (sFldD c.I FI 7 (dFld c.W FW 10 (dVar 0)) (dC (.dat (.bool false)))) (sSeq (sFldD c.W FW 8 (dVar 0) (dCB fLen (dCons (dFld c.W FW 7 (dVar 0)) dNil)))
        (sSeq (sDrop (dMeth c.W FW 2 (spT c (fun st i e => (.none, { st with inner := some (takeOver e i) })) fun _ i e => nameFits i e) (dVar 0) (dCons (dVar 1) dNil)))
          (sSeq (sFldD c.W FW 11 (dVar 0) (dOp fAdd (dFld c.W FW 11 (dVar 0)) (dC (.dat (.int 1))))) (sRet (dTup (dCons (dC (.dat (.str "does"))) (dCons (dVar 2) dNil))))))))
        { nx := fun _ S => WkC C (.dat .none) S, rt := WkC C } fr (wC c wa a ⟨rows, handed, way, often, held', letters, mark, jots, made, over, some ⟨irow, inames, itaken, ipassed, iletters, isince, inoted, iout, iagain⟩, count⟩) := by
    rintro held' fr rfl rfl h'
    refine ⟨_, rfl, 0, _, _, rfl, rfl, 4, _, rfl, le_ok rfl, ?_⟩
    refine ⟨_, rfl, 0, _, _, rfl, rfl, 4, _, rfl, le_ok rfl, ?_⟩
    refine ⟨_, rfl, 0, _, _, rfl, rfl, 3, _, rfl, _, rfl, 0, _, rfl, le_ok rfl, ?_⟩
    refine ⟨_, rfl, ⟨0, _, rfl⟩, _, rfl, rfl, wa, a, ⟨rows, handed, way, often, putFile held efile epos enew, letters, mark, jots, (((jots.map (effR c)).length : Nat) : Int), over, some ⟨irow, inames, itaken, ipassed, iletters, isince, none, false, iagain⟩, count⟩, ⟨irow, inames, itaken, ipassed, iletters, isince, none, false, iagain⟩, ⟨erow, etaken, ename, enumber, efile, epos, eold, enew, eletter, efault⟩, rfl, rfl, rfl, ok.name, fun a' => ?_⟩
    refine ⟨_, rfl, 0, _, _, rfl, rfl, _, rfl, 0, _, rfl, le_ok rfl, ?_⟩
    refine ⟨_, rfl, by simp, _, rfl, WkC.of ?_⟩
    have h2 := h' a'
    show C (.dat (told2 "does" irow)) (wC c wa a' ⟨rows, handed, way, often, putFile held efile epos enew, letters, mark, jots, (((jots.map (effR c)).length : Nat) : Int), over, some (takeOver ⟨erow, etaken, ename, enumber, efile, epos, eold, enew, eletter, efault⟩ ⟨irow, inames, itaken, ipassed, iletters, isince, none, false, iagain⟩), count + 1⟩)
    rw [lt]
    exact h2
  have mid : ∀ fr, fr = [some (.val (.ref wa)), some (effR c ⟨erow, etaken, ename, enumber, efile, epos, eold, enew, eletter, efault⟩), some (.dat (.int irow))] →
      (∀ a', C (.dat (told2 "does" irow)) (wC c wa a' (doesW ⟨rows, handed, way, often, held, letters, mark, jots, made, over, some ⟨irow, inames, itaken, ipassed, iletters, isince, inoted, iout, iagain⟩, count⟩ ⟨irow, inames, itaken, ipassed, iletters, isince, inoted, iout, iagain⟩ ⟨erow, etaken, ename, enumber, efile, epos, eold, enew, eletter, efault⟩).2)) →
      sSeq (sIf (dTest (dOp fNotN (dFld c.E FE 4 (dVar 1)) (dC (.dat .none)))) (sAsg (dOp fAdd (dSl fSl (dOp fIx (dFld c.W FW 4 (dVar 0)) (dFld c.E FE 4 (dVar 1))) dNoPart (dPart (dFld c.E FE 5 (dVar 1)))) (dCB fList (dCons (dFld c.E FE 7 (dVar 1)) dNil))) (gSb (dFld c.W FW 4 (dVar 0)) (dFld c.E FE 4 (dVar 1)) fSet)) sNext)
      (sSeq (sFldD c.I FI 6 (dFld c.W FW 10 (dVar 0)) (dC (.dat .none))) (sSeq (sFldD c.I FI 7 (dFld c.W FW 10 (dVar 0)) (dC (.dat (.bool false)))) (sSeq (sFldD c.W FW 8 (dVar 0) (dCB fLen (dCons (dFld c.W FW 7 (dVar 0)) dNil)))
        (sSeq (sDrop (dMeth c.W FW 2 (spT c (fun st i e => (.none, { st with inner := some (takeOver e i) })) fun _ i e => nameFits i e) (dVar 0) (dCons (dVar 1) dNil)))
          (sSeq (sFldD c.W FW 11 (dVar 0) (dOp fAdd (dFld c.W FW 11 (dVar 0)) (dC (.dat (.int 1))))) (sRet (dTup (dCons (dC (.dat (.str "does"))) (dCons (dVar 2) dNil)))))))))
        { nx := fun _ S => WkC C (.dat .none) S, rt := WkC C } fr (wC c wa a ⟨rows, handed, way, often, held, letters, mark, jots, made, over, some ⟨irow, inames, itaken, ipassed, iletters, isince, inoted, iout, iagain⟩, count⟩) := by
    intro fr hfr h'
    cases efile with
    | none =>
      subst hfr
      exact ⟨_, rfl, rfl, rfl, _, rfl, tail held _ rfl rfl h'⟩
    | some fl =>
      have hf := ok.file fl rfl
      have fa := file_at hf
      subst hfr
      refine ⟨_, rfl, rfl, rfl, _, rfl, ?_⟩
      refine ⟨_, rfl, 0, _, _, rfl, rfl, _, rfl, rfl, rfl, _, rfl, .inl ⟨1, _, _, rfl, fa, _, rfl, rfl, rfl, _, rfl, _, rfl, rfl, rfl, _, rfl, ?_, _, rfl, 0, _, _, rfl, rfl, _, rfl, rfl, rfl, _, rfl, .inl ⟨1, _, fl.toNat, rfl, by rw [fileR_len]; exact ixN_of hf, ?_⟩⟩⟩
      · have h1 := held_len ok.held fl.toNat
        have h2 := ok.new
        rw [cut_to _ ok.pos, List.length_take, List.length_map, List.length_map]
        have h3 : (held.getD fl.toNat []).length ≤ 1000 := h1
        have h4 : enew.length ≤ 1000 := h2
        omega
      · rw [fileR_put ok.pos]
        exact tail _ _ rfl rfl h'
  refine ⟨_, rfl, 0, _, _, rfl, rfl, 4, _, _, rfl, rfl, ?_⟩
  cases eletter with
  | some v =>
    cases iout with
    | false =>
      refine ⟨_, rfl, rfl, rfl, _, rfl, ?_⟩
      refine ⟨_, rfl, 0, _, _, rfl, rfl, 4, _, _, rfl, rfl, ?_⟩
      refine ⟨_, rfl, ⟨0, _, rfl⟩, _, rfl, _, rfl, rfl, wa, a, _, _, _, v, rfl, rfl, rfl, rfl, ok.letters, fun a' => WkC.of (h a')⟩
    | true =>
      refine ⟨_, rfl, rfl, rfl, _, rfl, ?_⟩
      refine ⟨_, rfl, 0, _, _, rfl, rfl, 4, _, _, rfl, rfl, ?_⟩
      exact mid _ rfl h
  | none =>
    refine ⟨_, rfl, rfl, rfl, _, rfl, ?_⟩
    exact mid _ rfl h
end
end K17
set_option Elab.async false
set_option linter.all false
set_option maxRecDepth 100000
set_option maxHeartbeats 4000000
/-! What is known of an effect, of the states behind a move. -/
namespace PM
open PySem PySem.Spec PyProof.Rows L2 DL

theorem and_pure {t u : DT} {fr : Fr} {S : SH} {C : Bool → SH → Prop} {b1 b2 : Bool} (h1 : ∀ C' : Bool → SH → Prop, C' b1 S → t fr S C') (h2 : ∀ C' : Bool → SH → Prop, C' b2 S → u fr S C') (h : C (b1 && b2) S) : dAnd t u fr S C := by
  refine h1 _ ?_
  cases b1 with
  | true => exact h2 _ h
  | false => exact h
theorem or_pure {t u : DT} {fr : Fr} {S : SH} {C : Bool → SH → Prop} {b1 b2 : Bool} (h1 : ∀ C' : Bool → SH → Prop, C' b1 S → t fr S C') (h2 : ∀ C' : Bool → SH → Prop, C' b2 S → u fr S C') (h : C (b1 || b2) S) : dOr t u fr S C := by
  refine h1 _ ?_
  cases b1 with
  | true => exact h
  | false => exact h2 _ h
theorem getD_mem {α : Type} {xs : List α} {i : Nat} {d : α} (h : i < xs.length) : xs.getD i d ∈ xs := by
  rw [List.getD_eq_getElem?_getD, List.getElem?_eq_getElem h]
  exact List.getElem_mem h
theorem getD_nn {xs : List Int} (h : NN xs) (i : Nat) : 0 ≤ xs.getD i 0 := by
  rw [List.getD_eq_getElem?_getD]
  cases e : xs[i]? with
  | none => exact Int.le_refl _
  | some x => exact h x (List.mem_of_getElem? e)
theorem NN.drop {xs : List Int} (h : NN xs) (k : Nat) : NN (xs.drop k) := fun x hx => h x (List.mem_of_mem_drop hx)
theorem NN.take {xs : List Int} (h : NN xs) (k : Nat) : NN (xs.take k) := fun x hx => h x (List.mem_of_mem_take hx)
theorem NN.app {xs ys : List Int} (h : NN xs) (g : NN ys) : NN (xs ++ ys) := fun x hx => (List.mem_append.mp hx).elim (h x) (g x)
theorem NN.set {xs : List Int} (h : NN xs) {v : Int} (hv : 0 ≤ v) (i : Nat) : NN (xs.set i v) := fun x hx => by
  rcases List.mem_or_eq_of_mem_set hx with hx | rfl
  · exact h x hx
  · exact hv
theorem NN.cons {xs : List Int} (h : NN xs) {v : Int} (hv : 0 ≤ v) : NN (v :: xs) := fun x hx => by
  rcases List.mem_cons.mp hx with rfl | hx
  · exact hv
  · exact h x hx
theorem NN.nil : NN [] := fun x hx => nomatch hx
theorem effect_ok {nN nF : Nat} {many : Nat} {row : PRow} {at_ taken : Int} {ns hs : List Int} {fs : List (List Int)} (hr : row.ok nN nF many) (hn : NamesOk nN ns) (hh : NN hs) (hf : fs.length = nF ∧ ∀ f ∈ fs, f.length ≤ 40 ∧ NN f)
    (ha : 0 ≤ at_ ∧ at_ < many) (ht : 0 ≤ taken ∧ taken ≤ hs.length) (hz : (effect row at_ taken ns hs fs).fault = none) : EffOk nN nF hs.length many (effect row at_ taken ns hs fs) := by
  have file : ∀ fl : Int, NumOk fl nF → (fs.getD fl.toNat []).length ≤ 40 ∧ NN (fs.getD fl.toNat []) := fun fl h => hf.2 _ (getD_mem (by have := h.1; have := h.2; have := hf.1; omega))
  have wn : ∀ p : Part, p.ok nN → 0 ≤ p.worth ns := fun p hp => Part.nonneg hn.nn p hp
  have len : ((hs.length : Nat) : Int) = hs.length := rfl
  cases row with
  | set n p => exact ⟨⟨by show 0 ≤ at_ + 1; omega, by show at_ + 1 ≤ many; omega⟩, ht, (fun m e => by cases e; exact ⟨hr.1, _, rfl, wn p hr.2.1⟩), (fun m e => nomatch e), Int.le_refl _, ⟨by show (0 : Int) + ((([] : List Int).length : Nat) : Int) ≤ 40; decide, NN.nil⟩, ⟨by show (0 : Int) + ((([] : List Int).length : Nat) : Int) ≤ 40; decide, NN.nil⟩⟩
  | size n fl => exact ⟨⟨by show 0 ≤ at_ + 1; omega, by show at_ + 1 ≤ many; omega⟩, ht, (fun m e => by cases e; exact ⟨hr.1, _, rfl, by omega⟩), (fun m e => nomatch e), Int.le_refl _, ⟨by show (0 : Int) + ((([] : List Int).length : Nat) : Int) ≤ 40; decide, NN.nil⟩, ⟨by show (0 : Int) + ((([] : List Int).length : Nat) : Int) ≤ 40; decide, NN.nil⟩⟩
  | take n =>
    by_cases e : taken = (hs.length : Int)
    · have e2 : effect (.take n) at_ taken ns hs fs = _ := if_pos e
      rw [e2] at hz
      cases hz
    · have e2 : effect (.take n) at_ taken ns hs fs = _ := if_neg e
      rw [e2]
      exact ⟨⟨by show 0 ≤ at_ + 1; omega, by show at_ + 1 ≤ many; omega⟩, ⟨by show 0 ≤ taken + 1; omega, by show taken + 1 ≤ hs.length; omega⟩, (fun m e => by cases e; exact ⟨hr, _, rfl, getD_nn hh _⟩), (fun m e => nomatch e), Int.le_refl _, ⟨by show (0 : Int) + ((([] : List Int).length : Nat) : Int) ≤ 40; decide, NN.nil⟩, ⟨by show (0 : Int) + ((([] : List Int).length : Nat) : Int) ≤ 40; decide, NN.nil⟩⟩
  | get n fl p =>
    by_cases e : ((fs.getD fl.toNat []).length : Int) ≤ p.worth ns
    · have e2 : effect (.get n fl p) at_ taken ns hs fs = _ := if_pos e
      rw [e2] at hz
      cases hz
    · have e2 : effect (.get n fl p) at_ taken ns hs fs = _ := if_neg e
      rw [e2]
      exact ⟨⟨by show 0 ≤ at_ + 1; omega, by show at_ + 1 ≤ many; omega⟩, ht, (fun m e => by cases e; exact ⟨hr.1, _, rfl, getD_nn (file fl hr.2.1).2 _⟩), (fun m e => nomatch e), Int.le_refl _, ⟨by show (0 : Int) + ((([] : List Int).length : Nat) : Int) ≤ 40; decide, NN.nil⟩, ⟨by show (0 : Int) + ((([] : List Int).length : Nat) : Int) ≤ 40; decide, NN.nil⟩⟩
  | add fl p =>
    obtain ⟨f1, f2⟩ := file fl hr.1
    have hw := wn p hr.2.1
    have e2 : effect (.add fl p) at_ taken ns hs fs = changedE (if (fs.getD fl.toNat []).length = 40 then { eff0 (at_ + 1) taken with fault := some "full" } else eff0 (at_ + 1) taken) fl (fs.getD fl.toNat []) (fs.getD fl.toNat []).length [p.worth ns] := rfl
    rw [e2] at hz ⊢
    generalize fs.getD fl.toNat [] = hd at f1 f2 hz ⊢
    by_cases e : hd.length = 40
    · rw [if_pos e] at hz
      cases hz
    · rw [if_neg e]
      refine ⟨⟨by show 0 ≤ at_ + 1; omega, by show at_ + 1 ≤ many; omega⟩, ht, (fun m e => nomatch e), (fun m e => by cases e; exact hr.1), by show (0 : Int) ≤ hd.length; omega, ⟨?_, f2.drop _⟩, ⟨?_, NN.nil.cons hw⟩⟩
      · show (hd.length : Int) + ((hd.drop hd.length).length : Int) ≤ 40
        rw [List.length_drop]; omega
      · show (hd.length : Int) + (([p.worth ns].length : Nat) : Int) ≤ 40
        simp; omega
  | put fl p q =>
    obtain ⟨f1, f2⟩ := file fl hr.1
    have hw := wn p hr.2.1.1
    have hv := wn q hr.2.2.1
    have e2 : effect (.put fl p q) at_ taken ns hs fs = changedE (if ((fs.getD fl.toNat []).length : Int) ≤ p.worth ns then { eff0 (at_ + 1) taken with fault := some "place" } else eff0 (at_ + 1) taken) fl (fs.getD fl.toNat []) (p.worth ns).toNat (q.worth ns :: (fs.getD fl.toNat []).drop ((p.worth ns).toNat + 1)) := rfl
    rw [e2] at hz ⊢
    generalize fs.getD fl.toNat [] = hd at f1 f2 hz ⊢
    generalize p.worth ns = v at hw hz ⊢
    by_cases e : ((hd.length : Nat) : Int) ≤ v
    · rw [if_pos e] at hz
      cases hz
    · rw [if_neg e]
      refine ⟨⟨by show 0 ≤ at_ + 1; omega, by show at_ + 1 ≤ many; omega⟩, ht, (fun m e => nomatch e), (fun m e => by cases e; exact hr.1), by show (0 : Int) ≤ (v.toNat : Int); omega, ⟨?_, f2.drop _⟩, ⟨?_, (f2.drop _).cons hv⟩⟩
      · show ((v.toNat : Nat) : Int) + ((hd.drop v.toNat).length : Int) ≤ 40
        rw [List.length_drop]; omega
      · show ((v.toNat : Nat) : Int) + (((q.worth ns :: hd.drop (v.toNat + 1)).length : Nat) : Int) ≤ 40
        rw [List.length_cons, List.length_drop]; omega
  | cut fl p =>
    obtain ⟨f1, f2⟩ := file fl hr.1
    have hw := wn p hr.2.1
    have e2 : effect (.cut fl p) at_ taken ns hs fs = changedE (eff0 (at_ + 1) taken) fl (fs.getD fl.toNat []) (min (p.worth ns).toNat (fs.getD fl.toNat []).length) [] := rfl
    rw [e2]
    generalize fs.getD fl.toNat [] = hd at f1 f2 ⊢
    generalize p.worth ns = v at hw ⊢
    refine ⟨⟨by show 0 ≤ at_ + 1; omega, by show at_ + 1 ≤ many; omega⟩, ht, (fun m e => nomatch e), (fun m e => by cases e; exact hr.1), by show (0 : Int) ≤ ((min v.toNat hd.length : Nat) : Int); omega, ⟨?_, f2.drop _⟩, ⟨?_, NN.nil⟩⟩
    · show ((min v.toNat hd.length : Nat) : Int) + ((hd.drop (min v.toNat hd.length)).length : Int) ≤ 40
      rw [List.length_drop]; omega
    · show ((min v.toNat hd.length : Nat) : Int) + ((([] : List Int).length : Nat) : Int) ≤ 40
      simp; omega
  | send p => exact ⟨⟨by show 0 ≤ at_ + 1; omega, by show at_ + 1 ≤ many; omega⟩, ht, (fun m e => nomatch e), (fun m e => nomatch e), Int.le_refl _, ⟨by show (0 : Int) + ((([] : List Int).length : Nat) : Int) ≤ 40; decide, NN.nil⟩, ⟨by show (0 : Int) + ((([] : List Int).length : Nat) : Int) ≤ 40; decide, NN.nil⟩⟩
  | go r =>
    obtain ⟨r1, r2⟩ := hr
    exact ⟨⟨r1, by show r ≤ many; omega⟩, ht, (fun m e => nomatch e), (fun m e => nomatch e), Int.le_refl _, ⟨by show (0 : Int) + ((([] : List Int).length : Nat) : Int) ≤ 40; decide, NN.nil⟩, ⟨by show (0 : Int) + ((([] : List Int).length : Nat) : Int) ≤ 40; decide, NN.nil⟩⟩
  | unl n r =>
    obtain ⟨_, r1, r2⟩ := hr
    by_cases e : ns.getD n.toNat 0 = 0
    · have e2 : effect (.unl n r) at_ taken ns hs fs = _ := if_pos e
      rw [e2]
      exact ⟨⟨r1, by show r ≤ many; omega⟩, ht, (fun m e => nomatch e), (fun m e => nomatch e), Int.le_refl _, ⟨by show (0 : Int) + ((([] : List Int).length : Nat) : Int) ≤ 40; decide, NN.nil⟩, ⟨by show (0 : Int) + ((([] : List Int).length : Nat) : Int) ≤ 40; decide, NN.nil⟩⟩
    · have e2 : effect (.unl n r) at_ taken ns hs fs = _ := if_neg e
      rw [e2]
      exact ⟨⟨by show 0 ≤ at_ + 1; omega, by show at_ + 1 ≤ many; omega⟩, ht, (fun m e => nomatch e), (fun m e => nomatch e), Int.le_refl _, ⟨by show (0 : Int) + ((([] : List Int).length : Nat) : Int) ≤ 40; decide, NN.nil⟩, ⟨by show (0 : Int) + ((([] : List Int).length : Nat) : Int) ≤ 40; decide, NN.nil⟩⟩
  | mark => exact ⟨⟨by show 0 ≤ at_ + 1; omega, by show at_ + 1 ≤ many; omega⟩, ht, (fun m e => nomatch e), (fun m e => nomatch e), Int.le_refl _, ⟨by show (0 : Int) + ((([] : List Int).length : Nat) : Int) ≤ 40; decide, NN.nil⟩, ⟨by show (0 : Int) + ((([] : List Int).length : Nat) : Int) ≤ 40; decide, NN.nil⟩⟩
end PM
set_option Elab.async false
set_option linter.all false
set_option maxRecDepth 100000
set_option maxHeartbeats 4000000
namespace K17
open PySem PySem.Spec PyProof.Rows L2 DL PM
section
variable {P : Program} {w : World} {K : Fg} {mg : Str → Option Value} {base : Heap} {c : Cs}
/-! rise -/
structure RiseOk (st : WorkS) : Prop where
  inner : st.inner = none
  back : st.way = backW → ∀ e ∈ st.jots, ∃ f, e.file = some f
  file : ∀ e ∈ st.jots, ∀ f, e.file = some f → NumOk f st.held.length
  pos : ∀ e ∈ st.jots, 0 ≤ e.pos ∧ e.old.length ≤ 1000
  held : ∀ f ∈ st.held, f.length ≤ 1000
theorem str_eqv {x y : Str} (h : PyData.eqv (.str x) (.str y) = true) : x = y := by
  rw [PyData.eqv] at h
  exact eq_of_beq h
theorem str_nev {x y : Str} (h : PyData.eqv (.str x) (.str y) = false) : ¬ x = y := fun e => by
  rw [PyData.eqv, e] at h
  simp at h
abbrev s_Work_rise : Stmt := inClass (topS 41) 3
abbrev N_Work_rise : List Str := ["self", "told"]
theorem sc_Work_rise : FnScope N_Work_rise ["self"] (defScope s_Work_rise) := ⟨rfl, rfl, rfl, by decide +kernel, rfl, by decide +kernel, by decide +kernel⟩
theorem ok_rise {k : Nat} {t1 : Tok} (F : FunM K c.W "rise" "Work.rise" s_Work_rise ["self"]) (B : Blt mg) (TW : Klass K c.W FW) (TI : Klass K c.I FI) (TM : Klass K c.M FM) (TE : Klass K c.E FE) (I1 : DefI P w K mg base "Inner" c.I 1 3 (spInnerInit c)) (c1 : mg "BACK" = some (.str "back" t1)) :
    DefM P w K mg base c.W "rise" (k + 3) 1 (spM c riseW RiseOk) := by
  refine okM F sc_Work_rise rfl fun cdv A outer s H E f hr => ⟨_,
    (ss_cons (s_if (PDW.pt (w_and (t_eq hr.units (d_fld TW 2 (dv 0)) (d_globS (by rfl) c1)) (w_and1 (t_neE hr.units (d_fld TW 7 (dv 0)) (d_lst a_nil)))))
      (ss_cons (s_set (i := 1) sc_Work_rise.nd (d_pop (d_fld TW 7 (dv 0))))
      (ss_cons (s_asg (d_add (d_slice (d_ix (hu_of hr) (d_fld TW 4 (dv 0)) (d_fld TE 4 (dv 1))) o_none (o_some (d_fld TE 5 (dv 1)))) (d_list (by rfl) B.list (a_cons (d_fld TE 6 (dv 1)) a_nil))) (g_sub (hu_of hr) (d_fld TW 4 (dv 0)) (d_fld TE 4 (dv 1))))
      (ss_one (s_ret (d_tup (a_cons d_str (a_cons (d_fld TE 4 (dv 1)) a_nil)))))))
      ss_nil)
      (ss_cons (s_fld TW 10 (dv 0) (d_make FI I1 (hr.mono (by omega)) (by rfl) (a_cons (d_fld TW 6 (dv 0)) (a_cons (d_len (by rfl) B.len (a_cons (d_fld TW 7 (dv 0)) a_nil)) a_nil))))
      (ss_one (s_ret (d_tup (a_cons d_str (a_cons (d_fld TM 0 (d_fld TW 6 (dv 0))) a_nil)))))))
    , ?_⟩
  intro rs S C hl h
  obtain ⟨wa, a, ⟨rows, handed, way, often, held, letters, mark, jots, made, over, inner, count⟩, rfl, rfl, ok, h⟩ := h
  cases (show inner = none from ok.inner)
  have tail : ∀ fr, fr[0]? = some (some (.val (.ref wa))) → (∀ a', C (.dat (told2 "rises" mark.row)) (wC c wa a' ⟨rows, handed, way, often, held, letters, mark, jots, made, over, some (mkInner mark jots.length), count⟩)) →
      sSeq (sFldD c.W FW 10 (dVar 0) (dMake c.I FI 3 (spInnerInit c) (dCons (dFld c.W FW 6 (dVar 0)) (dCons (dCB fLen (dCons (dFld c.W FW 7 (dVar 0)) dNil)) dNil)))) (sRet (dTup (dCons (dC (.dat (.str "rises"))) (dCons (dFld c.M FM 0 (dFld c.W FW 6 (dVar 0))) dNil))))
        { nx := fun _ S => WkC C (.dat .none) S, rt := WkC C } fr (wC c wa a ⟨rows, handed, way, often, held, letters, mark, jots, made, over, none, count⟩) := by
    intro fr hfr h'
    have lt : (((jots.map (effR c)).length : Nat) : Int) = (jots.length : Int) := by rw [List.length_map]
    refine ⟨_, hfr, 0, _, _, rfl, rfl, _, hfr, 0, _, _, rfl, rfl, 3, _, rfl, rfl, fun x => ⟨x, mark, _, _, rfl, rfl, fun n => ⟨rfl, ?_⟩⟩⟩
    refine ⟨_, hfr, 2, _, rfl, le_ok rfl, ?_⟩
    refine ⟨_, hfr, 2, _, _, rfl, rfl, rfl, rfl, _, rfl, by simp, _, rfl, ?_⟩
    have h2 := h' { a with i := x, n := n }
    rw [← lt] at h2
    refine ⟨_, _, wkn_sub ((List.perm_append_comm (l₁ := [_, _]) (l₂ := [_, _, _, _])).trans (List.Perm.append_left [_, _, _, _] (List.Perm.swap _ _ []))) (List.Sublist.refl _), h2⟩
  refine ⟨_, rfl, 0, _, _, rfl, rfl, rfl, ite2b (fun hb => ?_) (fun hb => ?_)⟩
  · have hw : way = backW := str_eqv hb
    rcases List.eq_nil_or_concat jots with e | ⟨init, e, ej⟩
    · subst e
      exact ⟨_, rfl, 0, _, _, rfl, rfl, Nat.zero_le _, _, rfl, 3, _, rfl, tail _ rfl h⟩
    · rw [List.concat_eq_append] at ej
      subst ej
      have me : e ∈ init ++ [e] := List.mem_append_right _ (List.mem_singleton.mpr rfl)
      obtain ⟨fl, hfl⟩ := ok.back hw e me
      have hf := ok.file e me fl hfl
      obtain ⟨hp, ho⟩ := ok.pos e me
      have eR : riseW ⟨rows, handed, way, often, held, letters, mark, init ++ [e], made, over, none, count⟩ = (told2 "back" fl, ⟨rows, handed, way, often, putFile held (some fl) e.pos e.old, letters, mark, init, made, over, none, count⟩) := by
        unfold riseW
        rw [List.getLast?_concat]
        show (if way = backW then _ else _) = _
        rw [if_pos hw, List.dropLast_concat, hfl]
        rfl
      rw [eR] at h
      obtain ⟨erow, etaken, ename, enumber, efile, epos, eold, enew, eletter, efault⟩ := e
      cases (show efile = some fl from hfl)
      have ne : ((init ++ [(⟨erow, etaken, ename, enumber, some fl, epos, eold, enew, eletter, efault⟩ : Eff)]).map (effR c)).isEmpty = false := by simp
      have em : (init ++ [(⟨erow, etaken, ename, enumber, some fl, epos, eold, enew, eletter, efault⟩ : Eff)]).map (effR c) = init.map (effR c) ++ [effR c ⟨erow, etaken, ename, enumber, some fl, epos, eold, enew, eletter, efault⟩] := by rw [List.map_append]; rfl
      refine ⟨_, rfl, 0, _, _, rfl, rfl, Nat.zero_le _, _, rfl, 3, _, rfl, iteTb (by rw [ne]; rfl) ?_⟩
      refine ⟨_, rfl, 0, _, _, rfl, rfl, 3, init.map (effR c), _, congrArg (fun z => some (Cell.lst a.j z)) em, ?_⟩
      have fa := file_at hf
      refine ⟨_, rfl, 0, _, _, rfl, rfl, _, rfl, rfl, rfl, _, rfl, .inl ⟨1, _, _, rfl, fa, _, rfl, rfl, rfl, _, rfl, _, rfl, rfl, rfl, _, rfl, ?_, _, rfl, 0, _, _, rfl, rfl, _, rfl, rfl, rfl, _, rfl, .inl ⟨1, _, fl.toNat, rfl, by rw [fileR_len]; exact ixN_of hf, ?_⟩⟩⟩
      · have h1 := held_len ok.held fl.toNat
        rw [cut_to _ hp, List.length_take, List.length_map, List.length_map]
        have h3 : (held.getD fl.toNat []).length ≤ 1000 := h1
        have h4 : eold.length ≤ 1000 := ho
        omega
      · rw [fileR_put hp]
        refine ⟨_, rfl, rfl, rfl, _, rfl, by simp, _, rfl, ?_⟩
        exact WkC.of (h a)
  · have hw : ¬ way = backW := str_nev hb
    have eR : riseW ⟨rows, handed, way, often, held, letters, mark, jots, made, over, none, count⟩ = (told2 "rises" mark.row, ⟨rows, handed, way, often, held, letters, mark, jots, made, over, some (mkInner mark jots.length), count⟩) := by
      unfold riseW
      show (match jots.getLast? with | some e => if way = backW then _ else _ | none => _) = _
      cases jots.getLast? with
      | none => rfl
      | some e =>
        show (if way = backW then _ else _) = _
        rw [if_neg hw]
    rw [eR] at h
    exact tail _ rfl h
end
end K17
set_option Elab.async false
set_option linter.all false
set_option maxRecDepth 100000
set_option maxHeartbeats 4000000
namespace K17
open PySem PySem.Spec PyProof.Rows L2 DL PM
section
variable {P : Program} {w : World} {K : Fg} {mg : Str → Option Value} {base : Heap} {c : Cs}
/-! go_through -/
structure GoOk (st : WorkS) (i : InnerS) : Prop where
  again : 0 < i.again ∧ i.again ≤ st.jots.length
  name : ∀ e ∈ st.jots, nameFits i e
theorem jots_at {c : Cs} {jots : List Eff} {p : Int} (h : NumOk p jots.length) : atI (jots.map (effR c)) p = some (effR c (jots.getD p.toNat (eff0 0 0))) := by
  have hl : p.toNat < jots.length := by have := h.1; have := h.2; omega
  have e : (jots.map (effR c))[p.toNat]? = some (effR c (jots.getD p.toNat (eff0 0 0))) := by
    rw [List.getElem?_map, List.getElem?_eq_getElem hl, List.getD_eq_getElem?_getD, List.getElem?_eq_getElem hl]
    rfl
  have e2 := atI_nat e
  rw [toNat_cast h.1] at e2
  exact e2
theorem int_eqv {x y : Int} (h : PyData.eqv (.int x) (.int y) = true) : x = y := by
  rw [PyData.eqv] at h
  exact eq_of_beq h
theorem int_nev {x y : Int} (h : PyData.eqv (.int x) (.int y) = false) : ¬ x = y := fun e => by
  rw [PyData.eqv, e] at h
  simp at h
abbrev s_Work_go_through : Stmt := inClass (topS 41) 4
abbrev N_Work_go_through : List Str := ["self", "place", "told", "row"]
theorem sc_Work_go_through : FnScope N_Work_go_through ["self"] (defScope s_Work_go_through) := ⟨rfl, rfl, rfl, by decide +kernel, rfl, by decide +kernel, by decide +kernel⟩
theorem ok_go_through {k : Nat} (F : FunM K c.W "go_through" "Work.go_through" s_Work_go_through ["self"]) (B : Blt mg) (TW : Klass K c.W FW) (TI : Klass K c.I FI)
    (M2 : DefM P w K mg base c.W "take_over" 1 2 (spT c (fun st i e => (.none, { st with inner := some (takeOver e i) })) fun _ i e => nameFits i e)) :
    DefM P w K mg base c.W "go_through" (k + 2) 1 (spIn c goW GoOk) := by
  refine okM F sc_Work_go_through rfl fun cdv A outer s H E f hr => ⟨_,
    (ss_cons (s_set (i := 1) sc_Work_go_through.nd (d_sub (d_len (by rfl) B.len (a_cons (d_fld TW 7 (dv 0)) a_nil)) (d_fld TI 8 (d_fld TW 10 (dv 0)))))
      (ss_cons (s_set (i := 2) sc_Work_go_through.nd (d_ix (hu_of hr) (d_fld TW 7 (dv 0)) (dv 1)))
      (ss_cons (s_fld TI 8 (d_fld TW 10 (dv 0)) (d_sub (d_fld TI 8 (d_fld TW 10 (dv 0))) d_int))
      (ss_cons (s_set (i := 3) sc_Work_go_through.nd (d_fld TI 0 (d_fld TW 10 (dv 0))))
      (ss_cons (s_if (t_eq hr.units (dv 1) (d_fld TW 8 (dv 0)))
      (ss_cons (s_fld TI 6 (d_fld TW 10 (dv 0)) (dv 2))
      (ss_one (s_ret (d_tup (a_cons d_str (a_cons (dv 3) a_nil))))))
      ss_nil)
      (ss_cons (s_expr (d_meth TW M2 (hr.mono (by omega)) (by decide) (dv 0) (a_cons (dv 2) a_nil)))
      (ss_one (s_ret (d_tup (a_cons d_str (a_cons (dv 3) a_nil)))))))))))
    , ?_⟩
  intro rs S C hl h
  obtain ⟨wa, a, ⟨rows, handed, way, often, held, letters, mark, jots, made, over, inner, count⟩, i, rfl, rfl, hin, ok, h⟩ := h
  cases (show inner = some i from hin)
  obtain ⟨irow, inames, itaken, ipassed, iletters, isince, inoted, iout, iagain⟩ := i
  obtain ⟨ha1, ha2⟩ := (show 0 < iagain ∧ iagain ≤ (jots.length : Int) from ok.again)
  have lt : (((jots.map (effR c)).length : Nat) : Int) = (jots.length : Int) := by rw [List.length_map]
  have hp : NumOk ((jots.length : Int) - iagain) jots.length := ⟨by omega, by omega⟩
  have hat := jots_at (c := c) hp
  have hmem : jots.getD ((jots.length : Int) - iagain).toNat (eff0 0 0) ∈ jots := getD_mem (by have := hp.1; have := hp.2; omega)
  have hname := ok.name _ hmem
  have eg : goW ⟨rows, handed, way, often, held, letters, mark, jots, made, over, some ⟨irow, inames, itaken, ipassed, iletters, isince, inoted, iout, iagain⟩, count⟩ ⟨irow, inames, itaken, ipassed, iletters, isince, inoted, iout, iagain⟩ =
    if (jots.length : Int) - iagain = made then (told2 "again" irow, ⟨rows, handed, way, often, held, letters, mark, jots, made, over, some ⟨irow, inames, itaken, ipassed, iletters, isince, some (jots.getD ((jots.length : Int) - iagain).toNat (eff0 0 0)), iout, iagain - 1⟩, count⟩)
    else (told2 "again" irow, ⟨rows, handed, way, often, held, letters, mark, jots, made, over, some (takeOver (jots.getD ((jots.length : Int) - iagain).toNat (eff0 0 0)) ⟨irow, inames, itaken, ipassed, iletters, isince, inoted, iout, iagain - 1⟩), count⟩) := rfl
  rw [eg] at h
  clear eg
  generalize jots.getD ((jots.length : Int) - iagain).toNat (eff0 0 0) = e at hat hmem hname h
  refine ⟨_, rfl, 0, _, _, rfl, rfl, 3, _, rfl, _, rfl, 0, _, _, rfl, rfl, 4, _, _, rfl, rfl, ?_⟩
  dsimp only
  rw [lt]
  refine ⟨_, rfl, 0, _, _, rfl, rfl, _, rfl, .inl ⟨3, _, _, rfl, hat, ?_⟩⟩
  refine ⟨_, rfl, 0, _, _, rfl, rfl, 4, _, _, rfl, rfl, _, rfl, 0, _, _, rfl, rfl, 4, _, rfl, le_ok rfl, ?_⟩
  refine ⟨_, rfl, 0, _, _, rfl, rfl, 4, _, _, rfl, rfl, ?_⟩
  refine ⟨_, rfl, _, rfl, 0, _, _, rfl, rfl, rfl, ite2b (fun hb => ?_) (fun hb => ?_)⟩
  · have hb' : (jots.length : Int) - iagain = made := int_eqv hb
    rw [if_pos hb'] at h
    refine ⟨_, rfl, _, rfl, 0, _, _, rfl, rfl, 4, _, rfl, le_ok rfl, ?_⟩
    exact ⟨_, rfl, by simp, _, rfl, WkC.of (h a)⟩
  · have hb' : ¬ (jots.length : Int) - iagain = made := int_nev hb
    rw [if_neg hb'] at h
    refine ⟨_, rfl, ⟨0, _, rfl⟩, _, rfl, rfl, wa, a, ⟨rows, handed, way, often, held, letters, mark, jots, made, over, some ⟨irow, inames, itaken, ipassed, iletters, isince, inoted, iout, iagain - 1⟩, count⟩, ⟨irow, inames, itaken, ipassed, iletters, isince, inoted, iout, iagain - 1⟩, e, rfl, rfl, rfl, hname, fun a' => ?_⟩
    exact ⟨_, rfl, by simp, _, rfl, WkC.of (h a')⟩
/-! begin -/
structure BeginOk (nN nF : Nat) (st : WorkS) (i : InnerS) : Prop where
  rows : ∀ r ∈ st.rows, r.ok nN nF st.rows.length
  handed : NN st.handed
  held : st.held.length = nF ∧ ∀ f ∈ st.held, f.length ≤ 40 ∧ NN f
  row : 0 ≤ i.row ∧ i.row ≤ st.rows.length
  names : NamesOk nN i.names
  taken : 0 ≤ i.taken ∧ i.taken ≤ st.handed.length
  letters : st.letters.length < 10000
  jots : st.jots.length < 10000
theorem fits_of {nN nF hl many : Nat} {e : Eff} {i : InnerS} (h : EffOk nN nF hl many e) (hn : i.names.length = nN) : nameFits i e := fun n en => by
  obtain ⟨h1, v, h2, _⟩ := h.name n en
  exact ⟨by rw [hn]; exact h1, v, h2⟩
theorem done_of {nN nF hl many : Nat} {e : Eff} {st : WorkS} {i : InnerS} (h : EffOk nN nF hl many e) (hn : i.names.length = nN) (hf : st.held.length = nF ∧ ∀ f ∈ st.held, f.length ≤ 40 ∧ NN f) (hl : st.letters.length < 10000) : DoneOk st i e :=
  ⟨fits_of h hn, fun f e => by rw [hf.1]; exact h.file f e, h.pos, by have := h.new.1; have := h.pos; omega, fun f hm => by have := (hf.2 f hm).1; omega, hl⟩
theorem word_mark (r : PRow) : PyData.eqv (.str r.word) (.str "mark") = isMark r := by cases r <;> rfl
theorem word_change (r : PRow) : inD (.str r.word) (changeW.map PyData.str) = changes r := by cases r <;> rfl
abbrev s_Work_begin : Stmt := inClass (topS 41) 8
abbrev N_Work_begin : List Str := ["self", "inner", "told", "word"]
theorem sc_Work_begin : FnScope N_Work_begin ["self"] (defScope s_Work_begin) := ⟨rfl, rfl, rfl, by decide +kernel, rfl, by decide +kernel, by decide +kernel⟩
def BeginE (st : WorkS) (i : InnerS) : Prop := ∃ nN nF, BeginOk nN nF st i
theorem ok_begin {k : Nat} {a1 : Addr} {t1 t2 : Tok} (F : FunM K c.W "begin" "Work.begin" s_Work_begin ["self"]) (B : Blt mg) (TW : Klass K c.W FW) (TI : Klass K c.I FI) (TE : Klass K c.E FE)
    (D1 : Def P w K mg base "effect" 6 6 (spEffect c.E)) (M1 : DefM P w K mg base c.W "ends" 1 2 (spEnds c)) (M2 : DefM P w K mg base c.W "keep" 3 1 (spIn c keepW fun _ _ => True))
    (M3 : DefM P w K mg base c.W "take_over" 1 2 (spT c (fun st i e => (.none, { st with inner := some (takeOver e i) })) fun _ i e => nameFits i e)) (M4 : DefM P w K mg base c.W "done" 2 2 (spT c doneW DoneOk))
    (c1 : mg "MOST_STEPS" = some (.int 1000 t1)) (c2 : mg "ON" = some (.str "on" t2)) (c3 : mg "CHANGES" = some (.ref a1)) (k3 : KTup K a1 (changeW.map V.str)) :
    DefM P w K mg base c.W "begin" (k + 7) 1 (spIn c beginW BeginE) := by
  refine okM F sc_Work_begin rfl fun cdv A outer s H E f hr => ⟨_,
    (ss_cons (s_set (i := 1) sc_Work_begin.nd (d_fld TW 10 (dv 0)))
      (ss_cons (s_if (t_eq hr.units (d_fld TI 0 (dv 1)) (d_len (by rfl) B.len (a_cons (d_fld TW 0 (dv 0)) a_nil)))
      (ss_one (s_ret (d_meth TW M1 (hr.mono (by omega)) (by decide) (dv 0) (a_cons (d_tup (a_cons d_str a_nil)) a_nil))))
      ss_nil)
      (ss_cons (s_if (t_eq hr.units (d_fld TI 3 (dv 1)) (d_globI (by rfl) c1))
      (ss_one (s_ret (d_meth TW M1 (hr.mono (by omega)) (by decide) (dv 0) (a_cons (d_tup (a_cons d_str a_nil)) a_nil))))
      ss_nil)
      (ss_cons (s_if (PDW.pt (w_and (t_gt (d_fld TW 3 (dv 0)) d_int) (w_and1 (t_ge (d_fld TI 5 (dv 1)) (d_fld TW 3 (dv 0))))))
      (ss_one (s_ret (d_meth0 TW M2 (hr.mono (by omega)) (by decide) (dv 0))))
      ss_nil)
      (ss_cons (s_set (i := 2) sc_Work_begin.nd (d_callF D1 (hr.mono (by omega)) (by rfl) (a_cons (d_fld TW 0 (dv 0)) (a_cons (d_fld TI 0 (dv 1)) (a_cons (d_fld TI 1 (dv 1)) (a_cons (d_fld TI 2 (dv 1)) (a_cons (d_fld TW 1 (dv 0)) (a_cons (d_fld TW 4 (dv 0)) a_nil))))))))
      (ss_cons (s_if (t_notN (d_fld TE 9 (dv 2)) d_non)
      (ss_one (s_ret (d_meth TW M1 (hr.mono (by omega)) (by decide) (dv 0) (a_cons (d_tup (a_cons d_str (a_cons (d_fld TE 9 (dv 2)) a_nil))) a_nil))))
      ss_nil)
      (ss_cons (s_set (i := 3) sc_Work_begin.nd (d_ix (hu_of hr) (d_ix (hu_of hr) (d_fld TW 0 (dv 0)) (d_fld TI 0 (dv 1))) d_int))
      (ss_cons (s_if (t_eq hr.units (dv 3) d_str)
      (ss_cons (s_expr (d_meth TW M3 (hr.mono (by omega)) (by decide) (dv 0) (a_cons (dv 2) a_nil)))
      (ss_cons (s_fld TW 11 (dv 0) (d_add (d_fld TW 11 (dv 0)) d_int))
      (ss_one (s_ret (d_meth0 TW M2 (hr.mono (by omega)) (by decide) (dv 0))))))
      ss_nil)
      (ss_cons (s_if (PDW.pt (w_or (t_eq hr.units (d_fld TW 2 (dv 0)) (d_globS (by rfl) c2)) (w_or1 (t_in (dv 3) (d_globT (ns := changeW) (by rfl) c3 k3)))))
      (ss_cons (s_expr (d_appT (d_fld TW 7 (dv 0)) (dv 2)))
      (ss_cons (s_fld TI 6 (dv 1) (dv 2))
      (ss_one (s_ret (d_tup (a_cons d_str (a_cons (d_fld TI 0 (dv 1)) a_nil)))))))
      ss_nil)
      (ss_cons (s_fld TI 6 (dv 1) (dv 2))
      (ss_one (s_ret (d_meth TW M4 (hr.mono (by omega)) (by decide) (dv 0) (a_cons (dv 2) a_nil))))))))))))))
    , ?_⟩
  intro rs S C hl h
  obtain ⟨wa, a, ⟨rows, handed, way, often, held, letters, mark, jots, made, over, inner, count⟩, i, rfl, rfl, hin, ⟨nN, nF, ok⟩, h⟩ := h
  cases (show inner = some i from hin)
  obtain ⟨irow, inames, itaken, ipassed, iletters, isince, inoted, iout, iagain⟩ := i
  have lt : (((rows.map PRow.dat).length : Nat) : Int) = (rows.length : Int) := by rw [List.length_map]
  obtain ⟨hr0, hr1⟩ := (show 0 ≤ irow ∧ irow ≤ (rows.length : Int) from ok.row)
  have hheld : held.length = nF ∧ ∀ f ∈ held, f.length ≤ 40 ∧ NN f := ok.held
  have hnames : NamesOk nN inames := ok.names
  refine ⟨_, rfl, 0, _, _, rfl, rfl, ?_⟩
  refine ⟨_, rfl, 4, _, _, rfl, rfl, _, rfl, 0, _, _, rfl, rfl, rfl, ite2b (fun hb => ?_) (fun hb => ?_)⟩
  · have hb' : irow = (rows.length : Int) := by rw [← lt]; exact int_eqv hb
    have e : beginW ⟨rows, handed, way, often, held, letters, mark, jots, made, over, some ⟨irow, inames, itaken, ipassed, iletters, isince, inoted, iout, iagain⟩, count⟩ ⟨irow, inames, itaken, ipassed, iletters, isince, inoted, iout, iagain⟩ = _ := if_pos hb'
    rw [e] at h
    exact ⟨_, rfl, ⟨0, _, rfl⟩, by simp, _, rfl, rfl, wa, a, _, _, rfl, rfl, fun a' => WkC.of (h a')⟩
  have hb1 : ¬ irow = (rows.length : Int) := fun z => int_nev hb (by rw [z, ← lt])
  refine ⟨_, rfl, 4, _, _, rfl, rfl, rfl, ite2b (fun hb => ?_) (fun hb => ?_)⟩
  · have hb' : ipassed = 1000 := int_eqv hb
    have e : beginW ⟨rows, handed, way, often, held, letters, mark, jots, made, over, some ⟨irow, inames, itaken, ipassed, iletters, isince, inoted, iout, iagain⟩, count⟩ ⟨irow, inames, itaken, ipassed, iletters, isince, inoted, iout, iagain⟩ = _ := (if_neg hb1).trans (if_pos hb')
    rw [e] at h
    exact ⟨_, rfl, ⟨0, _, rfl⟩, by simp, _, rfl, rfl, wa, a, _, _, rfl, rfl, fun a' => WkC.of (h a')⟩
  have hb2 : ¬ ipassed = 1000 := int_nev hb
  dsimp only [sNext, sSeq, sIf]
  refine and_pure (b1 := decide (0 < often)) (b2 := decide (often ≤ isince)) ?_ ?_ ?_
  · exact fun C' q => ⟨_, rfl, 0, _, _, rfl, rfl, q⟩
  · exact fun C' q => ⟨_, rfl, 4, _, _, rfl, rfl, _, rfl, 0, _, _, rfl, rfl, q⟩
  refine ite2b (fun hb => ?_) (fun hb => ?_)
  · have hb' : 0 < often ∧ often ≤ isince := by simpa using hb
    have e : beginW ⟨rows, handed, way, often, held, letters, mark, jots, made, over, some ⟨irow, inames, itaken, ipassed, iletters, isince, inoted, iout, iagain⟩, count⟩ ⟨irow, inames, itaken, ipassed, iletters, isince, inoted, iout, iagain⟩ = _ := (if_neg hb1).trans ((if_neg hb2).trans (if_pos hb'))
    rw [e] at h
    exact ⟨_, rfl, ⟨0, _, rfl⟩, rfl, wa, a, _, _, rfl, rfl, rfl, True.intro, fun a' => WkC.of (h a')⟩
  have hb3 : ¬ (0 < often ∧ often ≤ isince) := by
    intro z
    simp [z.1, z.2] at hb
  have er := toNat_cast hr0
  have hlt : irow.toNat < rows.length := by omega
  obtain ⟨row, hrow⟩ : ∃ row, rows[irow.toNat]? = some row := ⟨_, List.getElem?_eq_getElem hlt⟩
  have erow : rowAt rows irow = row := by
    unfold rowAt
    rw [List.getD_eq_getElem?_getD, hrow]; rfl
  have hrok : row.ok nN nF rows.length := ok.rows row (List.mem_of_getElem? hrow)
  have e : beginW ⟨rows, handed, way, often, held, letters, mark, jots, made, over, some ⟨irow, inames, itaken, ipassed, iletters, isince, inoted, iout, iagain⟩, count⟩ ⟨irow, inames, itaken, ipassed, iletters, isince, inoted, iout, iagain⟩ = _ := (if_neg hb1).trans ((if_neg hb2).trans (if_neg hb3))
  rw [e] at h
  clear e
  have eE : effAt ⟨rows, handed, way, often, held, letters, mark, jots, made, over, some ⟨irow, inames, itaken, ipassed, iletters, isince, inoted, iout, iagain⟩, count⟩ ⟨irow, inames, itaken, ipassed, iletters, isince, inoted, iout, iagain⟩ = effect row irow itaken inames handed held := by
    unfold effAt
    rw [show rowAt rows irow = row from erow]
  rw [eE] at h
  dsimp only at h
  rw [erow] at h
  have hEok := effect_ok (at_ := irow) (taken := itaken) (hs := handed) (fs := held) hrok hnames ok.handed hheld ⟨hr0, by omega⟩ ok.taken
  refine ⟨_, rfl, 0, _, _, rfl, rfl, _, rfl, 4, _, _, rfl, rfl, _, rfl, 4, _, _, rfl, rfl, _, rfl, 4, _, _, rfl, rfl, _, rfl, 0, _, _, rfl, rfl, _, rfl, 0, _, _, rfl, rfl, rfl, rows, row, irow.toNat, itaken, rows.length, .val (.ref a.n), .dat (lstI handed), .val (.ref a.h), inames, handed, held, by rw [er], hrow, by rw [hnames.len, hheld.1]; exact hrok, ⟨5, rfl⟩, (iR_eq handed).symm, ⟨1, rfl⟩, hnames.nn, fun f hf => by have := (hheld.2 f hf).1; omega, ok.taken.1, ok.taken.2, ?_⟩
  rw [er]
  generalize effect row irow itaken inames handed held = ef at h hEok
  obtain ⟨frow, ftaken, fname, fnumber, ffile, fpos, fold, fnew, fletter, ffault⟩ := ef
  cases ffault with
  | some z =>
    refine ⟨_, rfl, rfl, rfl, _, rfl, ?_⟩
    exact ⟨_, rfl, ⟨0, _, rfl⟩, _, rfl, rfl, rfl, _, rfl, by simp, _, rfl, rfl, wa, a, _, _, rfl, rfl, fun a' => WkC.of (h a')⟩
  | none =>
    have hE := hEok rfl
    refine ⟨_, rfl, rfl, rfl, _, rfl, ?_⟩
    have ha : atI (rows.map PRow.dat) irow = some row.dat := by
      have e1 : (rows.map PRow.dat)[irow.toNat]? = some row.dat := by rw [List.getElem?_map, hrow]; rfl
      have e2 := atI_nat e1
      rw [er] at e2
      exact e2
    refine ⟨_, rfl, 0, _, _, rfl, rfl, _, rfl, 4, _, _, rfl, rfl, _, ha, _, at0, ?_⟩
    dsimp only at h
    refine ⟨_, rfl, rfl, ite2b (fun hb => ?_) (fun hb => ?_)⟩
    · have hm : isMark row = true := by rw [← word_mark]; exact hb
      rw [if_pos hm] at h
      refine ⟨_, rfl, ⟨0, _, rfl⟩, _, rfl, rfl, wa, a, ⟨rows, handed, way, often, held, letters, mark, jots, made, over, some ⟨irow, inames, itaken, ipassed, iletters, isince, inoted, iout, iagain⟩, count⟩, ⟨irow, inames, itaken, ipassed, iletters, isince, inoted, iout, iagain⟩, ⟨frow, ftaken, fname, fnumber, ffile, fpos, fold, fnew, fletter, none⟩, rfl, rfl, rfl, fits_of hE hnames.len, fun a' => ?_⟩
      refine ⟨_, rfl, 0, _, _, rfl, rfl, _, rfl, 0, _, rfl, le_ok rfl, ?_⟩
      exact ⟨_, rfl, ⟨0, _, rfl⟩, rfl, wa, a', ⟨rows, handed, way, often, held, letters, mark, jots, made, over, some (takeOver ⟨frow, ftaken, fname, fnumber, ffile, fpos, fold, fnew, fletter, none⟩ ⟨irow, inames, itaken, ipassed, iletters, isince, inoted, iout, iagain⟩), count + 1⟩, takeOver ⟨frow, ftaken, fname, fnumber, ffile, fpos, fold, fnew, fletter, none⟩ ⟨irow, inames, itaken, ipassed, iletters, isince, inoted, iout, iagain⟩, rfl, rfl, rfl, True.intro, fun a'' => WkC.of (h a'')⟩
    · have hm : ¬ isMark row = true := by
        rw [← word_mark]
        show ¬ PyData.eqv (.str row.word) (.str "mark") = true
        rw [show PyData.eqv (.str row.word) (.str "mark") = false from hb]
        exact Bool.false_ne_true
      rw [if_neg hm] at h
      dsimp only [sNext, sSeq, sIf]
      refine or_pure (b1 := PyData.eqv (.str way) (.str "on")) (b2 := changes row) ?_ ?_ ?_
      · exact fun C' q => ⟨_, rfl, 0, _, _, rfl, rfl, rfl, q⟩
      · exact fun C' q => ⟨_, rfl, rfl, rfl, by
          show C' (inD (.str row.word) (changeW.map PyData.str)) _
          rw [word_change]; exact q⟩
      have ec : (PyData.eqv (.str way) (.str "on") || changes row) = true ↔ way = onW ∨ changes row = true := by
        rw [Bool.or_eq_true_iff]
        constructor
        · rintro (z | z)
          · exact .inl (str_eqv z)
          · exact .inr z
        · rintro (z | z)
          · rw [z]; exact .inl rfl
          · exact .inr z
      refine ite2b (fun hb2 => ?_) (fun hb2 => ?_)
      · rw [if_pos (ec.mp hb2)] at h
        have hj : jots.length < 10000 := ok.jots
        have em : jots.map (effR c) ++ [effR c ⟨frow, ftaken, fname, fnumber, ffile, fpos, fold, fnew, fletter, none⟩] = (jots ++ [(⟨frow, ftaken, fname, fnumber, ffile, fpos, fold, fnew, fletter, none⟩ : Eff)]).map (effR c) := by rw [List.map_append]; rfl
        refine ⟨_, rfl, 0, _, _, rfl, rfl, ⟨3, _, rfl⟩, _, rfl, 3, _, rfl, by rw [List.length_map]; show jots.length < 100000; omega, ?_⟩
        dsimp only [effR] at em
        refine ⟨_, rfl, _, rfl, 4, _, rfl, le_ok rfl, ?_⟩
        refine ⟨_, rfl, 4, _, _, rfl, rfl, by simp, _, rfl, WkC.of ?_⟩
        have h2 := h a
        unfold wC WorkS.rs at h2
        dsimp only at h2
        rw [← em] at h2
        exact h2
      · rw [if_neg (fun z => by rw [ec.mpr z] at hb2; cases hb2)] at h
        refine ⟨_, rfl, _, rfl, 4, _, rfl, le_ok rfl, ?_⟩
        exact ⟨_, rfl, ⟨0, _, rfl⟩, _, rfl, rfl, wa, a, ⟨rows, handed, way, often, held, letters, mark, jots, made, over, some ⟨irow, inames, itaken, ipassed, iletters, isince, some ⟨frow, ftaken, fname, fnumber, ffile, fpos, fold, fnew, fletter, none⟩, iout, iagain⟩, count⟩, ⟨irow, inames, itaken, ipassed, iletters, isince, some ⟨frow, ftaken, fname, fnumber, ffile, fpos, fold, fnew, fletter, none⟩, iout, iagain⟩, ⟨frow, ftaken, fname, fnumber, ffile, fpos, fold, fnew, fletter, none⟩, rfl, rfl, rfl, done_of hE hnames.len hheld ok.letters, fun a' => WkC.of (h a')⟩
end
end K17
set_option Elab.async false
set_option linter.all false
set_option maxRecDepth 100000
set_option maxHeartbeats 4000000
namespace K17
open PySem PySem.Spec PyProof.Rows L2 DL PM
section
variable {P : Program} {w : World} {K : Fg} {mg : Str → Option Value} {base : Heap} {c : Cs}
/-! move -/
structure MoveOk (nN nF : Nat) (st : WorkS) : Prop where
  ok : WorkOk nN nF st
  letters : st.letters.length < 10000
  jots : st.jots.length < 10000
def MoveE (st : WorkS) : Prop := ∃ nN nF, MoveOk nN nF st
abbrev s_Work_move : Stmt := inClass (topS 41) 2
abbrev N_Work_move : List Str := ["self"]
theorem sc_Work_move : FnScope N_Work_move ["self"] (defScope s_Work_move) := ⟨rfl, rfl, rfl, by decide +kernel, rfl, by decide +kernel, by decide +kernel⟩
theorem ok_move {k : Nat} (F : FunM K c.W "move" "Work.move" s_Work_move ["self"]) (TW : Klass K c.W FW) (TI : Klass K c.I FI)
    (M1 : DefM P w K mg base c.W "rise" 3 1 (spM c riseW RiseOk)) (M2 : DefM P w K mg base c.W "go_through" 2 1 (spIn c goW GoOk)) (M3 : DefM P w K mg base c.W "done" 2 2 (spT c doneW DoneOk)) (M4 : DefM P w K mg base c.W "begin" 7 1 (spIn c beginW BeginE)) :
    DefM P w K mg base c.W "move" (k + 8) 1 (spM c moveW MoveE) := by
  refine okM F sc_Work_move rfl fun cdv A outer s H E f hr => ⟨_,
    (ss_cons (s_if (t_notN (d_fld TW 9 (dv 0)) d_non)
      (ss_one (s_ret (d_tup (a_cons d_str a_nil))))
      ss_nil)
      (ss_cons (s_if (t_isN (d_fld TW 10 (dv 0)) d_non)
      (ss_one (s_ret (d_meth0 TW M1 (hr.mono (by omega)) (by decide) (dv 0))))
      ss_nil)
      (ss_cons (s_if (t_gt (d_fld TI 8 (d_fld TW 10 (dv 0))) d_int)
      (ss_one (s_ret (d_meth0 TW M2 (hr.mono (by omega)) (by decide) (dv 0))))
      ss_nil)
      (ss_cons (s_if (t_notN (d_fld TI 6 (d_fld TW 10 (dv 0))) d_non)
      (ss_one (s_ret (d_meth TW M3 (hr.mono (by omega)) (by decide) (dv 0) (a_cons (d_fld TI 6 (d_fld TW 10 (dv 0))) a_nil))))
      ss_nil)
      (ss_one (s_ret (d_meth0 TW M4 (hr.mono (by omega)) (by decide) (dv 0))))))))
    , ?_⟩
  intro rs S C hl h
  obtain ⟨wa, a, ⟨rows, handed, way, often, held, letters, mark, jots, made, over, inner, count⟩, rfl, rfl, ⟨nN, nF, ok, hle, hjo⟩, h⟩ := h
  have hheld : held.length = nF ∧ ∀ f ∈ held, f.length ≤ 40 ∧ NN f := ok.held
  have fin : over ≠ .none → ∀ a', C (.dat (told1 "rests")) (wC c wa a' ⟨rows, handed, way, often, held, letters, mark, jots, made, over, inner, count⟩) := fun hne a' => by
    have e : moveW ⟨rows, handed, way, often, held, letters, mark, jots, made, over, inner, count⟩ = (told1 "rests", ⟨rows, handed, way, often, held, letters, mark, jots, made, over, inner, count⟩) := by
      have ho : isOver ⟨rows, handed, way, often, held, letters, mark, jots, made, over, inner, count⟩ = true := by
        cases over <;> first | rfl | exact absurd rfl hne
      exact if_pos ho
    have h2 := h a'
    rw [e] at h2
    exact h2
  cases over with
  | none =>
    refine ⟨_, rfl, 0, _, _, rfl, rfl, ?_⟩
    cases inner with
    | none =>
      refine ⟨_, rfl, 0, _, _, rfl, rfl, ?_⟩
      refine ⟨_, rfl, ⟨0, _, rfl⟩, rfl, wa, a, ⟨rows, handed, way, often, held, letters, mark, jots, made, .none, none, count⟩, rfl, rfl, ⟨rfl, ok.back, fun e he f hf => by rw [hheld.1]; exact (ok.jots e he).file f hf, fun e he => ⟨(ok.jots e he).pos, by have := (ok.jots e he).old.1; have := (ok.jots e he).pos; omega⟩, fun f hf => by have := (hheld.2 f hf).1; omega⟩, fun a' => WkC.of (h a')⟩
    | some i =>
      have hi := ok.inner i rfl
      obtain ⟨irow, inames, itaken, ipassed, iletters, isince, inoted, iout, iagain⟩ := i
      refine ⟨_, rfl, 0, _, _, rfl, rfl, ?_⟩
      refine ⟨_, rfl, 0, _, _, rfl, rfl, 4, _, _, rfl, rfl, ite2d (fun hb => ?_) (fun hb => ?_)⟩
      · have e : moveW ⟨rows, handed, way, often, held, letters, mark, jots, made, .none, some ⟨irow, inames, itaken, ipassed, iletters, isince, inoted, iout, iagain⟩, count⟩ = goW ⟨rows, handed, way, often, held, letters, mark, jots, made, .none, some ⟨irow, inames, itaken, ipassed, iletters, isince, inoted, iout, iagain⟩, count⟩ ⟨irow, inames, itaken, ipassed, iletters, isince, inoted, iout, iagain⟩ := if_pos hb
        rw [e] at h
        exact ⟨_, rfl, ⟨0, _, rfl⟩, rfl, wa, a, _, _, rfl, rfl, rfl, ⟨⟨hb, hi.again.2⟩, fun e he => fits_of (ok.jots e he) hi.names.len⟩, fun a' => WkC.of (h a')⟩
      · cases inoted with
        | some e =>
          have e2 : moveW ⟨rows, handed, way, often, held, letters, mark, jots, made, .none, some ⟨irow, inames, itaken, ipassed, iletters, isince, some e, iout, iagain⟩, count⟩ = doneW ⟨rows, handed, way, often, held, letters, mark, jots, made, .none, some ⟨irow, inames, itaken, ipassed, iletters, isince, some e, iout, iagain⟩, count⟩ ⟨irow, inames, itaken, ipassed, iletters, isince, some e, iout, iagain⟩ e := if_neg hb
          rw [e2] at h
          refine ⟨_, rfl, 0, _, _, rfl, rfl, 4, _, _, rfl, rfl, ?_⟩
          exact ⟨_, rfl, ⟨0, _, rfl⟩, _, rfl, 0, _, _, rfl, rfl, 4, _, _, rfl, rfl, rfl, wa, a, _, _, e, rfl, rfl, rfl, done_of (hi.noted e rfl) hi.names.len hheld hle, fun a' => WkC.of (h a')⟩
        | none =>
          have e2 : moveW ⟨rows, handed, way, often, held, letters, mark, jots, made, .none, some ⟨irow, inames, itaken, ipassed, iletters, isince, none, iout, iagain⟩, count⟩ = beginW ⟨rows, handed, way, often, held, letters, mark, jots, made, .none, some ⟨irow, inames, itaken, ipassed, iletters, isince, none, iout, iagain⟩, count⟩ ⟨irow, inames, itaken, ipassed, iletters, isince, none, iout, iagain⟩ := if_neg hb
          rw [e2] at h
          refine ⟨_, rfl, 0, _, _, rfl, rfl, 4, _, _, rfl, rfl, ?_⟩
          exact ⟨_, rfl, ⟨0, _, rfl⟩, rfl, wa, a, _, _, rfl, rfl, rfl, ⟨nN, nF, ok.rows, ok.handed, hheld, hi.row, hi.names, hi.taken, hle, hjo⟩, fun a' => WkC.of (h a')⟩
  | _ => exact ⟨_, rfl, 0, _, _, rfl, rfl, by simp, _, rfl, WkC.of (fin (fun z => nomatch z) a)⟩
end
end K17
set_option Elab.async false
set_option linter.all false
set_option maxRecDepth 100000
set_option maxHeartbeats 4000000
namespace K17
open PySem PySem.Spec PyProof.Rows L2 DL PM
section
variable {P : Program} {w : World} {K : Fg} {mg : Str → Option Value} {base : Heap} {c : Cs}
/-! Work.__init__ -/
def spWorkInit (c : Cs) : SpD := fun rs S C => ∃ (x : Addr) (p : Prog) (hs : List Int) (way : Str) (often : Int) (S0 : SH), rs = [.val (.ref x), .dat p.dat, .dat (lstI hs), .dat (.str way), .dat (.int often)] ∧ S = .ins x c.W FW [] :: S0 ∧ p.ok ∧ HandedOk hs ∧ (way = backW ∨ way = onW) ∧ 0 ≤ often ∧ often ≤ 99 ∧
  ∀ a, C (.dat .none) (wC c x a (newW p hs way often) ++ S0)
theorem rep_flat (n : Nat) : (List.replicate n [PyData.int 0]).flatten = (List.replicate n (0 : Int)).map PyData.int := by
  induction n with
  | zero => rfl
  | succ n ih => rw [List.replicate_succ, List.replicate_succ, List.flatten_cons, ih]; rfl
theorem rng_const (lo : Int) (n : Nat) : (rng lo n).map (fun _ => R.dat (.list [])) = fileR (List.replicate n []) := by
  unfold rng fileR
  rw [List.map_map]
  apply List.ext_getElem
  · simp
  · intro i h1 h2
    simp [lstI]
abbrev s_Work___init__ : Stmt := inClass (topS 41) 0
abbrev N_Work___init__ : List Str := ["self", "program", "handed", "way", "often", "file"]
theorem sc_Work___init__ : FnScope N_Work___init__ ["self", "program", "handed", "way", "often"] (defScope s_Work___init__) := ⟨rfl, rfl, rfl, by decide +kernel, rfl, by decide +kernel, by decide +kernel⟩
theorem ok_work_init {k : Nat} {t1 t2 t3 : Tok} (F : FunI K mg "Work" c.W "Work.__init__" s_Work___init__ ["self", "program", "handed", "way", "often"]) (B : Blt mg) (TW : Klass K c.W FW) (D1 : Def P w K mg base "need_program" 7 1 spNeedProgram) (D2 : Def P w K mg base "need_handed" 2 1 spNeedHanded) (D3 : Def P w K mg base "is_number" 1 3 spIsNumber)
    (I1 : DefI P w K mg base "Mark" c.M 1 6 (spMarkInit c)) (I2 : DefI P w K mg base "Inner" c.I 1 3 (spInnerInit c)) (c1 : mg "BACK" = some (.str "back" t1)) (c2 : mg "ON" = some (.str "on" t2)) (c3 : mg "MOST_OFTEN" = some (.int 99 t3)) :
    DefI P w K mg base "Work" c.W (k + 8) 5 (spWorkInit c) := by
  refine okI F sc_Work___init__ rfl fun cdv A outer s H E f hr => ⟨_,
    (ss_cons (s_expr (d_callF D1 (hr.mono (by omega)) (by rfl) (a_cons (dv 1) a_nil)))
      (ss_cons (s_expr (d_callF D2 (hr.mono (by omega)) (by rfl) (a_cons (dv 2) a_nil)))
      (ss_cons (s_if (PDW.pt (w_or (t_not (t_val (d_isi kit_str (by rfl) B.isinstance (a_cons (dv 3) (a_cons (d_bltn (v := .ty "str") (by rfl) B.str (by decide +kernel) rfl) a_nil))))) (w_or1 (t_notIn (dv 3) (d_tup (a_cons (d_globS (by rfl) c1) (a_cons (d_globS (by rfl) c2) a_nil)))))))
      (ss_one s_never)
      ss_nil)
      (ss_cons (s_if (t_not (t_val (d_callF D3 (hr.mono (by omega)) (by rfl) (a_cons (dv 4) (a_cons d_int (a_cons (d_globI (by rfl) c3) a_nil))))))
      (ss_one s_never)
      ss_nil)
      (ss_cons (s_fld TW 0 (dv 0) (d_ix (hu_of hr) (dv 1) d_int))
      (ss_cons (s_fld TW 1 (dv 0) (d_list (by rfl) B.list (a_cons (dv 2) a_nil)))
      (ss_cons (s_fld TW 2 (dv 0) (dv 3))
      (ss_cons (s_fld TW 3 (dv 0) (dv 4))
      (ss_cons (s_fld TW 4 (dv 0) (d_lcC sc_Work___init__.nd (i := 5) (i_r1 (by rfl) B.range (a_cons (d_ix (hu_of hr) (dv 1) d_int) a_nil)) (blkOk_by (N := N_Work___init__) (sc := defScope s_Work___init__) (own := [("file", 5)]) (by decide +kernel)) (fun _ _ _ _ _ => pg_name (i := 5) sc_Work___init__.nd rfl (Or.inl rfl)) (fun _ _ _ _ _ => ts_nil) (fun _ _ _ _ _ => (d_lst a_nil))))
      (ss_cons (s_fld TW 5 (dv 0) (d_lstC a_nil))
      (ss_cons (s_fld TW 6 (dv 0) (d_makeF FM I1 (hr.mono (by omega)) (by rfl) (a_cons d_int (a_cons (d_mulT (d_tup (a_cons d_int a_nil)) (d_ix (hu_of hr) (dv 1) d_int)) (a_cons d_int (a_cons d_int (a_cons d_int a_nil)))))))
      (ss_cons (s_fld TW 7 (dv 0) (d_lstC a_nil))
      (ss_cons (s_fld TW 8 (dv 0) d_int)
      (ss_cons (s_fld TW 9 (dv 0) d_non)
      (ss_cons (s_fld TW 10 (dv 0) (d_make FI I2 (hr.mono (by omega)) (by rfl) (a_cons (d_fld TW 6 (dv 0)) (a_cons d_int a_nil))))
      (ss_one (s_fld TW 11 (dv 0) d_int)))))))))))))))))
    , ?_⟩
  intro rs S C hl h
  obtain ⟨x, p, hs, way, often, S0, rfl, rfl, hp, hh, hw, ho0, ho1, h⟩ := h
  have hn := hp.n
  have hf := hp.f
  refine ⟨_, rfl, rfl, p, rfl, hp, ?_⟩
  refine ⟨_, rfl, rfl, _, hs, rfl, rfl, hh, ?_⟩
  have hin : inD (.str way) [.str "back", .str "on"] = true := by rcases hw with e | e <;> (rw [e]; rfl)
  refine ⟨_, rfl, rfl, _, rfl, iteFb rfl ⟨_, rfl, by simp, _, rfl, rfl, rfl, iteFb (by show (!inD (.str way) [.str "back", .str "on"]) = false; rw [hin]; rfl) ?_⟩⟩
  refine ⟨_, rfl, rfl, _, _, _, rfl, (fun z => nomatch z), iteFb (by simp [isNum]; omega) ?_⟩
  refine ⟨_, rfl, _, rfl, _, rfl, 0, _, rfl, le_ok rfl, ?_⟩
  refine ⟨_, rfl, _, rfl, 0, _, rfl, le_ok rfl, ?_⟩
  refine ⟨_, rfl, _, rfl, 0, _, rfl, le_ok rfl, ?_⟩
  refine ⟨_, rfl, _, rfl, 0, _, rfl, le_ok rfl, ?_⟩
  refine ⟨_, rfl, _, rfl, ⟨by omega, by omega⟩, lc_map (fun _ => .dat (.list [])) ?_ (by rw [rng_len]; omega) ?_⟩
  · exact fun r hr C' q => ⟨Nat.zero_le _, _, rfl, q⟩
  rw [rng_const]
  intro ah
  refine ⟨_, rfl, 1, _, rfl, le_ok rfl, ?_⟩
  refine ⟨Nat.zero_le _, fun al => ⟨_, rfl, 2, _, rfl, le_ok rfl, ?_⟩⟩
  refine ⟨by simp, _, rfl, _, rfl, _, rfl, by simp, by omega, by omega, by simp, ?_⟩
  dsimp only
  rw [rep_flat]
  refine ⟨rfl, fun xm => ⟨xm, _, _, _, _, _, _, rfl, rfl, rfl, _, _, rfl, rfl, ?_⟩⟩
  refine ⟨_, rfl, 2, _, rfl, le_ok rfl, ?_⟩
  refine ⟨Nat.zero_le _, fun aj => ⟨_, rfl, 3, _, rfl, le_ok rfl, ?_⟩⟩
  refine ⟨_, rfl, 3, _, rfl, le_ok rfl, ?_⟩
  refine ⟨_, rfl, 3, _, rfl, le_ok rfl, ?_⟩
  refine ⟨_, rfl, 3, _, _, rfl, rfl, rfl, fun xi => ⟨xi, ⟨0, List.replicate p.names.toNat 0, 0, 0, 0⟩, 0, _, rfl, rfl, fun xn => ⟨rfl, ?_⟩⟩⟩
  refine ⟨_, rfl, 5, _, rfl, le_ok rfl, ?_⟩
  refine ⟨_, rfl, 5, _, rfl, le_ok rfl, ?_⟩
  have h2 := h ⟨ah, al, aj, xi, xn⟩
  exact ⟨_, _, wkn_sub ((List.reverse_perm [_, _, _, _, _, _]).symm.append_right S0) (List.Sublist.refl _), h2⟩
end
end K17
set_option Elab.async false
set_option linter.all false
set_option maxRecDepth 100000
set_option maxHeartbeats 4000000
/-! DL: the end: the law's own def, what the head tells. -/
namespace DL
open PySem PySem.Spec PyProof.Rows L2
/-- the law's def and its promise, its text known -/
structure DefL (P : Program) (w : World) (K : Fg) (mg : Str → Option Value) (base : Heap) (x : Str) (st : Stmt) (ps : List Str) (k n : Nat) (sp : SpD) : Prop where
  ex : ∃ f fd, Fun K x x st f fd ∧ mg x = some (.ref f) ∧ FnOk P w K mg base CX0 k f fd ps (toSp K n sp)
section
variable {P : Program} {w : World} {K : Fg} {mg : Str → Option Value} {base : Heap}
theorem okL {x : Str} {st : Stmt} {N ps : List Str} {k n : Nat} {sp : SpD} (Fn : FunAt K mg x st ps) (Sc : FnScope N ps (defScope st)) (hn : ps.length = n)
    (hbody : ∀ (cdv : Value) (A : Around) (outer : List Env) (s : Shared) (H : Hp) (E : XK) (f : Addr), Room k (A.deeper (envOfC x (defScope st) s.heap.objs.size f cdv)) →
      ∃ ds, PDSs (cxOf CX0 P w K mg base N x (defScope st) f cdv A outer s H E).nox (defBody st) ds ∧ ∀ rs S C, rs.length = n → sp rs S C → ds { nx := fun _ S => C (.dat .none) S, rt := C } (startF N rs) S) : DefL P w K mg base x st ps (k + 1) n sp := by
  obtain ⟨f, fd, Fu, hm, hb⟩ := Fn.ex
  exact ⟨f, fd, Fu, hm, okD Fu Sc hn fun cdv A outer s H E hr => hbody cdv A outer s H E f hr⟩
theorem funAt_mk {x : Str} {st : Stmt} {ps : List Str} {f : Addr} {fd : FuncData} (F : FunD K x x (defArgs st) (defBody st) (defScope st) [] [] f fd) (hm : mg x = some (.ref f))
    (h : ∀ (kV doc pm : Value) (an : Option Addr) (cdv ct : Value) (us : List Value), us.length = ps.length → bindArgs (PySem.W.fnOf x x (defArgs st) (defBody st) (defScope st) .none kV doc pm an cdv ct) ⟨us, []⟩ = pure (ps.zip us)) : FunAt K mg x st ps := by
  have hb := F.bindsN h
  obtain ⟨oc, od, dV, kV, doc, pm, an, cdv, ct, osl, e, lk, hcd, hD, hK⟩ := F.ex
  rcases hD with ⟨_, rfl⟩ | ⟨z, _⟩
  · exact ⟨f, fd, ⟨⟨oc, od, kV, doc, pm, an, cdv, ct, osl, e, lk, hcd⟩, F.kp⟩, hm, hb⟩
  · exact absurd rfl z
/-- the promise that a law's end asks -/
theorem law_sp {sp : SpD} {H : Hp} {a : Addr} {ns : List Int} {m : Nat} (hl : ns.length ≤ m) (hO : Only H) (hS : SqL K H a (ns.map V.int)) (h : ∀ C : CR0, (∀ S', C (.dat (.bool true)) S') → sp [.scr ns] [] C) : toSp K 1 sp [.ref a] H (fun v _ => v = .bl true) fun _ _ _ => False := by
  refine ⟨rfl, [], [], [(.ref a, .scr ns)], [.scr ns], fun r _ => r = .dat (.bool true), ⟨List.nodup_nil, (fun c hc => nomatch hc), fun e he => ?_⟩, .cons List.mem_cons_self .nil, h _ fun _ => rfl, ?_⟩
  · cases List.mem_singleton.mp he
    exact ⟨a, rfl, ScrAt.of hO hS⟩
  · rintro v r S' H' o rfl
    exact rep_bool_inv (o.dat List.mem_cons_self)
end
end DL
set_option Elab.async false
set_option linter.all false
set_option maxRecDepth 100000
set_option maxHeartbeats 4000000
/-! DL: what the head tells of classes, methods, written tables. -/
namespace DL
open PySem PySem.Spec PyProof.Rows L2
section
variable {K : Fg} {mg : Str → Option Value} {w : World}
theorem funM_mk {x m qual : Str} {st : Stmt} {ps : List Str} {fd : FuncData} (F : FunD K m qual (defArgs st) (defBody st) (defScope st) [] [] (He.fAd K (x, some m)) fd) (M : Meth K (He.ga K x) m (He.ma K (He.ga K x) m))
    (h : ∀ (kV doc pm : Value) (an : Option Addr) (cdv ct : Value) (us : List Value), us.length = ps.length → bindArgs (PySem.W.fnOf m qual (defArgs st) (defBody st) (defScope st) .none kV doc pm an cdv ct) ⟨us, []⟩ = pure (ps.zip us)) : FunM K (He.ga K x) m qual st ps := by
  have hb := F.bindsN h
  obtain ⟨oc, od, dV, kV, doc, pm, an, cdv, ct, osl, e, lk, hcd, hD, hK⟩ := F.ex
  rcases hD with ⟨_, rfl⟩ | ⟨z, _⟩
  · exact ⟨_, fd, ⟨⟨oc, od, kV, doc, pm, an, cdv, ct, osl, e, lk, hcd⟩, F.kp⟩, M, hb⟩
  · exact absurd rfl z
theorem funI_mk {x qual : Str} {st : Stmt} {ps : List Str} {fd : FuncData} (F : FunD K "__init__" qual (defArgs st) (defBody st) (defScope st) [] [] (He.fAd K (x, some "__init__")) fd) (M : Mk K (He.ga K x) (He.ma K (He.ga K x) "__init__")) (hm : mg x = some (.ref (He.ga K x)))
    (h : ∀ (kV doc pm : Value) (an : Option Addr) (cdv ct : Value) (us : List Value), us.length = ps.length → bindArgs (PySem.W.fnOf "__init__" qual (defArgs st) (defBody st) (defScope st) .none kV doc pm an cdv ct) ⟨us, []⟩ = pure (ps.zip us)) : FunI K mg x (He.ga K x) qual st ps := by
  have hb := F.bindsN h
  obtain ⟨oc, od, dV, kV, doc, pm, an, cdv, ct, osl, e, lk, hcd, hD, hK⟩ := F.ex
  rcases hD with ⟨_, rfl⟩ | ⟨z, _⟩
  · exact ⟨_, fd, ⟨⟨oc, od, kV, doc, pm, an, cdv, ct, osl, e, lk, hcd⟩, F.kp⟩, M, hb, hm⟩
  · exact absurd rfl z
theorem kTup_mk {x : Str} {vs : List He.Dv} (h : He.tupB K x vs = true) : KTup K (He.ga K x) (vs.map (He.Dv.v K)) := by
  have z := He.tupB_ok h (fun _ => none)
  rcases z with (z | ⟨o, z⟩) | z
  · cases (show (none : Option HO) = some (.tup (vs.map (He.Dv.v K))) from z)
  · cases (show (none : Option HO) = some (.frz o (.tup (vs.map (He.Dv.v K)))) from z)
  · exact z
theorem noneK {n : Nat} {e : DictEntry} {x z : Str} {t : Tok} (hx : x ≠ z) (ek : e.key = .str x t) : ¬ (e.key.isStr z = true) ∧ e.refKey = false := by
  unfold DictEntry.refKey
  rw [ek]
  exact ⟨fun q => hx (eq_of_beq (show (x == z) = true from q)), rfl⟩
/-- the keys of a written dict -/
theorem keys_mem {P : Params} : ∀ {l : List DictEntry} {ks : List Str}, l.map He.keyOf = He.keysIn P ks → ∀ e ∈ l, ∃ x ∈ ks, ∃ t, e.key = .str x t
  | [], _, _, e, he => by cases he
  | e :: r, [], h, _, _ => by cases h
  | e :: r, k :: ks, h, e', he => by
    have h1 : He.keyOf e :: r.map He.keyOf = some (k, PyData.keyHash P k) :: He.keysIn P ks := h
    injection h1 with h2 h3
    rcases List.mem_cons.mp he with rfl | he
    · unfold He.keyOf at h2
      split at h2
      · rename_i x t q
        obtain ⟨h5, h6⟩ := Prod.mk.inj (Option.some.inj h2)
        subst h5
        exact ⟨_, List.mem_cons_self, t, q⟩
      · cases h2
    · obtain ⟨x, hx, t, q⟩ := keys_mem h3 e' he
      exact ⟨x, List.mem_cons_of_mem _ hx, t, q⟩
theorem dicW_none {P : Params} {a : Addr} {ks : List Str} {z : Str} (h : He.dicW K a = some (He.keysIn P ks)) (hz : ∀ x ∈ ks, x ≠ z) : PySem.W.nsIn K a z = some none := by
  unfold He.dicW at h
  unfold PySem.W.nsIn
  cases q : K.lookup a with
  | none => rw [q] at h; cases h
  | some o =>
    obtain ⟨oc, od, dt, osl⟩ := o
    rw [q] at h
    cases oc with
    | type c =>
      cases od with
      | none =>
        cases dt with
        | dict es n =>
          have h1 : (match decide (c = "dict") && (osl.isEmpty && !(a == sysModules)) with
            | true => some (es.toList.map He.keyOf)
            | false => none) = some (He.keysIn P ks) := h
          cases zz : decide (c = "dict") && (osl.isEmpty && !(a == sysModules)) with
          | false => rw [zz] at h1; cases h1
          | true =>
            rw [zz] at h1
            have km := keys_mem (Option.some.inj h1)
            have f1 : es.toList.find? (·.key.isStr z) = none := by
              rw [List.find?_eq_none]
              intro e he
              obtain ⟨x, hx, t, ek⟩ := km e he
              exact (noneK (n := 0) (hz x hx) ek).1
            have f2 : es.toList.any (·.refKey) = false := by
              rw [List.any_eq_false]
              intro e he
              obtain ⟨x, hx, t, ek⟩ := km e he
              rw [(noneK (n := 0) (hz x hx) ek).2]
              exact Bool.false_ne_true
            show (match es.toList.find? (·.key.isStr z) with
              | some e => some (some e.val)
              | none => if es.toList.any (·.refKey) then none else some none) = some none
            rw [f1, f2]; rfl
        | _ => cases h
      | some b => cases dt <;> cases h
    | _ => cases od <;> cases dt <;> cases h
end
section
variable {K : Fg} {mg : Str → Option Value} {w : World}
theorem lookup_some {kvs : List (Str × Str)} {z s : Str} (hl : kvs.lookup z = some s) : (z, s) ∈ kvs := by
  induction kvs with
  | nil => cases hl
  | cons q r ih =>
    obtain ⟨k, v⟩ := q
    rw [List.lookup_cons] at hl
    cases e : (z == k) with
    | true =>
      rw [e] at hl
      cases hl
      rw [eq_of_beq e]; exact List.mem_cons_self
    | false =>
      rw [e] at hl
      exact List.mem_cons_of_mem _ (ih hl)
theorem lookup_none {kvs : List (Str × Str)} {z : Str} (hl : kvs.lookup z = none) : ∀ x ∈ kvs.map (·.1), x ≠ z := by
  induction kvs with
  | nil => exact fun x hx => by cases hx
  | cons q r ih =>
    obtain ⟨k, v⟩ := q
    rw [List.lookup_cons] at hl
    cases e : (z == k) with
    | true => rw [e] at hl; cases hl
    | false =>
      rw [e] at hl
      intro x hx
      rcases List.mem_cons.mp hx with hx | hx
      · subst hx
        intro q
        rw [← q, beq_self_eq_true] at e
        cases e
      · exact ih hl x hx
theorem kTab_mk {a : Addr} {kvs : List (Str × Str)} (h : He.dicW K a = some (He.keysIn w.params (kvs.map (·.1)))) (hv : He.valsB K a (kvs.map fun q => (q.1, He.Dv.str q.2)) = true) : KTab K w a kvs := by
  refine ⟨He.dicW_ok h, fun z => ?_⟩
  cases hl : kvs.lookup z with
  | some s =>
    obtain ⟨u, e1, e2⟩ := He.valsB_ok hv (q := (z, He.Dv.str s)) (List.mem_map.mpr ⟨_, lookup_some hl, rfl⟩)
    exact ⟨some u, e1, u, rfl, e2⟩
  | none => exact ⟨none, dicW_none h (lookup_none hl), rfl⟩
theorem saysT_tab {fa : List He.Fa} {fn : List He.DefD} {ts : List He.Tab} (c : He.SaysT fa fn ts w K) (i : Nat) {t : He.Tab} (h : ts[i]? = some t) : He.dicW K (t.1 K) = some (He.keysIn w.params t.2) := by
  have e : ts.map (fun t => He.dicW K (t.1 K)) = ts.map fun t => some (He.keysIn w.params t.2) := congrArg (fun z : He.AlT => z.2) c
  have e2 : (ts.map fun t => He.dicW K (t.1 K))[i]? = (ts.map fun t => some (He.keysIn w.params t.2))[i]? := by rw [e]
  rw [List.getElem?_map, List.getElem?_map, h] at e2
  exact Option.some.inj e2
theorem klass_mk {x : Str} {ks : List Str} (h1 : (He.Fa.cls x).ok K = true) (h2 : ∀ f ∈ ks, (He.Fa.noat x f).ok K = true) (nd : ks.Nodup) (few : ks.length < 1000) : Klass K (He.ga K x) ks :=
  ⟨He.cls_ok h1, fun f hf => He.noat_ok (h2 f hf), nd, few⟩
end
end DL
set_option Elab.async false
set_option linter.all false
set_option maxRecDepth 100000
set_option maxHeartbeats 4000000
namespace K17
open PySem PySem.Spec PyProof.Rows L2 DL PM
def spLaw : SpD := fun rs S C => ∃ ns : List Int, rs = [.scr ns] ∧ ns.length ≤ 63 ∧ ∀ S2, C (.dat (.bool true)) S2
/-- all that a law leans on -/
structure Walk (P : Program) (w : World) (K : Fg) (mg : Str → Option Value) (base : Heap) (c : Cs) : Prop where
  B : Blt mg
  TW : Klass K c.W FW
  dice : Def P w K mg base "_law_dice" 1 1 spDice
  next : Def P w K mg base "_law_next" 1 2 spNext
  init : DefI P w K mg base "Work" c.W 8 5 (spWorkInit c)
  move : DefM P w K mg base c.W "move" 8 1 (framed (spM c moveW MoveE))
  fall : DefM P w K mg base c.W "fall" 1 1 (framed (spM c (fun st => (.none, fallW st)) fun _ => True))
  files : DefM P w K mg base c.W "files" 1 1 (framed (spM c (fun st => (filesD st.held, st)) fun st => st.held.length ≤ 1000))
  sent : DefM P w K mg base c.W "sent" 1 1 (framed (spM c (fun st => (lstI st.letters, st)) fun _ => True))
  end_ : DefM P w K mg base c.W "end" 1 1 (framed (spM c (fun st => (st.over, st)) fun _ => True))
  stands : DefM P w K mg base c.W "stands" 1 1 (framed (spM c (fun st => (standsD st, st)) fun _ => True))
  kept : DefM P w K mg base c.W "kept" 1 1 (framed (spM c (fun st => (.tuple [.int st.mark.row, .int (st.jots.length : Int)], st)) fun _ => True))
  steps : DefM P w K mg base c.W "steps" 1 1 (framed (spM c (fun st => (.int st.count, st)) fun _ => True))
theorem mid_get {D : Addr} (T S : SH) : (T ++ dice D :: S)[T.length]? = some (dice D) := by simp
theorem meth_read {fr : Fr} {c : Cs} {x : Addr} {a : As} {st : WorkS} {T : SH} {f : WorkS → PyData × WorkS} {ok : WorkS → Prop} {i : Nat} {Q : CR0} (hi : fr[i]? = some (some (.val (.ref x)))) (hk : ok st) (q : ∀ a', Q (.dat (f st).1) (wC c x a' (f st).2 ++ T)) : dMeth c.W FW 1 (framed (spM c f ok)) (dVar i) dNil fr (wC c x a st ++ T) Q :=
  ⟨_, hi, ⟨0, _, rfl⟩, rfl, wC c x a st, T, List.Perm.refl _, x, a, st, rfl, rfl, hk, q⟩
/-- what stands behind a statement is told once -/
theorem seq_cut {t u : DS} {D : DEnds} {fr : Fr} {S : SH} (X : (Fr → SH → Prop) → Prop) (h1 : X (u D)) (h2 : ∀ N, X N → t { D with nx := N } fr S) : sSeq t u D fr S := h2 (u D) h1
end K17
set_option Elab.async false
set_option linter.all false
set_option maxRecDepth 100000
set_option maxHeartbeats 4000000
/-! DL: x in d, d a dict that is a cell. -/
namespace DL
open PySem PySem.Spec PyProof.Rows L2
def rInDic : R2 := fun y x H Q => ∃ a o, x = .ref a ∧ DGet H a y o ∧ Q (.bl o.isSome) H
theorem op_inDic {X : Cx} (hu : X.A.units + 1 < cLine) : OpR X (compareOp .In) rInDic := by
  intro pins s σ H x y v u Q I rx ry h
  obtain ⟨a, o, rfl, g, q⟩ := h
  obtain rfl : u = Value.ref a := ry
  exact L2.d_in hu I g rx fun s3 I3 => ⟨.bl o.isSome, H, I3, rfl, q⟩
def fInDic : F2 := fun a b S C => match a, b with
  | .dat (.int i), .val (.ref p) => ∃ (j : Nat) (kvs : List (Key × R)), S[j]? = some (.dct p kvs) ∧ C (.dat (.bool (kvs.any fun kv => decide (kv.1 = Sum.inl i)))) S
  | _, _ => False
theorem valV_any : ∀ {kws : List (Key × V)} {k : Key}, (valV kws k).isSome = kws.any fun kv => decide (kv.1 = k)
  | [], _ => rfl
  | a :: as, k => by
    rw [List.any_cons]
    by_cases h : a.1 = k
    · rw [valV_pos h, decide_eq_true h]; rfl
    · rw [valV_neg h, decide_eq_false h, valV_any]; rfl
theorem opd_inDic {K : Fg} : OpD K rInDic fInDic := by
  intro F x y a b H S L C Q o hx hy hf q
  have ha := o.live _ hx
  have hb := o.live _ hy
  unfold fInDic at hf
  split at hf
  · rename_i i p
    cases rep_int_inv ha
    cases (show y = V.ref p from hb)
    obtain ⟨j, kvs, hj, h⟩ := hf
    obtain ⟨kws, e1, q1⟩ := o.cells _ (at_split (in_app hj))
    refine ⟨p, _, rfl, DGet.k (k := Sum.inl i) e1, ?_⟩
    have e : (valV kws (Sum.inl i)).isSome = kvs.any fun kv => decide (kv.1 = Sum.inl i) := by rw [valV_any]; exact any_kv (P := RepR K (Av (S ++ F)) H) (Sum.inl i) q1
    rw [e]
    exact q _ _ S H (o.pd (.bl _)) h
  · exact hf.elim
section
variable {X : Cx} {a b : Expr} {da db : DE} {pos : Pos}
theorem d_inDic (hu : X.A.units + 1 < cLine) (ha : PD X a da) (hb : PD X b db) (hm : behindInMarks .In b = false := by rfl) : PD X (.Compare a [.In] [b] pos) (dOp fInDic da db) := d_cmpG (op_inDic hu) opd_inDic ha hb hm
theorem t_inDic (hu : X.A.units + 1 < cLine) (ha : PD X a da) (hb : PD X b db) (hm : behindInMarks .In b = false := by rfl) : PDT X (.Compare a [.In] [b] pos) (dTest (dOp fInDic da db)) := t_cmpG (op_inDic hu) opd_inDic ha hb hm
end
end DL
set_option Elab.async false
set_option linter.all false
set_option maxRecDepth 100000
set_option maxHeartbeats 4000000
/-! DL: x in t, x not in t: data of any depth within a tuple. -/
namespace DL
open PySem PySem.Spec PyProof.Rows L2
def rInT (K : Fg) (neg : Bool) : R2 := fun x y H Q => ∃ d ds, Dp K H x d ∧ Dp K H y (.tuple ds) ∧ d.canLay0 = true ∧ d.depth ≤ 60 ∧ PyData.canLayAll0 ds = true ∧ Q (.bl (if neg then !inD d ds else inD d ds)) H
section
variable {X : Cx} {K : Fg}
theorem op_inT (hu : X.A.units + 64 < cLine) : OpR X (compareOp .In) (rInT X.K false) := by
  intro pins s σ H x y v u Q I rx ry h
  obtain ⟨d, ds, hd, he, sd, dd, se, q⟩ := h
  obtain ⟨as, r1⟩ := Dp.reads I d x v hd rx
  obtain ⟨bs, r2⟩ := Dp.reads I (.tuple ds) y u he ry
  exact SeqAt.in_tuple_reads r2 r1 se sd (by omega) ⟨.bl _, H, I, rfl, q⟩
theorem op_notInT (hu : X.A.units + 64 < cLine) : OpR X (compareOp .NotIn) (rInT X.K true) := by
  intro pins s σ H x y v u Q I rx ry h
  obtain ⟨d, ds, hd, he, sd, dd, se, q⟩ := h
  obtain ⟨as, r1⟩ := Dp.reads I d x v hd rx
  obtain ⟨bs, r2⟩ := Dp.reads I (.tuple ds) y u he ry
  exact SeqAt.notIn_tuple_reads r2 r1 se sd (by omega) ⟨.bl _, H, I, rfl, q⟩
def fInT (neg : Bool) : F2 := fun a b S C => match a, b with
  | .dat d, .dat (.tuple ds) => d.canLay0 = true ∧ d.depth ≤ 60 ∧ PyData.canLayAll0 ds = true ∧ C (.dat (.bool (if neg then !inD d ds else inD d ds))) S
  | _, _ => False
theorem opd_inT {neg : Bool} : OpD K (rInT K neg) (fInT neg) := OpD.flat fun A x y a b H S C Q hx hy hf q => by
  unfold fInT at hf
  split at hf
  · obtain ⟨h1, h2, h3, h⟩ := hf
    exact ⟨_, _, hx.dp, hy.dp, h1, h2, h3, q _ (.dat _) (Rep.bl _) h⟩
  · exact hf.elim
end
section
variable {X : Cx} {a b : Expr} {da db : DE} {pos : Pos}
theorem d_inT (hu : X.A.units + 64 < cLine) (ha : PD X a da) (hb : PD X b db) (hm : behindInMarks .In b = false := by rfl) : PD X (.Compare a [.In] [b] pos) (dOp (fInT false) da db) := d_cmpG (op_inT hu) opd_inT ha hb hm
theorem d_notInT (hu : X.A.units + 64 < cLine) (ha : PD X a da) (hb : PD X b db) (hm : behindInMarks .NotIn b = false := by rfl) : PD X (.Compare a [.NotIn] [b] pos) (dOp (fInT true) da db) := d_cmpG (op_notInT hu) opd_inT ha hb hm
theorem t_inT (hu : X.A.units + 64 < cLine) (ha : PD X a da) (hb : PD X b db) (hm : behindInMarks .In b = false := by rfl) : PDT X (.Compare a [.In] [b] pos) (dTest (dOp (fInT false) da db)) := t_cmpG (op_inT hu) opd_inT ha hb hm
theorem t_notInT (hu : X.A.units + 64 < cLine) (ha : PD X a da) (hb : PD X b db) (hm : behindInMarks .NotIn b = false := by rfl) : PDT X (.Compare a [.NotIn] [b] pos) (dTest (dOp (fInT true) da db)) := t_cmpG (op_notInT hu) opd_inT ha hb hm
end
end DL
set_option Elab.async false
set_option linter.all false
set_option maxRecDepth 100000
set_option maxHeartbeats 4000000
/-! DL: xs.count(x) of data; a slice of a list that is a cell. -/
namespace DL
open PySem PySem.Spec PyProof.Rows L2
def rCntD (K : Fg) : V → List V → Hp → VK → Prop := fun x xs H Q => ∃ (p : Addr) (y : V) (ds : List PyData) (d : PyData), x = .ref p ∧ xs = [y] ∧ Dp K H (.ref p) (.list ds) ∧ Dp K H y d ∧ PyData.plainAll ds = true ∧ d.plain = true ∧ d.depth ≤ 60 ∧ Q (.int ((ds.countP fun z => PyData.eqv z d : Nat) : Int)) H
section
variable {X : Cx} {K : Fg}
theorem mt_cntD (hu : X.A.units + 64 < cLine) : MtR X "list.count" (rCntD X.K) := by
  intro pins s σ H x xs v us Q I rx rxs h
  obtain ⟨p, y, ds, d, rfl, rfl, hl, hy, h1, h2, h3, q⟩ := h
  cases rx
  cases rxs with
  | cons ry rt =>
    rename_i uy ut
    cases rt
    obtain ⟨bs, r1⟩ := Dp.reads I d y uy hy ry
    cases hl with
    | lst hs ha =>
      obtain ⟨its, rv, ⟨⟨cls, dd, data, sls⟩, n, ho, hc, hdn, hdt⟩, hlen⟩ := I.list hs
      simp only at hc hdt
      subst hc hdt
      obtain ⟨as, h4⟩ := Dp.readsAll I ds _ its ha rv
      refine SeqAt.count_list_data (vs := its.toArray) ⟨_, ho, rfl, _, rfl⟩ h4 r1 h1 h2 (by omega) ?_
      exact ⟨.int _, H, I.tok _, ⟨_, rfl⟩, q⟩
def dCnt (da de : DE) : DE := fun fr S C => da fr S fun a S1 => match a with
  | .dat (.list ds) => de fr S1 fun b S2 => match b with
    | .dat d => PyData.plainAll ds = true ∧ d.plain = true ∧ d.depth ≤ 60 ∧ C (.dat (.int ((ds.countP fun z => PyData.eqv z d : Nat) : Int))) S2
    | _ => False
  | _ => False
theorem lift_count {to te : TE} {da de : DE} (la : Lift K to da) (le : Lift K te de) : Lift K (tBM K "list" (rCntD K) to (tCons te tNil)) (dCnt da de) := by
  intro F H σ fr S L fo o C Q hd q
  refine la F H σ fr S L fo o _ _ hd fun x a S1 H1 o1 h1 => ?_
  split at h1
  · rename_i ds
    have hx := o1.dat List.mem_cons_self
    cases hx with | lst e1 n1 q1 =>
    refine ⟨.inl ⟨rfl, _, SqL.of e1⟩, ?_⟩
    refine le F H1 σ fr S1 _ (fo.mono tl_mem) o1 _ _ h1 fun v r S2 H2 o2 h2 => ?_
    split at h2
    · obtain ⟨z1, z2, z3, h⟩ := h2
      have hl := o2.dat (List.mem_cons_of_mem _ List.mem_cons_self)
      have hv := o2.dat List.mem_cons_self
      exact ⟨_, v, ds, _, rfl, rfl, hl.dp, hv.dp, z1, z2, z3, q _ _ S2 H2 ((o2.sub fun e he => List.mem_cons_of_mem _ (List.mem_cons_of_mem _ he)).pd (.int _)) h⟩
    · exact h2.elim
  · exact h1.elim
/-! a slice of a cell -/
def fSlC (lo hi : Option Int) : F1 := fun a S C => match a with
  | .val (.ref p) => ∃ (j : Nat) (xs : List R) (ds : List PyData), S[j]? = some (.lst p xs) ∧ dats xs = some ds ∧ C (.dat (.list (cutD ds lo hi))) S
  | _ => False
theorem sld_cel : SlD K (rSlAll K) fSlC := by
  intro F x lo hi a H S L C Q o hx hf q
  replace hx := o.live _ hx
  unfold fSlC at hf
  split at hf
  · rename_i p
    cases (show x = V.ref p from hx)
    obtain ⟨j, xs, ds, hj, hd, h⟩ := hf
    obtain ⟨vs, e1, q1⟩ := o.cells _ (at_split (in_app hj))
    exact .inl ⟨_, _, rfl, SqL.of e1, fun p hp => q _ _ S _ (o.lst hp (cut_all (reps_all q1 hd) lo hi)) h⟩
  · exact hf.elim
end
section
variable {X : Cx} {a e : Expr} {da de : DE} {dl dh : DO} {pos apos : Pos}
theorem d_sliceC {lo hi : Option Expr} {p2 : Pos} (ha : PD X a da) (hl : PDO X lo dl) (hh : PDO X hi dh) : PD X (.Subscript a (.Slice lo hi none p2) pos) (dSl fSlC da dl dh) := by
  obtain ⟨_, p, l⟩ := ha.ex
  obtain ⟨_, p2, l2⟩ := hl.ex
  obtain ⟨_, p3, l3⟩ := hh.ex
  exact ⟨_, pe_slice sl_all p p2 p3, lift_sl sld_cel l l2 l3⟩
theorem d_cnt (hu : X.A.units + 64 < cLine) (ha : PD X a da) (he : PD X e de) (hbase : attributeBase a "count" X.env (eval a X.env) = eval a X.env := by rfl)
    (hfew : ((backTo pos (starEach [e] X.env)).all (fun x => !x.1) && (backToKw pos (keywordEach [] X.env)).all (fun x => x.1.isSome)
      && decide (([e] : List Expr).length + ([] : List Keyword).length + (if ([] : List Keyword).isEmpty then 0 else 1) < 30)) = true := by rfl)
    (hline : (apos.endLine == pos.line) = true := by rfl) (hs : starEach [e] X.env = [(false, eval e X.env)] := by rfl) : PD X (.Call (.Attribute a "count" apos) [e] [] pos) (dCnt da de) := by
  obtain ⟨_, p, l⟩ := ha.ex
  obtain ⟨_, p2, l2⟩ := he.ex
  exact ⟨_, pe_bm PySem.F.plainAttrs_list PySem.F.slot_list_count PySem.F.type_list_count (mt_cntD hu) p (pa_cons p2 pa_nil hs) hbase hfew hline hs rfl, lift_count l l2⟩
end
/-! weakenings of a frame -/
theorem wkf_perm {fr : Fr} {S S' : SH} (hp : S.Perm S') : WkF fr S fr S' := fun K F H σ L f o => ⟨L, f, o.perm (hp.append_right F), fun _ h => h⟩
theorem list_set_same {α : Type} {l : List α} {i : Nat} {x : α} (h : l[i]? = some x) : l.set i x = l := by
  apply List.ext_getElem?
  intro j
  rw [List.getElem?_set]
  split
  · rename_i e
    subst e
    obtain ⟨hl, _⟩ := List.getElem?_eq_some_iff.mp h
    rw [if_pos hl, h]
  · rfl
theorem wkf_frz {fr : Fr} {i : Nat} {p : Addr} {ds : List PyData} {S S1 : SH} (hi : fr[i]? = some (some (.val (.ref p)))) (hp : S.Perm (.lst p (ds.map R.dat) :: S1)) : WkF fr S (fr.set i (some (.dat (.list ds)))) S1 := fun K F H σ L f o => by
  have o1 : Ok K H (.lst p (ds.map R.dat) :: (S1 ++ F)) L := o.perm (hp.append_right F)
  obtain ⟨v, hv, hm⟩ := f.at_ i _ hi
  have ev : v = .ref p := o.val hm
  subst ev
  have o2 := Ok.frz (i := 0) o1 rfl (dats_map ds)
  refine ⟨(.ref p, .dat (.list ds)) :: L, ?_, o2, tl_mem⟩
  have q := (f.mono (L' := (V.ref p, R.dat (.list ds)) :: L) tl_mem).set (v := .ref p) (r := .dat (.list ds)) List.mem_cons_self i
  rw [list_set_same hv] at q
  exact q
end DL
set_option Elab.async false
set_option linter.all false
set_option maxRecDepth 100000
set_option maxHeartbeats 4000000
/-! DL: xs.clear() of a cell. -/
namespace DL
open PySem PySem.Spec PyProof.Rows L2
section
variable {X : Cx} {K : Fg} {a : Expr} {da : DE} {pos apos : Pos}
def dClear (da : DE) : DE := fun fr S Q => da fr S fun a S1 => match a with
  | .val (.ref p) => ∃ (j : Nat) (xs : List R), S1[j]? = some (.lst p xs) ∧ Q (.dat .none) (S1.set j (.lst p []))
  | _ => False
theorem lift_clear {to : TE} {da : DE} (la : Lift K to da) : Lift K (tBM0 K "list" rClear to) (dClear da) := by
  intro F H σ fr S L fo o C Q hd q
  refine la F H σ fr S L fo o _ _ hd fun x a S1 H1 o1 h1 => ?_
  split at h1
  · rename_i p
    obtain ⟨j, xs, hj, h⟩ := h1
    cases o1.val List.mem_cons_self
    obtain ⟨us, e1, q1⟩ := o1.cells _ (at_split (in_app hj))
    refine ⟨.inl ⟨rfl, _, SqL.of e1⟩, p, _, rfl, rfl, e1, ?_⟩
    have o3 := o1.putL (ys := []) (us := []) (in_app hj) .nil
    rw [set_app hj] at o3
    exact q _ _ _ _ ((o3.sub tl_mem).pd .non) h
  · exact h1.elim
theorem d_clear (ha : PD X a da) (hbase : attributeBase a "clear" X.env (eval a X.env) = eval a X.env := by rfl) (hline : (apos.endLine == pos.line) = true := by rfl) : PD X (.Call (.Attribute a "clear" apos) [] [] pos) (dClear da) := by
  obtain ⟨_, p, l⟩ := ha.ex
  exact ⟨_, pe_bm0 PySem.F.plainAttrs_list PySem.F.slot_list_clear PySem.F.type_list_clear mt_clear p hbase hline, lift_clear l⟩
end
/-! list(range(n)) -/
def ups (n : Int) : List Int := (List.range n.toNat).map fun i => ((i : Nat) : Int)
def dLRg (da : DE) : DE := fun fr S C => da fr S fun a S1 => match a with
  | .dat (.int n) => 0 ≤ n ∧ n ≤ 16777216 ∧ C (.dat (.list ((ups n).map PyData.int))) S1
  | _ => False
theorem rgV_ups (n : Int) : rgV 0 n = (ups n).map V.int := by
  unfold rgV ups
  rw [List.map_map, Int.sub_zero]
  apply List.map_congr_left
  intro i _
  show V.int (0 + (i : Int)) = V.int (i : Int)
  rw [Int.zero_add]
theorem lift_lrg {K : Fg} {ta : TE} {da : DE} (la : Lift K ta da) : Lift K (tLstRg (tRg1 ta)) (dLRg da) := by
  intro F H σ fr S L fo o C Q hd q
  refine la F H σ fr S L fo o _ _ hd fun x a S1 H1 o1 h1 => ?_
  split at h1
  · rename_i n
    obtain ⟨h0, h2, h⟩ := h1
    cases rep_int_inv (o1.dat List.mem_cons_self)
    refine ⟨n, rfl, RgOk.of_le (by decide) h2 (by decide) h0, fun p hp => ?_⟩
    rw [rgV_ups]
    exact q _ _ S1 _ ((o1.sub tl_mem).lst hp (RepAll.ints _)) h
  · exact h1.elim
theorem d_lrg {X : Cx} {a : Expr} {da : DE} {p pos p1 pos1 : Pos} (hg : Gl X "list") (hm : X.mg "list" = none) (hg1 : Gl X "range") (hm1 : X.mg "range" = none) (ha : PD X a da) (hc : X.calm = true := by rfl) (na : starEach [a] X.env = (false, eval a X.env) :: starEach [] X.env := by rfl)
    (nb : starEach [Expr.Call (.Name "range" p1) [a] [] pos1] X.env = (false, eval (.Call (.Name "range" p1) [a] [] pos1) X.env) :: starEach [] X.env := by rfl) : PD X (.Call (.Name "list" p) [.Call (.Name "range" p1) [a] [] pos1] [] pos) (dLRg da) := by
  obtain ⟨_, pa, la⟩ := ha.ex
  exact ⟨_, pe_listRg hc hg hm (prg_1 hg1 hm1 pa na) nb, lift_lrg la⟩
end DL
set_option Elab.async false
set_option linter.all false
set_option maxRecDepth 100000
set_option maxHeartbeats 4000000
/-! DL: written dicts with texts as keys, d.update(e), xs.pop(i). -/
namespace DL
open PySem PySem.Spec PyProof.Rows L2
def mergeR (kvs more : List (Key × R)) : List (Key × R) := more.foldl (fun acc kv => putR acc kv.1 kv.2) kvs
theorem merge_kv {P : V → R → Prop} : ∀ {more : List (Key × V)} {moreR : List (Key × R)} {kws : List (Key × V)} {kvs : List (Key × R)}, Paired (fun (a : Key × V) (b : Key × R) => a.1 = b.1 ∧ P a.2 b.2) more moreR → Paired (fun (a : Key × V) (b : Key × R) => a.1 = b.1 ∧ P a.2 b.2) kws kvs →
    Paired (fun (a : Key × V) (b : Key × R) => a.1 = b.1 ∧ P a.2 b.2) (mergeK kws more) (mergeR kvs moreR)
  | _, _, _, _, .nil, q => q
  | (k, v) :: more, (k', r) :: moreR, kws, kvs, .cons h t, q => by
    obtain ⟨e, hp⟩ := h
    cases (show k = k' from e)
    show Paired _ (mergeK (putK kws k v) more) (mergeR (putR kvs k r) moreR)
    exact merge_kv t (put_kv k hp q)
def keyed (ks : List Str) (rs : List R) : List (Key × R) := (ks.map fun k => (Sum.inr k : Key)).zip rs
def keyedV (ks : List Str) (vs : List V) : List (Key × V) := (ks.map fun k => (Sum.inr k : Key)).zip vs
theorem keyed_kv {P : V → R → Prop} : ∀ {ks : List Str} {vs : List V} {rs : List R}, Paired P vs rs → Paired (fun (a : Key × V) (b : Key × R) => a.1 = b.1 ∧ P a.2 b.2) (keyedV ks vs) (keyed ks rs)
  | [], _, _, _ => .nil
  | _ :: _, _, _, .nil => .nil
  | k :: ks, _, _, .cons h t => .cons ⟨rfl, h⟩ (keyed_kv t)
theorem keyedV_vv : ∀ {ks : List Str} {vs : List V}, ((ks.map V.str).zip vs) = (keyedV ks vs).map fun kv => (kV kv.1, kv.2)
  | [], _ => rfl
  | _ :: _, [] => rfl
  | k :: ks, v :: vs => by
    show (V.str k, v) :: (ks.map V.str).zip vs = (kV (Sum.inr k), v) :: (keyedV ks vs).map _
    rw [keyedV_vv]; rfl
def LiftP (K : Fg) (trs : List (TE × TE)) (ks : List Str) (da : DA) : Prop := ∀ (F : SH) (H : Hp) (σ : L2.St) (fr : Fr) (S : SH) (L : Live), FrOk σ fr L → OkF K F H S L → ∀ (C : List R → SH → Prop) (Q : List (V × V) → Hp → Prop), da fr S C →
  (∀ vs rs S' H' L', OkF K F H' S' L' → (∀ e ∈ L, e ∈ L') → Lives L' vs rs → C rs S' → Q ((ks.map V.str).zip vs) H') → tPairs trs σ H Q
structure PDP (X : Cx) (pos : Pos) (keys : List (Option Expr)) (values : List Expr) (ks : List Str) (da : DA) : Prop where
  ex : ∃ trs, PPs X pos keys values trs ∧ LiftP X.K trs ks da ∧ keys.length = ks.length
theorem p_nil {X : Cx} {pos : Pos} : PDP X pos [] [] [] dNil := ⟨[], pps_nil, fun F H σ fr S L f o C Q h q => q [] [] S H L o (fun _ z => z) .nil h, rfl⟩
theorem p_cons {X : Cx} {pos p2 : Pos} {k : Str} {j : Nat} {v : Expr} {ks : List (Option Expr)} {vs : List Expr} {names : List Str} {dv : DE} {da : DA} (hv : PD X v dv) (hr : PDP X pos ks vs names da) :
    PDP X pos (some (.Constant (.str k) j p2) :: ks) (v :: vs) (k :: names) (dCons dv da) := by
  obtain ⟨tv, pv, lv⟩ := hv.ex
  obtain ⟨trs, pr, lr, hl⟩ := hr.ex
  refine ⟨_, pps_cons pe_str pv pr, fun F H σ fr S L f o C Q h q => ?_, by rw [List.length_cons, List.length_cons, hl]⟩
  refine lv F H σ fr S L f o _ _ h fun y r S1 H1 o1 h1 => ?_
  refine lr F H1 σ fr S1 _ (f.mono tl_mem) o1 _ _ h1 fun us rs S2 H2 L2 o2 s2 l2 h2 => ?_
  exact q (y :: us) (r :: rs) S2 H2 L2 o2 (fun e he => s2 e (List.mem_cons_of_mem _ he)) (.cons (s2 _ List.mem_cons_self) l2) h2
/-- {k: v, ..}: the new dict stands empty while the values are made -/
def dDisp (ks : List Str) (da : DA) : DE := fun fr S C => ∀ p, da fr (.dct p [] :: S) fun rs S2 => ∃ j, S2[j]? = some (.dct p []) ∧ C (.val (.ref p)) (S2.set j (.dct p (mergeR [] (keyed ks rs))))
theorem zip_len_le {α β : Type} : ∀ (xs : List α) (ys : List β), (xs.zip ys).length ≤ xs.length := fun xs ys => by rw [List.length_zip]; exact Nat.min_le_left _ _
theorem d_disp {X : Cx} {pos : Pos} {keys : List (Option Expr)} {values : List Expr} {ks : List Str} {da : DA} (h : PDP X pos keys values ks da) (hall : keys.all (·.isSome) = true := by rfl) (hl : keys.length = values.length := by rfl) (h0 : keys ≠ [] := by exact fun z => nomatch z)
    (h15 : keys.length ≤ 15 := by decide) : PD X (.Dict keys values pos) (dDisp ks da) := by
  obtain ⟨trs, pr, lr, hkl⟩ := h.ex
  refine ⟨_, pe_disp pr hall hl h0 h15, fun F H σ fr S L f o C Q hd q p hp => ?_⟩
  have o1 : OkF X.K F (upd H p (.dK [])) (.dct p [] :: S) L := o.cell (c := .dct p []) rfl hp ⟨[], upd_same, .nil⟩
  refine lr F _ σ fr _ L f o1 _ _ (hd p) fun vs rs S2 H2 L2 o2 s2 l2 h2 => ?_
  obtain ⟨j, hj, hc⟩ := h2
  obtain ⟨kws, e1, q1⟩ := o2.cells _ (at_split (in_app hj))
  cases q1
  refine ⟨e1, keyedV ks vs, keyedV_vv, ?_, ?_⟩
  · have := zip_len_le (ks.map fun k => (Sum.inr k : Key)) vs
    rw [List.length_map] at this
    show ((ks.map fun k => (Sum.inr k : Key)).zip vs).length ≤ 15
    omega
  have rel := keyed_kv (ks := ks) (o2.reps l2)
  have o3 := o2.put (u := .dK (mergeK [] (keyedV ks vs))) (c' := .dct p (mergeR [] (keyed ks rs))) (in_app hj) rfl rfl e1 True.intro ⟨_, upd_same, Paired.mapP (merge_kv rel .nil) fun _ _ z => ⟨z.1, z.2.stp (stp_upd e1 (pt_at (in_app hj)) True.intro)⟩⟩
  rw [set_app hj] at o3
  exact q _ _ _ _ ((o3.push (r := .val (.ref p)) rfl).sub (sub_cons s2)) hc
/-! d.update(e) -/
def tDUpd (to te : TE) : TE := fun σ H Q => to σ H fun x H1 => ∃ d kvs0, x = .ref d ∧ H1 d = some (.dK kvs0) ∧ te σ H1 fun y H2 => ∃ o kvs more, y = .ref o ∧ d ≠ o ∧ H2 d = some (.dK kvs) ∧ H2 o = some (.dK more) ∧ kvs.length + more.length ≤ 1000 ∧ Q .non (upd H2 d (.dK (mergeK kvs more)))
theorem pe_dupd {X : Cx} {o e : Expr} {to te : TE} {apos cpos : Pos} (ho : PE X o to) (he : PE X e te) (m : M1 X o "update" apos e cpos) : PE X (.Call (.Attribute o "update" apos) [e] [] cpos) (tDUpd to te) := by
  refine ⟨fun pins s σ H Q I h => ?_⟩
  refine wpAny_Call_method m.base m.few m.line PySem.F.plainAttrs_dict PySem.F.slot_dict_update PySem.F.type_dict_update (thn (ho.run pins s σ H _ I h) fun u s1 ⟨x, H1, I1, rx, a, kvs0, ex, e0, q1⟩ => ?_)
  subst ex
  obtain rfl : u = Value.ref a := rx
  obtain ⟨t1, t2, _⟩ := isD_at I1 (.inl ⟨kvs0, .inl e0⟩)
  refine ⟨t1, t2, ?_⟩
  rw [m.trees]
  refine Calls.callWith_builtin rfl (Calls.evalArgs_plain (Calls.spliced_cons (thn (he.run pins s1 σ H1 _ I1 q1) fun iv s2 ⟨y, H2, I2, ry, ob, kvs, more, ey, hne, e1, e2, hsz, q2⟩ => Calls.spliced_nil ?_)))
  subst ey
  obtain rfl : iv = Value.ref ob := ry
  obtain ⟨z1, hd1, vs1, r1, dd1⟩ := dk_of I2.hok e1
  obtain ⟨z2, hd2, vs2, r2, dd2⟩ := dk_of I2.hok e2
  have l1 : vs1.length = kvs.length := (paired_len r1).symm
  have l2 : vs2.length = more.length := (paired_len r2).symm
  have hsl := sizeLine_eq
  refine call_meetsIn PySem.F.slot_dict_update dd1.typeIs PySem.F.entry_dict_update (PySem.F.args_dict_update_2 _ _) (meets_dict_update (mixKind X.prog X.w) a ob hne hd2) ⟨vs1, vs2, dd1, dd2, by omega, fun h' dd' _ hs => ⟨.non, _, ?_, rfl, q2⟩⟩
  have hz : (mergeK kvs more).length ≤ sizeLine := by
    have := length_mergeK more kvs
    omega
  have hg : ∃ q, h'.get? a = some q := let ⟨q, _, _, hq, _⟩ := dd'; ⟨q, hq⟩
  exact d_write I2 (by rw [e1]; exact True.intro) hs hg (dk_new hz hd1 (r2.merge r1) dd')
def dUpd (da de : DE) : DE := fun fr S C => da fr S fun a S1 => match a with
  | .val (.ref p) => (∃ (j : Nat) (kvs : List (Key × R)), S1[j]? = some (.dct p kvs)) ∧ de fr S1 fun b S2 => match b with
    | .val (.ref o) => ∃ (j i : Nat) (kvs more : List (Key × R)), j ≠ i ∧ S2[j]? = some (.dct p kvs) ∧ S2[i]? = some (.dct o more) ∧ kvs.length + more.length ≤ 1000 ∧ C (.dat .none) (S2.set j (.dct p (mergeR kvs more)))
    | _ => False
  | _ => False
theorem lift_upd {K : Fg} {to te : TE} {da de : DE} (la : Lift K to da) (le : Lift K te de) : Lift K (tDUpd to te) (dUpd da de) := by
  intro F H σ fr S L fo o C Q hd q
  refine la F H σ fr S L fo o _ _ hd fun x a S1 H1 o1 h1 => ?_
  split at h1
  · rename_i p
    obtain ⟨⟨j, kvs, hj⟩, h1⟩ := h1
    cases o1.val List.mem_cons_self
    obtain ⟨kws, e1, _⟩ := o1.cells _ (at_split (in_app hj))
    refine ⟨p, kws, rfl, e1, ?_⟩
    refine le F H1 σ fr S1 _ (fo.mono tl_mem) o1 _ _ h1 fun v r S2 H2 o2 h2 => ?_
    split at h2
    · rename_i ob
      obtain ⟨j2, i2, kvs2, more, hne, hj2, hi2, hsz, hc⟩ := h2
      cases o2.val List.mem_cons_self
      obtain ⟨kw2, f1, q1⟩ := o2.cells _ (at_split (in_app hj2))
      obtain ⟨mw, f2, q2⟩ := o2.cells _ (at_split (in_app hi2))
      have hne : p ≠ ob := fun z => hne (by
        have g1 : ((S2 ++ F).map Cell.pt)[j2]? = some p := by rw [List.getElem?_map, in_app hj2]; rfl
        have g2 : ((S2 ++ F).map Cell.pt)[i2]? = some p := by rw [List.getElem?_map, in_app hi2, z]; rfl
        exact nd_ix o2.nd g1 g2)
      refine ⟨ob, kw2, mw, rfl, hne, f1, f2, by rw [paired_len q1, paired_len q2]; exact hsz, ?_⟩
      have o3 := o2.put (u := .dK (mergeK kw2 mw)) (c' := .dct p (mergeR kvs2 more)) (in_app hj2) rfl rfl f1 True.intro ⟨_, upd_same, Paired.mapP (merge_kv q2 q1) fun _ _ z => ⟨z.1, z.2.stp (stp_upd f1 (pt_at (in_app hj2)) True.intro)⟩⟩
      rw [set_app hj2] at o3
      exact q _ _ _ _ ((o3.sub fun e he => List.mem_cons_of_mem _ (List.mem_cons_of_mem _ he)).pd .non) hc
    · exact h2.elim
  · exact h1.elim
theorem d_upd {X : Cx} {a e : Expr} {da de : DE} {apos pos : Pos} (ha : PD X a da) (he : PD X e de) (hbase : attributeBase a "update" X.env (eval a X.env) = eval a X.env := by rfl)
    (hfew : ((backTo pos (starEach [e] X.env)).all (fun x => !x.1) && (backToKw pos (keywordEach [] X.env)).all (fun x => x.1.isSome)
      && decide (([e] : List Expr).length + ([] : List Keyword).length + (if ([] : List Keyword).isEmpty then 0 else 1) < 30)) = true := by rfl)
    (hline : (apos.endLine == pos.line) = true := by rfl) (hs : backTo pos (starEach [e] X.env) = [(false, eval e X.env)] := by rfl) : PD X (.Call (.Attribute a "update" apos) [e] [] pos) (dUpd da de) := by
  obtain ⟨_, p, l⟩ := ha.ex
  obtain ⟨_, p2, l2⟩ := he.ex
  exact ⟨_, pe_dupd p p2 ⟨hbase, hfew, hline, hs⟩, lift_upd l l2⟩
/-! xs.pop(i) -/
def dPopA (da de : DE) : DE := fun fr S Q => da fr S fun a S1 => match a with
  | .val (.ref p) => (∃ (j : Nat) (xs : List R), S1[j]? = some (.lst p xs)) ∧ de fr S1 fun b S2 => match b with
    | .dat (.int i) => ∃ (j : Nat) (xs : List R) (r : R), S2[j]? = some (.lst p xs) ∧ 0 ≤ i ∧ i < 100000 ∧ xs[i.toNat]? = some r ∧ Q r (S2.set j (.lst p (xs.eraseIdx i.toNat)))
    | _ => False
  | _ => False
theorem paired_erase {α β : Type} {P : α → β → Prop} : ∀ {xs : List α} {ys : List β} (n : Nat), Paired P xs ys → Paired P (xs.eraseIdx n) (ys.eraseIdx n)
  | _, _, _, .nil => .nil
  | _, _, 0, .cons _ t => t
  | _, _, n + 1, .cons h t => .cons h (paired_erase n t)
theorem seqIx_nat {i : Int} {n : Nat} (h0 : 0 ≤ i) (h1 : i.toNat < n) : seqIndex? i n = some i.toNat := by
  have e0 : (if i < 0 then i + (n : Int) else i) = i := if_neg (by omega)
  have e : seqIndex? i n = if (decide (0 ≤ (if i < 0 then i + (n : Int) else i)) && decide ((if i < 0 then i + (n : Int) else i) < n)) = true then some (if i < 0 then i + (n : Int) else i).toNat else none := rfl
  rw [e, e0, decide_eq_true h0, decide_eq_true (show i < (n : Int) by omega), Bool.and_self, if_pos rfl]
theorem lift_popA {K : Fg} {to te : TE} {da de : DE} (la : Lift K to da) (le : Lift K te de) : Lift K (tBM K "list" rPopAt to (tCons te tNil)) (dPopA da de) := by
  intro F H σ fr S L fo o C Q hd q
  refine la F H σ fr S L fo o _ _ hd fun x a S1 H1 o1 h1 => ?_
  split at h1
  · rename_i p
    obtain ⟨⟨j, xs, hj⟩, h1⟩ := h1
    cases o1.val List.mem_cons_self
    obtain ⟨us, e1, _⟩ := o1.cells _ (at_split (in_app hj))
    refine ⟨.inl ⟨rfl, _, SqL.of e1⟩, ?_⟩
    refine le F H1 σ fr S1 _ (fo.mono tl_mem) o1 _ _ h1 fun v r S2 H2 o2 h2 => ?_
    split at h2
    · rename_i i
      obtain ⟨j2, ys, y, hj2, h0, hb, hy, hc⟩ := h2
      cases rep_int_inv (o2.dat List.mem_cons_self)
      obtain ⟨ws, f1, q1⟩ := o2.cells _ (at_split (in_app hj2))
      obtain ⟨u, eu, ru⟩ := paired_get' q1 hy
      have hlt : i.toNat < ws.length := (List.getElem?_eq_some_iff.mp eu).1
      refine ⟨p, ws, i, i.toNat, u, rfl, rfl, f1, by omega, by omega, seqIx_nat h0 hlt, eu, ?_⟩
      have o3 := (o2.push ru).putL (in_app hj2) (paired_erase i.toNat q1)
      rw [set_app hj2] at o3
      exact q _ _ _ _ (o3.sub (sub_cons fun e he => List.mem_cons_of_mem _ (List.mem_cons_of_mem _ he))) hc
    · exact h2.elim
  · exact h1.elim
theorem d_popA {X : Cx} {a e : Expr} {da de : DE} {apos pos : Pos} (ha : PD X a da) (he : PD X e de) (hbase : attributeBase a "pop" X.env (eval a X.env) = eval a X.env := by rfl)
    (hfew : ((backTo pos (starEach [e] X.env)).all (fun x => !x.1) && (backToKw pos (keywordEach [] X.env)).all (fun x => x.1.isSome)
      && decide (([e] : List Expr).length + ([] : List Keyword).length + (if ([] : List Keyword).isEmpty then 0 else 1) < 30)) = true := by rfl)
    (hline : (apos.endLine == pos.line) = true := by rfl) (hs : starEach [e] X.env = [(false, eval e X.env)] := by rfl) : PD X (.Call (.Attribute a "pop" apos) [e] [] pos) (dPopA da de) := by
  obtain ⟨_, p, l⟩ := ha.ex
  obtain ⟨_, p2, l2⟩ := he.ex
  exact ⟨_, pe_bm PySem.F.plainAttrs_list PySem.F.slot_list_pop PySem.F.type_list_pop mt_popAt p (pa_cons p2 pa_nil hs) hbase hfew hline hs rfl, lift_popA l l2⟩
/-! list(range(n)) as a cell -/
def dLRgC (da : DE) : DE := fun fr S C => da fr S fun a S1 => match a with
  | .dat (.int n) => 0 ≤ n ∧ n ≤ 16777216 ∧ ∀ p, C (.val (.ref p)) (.lst p ((ups n).map fun i => R.dat (.int i)) :: S1)
  | _ => False
theorem lift_lrgC {K : Fg} {ta : TE} {da : DE} (la : Lift K ta da) : Lift K (tLstRg (tRg1 ta)) (dLRgC da) := by
  intro F H σ fr S L fo o C Q hd q
  refine la F H σ fr S L fo o _ _ hd fun x a S1 H1 o1 h1 => ?_
  split at h1
  · rename_i n
    obtain ⟨h0, h2, h⟩ := h1
    cases rep_int_inv (o1.dat List.mem_cons_self)
    refine ⟨n, rfl, RgOk.of_le (by decide) h2 (by decide) h0, fun p hp => ?_⟩
    rw [rgV_ups]
    have e : ((ups n).map fun i => R.dat (.int i)) = ((ups n).map PyData.int).map R.dat := by rw [List.map_map]; rfl
    have hh := h p
    rw [e] at hh
    exact q _ _ _ _ (((o1.sub tl_mem).lstC hp (all_reps (RepAll.ints _))).push (r := .val (.ref p)) rfl) hh
  · exact h1.elim
theorem d_lrgC {X : Cx} {a : Expr} {da : DE} {p pos p1 pos1 : Pos} (hg : Gl X "list") (hm : X.mg "list" = none) (hg1 : Gl X "range") (hm1 : X.mg "range" = none) (ha : PD X a da) (hc : X.calm = true := by rfl) (na : starEach [a] X.env = (false, eval a X.env) :: starEach [] X.env := by rfl)
    (nb : starEach [Expr.Call (.Name "range" p1) [a] [] pos1] X.env = (false, eval (.Call (.Name "range" p1) [a] [] pos1) X.env) :: starEach [] X.env := by rfl) : PD X (.Call (.Name "list" p) [.Call (.Name "range" p1) [a] [] pos1] [] pos) (dLRgC da) := by
  obtain ⟨_, pa, la⟩ := ha.ex
  exact ⟨_, pe_listRg hc hg hm (prg_1 hg1 hm1 pa na) nb, lift_lrgC la⟩
end DL
set_option Elab.async false
set_option linter.all false
set_option maxRecDepth 100000
set_option maxHeartbeats 4000000
/-! Works that never fall, as a plain function. -/
namespace PM
open PySem PySem.Spec PyProof.Rows L2 DL

structure RunS where
  row : Int
  taken : Int
  names : List Int
  files : List (List Int)
  sent : List Int
def putSent (s : List Int) (e : Eff) : List Int := match e.letter with
  | none => s
  | some v => s ++ [v]
def runEff (rows : List PRow) (hs : List Int) (r : RunS) : Eff := effect (rowAt rows r.row) r.row r.taken r.names hs r.files
def runNext (e : Eff) (r : RunS) : RunS := ⟨e.row, e.taken, putName r.names e, putFile r.files e.file e.pos e.new, putSent r.sent e⟩
/-- how it ends, what stands then, how many rows are left of the thousand -/
def runFrom (rows : List PRow) (hs : List Int) : Nat → RunS → PyData × RunS × Nat
  | n, r => if ¬ r.row < rows.length then (told1 "end", r, n) else match n with
    | 0 => (told1 "long", r, 0)
    | n + 1 => match (runEff rows hs r).fault with
      | some f => (.tuple [.str "fault", .str f], r, n + 1)
      | none => runFrom rows hs n (runNext (runEff rows hs r) r)
def run0 (p : Prog) : RunS := ⟨0, 0, List.replicate p.names.toNat 0, List.replicate p.files.toNat [], []⟩
def runW (p : Prog) (hs : List Int) : PyData × RunS × Nat := runFrom p.rows hs 1000 (run0 p)
def runD (x : PyData × RunS × Nat) : PyData := .tuple [filesD x.2.1.files, lstI x.2.1.sent, x.1, lstI x.2.1.names, .int (1000 - (x.2.2 : Int))]
structure RunOk (nN nF hl many : Nat) (r : RunS) : Prop where
  row : 0 ≤ r.row ∧ r.row ≤ many
  taken : 0 ≤ r.taken ∧ r.taken ≤ hl
  names : NamesOk nN r.names
  files : r.files.length = nF ∧ ∀ f ∈ r.files, f.length ≤ 40 ∧ NN f
theorem putName_ok {nN nF hl many : Nat} {e : Eff} {ns : List Int} (he : EffOk nN nF hl many e) (h : NamesOk nN ns) : NamesOk nN (putName ns e) := by
  unfold putName
  cases en : e.name with
  | none => exact h
  | some n =>
    obtain ⟨_, v, ev, hv⟩ := he.name n en
    rw [ev]
    exact ⟨by rw [List.length_set]; exact h.len, h.nn.set hv _⟩
theorem putFile_ok {nF : Nat} {fs : List (List Int)} {f : Option Int} {pos : Int} {new : List Int} (h : fs.length = nF ∧ ∀ f ∈ fs, f.length ≤ 40 ∧ NN f) (hp : 0 ≤ pos) (hn : pos + new.length ≤ 40 ∧ NN new) : (putFile fs f pos new).length = nF ∧ ∀ f' ∈ putFile fs f pos new, f'.length ≤ 40 ∧ NN f' := by
  cases f with
  | none => exact h
  | some f =>
    refine ⟨by unfold putFile; rw [List.length_set]; exact h.1, fun f' hf' => ?_⟩
    rcases List.mem_or_eq_of_mem_set hf' with hm | rfl
    · exact h.2 f' hm
    · refine ⟨?_, ?_⟩
      · rw [List.length_append, List.length_take]
        have := hn.1
        omega
      · refine NN.app (NN.take ?_ _) hn.2
        rw [List.getD_eq_getElem?_getD]
        cases e : fs[f.toNat]? with
        | none => exact NN.nil
        | some x => exact (h.2 x (List.mem_of_getElem? e)).2
theorem runNext_ok {nN nF hl many : Nat} {e : Eff} {r : RunS} (he : EffOk nN nF hl many e) (h : RunOk nN nF hl many r) : RunOk nN nF hl many (runNext e r) :=
  ⟨he.row, he.taken, putName_ok he h.names, putFile_ok h.files he.pos he.new⟩
theorem rowAt_ok {nN nF : Nat} {rows : List PRow} (h : ∀ r ∈ rows, r.ok nN nF rows.length) {i : Int} (h0 : 0 ≤ i) (h1 : i < rows.length) : (rowAt rows i).ok nN nF rows.length := h _ (getD_mem (by omega))
theorem runEff_ok {nN nF : Nat} {rows : List PRow} {hs : List Int} (hr : ∀ r ∈ rows, r.ok nN nF rows.length) (hh : NN hs) {r : RunS} (h : RunOk nN nF hs.length rows.length r) (hlt : r.row < rows.length) (hz : (runEff rows hs r).fault = none) : EffOk nN nF hs.length rows.length (runEff rows hs r) :=
  effect_ok (rowAt_ok hr h.row.1 hlt) h.names hh h.files ⟨h.row.1, hlt⟩ h.taken hz
/-- three lists, a tuple of them and data: frozen -/
theorem wkn_run {pf ps pn : Addr} {fs : List (List Int)} {ss ns : List Int} {e : PyData} {k : Int} {S : SH} : Wkn (.tp [.val (.ref pf), .val (.ref ps), .dat e, .val (.ref pn), .dat (.int k)]) (.lst ps (iR ss) :: .lst pf (fileR fs) :: .lst pn (iR ns) :: S) (.dat (.tuple [filesD fs, lstI ss, e, lstI ns, .int k])) S := by
  intro K F H L v o
  have d1 : dats (iR ss) = some (ss.map PyData.int) := by
    have : iR ss = (ss.map PyData.int).map R.dat := by unfold iR; rw [List.map_map]; rfl
    rw [this]; exact dats_map _
  have d2 : dats (iR ns) = some (ns.map PyData.int) := by
    have : iR ns = (ns.map PyData.int).map R.dat := by unfold iR; rw [List.map_map]; rfl
    rw [this]; exact dats_map _
  have d3 : dats (fileR fs) = some (fs.map lstI) := by
    have : fileR fs = (fs.map lstI).map R.dat := by unfold fileR; rw [List.map_map]; rfl
    rw [this]; exact dats_map _
  have o1 := Ok.frz (i := 0) o rfl d1
  have o2 := Ok.frz (i := 0) o1 rfl d3
  have o3 : Ok K H (S ++ F) ((V.ref pn, R.dat (.list (ns.map PyData.int))) :: (V.ref pf, R.dat (.list (fs.map lstI))) :: (V.ref ps, R.dat (.list (ss.map PyData.int))) :: (v, .tp [.val (.ref pf), .val (.ref ps), .dat e, .val (.ref pn), .dat (.int k)]) :: L) := Ok.frz (i := 0) o2 rfl d2
  have hn := o3.dat (v := .ref pn) List.mem_cons_self
  have hf := o3.dat (v := .ref pf) (List.mem_cons_of_mem _ List.mem_cons_self)
  have hs := o3.dat (v := .ref ps) (List.mem_cons_of_mem _ (List.mem_cons_of_mem _ List.mem_cons_self))
  have hv := o3.live (v, .tp [.val (.ref pf), .val (.ref ps), .dat e, .val (.ref pn), .dat (.int k)]) (List.mem_cons_of_mem _ (List.mem_cons_of_mem _ (List.mem_cons_of_mem _ List.mem_cons_self)))
  obtain ⟨a, vs, rfl, ha, hq⟩ := (show ∃ a vs, v = .ref a ∧ (H a = some (.tup vs) ∨ KTup K a vs) ∧ RepRl K _ H vs _ from hv)
  have o4 : Ok K H (S ++ F) L := o3.sub fun z hz => List.mem_cons_of_mem _ (List.mem_cons_of_mem _ (List.mem_cons_of_mem _ (List.mem_cons_of_mem _ hz)))
  refine o4.pd (.tup ha ?_)
  have hq' := hq.pair
  cases hq' with | cons q1 t => cases t with | cons q2 t => cases t with | cons q3 t => cases t with | cons q4 t => cases t with | cons q5 t =>
  cases t
  cases q1
  cases q2
  cases q4
  exact .cons hf (.cons hs (.cons q3 (.cons hn (.cons q5 .nil))))
end PM
set_option Elab.async false
set_option linter.all false
set_option maxRecDepth 100000
set_option maxHeartbeats 4000000
/-! The mathematics of works: a run's states one by one, and where a work stands in it. -/
namespace PM
open PySem PySem.Spec PyProof.Rows L2 DL

/-! ### a run, row by row -/
def trj (rows : List PRow) (hs : List Int) (r0 : RunS) : Nat → RunS
  | 0 => r0
  | k + 1 => runNext (runEff rows hs (trj rows hs r0 k)) (trj rows hs r0 k)
def stopAt (rows : List PRow) (hs : List Int) (k : Nat) (r : RunS) : Option PyData :=
  if ¬ r.row < rows.length then some (told1 "end") else if k = 1000 then some (told1 "long") else (runEff rows hs r).fault.map fun f => .tuple [.str "fault", .str f]
structure Rn where
  rows : List PRow
  hs : List Int
  r0 : RunS
  N : Nat
  how : PyData
  nN : Nat
  nF : Nat
namespace Rn
def T (Z : Rn) (k : Nat) : RunS := trj Z.rows Z.hs Z.r0 k
def E (Z : Rn) (k : Nat) : Eff := runEff Z.rows Z.hs (Z.T k)
structure Ok (Z : Rn) : Prop where
  le : Z.N ≤ 1000
  before : ∀ k, k < Z.N → stopAt Z.rows Z.hs k (Z.T k) = none
  at_ : stopAt Z.rows Z.hs Z.N (Z.T Z.N) = some Z.how
  rok : ∀ r ∈ Z.rows, r.ok Z.nN Z.nF Z.rows.length
  hh : NN Z.hs
  r0ok : RunOk Z.nN Z.nF Z.hs.length Z.rows.length Z.r0
  s0 : Z.r0.sent = []
theorem T_succ (Z : Rn) (k : Nat) : Z.T (k + 1) = runNext (Z.E k) (Z.T k) := rfl
end Rn
theorem run_ends (rows : List PRow) (hs : List Int) (r0 : RunS) : ∀ (n k : Nat), k + n = 1000 → (∀ j, j < k → stopAt rows hs j (trj rows hs r0 j) = none) →
    ∃ N how, N ≤ 1000 ∧ (∀ j, j < N → stopAt rows hs j (trj rows hs r0 j) = none) ∧ stopAt rows hs N (trj rows hs r0 N) = some how ∧ runFrom rows hs n (trj rows hs r0 k) = (how, trj rows hs r0 N, 1000 - N)
  | n, k, hk, hb => by
    by_cases h1 : (trj rows hs r0 k).row < rows.length
    · cases n with
      | zero =>
        refine ⟨k, told1 "long", by omega, hb, ?_, ?_⟩
        · unfold stopAt
          rw [if_neg (by exact fun z => z h1), if_pos (by omega)]
        · unfold runFrom
          rw [if_neg (by exact fun z => z h1)]
          have : 1000 - k = 0 := by omega
          rw [this]
      | succ n =>
        cases h2 : (runEff rows hs (trj rows hs r0 k)).fault with
        | some f =>
          refine ⟨k, .tuple [.str "fault", .str f], by omega, hb, ?_, ?_⟩
          · unfold stopAt
            rw [if_neg (by exact fun z => z h1), if_neg (by omega), h2]; rfl
          · unfold runFrom
            rw [if_neg (by exact fun z => z h1)]
            simp only [h2]
            have : 1000 - k = n + 1 := by omega
            rw [this]
        | none =>
          obtain ⟨N, how, a, b, c, d⟩ := run_ends rows hs r0 n (k + 1) (by omega) (fun j hj => by
            by_cases e : j = k
            · subst e
              unfold stopAt
              rw [if_neg (by exact fun z => z h1), if_neg (by omega), h2]; rfl
            · exact hb j (by omega))
          refine ⟨N, how, a, b, c, ?_⟩
          rw [← d]
          conv => lhs; unfold runFrom
          rw [if_neg (by exact fun z => z h1)]
          simp only [h2]
          rfl
    · refine ⟨k, told1 "end", by omega, hb, ?_, ?_⟩
      · unfold stopAt
        rw [if_pos h1]
      · unfold runFrom
        rw [if_pos h1]
        have : 1000 - k = n := by omega
        rw [this]
namespace Rn
variable {Z : Rn}
theorem Ok.alive (h : Z.Ok) {k : Nat} (hk : k < Z.N) : (Z.T k).row < Z.rows.length ∧ k ≠ 1000 ∧ (Z.E k).fault = none := by
  have e := h.before k hk
  unfold stopAt at e
  by_cases h1 : (Z.T k).row < Z.rows.length
  · rw [if_neg (by exact fun z => z h1)] at e
    have h2 : k ≠ 1000 := by have := h.le; omega
    rw [if_neg h2] at e
    refine ⟨h1, h2, ?_⟩
    unfold E
    cases ef : (runEff Z.rows Z.hs (Z.T k)).fault with
    | none => rfl
    | some f => rw [ef] at e; cases e
  · rw [if_pos h1] at e; cases e
theorem Ok.tok (h : Z.Ok) : ∀ {k : Nat}, k ≤ Z.N → RunOk Z.nN Z.nF Z.hs.length Z.rows.length (Z.T k)
  | 0, _ => h.r0ok
  | k + 1, hk => by
    have ih := h.tok (k := k) (by omega)
    obtain ⟨a, _, b⟩ := h.alive (k := k) (by omega)
    exact runNext_ok (runEff_ok h.rok h.hh ih a b) ih
theorem Ok.eok (h : Z.Ok) {k : Nat} (hk : k < Z.N) : EffOk Z.nN Z.nF Z.hs.length Z.rows.length (Z.E k) := by
  obtain ⟨a, _, b⟩ := h.alive hk
  exact runEff_ok h.rok h.hh (h.tok (by omega)) a b
theorem sent_succ (Z : Rn) (k : Nat) : (Z.T (k + 1)).sent = putSent (Z.T k).sent (Z.E k) := rfl
theorem sent_pre (Z : Rn) (k : Nat) : ∀ d, (Z.T k).sent <+: (Z.T (k + d)).sent
  | 0 => List.prefix_refl _
  | d + 1 => by
    refine (sent_pre Z k d).trans ?_
    rw [← Nat.add_assoc, sent_succ]
    unfold putSent
    cases (Z.E (k + d)).letter with
    | none => exact List.prefix_refl _
    | some v => exact List.prefix_append _ _
theorem sent_le (Z : Rn) {k l : Nat} (h : k ≤ l) : (Z.T k).sent <+: (Z.T l).sent := by
  have := sent_pre Z k (l - k)
  rwa [Nat.add_sub_cancel' h] at this
end Rn
/-! ### where a work stands -/
structure At (Z : Rn) (k : Nat) (i : InnerS) : Prop where
  row : i.row = (Z.T k).row
  names : i.names = (Z.T k).names
  taken : i.taken = (Z.T k).taken
  passed : i.passed = k
  letters : i.letters = (Z.T k).sent.length
def markAt (Z : Rn) (m : Nat) : MarkS := ⟨(Z.T m).row, (Z.T m).names, (Z.T m).taken, m, (Z.T m).sent.length⟩
/-- all is put back, the last first -/
def undo : List Eff → List (List Int) → List (List Int)
  | [], fs => fs
  | e :: es, fs => putFile (undo es fs) e.file e.pos e.old
theorem undo_app : ∀ (xs ys : List Eff) (fs : List (List Int)), undo (xs ++ ys) fs = undo xs (undo ys fs)
  | [], _, _ => rfl
  | x :: xs, ys, fs => by rw [List.cons_append, undo, undo, undo_app xs ys fs]
/-- the work is at a row's beginning (noted none), or has noted it -/
structure AtRow (Z : Rn) (way : Str) (m k : Nat) (st : WorkS) (i : InnerS) : Prop where
  held : st.held = (Z.T k).files
  again : i.again = 0
  on : way = onW → st.made = (k : Int) - m ∧ (i.noted = none → (st.jots.length : Int) = k - m)
  back : way = backW → (i.noted = none → (st.jots.length : Int) ≤ k - m)
  nil_ : i.noted = none → i.out = false
  got : ∀ e, i.noted = some e → e = Z.E k ∧ k < Z.N ∧ (way = onW → (st.jots.length : Int) = k - m + 1) ∧ (way = backW → (st.jots.length : Int) ≤ k - m + 1 ∧ ∀ f, e.file = some f → st.jots.getLast? = some e) ∧
    (i.out = true → (∃ v, e.letter = some v) ∧ (Z.T k).sent.length + 1 ≤ st.letters.length)
structure Inv (Z : Rn) (way : Str) (often : Int) (m : Nat) (st : WorkS) : Prop where
  rows : st.rows = Z.rows
  handed : st.handed = Z.hs
  wayE : st.way = way
  oftenE : st.often = often
  mN : m ≤ Z.N
  mark : st.mark = markAt Z m
  sent : st.letters <+: (Z.T Z.N).sent
  sentm : (Z.T m).sent.length ≤ st.letters.length
  hok : st.held.length = Z.nF ∧ ∀ f ∈ st.held, f.length ≤ 40 ∧ NN f
  jl : (st.jots.length : Int) ≤ Z.N - m
  back : way = backW → undo st.jots st.held = (Z.T m).files ∧ ∀ e ∈ st.jots, ∃ k, m ≤ k ∧ k < Z.N ∧ e = Z.E k ∧ ∃ f, e.file = some f
  on : way = onW → ∃ q : Nat, st.made = q ∧ m + q ≤ Z.N ∧ st.held = (Z.T (m + q)).files ∧ (st.jots.length = q ∨ st.jots.length = q + 1 ∧ m + q < Z.N) ∧ (∀ j, j < st.jots.length → st.jots[j]? = some (Z.E (m + j))) ∧ (Z.T (m + q)).sent.length ≤ st.letters.length
  inner : ∀ i, st.inner = some i → ∃ k : Nat, m ≤ k ∧ k ≤ Z.N ∧ At Z k i ∧ i.since = (k : Int) - m ∧ (Z.T k).sent.length ≤ st.letters.length ∧
    ((way = onW ∧ 0 < i.again ∧ i.again ≤ st.jots.length ∧ i.noted = none ∧ i.out = false ∧ (k : Int) = m + (st.jots.length - i.again)) ∨ AtRow Z way m k st i)
  over : st.over = .none ∨ st.over = Z.how ∧ st.held = (Z.T Z.N).files ∧ st.letters = (Z.T Z.N).sent ∧ ∀ i, st.inner = some i → At Z Z.N i ∧ AtRow Z way m Z.N st i ∧ i.noted = none
theorem inv_fall {Z : Rn} {way : Str} {often : Int} {m : Nat} {st : WorkS} (h : Inv Z way often m st) : Inv Z way often m (fallW st) :=
  { h with inner := (fun i e => nomatch e), over := h.over.imp id fun ⟨a, b, c, _⟩ => ⟨a, b, c, (fun i e => nomatch e)⟩ }
theorem mkInner_at (Z : Rn) (m : Nat) (again : Int) : At Z m (mkInner (markAt Z m) again) := ⟨rfl, rfl, rfl, rfl, rfl⟩
theorem At.next {Z : Rn} {k : Nat} {i : InnerS} (h : At Z k i) : At Z (k + 1) (takeOver (Z.E k) i) := by
  refine ⟨rfl, ?_, rfl, ?_, ?_⟩
  · show putName i.names (Z.E k) = putName (Z.T k).names (Z.E k)
    rw [h.names]
  · show i.passed + 1 = ((k + 1 : Nat) : Int)
    rw [h.passed]; omega
  · show i.letters + one (Z.E k).letter.isSome = ((putSent (Z.T k).sent (Z.E k)).length : Int)
    rw [h.letters]
    unfold putSent
    cases (Z.E k).letter with
    | none => simp [one]
    | some v => simp [one]
theorem At.eff {Z : Rn} {k : Nat} {i : InnerS} {st : WorkS} (h : At Z k i) (e1 : st.rows = Z.rows) (e2 : st.handed = Z.hs) (e3 : st.held = (Z.T k).files) : effAt st i = Z.E k := by
  unfold effAt Rn.E runEff
  rw [e1, e2, e3, h.row, h.names, h.taken]
theorem At.upd {Z : Rn} {k : Nat} {i j : InnerS} (h : At Z k i) (e1 : j.row = i.row) (e2 : j.names = i.names) (e3 : j.taken = i.taken) (e4 : j.passed = i.passed) (e5 : j.letters = i.letters) : At Z k j := ⟨e1.trans h.row, e2.trans h.names, e3.trans h.taken, e4.trans h.passed, e5.trans h.letters⟩
/-- a mark is kept -/
theorem inv_keep {Z : Rn} {way : Str} {often : Int} {k : Nat} {st : WorkS} {i : InnerS} (e1 : st.rows = Z.rows) (e2 : st.handed = Z.hs) (e3 : st.way = way) (e4 : st.often = often) (hk : k ≤ Z.N) (ha : At Z k i) (hh : st.held = (Z.T k).files)
    (h1 : i.again = 0) (h2 : i.noted = none) (h3 : i.out = false) (hs : st.letters <+: (Z.T Z.N).sent) (hl : (Z.T k).sent.length ≤ st.letters.length) (ho : st.over = .none) (z : Z.Ok) : Inv Z way often k (keepW st i).2 where
  rows := e1
  handed := e2
  wayE := e3
  oftenE := e4
  mN := hk
  mark := by
    show MarkS.mk i.row i.names i.taken i.passed i.letters = markAt Z k
    unfold markAt
    rw [ha.row, ha.names, ha.taken, ha.passed, ha.letters]
  sent := hs
  sentm := hl
  hok := by
    have := (z.tok hk).files
    rw [← hh] at this
    exact this
  jl := by show ((([] : List Eff).length : Nat) : Int) ≤ _; simp; omega
  back := fun _ => ⟨hh, fun e he => nomatch he⟩
  on := fun _ => ⟨0, rfl, hk, hh, .inl rfl, (fun j hj => absurd hj (Nat.not_lt_zero _)), hl⟩
  inner := fun j ej => by
    cases ej
    refine ⟨k, Nat.le_refl _, hk, ha.upd rfl rfl rfl rfl rfl, by show (0 : Int) = _; omega, hl, .inr ⟨hh, h1, fun _ => ⟨by show (0 : Int) = _; omega, fun _ => by show ((([] : List Eff).length : Nat) : Int) = _; simp⟩, fun _ _ => by show ((([] : List Eff).length : Nat) : Int) ≤ _; simp, fun _ => h3, fun e he => ?_⟩⟩
    have : i.noted = some e := he
    rw [h2] at this
    cases this
  over := .inl ho
/-- it rises, or puts back -/
theorem inv_rise {Z : Rn} {way : Str} {often : Int} {m : Nat} {st : WorkS} (z : Z.Ok) (hw : way = backW ∨ way = onW) (h : Inv Z way often m st) (ho : st.over = .none) (hin : st.inner = none) : Inv Z way often m (riseW st).2 := by
  have bo : backW ≠ onW := by decide
  have rise : (st.way = onW ∨ st.jots = []) → Inv Z way often m { st with inner := some (mkInner st.mark st.jots.length) } := fun hc =>
    { h with
      inner := fun i e => by
        cases e
        rw [h.mark]
        refine ⟨m, Nat.le_refl _, h.mN, mkInner_at Z m _, by show (0 : Int) = _; omega, h.sentm, ?_⟩
        by_cases hj : st.jots = []
        · refine .inr ⟨?_, by show ((st.jots.length : Nat) : Int) = 0; rw [hj]; rfl, fun hw' => ?_, fun _ _ => by show ((st.jots.length : Nat) : Int) ≤ _; rw [hj]; simp, fun _ => rfl, fun e he => nomatch he⟩
          · rcases hw with rfl | rfl
            · have := (h.back rfl).1
              rw [hj] at this
              exact this
            · obtain ⟨q, a, b, c, d, _⟩ := h.on rfl
              rw [hj] at d
              rcases d with d | ⟨d, _⟩
              · cases d; exact c
              · cases d
          · obtain ⟨q, a, b, c, d, _⟩ := h.on hw'
            rw [hj] at d
            rcases d with d | ⟨d, _⟩
            · have d' : q = 0 := d.symm
              subst d'
              refine ⟨by show st.made = _; rw [a]; omega, fun _ => by show ((st.jots.length : Nat) : Int) = _; rw [hj]; simp⟩
            · cases d
        · have hpos : 0 < st.jots.length := List.length_pos_iff.mpr hj
          refine .inl ⟨?_, by show (0 : Int) < (st.jots.length : Nat); omega, Int.le_refl _, rfl, rfl, by show (m : Int) = m + (((st.jots.length : Nat) : Int) - (st.jots.length : Nat)); omega⟩
          rcases hc with hc | hc
          · rw [← h.wayE]; exact hc
          · exact absurd hc hj
      over := .inl ho }
  unfold riseW
  cases hg : st.jots.getLast? with
  | none => exact rise (.inr (List.getLast?_eq_none_iff.mp hg))
  | some e =>
    dsimp only
    by_cases hb : st.way = backW
    · rw [if_pos hb]
      have hwb : way = backW := h.wayE ▸ hb
      obtain ⟨js, ejs⟩ : ∃ js, st.jots = js ++ [e] := by
        obtain ⟨ys, hys⟩ := List.getLast?_eq_some_iff.mp hg
        exact ⟨ys, hys⟩
      have edl : st.jots.dropLast = js := by rw [ejs, List.dropLast_concat]
      obtain ⟨u, ju⟩ := h.back hwb
      refine { h with hok := ?_, jl := ?_, back := fun _ => ⟨?_, fun e' he' => ?_⟩, on := fun hon => absurd (hwb.symm.trans hon) bo, inner := ?_, over := .inl ho }
      · obtain ⟨k, _, k1, rfl, _⟩ := ju e (by rw [ejs]; simp)
        exact putFile_ok h.hok (z.eok k1).pos (z.eok k1).old
      · show ((st.jots.dropLast.length : Nat) : Int) ≤ _
        have := h.jl
        rw [List.length_dropLast]; omega
      · show undo st.jots.dropLast (putFile st.held e.file e.pos e.old) = _
        rw [edl, ← u, ejs, undo_app]; rfl
      · refine ju e' ?_
        have : e' ∈ st.jots.dropLast := he'
        rw [edl] at this
        rw [ejs]
        exact List.mem_append_left _ this
      · intro i ei
        have : st.inner = some i := ei
        rw [hin] at this
        cases this
    · rw [if_neg hb]
      exact rise (.inl (by rcases hw with rfl | rfl; exact absurd h.wayE hb; exact h.wayE))
end PM
set_option Elab.async false
set_option linter.all false
set_option maxRecDepth 100000
set_option maxHeartbeats 4000000
/-! The mathematics of works: each move keeps what is known of where a work stands. -/
namespace PM
open PySem PySem.Spec PyProof.Rows L2 DL

theorem bo : backW ≠ onW := by decide
/-! ### what a row changes -/
theorem eff_file {row : PRow} {at_ taken : Int} {ns hs : List Int} {fs : List (List Int)} (hn : ∀ p : Part, 0 ≤ p.worth ns ∨ True) (hz : (effect row at_ taken ns hs fs).fault = none) {f : Int} (hf : (effect row at_ taken ns hs fs).file = some f) :
    (effect row at_ taken ns hs fs).pos.toNat ≤ (fs.getD f.toNat []).length ∧ (effect row at_ taken ns hs fs).old = (fs.getD f.toNat []).drop (effect row at_ taken ns hs fs).pos.toNat ∧ changes row = true := by
  cases row with
  | set n p => cases hf
  | size n fl => cases hf
  | take n =>
    by_cases e : taken = (hs.length : Int)
    · have e2 : effect (.take n) at_ taken ns hs fs = _ := if_pos e
      rw [e2] at hz
      cases hz
    · have e2 : effect (.take n) at_ taken ns hs fs = _ := if_neg e
      rw [e2] at hf
      cases hf
  | get n fl p =>
    by_cases e : ((fs.getD fl.toNat []).length : Int) ≤ p.worth ns
    · have e2 : effect (.get n fl p) at_ taken ns hs fs = _ := if_pos e
      rw [e2] at hz
      cases hz
    · have e2 : effect (.get n fl p) at_ taken ns hs fs = _ := if_neg e
      rw [e2] at hf
      cases hf
  | add fl p =>
    cases hf
    refine ⟨?_, ?_, rfl⟩
    · show (((fs.getD f.toNat []).length : Nat) : Int).toNat ≤ _
      omega
    · show (fs.getD f.toNat []).drop (fs.getD f.toNat []).length = (fs.getD f.toNat []).drop (((fs.getD f.toNat []).length : Nat) : Int).toNat
      rw [Int.toNat_natCast]
  | put fl p q =>
    cases hf
    have e2 : effect (.put f p q) at_ taken ns hs fs = changedE (if ((fs.getD f.toNat []).length : Int) ≤ p.worth ns then { eff0 (at_ + 1) taken with fault := some "place" } else eff0 (at_ + 1) taken) f (fs.getD f.toNat []) (p.worth ns).toNat (q.worth ns :: (fs.getD f.toNat []).drop ((p.worth ns).toNat + 1)) := rfl
    rw [e2] at hz
    by_cases e : ((fs.getD f.toNat []).length : Int) ≤ p.worth ns
    · rw [if_pos e] at hz
      cases hz
    refine ⟨?_, ?_, rfl⟩
    · show (((p.worth ns).toNat : Nat) : Int).toNat ≤ _
      omega
    · show (fs.getD f.toNat []).drop (p.worth ns).toNat = (fs.getD f.toNat []).drop (((p.worth ns).toNat : Nat) : Int).toNat
      rw [Int.toNat_natCast]
  | cut fl p =>
    cases hf
    refine ⟨?_, ?_, rfl⟩
    · show ((min (p.worth ns).toNat (fs.getD f.toNat []).length : Nat) : Int).toNat ≤ _
      omega
    · show (fs.getD f.toNat []).drop (min (p.worth ns).toNat (fs.getD f.toNat []).length) = (fs.getD f.toNat []).drop ((min (p.worth ns).toNat (fs.getD f.toNat []).length : Nat) : Int).toNat
      rw [Int.toNat_natCast]
  | send p => cases hf
  | go r => cases hf
  | unl n r =>
    by_cases e : ns.getD n.toNat 0 = 0
    · have e2 : effect (.unl n r) at_ taken ns hs fs = _ := if_pos e
      rw [e2] at hf
      cases hf
    · have e2 : effect (.unl n r) at_ taken ns hs fs = _ := if_neg e
      rw [e2] at hf
      cases hf
  | mark => cases hf
theorem eff_changes {row : PRow} {at_ taken : Int} {ns hs : List Int} {fs : List (List Int)} (h : changes row = true) : ∃ f, (effect row at_ taken ns hs fs).file = some f := by
  cases row <;> first | exact ⟨_, rfl⟩ | cases h
theorem put_old {fs : List (List Int)} {f pos : Int} {old : List Int} (h2 : old = (fs.getD f.toNat []).drop pos.toNat) : putFile fs (some f) pos old = fs := by
  unfold putFile
  dsimp only
  rw [h2, List.take_append_drop, List.getD_eq_getElem?_getD]
  by_cases hl : f.toNat < fs.length
  · rw [List.getElem?_eq_getElem hl, Option.getD_some, List.set_getElem_self]
  · exact List.set_eq_of_length_le (by omega)
theorem put_put {fs : List (List Int)} {f pos : Int} {old new : List Int} (h1 : pos.toNat ≤ (fs.getD f.toNat []).length) : putFile (putFile fs (some f) pos new) (some f) pos old = putFile fs (some f) pos old := by
  unfold putFile
  dsimp only
  by_cases hl : f.toNat < fs.length
  · have e : (fs.set f.toNat (List.take pos.toNat (fs.getD f.toNat []) ++ new)).getD f.toNat [] = List.take pos.toNat (fs.getD f.toNat []) ++ new := by
      rw [List.getD_eq_getElem?_getD, List.getElem?_set_self hl]; rfl
    rw [e, List.set_set, List.take_append_of_le_length (by rw [List.length_take]; omega), List.take_take, Nat.min_self]
  · have hl2 : fs.length ≤ f.toNat := by omega
    simp only [List.set_eq_of_length_le hl2]
namespace Rn
variable {Z : Rn}
theorem Ok.file (h : Z.Ok) {k : Nat} (hk : k < Z.N) {f : Int} (hf : (Z.E k).file = some f) : (Z.E k).pos.toNat ≤ ((Z.T k).files.getD f.toNat []).length ∧ (Z.E k).old = ((Z.T k).files.getD f.toNat []).drop (Z.E k).pos.toNat ∧ changes (rowAt Z.rows (Z.T k).row) = true :=
  eff_file (fun _ => .inr True.intro) (h.alive hk).2.2 hf
theorem Ok.putOld (h : Z.Ok) {k : Nat} (hk : k < Z.N) : putFile (Z.T k).files (Z.E k).file (Z.E k).pos (Z.E k).old = (Z.T k).files := by
  cases hf : (Z.E k).file with
  | none => rfl
  | some f => exact put_old (h.file hk hf).2.1
theorem Ok.putBack (h : Z.Ok) {k : Nat} (hk : k < Z.N) : putFile (Z.T (k + 1)).files (Z.E k).file (Z.E k).pos (Z.E k).old = (Z.T k).files := by
  rw [← h.putOld hk]
  have e : (Z.T (k + 1)).files = putFile (Z.T k).files (Z.E k).file (Z.E k).pos (Z.E k).new := rfl
  rw [e]
  cases hf : (Z.E k).file with
  | none => rfl
  | some f =>
    rw [put_put (h.file hk hf).1, put_old (h.file hk hf).2.1]
end Rn
/-! ### the moves -/
section
variable {Z : Rn} {way : Str} {often : Int} {m : Nat} {st : WorkS} {i : InnerS}
theorem inv_go (z : Z.Ok) (h : Inv Z way often m st) (ho : st.over = .none) (hi : st.inner = some i) (ha : 0 < i.again) : Inv Z way often m (goW st i).2 := by
  obtain ⟨k, k0, k1, at_, si, sl, hc⟩ := h.inner i hi
  rcases hc with ⟨hw, _, a1, no, ou, ek⟩ | hc
  · obtain ⟨q, q1, q2, q3, q4, q5, q6⟩ := h.on hw
    have pl : (st.jots.length : Int) - i.again = (k : Int) - m := by omega
    have plN : ((st.jots.length : Int) - i.again).toNat = k - m := by omega
    have ej : st.jots.getD ((st.jots.length : Int) - i.again).toNat (eff0 0 0) = Z.E k := by
      rw [plN, List.getD_eq_getElem?_getD, q5 (k - m) (by omega), Nat.add_sub_cancel' k0]; rfl
    unfold goW
    dsimp only
    rw [ej]
    by_cases e : (st.jots.length : Int) - i.again = st.made
    · rw [if_pos e]
      rcases q4 with q4 | ⟨q4, q7⟩
      · omega
      have ekq : k = m + q := by omega
      refine { h with inner := fun j ej => ?_, over := .inl ho }
      cases ej
      refine ⟨k, k0, k1, at_.upd rfl rfl rfl rfl rfl, si, sl, .inr ⟨by rw [ekq]; exact q3, by show i.again - 1 = 0; omega, fun _ => ⟨by show st.made = _; rw [q1]; omega, (fun z => nomatch z)⟩, (fun _ z => nomatch z), (fun z => nomatch z), fun e' he' => ?_⟩⟩
      cases he'
      refine ⟨rfl, by omega, fun _ => by show ((st.jots.length : Nat) : Int) = _; omega, fun hb => absurd (hb.symm.trans hw) bo, fun ho => ?_⟩
      have : i.out = true := ho
      rw [ou] at this
      cases this
    · rw [if_neg e]
      have hq : k + 1 ≤ m + q := by omega
      refine { h with inner := fun j ej => ?_, over := .inl ho }
      cases ej
      have at1 : At Z (k + 1) (takeOver (Z.E k) { i with again := i.again - 1 }) := At.next (at_.upd rfl rfl rfl rfl rfl)
      refine ⟨k + 1, by omega, by omega, at1, by show i.since + 1 = _; omega, Nat.le_trans (Z.sent_le hq).length_le q6, ?_⟩
      by_cases e2 : i.again = 1
      · have ekq : k + 1 = m + q := by omega
        refine .inr ⟨by rw [ekq]; exact q3, by show i.again - 1 = 0; omega, fun _ => ⟨by show st.made = _; rw [q1]; omega, fun _ => by show ((st.jots.length : Nat) : Int) = _; omega⟩, fun hb => absurd (hb.symm.trans hw) bo, fun _ => ou, fun e' he' => ?_⟩
        have : i.noted = some e' := he'
        rw [no] at this
        cases this
      · exact .inl ⟨hw, by show 0 < i.again - 1; omega, by show i.again - 1 ≤ ((st.jots.length : Nat) : Int); omega, no, ou, by show ((k + 1 : Nat) : Int) = m + (((st.jots.length : Nat) : Int) - (i.again - 1)); omega⟩
  · have := hc.again
    omega
/-- it stands at a row's beginning: noted -/
theorem inv_notes (z : Z.Ok) (hw : way = backW ∨ way = onW) (h : Inv Z way often m st) (ho : st.over = .none) (hi : st.inner = some i) {k : Nat} (k0 : m ≤ k) (k1 : k < Z.N) (at_ : At Z k i) (si : i.since = (k : Int) - m) (sl : (Z.T k).sent.length ≤ st.letters.length) (ar : AtRow Z way m k st i) (no : i.noted = none) (hf : way = backW → ∃ f, (Z.E k).file = some f) :
    Inv Z way often m { st with jots := st.jots ++ [Z.E k], inner := some { i with noted := some (Z.E k) } } := by
  have lj : ((st.jots ++ [Z.E k]).length : Int) = st.jots.length + 1 := by rw [List.length_append]; simp
  refine { h with jl := ?_, back := fun hb => ⟨?_, fun e he => ?_⟩, on := fun hw => ?_, inner := fun j ej => ?_, over := .inl ho }
  · show (((st.jots ++ [Z.E k]).length : Nat) : Int) ≤ _
    rcases hw with hw | hw
    · have := ar.back hw no
      omega
    · have := (ar.on hw).2 no
      omega
  · show undo (st.jots ++ [Z.E k]) st.held = _
    rw [undo_app]
    have : undo [Z.E k] st.held = st.held := by
      show putFile st.held (Z.E k).file (Z.E k).pos (Z.E k).old = _
      rw [ar.held]; exact z.putOld k1
    rw [this]
    exact (h.back hb).1
  · rcases List.mem_append.mp he with he | he
    · exact (h.back hb).2 e he
    · cases List.mem_singleton.mp he
      exact ⟨k, k0, k1, rfl, hf hb⟩
  · obtain ⟨q, q1, q2, q3, q4, q5, q6⟩ := h.on hw
    obtain ⟨m1, j1⟩ := ar.on hw
    have j1 := j1 no
    have eq : q = k - m := by omega
    refine ⟨q, q1, q2, q3, .inr ⟨?_, by omega⟩, fun j hj => ?_, q6⟩
    · show (st.jots ++ [Z.E k]).length = _
      omega
    · have hj : j < (st.jots ++ [Z.E k]).length := hj
      show (st.jots ++ [Z.E k])[j]? = _
      by_cases e : j < st.jots.length
      · rw [List.getElem?_append_left e]; exact q5 j e
      · have e2 : j = st.jots.length := by omega
        rw [e2, List.getElem?_concat_length]
        have : m + st.jots.length = k := by omega
        rw [this]
  · cases ej
    refine ⟨k, k0, by omega, at_.upd rfl rfl rfl rfl rfl, si, sl, .inr ⟨ar.held, ar.again, fun hw => ⟨(ar.on hw).1, (fun z => nomatch z)⟩, (fun _ z => nomatch z), (fun z => nomatch z), fun e he => ?_⟩⟩
    cases he
    refine ⟨rfl, k1, fun hw => ?_, fun hb => ⟨?_, fun f _ => ?_⟩, fun ho => ?_⟩
    · show (((st.jots ++ [Z.E k]).length : Nat) : Int) = _
      have := (ar.on hw).2 no
      omega
    · show (((st.jots ++ [Z.E k]).length : Nat) : Int) ≤ _
      have := ar.back hb no
      omega
    · show (st.jots ++ [Z.E k]).getLast? = _
      exact List.getLast?_concat
    · have : i.out = true := ho
      rw [ar.nil_ no] at this
      cases this
end
end PM
set_option Elab.async false
set_option linter.all false
set_option maxRecDepth 100000
set_option maxHeartbeats 4000000
/-! The mathematics of works: sends, does, begins; a move. -/
namespace PM
open PySem PySem.Spec PyProof.Rows L2 DL
section
variable {Z : Rn} {way : Str} {often : Int} {m : Nat} {st : WorkS} {i : InnerS}
/-- the letter of the row that is noted goes out, or went out -/
theorem inv_sends (z : Z.Ok) (h : Inv Z way often m st) (ho : st.over = .none) (hi : st.inner = some i) {k : Nat} (k0 : m ≤ k) (k1 : k < Z.N) (at_ : At Z k i) (si : i.since = (k : Int) - m) (sl : (Z.T k).sent.length ≤ st.letters.length) (ar : AtRow Z way m k st i) (no : i.noted = some (Z.E k)) {v : Int} (hv : (Z.E k).letter = some v) :
    Inv Z way often m (sendsW st i v).2 := by
  obtain ⟨_, _, g1, g2, g3⟩ := ar.got _ no
  unfold sendsW
  have lets := at_.letters
  by_cases e : i.letters < (st.letters.length : Int)
  · rw [if_pos e]
    refine { h with inner := fun j ej => ?_, over := .inl ho }
    cases ej
    refine ⟨k, k0, by omega, at_.upd rfl rfl rfl rfl rfl, si, sl, .inr ⟨ar.held, ar.again, fun hw => ⟨(ar.on hw).1, fun hn => ?_⟩, fun _ hn => ?_, fun hn => ?_, fun e' he' => ?_⟩⟩
    · rw [show i.noted = none from hn] at no; cases no
    · rw [show i.noted = none from hn] at no; cases no
    · rw [show i.noted = none from hn] at no; cases no
    · have he' : i.noted = some e' := he'
      rw [no] at he'
      cases he'
      exact ⟨rfl, k1, g1, g2, fun _ => ⟨⟨v, hv⟩, by show _ ≤ st.letters.length; omega⟩⟩
  · rw [if_neg e]
    have el : st.letters.length = (Z.T k).sent.length := by omega
    have es : st.letters = (Z.T k).sent := by
      have p1 := h.sent
      have p2 := Z.sent_le (Nat.le_of_lt k1)
      rw [List.prefix_iff_eq_take] at p1 p2
      rw [p1, p2, el]
    have es1 : st.letters ++ [v] = (Z.T (k + 1)).sent := by
      rw [Z.sent_succ]
      unfold putSent
      rw [hv, es]
    have ll : (st.letters ++ [v]).length = st.letters.length + 1 := by rw [List.length_append]; rfl
    refine { h with sent := ?_, sentm := ?_, on := fun hw => ?_, inner := fun j ej => ?_, over := .inl ho }
    · show st.letters ++ [v] <+: _
      rw [es1]
      exact Z.sent_le (by omega)
    · show _ ≤ (st.letters ++ [v]).length
      have := h.sentm
      omega
    · obtain ⟨q, q1, q2, q3, q4, q5, q6⟩ := h.on hw
      exact ⟨q, q1, q2, q3, q4, q5, by show _ ≤ (st.letters ++ [v]).length; omega⟩
    · cases ej
      refine ⟨k, k0, by omega, at_.upd rfl rfl rfl rfl rfl, si, by show _ ≤ (st.letters ++ [v]).length; omega, .inr ⟨ar.held, ar.again, fun hw => ⟨(ar.on hw).1, fun hn => ?_⟩, fun _ hn => ?_, fun hn => ?_, fun e' he' => ?_⟩⟩
      · rw [show i.noted = none from hn] at no; cases no
      · rw [show i.noted = none from hn] at no; cases no
      · rw [show i.noted = none from hn] at no; cases no
      · have he' : i.noted = some e' := he'
        rw [no] at he'
        cases he'
        exact ⟨rfl, k1, g1, g2, fun _ => ⟨⟨v, hv⟩, by show _ ≤ (st.letters ++ [v]).length; omega⟩⟩
/-- the row that is noted is done -/
theorem inv_does (z : Z.Ok) (h : Inv Z way often m st) (ho : st.over = .none) (hi : st.inner = some i) {k : Nat} (k0 : m ≤ k) (k1 : k < Z.N) (at_ : At Z k i) (si : i.since = (k : Int) - m) (sl : (Z.T k).sent.length ≤ st.letters.length) (ar : AtRow Z way m k st i) (no : i.noted = some (Z.E k)) (hv : (Z.E k).letter = none ∨ i.out = true) :
    Inv Z way often m (doesW st i (Z.E k)).2 := by
  obtain ⟨_, _, g1, g2, g3⟩ := ar.got _ no
  have eh : putFile st.held (Z.E k).file (Z.E k).pos (Z.E k).new = (Z.T (k + 1)).files := by rw [ar.held]; rfl
  have sl1 : (Z.T (k + 1)).sent.length ≤ st.letters.length := by
    rw [Z.sent_succ]
    unfold putSent
    cases hl : (Z.E k).letter with
    | none => exact sl
    | some v =>
      rcases hv with hv | hv
      · rw [hl] at hv; cases hv
      · have := (g3 hv).2
        rw [List.length_append]; exact this
  refine { h with hok := ?_, back := fun hb => ⟨?_, (h.back hb).2⟩, on := fun hw => ?_, inner := fun j ej => ?_, over := .inl ho }
  · have := (z.tok (k := k + 1) (by omega)).files
    rw [← eh] at this
    exact this
  · show undo st.jots (putFile st.held (Z.E k).file (Z.E k).pos (Z.E k).new) = _
    have u := (h.back hb).1
    cases hf : (Z.E k).file with
    | none => exact u
    | some f =>
      obtain ⟨js, ejs⟩ := List.getLast?_eq_some_iff.mp ((g2 hb).2 f hf)
      rw [ejs, undo_app] at u ⊢
      rw [← hf, eh]
      have e1 : undo [Z.E k] (Z.T (k + 1)).files = (Z.T k).files := z.putBack k1
      have e2 : undo [Z.E k] st.held = (Z.T k).files := by rw [ar.held]; exact z.putOld k1
      rw [e1, ← e2]; exact u
  · have g1 := g1 hw
    obtain ⟨q, q1, q2, q3, q4, q5, q6⟩ := h.on hw
    refine ⟨st.jots.length, rfl, by omega, ?_, .inl rfl, q5, ?_⟩
    · show putFile st.held (Z.E k).file (Z.E k).pos (Z.E k).new = _
      have : m + st.jots.length = k + 1 := by omega
      rw [eh, this]
    · show (Z.T (m + st.jots.length)).sent.length ≤ st.letters.length
      have : m + st.jots.length = k + 1 := by omega
      rw [this]; exact sl1
  · cases ej
    refine ⟨k + 1, by omega, by omega, At.next (at_.upd rfl rfl rfl rfl rfl), by show i.since + 1 = _; omega, sl1, .inr ⟨eh, ar.again, fun hw => ⟨?_, fun _ => ?_⟩, fun hb _ => ?_, fun _ => rfl, (fun e he => nomatch he)⟩⟩
    · have := g1 hw
      show ((st.jots.length : Nat) : Int) = _
      omega
    · have := g1 hw
      show ((st.jots.length : Nat) : Int) = _
      omega
    · have := (g2 hb).1
      show ((st.jots.length : Nat) : Int) ≤ _
      omega
theorem inv_done (z : Z.Ok) (h : Inv Z way often m st) (ho : st.over = .none) (hi : st.inner = some i) {e : Eff} (no : i.noted = some e) : Inv Z way often m (doneW st i e).2 := by
  obtain ⟨k, k0, k1, at_, si, sl, hc⟩ := h.inner i hi
  rcases hc with ⟨_, _, _, no', _⟩ | ar
  · rw [no'] at no; cases no
  obtain ⟨rfl, k2, _⟩ := ar.got e no
  unfold doneW
  cases hl : (Z.E k).letter with
  | none => exact inv_does z h ho hi k0 k2 at_ si sl ar no (.inl hl)
  | some v =>
    cases hout : i.out with
    | false => exact inv_sends z h ho hi k0 k2 at_ si sl ar no hl
    | true => exact inv_does z h ho hi k0 k2 at_ si sl ar no (.inr hout)
/-- how the run stops, by what a work sees of it -/
theorem stop_end (z : Z.Ok) {k : Nat} (k1 : k ≤ Z.N) (h : ¬ (Z.T k).row < Z.rows.length) : k = Z.N ∧ Z.how = told1 "end" := by
  have e : k = Z.N := by
    by_cases e : k < Z.N
    · exact absurd (z.alive e).1 h
    · omega
  subst e
  have a := z.at_
  unfold stopAt at a
  rw [if_pos h] at a
  exact ⟨rfl, (Option.some.inj a).symm⟩
theorem stop_long (z : Z.Ok) {k : Nat} (k1 : k ≤ Z.N) (h : (Z.T k).row < Z.rows.length) (e : k = 1000) : k = Z.N ∧ Z.how = told1 "long" := by
  have e2 : k = Z.N := by have := z.le; omega
  subst e2
  have a := z.at_
  unfold stopAt at a
  rw [if_neg (by exact fun w => w h), if_pos e] at a
  exact ⟨rfl, (Option.some.inj a).symm⟩
theorem stop_fault (z : Z.Ok) {k : Nat} (k1 : k ≤ Z.N) (h : (Z.T k).row < Z.rows.length) (e : k ≠ 1000) {f : Str} (hf : (Z.E k).fault = some f) : k = Z.N ∧ Z.how = .tuple [.str "fault", .str f] := by
  have e2 : k = Z.N := by
    by_cases e2 : k < Z.N
    · rw [(z.alive e2).2.2] at hf; cases hf
    · omega
  subst e2
  have a := z.at_
  unfold stopAt at a
  rw [if_neg (by exact fun w => w h), if_neg e, show (runEff Z.rows Z.hs (Z.T Z.N)).fault = some f from hf] at a
  exact ⟨rfl, (Option.some.inj a).symm⟩
theorem stop_not (z : Z.Ok) {k : Nat} (k1 : k ≤ Z.N) (h : (Z.T k).row < Z.rows.length) (e : k ≠ 1000) (hf : (Z.E k).fault = none) : k < Z.N := by
  by_cases e2 : k < Z.N
  · exact e2
  have e3 : k = Z.N := by omega
  subst e3
  have a := z.at_
  unfold stopAt at a
  rw [if_neg (by exact fun w => w h), if_neg e, show (runEff Z.rows Z.hs (Z.T Z.N)).fault = none from hf] at a
  cases a
theorem inv_ends (h : Inv Z way often m st) (hi : st.inner = some i) (at_ : At Z Z.N i) (ar : AtRow Z way m Z.N st i) (sl : (Z.T Z.N).sent.length ≤ st.letters.length) (no : i.noted = none) : Inv Z way often m (endsW st Z.how).2 :=
  { h with
    inner := fun j ej => by
      obtain ⟨k, k0, k1, a, b, c, d⟩ := h.inner j ej
      refine ⟨k, k0, k1, a, b, c, d.imp id fun x => ⟨x.held, x.again, x.on, x.back, x.nil_, x.got⟩⟩
    over := .inr ⟨rfl, ar.held, h.sent.eq_of_length (by have := h.sent.length_le; omega), fun j ej => by
      have ej : st.inner = some j := ej
      rw [hi] at ej
      cases ej
      exact ⟨at_, ⟨ar.held, ar.again, ar.on, ar.back, ar.nil_, ar.got⟩, no⟩⟩ }
theorem inv_begin (z : Z.Ok) (hw : way = backW ∨ way = onW) (h : Inv Z way often m st) (ho : st.over = .none) (hi : st.inner = some i) (ha : ¬ 0 < i.again) (no : i.noted = none) : ∃ m', m ≤ m' ∧ Inv Z way often m' (beginW st i).2 := by
  obtain ⟨k, k0, k1, at_, si, sl, hc⟩ := h.inner i hi
  rcases hc with ⟨_, a, _⟩ | ar
  · exact absurd a ha
  have ou := ar.nil_ no
  have tk := z.tok k1
  unfold beginW
  by_cases c1 : i.row = st.rows.length
  · rw [if_pos c1]
    obtain ⟨rfl, e⟩ := stop_end z k1 (by rw [← at_.row, c1, h.rows]; omega)
    rw [← e]
    exact ⟨m, Nat.le_refl _, inv_ends h hi at_ ar sl no⟩
  rw [if_neg c1]
  have hr : (Z.T k).row < Z.rows.length := by
    rw [h.rows, at_.row] at c1
    have := tk.row
    omega
  by_cases c2 : i.passed = 1000
  · rw [if_pos c2]
    obtain ⟨rfl, e⟩ := stop_long z k1 hr (by have := at_.passed; omega)
    rw [← e]
    exact ⟨m, Nat.le_refl _, inv_ends h hi at_ ar sl no⟩
  rw [if_neg c2]
  have hk : k ≠ 1000 := by have := at_.passed; omega
  by_cases c3 : 0 < st.often ∧ st.often ≤ i.since
  · rw [if_pos c3]
    exact ⟨k, k0, inv_keep h.rows h.handed h.wayE h.oftenE k1 at_ ar.held ar.again no ou h.sent sl ho z⟩
  rw [if_neg c3, at_.eff h.rows h.handed ar.held]
  cases hf : (Z.E k).fault with
  | some f =>
    obtain ⟨rfl, e⟩ := stop_fault z k1 hr hk hf
    dsimp only
    rw [← e]
    exact ⟨m, Nat.le_refl _, inv_ends h hi at_ ar sl no⟩
  | none =>
    have k2 := stop_not z k1 hr hk hf
    dsimp only
    have er : rowAt st.rows i.row = rowAt Z.rows (Z.T k).row := by rw [h.rows, at_.row]
    by_cases c4 : isMark (rowAt st.rows i.row) = true
    · rw [if_pos c4]
      have em : rowAt Z.rows (Z.T k).row = .mark := by
        rw [er] at c4
        cases hx : rowAt Z.rows (Z.T k).row <;> rw [hx] at c4 <;> first | rfl | cases c4
      have ee : Z.E k = eff0 ((Z.T k).row + 1) (Z.T k).taken := by
        unfold Rn.E runEff
        rw [em]; rfl
      have el : (Z.E k).letter = none := by rw [ee]; rfl
      have ef : (Z.T (k + 1)).files = (Z.T k).files := by
        show putFile (Z.T k).files (Z.E k).file (Z.E k).pos (Z.E k).new = _
        rw [ee]; rfl
      have es : (Z.T (k + 1)).sent = (Z.T k).sent := by
        rw [Z.sent_succ]
        unfold putSent
        rw [el]
      exact ⟨k + 1, by omega, inv_keep (st := { st with count := st.count + 1 }) h.rows h.handed h.wayE h.oftenE (by omega) at_.next (ar.held.trans ef.symm) ar.again no ou h.sent (by rw [es]; exact sl) ho z⟩
    · rw [if_neg c4]
      by_cases c5 : st.way = onW ∨ changes (rowAt st.rows i.row) = true
      · rw [if_pos c5]
        refine ⟨m, Nat.le_refl _, inv_notes z hw h ho hi k0 k2 at_ si sl ar no fun hb => ?_⟩
        rcases c5 with c5 | c5
        · exact absurd (hb.symm.trans (h.wayE.symm.trans c5)) bo
        · rw [er] at c5
          exact eff_changes c5
      · rw [if_neg c5]
        have hb : way = backW := hw.resolve_right fun z => c5 (.inl (h.wayE.trans z))
        have fn : (Z.E k).file = none := by
          cases hx : (Z.E k).file with
          | none => rfl
          | some f =>
            have := (z.file k2 hx).2.2
            rw [← er] at this
            exact absurd (.inr this) c5
        have h2 : Inv Z way often m { st with inner := some { i with noted := some (Z.E k) } } := by
          refine { h with inner := fun j ej => ?_, over := .inl ho }
          cases ej
          refine ⟨k, k0, k1, at_.upd rfl rfl rfl rfl rfl, si, sl, .inr ⟨ar.held, ar.again, fun hon => absurd (hb.symm.trans hon) bo, (fun _ z => nomatch z), (fun z => nomatch z), fun e he => ?_⟩⟩
          cases he
          refine ⟨rfl, k2, fun hon => absurd (hb.symm.trans hon) bo, fun _ => ⟨?_, fun f hf => ?_⟩, fun hou => ?_⟩
          · have := ar.back hb no
            show ((st.jots.length : Nat) : Int) ≤ _
            omega
          · rw [fn] at hf; cases hf
          · have : i.out = true := hou
            rw [ou] at this
            cases this
        exact ⟨m, Nat.le_refl _, inv_done z h2 ho rfl rfl⟩
theorem over_some {d : PyData} (h : d ≠ .none) {st : WorkS} (e : st.over = d) : isOver st = true := by
  unfold isOver
  rw [e]
  cases d <;> first | rfl | exact absurd rfl h
theorem how_some (z : Z.Ok) : Z.how ≠ .none := by
  have a := z.at_
  unfold stopAt at a
  split at a
  · rw [← Option.some.inj a]; exact fun z => nomatch z
  · split at a
    · rw [← Option.some.inj a]; exact fun z => nomatch z
    · intro e
      rw [e] at a
      cases hf : (runEff Z.rows Z.hs (Z.T Z.N)).fault with
      | none => rw [hf] at a; cases a
      | some f => rw [hf] at a; cases a
theorem over_none (h : Inv Z way often m st) (ho : isOver st = false) : st.over = .none := by
  unfold isOver at ho
  split at ho
  · assumption
  · cases ho
theorem inv_move (z : Z.Ok) (hw : way = backW ∨ way = onW) (h : Inv Z way often m st) : ∃ m', m ≤ m' ∧ Inv Z way often m' (moveW st).2 := by
  unfold moveW
  by_cases ho : isOver st = true
  · rw [if_pos ho]; exact ⟨m, Nat.le_refl _, h⟩
  rw [if_neg ho]
  have ho' := over_none h (by cases hx : isOver st with | true => exact absurd hx ho | false => rfl)
  cases hi : st.inner with
  | none => exact ⟨m, Nat.le_refl _, inv_rise z hw h ho' hi⟩
  | some i =>
    dsimp only
    by_cases ha : 0 < i.again
    · rw [if_pos ha]; exact ⟨m, Nat.le_refl _, inv_go z h ho' hi ha⟩
    rw [if_neg ha]
    cases no : i.noted with
    | none => exact inv_begin z hw h ho' hi ha no
    | some e => exact ⟨m, Nat.le_refl _, inv_done z h ho' hi no⟩
end
end PM
set_option Elab.async false
set_option linter.all false
set_option maxRecDepth 100000
set_option maxHeartbeats 4000000
/-! The mathematics of works: how many moves are left; the works' states are as the walk asks. -/
namespace PM
open PySem PySem.Spec PyProof.Rows L2 DL
def muI (N often : Int) (i : InnerS) : Int := if 0 < i.again then i.again + 4 * (N - i.passed) + 2 else match i.noted with
  | some _ => 4 * (N - i.passed) - one i.out
  | none => 4 * (N - i.passed) + 1 + (if 0 < often ∧ often ≤ i.since then 1 else 0)
def mu (N : Int) (st : WorkS) : Int := if isOver st = true then 0 else match st.inner with
  | none => st.jots.length + 4 * (N - st.mark.passed) + 3
  | some i => muI N st.often i
theorem one_le (b : Bool) : 0 ≤ one b ∧ one b ≤ 1 := by cases b <;> decide
theorem notOver {st : WorkS} (h : st.over = .none) : isOver st = false := by unfold isOver; rw [h]
theorem mu_in {N : Int} {st : WorkS} {i : InnerS} (h : st.over = .none) (hi : st.inner = some i) : mu N st = muI N st.often i := by
  unfold mu
  rw [notOver h, if_neg Bool.false_ne_true, hi]
theorem mu_no {N : Int} {st : WorkS} (h : st.over = .none) (hi : st.inner = none) : mu N st = st.jots.length + 4 * (N - st.mark.passed) + 3 := by
  unfold mu
  rw [notOver h, if_neg Bool.false_ne_true, hi]
theorem muI_again {N often : Int} {i : InnerS} (h : 0 < i.again) : muI N often i = i.again + 4 * (N - i.passed) + 2 := by unfold muI; rw [if_pos h]
theorem muI_noted {N often : Int} {i : InnerS} {e : Eff} (h : ¬ 0 < i.again) (no : i.noted = some e) : muI N often i = 4 * (N - i.passed) - one i.out := by unfold muI; rw [if_neg h, no]
theorem muI_none {N often : Int} {i : InnerS} (h : ¬ 0 < i.again) (no : i.noted = none) : muI N often i = 4 * (N - i.passed) + 1 + (if 0 < often ∧ often ≤ i.since then 1 else 0) := by unfold muI; rw [if_neg h, no]
theorem muI_le {N often : Int} {i : InnerS} (h : ¬ 0 < i.again) : muI N often i ≤ 4 * (N - i.passed) + 2 := by
  have := one_le i.out
  cases no : i.noted with
  | none => rw [muI_none h no]; split <;> omega
  | some e => rw [muI_noted h no]; omega
theorem lt_in {N X : Int} (st : WorkS) {i : InnerS} (hi : st.inner = some i) (h : st.over = .none) (q : muI N st.often i < X) : mu N st < X := by rw [mu_in h hi]; exact q
theorem mu_over {N : Int} {st : WorkS} (h : isOver st = true) : mu N st = 0 := by unfold mu; rw [if_pos h]
section
variable {Z : Rn} {way : Str} {often : Int} {m : Nat} {st : WorkS} {i : InnerS}
theorem mu_done {N : Int} {e : Eff} (ho : st.over = .none) (hi : st.inner = some i) (ha : ¬ 0 < i.again) (no : i.noted = some e) : mu N (doneW st i e).2 < 4 * (N - i.passed) - one i.out ∧ (doneW st i e).2.over = .none := by
  have does : mu N (doesW st i e).2 < 4 * (N - i.passed) - one i.out ∧ (doesW st i e).2.over = .none := by
    refine ⟨?_, ho⟩
    refine lt_in _ (i := takeOver e { i with noted := none, out := false }) rfl ho ?_
    have h1 := muI_le (N := N) (often := st.often) (i := takeOver e { i with noted := none, out := false }) ha
    have := one_le i.out
    have e2 : (takeOver e { i with noted := none, out := false }).passed = i.passed + 1 := rfl
    rw [e2] at h1
    show muI N st.often (takeOver e { i with noted := none, out := false }) < _
    omega
  unfold doneW
  cases e.letter with
  | none => exact does
  | some v =>
    cases hout : i.out with
    | true => rw [hout] at does; exact does
    | false =>
      dsimp only
      unfold sendsW
      split
      · refine ⟨?_, ho⟩
        refine lt_in _ (i := { i with out := true }) rfl ho ?_
        rw [muI_noted (i := { i with out := true }) (e := e) ha no]
        show 4 * (N - i.passed) - 1 < 4 * (N - i.passed) - 0
        omega
      · refine ⟨?_, ho⟩
        refine lt_in _ (i := { i with out := true }) rfl ho ?_
        rw [muI_noted (i := { i with out := true }) (e := e) ha no]
        show 4 * (N - i.passed) - 1 < 4 * (N - i.passed) - 0
        omega
theorem mu_keep {N : Int} (ho : st.over = .none) (ha : ¬ 0 < i.again) (no : i.noted = none) : mu N (keepW st i).2 = 4 * (N - i.passed) + 1 := by
  rw [mu_in (st := (keepW st i).2) (i := { i with since := 0 }) ho rfl, muI_none (i := { i with since := 0 }) ha no, if_neg (by rintro ⟨a, b⟩; have b : _ ≤ (0 : Int) := b; omega)]
  show 4 * (N - i.passed) + 1 + 0 = _
  omega
theorem mu_begin {N : Int} (ho : st.over = .none) (ha : ¬ 0 < i.again) (no : i.noted = none) (hp : i.passed ≤ N) : mu N (beginW st i).2 < muI N st.often i := by
  rw [muI_none ha no]
  have hs : 0 ≤ (if 0 < st.often ∧ st.often ≤ i.since then (1 : Int) else 0) := by split <;> decide
  unfold beginW
  by_cases c1 : i.row = st.rows.length
  · rw [if_pos c1, mu_over (by rfl)]; omega
  rw [if_neg c1]
  by_cases c2 : i.passed = 1000
  · rw [if_pos c2, mu_over (by rfl)]; omega
  rw [if_neg c2]
  by_cases c3 : 0 < st.often ∧ st.often ≤ i.since
  · rw [if_pos c3, mu_keep ho ha no, if_pos c3]; omega
  rw [if_neg c3, if_neg c3]
  cases hf : (effAt st i).fault with
  | some f =>
    dsimp only
    rw [mu_over (by rfl)]; omega
  | none =>
    dsimp only
    by_cases c4 : isMark (rowAt st.rows i.row) = true
    · rw [if_pos c4, mu_keep (st := { st with count := st.count + 1 }) (i := takeOver (effAt st i) i) ho ha no]
      show 4 * (N - (i.passed + 1)) + 1 < _
      omega
    rw [if_neg c4]
    by_cases c5 : st.way = onW ∨ changes (rowAt st.rows i.row) = true
    · rw [if_pos c5]
      refine lt_in _ (i := { i with noted := some (effAt st i) }) rfl ho ?_
      rw [muI_noted (i := { i with noted := some (effAt st i) }) (e := effAt st i) ha rfl]
      have := one_le i.out
      show 4 * (N - i.passed) - one i.out < _
      omega
    · rw [if_neg c5]
      have := (mu_done (N := N) (st := { st with inner := some { i with noted := some (effAt st i) } }) (i := { i with noted := some (effAt st i) }) (e := effAt st i) ho rfl ha rfl).1
      have h1 := one_le i.out
      have e2 : ({ i with noted := some (effAt st i) } : InnerS).passed = i.passed := rfl
      have e3 : ({ i with noted := some (effAt st i) } : InnerS).out = i.out := rfl
      rw [e2, e3] at this
      omega
theorem mu_go {N : Int} (ho : st.over = .none) (ha : 0 < i.again) : mu N (goW st i).2 < muI N st.often i := by
  rw [muI_again ha]
  unfold goW
  dsimp only
  split
  · refine lt_in _ (i := { i with again := i.again - 1, noted := some (st.jots.getD ((st.jots.length : Int) - i.again).toNat (eff0 0 0)) }) rfl ho ?_
    by_cases e : i.again = 1
    · have := muI_le (N := N) (often := st.often) (i := { i with again := i.again - 1, noted := some (st.jots.getD ((st.jots.length : Int) - i.again).toNat (eff0 0 0)) }) (by show ¬ 0 < i.again - 1; omega)
      refine Int.lt_of_le_of_lt this ?_
      show 4 * (N - i.passed) + 2 < _
      omega
    · rw [muI_again (by show 0 < i.again - 1; omega)]
      show i.again - 1 + 4 * (N - i.passed) + 2 < _
      omega
  · refine lt_in _ (i := takeOver (st.jots.getD ((st.jots.length : Int) - i.again).toNat (eff0 0 0)) { i with again := i.again - 1 }) rfl ho ?_
    by_cases e : i.again = 1
    · have := muI_le (N := N) (often := st.often) (i := takeOver (st.jots.getD ((st.jots.length : Int) - i.again).toNat (eff0 0 0)) { i with again := i.again - 1 }) (by show ¬ 0 < i.again - 1; omega)
      refine Int.lt_of_le_of_lt this ?_
      show 4 * (N - (i.passed + 1)) + 2 < _
      omega
    · rw [muI_again (by show 0 < i.again - 1; omega)]
      show i.again - 1 + 4 * (N - (i.passed + 1)) + 2 < _
      omega
theorem mu_rise {N : Int} (ho : st.over = .none) (hi : st.inner = none) : mu N (riseW st).2 < mu N st := by
  rw [mu_no ho hi]
  have rise : mu N { st with inner := some (mkInner st.mark st.jots.length) } < (st.jots.length : Int) + 4 * (N - st.mark.passed) + 3 := by
    refine lt_in _ (i := mkInner st.mark st.jots.length) rfl ho ?_
    by_cases e : 0 < st.jots.length
    · rw [muI_again (by show 0 < ((st.jots.length : Nat) : Int); omega)]
      show ((st.jots.length : Nat) : Int) + 4 * (N - st.mark.passed) + 2 < _
      omega
    · have := muI_le (N := N) (often := st.often) (i := mkInner st.mark st.jots.length) (by show ¬ 0 < ((st.jots.length : Nat) : Int); omega)
      refine Int.lt_of_le_of_lt this ?_
      show 4 * (N - st.mark.passed) + 2 < _
      omega
  unfold riseW
  cases hg : st.jots.getLast? with
  | none => exact rise
  | some e =>
    dsimp only
    by_cases hb : st.way = backW
    · rw [if_pos hb, mu_no (st := { st with jots := st.jots.dropLast, held := putFile st.held e.file e.pos e.old }) ho hi]
      show ((st.jots.dropLast.length : Nat) : Int) + 4 * (N - st.mark.passed) + 3 < _
      have : st.jots ≠ [] := by rintro z; rw [z] at hg; cases hg
      have := List.length_pos_iff.mpr this
      rw [List.length_dropLast]; omega
    · rw [if_neg hb]; exact rise
theorem mu_move (h : Inv Z way often m st) (ho : isOver st = false) : mu Z.N (moveW st).2 < mu Z.N st := by
  have ho' := over_none h ho
  unfold moveW
  rw [if_neg (by rw [ho]; exact Bool.false_ne_true)]
  cases hi : st.inner with
  | none => exact mu_rise ho' hi
  | some i =>
    dsimp only
    rw [mu_in (st := st) ho' hi]
    by_cases ha : 0 < i.again
    · rw [if_pos ha]; exact mu_go ho' ha
    rw [if_neg ha]
    obtain ⟨k, k0, k1, at_, _⟩ := h.inner i hi
    cases no : i.noted with
    | none => exact mu_begin ho' ha no (by rw [at_.passed]; omega)
    | some e =>
      rw [muI_noted ha no]
      exact (mu_done ho' hi ha no).1
theorem mu_pos (h : Inv Z way often m st) (ho : isOver st = false) : 0 < mu Z.N st := by
  have ho' := over_none h ho
  cases hi : st.inner with
  | none =>
    rw [mu_no ho' hi, h.mark]
    have := h.mN
    show 0 < ((st.jots.length : Nat) : Int) + 4 * (Z.N - (m : Int)) + 3
    omega
  | some i =>
    rw [mu_in ho' hi]
    obtain ⟨k, k0, k1, at_, si, sl, hc⟩ := h.inner i hi
    have hp := at_.passed
    rcases hc with ⟨_, a, _⟩ | ar
    · rw [muI_again a]; omega
    · have ha : ¬ 0 < i.again := by have := ar.again; omega
      cases no : i.noted with
      | none => rw [muI_none ha no]; split <;> omega
      | some e =>
        obtain ⟨_, k2, _⟩ := ar.got e no
        have := one_le i.out
        rw [muI_noted ha no]; omega
theorem mu_most (z : Z.Ok) (h : Inv Z way often m st) : mu Z.N st ≤ 5003 := by
  by_cases ho : isOver st = true
  · rw [mu_over ho]; decide
  have ho' := over_none h (by cases hx : isOver st with | true => exact absurd hx ho | false => rfl)
  have n1 := z.le
  have jl := h.jl
  have mN := h.mN
  cases hi : st.inner with
  | none =>
    rw [mu_no ho' hi, h.mark]
    show ((st.jots.length : Nat) : Int) + 4 * (Z.N - (m : Int)) + 3 ≤ 5003
    omega
  | some i =>
    rw [mu_in ho' hi]
    obtain ⟨k, k0, k1, at_, si, sl, hc⟩ := h.inner i hi
    have hp := at_.passed
    rcases hc with ⟨_, a, b, _⟩ | ar
    · rw [muI_again a]; omega
    · have ha : ¬ 0 < i.again := by have := ar.again; omega
      have := muI_le (N := Z.N) (often := st.often) ha
      omega
/-! ### as the walk asks -/
theorem Inv.ok (z : Z.Ok) (hw : way = backW ∨ way = onW) (h : Inv Z way often m st) : WorkOk Z.nN Z.nF st where
  rows := by rw [h.rows]; exact z.rok
  handed := by rw [h.handed]; exact z.hh
  held := h.hok
  mark := by
    have t := z.tok h.mN
    rw [h.mark, h.handed, h.rows]
    exact ⟨t.row, t.names, t.taken⟩
  jots := fun e he => by
    rw [h.handed, h.rows]
    rcases hw with hw | hw
    · obtain ⟨k, _, k1, rfl, _⟩ := (h.back hw).2 e he
      exact z.eok k1
    · obtain ⟨q, q1, q2, q3, q4, q5, q6⟩ := h.on hw
      obtain ⟨j, hj⟩ := List.mem_iff_getElem?.mp he
      obtain ⟨hl, _⟩ := List.getElem?_eq_some_iff.mp hj
      rw [q5 j hl] at hj
      cases hj
      exact z.eok (by omega)
  back := fun hb e he => by
    obtain ⟨k, _, k1, rfl, f⟩ := (h.back (h.wayE.symm.trans hb)).2 e he
    exact f
  inner := fun i hi => by
    obtain ⟨k, k0, k1, at_, si, sl, hc⟩ := h.inner i hi
    have t := z.tok k1
    rw [h.handed, h.rows]
    refine ⟨by rw [at_.row]; exact t.row, by rw [at_.names]; exact t.names, by rw [at_.taken]; exact t.taken, fun e he => ?_, ?_⟩
    · rcases hc with ⟨_, _, _, no, _⟩ | ar
      · rw [no] at he; cases he
      · obtain ⟨rfl, k2, _⟩ := ar.got e he
        exact z.eok k2
    · rcases hc with ⟨_, a, b, no, _⟩ | ar
      · omega
      · have := ar.again
        omega
theorem inv_new (z : Z.Ok) {p : Prog} {hs : List Int} (e1 : p.rows = Z.rows) (e2 : hs = Z.hs) (e3 : Z.r0 = run0 p) : Inv Z way often 0 (newW p hs way often) where
  rows := e1
  handed := e2
  wayE := rfl
  oftenE := rfl
  mN := Nat.zero_le _
  mark := by
    show MarkS.mk 0 (List.replicate p.names.toNat 0) 0 0 0 = ⟨Z.r0.row, Z.r0.names, Z.r0.taken, ((0 : Nat) : Int), Z.r0.sent.length⟩
    rw [e3]; rfl
  sent := List.nil_prefix
  sentm := by show Z.r0.sent.length ≤ _; rw [e3]; exact Nat.zero_le _
  hok := by
    have := z.r0ok.files
    rw [e3] at this
    exact this
  jl := by show ((([] : List Eff).length : Nat) : Int) ≤ _; simp
  back := fun _ => ⟨by show _ = Z.r0.files; rw [e3]; rfl, (fun e he => nomatch he)⟩
  on := fun _ => ⟨0, rfl, Nat.zero_le _, by show _ = Z.r0.files; rw [e3]; rfl, .inl rfl, (fun j hj => absurd hj (Nat.not_lt_zero _)), by show Z.r0.sent.length ≤ _; rw [e3]; exact Nat.zero_le _⟩
  inner := fun i hi => by
    cases hi
    refine ⟨0, Nat.le_refl _, Nat.zero_le _, ⟨by show _ = Z.r0.row; rw [e3]; rfl, by show _ = Z.r0.names; rw [e3]; rfl, by show _ = Z.r0.taken; rw [e3]; rfl, rfl, by show _ = ((Z.r0.sent.length : Nat) : Int); rw [e3]; rfl⟩, by show (0 : Int) = _; simp, by show Z.r0.sent.length ≤ _; rw [e3]; exact Nat.zero_le _, .inr ⟨by show _ = Z.r0.files; rw [e3]; rfl, rfl, fun _ => ⟨rfl, fun _ => rfl⟩, fun _ _ => Int.le_refl _, fun _ => rfl, (fun e he => nomatch he)⟩⟩
  over := .inl rfl
theorem sent_len (z : Z.Ok) : ∀ k, (Z.T k).sent.length ≤ k
  | 0 => by show Z.r0.sent.length ≤ 0; rw [z.s0]; exact Nat.le_refl _
  | k + 1 => by
    have ih := sent_len z k
    rw [Z.sent_succ]
    unfold putSent
    cases (Z.E k).letter with
    | none => exact Nat.le_succ_of_le ih
    | some v => rw [List.length_append]; exact Nat.succ_le_succ ih
theorem Inv.room (z : Z.Ok) (h : Inv Z way often m st) : st.letters.length ≤ 1000 ∧ st.jots.length ≤ 1000 := by
  have h1 := h.sent.length_le
  have h2 := sent_len z Z.N
  have h3 := z.le
  have h4 := h.jl
  exact ⟨by omega, by omega⟩
theorem mk_run {p : Prog} {hs : List Int} (hp : p.ok) (hh : HandedOk hs) : ∃ Z : Rn, Z.Ok ∧ Z.rows = p.rows ∧ Z.hs = hs ∧ Z.r0 = run0 p ∧ Z.nN = p.names.toNat ∧ Z.nF = p.files.toNat ∧ runW p hs = (Z.how, Z.T Z.N, 1000 - Z.N) := by
  obtain ⟨N, how, a, b, c, d⟩ := run_ends p.rows hs (run0 p) 1000 0 rfl (fun j hj => absurd hj (Nat.not_lt_zero _))
  have hn := hp.n
  have hf := hp.f
  refine ⟨⟨p.rows, hs, run0 p, N, how, p.names.toNat, p.files.toNat⟩, ⟨a, b, c, fun r hr => ?_, fun x hx => (hh.2 x hx).1, ?_, rfl⟩, rfl, rfl, rfl, rfl, rfl, d⟩
  · show r.ok ((p.names.toNat : Nat) : Int) ((p.files.toNat : Nat) : Int) p.rows.length
    rw [toNat_cast (by omega), toNat_cast (by omega)]
    exact hp.r r hr
  · refine ⟨⟨Int.le_refl _, by show (0 : Int) ≤ _; omega⟩, ⟨Int.le_refl _, by show (0 : Int) ≤ _; omega⟩, ⟨List.length_replicate, fun x hx => ?_⟩, List.length_replicate, fun f hf => ?_⟩
    · rw [List.eq_of_mem_replicate hx]; exact Int.le_refl _
    · rw [List.eq_of_mem_replicate hf]; exact ⟨Nat.zero_le _, NN.nil⟩
end
end PM
set_option Elab.async false
set_option linter.all false
set_option maxRecDepth 100000
set_option maxHeartbeats 4000000
/-! The mathematics of works: what moves tell, as data. -/
namespace PM
open PySem PySem.Spec PyProof.Rows L2 DL
abbrev restsD : PyData := told1 "rests"
def faults : List Str := ["none", "place", "full"]
theorem fault_ok {row : PRow} {at_ taken : Int} {ns hs : List Int} {fs : List (List Int)} {f : Str} (h : (effect row at_ taken ns hs fs).fault = some f) : f ∈ faults := by
  have m1 : ("none" : Str) ∈ faults := List.mem_cons_self
  have m2 : ("place" : Str) ∈ faults := List.mem_cons_of_mem _ List.mem_cons_self
  have m3 : ("full" : Str) ∈ faults := List.mem_cons_of_mem _ (List.mem_cons_of_mem _ List.mem_cons_self)
  cases row with
  | take n =>
    by_cases e : taken = (hs.length : Int)
    · have e2 : effect (.take n) at_ taken ns hs fs = _ := if_pos e
      rw [e2] at h
      cases h; exact m1
    · have e2 : effect (.take n) at_ taken ns hs fs = _ := if_neg e
      rw [e2] at h
      cases h
  | get n fl p =>
    by_cases e : ((fs.getD fl.toNat []).length : Int) ≤ p.worth ns
    · have e2 : effect (.get n fl p) at_ taken ns hs fs = _ := if_pos e
      rw [e2] at h
      cases h; exact m2
    · have e2 : effect (.get n fl p) at_ taken ns hs fs = _ := if_neg e
      rw [e2] at h
      cases h
  | add fl p =>
    have e2 : effect (.add fl p) at_ taken ns hs fs = changedE (if (fs.getD fl.toNat []).length = 40 then { eff0 (at_ + 1) taken with fault := some "full" } else eff0 (at_ + 1) taken) fl (fs.getD fl.toNat []) (fs.getD fl.toNat []).length [p.worth ns] := rfl
    rw [e2] at h
    split at h
    · cases h; exact m3
    · cases h
  | put fl p q =>
    have e2 : effect (.put fl p q) at_ taken ns hs fs = changedE (if ((fs.getD fl.toNat []).length : Int) ≤ p.worth ns then { eff0 (at_ + 1) taken with fault := some "place" } else eff0 (at_ + 1) taken) fl (fs.getD fl.toNat []) (p.worth ns).toNat (q.worth ns :: (fs.getD fl.toNat []).drop ((p.worth ns).toNat + 1)) := rfl
    rw [e2] at h
    split at h
    · cases h; exact m2
    · cases h
  | unl n r =>
    by_cases e : ns.getD n.toNat 0 = 0
    · have e2 : effect (.unl n r) at_ taken ns hs fs = _ := if_pos e
      rw [e2] at h
      cases h
    · have e2 : effect (.unl n r) at_ taken ns hs fs = _ := if_neg e
      rw [e2] at h
      cases h
  | _ => cases h
/-- data that may be compared -/
structure Shp (d : PyData) (n : Nat) : Prop where
  lay : d.canLay0 = true
  deep : d.depth ≤ n
theorem Shp.shaped {d : PyData} {n : Nat} (h : Shp d n) (hn : n ≤ 64) : SeqAt.shaped d = true := shaped_mk h.lay (Nat.le_trans h.deep hn)
theorem Shp.mono {d : PyData} {n m : Nat} (h : Shp d n) (hn : n ≤ m) : Shp d m := ⟨h.lay, Nat.le_trans h.deep hn⟩
theorem Shp.refl {d : PyData} {n : Nat} (h : Shp d n) : PyData.eqv d d = true := SeqAt.eqv_refl d h.lay
theorem Shp.eq {d e : PyData} {n : Nat} (h : Shp d n) (g : Shp e n) (hn : n ≤ 64) : eqOk d e = true := eqOk_mk (h.shaped hn) (g.shaped hn)
theorem shp_int (i : Int) : Shp (.int i) 0 := ⟨by rw [PyData.canLay0], by rw [PyData.depth]; exact Nat.le_refl _⟩
theorem shp_none : Shp .none 0 := ⟨by rw [PyData.canLay0], by rw [PyData.depth]; exact Nat.le_refl _⟩
theorem shp_str {s : Str} (h : (PyData.str s).canLay0 = true) : Shp (.str s) 0 := ⟨h, by rw [PyData.depth]; exact Nat.le_refl _⟩
theorem shp_tuple {xs : List PyData} {n : Nat} (h : ∀ x ∈ xs, Shp x n) : Shp (.tuple xs) (n + 1) := ⟨by rw [PyData.canLay0]; exact lay_all fun x hx => (h x hx).lay, by rw [PyData.depth]; have := depth_all fun x hx => (h x hx).deep; omega⟩
theorem shp_list {xs : List PyData} {n : Nat} (h : ∀ x ∈ xs, Shp x n) : Shp (.list xs) (n + 1) := ⟨by rw [PyData.canLay0]; exact lay_all fun x hx => (h x hx).lay, by rw [PyData.depth]; have := depth_all fun x hx => (h x hx).deep; omega⟩
theorem all_nil {n : Nat} : ∀ x ∈ ([] : List PyData), Shp x n := fun x hx => nomatch hx
theorem all_cons {n : Nat} {d : PyData} {xs : List PyData} (h : Shp d n) (g : ∀ x ∈ xs, Shp x n) : ∀ x ∈ d :: xs, Shp x n := fun x hx => by
  rcases List.mem_cons.mp hx with rfl | hx
  · exact h
  · exact g x hx
theorem shp_ints (ns : List Int) : Shp (lstI ns) 1 := shp_list fun x hx => by
  obtain ⟨i, _, rfl⟩ := List.mem_map.mp hx
  exact shp_int i
theorem shp_files (fs : List (List Int)) : Shp (filesD fs) 2 := shp_list fun x hx => by
  obtain ⟨i, _, rfl⟩ := List.mem_map.mp hx
  exact shp_ints i
theorem shp_rests : Shp restsD 1 := shp_tuple (all_cons (shp_str (by decide +kernel)) all_nil)
theorem shp_fault {f : Str} (h : f ∈ faults) : Shp (.str f) 0 := by
  rcases List.mem_cons.mp h with rfl | h
  · exact shp_str (by decide +kernel)
  rcases List.mem_cons.mp h with rfl | h
  · exact shp_str (by decide +kernel)
  cases List.mem_singleton.mp h
  exact shp_str (by decide +kernel)
theorem shp_end : Shp (told1 "end") 1 := shp_tuple (all_cons (shp_str (by decide +kernel)) all_nil)
theorem shp_long : Shp (told1 "long") 1 := shp_tuple (all_cons (shp_str (by decide +kernel)) all_nil)
theorem shp_flt {f : Str} (h : f ∈ faults) : Shp (.tuple [.str "fault", .str f]) 1 := shp_tuple (all_cons (shp_str (by decide +kernel)) (all_cons (shp_fault h) all_nil))
theorem shp_how {Z : Rn} (z : Z.Ok) : Shp Z.how 1 := by
  have a := z.at_
  unfold stopAt at a
  split at a
  · rw [← Option.some.inj a]; exact shp_end
  · split at a
    · rw [← Option.some.inj a]; exact shp_long
    · cases hf : (runEff Z.rows Z.hs (Z.T Z.N)).fault with
      | none => rw [hf] at a; cases a
      | some f =>
        rw [hf] at a
        rw [← Option.some.inj a]
        exact shp_flt (fault_ok hf)
/-- what a move tells, other than that it rests -/
structure Told (d : PyData) : Prop where
  shp : Shp d 2
  ne : PyData.eqv d restsD = false
theorem ne_two (a b c : PyData) : PyData.eqv (.tuple [a, b]) (.tuple [c]) = false := by
  simp [PyData.eqv, PyData.eqvAll]
theorem told_2 {w : Str} {n : Int} (h : (PyData.str w).canLay0 = true) : Told (told2 w n) := ⟨shp_tuple (n := 1) (all_cons ((shp_str h).mono (by decide)) (all_cons ((shp_int n).mono (by decide)) all_nil)), ne_two _ _ _⟩
theorem told_ends {d : PyData} (h : Shp d 1) : Told (.tuple [.str "ends", d]) := ⟨shp_tuple (n := 1) (all_cons ((shp_str (by decide +kernel)).mono (by decide)) (all_cons h all_nil)), ne_two _ _ _⟩
theorem told_done (st : WorkS) (i : InnerS) (e : Eff) : Told (doneW st i e).1 := by
  have hd : Told (doesW st i e).1 := told_2 (by decide +kernel)
  unfold doneW
  cases e.letter with
  | none => exact hd
  | some v =>
    cases i.out with
    | true => exact hd
    | false =>
      dsimp only
      unfold sendsW
      split
      · exact told_2 (by decide +kernel)
      · exact told_2 (by decide +kernel)
theorem told_begin (st : WorkS) (i : InnerS) : Told (beginW st i).1 := by
  unfold beginW
  split
  · exact told_ends shp_end
  split
  · exact told_ends shp_long
  split
  · exact told_2 (by decide +kernel)
  split
  · rename_i f hf
    exact told_ends (shp_flt (fault_ok hf))
  split
  · exact told_2 (by decide +kernel)
  split
  · exact told_2 (by decide +kernel)
  · exact told_done _ _ _
theorem told_move {st : WorkS} (ho : isOver st = false) : Told (moveW st).1 := by
  unfold moveW
  rw [if_neg (by rw [ho]; exact Bool.false_ne_true)]
  cases st.inner with
  | none =>
    dsimp only
    unfold riseW
    split
    · split
      · exact told_2 (by decide +kernel)
      · exact told_2 (by decide +kernel)
    · exact told_2 (by decide +kernel)
  | some i =>
    dsimp only
    split
    · unfold goW
      dsimp only
      split
      · exact told_2 (by decide +kernel)
      · exact told_2 (by decide +kernel)
    · split
      · exact told_done _ _ _
      · exact told_begin _ _
theorem move_over {st : WorkS} (ho : isOver st = true) : moveW st = (restsD, st) := by
  unfold moveW
  rw [if_pos ho]
theorem inner_done {st : WorkS} {i : InnerS} (e : Eff) : ∃ j, (doneW st i e).2.inner = some j := by
  unfold doneW
  cases e.letter with
  | none => exact ⟨_, rfl⟩
  | some v =>
    cases i.out with
    | true => exact ⟨_, rfl⟩
    | false =>
      dsimp only
      unfold sendsW
      split
      · exact ⟨_, rfl⟩
      · exact ⟨_, rfl⟩
theorem inner_move {st : WorkS} {i : InnerS} (hi : st.inner = some i) : ∃ j, (moveW st).2.inner = some j := by
  unfold moveW
  split
  · exact ⟨i, hi⟩
  rw [hi]
  dsimp only
  split
  · unfold goW
    dsimp only
    split
    · exact ⟨_, rfl⟩
    · exact ⟨_, rfl⟩
  · split
    · exact inner_done _
    · unfold beginW
      split
      · exact ⟨i, hi⟩
      split
      · exact ⟨i, hi⟩
      split
      · exact ⟨_, rfl⟩
      split
      · exact ⟨i, hi⟩
      split
      · exact ⟨_, rfl⟩
      split
      · exact ⟨_, rfl⟩
      · exact inner_done _
theorem over_in {Z : Rn} {way : Str} {often : Int} {m : Nat} {st : WorkS} (h : Inv Z way often m st) (ho : isOver st = false) : isOver (moveW st).2 = true → ∃ i, (moveW st).2.inner = some i := fun h2 => by
  cases hi : st.inner with
  | some i => exact inner_move hi
  | none =>
    exfalso
    have e : (moveW st).2.over = st.over := by
      unfold moveW
      rw [if_neg (by rw [ho]; exact Bool.false_ne_true), hi]
      dsimp only
      unfold riseW
      split
      · split <;> rfl
      · rfl
    have := notOver (e.trans (over_none h ho))
    rw [this] at h2
    cases h2
end PM
set_option Elab.async false
set_option linter.all false
set_option maxRecDepth 100000
set_option maxHeartbeats 4000000
/-! Each move, told by what it is. -/
namespace PM
open PySem PySem.Spec PyProof.Rows L2 DL

structure Here (Z : Rn) (way : Str) (m k : Nat) (st : WorkS) (i : InnerS) : Prop where
  ho : st.over = .none
  hi : st.inner = some i
  k0 : m ≤ k
  k1 : k ≤ Z.N
  at_ : At Z k i
  si : i.since = (k : Int) - m
  sl : (Z.T k).sent.length ≤ st.letters.length
  ar : AtRow Z way m k st i
def Seldom (often : Int) (i : InnerS) : Prop := 0 < often ∧ often ≤ i.since
def Noted (Z : Rn) (way : Str) (often : Int) (k : Nat) (i : InnerS) : Prop := i.noted = some (Z.E k) ∨ i.noted = none ∧ way = backW ∧ (Z.E k).file = none ∧ ¬ Seldom often i ∧ isMark (rowAt Z.rows (Z.T k).row) = false
inductive Mv (Z : Rn) (way : Str) (often : Int) (m : Nat) (st : WorkS) : PyData → WorkS → Prop
  | rests (ho : isOver st = true) : Mv Z way often m st restsD st
  | back (js : List Eff) (e : Eff) (f : Int) (ho : st.over = .none) (hi : st.inner = none) (hw : way = backW) (hj : st.jots = js ++ [e]) (hf : e.file = some f) : Mv Z way often m st (told2 "back" f) { st with jots := js, held := putFile st.held (some f) e.pos e.old }
  | rises (ho : st.over = .none) (hi : st.inner = none) (hw : way = onW ∨ st.jots = []) : Mv Z way often m st (told2 "rises" st.mark.row) { st with inner := some (mkInner st.mark st.jots.length) }
  | again (i j : InnerS) (ho : st.over = .none) (hi : st.inner = some i) (hw : way = onW) (ha : 0 < i.again) (no : i.noted = none) (ou : i.out = false) (ja : j.again = i.again - 1) (jo : j.out = false) : Mv Z way often m st (told2 "again" i.row) { st with inner := some j }
  | sends (i : InnerS) (k : Nat) (v : Int) (h : Here Z way m k st i) (k2 : k < Z.N) (nt : Noted Z way often k i) (ou : i.out = false) (hv : (Z.E k).letter = some v) (hl : st.letters.length = (Z.T k).sent.length) :
      Mv Z way often m st (told2 "sends" i.row) { st with inner := some { i with noted := some (Z.E k), out := true }, letters := st.letters ++ [v] }
  | skips (i : InnerS) (k : Nat) (v : Int) (h : Here Z way m k st i) (k2 : k < Z.N) (nt : Noted Z way often k i) (ou : i.out = false) (hv : (Z.E k).letter = some v) (hl : (Z.T k).sent.length < st.letters.length) :
      Mv Z way often m st (told2 "skips" i.row) { st with inner := some { i with noted := some (Z.E k), out := true } }
  | does (i : InnerS) (k : Nat) (h : Here Z way m k st i) (k2 : k < Z.N) (nt : Noted Z way often k i) (ol : (Z.E k).letter = none ∨ i.out = true) :
      Mv Z way often m st (told2 "does" i.row) { st with held := putFile st.held (Z.E k).file (Z.E k).pos (Z.E k).new, made := st.jots.length, inner := some (takeOver (Z.E k) { i with noted := none, out := false }), count := st.count + 1 }
  | ends (i : InnerS) (h : Here Z way m Z.N st i) (no : i.noted = none) (hs : Z.how = told1 "end" ∨ Z.how = told1 "long" ∨ ¬ Seldom often i ∧ ∃ f, Z.how = .tuple [.str "fault", .str f]) : Mv Z way often m st (.tuple [.str "ends", Z.how]) { st with over := Z.how }
  | marks (i : InnerS) (k : Nat) (h : Here Z way m k st i) (no : i.noted = none) (hr : (Z.T k).row < Z.rows.length) (k3 : k ≠ 1000) (sd : Seldom often i) : Mv Z way often m st (told2 "marks" i.row) (keepW st i).2
  | markr (i : InnerS) (k : Nat) (h : Here Z way m k st i) (no : i.noted = none) (k2 : k < Z.N) (sd : ¬ Seldom often i) (hm : rowAt Z.rows (Z.T k).row = .mark) :
      Mv Z way often m st (told2 "marks" (takeOver (Z.E k) i).row) (keepW { st with count := st.count + 1 } (takeOver (Z.E k) i)).2
  | notes (i : InnerS) (k : Nat) (h : Here Z way m k st i) (no : i.noted = none) (k2 : k < Z.N) (sd : ¬ Seldom often i) (nm : isMark (rowAt Z.rows (Z.T k).row) = false) (hc : way = onW ∨ changes (rowAt Z.rows (Z.T k).row) = true) :
      Mv Z way often m st (told2 "notes" i.row) { st with jots := st.jots ++ [Z.E k], inner := some { i with noted := some (Z.E k) } }
section
variable {Z : Rn} {way : Str} {often : Int} {m : Nat} {st : WorkS} {i : InnerS}
/-- the mark's place is told by the state -/
theorem Inv.at_mark (h : Inv Z way often m st) : st.mark.passed = m := by rw [h.mark]; rfl
theorem Inv.here (h : Inv Z way often m st) (ho : st.over = .none) (hi : st.inner = some i) (ha : ¬ 0 < i.again) : ∃ k, Here Z way m k st i := by
  obtain ⟨k, k0, k1, at_, si, sl, hc⟩ := h.inner i hi
  rcases hc with ⟨_, a, _⟩ | ar
  · exact absurd a ha
  exact ⟨k, ho, hi, k0, k1, at_, si, sl, ar⟩
theorem mv_done {k : Nat} (h : Here Z way m k st i) (hs : st.letters <+: (Z.T Z.N).sent) (k2 : k < Z.N) (nt : Noted Z way often k i) (st2 : WorkS) (i2 : InnerS) (e1 : i2 = { i with noted := some (Z.E k) }) (e2 : st2 = { st with inner := some i2 }) : Mv Z way often m st (doneW st2 i2 (Z.E k)).1 (doneW st2 i2 (Z.E k)).2 := by
  subst e1
  subst e2
  unfold doneW
  cases hv : (Z.E k).letter with
  | none => exact .does i k h k2 nt (.inl hv)
  | some v =>
    cases ou : i.out with
    | true => exact .does i k h k2 nt (.inr ou)
    | false =>
      dsimp only
      unfold sendsW
      have el : i.letters = ((Z.T k).sent.length : Int) := h.at_.letters
      have sl := h.sl
      by_cases c : i.letters < st.letters.length
      · rw [if_pos c]
        exact .skips i k v h k2 nt ou hv (by omega)
      · rw [if_neg c]
        exact .sends i k v h k2 nt ou hv (by omega)
theorem mv_begin (z : Z.Ok) (hw : way = backW ∨ way = onW) (h : Inv Z way often m st) (ho : st.over = .none) (hi : st.inner = some i) (ha : ¬ 0 < i.again) (no : i.noted = none) : Mv Z way often m st (beginW st i).1 (beginW st i).2 := by
  obtain ⟨k, hh⟩ := h.here ho hi ha
  have at_ := hh.at_
  have ar := hh.ar
  have k1 := hh.k1
  have ou := ar.nil_ no
  have tk := z.tok k1
  unfold beginW
  by_cases c1 : i.row = st.rows.length
  · rw [if_pos c1]
    obtain ⟨rfl, e⟩ := stop_end z k1 (by rw [← at_.row, c1, h.rows]; omega)
    have q : Mv Z way often m st (.tuple [.str "ends", Z.how]) { st with over := Z.how } := .ends i hh no (.inl e)
    rw [e] at q
    exact q
  rw [if_neg c1]
  have hr : (Z.T k).row < Z.rows.length := by
    rw [h.rows, at_.row] at c1
    have := tk.row
    omega
  by_cases c2 : i.passed = 1000
  · rw [if_pos c2]
    obtain ⟨rfl, e⟩ := stop_long z k1 hr (by have := at_.passed; omega)
    have q : Mv Z way often m st (.tuple [.str "ends", Z.how]) { st with over := Z.how } := .ends i hh no (.inr (.inl e))
    rw [e] at q
    exact q
  rw [if_neg c2]
  have hk : k ≠ 1000 := by have := at_.passed; omega
  have eo := h.oftenE
  by_cases c3 : 0 < st.often ∧ st.often ≤ i.since
  · rw [if_pos c3]
    exact .marks i k hh no hr hk (by rw [eo] at c3; exact c3)
  have sd : ¬ Seldom often i := by rw [eo] at c3; exact c3
  rw [if_neg c3, at_.eff h.rows h.handed ar.held]
  cases hf : (Z.E k).fault with
  | some f =>
    obtain ⟨rfl, e⟩ := stop_fault z k1 hr hk hf
    dsimp only
    have q : Mv Z way often m st (.tuple [.str "ends", Z.how]) { st with over := Z.how } := .ends i hh no (.inr (.inr ⟨sd, f, e⟩))
    rw [e] at q
    exact q
  | none =>
    have k2 := stop_not z k1 hr hk hf
    dsimp only
    have er : rowAt st.rows i.row = rowAt Z.rows (Z.T k).row := by rw [h.rows, at_.row]
    rw [er]
    by_cases c4 : isMark (rowAt Z.rows (Z.T k).row) = true
    · rw [if_pos c4]
      have em : rowAt Z.rows (Z.T k).row = .mark := by
        cases hx : rowAt Z.rows (Z.T k).row <;> rw [hx] at c4 <;> first | rfl | cases c4
      exact .markr i k hh no k2 sd em
    · have nm : isMark (rowAt Z.rows (Z.T k).row) = false := by
        cases hx : isMark (rowAt Z.rows (Z.T k).row) with
        | true => exact absurd hx c4
        | false => rfl
      rw [if_neg c4]
      by_cases c5 : st.way = onW ∨ changes (rowAt Z.rows (Z.T k).row) = true
      · rw [if_pos c5]
        exact .notes i k hh no k2 sd nm (by rw [h.wayE] at c5; exact c5)
      · rw [if_neg c5]
        have hb : way = backW := hw.resolve_right fun z => c5 (.inl (h.wayE.trans z))
        have fn : (Z.E k).file = none := by
          cases hx : (Z.E k).file with
          | none => rfl
          | some f => exact absurd (.inr (z.file k2 hx).2.2) c5
        exact mv_done hh h.sent k2 (.inr ⟨no, hb, fn, sd, nm⟩) _ _ rfl rfl
theorem mv_move (z : Z.Ok) (hw : way = backW ∨ way = onW) (h : Inv Z way often m st) : Mv Z way often m st (moveW st).1 (moveW st).2 := by
  unfold moveW
  by_cases ho : isOver st = true
  · rw [if_pos ho]; exact .rests ho
  rw [if_neg ho]
  have ho' := over_none h (by cases hx : isOver st with | true => exact absurd hx ho | false => rfl)
  cases hi : st.inner with
  | none =>
    dsimp only
    unfold riseW
    cases hl : st.jots.getLast? with
    | none =>
      have hj : st.jots = [] := List.getLast?_eq_none_iff.mp hl
      exact .rises ho' hi (.inr hj)
    | some e =>
      dsimp only
      obtain ⟨js, hj⟩ := List.getLast?_eq_some_iff.mp hl
      by_cases hb : st.way = backW
      · rw [if_pos hb]
        have hb' : way = backW := h.wayE.symm.trans hb
        obtain ⟨_, _, _, _, f, hf⟩ := (h.back hb').2 e (by rw [hj]; exact List.mem_append_right _ List.mem_cons_self)
        have q : Mv Z way often m st (told2 "back" f) { st with jots := js, held := putFile st.held (some f) e.pos e.old } := .back js e f ho' hi hb' hj hf
        have ej : st.jots.dropLast = js := by rw [hj, List.dropLast_concat]
        rw [hf, ej]
        exact q
      · rw [if_neg hb]
        exact .rises ho' hi (.inl (hw.resolve_left fun z => hb (h.wayE.trans z)))
  | some i =>
    dsimp only
    by_cases ha : 0 < i.again
    · rw [if_pos ha]
      obtain ⟨k, k0, k1, at_, si, sl, hc⟩ := h.inner i hi
      rcases hc with ⟨a1, a2, a3, a4, a5, a6⟩ | ar
      · unfold goW
        dsimp only
        split
        · exact .again i _ ho' hi a1 ha a4 a5 rfl a5
        · exact .again i _ ho' hi a1 ha a4 a5 rfl a5
      · have := ar.again
        omega
    rw [if_neg ha]
    cases no : i.noted with
    | none => exact mv_begin z hw h ho' hi ha no
    | some e =>
      obtain ⟨k, hh⟩ := h.here ho' hi ha
      obtain ⟨rfl, k2, _⟩ := hh.ar.got e no
      have ei : i = { i with noted := some (Z.E k) } := by
        cases i
        cases no
        rfl
      exact mv_done hh h.sent k2 (.inl no) st i ei (by
        cases st
        cases (show _ = some i from hi)
        rfl)
end
end PM
set_option Elab.async false
set_option linter.all false
set_option maxRecDepth 100000
set_option maxHeartbeats 4000000
/-! What the laws ask of each move. -/
namespace PM
open PySem PySem.Spec PyProof.Rows L2 DL

def moveWords : List Str := ["rests", "back", "rises", "again", "sends", "skips", "does", "ends", "marks", "notes"]
theorem eqv_str (a b : Str) : PyData.eqv (.str a) (.str b) = decide (a = b) := by
  unfold PyData.eqv
  by_cases h : a = b
  · subst h; simp
  · simp [h]
theorem eqI (a b : Int) : PyData.eqv (.int a) (.int b) = decide (a = b) := by
  unfold PyData.eqv
  by_cases h : a = b
  · subst h; simp
  · simp [h]
theorem lay_word {w : Str} (h : w ∈ moveWords) : (PyData.str w).canLay0 = true := by
  unfold moveWords at h
  simp only [List.mem_cons, List.not_mem_nil, or_false] at h
  rcases h with rfl | rfl | rfl | rfl | rfl | rfl | rfl | rfl | rfl | rfl <;> decide +kernel
theorem shp_word {w : Str} (h : w ∈ moveWords) : Shp (.str w) 0 := shp_str (lay_word h)
section
variable {Z : Rn} {way : Str} {often : Int} {m : Nat} {st st' : WorkS} {i : InnerS} {d : PyData}
def OutS (st : WorkS) : Prop := st.over = .none ∧ ∃ i, st.inner = some i ∧ i.out = true
/-- letters: one goes out just by sends; behind sends, skips the row is done -/
theorem mv_letters (mv : Mv Z way often m st d st') : ∃ (w : Str) (xs : List PyData), d = .tuple (.str w :: xs) ∧ w ∈ moveWords ∧
    ((w = "sends" ∧ st'.letters.length = st.letters.length + 1) ∨ (w ≠ "sends" ∧ st'.letters = st.letters)) ∧ (w = "sends" ∨ w = "skips" → OutS st') ∧ (OutS st → w = "does") := by
  have no : ∀ {w : Str}, w ≠ "sends" → w ≠ "skips" → (w = "sends" ∨ w = "skips" → OutS st') := fun h1 h2 h => (h.elim h1 h2).elim
  cases mv with
  | rests ho => exact ⟨_, _, rfl, by decide, .inr ⟨by decide, rfl⟩, no (by decide) (by decide), fun ⟨h, _⟩ => by rw [notOver h] at ho; cases ho⟩
  | back js e f ho hi hw hj hf => exact ⟨_, _, rfl, by decide, .inr ⟨by decide, rfl⟩, no (by decide) (by decide), fun ⟨_, i, h, _⟩ => by rw [hi] at h; cases h⟩
  | rises ho hi hw => exact ⟨_, _, rfl, by decide, .inr ⟨by decide, rfl⟩, no (by decide) (by decide), fun ⟨_, i, h, _⟩ => by rw [hi] at h; cases h⟩
  | again i j ho hi hw ha nn ou ja jo => exact ⟨_, _, rfl, by decide, .inr ⟨by decide, rfl⟩, no (by decide) (by decide), fun ⟨_, i, h, o⟩ => by rw [hi] at h; cases h; rw [ou] at o; cases o⟩
  | sends i k v h k2 nt ou hv hl => exact ⟨_, _, rfl, by decide, .inl ⟨rfl, by show (st.letters ++ [v]).length = _; simp⟩, fun _ => ⟨h.ho, _, rfl, rfl⟩, fun ⟨_, i, g, o⟩ => by rw [h.hi] at g; cases g; rw [ou] at o; cases o⟩
  | skips i k v h k2 nt ou hv hl => exact ⟨_, _, rfl, by decide, .inr ⟨by decide, rfl⟩, fun _ => ⟨h.ho, _, rfl, rfl⟩, fun ⟨_, i, g, o⟩ => by rw [h.hi] at g; cases g; rw [ou] at o; cases o⟩
  | does i k h k2 nt ol => exact ⟨_, _, rfl, by decide, .inr ⟨by decide, rfl⟩, no (by decide) (by decide), fun _ => rfl⟩
  | ends i h nn hs => exact ⟨_, _, rfl, by decide, .inr ⟨by decide, rfl⟩, no (by decide) (by decide), fun ⟨_, i, g, o⟩ => by rw [h.hi] at g; cases g; rw [h.ar.nil_ nn] at o; cases o⟩
  | marks i k h nn hr k3 sd => exact ⟨_, _, rfl, by decide, .inr ⟨by decide, rfl⟩, no (by decide) (by decide), fun ⟨_, i, g, o⟩ => by rw [h.hi] at g; cases g; rw [h.ar.nil_ nn] at o; cases o⟩
  | markr i k h nn k2 sd hm => exact ⟨_, _, rfl, by decide, .inr ⟨by decide, rfl⟩, no (by decide) (by decide), fun ⟨_, i, g, o⟩ => by rw [h.hi] at g; cases g; rw [h.ar.nil_ nn] at o; cases o⟩
  | notes i k h nn k2 sd nm hc => exact ⟨_, _, rfl, by decide, .inr ⟨by decide, rfl⟩, no (by decide) (by decide), fun ⟨_, i, g, o⟩ => by rw [h.hi] at g; cases g; rw [h.ar.nil_ nn] at o; cases o⟩
/-! ### rows that are done -/
structure Cnt (way : Str) (m : Nat) (st : WorkS) : Prop where
  on : way = onW → st.count = m + st.made
  lo : (m : Int) ≤ st.count
  inn : ∀ i, st.inner = some i → i.passed ≤ st.count
def Calm (st : WorkS) : Prop := ∃ i, st.inner = some i ∧ st.count = i.passed
theorem cnt_fall (h : Cnt way m st) : Cnt way m (fallW st) := ⟨h.on, h.lo, fun i e => by cases e⟩
theorem mv_count {m' : Nat} (h : Inv Z way often m st) (mv : Mv Z way often m st d st') (h' : Inv Z way often m' st') (c : Cnt way m st) : ∃ (w : Str) (xs : List PyData), d = .tuple (.str w :: xs) ∧ w ∈ moveWords ∧ Cnt way m' st' ∧
    ((w = "does" ∧ st'.count = st.count + 1 ∧ (way = onW → st'.made = st.made + 1)) ∨ (w = "marks" ∧ (st'.count = st.count ∨ st'.count = st.count + 1) ∧ st'.made = 0) ∨ (w ≠ "does" ∧ w ≠ "marks" ∧ st'.count = st.count ∧ st'.made = st.made)) ∧ (way = backW → Calm st → Calm st') := by
  have hm := h.at_mark
  have hm' := h'.at_mark
  have fin : ∀ {w : Str}, w ≠ "does" → w ≠ "marks" → st'.count = st.count → st'.made = st.made → ((w = "does" ∧ st'.count = st.count + 1 ∧ (way = onW → st'.made = st.made + 1)) ∨ (w = "marks" ∧ (st'.count = st.count ∨ st'.count = st.count + 1) ∧ st'.made = 0) ∨ (w ≠ "does" ∧ w ≠ "marks" ∧ st'.count = st.count ∧ st'.made = st.made)) := fun a b c d => .inr (.inr ⟨a, b, c, d⟩)
  have same : st'.mark = st.mark → m' = m := fun e => by rw [e] at hm'; omega
  have mk : m' = m → st'.count = st.count → st'.made = st.made → (∀ i, st'.inner = some i → i.passed ≤ st.count) → Cnt way m' st' := fun e1 e2 e3 e4 => by
    subst e1
    exact ⟨fun hon => by rw [e2, e3]; exact c.on hon, by rw [e2]; exact c.lo, fun i hi => by rw [e2]; exact e4 i hi⟩
  cases mv with
  | rests ho => exact ⟨_, _, rfl, by decide, mk (same rfl) rfl rfl c.inn, fin (by decide) (by decide) rfl rfl, fun _ x => x⟩
  | back js e f ho hi hw hj hf => exact ⟨_, _, rfl, by decide, mk (same rfl) rfl rfl c.inn, fin (by decide) (by decide) rfl rfl, fun _ x => x⟩
  | rises ho hi hw => exact ⟨_, _, rfl, by decide, mk (same rfl) rfl rfl (fun i e => by cases e; show st.mark.passed ≤ _; rw [hm]; exact c.lo), fin (by decide) (by decide) rfl rfl, fun _ ⟨i, e, _⟩ => by rw [hi] at e; cases e⟩
  | again i j ho hi hw ha nn ou ja jo =>
    have co := c.on hw
    refine ⟨_, _, rfl, by decide, mk (same rfl) rfl rfl (fun i2 e => ?_), fin (by decide) (by decide) rfl rfl, fun hb ⟨i2, e, q⟩ => ?_⟩
    · obtain ⟨k, _, _, a1, _, _, a2⟩ := h'.inner i2 e
      obtain ⟨q, b1, b2, _, b3, _⟩ := h'.on hw
      have e1 := same rfl
      have am : st.made = (q : Int) := b1
      have hjl : st.jots.length = q ∨ st.jots.length = q + 1 ∧ m' + q < Z.N := b3
      have := a1.passed
      rcases a2 with ⟨_, a7, _, _, _, a6⟩ | ar
      · have a6' : (k : Int) = m' + (st.jots.length - i2.again) := a6
        cases e
        omega
      · have ho2 : st.made = (k : Int) - m' := (ar.on hw).1
        omega
    · exact absurd (hb.symm.trans hw) bo
  | sends i k v h1 k2 nt ou hv hl => exact ⟨_, _, rfl, by decide, mk (same rfl) rfl rfl (fun i2 e => by cases e; exact c.inn i h1.hi), fin (by decide) (by decide) rfl rfl, fun hb ⟨i2, e, q⟩ => by rw [h1.hi] at e; cases e; exact ⟨_, rfl, q⟩⟩
  | skips i k v h1 k2 nt ou hv hl => exact ⟨_, _, rfl, by decide, mk (same rfl) rfl rfl (fun i2 e => by cases e; exact c.inn i h1.hi), fin (by decide) (by decide) rfl rfl, fun hb ⟨i2, e, q⟩ => by rw [h1.hi] at e; cases e; exact ⟨_, rfl, q⟩⟩
  | does i k h1 k2 nt ol =>
    have e1 := same rfl
    have hon : way = onW → ((st.jots.length : Nat) : Int) = st.made + 1 := fun hw => by
      rcases nt with nt | ⟨_, hb, _⟩
      · have := (h1.ar.got _ nt).2.2.1 hw
        have := (h1.ar.on hw).1
        omega
      · exact absurd (hb.symm.trans hw) bo
    refine ⟨_, _, rfl, by decide, ⟨fun hw => ?_, ?_, fun i2 e => ?_⟩, .inl ⟨rfl, rfl, hon⟩, fun hb ⟨i2, e, q⟩ => ?_⟩
    · show st.count + 1 = m' + ((st.jots.length : Nat) : Int)
      have := c.on hw
      have := hon hw
      omega
    · show (m' : Int) ≤ st.count + 1
      have := c.lo
      omega
    · cases e
      show i.passed + 1 ≤ st.count + 1
      have := c.inn i h1.hi
      omega
    · rw [h1.hi] at e
      cases e
      exact ⟨_, rfl, by show st.count + 1 = i.passed + 1; omega⟩
  | ends i h1 nn hs => exact ⟨_, _, rfl, by decide, mk (same rfl) rfl rfl c.inn, fin (by decide) (by decide) rfl rfl, fun _ x => x⟩
  | marks i k h1 nn hr k3 sd =>
    have e1 : m' = k := by
      have : (keepW st i).2.mark.passed = i.passed := rfl
      have := h1.at_.passed
      omega
    have p1 := h1.at_.passed
    have q1 := c.inn i h1.hi
    refine ⟨_, _, rfl, by decide, ⟨fun hw => ?_, ?_, fun i2 e => ?_⟩, .inr (.inl ⟨rfl, .inl rfl, rfl⟩), fun hb ⟨i2, e, q⟩ => ?_⟩
    · show st.count = m' + 0
      have := c.on hw
      have := (h1.ar.on hw).1
      omega
    · show (m' : Int) ≤ st.count
      omega
    · cases e
      exact q1
    · rw [h1.hi] at e
      cases e
      exact ⟨_, rfl, q⟩
  | markr i k h1 nn k2 sd hmk =>
    have p1 := h1.at_.passed
    have e1 : m' = k + 1 := by
      have : (keepW { st with count := st.count + 1 } (takeOver (Z.E k) i)).2.mark.passed = i.passed + 1 := rfl
      omega
    have q1 := c.inn i h1.hi
    refine ⟨_, _, rfl, by decide, ⟨fun hw => ?_, ?_, fun i2 e => ?_⟩, .inr (.inl ⟨rfl, .inr rfl, rfl⟩), fun hb ⟨i2, e, q⟩ => ?_⟩
    · show st.count + 1 = m' + 0
      have := c.on hw
      have := (h1.ar.on hw).1
      omega
    · show (m' : Int) ≤ st.count + 1
      omega
    · cases e
      show i.passed + 1 ≤ st.count + 1
      omega
    · rw [h1.hi] at e
      cases e
      exact ⟨_, rfl, by show st.count + 1 = i.passed + 1; omega⟩
  | notes i k h1 nn k2 sd nm hc => exact ⟨_, _, rfl, by decide, mk (same rfl) rfl rfl (fun i2 e => by cases e; exact c.inn i h1.hi), fin (by decide) (by decide) rfl rfl, fun hb ⟨i2, e, q⟩ => by rw [h1.hi] at e; cases e; exact ⟨_, rfl, q⟩⟩
/-! ### right behind a fall -/
theorem mv_fallen (hi : st.inner = none) (ho : isOver st = false) (hw : way = backW ∨ way = onW) (mv : Mv Z way often m st d st') : ∃ (x : Int), (way = backW ∧ st.jots ≠ [] ∧ d = told2 "back" x ∧ st'.jots.length + 1 = st.jots.length) ∨ ((way = onW ∨ st.jots = []) ∧ d = told2 "rises" x ∧ st'.jots = st.jots) := by
  cases mv with
  | rests h => rw [ho] at h; cases h
  | back js e f ho hi hw hj hf => exact ⟨_, .inl ⟨hw, by rw [hj]; simp, rfl, by show js.length + 1 = _; rw [hj]; simp⟩⟩
  | rises ho hi hw => exact ⟨_, .inr ⟨hw, rfl, rfl⟩⟩
  | again i j ho h2 hw ha nn ou ja jo => rw [hi] at h2; cases h2
  | sends i k v h1 k2 nt ou hv hl => have := h1.hi; rw [hi] at this; cases this
  | skips i k v h1 k2 nt ou hv hl => have := h1.hi; rw [hi] at this; cases this
  | does i k h1 k2 nt ol => have := h1.hi; rw [hi] at this; cases this
  | ends i h1 nn hs => have := h1.hi; rw [hi] at this; cases this
  | marks i k h1 nn hr k3 sd => have := h1.hi; rw [hi] at this; cases this
  | markr i k h1 nn k2 sd hmk => have := h1.hi; rw [hi] at this; cases this
  | notes i k h1 nn k2 sd nm hc => have := h1.hi; rw [hi] at this; cases this
end
end PM
set_option Elab.async false
set_option linter.all false
set_option maxRecDepth 100000
set_option maxHeartbeats 4000000
/-! Straight programs: a work goes through them row by row. -/
namespace PM
open PySem PySem.Spec PyProof.Rows L2 DL
def StRow (r : PRow) : Prop := (∃ k : Int, 0 ≤ k ∧ k ≤ 10006 ∧ r = .set 0 (.op .sum (.name 0) (.num k))) ∨ r = .send (.name 0) ∨ r = .cut 0 (.num 30) ∨ r = .add 0 (.name 0)
def isAdd : PRow → Bool
  | .add _ _ => true
  | _ => false
structure Strt (rows : List PRow) : Prop where
  sort : ∀ r ∈ rows, StRow r ∨ r = .mark
  few : rows.countP isAdd ≤ 39
  len : rows.length ≤ 60
theorem st_row {r : PRow} (h : StRow r ∨ r = .mark) (at_ taken : Int) (ns hs : List Int) (f : List Int) : (effect r at_ taken ns hs [f]).row = at_ + 1 ∧ (f.length < 40 → (effect r at_ taken ns hs [f]).fault = none) ∧
    ∃ f', putFile [f] (effect r at_ taken ns hs [f]).file (effect r at_ taken ns hs [f]).pos (effect r at_ taken ns hs [f]).new = [f'] ∧ f'.length ≤ f.length + (if isAdd r then 1 else 0) := by
  rcases h with (⟨k, _, _, rfl⟩ | rfl | rfl | rfl) | rfl
  · exact ⟨rfl, fun _ => rfl, f, rfl, Nat.le_refl _⟩
  · exact ⟨rfl, fun _ => rfl, f, rfl, Nat.le_refl _⟩
  · refine ⟨rfl, fun _ => rfl, _, rfl, ?_⟩
    show (([f].getD 0 []).take _ ++ []).length ≤ f.length + 0
    simp only [List.append_nil, List.length_take, List.getD_cons_zero]
    omega
  · have e : effect (.add 0 (.name 0)) at_ taken ns hs [f] = changedE (if f.length = 40 then { eff0 (at_ + 1) taken with fault := some "full" } else eff0 (at_ + 1) taken) 0 f f.length [ns.getD 0 0] := rfl
    rw [e]
    refine ⟨?_, fun h => ?_, f.take f.length ++ [ns.getD 0 0], rfl, ?_⟩
    · unfold changedE
      split <;> rfl
    · unfold changedE
      rw [if_neg (by omega)]; rfl
    · simp [isAdd]
  · exact ⟨rfl, fun _ => rfl, f, rfl, Nat.le_refl _⟩
section
variable {Z : Rn}
theorem countP_take_succ {rows : List PRow} {k : Nat} (h : k < rows.length) : (rows.take (k + 1)).countP isAdd = (rows.take k).countP isAdd + (if isAdd (rowAt rows k) then 1 else 0) := by
  have e : rowAt rows (k : Int) = rows[k] := by
    unfold rowAt
    rw [List.getD_eq_getElem?_getD, show ((k : Int)).toNat = k by omega, List.getElem?_eq_getElem h]; rfl
  rw [List.take_add_one, List.getElem?_eq_getElem h, e]
  show (rows.take k ++ [rows[k]]).countP isAdd = _
  rw [List.countP_append, List.countP_singleton]
theorem rowAt_mem {rows : List PRow} {k : Nat} (h : k < rows.length) : rowAt rows (k : Int) ∈ rows := by
  unfold rowAt
  exact getD_mem (by omega)
theorem strt_run (z : Z.Ok) (s : Strt Z.rows) (h0 : Z.r0.row = 0) (hf : Z.r0.files = [[]]) : ∀ k : Nat, k ≤ Z.N → (Z.T k).row = k ∧ ∃ f, (Z.T k).files = [f] ∧ f.length ≤ (Z.rows.take k).countP isAdd
  | 0, _ => ⟨h0, [], hf, Nat.zero_le _⟩
  | k + 1, hk => by
    obtain ⟨e1, f, e2, e3⟩ := strt_run z s h0 hf k (by omega)
    obtain ⟨a1, _, a2⟩ := z.alive (k := k) (by omega)
    have hlt : k < Z.rows.length := by omega
    have hr := s.sort _ (rowAt_mem hlt)
    have eE : Z.E k = effect (rowAt Z.rows (k : Int)) k (Z.T k).taken (Z.T k).names Z.hs [f] := by
      unfold Rn.E runEff
      rw [e1, e2]
    obtain ⟨q1, q2, f', q3, q4⟩ := st_row hr (k : Int) (Z.T k).taken (Z.T k).names Z.hs f
    rw [Z.T_succ]
    refine ⟨?_, f', ?_, ?_⟩
    · show (Z.E k).row = _
      rw [eE, q1]; omega
    · show putFile (Z.T k).files (Z.E k).file (Z.E k).pos (Z.E k).new = [f']
      rw [eE, e2, q3]
    · rw [countP_take_succ hlt]; omega
theorem strt_end (z : Z.Ok) (s : Strt Z.rows) (h0 : Z.r0.row = 0) (hf : Z.r0.files = [[]]) : Z.N = Z.rows.length ∧ Z.how = told1 "end" := by
  obtain ⟨e1, f, e2, e3⟩ := strt_run z s h0 hf Z.N (Nat.le_refl _)
  have hle : Z.N ≤ Z.rows.length := by
    rcases Nat.eq_zero_or_pos Z.N with h | h
    · omega
    · obtain ⟨q1, _⟩ := strt_run z s h0 hf (Z.N - 1) (by omega)
      obtain ⟨a1, _⟩ := z.alive (k := Z.N - 1) (by omega)
      omega
  have a := z.at_
  unfold stopAt at a
  by_cases hlt : (Z.T Z.N).row < Z.rows.length
  · exfalso
    rw [if_neg (by exact fun q => q hlt)] at a
    have hl := s.len
    rw [if_neg (by omega)] at a
    have hr := s.sort _ (rowAt_mem (k := Z.N) (by omega))
    obtain ⟨q1, q2, f', q3, q4⟩ := st_row hr (Z.N : Int) (Z.T Z.N).taken (Z.T Z.N).names Z.hs f
    have hfl : f.length < 40 := by
      have h1 : (Z.rows.take Z.N).countP isAdd ≤ Z.rows.countP isAdd := (List.take_sublist _ _).countP_le
      have h2 := s.few
      omega
    have q5 := q2 hfl
    have eE : runEff Z.rows Z.hs (Z.T Z.N) = effect (rowAt Z.rows (Z.N : Int)) Z.N (Z.T Z.N).taken (Z.T Z.N).names Z.hs [f] := by
      unfold runEff
      rw [e1, e2]
    rw [eE, q5] at a
    cases a
  · rw [if_pos hlt] at a
    exact ⟨by omega, (Option.some.inj a).symm⟩
end
/-! ### one move of such a work -/
def JotsOk (way : Str) (st : WorkS) : Prop := way = onW → (st.inner = none ∨ ∃ i, st.inner = some i ∧ 0 < i.again) → (st.jots.length : Int) = st.made
def NotedOk (rows : List PRow) (st : WorkS) : Prop := ∀ i, st.inner = some i → i.noted ≠ none → isMark (rowAt rows i.passed) = false
inductive Ev (Z : Rn) (way : Str) (m : Nat) (st : WorkS) (d : PyData) (st' : WorkS) (m' : Nat) : Prop
  | rests (ho : isOver st = true) (hd : d = restsD) (e : st' = st)
  | back (ho : isOver st = false) (hi : st.inner = none) (x : Int) (hd : d = told2 "back" x) (hi' : st'.inner = none) (hm : m' = m) (hc : st'.count = st.count) (ho' : isOver st' = false)
  | rises (ho : isOver st = false) (hi : st.inner = none) (x : Int) (hd : d = told2 "rises" x) (i' : InnerS) (hi' : st'.inner = some i') (hn : i'.noted = none) (hp : i'.passed = m) (hm : m' = m) (hc : st'.count = st.count) (ho' : isOver st' = false)
  | again (ho : isOver st = false) (i : InnerS) (hi : st.inner = some i) (hw : way = onW) (x : Int) (hd : d = told2 "again" x) (i' : InnerS) (hi' : st'.inner = some i') (hn : i'.noted = none) (hp : i'.passed = i.passed + 1) (hm : m' = m) (ho' : isOver st' = false)
  | stay (ho : isOver st = false) (i : InnerS) (hi : st.inner = some i) (w : Str) (x : Int) (hw : w ∈ (["sends", "skips", "notes"] : List Str)) (hd : d = told2 w x) (i' : InnerS) (hi' : st'.inner = some i') (hn : i'.noted ≠ none) (hp : i'.passed = i.passed) (hm : m' = m) (hc : st'.count = st.count) (ho' : isOver st' = false)
  | does (ho : isOver st = false) (i : InnerS) (hi : st.inner = some i) (x : Int) (hd : d = told2 "does" x) (i' : InnerS) (hi' : st'.inner = some i') (hn : i'.noted = none) (hp : i'.passed = i.passed + 1) (hm : m' = m) (hc : st'.count = st.count + 1) (nm : isMark (rowAt Z.rows i.passed) = false) (ho' : isOver st' = false)
  | marks (ho : isOver st = false) (i : InnerS) (hi : st.inner = some i) (x : Int) (hd : d = told2 "marks" x) (i' : InnerS) (hi' : st'.inner = some i') (hn : i'.noted = none) (hp : i'.passed = i.passed + 1) (hm : (m' : Int) = i.passed + 1) (hc : st'.count = st.count + 1) (mk : isMark (rowAt Z.rows i.passed) = true) (ho' : isOver st' = false)
  | ends (ho : isOver st = false) (i : InnerS) (hi : st.inner = some i) (hn : i.noted = none) (hp : i.passed = Z.N) (hd : d = .tuple [.str "ends", Z.how]) (hi' : st'.inner = some i) (ho' : isOver st' = true) (hm : m' = m) (hc : st'.count = st.count)
section
variable {Z : Rn} {way : Str} {m m' : Nat} {st : WorkS}
theorem no_seldom {i : InnerS} : ¬ Seldom 0 i := fun h => absurd h.1 (by decide)
theorem ev_move (z : Z.Ok) (hw : way = backW ∨ way = onW) (hr : ∀ k : Nat, k ≤ Z.N → (Z.T k).row = k) (v : Inv Z way 0 m st) (v' : Inv Z way 0 m' (moveW st).2) (J : JotsOk way st) (nk : NotedOk Z.rows st) :
    Ev Z way m st (moveW st).1 (moveW st).2 m' ∧ JotsOk way (moveW st).2 ∧ NotedOk Z.rows (moveW st).2 := by
  cases hov : isOver st with
  | true =>
    have e := move_over hov
    rw [e]
    exact ⟨.rests hov rfl rfl, J, nk⟩
  | false =>
  have ho' : st.over = .none := over_none v hov
  have hmark : (m' : Int) = (moveW st).2.mark.passed := v'.at_mark.symm
  have hmark0 : st.mark.passed = (m : Int) := v.at_mark
  by_cases hag : ∃ i, st.inner = some i ∧ 0 < i.again
  · obtain ⟨i, hi, ha⟩ := hag
    obtain ⟨k, k0, k1, at_, si, sl, hc⟩ := v.inner i hi
    have hwo : way = onW ∧ i.again ≤ st.jots.length ∧ i.noted = none := by
      rcases hc with ⟨a, b, c, d, _⟩ | ar
      · exact ⟨a, c, d⟩
      · have := ar.again; omega
    obtain ⟨hon, hle, hno⟩ := hwo
    have hj := J hon (.inr ⟨i, hi, ha⟩)
    have e : moveW st = (told2 "again" i.row, { st with inner := some (takeOver (st.jots.getD ((st.jots.length : Int) - i.again).toNat (eff0 0 0)) { i with again := i.again - 1 }) }) := by
      unfold moveW
      rw [hov, if_neg Bool.false_ne_true, hi]
      dsimp only
      rw [if_pos ha]
      unfold goW
      dsimp only
      rw [if_neg (by omega)]
    rw [e] at hmark ⊢
    refine ⟨.again hov i hi hon _ rfl _ rfl hno rfl (by have hm2 : (m' : Int) = st.mark.passed := hmark; omega) hov, fun hw2 h2 => hj, fun i2 h2 hn2 => ?_⟩
    cases h2
    exact absurd hno hn2
  · have mv := mv_move z hw v
    generalize hd : (moveW st).1 = d at mv
    generalize hs : (moveW st).2 = s at mv hmark v'
    have same : s.mark = st.mark → m' = m := fun e => by rw [e] at hmark; omega
    have row : ∀ {k : Nat} {i : InnerS}, Here Z way m k st i → k ≤ Z.N → rowAt Z.rows (Z.T k).row = rowAt Z.rows i.passed := fun h hk => by rw [hr _ hk, h.at_.passed]
    have notm : ∀ {k : Nat} {i : InnerS}, Here Z way m k st i → k < Z.N → Noted Z way 0 k i → isMark (rowAt Z.rows i.passed) = false := fun h hk nt => by
      rcases nt with nt | ⟨_, _, _, _, nt⟩
      · exact nk _ h.hi (by rw [nt]; exact fun z => nomatch z)
      · rw [← row h (by omega)]; exact nt
    have ag0 : ∀ {k : Nat} {i : InnerS}, Here Z way m k st i → i.again = 0 := fun h => h.ar.again
    have j0 : ∀ {s' : WorkS} {i' : InnerS}, s'.inner = some i' → i'.again = 0 → JotsOk way s' := fun hi' ha _ h => by
      rcases h with h | ⟨i2, h, h2⟩
      · rw [hi'] at h; cases h
      · rw [hi'] at h; cases h; omega
    cases mv with
    | rests h => rw [hov] at h; cases h
    | back js e f ho hi hw2 hj hf =>
      exact ⟨.back hov hi _ rfl hi (same rfl) rfl hov, fun hon _ => absurd (hw2.symm.trans hon) bo, fun i h => by rw [show ({ st with jots := js, held := putFile st.held (some f) e.pos e.old } : WorkS).inner = st.inner from rfl, hi] at h; cases h⟩
    | rises ho hi hw2 =>
      refine ⟨.rises hov hi _ rfl _ rfl rfl hmark0 (same rfl) rfl hov, fun hon _ => J hon (.inl hi), fun i h hn => ?_⟩
      cases h
      exact absurd rfl hn
    | again i j ho hi hw2 ha no ou ja jo => exact absurd ⟨i, hi, ha⟩ hag
    | sends i k x h k2 nt ou hv hl =>
      refine ⟨.stay hov i h.hi _ _ (by decide) rfl _ rfl (fun z => nomatch z) rfl (same rfl) rfl hov, j0 rfl (by have q := ag0 h; exact q), fun i2 h2 _ => ?_⟩
      cases h2
      have q := notm h k2 nt
      exact q
    | skips i k x h k2 nt ou hv hl =>
      refine ⟨.stay hov i h.hi _ _ (by decide) rfl _ rfl (fun z => nomatch z) rfl (same rfl) rfl hov, j0 rfl (by have q := ag0 h; exact q), fun i2 h2 _ => ?_⟩
      cases h2
      have q := notm h k2 nt
      exact q
    | does i k h k2 nt ol =>
      refine ⟨.does hov i h.hi _ rfl _ rfl rfl rfl (same rfl) rfl (notm h k2 nt) hov, j0 rfl (by have q := ag0 h; exact q), fun i2 h2 hn => ?_⟩
      cases h2
      exact absurd rfl hn
    | ends i h no hs2 =>
      refine ⟨.ends hov i h.hi no h.at_.passed rfl h.hi ?_ (same rfl) rfl, fun hon h2 => ?_, fun i2 h2 hn => ?_⟩
      · have e : isOver ({ st with over := Z.how } : WorkS) = true := by
          rcases hs2 with e | e | ⟨_, f, e⟩ <;> (unfold isOver; rw [show ({ st with over := Z.how } : WorkS).over = Z.how from rfl, e] <;> rfl)
        exact e
      · exact J hon h2
      · have h3 : st.inner = some i2 := h2
        rw [h.hi] at h3
        cases h3
        exact absurd no hn
    | marks i k h no hr2 k3 sd => exact absurd sd no_seldom
    | markr i k h no k2 sd hmk =>
      refine ⟨.marks hov i h.hi _ rfl _ rfl no rfl ?_ rfl (by rw [← row h (by omega), hmk]; rfl) hov, j0 rfl (by have q := ag0 h; exact q), fun i2 h2 hn => ?_⟩
      · exact hmark
      · cases h2
        exact absurd no hn
    | notes i k h no k2 sd nm hc =>
      refine ⟨.stay hov i h.hi _ _ (by decide) rfl _ rfl (fun z => nomatch z) rfl (same rfl) rfl hov, j0 rfl (by have q := ag0 h; exact q), fun i2 h2 _ => ?_⟩
      cases h2
      show isMark (rowAt Z.rows i.passed) = false
      rw [← row h (by omega)]
      exact nm
end
end PM
set_option Elab.async false
set_option linter.all false
set_option maxRecDepth 100000
set_option maxHeartbeats 4000000
/-! Straight programs with marks: where the rows stand, what falls cost. -/
namespace PM
open PySem PySem.Spec PyProof.Rows L2 DL
def hm (ms : List Int) (k : Nat) : Nat := if (k : Int) ∈ ms then 1 else 0
def posn (ms : List Int) : Nat → Nat
  | 0 => hm ms 0
  | k + 1 => posn ms k + 1 + hm ms (k + 1)
def mks (ms : List Int) (k : Nat) : List PRow := if (k : Int) ∈ ms then [.mark] else []
def bld (ms : List Int) (rs : List PRow) : Nat → List PRow
  | 0 => []
  | k + 1 => (bld ms rs k ++ mks ms k) ++ [rs.getD k .mark]
theorem mks_len (ms : List Int) (k : Nat) : (mks ms k).length = hm ms k := by unfold mks hm; split <;> rfl
theorem hm_le (ms : List Int) (k : Nat) : hm ms k ≤ 1 := by unfold hm; split <;> omega
theorem bld_len (ms : List Int) (rs : List PRow) : ∀ k : Nat, (bld ms rs k).length + hm ms k = posn ms k
  | 0 => by show 0 + _ = hm ms 0; omega
  | k + 1 => by
    have ih := bld_len ms rs k
    show ((bld ms rs k ++ mks ms k) ++ [_]).length + _ = posn ms k + 1 + hm ms (k + 1)
    simp only [List.length_append, mks_len, List.length_cons, List.length_nil]
    omega
theorem posn_lt (ms : List Int) : ∀ {j k : Nat}, j < k → posn ms j < posn ms k
  | j, 0, h => absurd h (Nat.not_lt_zero j)
  | j, k + 1, h => by
    show posn ms j < posn ms k + 1 + hm ms (k + 1)
    by_cases e : j = k
    · subst e; omega
    · have := posn_lt ms (j := j) (k := k) (by omega)
      omega
theorem posn_le (ms : List Int) {j k : Nat} (h : j ≤ k) : posn ms j ≤ posn ms k := by
  by_cases e : j = k
  · rw [e]; exact Nat.le_refl _
  · exact Nat.le_of_lt (posn_lt ms (by omega))
theorem posn_inj (ms : List Int) {j k : Nat} (h : posn ms j = posn ms k) : j = k := by
  rcases Nat.lt_trichotomy j k with q | q | q
  · have := posn_lt ms q; omega
  · exact q
  · have := posn_lt ms q; omega
theorem bld_le (ms : List Int) (rs : List PRow) : ∀ k : Nat, (bld ms rs k).length ≤ 2 * k
  | 0 => Nat.zero_le _
  | k + 1 => by
    have ih := bld_le ms rs k
    have := hm_le ms k
    show ((bld ms rs k ++ mks ms k) ++ [_]).length ≤ _
    simp only [List.length_append, mks_len, List.length_cons, List.length_nil]
    omega
theorem bld_sort {ms : List Int} {rs : List PRow} (h : ∀ r ∈ rs, StRow r) : ∀ k : Nat, k ≤ rs.length → ∀ r ∈ bld ms rs k, StRow r ∨ r = .mark
  | 0, _, r, hr => nomatch hr
  | k + 1, hk, r, hr => by
    have hr : r ∈ (bld ms rs k ++ mks ms k) ++ [rs.getD k .mark] := hr
    rcases List.mem_append.mp hr with hr | hr
    · rcases List.mem_append.mp hr with hr | hr
      · exact bld_sort h k (by omega) r hr
      · unfold mks at hr
        split at hr
        · exact .inr (List.mem_singleton.mp hr)
        · cases hr
    · rw [List.mem_singleton.mp hr]
      exact .inl (h _ (getD_mem (by omega)))
theorem bld_add {ms : List Int} {rs : List PRow} : ∀ k : Nat, (bld ms rs k).countP isAdd ≤ k
  | 0 => Nat.le_refl _
  | k + 1 => by
    have ih := bld_add (ms := ms) (rs := rs) k
    have e1 : (mks ms k).countP isAdd = 0 := by unfold mks; split <;> rfl
    show ((bld ms rs k ++ mks ms k) ++ [rs.getD k .mark]).countP isAdd ≤ _
    rw [List.countP_append, List.countP_append, e1, List.countP_singleton]
    split <;> omega
theorem st_no_mark {r : PRow} (h : StRow r) : isMark r = false := by
  rcases h with ⟨k, _, _, rfl⟩ | rfl | rfl | rfl <;> rfl
theorem rowAt_app1 {xs ys : List PRow} {i : Nat} (h : i < xs.length) : rowAt (xs ++ ys) i = rowAt xs i := by
  unfold rowAt
  rw [List.getD_eq_getElem?_getD, List.getD_eq_getElem?_getD, List.getElem?_append_left (by omega)]
theorem rowAt_app2 {xs ys : List PRow} {i : Nat} (h : xs.length ≤ i) : rowAt (xs ++ ys) i = rowAt ys ((i - xs.length : Nat) : Int) := by
  unfold rowAt
  rw [List.getD_eq_getElem?_getD, List.getD_eq_getElem?_getD, List.getElem?_append_right (by omega)]
  rfl
/-- marks stand right ahead of the rows that are told -/
theorem bld_mark {ms : List Int} {rs : List PRow} (h : ∀ r ∈ rs, StRow r) : ∀ (k : Nat), k ≤ rs.length → ∀ i : Nat, i < (bld ms rs k).length → (isMark (rowAt (bld ms rs k) i) = true ↔ ∃ j, j < k ∧ (j : Int) ∈ ms ∧ i + 1 = posn ms j)
  | 0, _, i, hi => absurd hi (Nat.not_lt_zero i)
  | k + 1, hk, i, hi => by
    have hl := bld_len ms rs k
    have e : bld ms rs (k + 1) = bld ms rs k ++ (mks ms k ++ [rs.getD k .mark]) := List.append_assoc _ _ _
    rw [e] at hi ⊢
    simp only [List.length_append, mks_len, List.length_cons, List.length_nil] at hi
    by_cases h1 : i < (bld ms rs k).length
    · rw [rowAt_app1 h1, bld_mark h k (by omega) i h1]
      constructor
      · rintro ⟨j, a, b, c⟩; exact ⟨j, by omega, b, c⟩
      · rintro ⟨j, a, b, c⟩
        refine ⟨j, ?_, b, c⟩
        by_cases ej : j = k
        · subst ej
          have : hm ms j = 1 := if_pos b
          omega
        · omega
    · rw [rowAt_app2 (by omega)]
      by_cases hk2 : (k : Int) ∈ ms
      · have e1 : hm ms k = 1 := if_pos hk2
        have e2 : mks ms k = [.mark] := if_pos hk2
        rw [e2]
        by_cases h2 : i = (bld ms rs k).length
        · rw [h2, Nat.sub_self]
          refine ⟨fun _ => ⟨k, by omega, hk2, by omega⟩, fun _ => rfl⟩
        · have e3 : i - (bld ms rs k).length = 1 := by omega
          rw [e3]
          have e4 : rowAt ([PRow.mark] ++ [rs.getD k .mark]) ((1 : Nat) : Int) = rs.getD k .mark := rfl
          rw [e4, st_no_mark (h _ (getD_mem (by omega)))]
          refine ⟨fun z => (nomatch z), ?_⟩
          rintro ⟨j, a, b, c⟩
          have := posn_le ms (j := j) (k := k) (by omega)
          omega
      · have e1 : hm ms k = 0 := if_neg hk2
        have e2 : mks ms k = [] := if_neg hk2
        rw [e2]
        have e3 : i - (bld ms rs k).length = 0 := by omega
        rw [e3]
        have e4 : rowAt ([] ++ [rs.getD k .mark]) ((0 : Nat) : Int) = rs.getD k .mark := rfl
        rw [e4, st_no_mark (h _ (getD_mem (by omega)))]
        refine ⟨fun z => (nomatch z), ?_⟩
        rintro ⟨j, a, b, c⟩
        have := posn_le ms (j := j) (k := k) (by omega)
        omega
/-! ### the last mark -/
def atM (f : Int) : Int → List Int → Int
  | b, [] => b
  | b, m :: ms => if m ≤ f then atM f m ms else b
/-- rising marks -/
def Ris (n : Int) : Int → List Int → Prop
  | _, [] => True
  | b, m :: ms => b < m ∧ m < n ∧ Ris n m ms
theorem ris_gt {n : Int} : ∀ {ms : List Int} {b : Int}, Ris n b ms → ∀ m ∈ ms, b < m ∧ m < n
  | [], _, _, m, hm => nomatch hm
  | x :: ms, b, ⟨h1, h2, h3⟩, m, hm => by
    rcases List.mem_cons.mp hm with rfl | hm
    · exact ⟨h1, h2⟩
    · have := ris_gt h3 m hm
      exact ⟨by omega, this.2⟩
theorem atM_ok {n f : Int} : ∀ {ms : List Int} {b : Int}, Ris n b ms → b ≤ f → b ≤ atM f b ms ∧ atM f b ms ≤ f ∧ (atM f b ms = b ∨ atM f b ms ∈ ms) ∧ ∀ g ∈ ms, g ≤ f → g ≤ atM f b ms
  | [], b, _, hb => ⟨Int.le_refl _, hb, .inl rfl, fun g hg => nomatch hg⟩
  | m :: ms, b, ⟨h1, h2, h3⟩, hb => by
    unfold atM
    by_cases hm : m ≤ f
    · rw [if_pos hm]
      obtain ⟨a, b', c, d⟩ := atM_ok h3 hm
      refine ⟨by omega, b', ?_, fun g hg hgf => ?_⟩
      · rcases c with c | c
        · exact .inr (by rw [c]; exact List.mem_cons_self)
        · exact .inr (List.mem_cons_of_mem _ c)
      · rcases List.mem_cons.mp hg with rfl | hg
        · exact a
        · exact d g hg hgf
    · rw [if_neg hm]
      refine ⟨Int.le_refl _, hb, .inl rfl, fun g hg hgf => ?_⟩
      rcases List.mem_cons.mp hg with rfl | hg
      · exact absurd hgf hm
      · have := (ris_gt h3 g hg).1
        omega
/-- the mark m is the last one at k or ahead of it -/
def Gd (rows : List PRow) (m k : Nat) : Prop := (m = 0 ∨ isMark (rowAt rows ((m - 1 : Nat) : Int)) = true) ∧ ∀ i : Nat, m ≤ i → i < k → isMark (rowAt rows (i : Int)) = false
section
variable {ms : List Int} {rs : List PRow} {n : Nat}
theorem posn_n (hn : rs.length = n) (hr : Ris n 0 ms) : posn ms n = (bld ms rs n).length := by
  have h := bld_len ms rs n
  have e : hm ms n = 0 := if_neg fun z => by have := (ris_gt hr _ z).2; omega
  omega
theorem posn_0 {N : Int} (hr : Ris N 0 ms) : posn ms 0 = 0 := if_neg fun z => by have := (ris_gt hr _ z).1; omega
theorem posn_step : ∀ (d b : Nat), (∀ g : Nat, b < g → g ≤ b + d → ¬ (g : Int) ∈ ms) → posn ms (b + d) = posn ms b + d
  | 0, b, _ => rfl
  | d + 1, b, h => by
    have ih := posn_step d b fun g h1 h2 => h g h1 (by omega)
    show posn ms (b + d) + 1 + hm ms (b + d + 1) = _
    have e : hm ms (b + d + 1) = 0 := if_neg (h _ (by omega) (by omega))
    omega
/-- between the last mark and a place there are as many rows as steps -/
theorem posn_at (hr : Ris n 0 ms) {f : Nat} : (posn ms f : Int) - posn ms (atM f 0 ms).toNat = f - atM f 0 ms := by
  obtain ⟨a, b, c, d⟩ := atM_ok (f := (f : Int)) hr (by omega)
  have h := posn_step (ms := ms) (f - (atM f 0 ms).toNat) (atM f 0 ms).toNat fun g h1 h2 hg => by
    have := d g hg (by omega)
    omega
  rw [show (atM f 0 ms).toNat + (f - (atM f 0 ms).toNat) = f by omega] at h
  omega
theorem gd_at (hs : ∀ r ∈ rs, StRow r) (hn : rs.length = n) (hr : Ris n 0 ms) {f m : Nat} (hf : f ≤ n) (g : Gd (bld ms rs n) m (posn ms f)) (hm : m ≤ posn ms f) : m = posn ms (atM f 0 ms).toNat := by
  obtain ⟨a, b, c, d⟩ := atM_ok (f := (f : Int)) hr (by omega)
  generalize hb : (atM (f : Int) 0 ms).toNat = bb
  have eb : atM (f : Int) 0 ms = (bb : Int) := by omega
  rw [eb] at a b c d
  have hL := posn_n hn hr
  have hfL := posn_le ms hf
  rcases Nat.lt_trichotomy m (posn ms bb) with q | q | q
  · exfalso
    have hbm : (bb : Int) ∈ ms := by
      rcases c with c | c
      · have : bb = 0 := by omega
        rw [this, posn_0 hr] at q
        omega
      · exact c
    have hbf := posn_le ms (j := bb) (k := f) (by omega)
    have h1 := g.2 (posn ms bb - 1) (by omega) (by omega)
    have hbn : bb < n := by have := (ris_gt hr _ hbm).2; omega
    have h2 := (bld_mark (ms := ms) hs n (by omega) (posn ms bb - 1) (by omega)).mpr ⟨bb, hbn, hbm, by omega⟩
    rw [h1] at h2
    cases h2
  · exact q
  · exfalso
    rcases g.1 with h0 | h0
    · omega
    · obtain ⟨j, j1, j2, j3⟩ := (bld_mark (ms := ms) hs n (by omega) (m - 1) (by omega)).mp h0
      have e : m = posn ms j := by omega
      have h3 : ¬ j ≤ bb := fun hle => by have := posn_le ms hle; omega
      have h4 : ¬ f < j := fun hlt => by have := posn_lt ms hlt; omega
      have := d j j2 (by omega)
      omega
end
def dsum (ms : List Int) : List Int → Int
  | [] => 0
  | f :: fs => f - atM f 0 ms + dsum ms fs
/-! ### the loop -/
structure Cfg (Z : Rn) (ms : List Int) (rs : List PRow) (n : Nat) : Prop where
  z : Z.Ok
  rows : Z.rows = bld ms rs n
  N : Z.N = Z.rows.length
  how : Z.how = told1 "end"
  row : ∀ k : Nat, k ≤ Z.N → (Z.T k).row = k
  len : rs.length = n
  real : ∀ r ∈ rs, StRow r
  ris : Ris n 0 ms
inductive TK (Z : Rn) (st : WorkS) : PyData → Prop
  | start (ho : isOver st = false) (h : ∀ i, st.inner = some i → i.noted = none) : TK Z st .none
  | calm {w : Str} {x : Int} (hw : w ∈ (["does", "rises", "marks", "again"] : List Str)) (ho : isOver st = false) (h : ∀ i, st.inner = some i → i.noted = none) : TK Z st (told2 w x)
  | stay {w : Str} {x : Int} (hw : w ∈ (["sends", "skips", "notes"] : List Str)) (ho : isOver st = false) (h : ∀ i, st.inner = some i → i.noted ≠ none) : TK Z st (told2 w x)
  | back {x : Int} (ho : isOver st = false) (h : st.inner = none) : TK Z st (told2 "back" x)
  | ends (ho : isOver st = true) : TK Z st (.tuple [.str "ends", told1 "end"])
  | rests (ho : isOver st = true) : TK Z st restsD
structure Lp (Z : Rn) (way : Str) (ms : List Int) (n : Nat) (Tot : Int) (left : List Int) (m : Nat) (st : WorkS) : Prop where
  v : Inv Z way 0 m st
  J : JotsOk way st
  nk : NotedOk Z.rows st
  fin : isOver st = true → left = [] ∧ ∃ i, st.inner = some i ∧ i.passed = Z.N
  al : ∀ i, st.inner = some i → ∀ f ∈ left, i.passed ≤ posn ms f.toNat ∧ (i.noted ≠ none → i.passed < posn ms f.toNat)
  de : st.inner = none → ∀ f ∈ left, m ≤ posn ms f.toNat
  srt : left.Pairwise (· ≤ ·) ∧ ∀ f ∈ left, 0 ≤ f ∧ f ≤ n
  cb : way = backW → (∀ i, st.inner = some i → st.count + (Z.N - i.passed) + dsum ms left = Tot ∧ Gd Z.rows m i.passed.toNat) ∧ (st.inner = none → st.count + (Z.N - m) + dsum ms left = Tot ∧ (m = 0 ∨ isMark (rowAt Z.rows ((m - 1 : Nat) : Int)) = true))
  co : Cnt way m st
section
variable {Z : Rn} {way : Str} {ms : List Int} {rs : List PRow} {n : Nat} {Tot : Int} {left : List Int} {m : Nat} {st : WorkS}
theorem Inv.nat {i : InnerS} (v : Inv Z way 0 m st) (hi : st.inner = some i) : 0 ≤ i.passed ∧ i.passed ≤ Z.N ∧ (m : Int) ≤ i.passed := by
  obtain ⟨k, k0, k1, at_, _⟩ := v.inner i hi
  have := at_.passed
  omega
theorem lp_fall (c : Cfg Z ms rs n) {f : Int} (h : Lp Z way ms n Tot (f :: left) m st) {i : InnerS} (hi : st.inner = some i) (hno : i.noted = none) (hp : i.passed = posn ms f.toNat) (ho : isOver st = false) : Lp Z way ms n Tot left m (fallW st) := by
  have hb := h.v.nat hi
  obtain ⟨f0, f1⟩ := h.srt.2 f List.mem_cons_self
  refine ⟨inv_fall h.v, fun hon _ => ?_, fun i2 h2 => (nomatch h2), fun h2 => ?_, fun i2 h2 => (nomatch h2), fun _ g hg => ?_, ⟨(List.pairwise_cons.mp h.srt.1).2, fun g hg => h.srt.2 g (List.mem_cons_of_mem _ hg)⟩, fun hbk => ⟨fun i2 h2 => (nomatch h2), fun _ => ?_⟩, cnt_fall h.co⟩
  · show (st.jots.length : Int) = st.made
    by_cases ha : 0 < i.again
    · exact h.J hon (.inr ⟨i, hi, ha⟩)
    · obtain ⟨k, k0, k1, at_, si, sl, hc⟩ := h.v.inner i hi
      rcases hc with ⟨_, a, _⟩ | ar
      · exact absurd a ha
      · have q := ar.on hon
        have := q.2 hno
        omega
  · have e : isOver (fallW st) = isOver st := rfl
    rw [e, ho] at h2
    cases h2
  · have h1 := (List.pairwise_cons.mp h.srt.1).1 g hg
    have := posn_le ms (j := f.toNat) (k := g.toNat) (by omega)
    omega
  · obtain ⟨q, gd⟩ := (h.cb hbk).1 i hi
    have ep : i.passed.toNat = posn ms f.toNat := by omega
    rw [ep, c.rows] at gd
    have em := gd_at c.real c.len c.ris (f := f.toNat) (by omega) gd (by omega)
    have pa := posn_at (ms := ms) (n := n) c.ris (f := f.toNat)
    rw [show ((f.toNat : Nat) : Int) = f by omega] at em pa
    refine ⟨?_, by rw [c.rows]; exact gd.1⟩
    show st.count + (Z.N - m) + dsum ms left = Tot
    unfold dsum at q
    omega
theorem lp_move (c : Cfg Z ms rs n) (hw : way = backW ∨ way = onW) (h : Lp Z way ms n Tot left m st) (hno : ∀ i f fs, st.inner = some i → i.noted = none → left = f :: fs → i.passed ≠ posn ms f.toNat) :
    ∃ m', Lp Z way ms n Tot left m' (moveW st).2 ∧ TK Z (moveW st).2 (moveW st).1 := by
  obtain ⟨m', _, v'⟩ := inv_move c.z hw h.v
  obtain ⟨ev, J', nk'⟩ := ev_move c.z hw c.row h.v v' h.J h.nk
  obtain ⟨_, _, _, _, co', _⟩ := mv_count h.v (mv_move c.z hw h.v) v' h.co
  refine ⟨m', ?_⟩
  generalize (moveW st).1 = d at ev ⊢
  generalize hst : (moveW st).2 = st' at ev v' J' nk' co' ⊢
  have strict : ∀ i, st.inner = some i → ∀ f ∈ left, i.passed < posn ms f.toNat := fun i hi f hf => by
    obtain ⟨a1, a2⟩ := h.al i hi f hf
    by_cases hnn : i.noted = none
    · cases left with
      | nil => cases hf
      | cons g gs =>
        have hg := hno i g gs hi hnn rfl
        have ag := (h.al i hi g List.mem_cons_self).1
        have hfg : posn ms g.toNat ≤ posn ms f.toNat := by
          rcases List.mem_cons.mp hf with rfl | hf'
          · exact Nat.le_refl _
          · have := (List.pairwise_cons.mp h.srt.1).1 f hf'
            exact posn_le ms (by omega)
        omega
    · exact a2 hnn
  have nofin : isOver st' = false → (isOver st' = true → left = [] ∧ ∃ i, st'.inner = some i ∧ i.passed = Z.N) := fun e h2 => by rw [e] at h2; cases h2
  cases ev with
  | rests ho hd e =>
    subst e
    have em : m' = m := by
      have h1 := v'.at_mark
      have h2 := h.v.at_mark
      omega
    subst em
    rw [hd]
    exact ⟨h, .rests ho⟩
  | back ho hi x hd hi' hm hc ho' =>
    subst hm
    rw [hd]
    refine ⟨⟨v', J', nk', nofin ho', fun i h2 => (by rw [hi'] at h2; cases h2), fun _ => h.de hi, h.srt, fun hbk => ⟨fun i h2 => (by rw [hi'] at h2; cases h2), fun _ => by rw [hc]; exact (h.cb hbk).2 hi⟩, co'⟩, .back ho' hi'⟩
  | rises ho hi x hd i' hi' hn hp hm hc ho' =>
    subst hm
    rw [hd]
    refine ⟨⟨v', J', nk', nofin ho', fun i h2 f hf => ?_, fun h2 => (by rw [hi'] at h2; cases h2), h.srt, fun hbk => ⟨fun i h2 => ?_, fun h2 => (by rw [hi'] at h2; cases h2)⟩, co'⟩, .calm (by decide) ho' fun i h2 => by rw [hi'] at h2; cases h2; exact hn⟩
    · rw [hi'] at h2; cases h2
      have := h.de hi f hf
      exact ⟨by omega, fun z => absurd hn z⟩
    · rw [hi'] at h2; cases h2
      obtain ⟨q1, q2⟩ := (h.cb hbk).2 hi
      exact ⟨by rw [hc, hp]; exact q1, q2, fun j h1 h3 => by omega⟩
  | again ho i hi hwo x hd i' hi' hn hp hm ho' =>
    subst hm
    rw [hd]
    refine ⟨⟨v', J', nk', nofin ho', fun i2 h2 f hf => ?_, fun h2 => (by rw [hi'] at h2; cases h2), h.srt, fun hbk => absurd (hbk.symm.trans hwo) bo, co'⟩, .calm (by decide) ho' fun i2 h2 => by rw [hi'] at h2; cases h2; exact hn⟩
    rw [hi'] at h2; cases h2
    have := strict i hi f hf
    exact ⟨by omega, fun z => absurd hn z⟩
  | stay ho i hi w x hw2 hd i' hi' hn hp hm hc ho' =>
    subst hm
    rw [hd]
    refine ⟨⟨v', J', nk', nofin ho', fun i2 h2 f hf => ?_, fun h2 => (by rw [hi'] at h2; cases h2), h.srt, fun hbk => ⟨fun i2 h2 => ?_, fun h2 => (by rw [hi'] at h2; cases h2)⟩, co'⟩, .stay hw2 ho' fun i2 h2 => by rw [hi'] at h2; cases h2; exact hn⟩
    · rw [hi'] at h2; cases h2
      have := strict i hi f hf
      exact ⟨by omega, fun _ => by omega⟩
    · rw [hi'] at h2; cases h2
      rw [hc, hp]
      exact (h.cb hbk).1 i hi
  | does ho i hi x hd i' hi' hn hp hm hc nm ho' =>
    subst hm
    rw [hd]
    have hb := h.v.nat hi
    refine ⟨⟨v', J', nk', nofin ho', fun i2 h2 f hf => ?_, fun h2 => (by rw [hi'] at h2; cases h2), h.srt, fun hbk => ⟨fun i2 h2 => ?_, fun h2 => (by rw [hi'] at h2; cases h2)⟩, co'⟩, .calm (by decide) ho' fun i2 h2 => by rw [hi'] at h2; cases h2; exact hn⟩
    · rw [hi'] at h2; cases h2
      have := strict i hi f hf
      exact ⟨by omega, fun z => absurd hn z⟩
    · rw [hi'] at h2; cases h2
      obtain ⟨q1, q2, q3⟩ := (h.cb hbk).1 i hi
      refine ⟨by omega, q2, fun j h1 h3 => ?_⟩
      by_cases ej : j < i.passed.toNat
      · exact q3 j h1 ej
      · have : (j : Int) = i.passed := by omega
        rw [this]; exact nm
  | marks ho i hi x hd i' hi' hn hp hm hc mk ho' =>
    rw [hd]
    have hb := h.v.nat hi
    refine ⟨⟨v', J', nk', nofin ho', fun i2 h2 f hf => ?_, fun h2 => (by rw [hi'] at h2; cases h2), h.srt, fun hbk => ⟨fun i2 h2 => ?_, fun h2 => (by rw [hi'] at h2; cases h2)⟩, co'⟩, .calm (by decide) ho' fun i2 h2 => by rw [hi'] at h2; cases h2; exact hn⟩
    · rw [hi'] at h2; cases h2
      have := strict i hi f hf
      exact ⟨by omega, fun z => absurd hn z⟩
    · rw [hi'] at h2; cases h2
      obtain ⟨q1, q2, q3⟩ := (h.cb hbk).1 i hi
      refine ⟨by omega, .inr ?_, fun j h1 h3 => by omega⟩
      have : ((m' - 1 : Nat) : Int) = i.passed := by omega
      rw [this]; exact mk
  | ends ho i hi hn hp hd hi' ho' hm hc =>
    subst hm
    rw [hd, c.how]
    have hl : left = [] := by
      cases left with
      | nil => rfl
      | cons f fs =>
        exfalso
        have h1 := strict i hi f List.mem_cons_self
        have h2 := h.srt.2 f List.mem_cons_self
        have h3 := posn_le ms (j := f.toNat) (k := n) (by omega)
        have h4 := posn_n (rs := rs) c.len c.ris
        have h5 := c.N
        rw [c.rows] at h5
        omega
    refine ⟨⟨v', J', nk', fun _ => ⟨hl, i, hi', hp⟩, fun i2 h2 f hf => (by rw [hl] at hf; cases hf), fun h2 => (by rw [hi'] at h2; cases h2), h.srt, fun hbk => ⟨fun i2 h2 => ?_, fun h2 => (by rw [hi'] at h2; cases h2)⟩, co'⟩, .ends ho'⟩
    rw [hi'] at h2; cases h2
    rw [hc]
    exact (h.cb hbk).1 i hi
/-- how many rows were done by the end -/
theorem lp_end (c : Cfg Z ms rs n) (hw : way = backW ∨ way = onW) (h : Lp Z way ms n Tot left m st) (ho : isOver st = true) : left = [] ∧ st.count = if way = backW then Tot else Z.N := by
  obtain ⟨hl, i, hi, hp⟩ := h.fin ho
  refine ⟨hl, ?_⟩
  rcases hw with hw | hw
  · rw [if_pos hw]
    have q := ((h.cb hw).1 i hi).1
    rw [hl] at q
    unfold dsum at q
    omega
  · rw [if_neg (fun z => bo (z.symm.trans hw))]
    have q := h.co.on hw
    rcases h.v.over with e | ⟨_, _, _, e⟩
    · unfold isOver at ho
      rw [e] at ho
      cases ho
    · obtain ⟨_, ar, _⟩ := e i hi
      have := (ar.on hw).1
      omega
theorem mu_small (h : Inv Z way 0 m st) : mu Z.N st ≤ 5 * Z.N + 3 := by
  by_cases ho : isOver st = true
  · rw [mu_over ho]; omega
  have ho' := over_none h (by cases hx : isOver st with | true => exact absurd hx ho | false => rfl)
  have jl := h.jl
  have mN := h.mN
  cases hi : st.inner with
  | none =>
    rw [mu_no ho' hi, h.mark]
    show ((st.jots.length : Nat) : Int) + 4 * (Z.N - (m : Int)) + 3 ≤ _
    omega
  | some i =>
    rw [mu_in ho' hi]
    obtain ⟨k, k0, k1, at_, si, sl, hc⟩ := h.inner i hi
    have hp := at_.passed
    rcases hc with ⟨_, a, b, _⟩ | ar
    · rw [muI_again a]; omega
    · have ha : ¬ 0 < i.again := by have := ar.again; omega
      have := muI_le (N := Z.N) (often := st.often) ha
      omega
theorem mu_nn (h : Inv Z way 0 m st) : 0 ≤ mu Z.N st := by
  cases ho : isOver st with
  | true => rw [mu_over ho]; exact Int.le_refl _
  | false => exact Int.le_of_lt (mu_pos h ho)
/-- such a program's run -/
theorem cfg_mk {p : Prog} (hp : p.ok) (hh : HandedOk []) (hf : p.files = 1) (hrw : p.rows = bld ms rs n) (len : rs.length = n) (real : ∀ r ∈ rs, StRow r) (ris : Ris n 0 ms) (hn : n ≤ 30) : ∃ Z : Rn, Cfg Z ms rs n ∧ Z.rows = p.rows ∧ Z.hs = [] ∧ Z.r0 = run0 p ∧ Z.nN = p.names.toNat ∧ Z.nF = p.files.toNat := by
  obtain ⟨Z, z, z1, z2, z3, z4, z5, _⟩ := mk_run hp hh
  have s : Strt Z.rows := by
    rw [z1, hrw]
    refine ⟨bld_sort real n (by omega), ?_, ?_⟩
    · have := bld_add (ms := ms) (rs := rs) n; omega
    · have := bld_le ms rs n; omega
  have h0 : Z.r0.row = 0 := by rw [z3]; rfl
  have hf0 : Z.r0.files = [[]] := by
    rw [z3]
    show List.replicate p.files.toNat [] = [[]]
    rw [hf]; rfl
  obtain ⟨e1, e2⟩ := strt_end z s h0 hf0
  exact ⟨Z, ⟨z, z1.trans hrw, e1, e2, fun k hk => (strt_run z s h0 hf0 k hk).1, len, real, ris⟩, z1, z2, z3, z4, z5⟩
theorem lp_new (c : Cfg Z ms rs n) {p : Prog} (e1 : p.rows = Z.rows) (e2 : ([] : List Int) = Z.hs) (e3 : Z.r0 = run0 p) {fs : List Int} (hs : fs.Pairwise (· ≤ ·)) (hb : ∀ f ∈ fs, 0 ≤ f ∧ f ≤ n) : Lp Z way ms n (Z.N + dsum ms fs) fs 0 (newW p [] way 0) where
  v := inv_new c.z e1 e2 e3
  J := fun _ h => by
    rcases h with h | ⟨i, h, h2⟩
    · cases h
    · cases h
      exact absurd h2 (Int.lt_irrefl 0)
  nk := fun i h hn => by cases h; exact absurd rfl hn
  fin := fun h => by cases h
  al := fun i h f hf => by
    cases h
    exact ⟨by show (0 : Int) ≤ _; omega, fun z => absurd rfl z⟩
  de := fun h => by cases h
  srt := ⟨hs, hb⟩
  cb := fun _ => ⟨fun i h => by
    cases h
    refine ⟨?_, .inl rfl, fun j _ h => ?_⟩
    · show (0 : Int) + (Z.N - 0) + _ = _
      omega
    · exact absurd h (Nat.not_lt_zero _), fun h => by cases h⟩
  co := ⟨fun _ => rfl, Int.le_refl _, (fun i e => by cases e; exact Int.le_refl _)⟩
theorem tk_new {p : Prog} : TK Z (newW p [] way 0) .none := .start rfl fun i h => by cases h; rfl
theorem TK.shp {d : PyData} (h : TK Z st d) : Shp d 2 := by
  cases h with
  | start => exact shp_none.mono (by decide)
  | calm hw =>
    refine (told_2 (lay_word ?_)).shp
    rcases List.mem_cons.mp hw with rfl | hw
    · decide
    rcases List.mem_cons.mp hw with rfl | hw
    · decide
    rcases List.mem_cons.mp hw with rfl | hw
    · decide
    cases List.mem_singleton.mp hw
    decide
  | stay hw =>
    refine (told_2 (lay_word ?_)).shp
    rcases List.mem_cons.mp hw with rfl | hw
    · decide
    rcases List.mem_cons.mp hw with rfl | hw
    · decide
    cases List.mem_singleton.mp hw
    decide
  | back => exact (told_2 (lay_word (by decide))).shp
  | ends => exact (told_ends shp_end).shp
  | rests => exact shp_rests.mono (by decide)
theorem TK.over {d : PyData} (h : TK Z st d) (hd : PyData.eqv d restsD = true) : isOver st = true := by
  cases h with
  | start => simp [PyData.eqv, told1] at hd
  | calm hw => rw [show PyData.eqv (told2 _ _) restsD = false from ne_two _ _ _] at hd; cases hd
  | stay hw => rw [show PyData.eqv (told2 _ _) restsD = false from ne_two _ _ _] at hd; cases hd
  | back => rw [show PyData.eqv (told2 _ _) restsD = false from ne_two _ _ _] at hd; cases hd
  | ends => rw [show PyData.eqv (.tuple [_, _]) restsD = false from ne_two _ _ _] at hd; cases hd
  | rests ho => exact ho
end
end PM
set_option Elab.async false
set_option linter.all false
set_option maxRecDepth 100000
set_option maxHeartbeats 4000000
namespace K17
open PySem PySem.Spec PyProof.Rows L2 DL PM
section
variable {P : Program} {w : World} {K : Fg} {mg : Str → Option Value} {base : Heap} {c : Cs}
/-! the plain parts told alike -/
theorem ris_valid {n : Int} : ∀ {ms : List Int} {b : Int}, Ris n b ms ↔ K17P.Valid n b ms
  | [], b => Iff.rfl
  | m :: ms, b => and_congr_right fun _ => and_congr_right fun _ => ris_valid (ms := ms) (b := m)
theorem atM_atF (f : Int) : ∀ (ms : List Int) (b : Int), K17P.atF f b ms = atM f b ms
  | [], b => rfl
  | m :: ms, b => by
    unfold K17P.atF atM
    rw [atM_atF f ms m]
theorem sum_ones {n : Nat} {b f : Int} (hb : 0 ≤ b) (hbf : b ≤ f) (hf : f ≤ n) : (cutD (List.replicate n (1 : Int)) (some b) (some f)).sum = f - b := by
  unfold DL.cutD
  have q1 : HT.sIx (List.replicate n (1 : Int)).length 0 (some b) = min b.toNat n := by
    have := HT.sIx_nat (List.replicate n (1 : Int)).length 0 b.toNat
    rw [toNat_cast hb, List.length_replicate] at this
    rw [List.length_replicate]; exact this
  have q2 : HT.sIx (List.replicate n (1 : Int)).length (List.replicate n (1 : Int)).length (some f) = min f.toNat n := by
    have := HT.sIx_nat (List.replicate n (1 : Int)).length (List.replicate n (1 : Int)).length f.toNat
    rw [toNat_cast (by omega)] at this
    rw [List.length_replicate] at this ⊢; exact this
  rw [q1, q2, List.drop_replicate, List.take_replicate]
  have e : ∀ k : Nat, (List.replicate k (1 : Int)).sum = k := by
    intro k
    induction k with
    | zero => rfl
    | succ k ih => rw [List.replicate_succ, List.sum_cons, ih]; omega
  rw [e]
  omega
theorem cost_dsum {n : Nat} {ms : List Int} (hr : Ris n 0 ms) : ∀ {fs : List Int}, (∀ f ∈ fs, 0 ≤ f ∧ f ≤ n) → K17P.cF (List.replicate n 1) fs 0 0 ms = dsum ms fs := by
  intro fs hf
  rw [← K17P.cost_cF (List.replicate n 1) fs 0 (fun f h => by rw [List.length_replicate]; exact (hf f h).2) ms 0 (by rw [List.length_replicate]; exact ris_valid.mp hr)]
  unfold K17P.cost
  rw [Int.zero_mul, Int.zero_add]
  induction fs with
  | nil => rfl
  | cons f fs ih =>
    obtain ⟨f0, f1⟩ := hf f List.mem_cons_self
    rw [List.filter_cons, if_pos (decide_eq_true f0), List.map_cons, List.sum_cons, ih fun g hg => hf g (List.mem_cons_of_mem _ hg), dsum, atM_atF]
    obtain ⟨a, b, _⟩ := atM_ok (f := f) hr f0
    rw [sum_ones a b f1]
theorem ones_flat (n : Nat) : (List.replicate n [PyData.int 1]).flatten = (List.replicate n (1 : Int)).map PyData.int := by
  induction n with
  | zero => rfl
  | succ n ih => rw [List.replicate_succ, List.replicate_succ, List.flatten_cons, ih]; rfl
theorem in_ints (k : Int) : ∀ ms : List Int, inD (.int k) (ms.map PyData.int) = decide (k ∈ ms)
  | [] => rfl
  | m :: ms => by
    have ih := in_ints k ms
    unfold inD at ih ⊢
    rw [List.map_cons, List.any_cons, ih, eqI]
    by_cases h : m = k
    · subst h; simp
    · have h2 : ¬ k = m := fun e => h e.symm
      simp [h, h2]
theorem flat_ints (ms : List Int) : (ms.map PyData.int).all flatD = true := by
  rw [List.all_eq_true]
  intro x hx
  obtain ⟨i, _, rfl⟩ := List.mem_map.mp hx
  rfl
/-! _law_straight -/
def rwR (rs : List PRow) : List DL.R := (rs.map PRow.dat).map R.dat
theorem rwR_len (rs : List PRow) : (rwR rs).length = rs.length := by simp [rwR]
theorem rwR_app (xs ys : List PRow) : rwR (xs ++ ys) = rwR xs ++ rwR ys := by simp [rwR]
def spStraight : SpD := fun rs S C => ∃ (D : Addr) (n : Nat) (j : Nat), rs = [.val (.ref D), .dat (.int (n : Int))] ∧ S[j]? = some (dice D) ∧ n ≤ 30 ∧ ∀ rw : List PRow, rw.length = n → (∀ r ∈ rw, StRow r) → C (.dat (.list (rw.map PRow.dat))) S
abbrev s__law_straight : Stmt := topS 55
abbrev N__law_straight : List Str := ["_law_d", "_law_many", "_law_rows", "_law_k", "_law_way", "_law_some"]
theorem sc__law_straight : FnScope N__law_straight ["_law_d", "_law_many"] (defScope s__law_straight) := ⟨rfl, rfl, rfl, by decide +kernel, rfl, by decide +kernel, by decide +kernel⟩
theorem ok_straight {k : Nat} (F : FunAt K mg "_law_straight" s__law_straight ["_law_d", "_law_many"]) (B : Blt mg) (D1 : Def P w K mg base "_law_next" 1 2 spNext) : Def P w K mg base "_law_straight" (k + 2) 2 spStraight := by
  refine okW F sc__law_straight rfl fun cdv A outer s H E f hr => ⟨_,
    (ss_cons (s_set (i := 2) sc__law_straight.nd (d_lstC a_nil))
      (ss_cons (s_for (i_r1 (by rfl) B.range (a_cons (dv 1) a_nil)) (g_name (i := 3) sc__law_straight.nd)
      (ss_cons (s_set (i := 4) sc__law_straight.nd (d_callF D1 (hr.mono (by omega)) (by rfl) (a_cons (dv 0) (a_cons d_int a_nil))))
      (ss_cons (s_set (i := 5) sc__law_straight.nd (d_lst (a_cons (d_tup (a_cons d_str (a_cons d_int (a_cons (d_tup (a_cons d_str (a_cons (d_tup (a_cons d_str (a_cons d_int a_nil))) (a_cons (d_tup (a_cons d_str (a_cons (dv 3) a_nil))) a_nil)))) a_nil)))) (a_cons (d_tup (a_cons d_str (a_cons (d_tup (a_cons d_str (a_cons d_int a_nil))) a_nil))) (a_cons (d_tup (a_cons d_str (a_cons d_int (a_cons (d_tup (a_cons d_str (a_cons d_int a_nil))) a_nil)))) a_nil)))))
      (ss_one (s_expr (d_appT (dv 2) (d_ix (hu_of hr) (d_add (dv 5) (d_lst (a_cons (d_if (t_lt (dv 3) d_int) (d_tup (a_cons d_str (a_cons d_int (a_cons (d_tup (a_cons d_str (a_cons d_int a_nil))) a_nil)))) (d_tup (a_cons d_str (a_cons d_int (a_cons d_int a_nil))))) a_nil))) (dv 4))))))))
      (ss_one (s_ret (dv 2)))))
    , ?_⟩
  intro rs S C hl h
  obtain ⟨D, n, j, rfl, hj, hn, h⟩ := h
  refine ⟨Nat.zero_le _, fun p => ?_⟩
  refine ⟨_, rfl, ⟨by omega, by omega⟩, fun i fr S' => ∃ (rw : List PRow) (t3 t4 t5 : Option DL.R), fr = [some (.val (.ref D)), some (.dat (.int (n : Int))), some (.val (.ref p)), t3, t4, t5] ∧ S' = .lst p (rwR rw) :: S ∧ rw.length = i ∧ ∀ r ∈ rw, StRow r, ⟨[], _, _, _, rfl, rfl, rfl, fun r hr => (nomatch hr)⟩, ?_, ?_⟩
  · rintro i r fr S' hi ⟨rw, t3, t4, t5, rfl, rfl, hl, hrw⟩
    obtain ⟨hi', rfl⟩ := rng_get hi
    have hi2 : i < n := by omega
    refine dnext (D := D) (j := j + 1) rfl (by simpa using hj) (by decide) (by decide) fun y y0 y1 => ?_
    refine ⟨le_ok rfl, _, rfl, _, rfl, le_ok rfl, _, rfl, le_ok rfl, _, rfl, le_ok rfl, _, rfl, le_ok rfl, _, rfl, le_ok rfl, _, rfl, le_ok rfl, _, rfl, le_ok rfl, _, rfl, le_ok rfl, _, rfl, ?_⟩
    have e0 : (0 : Int) + (i : Int) = (i : Int) := Int.zero_add _
    rw [e0]
    refine ⟨_, rfl, ⟨0, _, rfl⟩, _, rfl, _, rfl, iteTd (by omega) ⟨le_ok rfl, _, rfl, le_ok rfl, _, rfl, le_ok rfl, _, rfl, le_ok rfl, _, rfl, ?_⟩⟩
    obtain ⟨d, e1, md⟩ := pick (ds := [(PRow.set 0 (.op .sum (.name 0) (.num i))).dat, (PRow.send (.name 0)).dat, (PRow.cut 0 (.num 30)).dat, (PRow.add 0 (.name 0)).dat]) y0 y1
    have hd : ∃ rr : PRow, d = rr.dat ∧ StRow rr := by
      rcases List.mem_cons.mp md with rfl | md
      · exact ⟨_, rfl, .inl ⟨_, by omega, by omega, rfl⟩⟩
      rcases List.mem_cons.mp md with rfl | md
      · exact ⟨_, rfl, .inr (.inl rfl)⟩
      rcases List.mem_cons.mp md with rfl | md
      · exact ⟨_, rfl, .inr (.inr (.inl rfl))⟩
      cases List.mem_singleton.mp md
      exact ⟨_, rfl, .inr (.inr (.inr rfl))⟩
    obtain ⟨rr, rfl, hrr⟩ := hd
    refine ⟨_, e1, 0, _, rfl, by rw [rwR_len]; omega, ?_⟩
    refine ⟨rw ++ [rr], _, _, _, rfl, ?_, by simp [hl], fun r hr => ?_⟩
    · rw [rwR_app]; rfl
    · rcases List.mem_append.mp hr with hr | hr
      · exact hrw r hr
      · cases List.mem_singleton.mp hr; exact hrr
  · rintro fr S' ⟨rw, t3, t4, t5, rfl, rfl, hl, hrw⟩
    refine ⟨_, rfl, _, _, wkn_lst, h rw (by rw [hl, rng_len]; omega) hrw⟩
/-! law -/
theorem nd_pos (ms : List Int) (k : Nat) : ((List.range k).map fun (j : Nat) => ((Sum.inl ((posn ms j : Nat) : Int) : Key), DL.R.dat (.int (j : Int)))).any (fun kv => decide (kv.1 = Sum.inl ((posn ms k : Nat) : Int))) = false := by
  rw [List.any_eq_false]
  intro x hx
  obtain ⟨j, hj, rfl⟩ := List.mem_map.mp hx
  have := List.mem_range.mp hj
  have := posn_lt ms this
  intro h
  have h2 : (Sum.inl ((posn ms j : Nat) : Int) : Key) = Sum.inl ((posn ms k : Nat) : Int) := of_decide_eq_true h
  have h3 := Sum.inl.inj h2
  omega
def kvp (ms : List Int) (k : Nat) : List (Key × DL.R) := (List.range k).map fun (j : Nat) => ((Sum.inl ((posn ms j : Nat) : Int) : Key), DL.R.dat (.int (j : Int)))
theorem kvp_put (ms : List Int) (k : Nat) : putR (kvp ms k) (Sum.inl ((posn ms k : Nat) : Int)) (.dat (.int (k : Int))) = kvp ms (k + 1) := by
  unfold putR
  rw [show (kvp ms k).any (fun kv => decide (kv.1 = Sum.inl ((posn ms k : Nat) : Int))) = false from nd_pos ms k, if_neg Bool.false_ne_true]
  unfold kvp
  rw [List.range_succ, List.map_append]; rfl
theorem kvp_len (ms : List Int) (k : Nat) : (kvp ms k).length = k := by simp [kvp]
theorem kvp_any (ms : List Int) (k : Nat) (i : Int) : ((kvp ms k).any fun kv => decide (kv.1 = Sum.inl i)) = true → ∃ j, j < k ∧ ((posn ms j : Nat) : Int) = i := by
  intro h
  obtain ⟨x, hx, hk⟩ := List.any_eq_true.mp h
  obtain ⟨j, hj, rfl⟩ := List.mem_map.mp hx
  exact ⟨j, List.mem_range.mp hj, Sum.inl.inj (of_decide_eq_true hk)⟩
theorem kvp_has (ms : List Int) {j k : Nat} (h : j < k) : ((kvp ms k).any fun kv => decide (kv.1 = Sum.inl ((posn ms j : Nat) : Int))) = true :=
  List.any_eq_true.mpr ⟨_, List.mem_map.mpr ⟨j, List.mem_range.mpr h, rfl⟩, decide_eq_true rfl⟩
theorem kvp_find (ms : List Int) : ∀ {j k : Nat}, j < k → (kvp ms k).find? (fun kv => decide (kv.1 = Sum.inl ((posn ms j : Nat) : Int))) = some (Sum.inl ((posn ms j : Nat) : Int), .dat (.int (j : Int)))
  | j, 0, h => absurd h (Nat.not_lt_zero j)
  | j, k + 1, h => by
    have e : kvp ms (k + 1) = kvp ms k ++ [((Sum.inl ((posn ms k : Nat) : Int) : Key), DL.R.dat (.int (k : Int)))] := by unfold kvp; rw [List.range_succ, List.map_append]; rfl
    rw [e, List.find?_append]
    by_cases hj : j = k
    · subst hj
      have hn : (kvp ms j).find? (fun kv => decide (kv.1 = Sum.inl ((posn ms j : Nat) : Int))) = none := by
        rw [List.find?_eq_none]
        intro x hx hk
        have := nd_pos ms j
        rw [List.any_eq_false] at this
        exact this x hx hk
      rw [hn, List.find?_cons, decide_eq_true rfl]; rfl
    · rw [kvp_find ms (j := j) (k := k) (by omega)]; rfl
/-- one cell of many is changed -/
theorem set_perm {S R : SH} {j : Nat} {c c' : Cell} (hj : S[j]? = some c) (hp : S.Perm (c :: R)) : (S.set j c').Perm (c' :: R) := by
  obtain ⟨hl, e⟩ := List.getElem?_eq_some_iff.mp hj
  have es : S = S.take j ++ c :: S.drop (j + 1) := by
    rw [← e, ← List.drop_eq_getElem_cons hl, List.take_append_drop]
  have h1 : S.Perm (c :: (S.take j ++ S.drop (j + 1))) := by
    have q := List.perm_middle (a := c) (l₁ := S.take j) (l₂ := S.drop (j + 1))
    rw [← es] at q
    exact q
  have h2 : (S.take j ++ S.drop (j + 1)).Perm R := (h1.symm.trans hp).cons_inv
  rw [List.set_eq_take_append_cons_drop, if_pos hl]
  exact List.perm_middle.trans (List.Perm.cons _ h2)
theorem meth_perm {fr : Fr} {c : Cs} {x : Addr} {a : As} {st : WorkS} {S T : SH} {sp : SpD} {i : Nat} {Q : CR0} (hi : fr[i]? = some (some (.val (.ref x)))) (hp : S.Perm (wC c x a st ++ T)) (q : sp [.val (.ref x)] (wC c x a st) fun r S' => Q r (S' ++ T)) : dMeth c.W FW 1 (framed sp) (dVar i) dNil fr S Q := by
  have hm : Cell.ins x c.W FW (st.rs c a) ∈ S := hp.mem_iff.mpr (List.mem_append_left _ (List.mem_of_getElem? (i := 0) rfl))
  obtain ⟨j, hj⟩ := List.mem_iff_getElem?.mp hm
  exact ⟨_, hi, ⟨j, _, hj⟩, rfl, wC c x a st, T, hp, q⟩
theorem two_ok : (1 : Int) ≤ 2 ∧ (2 : Int) ≤ 8 := by decide
theorem one_ok : (1 : Int) ≤ 1 ∧ (1 : Int) ≤ 4 := by decide
theorem row_ok21 {r : PRow} {many : Int} (h : StRow r ∨ r = .mark) : r.ok 2 1 many := by
  rcases h with (⟨k, k0, k1, rfl⟩ | rfl | rfl | rfl) | rfl
  · exact ⟨⟨by decide, by decide⟩, ⟨⟨by decide, by decide⟩, k0, k1⟩, (show 2 ≤ 3 by decide)⟩
  · exact ⟨⟨by decide, by decide⟩, (show 1 ≤ 3 by decide)⟩
  · exact ⟨⟨by decide, by decide⟩, ⟨by decide, by decide⟩, (show 1 ≤ 3 by decide)⟩
  · exact ⟨⟨by decide, by decide⟩, ⟨by decide, by decide⟩, (show 1 ≤ 3 by decide)⟩
  · exact True.intro
theorem cell_at {S : SH} {c : Cell} (h : c ∈ S) : ∃ j : Nat, S[j]? = some c := List.mem_iff_getElem?.mp h
def clB : PyData → Bool
  | .none => true
  | .tuple (.str w :: _) => inD (.str w) [.str "does", .str "rises", .str "marks", .str "again"]
  | _ => false
theorem test_cl {fr : Fr} {S : SH} {told : PyData} {C' : Bool → SH → Prop} (hfr : fr[14]? = some (some (.dat told))) (h : told = .none ∨ ∃ (w : Str) (xs : List PyData), told = .tuple (.str w :: xs)) (q : C' (clB told) S) :
    dOr (dTest (dOp fIsN (dVar 14) (dC (.dat .none)))) (dTest (dOp (fIn false) (dOp fIx (dVar 14) (dC (.dat (.int 0)))) (dTup (dCons (dC (.dat (.str "does"))) (dCons (dC (.dat (.str "rises"))) (dCons (dC (.dat (.str "marks"))) (dCons (dC (.dat (.str "again"))) dNil))))))) fr S C' := by
  rcases h with rfl | ⟨w, xs, rfl⟩
  · exact ⟨_, hfr, q⟩
  · exact ⟨_, hfr, _, hfr, _, at0, le_ok rfl, _, rfl, rfl, rfl, q⟩
theorem tk_shape {Z : Rn} {st : WorkS} {d : PyData} (h : TK Z st d) : d = .none ∨ ∃ (w : Str) (xs : List PyData), d = .tuple (.str w :: xs) := by
  cases h with
  | start => exact .inl rfl
  | calm => exact .inr ⟨_, _, rfl⟩
  | stay => exact .inr ⟨_, _, rfl⟩
  | back => exact .inr ⟨_, _, rfl⟩
  | ends => exact .inr ⟨_, _, rfl⟩
  | rests => exact .inr ⟨_, _, rfl⟩
theorem tk_cl {Z : Rn} {st : WorkS} {d : PyData} {i : InnerS} (h : TK Z st d) (hi : st.inner = some i) (ho : isOver st = false) : (clB d = true → i.noted = none) ∧ (clB d = false → i.noted ≠ none) := by
  cases h with
  | start _ q => exact ⟨fun _ => q i hi, fun z => nomatch z⟩
  | @calm w x hw _ q =>
    have e : clB (told2 w x) = true := by
      have key : ∀ w ∈ (["does", "rises", "marks", "again"] : List Str), inD (.str w) [.str "does", .str "rises", .str "marks", .str "again"] = true := by decide +kernel
      exact key w hw
    exact ⟨fun _ => q i hi, fun z => (by rw [e] at z; cases z)⟩
  | @stay w x hw _ q =>
    have e : clB (told2 w x) = false := by
      have key : ∀ w ∈ (["sends", "skips", "notes"] : List Str), inD (.str w) [.str "does", .str "rises", .str "marks", .str "again"] = false := by decide +kernel
      exact key w hw
    exact ⟨fun z => (by rw [e] at z; cases z), fun _ => q i hi⟩
  | back _ q => rw [q] at hi; cases hi
  | ends q => rw [ho] at q; cases q
  | rests q => rw [ho] at q; cases q
abbrev s_law : Stmt := topS 56
abbrev N_law : List Str := ["_law_script", "_law_d", "_law_turn", "_law_many", "_law_falls", "_law_weights", "_law_marks", "_law_rows", "_law_at", "_law_k", "_law_row", "_law_way", "_law_work", "_law_left", "_law_told", "_law_moves", "_law_stands", "_law_more", "_law_place"]
theorem sc_law : FnScope N_law ["_law_script"] (defScope s_law) := ⟨rfl, rfl, rfl, by decide +kernel, rfl, by decide +kernel, by decide +kernel⟩
theorem ok_law {k : Nat} (F : FunAt K mg "law" s_law ["_law_script"]) (W : Walk P w K mg base c) (DS : Def P w K mg base "_law_straight" 2 2 spStraight) (DB : Def P w K mg base "best" 3 3 K17P.spBestD) (DC : Def P w K mg base "cost" 3 4 K17P.spCostP) : DefL P w K mg base "law" s_law ["_law_script"] (k + 10) 1 spLaw := by
  have B := W.B
  refine okL F sc_law rfl fun cdv A outer s H E f hr => ⟨_,
    (ss_cons (s_set (i := 1) sc_law.nd (d_callF W.dice (hr.mono (by omega)) (by rfl) (a_cons (dv 0) a_nil)))
      (ss_cons (s_for (i_r1 (by rfl) B.range (a_cons d_int a_nil)) (g_name (i := 2) sc_law.nd)
      (ss_cons (s_set (i := 3) sc_law.nd (d_add d_int (d_callF W.next (hr.mono (by omega)) (by rfl) (a_cons (dv 1) (a_cons d_int a_nil)))))
      (ss_cons (s_set (i := 4) sc_law.nd (d_sorted (by rfl) B.sorted (a_cons (d_lc sc_law.nd (i := 9) (i_r1 (by rfl) B.range (a_cons (d_callF W.next (hr.mono (by omega)) (by rfl) (a_cons (dv 1) (a_cons d_int a_nil))) a_nil)) (blkOk_by (N := N_law) (sc := defScope s_law) (own := [("_law_k", 9)]) (by decide +kernel)) (fun _ _ _ _ _ => pg_name (i := 9) sc_law.nd rfl (Or.inl rfl)) (fun _ _ _ _ _ => ts_nil) (fun _ _ _ _ _ => (d_callF W.next (hr.mono (by omega)) (by rfl) (a_cons (dv 1) (a_cons (d_add (dv 3) d_int) a_nil))))) a_nil)))
      (ss_cons (s_set (i := 5) sc_law.nd (d_mul (d_lst (a_cons d_int a_nil)) (dv 3)))
      (ss_cons (s_set (i := 6) sc_law.nd (d_ix (hu_of hr) (d_callF DB (hr.mono (by omega)) (by rfl) (a_cons (dv 5) (a_cons (dv 4) (a_cons (d_callF W.next (hr.mono (by omega)) (by rfl) (a_cons (dv 1) (a_cons d_int a_nil))) a_nil)))) d_int))
      (ss_cons (s_if (t_eq hr.units (d_callF W.next (hr.mono (by omega)) (by rfl) (a_cons (dv 1) (a_cons d_int a_nil))) d_int)
      (ss_one (s_lc (j := 6) sc_law.nd (i := 18) (i_r2 (by rfl) B.range (a_cons d_int (a_cons (dv 3) a_nil))) (blkOk_by (N := N_law) (sc := defScope s_law) (own := [("_law_place", 18)]) (by decide +kernel)) (fun _ _ _ _ _ => pg_name (i := 18) sc_law.nd rfl (Or.inl rfl)) (fun _ _ _ _ _ => (ts_one (t_eq hr.units (d_callF W.next (hr.mono (by omega)) (by rfl) (a_cons (dv 1) (a_cons d_int a_nil))) d_int))) (fun _ _ _ _ _ => (dv 18))))
      ss_nil)
      (ss_cons (s_par (i := 7) (j := 8) sc_law.nd (a_cons (d_lstC a_nil) (a_cons d_newD a_nil)))
      (ss_cons (s_for (i_enum (by rfl) B.enumerate (a_cons (d_callF DS (hr.mono (by omega)) (by rfl) (a_cons (dv 1) (a_cons (dv 3) a_nil))) a_nil)) (g_tup (gs_cons (g_name (i := 9) sc_law.nd) (gs_cons (g_name (i := 10) sc_law.nd) gs_nil)))
      (ss_cons (s_set (i := 7) sc_law.nd (d_addC (dv 7) (d_mul (d_lst (a_cons (d_tup (a_cons d_str a_nil)) a_nil)) (d_intF (by rfl) B.int (a_cons (d_in (dv 9) (dv 6)) a_nil)))))
      (ss_cons (s_asg (dv 9) (g_sub (hu_of hr) (dv 8) (d_len (by rfl) B.len (a_cons (dv 7) a_nil))))
      (ss_one (s_expr (d_appT (dv 7) (dv 10)))))))
      (ss_cons (s_asg (dv 3) (g_sub (hu_of hr) (dv 8) (d_len (by rfl) B.len (a_cons (dv 7) a_nil))))
      (ss_one (s_for (i_src (d_tup (a_cons d_str (a_cons d_str a_nil)))) (g_name (i := 11) sc_law.nd)
      (ss_cons (s_asg (d_tp (a_cons (d_make FW W.init (hr.mono (by omega)) (by rfl) (a_cons (d_tup (a_cons d_int (a_cons d_int (a_cons (d_tuple (by rfl) B.tuple (a_cons (dv 7) a_nil)) a_nil)))) (a_cons (d_lst a_nil) (a_cons (dv 11) (a_cons d_int a_nil))))) (a_cons (d_listC (by rfl) B.list (a_cons (dv 4) a_nil)) (a_cons d_non (a_cons d_int a_nil))))) (g_tup (gs_cons (g_name (i := 12) sc_law.nd) (gs_cons (g_name (i := 13) sc_law.nd) (gs_cons (g_name (i := 14) sc_law.nd) (gs_cons (g_name (i := 15) sc_law.nd) gs_nil))))))
      (ss_cons (s_while (PDW.pt (w_and (t_ne hr.units (dv 14) (d_tup (a_cons d_str a_nil))) (w_and1 (t_lt (dv 15) d_int))))
      (ss_cons (s_set (i := 16) sc_law.nd (d_meth0 W.TW W.stands (hr.mono (by omega)) (by decide) (dv 12)))
      (ss_cons (s_if (PDW.pt (w_and (t_neE hr.units (dv 13) (d_lst a_nil)) (w_and (t_notN (dv 16) d_non) (w_and (t_inDic (hu_of hr) (d_ix (hu_of hr) (dv 16) d_int) (dv 8)) (w_and1 (t_eq hr.units (d_ix (hu_of hr) (dv 8) (d_ix (hu_of hr) (dv 16) d_int)) (d_ix (hu_of hr) (dv 13) d_int)))))))
      (ss_one (s_if (PDW.pt (w_or (t_isN (dv 14) d_non) (w_or1 (t_in (d_ix (hu_of hr) (dv 14) d_int) (d_tup (a_cons d_str (a_cons d_str (a_cons d_str (a_cons d_str a_nil)))))))))
      (ss_cons (s_expr (d_meth0 W.TW W.fall (hr.mono (by omega)) (by decide) (dv 12)))
      (ss_one (s_expr (d_popA (dv 13) d_int))))
      ss_nil))
      ss_nil)
      (ss_cons (s_set (i := 14) sc_law.nd (d_meth0 W.TW W.move (hr.mono (by omega)) (by decide) (dv 12)))
      (ss_one (s_set (i := 15) sc_law.nd (d_add (dv 15) d_int)))))))
      (ss_cons (s_set (i := 17) sc_law.nd (d_if (t_eq hr.units (dv 11) d_str) (d_callF DC (hr.mono (by omega)) (by rfl) (a_cons (dv 5) (a_cons (dv 4) (a_cons d_int (a_cons (dv 6) a_nil))))) d_int))
      (ss_one (s_if (PDW.pt (w_or (t_ne hr.units (dv 14) (d_tup (a_cons d_str a_nil))) (w_or (t_neE hr.units (dv 13) (d_lst a_nil)) (w_or1 (t_ne hr.units (d_meth0 W.TW W.steps (hr.mono (by omega)) (by decide) (dv 12)) (d_add (d_len (by rfl) B.len (a_cons (dv 7) a_nil)) (dv 17)))))))
      (ss_one (s_ret d_bl))
      ss_nil))))))))))))))))
      (ss_one (s_ret d_bl))))
    , ?_⟩
  intro rs S C hl h
  obtain ⟨ns, rfl, hn, h⟩ := h
  refine ⟨_, rfl, rfl, ns, rfl, by omega, fun D => ?_⟩
  refine ⟨⟨by decide, by decide⟩, fun i fr S' => ∃ t2 t3 t4 t5 t6 t7 t8 t9 t10 t11 t12 t13 t14 t15 t16 t17 t18 : Option DL.R, fr = [some (.scr ns), some (.val (.ref D)), t2, t3, t4, t5, t6, t7, t8, t9, t10, t11, t12, t13, t14, t15, t16, t17, t18] ∧ ∃ j : Nat, S'[j]? = some (dice D), ⟨_, _, _, _, _, _, _, _, _, _, _, _, _, _, _, _, _, rfl, 0, rfl⟩, ?_, ?_⟩
  rotate_left
  · rintro fr S' ⟨t2, t3, t4, t5, t6, t7, t8, t9, t10, t11, t12, t13, t14, t15, t16, t17, t18, rfl, _⟩
    exact h _
  clear h
  rintro i r fr S' hi ⟨t2, t3, t4, t5, t6, t7, t8, t9, t10, t11, t12, t13, t14, t15, t16, t17, t18, rfl, j, hj⟩
  dsimp only [gnm]
  refine seq_cut (fun N => ∀ n : Nat, 1 ≤ n → n ≤ 30 → N [some (.scr ns), some (.val (.ref D)), some r, some (.dat (.int (n : Int))), t4, t5, t6, t7, t8, t9, t10, t11, t12, t13, t14, t15, t16, t17, t18] S') ?_ fun N step => ?_
  rotate_left
  · refine dnext (D := D) (j := j) rfl hj (by decide) (by decide) fun y y0 y1 => ?_
    have q := step (1 + y).toNat (by omega) (by omega)
    rw [show (((1 + y).toNat : Nat) : Int) = 1 + y by omega] at q
    exact q
  intro n n1 n30
  try dsimp only [dNil, gnm, sNext]
  refine seq_cut (fun N => ∀ fs : List Int, fs.Pairwise (· ≤ ·) → (∀ f ∈ fs, 0 ≤ f ∧ f ≤ n) → fs.length ≤ 12 → N [some (.scr ns), some (.val (.ref D)), some r, some (.dat (.int (n : Int))), some (.dat (.list (fs.map PyData.int))), t5, t6, t7, t8, t9, t10, t11, t12, t13, t14, t15, t16, t17, t18] S') ?_ fun N step => ?_
  rotate_left
  · refine dnext (D := D) (j := j) rfl hj (by decide) (by decide) fun ct c0 c1 => ?_
    refine ⟨⟨by omega, by omega⟩, lc_nd (fun y => ∃ i : Int, y = .dat (.int i) ∧ 0 ≤ i ∧ i ≤ n) (fun k r hk C' q => ?_) (by rw [rng_len]; omega) fun acc hacc hP => ?_⟩
    · refine dnextE (D := D) (j := j) ((n : Int) + 1) rfl hj (fun C' q => ⟨_, rfl, q⟩) (by omega) (by omega) fun x x0 x1 => ?_
      exact q _ ⟨x, rfl, by omega, by omega⟩
    obtain ⟨fs0, rfl, hfs0⟩ := ints_of_acc hP
    rw [List.length_map, rng_len] at hacc
    refine ⟨_, dats_ints fs0, fs0, intsOf_map _, fun fs hperm hsort => ?_⟩
    have hfl := hperm.length_eq
    exact step fs hsort (fun f hf => hfs0 f (hperm.mem_iff.mp hf)) (by omega)
  intro fs hsort hfb hfl
  try dsimp only [dNil, gnm, sNext]
  refine seq_cut (fun N => N [some (.scr ns), some (.val (.ref D)), some r, some (.dat (.int (n : Int))), some (.dat (.list (fs.map PyData.int))), some (.dat (.list ((List.replicate n (1 : Int)).map PyData.int))), t6, t7, t8, t9, t10, t11, t12, t13, t14, t15, t16, t17, t18] S') ?_ fun N step => ?_
  rotate_left
  · rw [← ones_flat] at step
    exact ⟨le_ok rfl, _, rfl, _, rfl, by omega, by omega, le_ok rfl, step⟩
  try dsimp only [dNil, gnm, sNext]
  refine seq_cut (fun N => ∀ ms : List Int, Ris n 0 ms → N [some (.scr ns), some (.val (.ref D)), some r, some (.dat (.int (n : Int))), some (.dat (.list (fs.map PyData.int))), some (.dat (.list ((List.replicate n (1 : Int)).map PyData.int))), some (.dat (.list (ms.map PyData.int))), t7, t8, t9, t10, t11, t12, t13, t14, t15, t16, t17, t18] S') ?_ fun N step => ?_
  rotate_left
  · refine ⟨_, rfl, _, rfl, ?_⟩
    refine dnext (D := D) (j := j) rfl hj (by decide) (by decide) fun pr p0 p1 => ?_
    refine ⟨rfl, List.replicate n (1 : Int), fs, pr, rfl, ⟨fun w hw => ?_, by rw [List.length_replicate]; omega, fun f hf => by rw [List.length_replicate]; exact hfb f hf, hsort, by omega, p0, by omega⟩, fun val hrec => ?_⟩
    · have := (List.mem_replicate.mp hw).2
      omega
    · obtain ⟨ms, hv, e⟩ := (K17P.best_of (List.replicate n (1 : Int)) fs pr val hrec (List.replicate n (1 : Int)).length 0 (Int.le_refl _) (by omega) (by omega)).ex
      rw [List.length_replicate] at hv
      refine ⟨.list (ms.map PyData.int), ?_, step ms (ris_valid.mpr hv)⟩
      rw [e]; rfl
  intro ms0 hris0
  try dsimp only [dNil, gnm, sNext]
  refine seq_cut (fun N => ∀ ms : List Int, Ris n 0 ms → N [some (.scr ns), some (.val (.ref D)), some r, some (.dat (.int (n : Int))), some (.dat (.list (fs.map PyData.int))), some (.dat (.list ((List.replicate n (1 : Int)).map PyData.int))), some (.dat (.list (ms.map PyData.int))), t7, t8, t9, t10, t11, t12, t13, t14, t15, t16, t17, t18] S') ?_ fun N step => ?_
  rotate_left
  · refine dnext (D := D) (j := j) rfl hj (by decide) (by decide) fun y y0 y1 => ⟨rfl, ite2b (fun hb => ?_) (fun hb => step ms0 hris0)⟩
    refine ⟨_, rfl, ⟨by omega, by omega, by omega, by omega⟩, fun k acc S2 => S2 = S' ∧ ∃ ms : List Int, acc = ms.map (fun i => DL.R.dat (.int i)) ∧ Ris (1 + k) 0 ms, ⟨rfl, [], rfl, True.intro⟩, ?_, ?_⟩
    · rintro k r acc S2 hk ⟨rfl, ms, rfl, hr⟩
      obtain ⟨hk', rfl⟩ := rng_get hk
      have hv := ris_valid.mp hr
      refine dnext (D := D) (j := j) rfl hj (by decide) (by decide) fun y y0 y1 => ⟨rfl, ite2b (fun _ => ?_) (fun _ => ?_)⟩
      · have hlen := K17P.valid_len _ ms 0 hv (by omega)
        refine ⟨_, rfl, by rw [List.length_map]; omega, rfl, ms ++ [1 + (k : Int)], by rw [List.map_append]; rfl, ris_valid.mpr ?_⟩
        have q := (K17P.valid_snoc (1 + (k : Int)) ms 0 hv).2 (by omega)
        rw [show (1 : Int) + ((k + 1 : Nat) : Int) = 1 + k + 1 by omega]
        exact q
      · refine ⟨rfl, ms, rfl, ris_valid.mpr ?_⟩
        have q := (K17P.valid_snoc (1 + (k : Int)) ms 0 hv).1
        rw [show (1 : Int) + ((k + 1 : Nat) : Int) = 1 + k + 1 by omega]
        exact q
    · rintro acc S2 ⟨rfl, ms, rfl, hr⟩
      rw [rng_len, show (1 : Int) + ((((n : Int) - 1).toNat : Nat) : Int) = n by omega] at hr
      exact ⟨_, dats_ints ms, step ms hr⟩
  clear ms0 hris0
  intro ms hris
  try dsimp only [dNil, gnm, sNext]
  refine ⟨Nat.zero_le _, fun q => fun ap => ?_⟩
  refine ⟨_, rfl, _, rfl, rfl, D, n, j + 2, rfl, by simpa using hj, n30, fun rw hrl hrst => ?_⟩
  have hS0 : ∃ T : SH, (Cell.dct ap [] :: .lst q [] :: S').Perm (.lst q [] :: .dct ap [] :: (dice D :: T)) := by
    obtain ⟨A, B', eT⟩ := List.append_of_mem (List.mem_of_getElem? hj)
    refine ⟨A ++ B', (List.Perm.swap _ _ _).trans (List.Perm.cons _ (List.Perm.cons _ ?_))⟩
    rw [eT]
    exact List.perm_middle
  obtain ⟨T0, hp0⟩ := hS0
  refine ⟨fun i fr S2 => ∃ (q : Addr) (T : SH) (t9 t10 t11 t12 t13 t14 t15 t16 t17 t18 : Option DL.R), fr = [some (.scr ns), some (.val (.ref D)), some r, some (.dat (.int (n : Int))), some (.dat (.list (fs.map PyData.int))), some (.dat (.list ((List.replicate n (1 : Int)).map PyData.int))), some (.dat (.list (ms.map PyData.int))), some (.val (.ref q)), some (.val (.ref ap)), t9, t10, t11, t12, t13, t14, t15, t16, t17, t18] ∧ S2.Perm (.lst q (rwR (bld ms rw i)) :: .dct ap (kvp ms i) :: (dice D :: T)), ⟨q, T0, _, _, _, _, _, _, _, _, _, _, rfl, hp0⟩, ?_, ?_⟩
  · clear hp0 T0 q
    rintro i2 r2 fr S2 hi2 ⟨q, T, t9, t10, t11, t12, t13, t14, t15, t16, t17, t18, rfl, hp⟩
    obtain ⟨d, hd, rfl⟩ := enum_get hi2
    rw [List.getElem?_map] at hd
    cases hx : rw[i2]? with
    | none => rw [hx] at hd; cases hd
    | some row =>
    rw [hx] at hd
    cases hd
    have hi3 : i2 < n := by rw [← hrl]; exact (List.getElem?_eq_some_iff.mp hx).1
    have hbl := bld_le ms rw i2
    have hbl2 := bld_len ms rw i2
    refine ⟨rfl, ?_⟩
    dsimp only [List.map, gCn, gNl, gnm]
    refine ⟨rfl, ?_⟩
    obtain ⟨jq, hjq⟩ := cell_at (hp.mem_iff.mpr (show Cell.lst q (rwR (bld ms rw i2)) ∈ _ by simp))
    obtain ⟨ja, hja⟩ := cell_at (hp.mem_iff.mpr (show Cell.dct ap (kvp ms i2) ∈ _ by simp))
    refine ⟨_, rfl, le_ok rfl, _, rfl, le_ok rfl, _, rfl, _, rfl, _, rfl, rfl, flat_ints ms, ?_⟩
    have em : (List.replicate (if decide ((i2 : Int) ∈ ms) = true then (1 : Int) else 0).toNat [PyData.tuple [.str "mark"]]).flatten = (mks ms i2).map PRow.dat := by
      unfold mks
      by_cases h : (i2 : Int) ∈ ms
      · rw [if_pos h, decide_eq_true h]; rfl
      · rw [if_neg h, decide_eq_false h]; rfl
    have eb : (if decide ((i2 : Int) ∈ ms) = true then (1 : Int) else 0) ≤ 1 ∧ 0 ≤ (if decide ((i2 : Int) ∈ ms) = true then (1 : Int) else 0) := by split <;> decide
    dsimp only [dNil, fInt]
    rw [if_neg Bool.false_ne_true, in_ints]
    refine ⟨by omega, by omega, le_ok rfl, ?_⟩
    rw [em]
    have hml := mks_len ms i2
    have hmle := hm_le ms i2
    have ell : (rwR (bld ms rw i2) ++ ((mks ms i2).map PRow.dat).map R.dat).length = posn ms i2 := by
      rw [List.length_append, rwR_len, List.length_map, List.length_map, mks_len, hbl2]
    refine ⟨rwR (bld ms rw i2), ((mks ms i2).map PRow.dat).map R.dat, ⟨jq, hjq⟩, rfl, by rw [rwR_len, List.length_map, List.length_map, mks_len]; omega, fun q' => ?_⟩
    have el : (((rwR (bld ms rw i2) ++ ((mks ms i2).map PRow.dat).map R.dat).length : Nat) : Int) = ((posn ms i2 : Nat) : Int) := by rw [ell]
    refine ⟨_, rfl, _, rfl, _, rfl, 0, _, rfl, .inr ⟨ja + 1, kvp ms i2, by simpa using hja, by rw [kvp_len]; omega, ?_⟩⟩
    rw [el, kvp_put]
    refine ⟨_, rfl, ⟨0, _, rfl⟩, _, rfl, 0, _, rfl, by rw [ell]; omega, ?_⟩
    refine ⟨q', .lst q (rwR (bld ms rw i2)) :: T, _, _, _, _, _, _, _, _, _, _, rfl, ?_⟩
    have erow : rw.getD i2 .mark = row := by rw [List.getD_eq_getElem?_getD, hx]; rfl
    have ex : (rwR (bld ms rw i2) ++ ((mks ms i2).map PRow.dat).map R.dat) ++ [R.dat row.dat] = rwR (bld ms rw (i2 + 1)) := by
      show _ = rwR ((bld ms rw i2 ++ mks ms i2) ++ [rw.getD i2 .mark])
      rw [erow, rwR_app, rwR_app]; rfl
    rw [← ex]
    refine List.Perm.cons _ ?_
    refine (set_perm hja (hp.trans (List.Perm.swap _ _ _))).trans (List.Perm.cons _ ?_)
    exact List.Perm.swap _ _ _
  · clear hp0 T0 q
    rintro fr S2 ⟨q, T, t9, t10, t11, t12, t13, t14, t15, t16, t17, t18, rfl, hp⟩
    rw [enum_len, List.length_map, hrl] at hp
    have hbn := posn_n (ms := ms) hrl hris
    have hbl := bld_le ms rw n
    obtain ⟨jq, hjq⟩ := cell_at (hp.mem_iff.mpr (show Cell.lst q (rwR (bld ms rw n)) ∈ _ by simp))
    obtain ⟨ja, hja⟩ := cell_at (hp.mem_iff.mpr (show Cell.dct ap (kvp ms n) ∈ _ by simp))
    have el : (((rwR (bld ms rw n)).length : Nat) : Int) = ((posn ms n : Nat) : Int) := by rw [rwR_len, hbn]
    refine ⟨_, rfl, _, rfl, _, rfl, jq, _, hjq, .inr ⟨ja, kvp ms n, hja, by rw [kvp_len]; omega, ?_⟩⟩
    rw [el, kvp_put]
    have hp2 : (S2.set ja (.dct ap (kvp ms (n + 1)))).Perm (.lst q (rwR (bld ms rw n)) :: .dct ap (kvp ms (n + 1)) :: (dice D :: T)) :=
      (set_perm hja (hp.trans (List.Perm.swap _ _ _))).trans (List.Perm.swap _ _ _)
    generalize S2.set ja (.dct ap (kvp ms (n + 1))) = S3 at hp2
    clear hp hjq hja S2
    have pok : (⟨2, 1, bld ms rw n⟩ : Prog).ok := ⟨two_ok, one_ok, by show (bld ms rw n).length ≤ 60; omega, fun r hr => row_ok21 (bld_sort hrst n (by omega) r hr)⟩
    have hh0 : HandedOk [] := ⟨by decide, fun x hx => nomatch hx⟩
    obtain ⟨Z, cfg, z1, z2, z3, z4, z5⟩ := cfg_mk (ms := ms) (rs := rw) (n := n) pok hh0 rfl rfl hrl hrst hris n30
    have z := cfg.z
    have eN := cfg.N
    have hN60 : Z.N ≤ 60 := by rw [eN, z1]; show (bld ms rw n).length ≤ 60; omega
    refine ⟨le_ok rfl, _, rfl, fun i fr S' => ∃ (T : SH) (t9 t10 t11 t12 t13 t14 t15 t16 t17 t18 : Option DL.R), fr = [some (.scr ns), some (.val (.ref D)), some r, some (.dat (.int (n : Int))), some (.dat (.list (fs.map PyData.int))), some (.dat (.list ((List.replicate n (1 : Int)).map PyData.int))), some (.dat (.list (ms.map PyData.int))), some (.val (.ref q)), some (.val (.ref ap)), t9, t10, t11, t12, t13, t14, t15, t16, t17, t18] ∧ S'.Perm (.lst q (rwR (bld ms rw n)) :: .dct ap (kvp ms (n + 1)) :: (dice D :: T)), ⟨T, _, _, _, _, _, _, _, _, _, _, rfl, hp2⟩, ?_, ?_⟩
    · clear hp2 T S3
      rintro i3 r3 fr S3 hi3 ⟨T, t9, t10, t11, t12, t13, t14, t15, t16, t17, t18, rfl, hp⟩
      obtain ⟨way, rfl, hw⟩ : ∃ way : Str, r3 = .dat (.str way) ∧ (way = backW ∨ way = onW) := by
        match i3, hi3 with
        | 0, hi3 => cases hi3; exact ⟨_, rfl, .inl rfl⟩
        | 1, hi3 => cases hi3; exact ⟨_, rfl, .inr rfl⟩
        | n + 2, hi3 => cases hi3
      obtain ⟨jq, hjq⟩ := cell_at (hp.mem_iff.mpr (show Cell.lst q (rwR (bld ms rw n)) ∈ _ by simp))
      refine ⟨_, rfl, jq, _, _, hjq, dats_map _, le_ok rfl, _, rfl, le_ok rfl, _, rfl, _, rfl, rfl, fun x => ⟨x, ⟨2, 1, bld ms rw n⟩, [], way, 0, _, rfl, rfl, pok, hh0, hw, by decide, by decide, fun a => ⟨rfl, ?_⟩⟩⟩
      refine ⟨_, rfl, fun lf => ⟨le_ok rfl, rfl, ?_⟩⟩
      have hlf : (fs.map PyData.int).map R.dat = iR fs := by unfold iR; rw [List.map_map]; rfl
      rw [hlf]
      dsimp only [gCn, gNl, gnm]
      refine ⟨rfl, ?_⟩
      have lp0 := lp_new (way := way) (ms := ms) (rs := rw) (n := n) cfg (p := ⟨2, 1, bld ms rw n⟩) z1.symm z2.symm z3 hsort hfb
      refine ⟨fun k fr S4 => ∃ (st : WorkS) (a : As) (m : Nat) (told : PyData) (left : List Int) (mv : Int) (T : SH) (t16 t17 t18 : Option DL.R), fr = [some (.scr ns), some (.val (.ref D)), some r, some (.dat (.int (n : Int))), some (.dat (.list (fs.map PyData.int))), some (.dat (.list ((List.replicate n (1 : Int)).map PyData.int))), some (.dat (.list (ms.map PyData.int))), some (.val (.ref q)), some (.val (.ref ap)), t9, t10, some (.dat (.str way)), some (.val (.ref x)), some (.val (.ref lf)), some (.dat told), some (.dat (.int mv)), t16, t17, t18] ∧
        S4.Perm (wC c x a st ++ (.lst lf (iR left) :: .dct ap (kvp ms (n + 1)) :: .lst q (rwR (bld ms rw n)) :: (dice D :: T))) ∧ Lp Z way ms n (Z.N + dsum ms fs) left m st ∧ TK Z st told ∧ 0 ≤ mv ∧ (k : Int) = 9000 - mv ∧ mv ≤ 4001 ∧ (PyData.eqv told restsD = true ∨ mv + 305 * left.length + mu Z.N st ≤ 4000),
        ⟨9000, newW ⟨2, 1, bld ms rw n⟩ [] way 0, a, 0, .none, fs, 0, T, _, _, _, rfl, ?_, lp0, tk_new, by decide, by decide, by decide, .inr ?_⟩, ?_⟩
      · refine List.Perm.trans ?_ List.perm_middle.symm
        refine List.Perm.cons _ (List.Perm.append_left _ ?_)
        exact hp.trans (List.Perm.swap _ _ _)
      · have := mu_small lp0.v
        omega
      clear hjq hp lp0 T a S3
      rintro k fr S4 ⟨st, a, m, told, left, mv, T, t16, t17, t18, rfl, hp, lp, tk, mv0, ek, mv1, hb0⟩
      have mnn := mu_nn lp.v
      refine ⟨_, rfl, le_ok rfl, _, rfl, tk.shp.eq (shp_rests.mono (by decide)) (by decide), ?_⟩
      refine ite2b (fun hb => ?_) (fun hb => ?_)
      · have hne : PyData.eqv told restsD = false := by
          cases hx : PyData.eqv told restsD with
          | false => rfl
          | true => rw [show PyData.eqv told (PyData.tuple [PyData.str "rests"]) = true from hx] at hb; cases hb
        have hbd : mv + 305 * left.length + mu Z.N st ≤ 4000 := hb0.resolve_left (by rw [hne]; exact Bool.false_ne_true)
        have hmv : mv < 9000 := by omega
        refine ⟨_, rfl, iteTb (decide_eq_true hmv) ?_⟩
        refine meth_perm (a := a) (st := st) rfl hp ⟨x, a, st, rfl, rfl, True.intro, fun a1 => ?_⟩
        dsimp only [gnm]
        refine seq_cut (fun N => ∀ (st' : WorkS) (a' : As) (left' : List Int) (m' : Nat) (S5 : SH), S5.Perm (wC c x a' st' ++ (.lst lf (iR left') :: .dct ap (kvp ms (n + 1)) :: .lst q (rwR (bld ms rw n)) :: (dice D :: T))) → Lp Z way ms n (Z.N + dsum ms fs) left' m' st' →
          (∀ i f gs, st'.inner = some i → i.noted = none → left' = f :: gs → i.passed ≠ posn ms f.toNat) → mv + 305 * left'.length + mu Z.N st' ≤ 4000 →
          N [some (.scr ns), some (.val (.ref D)), some r, some (.dat (.int (n : Int))), some (.dat (.list (fs.map PyData.int))), some (.dat (.list ((List.replicate n (1 : Int)).map PyData.int))), some (.dat (.list (ms.map PyData.int))), some (.val (.ref q)), some (.val (.ref ap)), t9, t10, some (.dat (.str way)), some (.val (.ref x)), some (.val (.ref lf)), some (.dat told), some (.dat (.int mv)), some (.dat (standsD st)), t17, t18] S5) ?_ fun N step => ?_
        · intro st' a' left' m' S5 hp5 lp5 hnf hbd5
          have mvok : MoveE st' := by
            have room := lp5.v.room z
            exact ⟨Z.nN, Z.nF, lp5.v.ok z hw, by omega, by omega⟩
          obtain ⟨m2, lp6, tk6⟩ := lp_move cfg hw lp5 hnf
          refine meth_perm (a := a') (st := st') rfl hp5 ⟨x, a', st', rfl, rfl, mvok, fun a2 => ?_⟩
          refine ⟨_, rfl, (9000 - (mv + 1)).toNat, by omega, (moveW st').2, a2, m2, (moveW st').1, left', mv + 1, T, _, _, _, rfl, List.Perm.refl _, lp6, tk6, by omega, by omega, by omega, ?_⟩
          cases ho : isOver st' with
          | true => exact .inl (by rw [move_over ho]; exact shp_rests.refl)
          | false =>
            have := mu_move lp5.v ho
            exact .inr (by omega)
        · have hp6 : ∃ (jl ja : Nat), (wC c x a1 st ++ (.lst lf (iR left) :: .dct ap (kvp ms (n + 1)) :: .lst q (rwR (bld ms rw n)) :: (dice D :: T)))[jl]? = some (.lst lf (iR left)) ∧ (wC c x a1 st ++ (.lst lf (iR left) :: .dct ap (kvp ms (n + 1)) :: .lst q (rwR (bld ms rw n)) :: (dice D :: T)))[ja]? = some (.dct ap (kvp ms (n + 1))) := by
            obtain ⟨jl, hjl⟩ := cell_at (show Cell.lst lf (iR left) ∈ (wC c x a1 st ++ (.lst lf (iR left) :: .dct ap (kvp ms (n + 1)) :: .lst q (rwR (bld ms rw n)) :: (dice D :: T))) by simp)
            obtain ⟨ja, hja⟩ := cell_at (show Cell.dct ap (kvp ms (n + 1)) ∈ (wC c x a1 st ++ (.lst lf (iR left) :: .dct ap (kvp ms (n + 1)) :: .lst q (rwR (bld ms rw n)) :: (dice D :: T))) by simp)
            exact ⟨jl, ja, hjl, hja⟩
          obtain ⟨jl, ja, hjl, hja⟩ := hp6
          refine ⟨_, rfl, le_ok rfl, _, rfl, jl, _, hjl, ?_⟩
          cases left with
          | nil => exact step st a1 [] m _ (List.Perm.refl _) lp (fun i f gs _ _ e => by cases e) hbd
          | cons f gs =>
          have ho : isOver st = false := by
            cases ho : isOver st with
            | false => rfl
            | true => have := (lp.fin ho).1; cases this
          cases hin : st.inner with
          | none =>
            have es : standsD st = .none := by unfold standsD; rw [hin]
            rw [es] at step ⊢
            exact ⟨_, rfl, step st a1 (f :: gs) m _ (List.Perm.refl _) lp (fun i f' gs' h1 => by rw [hin] at h1; cases h1) hbd⟩
          | some i =>
            have es : standsD st = .tuple [.int i.row, lstI i.names] := by unfold standsD; rw [hin]
            rw [es] at step ⊢
            obtain ⟨kk, k0, k1, at_, _⟩ := lp.v.inner i hin
            have erow : i.row = i.passed := by rw [at_.row, at_.passed, cfg.row kk k1]
            obtain ⟨f0, f1⟩ := lp.srt.2 f List.mem_cons_self
            refine ⟨_, rfl, _, rfl, _, at0, _, rfl, ja, _, hja, ite2b (fun hk => ?_) (fun hk => ?_)⟩
            · obtain ⟨jj, hj1, ej⟩ := kvp_any ms (n + 1) i.row hk
              have hf : (kvp ms (n + 1)).find? (fun kv => decide (kv.1 = Sum.inl i.row)) = some (Sum.inl i.row, .dat (.int (jj : Int))) := by rw [← ej]; exact kvp_find ms hj1
              refine ⟨_, rfl, _, rfl, _, at0, .inr ⟨ja, _, _, hja, hf, _, rfl, .inl ⟨jl, _, _, hjl, at0, rfl, ite2b (fun he => ?_) (fun he => ?_)⟩⟩⟩
              · have ef : (jj : Int) = f := by
                  have he' : PyData.eqv (.int (jj : Int)) (.int f) = true := he
                  rw [eqI] at he'
                  exact of_decide_eq_true he'
                refine test_cl rfl (tk_shape tk) (ite2b (fun hc => ?_) (fun hc => ?_))
                · have hno := (tk_cl tk hin ho).1 hc
                  have hps : i.passed = posn ms f.toNat := by
                    rw [show f.toNat = jj by omega]; omega
                  have lp2 := lp_fall cfg lp hin hno hps ho
                  refine meth_perm (a := a1) (st := st) rfl (List.Perm.refl _) ⟨x, a1, st, rfl, rfl, True.intro, fun a2 => ?_⟩
                  have hpm : (wC c x a2 (fallW st) ++ (Cell.lst lf (iR (f :: gs)) :: .dct ap (kvp ms (n + 1)) :: .lst q (rwR (bld ms rw n)) :: (dice D :: T))).Perm (Cell.lst lf (iR (f :: gs)) :: (wC c x a2 (fallW st) ++ (.dct ap (kvp ms (n + 1)) :: .lst q (rwR (bld ms rw n)) :: (dice D :: T)))) := List.perm_middle
                  obtain ⟨j2, hj2⟩ := cell_at (hpm.mem_iff.mpr List.mem_cons_self)
                  refine ⟨_, rfl, ⟨j2, _, hj2⟩, j2, _, .dat (.int f), hj2, by decide, by decide, rfl, ?_⟩
                  refine step (fallW st) a2 gs m _ ((set_perm hj2 hpm).trans List.perm_middle.symm) lp2 (fun i' f' gs' h1 => by cases h1) ?_
                  have := mu_small lp2.v
                  simp only [List.length_cons] at hbd
                  omega
                · have hno := (tk_cl tk hin ho).2 hc
                  exact step st a1 (f :: gs) m _ (List.Perm.refl _) lp (fun i' f' gs' h1 h2 => by rw [hin] at h1; cases h1; exact absurd h2 hno) hbd
              · refine step st a1 (f :: gs) m _ (List.Perm.refl _) lp (fun i' f' gs' h1 _ h3 h4 => ?_) hbd
                rw [hin] at h1
                cases h1
                cases h3
                have e5 : jj = f.toNat := posn_inj ms (by omega)
                have he' : PyData.eqv (.int (jj : Int)) (.int f) = false := he
                rw [eqI, decide_eq_true (show (jj : Int) = f by omega)] at he'
                cases he'
            · refine step st a1 (f :: gs) m _ (List.Perm.refl _) lp (fun i' f' gs' h1 _ h3 h4 => ?_) hbd
              rw [hin] at h1
              cases h1
              cases h3
              have hh := kvp_has ms (j := f.toNat) (k := n + 1) (by omega)
              rw [← h4, ← erow, hk] at hh
              cases hh
      · have het : PyData.eqv told restsD = true := by
          cases hx : PyData.eqv told restsD with
          | true => rfl
          | false => rw [show PyData.eqv told (PyData.tuple [PyData.str "rests"]) = false from hx] at hb; cases hb
        have ho := tk.over het
        obtain ⟨rfl, hcount⟩ := lp_end cfg hw lp ho
        obtain ⟨jl, hjl⟩ := cell_at (hp.mem_iff.mpr (show Cell.lst lf (iR []) ∈ _ by simp))
        obtain ⟨jq, hjq⟩ := cell_at (hp.mem_iff.mpr (show Cell.lst q (rwR (bld ms rw n)) ∈ _ by simp))
        refine iteFb rfl ?_
        try dsimp only [sNext]
        refine seq_cut (fun N => ∀ more : Int, more = (if way = backW then dsum ms fs else 0) → N [some (.scr ns), some (.val (.ref D)), some r, some (.dat (.int (n : Int))), some (.dat (.list (fs.map PyData.int))), some (.dat (.list ((List.replicate n (1 : Int)).map PyData.int))), some (.dat (.list (ms.map PyData.int))), some (.val (.ref q)), some (.val (.ref ap)), t9, t10, some (.dat (.str way)), some (.val (.ref x)), some (.val (.ref lf)), some (.dat told), some (.dat (.int mv)), t16, some (.dat (.int more)), t18] S4) ?_ fun N step => ?_
        · intro more hmore
          refine ⟨_, rfl, le_ok rfl, _, rfl, tk.shp.eq (shp_rests.mono (by decide)) (by decide), iteFb (by rw [show PyData.eqv told (PyData.tuple [PyData.str "rests"]) = true from het]; rfl) ?_⟩
          refine ⟨_, rfl, le_ok rfl, _, rfl, jl, _, hjl, ?_⟩
          refine meth_perm (a := a) (st := st) rfl hp ⟨x, a, st, rfl, rfl, True.intro, fun a1 => ?_⟩
          obtain ⟨jr, hjr⟩ := cell_at (show Cell.lst q (rwR (bld ms rw n)) ∈ wC c x a1 st ++ (Cell.lst lf (iR []) :: .dct ap (kvp ms (n + 1)) :: .lst q (rwR (bld ms rw n)) :: (dice D :: T)) by simp)
          refine ⟨_, rfl, jr, _, hjr, _, rfl, rfl, iteFb ?_ ?_⟩
          · have e1 : st.count = ((rwR (bld ms rw n)).length : Int) + more := by
              rw [hcount, hmore, rwR_len]
              have hrws : Z.rows.length = (bld ms rw n).length := by rw [z1]
              by_cases hwb : way = backW
              · rw [if_pos hwb, if_pos hwb]; omega
              · rw [if_neg hwb, if_neg hwb]; omega
            show (!PyData.eqv (.int st.count) (.int (((rwR (bld ms rw n)).length : Int) + more))) = false
            rw [e1, eqI, decide_eq_true rfl]; rfl
          · refine ⟨wC c x a1 st ++ (Cell.lst lf (iR []) :: T), _, _, _, _, _, _, _, _, _, _, rfl, ?_⟩
            classical
            rw [List.perm_iff_count]
            intro z
            simp only [List.count_append, List.count_cons, List.count_nil]
            omega
        · refine ⟨_, rfl, rfl, ite2b (fun hb2 => ?_) (fun hb2 => ?_)⟩
          · have ew : way = backW := by
              have h2 : PyData.eqv (.str way) (.str "back") = true := hb2
              rw [eqv_str] at h2
              exact of_decide_eq_true h2
            refine ⟨_, rfl, _, rfl, _, rfl, rfl, List.replicate n (1 : Int), fs, 0, ms, rfl, ⟨fun w hw => ?_, by rw [List.length_replicate]; omega, fun f hf => by rw [List.length_replicate]; exact hfb f hf, hsort, by omega, by decide⟩, by rw [List.length_replicate]; exact ris_valid.mp hris, ?_⟩
            · have := (List.mem_replicate.mp hw).2
              omega
            · exact step _ (by rw [if_pos ew]; exact cost_dsum hris hfb)
          · have ew : ¬ way = backW := fun e => by
              have h2 : PyData.eqv (.str way) (.str "back") = false := hb2
              rw [eqv_str, decide_eq_true e] at h2
              cases h2
            exact step 0 (by rw [if_neg ew])
    · rintro fr S' ⟨T, t9, t10, t11, t12, t13, t14, t15, t16, t17, t18, rfl, hp⟩
      obtain ⟨j', hj'⟩ := cell_at (hp.mem_iff.mpr (show dice D ∈ _ by simp))
      exact ⟨_, _, _, _, _, _, _, _, _, _, _, _, _, _, _, _, _, rfl, j', hj'⟩
end
end K17
set_option Elab.async false
set_option linter.all false
set_option maxRecDepth 100000
set_option maxHeartbeats 0
namespace K17
open PySem PySem.Spec PyProof.Rows L2 DL PM
open K17P (s_need_plan s_need_marks s_redone s_cost s_best)
def dd_is_number : He.DefD := ⟨("is_number", none), "is_number", "is_number", defArgs s_is_number, defBody s_is_number, defScope s_is_number, [], []⟩
def dd_is_part : He.DefD := ⟨("is_part", none), "is_part", "is_part", defArgs s_is_part, defBody s_is_part, defScope s_is_part, [], []⟩
def dd_shape_of : He.DefD := ⟨("shape_of", none), "shape_of", "shape_of", defArgs s_shape_of, defBody s_shape_of, defScope s_shape_of, [], []⟩
def dd_why_not : He.DefD := ⟨("why_not", none), "why_not", "why_not", defArgs s_why_not, defBody s_why_not, defScope s_why_not, [], []⟩
def dd_need_program : He.DefD := ⟨("need_program", none), "need_program", "need_program", defArgs s_need_program, defBody s_need_program, defScope s_need_program, [], []⟩
def dd_need_handed : He.DefD := ⟨("need_handed", none), "need_handed", "need_handed", defArgs s_need_handed, defBody s_need_handed, defScope s_need_handed, [], []⟩
def dd_worth : He.DefD := ⟨("worth", none), "worth", "worth", defArgs s_worth, defBody s_worth, defScope s_worth, [], []⟩
def dd_changed : He.DefD := ⟨("changed", none), "changed", "changed", defArgs s_changed, defBody s_changed, defScope s_changed, [], []⟩
def dd_effect : He.DefD := ⟨("effect", none), "effect", "effect", defArgs s_effect, defBody s_effect, defScope s_effect, [], []⟩
def dd_named : He.DefD := ⟨("named", none), "named", "named", defArgs s_named, defBody s_named, defScope s_named, [], []⟩
def dd_need_plan : He.DefD := ⟨("need_plan", none), "need_plan", "need_plan", defArgs s_need_plan, defBody s_need_plan, defScope s_need_plan, [], []⟩
def dd_need_marks : He.DefD := ⟨("need_marks", none), "need_marks", "need_marks", defArgs s_need_marks, defBody s_need_marks, defScope s_need_marks, [], []⟩
def dd_redone : He.DefD := ⟨("redone", none), "redone", "redone", defArgs s_redone, defBody s_redone, defScope s_redone, [], []⟩
def dd_cost : He.DefD := ⟨("cost", none), "cost", "cost", defArgs s_cost, defBody s_cost, defScope s_cost, [], []⟩
def dd_best : He.DefD := ⟨("best", none), "best", "best", defArgs s_best, defBody s_best, defScope s_best, [], []⟩
def dd__law_dice : He.DefD := ⟨("_law_dice", none), "_law_dice", "_law_dice", defArgs s__law_dice, defBody s__law_dice, defScope s__law_dice, [], []⟩
def dd__law_next : He.DefD := ⟨("_law_next", none), "_law_next", "_law_next", defArgs s__law_next, defBody s__law_next, defScope s__law_next, [], []⟩
def dd__law_straight : He.DefD := ⟨("_law_straight", none), "_law_straight", "_law_straight", defArgs s__law_straight, defBody s__law_straight, defScope s__law_straight, [], []⟩
def dd_law : He.DefD := ⟨("law", none), "law", "law", defArgs s_law, defBody s_law, defScope s_law, [], []⟩
def dd_Effect___init__ : He.DefD := ⟨("Effect", some "__init__"), "__init__", "Effect.__init__", defArgs s_Effect___init__, defBody s_Effect___init__, defScope s_Effect___init__, [], []⟩
def dd_Effect_change : He.DefD := ⟨("Effect", some "change"), "change", "Effect.change", defArgs s_Effect_change, defBody s_Effect_change, defScope s_Effect_change, [], []⟩
def dd_Mark___init__ : He.DefD := ⟨("Mark", some "__init__"), "__init__", "Mark.__init__", defArgs s_Mark___init__, defBody s_Mark___init__, defScope s_Mark___init__, [], []⟩
def dd_Inner___init__ : He.DefD := ⟨("Inner", some "__init__"), "__init__", "Inner.__init__", defArgs s_Inner___init__, defBody s_Inner___init__, defScope s_Inner___init__, [], []⟩
def dd_Work___init__ : He.DefD := ⟨("Work", some "__init__"), "__init__", "Work.__init__", defArgs s_Work___init__, defBody s_Work___init__, defScope s_Work___init__, [], []⟩
def dd_Work_fall : He.DefD := ⟨("Work", some "fall"), "fall", "Work.fall", defArgs s_Work_fall, defBody s_Work_fall, defScope s_Work_fall, [], []⟩
def dd_Work_move : He.DefD := ⟨("Work", some "move"), "move", "Work.move", defArgs s_Work_move, defBody s_Work_move, defScope s_Work_move, [], []⟩
def dd_Work_rise : He.DefD := ⟨("Work", some "rise"), "rise", "Work.rise", defArgs s_Work_rise, defBody s_Work_rise, defScope s_Work_rise, [], []⟩
def dd_Work_go_through : He.DefD := ⟨("Work", some "go_through"), "go_through", "Work.go_through", defArgs s_Work_go_through, defBody s_Work_go_through, defScope s_Work_go_through, [], []⟩
def dd_Work_take_over : He.DefD := ⟨("Work", some "take_over"), "take_over", "Work.take_over", defArgs s_Work_take_over, defBody s_Work_take_over, defScope s_Work_take_over, [], []⟩
def dd_Work_keep : He.DefD := ⟨("Work", some "keep"), "keep", "Work.keep", defArgs s_Work_keep, defBody s_Work_keep, defScope s_Work_keep, [], []⟩
def dd_Work_ends : He.DefD := ⟨("Work", some "ends"), "ends", "Work.ends", defArgs s_Work_ends, defBody s_Work_ends, defScope s_Work_ends, [], []⟩
def dd_Work_begin : He.DefD := ⟨("Work", some "begin"), "begin", "Work.begin", defArgs s_Work_begin, defBody s_Work_begin, defScope s_Work_begin, [], []⟩
def dd_Work_done : He.DefD := ⟨("Work", some "done"), "done", "Work.done", defArgs s_Work_done, defBody s_Work_done, defScope s_Work_done, [], []⟩
def dd_Work_sends : He.DefD := ⟨("Work", some "sends"), "sends", "Work.sends", defArgs s_Work_sends, defBody s_Work_sends, defScope s_Work_sends, [], []⟩
def dd_Work_files : He.DefD := ⟨("Work", some "files"), "files", "Work.files", defArgs s_Work_files, defBody s_Work_files, defScope s_Work_files, [], []⟩
def dd_Work_sent : He.DefD := ⟨("Work", some "sent"), "sent", "Work.sent", defArgs s_Work_sent, defBody s_Work_sent, defScope s_Work_sent, [], []⟩
def dd_Work_stands : He.DefD := ⟨("Work", some "stands"), "stands", "Work.stands", defArgs s_Work_stands, defBody s_Work_stands, defScope s_Work_stands, [], []⟩
def dd_Work_kept : He.DefD := ⟨("Work", some "kept"), "kept", "Work.kept", defArgs s_Work_kept, defBody s_Work_kept, defScope s_Work_kept, [], []⟩
def dd_Work_end : He.DefD := ⟨("Work", some "end"), "end", "Work.end", defArgs s_Work_end, defBody s_Work_end, defScope s_Work_end, [], []⟩
def dd_Work_steps : He.DefD := ⟨("Work", some "steps"), "steps", "Work.steps", defArgs s_Work_steps, defBody s_Work_steps, defScope s_Work_steps, [], []⟩
def fn : List He.DefD := [dd_is_number, dd_is_part, dd_shape_of, dd_why_not, dd_need_program, dd_need_handed, dd_worth, dd_changed, dd_effect, dd_named, dd_need_plan, dd_need_marks, dd_redone, dd_cost, dd_best, dd__law_dice, dd__law_next, dd__law_straight, dd_law, dd_Effect___init__, dd_Effect_change, dd_Mark___init__, dd_Inner___init__, dd_Work___init__, dd_Work_fall, dd_Work_move, dd_Work_rise, dd_Work_go_through, dd_Work_take_over, dd_Work_keep, dd_Work_ends, dd_Work_begin, dd_Work_done, dd_Work_sends, dd_Work_files, dd_Work_sent, dd_Work_stands, dd_Work_kept, dd_Work_end, dd_Work_steps]
def faA : List He.Fa := [.glo "is_number", .glo "is_part", .glo "shape_of", .glo "why_not", .glo "need_program", .glo "need_handed", .glo "worth", .glo "changed", .glo "effect", .glo "named", .glo "need_plan", .glo "need_marks", .glo "redone", .glo "cost", .glo "best", .glo "_law_dice", .glo "_law_next", .glo "_law_straight", .glo "law", .free "len", .free "range", .free "int", .free "sum", .free "max", .free "min", .free "sorted", .free "list", .free "tuple", .free "isinstance", .free "enumerate", .free "str", .free "bool", .free "zip", .free "set", .free "dict", .int "REST" (10007), .int "MOST_NAMES" (8), .int "MOST_FILES" (4), .int "MOST_ROWS" (60), .int "MOST_DEEP" (3), .int "MOST_HANDED" (40), .int "MOST_FILE" (40), .int "MOST_STEPS" (1000), .int "MOST_OFTEN" (99), .int "MOST_WEIGHTS" (60), .int "MOST_WEIGHT" (99), .int "MOST_FALLS" (20), .int "MOST_PRICE" (999), .str "BACK" "back", .str "ON" "on", .glo "PAIRS", .glo "CHANGES", .glo "SHAPES", .glo "JUMPS", .glo "Effect", .glo "Mark", .glo "Inner", .glo "Work", .cls "Effect", .cls "Mark", .cls "Inner", .cls "Work", .mkr "Effect", .meth "Effect" "change", .mkr "Mark", .mkr "Inner", .mkr "Work", .meth "Work" "fall", .meth "Work" "move", .meth "Work" "rise", .meth "Work" "go_through", .meth "Work" "take_over", .meth "Work" "keep", .meth "Work" "ends", .meth "Work" "begin", .meth "Work" "done", .meth "Work" "sends", .meth "Work" "files", .meth "Work" "sent", .meth "Work" "stands", .meth "Work" "kept", .meth "Work" "end", .meth "Work" "steps"]
def fa : List He.Fa := faA ++ (FE).map (He.Fa.noat "Effect") ++ (FM).map (He.Fa.noat "Mark") ++ (FI).map (He.Fa.noat "Inner") ++ (FW).map (He.Fa.noat "Work")
def ts : List He.Tab := [(fun K => He.ga K "SHAPES", shapes.map (·.1)), (fun K => He.ga K "JUMPS", jumps.map (·.1))]
def ex (K : PySem.W.Frag) : Bool := He.tupB K "PAIRS" [.str "sum", .str "diff", .str "less"] && (He.tupB K "CHANGES" [.str "add", .str "put", .str "cut"] && (He.valsB K (He.ga K "SHAPES") (shapes.map fun q => (q.1, He.Dv.str q.2)) && (He.valsB K (He.ga K "JUMPS") (jumps.map fun q => (q.1, He.Dv.str q.2)))))
abbrev Rw : PySem.W.OpenRow := PySem.W.OpenLaw.row PySem.Challenge.rw_longwork_k17_whole_redone_as_reckoned
abbrev hk : PySem.W.Hook := He.hookX 5 fa fn ts [] ex
def ob (s : PySem.W.SharedT) : He.AlX := He.obsX 5 fa fn ts [] ex (HandSHeadRun.getT s)
theorem ob_eq (s : PySem.W.SharedT) : ob s = hk.obs s.abs := He.obsX_eq (HandSHeadRun.getT_eq s)
def loose0 : List Str := ["WorkError", "BadProgram", "BadHanded", "BadWay", "BadOften", "BadWeights", "BadFalls", "BadPrice", "BadMarks", "REST", "MOST_NAMES", "MOST_FILES", "MOST_ROWS", "MOST_DEEP", "MOST_HANDED", "MOST_FILE", "MOST_STEPS", "SHAPES", "JUMPS", "PAIRS", "CHANGES", "is_number", "is_part", "shape_of", "why_not", "need_program", "need_handed", "worth", "Effect", "changed"]
def loose1 : List Str := ["effect", "named", "BACK", "ON", "MOST_OFTEN", "Mark", "Inner", "Work", "MOST_WEIGHTS", "MOST_WEIGHT", "MOST_FALLS", "MOST_PRICE", "need_plan", "need_marks", "redone", "cost", "best", "_law_dice", "_law_next", "_law_straight"]
def loose : List Str := loose0 ++ loose1
theorem runF (w : World) : HandSHeadRun.RunEq Rw (PySem.W.view Rw.prog [56]) hk ob 6000 loose (w.withFollow "special-get-raises" false) := by
  intro os
  kernel_rfl
theorem runT (w : World) : HandSHeadRun.RunEq Rw (PySem.W.view Rw.prog [56]) hk ob 6000 loose (w.withFollow "special-get-raises" true) := by
  intro os
  kernel_rfl
theorem run (w : World) : HandSHeadRun.RunEq Rw (PySem.W.view Rw.prog [56]) hk ob 6000 loose w := PySem.W.byRow2 "special-get-raises" (P := fun w => HandSHeadRun.RunEq Rw (PySem.W.view Rw.prog [56]) hk ob 6000 loose w) runF runT w
theorem facts {P : Program} {w : World} {K : Fg} {h : Heap} {mg : Str → Option Value} {f : Addr} (X : K.In h) (G : h.Ns mainGlobals mg) (hfa : mg ("law" : Str) = some (.ref f)) (c : He.SaysX fa fn ts [] ex w h K) :
    ∃ fd : FuncData, (∀ (s : Shared) (v : Value), BindsTo s fd ⟨[v], []⟩ [("_law_script", v)]) ∧ ∀ base : Heap, K.In base → base.Ns mainGlobals mg → FnOk P w K mg base CX0 10 f fd ["_law_script"] (toSp K 1 spLaw) := by
  have F_is_number : FunAt K mg "is_number" s_is_number ["part", "low", "high"] := by
    obtain ⟨fd, F⟩ := c.t.d.def_ 0 (d := dd_is_number) rfl
    exact funAt_mk F (He.glo_ok X G (c.t.d.fact 0 (f := .glo "is_number") rfl)) fun _ _ _ _ _ _ us hl => match us, hl with | [_, _, _], _ => rfl
  have F_is_part : FunAt K mg "is_part" s_is_part ["part", "names", "deep"] := by
    obtain ⟨fd, F⟩ := c.t.d.def_ 1 (d := dd_is_part) rfl
    exact funAt_mk F (He.glo_ok X G (c.t.d.fact 1 (f := .glo "is_part") rfl)) fun _ _ _ _ _ _ us hl => match us, hl with | [_, _, _], _ => rfl
  have F_shape_of : FunAt K mg "shape_of" s_shape_of ["word"] := by
    obtain ⟨fd, F⟩ := c.t.d.def_ 2 (d := dd_shape_of) rfl
    exact funAt_mk F (He.glo_ok X G (c.t.d.fact 2 (f := .glo "shape_of") rfl)) fun _ _ _ _ _ _ us hl => match us, hl with | [_], _ => rfl
  have F_why_not : FunAt K mg "why_not" s_why_not ["row", "names", "files", "many"] := by
    obtain ⟨fd, F⟩ := c.t.d.def_ 3 (d := dd_why_not) rfl
    exact funAt_mk F (He.glo_ok X G (c.t.d.fact 3 (f := .glo "why_not") rfl)) fun _ _ _ _ _ _ us hl => match us, hl with | [_, _, _, _], _ => rfl
  have F_need_program : FunAt K mg "need_program" s_need_program ["program"] := by
    obtain ⟨fd, F⟩ := c.t.d.def_ 4 (d := dd_need_program) rfl
    exact funAt_mk F (He.glo_ok X G (c.t.d.fact 4 (f := .glo "need_program") rfl)) fun _ _ _ _ _ _ us hl => match us, hl with | [_], _ => rfl
  have F_need_handed : FunAt K mg "need_handed" s_need_handed ["handed"] := by
    obtain ⟨fd, F⟩ := c.t.d.def_ 5 (d := dd_need_handed) rfl
    exact funAt_mk F (He.glo_ok X G (c.t.d.fact 5 (f := .glo "need_handed") rfl)) fun _ _ _ _ _ _ us hl => match us, hl with | [_], _ => rfl
  have F_worth : FunAt K mg "worth" s_worth ["part", "names"] := by
    obtain ⟨fd, F⟩ := c.t.d.def_ 6 (d := dd_worth) rfl
    exact funAt_mk F (He.glo_ok X G (c.t.d.fact 6 (f := .glo "worth") rfl)) fun _ _ _ _ _ _ us hl => match us, hl with | [_, _], _ => rfl
  have F_changed : FunAt K mg "changed" s_changed ["found", "row", "names", "files"] := by
    obtain ⟨fd, F⟩ := c.t.d.def_ 7 (d := dd_changed) rfl
    exact funAt_mk F (He.glo_ok X G (c.t.d.fact 7 (f := .glo "changed") rfl)) fun _ _ _ _ _ _ us hl => match us, hl with | [_, _, _, _], _ => rfl
  have F_effect : FunAt K mg "effect" s_effect ["rows", "at", "names", "taken", "handed", "files"] := by
    obtain ⟨fd, F⟩ := c.t.d.def_ 8 (d := dd_effect) rfl
    exact funAt_mk F (He.glo_ok X G (c.t.d.fact 8 (f := .glo "effect") rfl)) fun _ _ _ _ _ _ us hl => match us, hl with | [_, _, _, _, _, _], _ => rfl
  have F_named : FunAt K mg "named" s_named ["found", "row", "names", "handed", "files"] := by
    obtain ⟨fd, F⟩ := c.t.d.def_ 9 (d := dd_named) rfl
    exact funAt_mk F (He.glo_ok X G (c.t.d.fact 9 (f := .glo "named") rfl)) fun _ _ _ _ _ _ us hl => match us, hl with | [_, _, _, _, _], _ => rfl
  have F_need_plan : FunAt K mg "need_plan" s_need_plan ["weights", "falls", "price"] := by
    obtain ⟨fd, F⟩ := c.t.d.def_ 10 (d := dd_need_plan) rfl
    exact funAt_mk F (He.glo_ok X G (c.t.d.fact 10 (f := .glo "need_plan") rfl)) fun _ _ _ _ _ _ us hl => match us, hl with | [_, _, _], _ => rfl
  have F_need_marks : FunAt K mg "need_marks" s_need_marks ["weights", "marks"] := by
    obtain ⟨fd, F⟩ := c.t.d.def_ 11 (d := dd_need_marks) rfl
    exact funAt_mk F (He.glo_ok X G (c.t.d.fact 11 (f := .glo "need_marks") rfl)) fun _ _ _ _ _ _ us hl => match us, hl with | [_, _], _ => rfl
  have F_redone : FunAt K mg "redone" s_redone ["weights", "falls", "begin", "end"] := by
    obtain ⟨fd, F⟩ := c.t.d.def_ 12 (d := dd_redone) rfl
    exact funAt_mk F (He.glo_ok X G (c.t.d.fact 12 (f := .glo "redone") rfl)) fun _ _ _ _ _ _ us hl => match us, hl with | [_, _, _, _], _ => rfl
  have F_cost : FunAt K mg "cost" s_cost ["weights", "falls", "price", "marks"] := by
    obtain ⟨fd, F⟩ := c.t.d.def_ 13 (d := dd_cost) rfl
    exact funAt_mk F (He.glo_ok X G (c.t.d.fact 13 (f := .glo "cost") rfl)) fun _ _ _ _ _ _ us hl => match us, hl with | [_, _, _, _], _ => rfl
  have F_best : FunAt K mg "best" s_best ["weights", "falls", "price"] := by
    obtain ⟨fd, F⟩ := c.t.d.def_ 14 (d := dd_best) rfl
    exact funAt_mk F (He.glo_ok X G (c.t.d.fact 14 (f := .glo "best") rfl)) fun _ _ _ _ _ _ us hl => match us, hl with | [_, _, _], _ => rfl
  have F__law_dice : FunAt K mg "_law_dice" s__law_dice ["_law_script"] := by
    obtain ⟨fd, F⟩ := c.t.d.def_ 15 (d := dd__law_dice) rfl
    exact funAt_mk F (He.glo_ok X G (c.t.d.fact 15 (f := .glo "_law_dice") rfl)) fun _ _ _ _ _ _ us hl => match us, hl with | [_], _ => rfl
  have F__law_next : FunAt K mg "_law_next" s__law_next ["_law_dice_here", "_law_many"] := by
    obtain ⟨fd, F⟩ := c.t.d.def_ 16 (d := dd__law_next) rfl
    exact funAt_mk F (He.glo_ok X G (c.t.d.fact 16 (f := .glo "_law_next") rfl)) fun _ _ _ _ _ _ us hl => match us, hl with | [_, _], _ => rfl
  have F__law_straight : FunAt K mg "_law_straight" s__law_straight ["_law_d", "_law_many"] := by
    obtain ⟨fd, F⟩ := c.t.d.def_ 17 (d := dd__law_straight) rfl
    exact funAt_mk F (He.glo_ok X G (c.t.d.fact 17 (f := .glo "_law_straight") rfl)) fun _ _ _ _ _ _ us hl => match us, hl with | [_, _], _ => rfl
  have F_law : FunAt K mg "law" s_law ["_law_script"] := by
    obtain ⟨fd, F⟩ := c.t.d.def_ 18 (d := dd_law) rfl
    exact funAt_mk F (He.glo_ok X G (c.t.d.fact 18 (f := .glo "law") rfl)) fun _ _ _ _ _ _ us hl => match us, hl with | [_], _ => rfl
  have G_Effect : mg "Effect" = some (.ref (He.ga K "Effect")) := He.glo_ok X G (c.t.d.fact 54 (f := .glo "Effect") rfl)
  have G_Mark : mg "Mark" = some (.ref (He.ga K "Mark")) := He.glo_ok X G (c.t.d.fact 55 (f := .glo "Mark") rfl)
  have G_Inner : mg "Inner" = some (.ref (He.ga K "Inner")) := He.glo_ok X G (c.t.d.fact 56 (f := .glo "Inner") rfl)
  have G_Work : mg "Work" = some (.ref (He.ga K "Work")) := He.glo_ok X G (c.t.d.fact 57 (f := .glo "Work") rfl)
  have T_Effect : Klass K (He.ga K "Effect") FE := klass_mk (c.t.d.fact 58 (f := .cls "Effect") rfl) (fun f hf => c.t.d.facts (List.mem_append_left _ (List.mem_append_left _ (List.mem_append_left _ (List.mem_append_right _ (List.mem_map_of_mem hf)))))) (by decide +kernel) (by decide)
  have T_Mark : Klass K (He.ga K "Mark") FM := klass_mk (c.t.d.fact 59 (f := .cls "Mark") rfl) (fun f hf => c.t.d.facts (List.mem_append_left _ (List.mem_append_left _ (List.mem_append_right _ (List.mem_map_of_mem hf))))) (by decide +kernel) (by decide)
  have T_Inner : Klass K (He.ga K "Inner") FI := klass_mk (c.t.d.fact 60 (f := .cls "Inner") rfl) (fun f hf => c.t.d.facts (List.mem_append_left _ (List.mem_append_right _ (List.mem_map_of_mem hf)))) (by decide +kernel) (by decide)
  have T_Work : Klass K (He.ga K "Work") FW := klass_mk (c.t.d.fact 61 (f := .cls "Work") rfl) (fun f hf => c.t.d.facts (List.mem_append_right _ (List.mem_map_of_mem hf))) (by decide +kernel) (by decide)
  have F_Effect___init__ : FunI K mg "Effect" (He.ga K "Effect") "Effect.__init__" s_Effect___init__ ["self", "row", "taken"] := by
    obtain ⟨fd, F⟩ := c.t.d.def_ 19 (d := dd_Effect___init__) rfl
    exact funI_mk F (He.mkr_ok (c.t.d.fact 62 (f := .mkr "Effect") rfl)) G_Effect (fun _ _ _ _ _ _ us hl => match us, hl with | [_, _, _], _ => rfl)
  have F_Effect_change : FunM K (He.ga K "Effect") "change" "Effect.change" s_Effect_change ["self", "file", "held", "at", "new"] := by
    obtain ⟨fd, F⟩ := c.t.d.def_ 20 (d := dd_Effect_change) rfl
    exact funM_mk F (He.meth_ok (c.t.d.fact 63 (f := .meth "Effect" "change") rfl)) (fun _ _ _ _ _ _ us hl => match us, hl with | [_, _, _, _, _], _ => rfl)
  have F_Mark___init__ : FunI K mg "Mark" (He.ga K "Mark") "Mark.__init__" s_Mark___init__ ["self", "row", "names", "taken", "passed", "letters"] := by
    obtain ⟨fd, F⟩ := c.t.d.def_ 21 (d := dd_Mark___init__) rfl
    exact funI_mk F (He.mkr_ok (c.t.d.fact 64 (f := .mkr "Mark") rfl)) G_Mark (fun _ _ _ _ _ _ us hl => match us, hl with | [_, _, _, _, _, _], _ => rfl)
  have F_Inner___init__ : FunI K mg "Inner" (He.ga K "Inner") "Inner.__init__" s_Inner___init__ ["self", "mark", "again"] := by
    obtain ⟨fd, F⟩ := c.t.d.def_ 22 (d := dd_Inner___init__) rfl
    exact funI_mk F (He.mkr_ok (c.t.d.fact 65 (f := .mkr "Inner") rfl)) G_Inner (fun _ _ _ _ _ _ us hl => match us, hl with | [_, _, _], _ => rfl)
  have F_Work___init__ : FunI K mg "Work" (He.ga K "Work") "Work.__init__" s_Work___init__ ["self", "program", "handed", "way", "often"] := by
    obtain ⟨fd, F⟩ := c.t.d.def_ 23 (d := dd_Work___init__) rfl
    exact funI_mk F (He.mkr_ok (c.t.d.fact 66 (f := .mkr "Work") rfl)) G_Work (fun _ _ _ _ _ _ us hl => match us, hl with | [_, _, _, _, _], _ => rfl)
  have F_Work_fall : FunM K (He.ga K "Work") "fall" "Work.fall" s_Work_fall ["self"] := by
    obtain ⟨fd, F⟩ := c.t.d.def_ 24 (d := dd_Work_fall) rfl
    exact funM_mk F (He.meth_ok (c.t.d.fact 67 (f := .meth "Work" "fall") rfl)) (fun _ _ _ _ _ _ us hl => match us, hl with | [_], _ => rfl)
  have F_Work_move : FunM K (He.ga K "Work") "move" "Work.move" s_Work_move ["self"] := by
    obtain ⟨fd, F⟩ := c.t.d.def_ 25 (d := dd_Work_move) rfl
    exact funM_mk F (He.meth_ok (c.t.d.fact 68 (f := .meth "Work" "move") rfl)) (fun _ _ _ _ _ _ us hl => match us, hl with | [_], _ => rfl)
  have F_Work_rise : FunM K (He.ga K "Work") "rise" "Work.rise" s_Work_rise ["self"] := by
    obtain ⟨fd, F⟩ := c.t.d.def_ 26 (d := dd_Work_rise) rfl
    exact funM_mk F (He.meth_ok (c.t.d.fact 69 (f := .meth "Work" "rise") rfl)) (fun _ _ _ _ _ _ us hl => match us, hl with | [_], _ => rfl)
  have F_Work_go_through : FunM K (He.ga K "Work") "go_through" "Work.go_through" s_Work_go_through ["self"] := by
    obtain ⟨fd, F⟩ := c.t.d.def_ 27 (d := dd_Work_go_through) rfl
    exact funM_mk F (He.meth_ok (c.t.d.fact 70 (f := .meth "Work" "go_through") rfl)) (fun _ _ _ _ _ _ us hl => match us, hl with | [_], _ => rfl)
  have F_Work_take_over : FunM K (He.ga K "Work") "take_over" "Work.take_over" s_Work_take_over ["self", "told"] := by
    obtain ⟨fd, F⟩ := c.t.d.def_ 28 (d := dd_Work_take_over) rfl
    exact funM_mk F (He.meth_ok (c.t.d.fact 71 (f := .meth "Work" "take_over") rfl)) (fun _ _ _ _ _ _ us hl => match us, hl with | [_, _], _ => rfl)
  have F_Work_keep : FunM K (He.ga K "Work") "keep" "Work.keep" s_Work_keep ["self"] := by
    obtain ⟨fd, F⟩ := c.t.d.def_ 29 (d := dd_Work_keep) rfl
    exact funM_mk F (He.meth_ok (c.t.d.fact 72 (f := .meth "Work" "keep") rfl)) (fun _ _ _ _ _ _ us hl => match us, hl with | [_], _ => rfl)
  have F_Work_ends : FunM K (He.ga K "Work") "ends" "Work.ends" s_Work_ends ["self", "how"] := by
    obtain ⟨fd, F⟩ := c.t.d.def_ 30 (d := dd_Work_ends) rfl
    exact funM_mk F (He.meth_ok (c.t.d.fact 73 (f := .meth "Work" "ends") rfl)) (fun _ _ _ _ _ _ us hl => match us, hl with | [_, _], _ => rfl)
  have F_Work_begin : FunM K (He.ga K "Work") "begin" "Work.begin" s_Work_begin ["self"] := by
    obtain ⟨fd, F⟩ := c.t.d.def_ 31 (d := dd_Work_begin) rfl
    exact funM_mk F (He.meth_ok (c.t.d.fact 74 (f := .meth "Work" "begin") rfl)) (fun _ _ _ _ _ _ us hl => match us, hl with | [_], _ => rfl)
  have F_Work_done : FunM K (He.ga K "Work") "done" "Work.done" s_Work_done ["self", "told"] := by
    obtain ⟨fd, F⟩ := c.t.d.def_ 32 (d := dd_Work_done) rfl
    exact funM_mk F (He.meth_ok (c.t.d.fact 75 (f := .meth "Work" "done") rfl)) (fun _ _ _ _ _ _ us hl => match us, hl with | [_, _], _ => rfl)
  have F_Work_sends : FunM K (He.ga K "Work") "sends" "Work.sends" s_Work_sends ["self", "told", "row"] := by
    obtain ⟨fd, F⟩ := c.t.d.def_ 33 (d := dd_Work_sends) rfl
    exact funM_mk F (He.meth_ok (c.t.d.fact 76 (f := .meth "Work" "sends") rfl)) (fun _ _ _ _ _ _ us hl => match us, hl with | [_, _, _], _ => rfl)
  have F_Work_files : FunM K (He.ga K "Work") "files" "Work.files" s_Work_files ["self"] := by
    obtain ⟨fd, F⟩ := c.t.d.def_ 34 (d := dd_Work_files) rfl
    exact funM_mk F (He.meth_ok (c.t.d.fact 77 (f := .meth "Work" "files") rfl)) (fun _ _ _ _ _ _ us hl => match us, hl with | [_], _ => rfl)
  have F_Work_sent : FunM K (He.ga K "Work") "sent" "Work.sent" s_Work_sent ["self"] := by
    obtain ⟨fd, F⟩ := c.t.d.def_ 35 (d := dd_Work_sent) rfl
    exact funM_mk F (He.meth_ok (c.t.d.fact 78 (f := .meth "Work" "sent") rfl)) (fun _ _ _ _ _ _ us hl => match us, hl with | [_], _ => rfl)
  have F_Work_stands : FunM K (He.ga K "Work") "stands" "Work.stands" s_Work_stands ["self"] := by
    obtain ⟨fd, F⟩ := c.t.d.def_ 36 (d := dd_Work_stands) rfl
    exact funM_mk F (He.meth_ok (c.t.d.fact 79 (f := .meth "Work" "stands") rfl)) (fun _ _ _ _ _ _ us hl => match us, hl with | [_], _ => rfl)
  have F_Work_kept : FunM K (He.ga K "Work") "kept" "Work.kept" s_Work_kept ["self"] := by
    obtain ⟨fd, F⟩ := c.t.d.def_ 37 (d := dd_Work_kept) rfl
    exact funM_mk F (He.meth_ok (c.t.d.fact 80 (f := .meth "Work" "kept") rfl)) (fun _ _ _ _ _ _ us hl => match us, hl with | [_], _ => rfl)
  have F_Work_end : FunM K (He.ga K "Work") "end" "Work.end" s_Work_end ["self"] := by
    obtain ⟨fd, F⟩ := c.t.d.def_ 38 (d := dd_Work_end) rfl
    exact funM_mk F (He.meth_ok (c.t.d.fact 81 (f := .meth "Work" "end") rfl)) (fun _ _ _ _ _ _ us hl => match us, hl with | [_], _ => rfl)
  have F_Work_steps : FunM K (He.ga K "Work") "steps" "Work.steps" s_Work_steps ["self"] := by
    obtain ⟨fd, F⟩ := c.t.d.def_ 39 (d := dd_Work_steps) rfl
    exact funM_mk F (He.meth_ok (c.t.d.fact 82 (f := .meth "Work" "steps") rfl)) (fun _ _ _ _ _ _ us hl => match us, hl with | [_], _ => rfl)
  have B : Blt mg := ⟨He.free_ok X G (c.t.d.fact 19 (f := .free "len") rfl), He.free_ok X G (c.t.d.fact 20 (f := .free "range") rfl), He.free_ok X G (c.t.d.fact 21 (f := .free "int") rfl), He.free_ok X G (c.t.d.fact 22 (f := .free "sum") rfl), He.free_ok X G (c.t.d.fact 23 (f := .free "max") rfl), He.free_ok X G (c.t.d.fact 24 (f := .free "min") rfl), He.free_ok X G (c.t.d.fact 25 (f := .free "sorted") rfl), He.free_ok X G (c.t.d.fact 26 (f := .free "list") rfl), He.free_ok X G (c.t.d.fact 27 (f := .free "tuple") rfl), He.free_ok X G (c.t.d.fact 28 (f := .free "isinstance") rfl), He.free_ok X G (c.t.d.fact 29 (f := .free "enumerate") rfl), He.free_ok X G (c.t.d.fact 30 (f := .free "str") rfl), He.free_ok X G (c.t.d.fact 31 (f := .free "bool") rfl), He.free_ok X G (c.t.d.fact 32 (f := .free "zip") rfl), He.free_ok X G (c.t.d.fact 33 (f := .free "set") rfl), He.free_ok X G (c.t.d.fact 34 (f := .free "dict") rfl)⟩
  obtain ⟨t_REST, c_REST⟩ := He.int_ok X G (c.t.d.fact 35 (f := .int "REST" (10007)) rfl)
  obtain ⟨t_MOST_NAMES, c_MOST_NAMES⟩ := He.int_ok X G (c.t.d.fact 36 (f := .int "MOST_NAMES" (8)) rfl)
  obtain ⟨t_MOST_FILES, c_MOST_FILES⟩ := He.int_ok X G (c.t.d.fact 37 (f := .int "MOST_FILES" (4)) rfl)
  obtain ⟨t_MOST_ROWS, c_MOST_ROWS⟩ := He.int_ok X G (c.t.d.fact 38 (f := .int "MOST_ROWS" (60)) rfl)
  obtain ⟨t_MOST_DEEP, c_MOST_DEEP⟩ := He.int_ok X G (c.t.d.fact 39 (f := .int "MOST_DEEP" (3)) rfl)
  obtain ⟨t_MOST_HANDED, c_MOST_HANDED⟩ := He.int_ok X G (c.t.d.fact 40 (f := .int "MOST_HANDED" (40)) rfl)
  obtain ⟨t_MOST_FILE, c_MOST_FILE⟩ := He.int_ok X G (c.t.d.fact 41 (f := .int "MOST_FILE" (40)) rfl)
  obtain ⟨t_MOST_STEPS, c_MOST_STEPS⟩ := He.int_ok X G (c.t.d.fact 42 (f := .int "MOST_STEPS" (1000)) rfl)
  obtain ⟨t_MOST_OFTEN, c_MOST_OFTEN⟩ := He.int_ok X G (c.t.d.fact 43 (f := .int "MOST_OFTEN" (99)) rfl)
  obtain ⟨t_MOST_WEIGHTS, c_MOST_WEIGHTS⟩ := He.int_ok X G (c.t.d.fact 44 (f := .int "MOST_WEIGHTS" (60)) rfl)
  obtain ⟨t_MOST_WEIGHT, c_MOST_WEIGHT⟩ := He.int_ok X G (c.t.d.fact 45 (f := .int "MOST_WEIGHT" (99)) rfl)
  obtain ⟨t_MOST_FALLS, c_MOST_FALLS⟩ := He.int_ok X G (c.t.d.fact 46 (f := .int "MOST_FALLS" (20)) rfl)
  obtain ⟨t_MOST_PRICE, c_MOST_PRICE⟩ := He.int_ok X G (c.t.d.fact 47 (f := .int "MOST_PRICE" (999)) rfl)
  obtain ⟨t_BACK, c_BACK⟩ := He.str_ok X G (c.t.d.fact 48 (f := .str "BACK" "back") rfl)
  obtain ⟨t_ON, c_ON⟩ := He.str_ok X G (c.t.d.fact 49 (f := .str "ON" "on") rfl)
  have ex0 : ex K = true := c.more
  unfold ex at ex0
  obtain ⟨m_PAIRS, ex1⟩ := He.ba ex0
  obtain ⟨m_CHANGES, ex2⟩ := He.ba ex1
  obtain ⟨v_SHAPES, ex3⟩ := He.ba ex2
  have v_JUMPS := ex3
  have g_PAIRS : mg "PAIRS" = some (.ref (He.ga K "PAIRS")) := He.glo_ok X G (c.t.d.fact 50 (f := .glo "PAIRS") rfl)
  have k_PAIRS : KTup K (He.ga K "PAIRS") ((["sum", "diff", "less"] : List Str).map V.str) := kTup_mk m_PAIRS
  have g_CHANGES : mg "CHANGES" = some (.ref (He.ga K "CHANGES")) := He.glo_ok X G (c.t.d.fact 51 (f := .glo "CHANGES") rfl)
  have k_CHANGES : KTup K (He.ga K "CHANGES") ((["add", "put", "cut"] : List Str).map V.str) := kTup_mk m_CHANGES
  have g_SHAPES : mg "SHAPES" = some (.ref (He.ga K "SHAPES")) := He.glo_ok X G (c.t.d.fact 52 (f := .glo "SHAPES") rfl)
  have k_SHAPES : KTab K w (He.ga K "SHAPES") shapes := kTab_mk (saysT_tab c.t 0 rfl) v_SHAPES
  have g_JUMPS : mg "JUMPS" = some (.ref (He.ga K "JUMPS")) := He.glo_ok X G (c.t.d.fact 53 (f := .glo "JUMPS") rfl)
  have k_JUMPS : KTab K w (He.ga K "JUMPS") jumps := kTab_mk (saysT_tab c.t 1 rfl) v_JUMPS
  obtain ⟨fd, Fd⟩ := c.t.d.def_ 18 (d := dd_law) rfl
  have e := hfa.symm.trans (He.glo_ok X G (c.t.d.fact 18 (f := .glo "law") rfl))
  cases e
  refine ⟨fd, fun s v => FunD.bindsA (ps := ["_law_script"]) Fd (fun _ _ _ _ _ _ us hl => match us, hl with | [_], _ => rfl) s [v] rfl, fun base _ _ => ?_⟩
  let cs : Cs := ⟨He.ga K "Effect", He.ga K "Mark", He.ga K "Inner", He.ga K "Work"⟩
  have D_num : Def P w K mg base "is_number" 1 3 spIsNumber := ok_is_number F_is_number B
  have D_part : Def P w K mg base "is_part" 5 3 (spIsPart 3) := ok_is_part F_is_part B D_num g_PAIRS k_PAIRS c_REST 3
  have D_shape : Def P w K mg base "shape_of" 1 1 spShapeOf := ok_shape_of F_shape_of B g_SHAPES k_SHAPES g_JUMPS k_JUMPS
  have D_why : Def P w K mg base "why_not" 6 4 spWhyNot := ok_why_not F_why_not B D_num D_part D_shape c_MOST_DEEP
  have D_np : Def P w K mg base "need_program" 7 1 spNeedProgram := ok_need_program F_need_program B D_num D_why c_MOST_NAMES c_MOST_FILES c_MOST_ROWS
  have D_nh : Def P w K mg base "need_handed" 2 1 spNeedHanded := ok_need_handed F_need_handed B D_num c_MOST_HANDED c_REST
  have D_worth : Def P w K mg base "worth" 4 2 (spWorth 3) := ok_worth F_worth B c_REST 3
  have I_eff : DefI P w K mg base "Effect" cs.E 1 3 (spEffInit cs.E) := ok_eff_init F_Effect___init__ T_Effect
  have M_change : DefM P w K mg base cs.E "change" 1 5 (spChange cs.E) := ok_change F_Effect_change B T_Effect
  have D_changed : Def P w K mg base "changed" 5 4 (spChanged cs.E) := ok_changed F_changed B T_Effect D_worth M_change c_MOST_FILE
  have D_named : Def P w K mg base "named" 5 5 (spNamed cs.E) := ok_named F_named B T_Effect D_worth
  have D_effect : Def P w K mg base "effect" 6 6 (spEffect cs.E) := ok_effect F_effect B T_Effect I_eff D_worth D_changed D_named g_CHANGES k_CHANGES
  have I_mark : DefI P w K mg base "Mark" cs.M 1 6 (spMarkInit cs) := ok_mark_init F_Mark___init__ T_Mark
  have I_inner : DefI P w K mg base "Inner" cs.I 1 3 (spInnerInit cs) := ok_inner_init F_Inner___init__ B T_Mark T_Inner
  have M_to := ok_take_over (c := cs) (P := P) (w := w) (mg := mg) (base := base) (k := 0) F_Work_take_over B T_Work T_Inner T_Effect
  have M_keep := ok_keep (c := cs) (P := P) (w := w) (mg := mg) (base := base) (k := 0) F_Work_keep B T_Work T_Inner T_Mark I_mark
  have M_ends := ok_ends (c := cs) (P := P) (w := w) (mg := mg) (base := base) (k := 0) F_Work_ends T_Work
  have M_sends := ok_sends (c := cs) (P := P) (w := w) (mg := mg) (base := base) (k := 0) F_Work_sends B T_Work T_Inner T_Effect
  have M_done := ok_done (c := cs) (P := P) (w := w) (mg := mg) (base := base) (k := 0) F_Work_done B T_Work T_Inner T_Effect M_sends M_to
  have M_rise := ok_rise (c := cs) (P := P) (w := w) (mg := mg) (base := base) (k := 0) F_Work_rise B T_Work T_Inner T_Mark T_Effect I_inner c_BACK
  have M_go := ok_go_through (c := cs) (P := P) (w := w) (mg := mg) (base := base) (k := 0) F_Work_go_through B T_Work T_Inner M_to
  have M_begin := ok_begin (c := cs) (P := P) (w := w) (mg := mg) (base := base) (k := 0) F_Work_begin B T_Work T_Inner T_Effect D_effect M_ends M_keep M_to M_done c_MOST_STEPS c_ON g_CHANGES k_CHANGES
  have M_move := ok_move (c := cs) (P := P) (w := w) (mg := mg) (base := base) (k := 0) F_Work_move T_Work T_Inner M_rise M_go M_done M_begin
  have I_work : DefI P w K mg base "Work" cs.W 8 5 (spWorkInit cs) := ok_work_init F_Work___init__ B T_Work D_np D_nh D_num I_mark I_inner c_BACK c_ON c_MOST_OFTEN
  have D_next : Def P w K mg base "_law_next" 1 2 spNext := ok_next F__law_next B
  have W : Walk P w K mg base cs := {
    B := B
    TW := T_Work
    dice := ok_dice F__law_dice B
    next := D_next
    init := I_work
    move := frameM M_move
    fall := frameM (ok_fall F_Work_fall T_Work)
    files := frameM (ok_files F_Work_files B T_Work)
    sent := frameM (ok_sent F_Work_sent B T_Work)
    end_ := frameM (ok_end F_Work_end T_Work)
    stands := frameM (ok_stands F_Work_stands B T_Work T_Inner)
    steps := frameM (ok_steps F_Work_steps T_Work)
    kept := frameM (ok_kept F_Work_kept B T_Work T_Mark) }
  have L : DefL P w K mg base "law" s_law ["_law_script"] 10 1 spLaw := ok_law F_law W (ok_straight F__law_straight B D_next) (K17P.best_frz (K17P.ok_best F_best B (K17P.ok_need_plan F_need_plan B D_num c_MOST_WEIGHTS c_MOST_WEIGHT c_MOST_FALLS c_MOST_PRICE) (K17P.ok_redone F_redone B))) (K17P.ok_costP F_cost B (K17P.ok_need_plan F_need_plan B D_num c_MOST_WEIGHTS c_MOST_WEIGHT c_MOST_FALLS c_MOST_PRICE) (K17P.ok_need_marks F_need_marks B D_num) (K17P.ok_redone F_redone B))
  obtain ⟨f', fd', Fu, hm, ok⟩ := L.ex
  have e1 := hfa.symm.trans hm
  cases e1
  have e2 : fd = fd' := by
    obtain ⟨oc, od, dV, kV, doc, pm, an, cdv, ct, osl, e, lk, hcd, hD, hK⟩ := Fd.ex
    obtain ⟨oc', od', kV', doc', pm', an', cdv', ct', osl', e', lk', hcd'⟩ := Fu.ex
    have lk2 := (show K.lookup (He.ga K "law") = _ from lk).symm.trans lk'
    cases lk2
    rfl
  rw [e2]
  exact ok
end K17
open PySem PySem.W PySem.Calls PyProof.Rows
set_option maxRecDepth 100000 in
set_option maxHeartbeats 0 in
theorem PySem.Challenge.cw_longwork_k17_whole_redone_as_reckoned_holds : PySem.Challenge.rw_longwork_k17_whole_redone_as_reckoned.Holds := by
  w_on; o_law
  refine HandSHeadRun.head_any (r := OpenLaw.row PySem.Challenge.rw_longwork_k17_whole_redone_as_reckoned) (q := view (OpenLaw.row PySem.Challenge.rw_longwork_k17_whole_redone_as_reckoned).prog [56]) (H := K17.hk) (ob := K17.ob) (M := 6000) (loose := K17.loose) (d := HandSHeadRun.topDef (OpenLaw.row PySem.Challenge.rw_longwork_k17_whole_redone_as_reckoned).prog 56) (kwd := []) K17.ob_eq
    (by kernel_rfl) (fun s => by kernel_rfl) K17.run (by kernel_rfl) (by kernel_rfl) (by kernel_rfl) (by rfl) (by first | assumption | decide +kernel) (by decide +kernel) ⟨rfl, rfl, rfl, rfl, rfl, by decide +kernel⟩ ?hw ?hc
  case hw => w_witness2
  case hc =>
    refine L2.walk_ofE (l := PySem.Challenge.rw_longwork_k17_whole_redone_as_reckoned) (n := 63) (k := 10) (x := "_law_script") (CX := L2.CX0) rfl (by decide) (by kernel_rfl) ⟨rfl, by decide, by decide⟩ ?F (fun _ _ _ _ z => z)
    intro w mg fa h Y G hmg0
    obtain ⟨K, KX, c⟩ := Y
    have hmg : mg ("law" : PySem.Str) = some (.ref fa) := by
      have e : (HandSHeadRun.topDef (OpenLaw.row PySem.Challenge.rw_longwork_k17_whole_redone_as_reckoned).prog 56).name = ("law" : PySem.Str) := by kernel_rfl
      rw [← e]
      exact hmg0
    obtain ⟨fd, hb, hF⟩ := K17.facts (P := (PySem.Challenge.rw_longwork_k17_whole_redone_as_reckoned).prog) (w := w) KX G hmg c
    exact ⟨K, fd, DL.toSp K 1 K17.spLaw, KX, hb, fun H a ns hl hO hS => DL.law_sp hl hO hS fun C hC => ⟨ns, rfl, hl, hC⟩, hF⟩
