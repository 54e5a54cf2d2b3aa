import PyProof.Rows.All
import Wide.All
import OpenK.AllK
import Wide.FinOn
import HandS.ForMost
import HandS.Lambda
import HandS.Wide
import HandS.IsInst
import HandS.SortInts
import HandS.EndBits
import HandS.TupAny
import HandS.TupMul
import KE.LtData
import HandS.Style
import HandS.More
import HandS.Zip
import HandS.HeadHook3
import KE.GoesMore
import KE.GoesNew
import KE.GoesEnum
import PySem.Challenge.RW_longwork_k16_plans_refused
import HandS.ExcOwn
import HandS.ExcInit
import HandS.ExcField
import HandS.WordsExc
import HandS.ExcIs
import HandS.Deep
import KE.DataFind
import KE.KDflt
import OpenK.KCall
import HandS.Defaults
import HandS.Head0
import HandS.Head1
import HandS.Head2
import HandS.HeadEnd
import HandS.HeadHook1
import HandS.HeadHook2
import HandS.EndOwn
import HandS.HeadWalk
import HandS.HeadHook4
set_option Elab.async false
set_option linter.all false
set_option maxRecDepth 100000
set_option maxHeartbeats 4000000
/-! DL, first part: live values known by data, a symbolic heap of cells, and how readings of the hand layer are lifted over them. -/
namespace DL
open PySem PySem.Spec PyProof.Rows L2

abbrev Fg := PySem.W.Frag

/-- what a live value is known as: data, or itself -/
inductive R where
  | dat (d : PyData)
  | val (v : V)
  | scr (ns : List Int)
  | tp (rs : List R)
  | obj (C : Addr) (ks : List Str) (rs : List R)
  | dic (ks : List Key) (rs : List R)
  | exc (a C : Addr) (d : Option Addr) (fs : List (Str × V))
  | fn (f c : Addr) (o : Obj) (q : Str) (t : Option (Addr × List V)) (vs : List V) (rs : List R)

def KTup (K : Fg) (a : Addr) (xs : List V) : Prop := ∃ (o : Obj) (its : Array Value) (n : Nat), K.lookup a = some o ∧ o.cls = .type "tuple" ∧ o.data = .seq its n ∧ its.size ≤ sizeLine ∧ Vals xs its.toList

mutual
inductive Rep (K : Fg) (A : Addr → Prop) (H : Hp) : V → PyData → Prop
  | non : Rep K A H .non .none
  | bl (b : Bool) : Rep K A H (.bl b) (.bool b)
  | int (i : Int) : Rep K A H (.int i) (.int i)
  | str (x : Str) : Rep K A H (.str x) (.str x)
  | lst {a : Addr} {xs : List V} {ds : List PyData} : H a = some (.lst xs) → ¬ A a → RepAll K A H xs ds → Rep K A H (.ref a) (.list ds)
  | tup {a : Addr} {xs : List V} {ds : List PyData} : (H a = some (.tup xs) ∨ KTup K a xs) → RepAll K A H xs ds → Rep K A H (.ref a) (.tuple ds)
inductive RepAll (K : Fg) (A : Addr → Prop) (H : Hp) : List V → List PyData → Prop
  | nil : RepAll K A H [] []
  | cons {v : V} {vs : List V} {d : PyData} {ds : List PyData} : Rep K A H v d → RepAll K A H vs ds → RepAll K A H (v :: vs) (d :: ds)
end

/-- what is written -/
def Mu : Option HO → Prop
  | some (.lst _) => True
  | some (.dK _) => True
  | some (.ins _ _ _) => True
  | _ => False
/-- a step of the heap and of the addresses to be kept off that data outlives -/
structure Stp (A A' : Addr → Prop) (H H' : Hp) : Prop where
  l : ∀ a xs, H a = some (.lst xs) → ¬ A a → H' a = some (.lst xs) ∧ ¬ A' a
  t : ∀ a xs, H a = some (.tup xs) → H' a = some (.tup xs)
  f : ∀ a o u, H a = some (.frz o u) → H' a = some (.frz o u)
  i : ∀ a C dx ws, H a = some (.ins C dx ws) → ¬ A a → H' a = some (.ins C dx ws) ∧ ¬ A' a
  d : ∀ a ws, H a = some (.dK ws) → ¬ A a → H' a = some (.dK ws) ∧ ¬ A' a
  x : ∀ a fs, H a = some (.xd fs) → H' a = some (.xd fs)
  e : ∀ a φ, H a = some (.ext φ) → H' a = some (.ext φ)
theorem Stp.refl {A : Addr → Prop} {H : Hp} : Stp A A H H := ⟨fun _ _ h n => ⟨h, n⟩, fun _ _ h => h, fun _ _ _ h => h, fun _ _ _ _ h n => ⟨h, n⟩, fun _ _ h n => ⟨h, n⟩, fun _ _ h => h, fun _ _ h => h⟩
section
variable {K : Fg} {A A' : Addr → Prop} {H H' : Hp}
mutual
theorem Rep.stp (s : Stp A A' H H') : ∀ {v : V} {d : PyData}, Rep K A H v d → Rep K A' H' v d
  | _, _, .non => .non
  | _, _, .bl b => .bl b
  | _, _, .int i => .int i
  | _, _, .str x => .str x
  | _, _, .lst h n q => .lst (s.l _ _ h n).1 (s.l _ _ h n).2 (RepAll.stp s q)
  | _, _, .tup h q => .tup (h.imp (s.t _ _) id) (RepAll.stp s q)
theorem RepAll.stp (s : Stp A A' H H') : ∀ {v : List V} {d : List PyData}, RepAll K A H v d → RepAll K A' H' v d
  | _, _, .nil => .nil
  | _, _, .cons h q => .cons (Rep.stp s h) (RepAll.stp s q)
end
mutual
theorem Rep.dp : ∀ {v : V} {d : PyData}, Rep K A H v d → Dp K H v d
  | _, _, .non => .non
  | _, _, .bl b => .bl b
  | _, _, .int i => .int i
  | _, _, .str x => .str x
  | _, _, .lst h n q => .lst (SqL.of h) (RepAll.dp q)
  | _, _, .tup (.inl h) q => .tup (SqT.of h) (RepAll.dp q)
  | _, _, .tup (.inr h) q => .tup (.inr h) (RepAll.dp q)
theorem RepAll.dp : ∀ {v : List V} {d : List PyData}, RepAll K A H v d → DpAll K H v d
  | _, _, .nil => .nil
  | _, _, .cons h q => .cons (Rep.dp h) (RepAll.dp q)
end
theorem RepAll.length : ∀ {vs : List V} {ds : List PyData}, RepAll K A H vs ds → vs.length = ds.length
  | _, _, .nil => rfl
  | _, _, .cons _ q => by rw [List.length_cons, List.length_cons, RepAll.length q]
theorem RepAll.get : ∀ {vs : List V} {ds : List PyData} {i : Nat} {v : V}, RepAll K A H vs ds → vs[i]? = some v → ∃ d, ds[i]? = some d ∧ Rep K A H v d
  | _, _, _, _, .nil, e => by simp at e
  | _, _, 0, _, .cons r _, e => by simp at e; subst e; exact ⟨_, rfl, r⟩
  | _, _, i + 1, v, .cons _ t, e => by
    obtain ⟨d, h1, h2⟩ := RepAll.get (i := i) (v := v) t (by simpa using e)
    exact ⟨d, by simpa using h1, h2⟩
theorem RepAll.get' : ∀ {vs : List V} {ds : List PyData} {i : Nat} {d : PyData}, RepAll K A H vs ds → ds[i]? = some d → ∃ v, vs[i]? = some v ∧ Rep K A H v d
  | _, _, _, _, .nil, e => by simp at e
  | _, _, 0, _, .cons r _, e => by simp at e; subst e; exact ⟨_, rfl, r⟩
  | _, _, i + 1, v, .cons _ t, e => by
    obtain ⟨d, h1, h2⟩ := RepAll.get' (i := i) (d := v) t (by simpa using e)
    exact ⟨d, by simpa using h1, h2⟩
theorem RepAll.append : ∀ {vs ws : List V} {ds es : List PyData}, RepAll K A H vs ds → RepAll K A H ws es → RepAll K A H (vs ++ ws) (ds ++ es)
  | _, _, _, _, .nil, q => q
  | _, _, _, _, .cons h t, q => .cons h (RepAll.append t q)
theorem RepAll.take : ∀ {vs : List V} {ds : List PyData} (n : Nat), RepAll K A H vs ds → RepAll K A H (vs.take n) (ds.take n)
  | _, _, 0, _ => .nil
  | _, _, _ + 1, .nil => .nil
  | _, _, n + 1, .cons h t => .cons h (RepAll.take n t)
theorem RepAll.drop : ∀ {vs : List V} {ds : List PyData} (n : Nat), RepAll K A H vs ds → RepAll K A H (vs.drop n) (ds.drop n)
  | _, _, 0, h => h
  | _, _, _ + 1, .nil => .nil
  | _, _, n + 1, .cons _ t => RepAll.drop n t
theorem RepAll.reverse {vs : List V} {ds : List PyData} (h : RepAll K A H vs ds) : RepAll K A H vs.reverse ds.reverse := by
  induction ds generalizing vs with
  | nil => cases h; exact .nil
  | cons d ds ih =>
    cases h with
    | cons h t =>
      rw [List.reverse_cons, List.reverse_cons]
      exact RepAll.append (ih t) (.cons h .nil)
theorem RepAll.rep {vs : List V} {ds : List PyData} (h : RepAll K A H vs ds) : ∀ n : Nat, RepAll K A H (List.replicate n vs).flatten (List.replicate n ds).flatten
  | 0 => .nil
  | n + 1 => by
    rw [List.replicate_succ, List.replicate_succ, List.flatten_cons, List.flatten_cons]
    exact RepAll.append h (RepAll.rep h n)
theorem RepAll.ints : ∀ (ns : List Int), RepAll K A H (ns.map V.int) (ns.map PyData.int)
  | [] => .nil
  | n :: ns => .cons (.int n) (RepAll.ints ns)
theorem RepAll.strs : ∀ (ns : List Str), RepAll K A H (ns.map V.str) (ns.map PyData.str)
  | [] => .nil
  | n :: ns => .cons (.str n) (RepAll.strs ns)
theorem RepAll.ints_inv : ∀ {ns : List Int} {vs : List V}, RepAll K A H vs (ns.map PyData.int) → vs = ns.map V.int
  | [], _, .nil => rfl
  | n :: ns, _, .cons h t => by cases h; rw [RepAll.ints_inv t]; rfl
theorem RepAll.strs_inv : ∀ {ns : List Str} {vs : List V}, RepAll K A H vs (ns.map PyData.str) → vs = ns.map V.str
  | [], _, .nil => rfl
  | n :: ns, _, .cons h t => by cases h; rw [RepAll.strs_inv t]; rfl
theorem RepAll.bls_inv : ∀ {ns : List Bool} {vs : List V}, RepAll K A H vs (ns.map PyData.bool) → vs = ns.map V.bl
  | [], _, .nil => rfl
  | n :: ns, _, .cons h t => by cases h; rw [RepAll.bls_inv t]; rfl
end

/-- the script: locked, or written -/
def ScrAt (K : Fg) (A : Addr → Prop) (H : Hp) (a : Addr) (xs : List V) : Prop := (∃ o, H a = some (.frz o (.lst xs))) ∨
  (∃ (o : Obj) (its : Array Value) (n : Nat), K.lookup a = some o ∧ o.cls = .type "list" ∧ o.dict = none ∧ o.data = .seq its n ∧ its.size ≤ sizeLine ∧ Vals xs its.toList) ∨ (H a = some (.lst xs) ∧ ¬ A a)
theorem ScrAt.sq {K : Fg} {A : Addr → Prop} {H : Hp} {a : Addr} {xs : List V} (h : ScrAt K A H a xs) : SqL K H a xs := by
  rcases h with ⟨o, e⟩ | h | ⟨e, _⟩
  · exact .inl (.inr ⟨o, e⟩)
  · exact .inr h
  · exact .inl (.inl e)
theorem ScrAt.any {K : Fg} {A : Addr → Prop} {H : Hp} {a : Addr} {xs : List V} (hA : ¬ A a) (h : SqL K H a xs) : ScrAt K A H a xs := by
  rcases h with (h | ⟨o, e⟩) | h
  · exact .inr (.inr ⟨h, hA⟩)
  · exact .inl ⟨o, e⟩
  · exact .inr (.inl h)
theorem ScrAt.of {K : Fg} {A : Addr → Prop} {H : Hp} {a : Addr} {xs : List V} (hO : Only H) (h : SqL K H a xs) : ScrAt K A H a xs := by
  rcases h with (h | ⟨o, e⟩) | h
  · rcases hO a with z | ⟨o, ys, z⟩
    · rw [z] at h; cases h
    · rw [z] at h; cases h
  · exact .inl ⟨o, e⟩
  · exact .inr (.inl h)
/-- an exception's fields -/
def XRep (H : Hp) (d : Option Addr) (fs : List (Str × V)) : Prop := (d = none ∧ fs = []) ∨ ∃ dx, d = some dx ∧ H dx = some (.xd fs)
/-- the object at f is o: a function's -/
def FnO (f : Addr) (o : Obj) : HO := .frz o (.own f)
mutual
def RepR (K : Fg) (A : Addr → Prop) (H : Hp) : V → R → Prop
  | v, .dat d => Rep K A H v d
  | v, .val w => v = w
  | v, .scr ns => ∃ a, v = .ref a ∧ ScrAt K A H a (ns.map V.int)
  | v, .tp rs => ∃ a vs, v = .ref a ∧ (H a = some (.tup vs) ∨ KTup K a vs) ∧ RepRl K A H vs rs
  | v, .obj C ks rs => ∃ a dx vs, v = .ref a ∧ H a = some (.ins C dx (ks.zip vs)) ∧ ¬ A a ∧ vs.length = ks.length ∧ RepRl K A H vs rs
  | v, .dic ks rs => ∃ a vs, v = .ref a ∧ H a = some (.dK (ks.zip vs)) ∧ ¬ A a ∧ vs.length = ks.length ∧ RepRl K A H vs rs
  | v, .exc a _ d fs => v = .ref a ∧ XRep H d fs
  | v, .fn f c o q t vs rs => v = .ref f ∧ H f = some (FnO f o) ∧ H c = some (LamX.CodeO c q) ∧ (∀ z, t = some z → H z.1 = some (.tup z.2)) ∧ RepRl K A H vs rs
def RepRl (K : Fg) (A : Addr → Prop) (H : Hp) : List V → List R → Prop
  | [], [] => True
  | v :: vs, r :: rs => RepR K A H v r ∧ RepRl K A H vs rs
  | [], _ :: _ => False
  | _ :: _, [] => False
end
mutual
theorem RepR.stp {K : Fg} {A A' : Addr → Prop} {H H' : Hp} (s : Stp A A' H H') : ∀ {v : V} {r : R}, RepR K A H v r → RepR K A' H' v r
  | _, .dat d, h => Rep.stp s h
  | _, .val w, h => h
  | _, .scr ns, h => by obtain ⟨a, e, h⟩ := h; exact ⟨a, e, h.imp (fun ⟨o, h⟩ => ⟨o, s.f _ _ _ h⟩) (fun h => h.imp id fun ⟨h, n⟩ => s.l _ _ h n)⟩
  | _, .tp rs, h => by obtain ⟨a, vs, e, h, q⟩ := h; exact ⟨a, vs, e, h.imp (s.t _ _) id, RepRl.stp s q⟩
  | _, .obj C ks rs, h => by obtain ⟨a, dx, vs, e, h, n, l, q⟩ := h; exact ⟨a, dx, vs, e, (s.i _ _ _ _ h n).1, (s.i _ _ _ _ h n).2, l, RepRl.stp s q⟩
  | _, .dic ks rs, h => by obtain ⟨a, vs, e, h, n, l, q⟩ := h; exact ⟨a, vs, e, (s.d _ _ h n).1, (s.d _ _ h n).2, l, RepRl.stp s q⟩
  | _, .exc a C d fs, h => ⟨h.1, h.2.imp id fun ⟨dx, e, q⟩ => ⟨dx, e, s.x _ _ q⟩⟩
  | _, .fn f c o q t vs rs, h => by obtain ⟨e, h1, h2, h3, q⟩ := h; exact ⟨e, s.f f o _ h1, s.e c _ h2, fun z hz => s.t _ _ (h3 z hz), RepRl.stp s q⟩
theorem RepRl.stp {K : Fg} {A A' : Addr → Prop} {H H' : Hp} (s : Stp A A' H H') : ∀ {v : List V} {r : List R}, RepRl K A H v r → RepRl K A' H' v r
  | [], [], h => h
  | _ :: _, _ :: _, h => ⟨RepR.stp s h.1, RepRl.stp s h.2⟩
  | [], _ :: _, h => h.elim
  | _ :: _, [], h => h.elim
end
abbrev RepRs (K : Fg) (A : Addr → Prop) (H : Hp) : List V → List R → Prop := Paired (RepR K A H)
theorem RepRl.pair {K : Fg} {A : Addr → Prop} {H : Hp} : ∀ {vs : List V} {rs : List R}, RepRl K A H vs rs → RepRs K A H vs rs
  | [], [], _ => .nil
  | _ :: _, _ :: _, h => .cons h.1 (RepRl.pair h.2)
  | [], _ :: _, h => h.elim
  | _ :: _, [], h => h.elim
theorem RepRl.of {K : Fg} {A : Addr → Prop} {H : Hp} : ∀ {vs : List V} {rs : List R}, RepRs K A H vs rs → RepRl K A H vs rs
  | _, _, .nil => True.intro
  | _, _, .cons h t => ⟨h, RepRl.of t⟩
theorem RepRs.stp {K : Fg} {A A' : Addr → Prop} {H H' : Hp} (s : Stp A A' H H') {vs : List V} {rs : List R} (h : RepRs K A H vs rs) : RepRs K A' H' vs rs := Paired.mapP h fun _ _ q => q.stp s

inductive Cell where
  | lst (p : Addr) (xs : List R)
  | dct (p : Addr) (kvs : List (Key × R))
  | ins (p C : Addr) (ks : List Str) (rs : List R)
  | pk (p : Addr) (P : List R → Prop)
  | tbl (p : Addr) (q : Str)
def Cell.pt : Cell → Addr
  | .lst p _ => p
  | .dct p _ => p
  | .ins p _ _ _ => p
  | .pk p _ => p
  | .tbl p _ => p
abbrev SH := List Cell
def Av (S : SH) : Addr → Prop := fun a => a ∈ S.map Cell.pt
def CellOk (K : Fg) (A : Addr → Prop) (H : Hp) : Cell → Prop
  | .lst p xs => ∃ vs, H p = some (.lst vs) ∧ RepRs K A H vs xs
  | .dct p kvs => ∃ kws : List (Key × V), H p = some (.dK kws) ∧ Paired (fun (a : Key × V) (b : Key × R) => a.1 = b.1 ∧ RepR K A H a.2 b.2) kws kvs
  | .ins p C ks rs => ∃ (dx : Addr) (vs : List V), H p = some (.ins C dx (ks.zip vs)) ∧ vs.length ≤ ks.length ∧ RepRs K A H vs rs
  | .pk p P => ∃ vs xs, H p = some (.lst vs) ∧ RepRs K A H vs xs ∧ P xs
  | .tbl p q => LamX.TabS H p q
theorem CellOk.some {K : Fg} {A : Addr → Prop} {H : Hp} {c : Cell} (h : CellOk K A H c) : ∃ o, H c.pt = some o := by
  cases c with
  | lst p xs => obtain ⟨_, h, _⟩ := h; exact ⟨_, h⟩
  | dct p xs => obtain ⟨_, h, _⟩ := h; exact ⟨_, h⟩
  | ins p C ks xs => obtain ⟨_, _, h, _⟩ := h; exact ⟨_, h⟩
  | pk p xs => obtain ⟨_, _, h, _⟩ := h; exact ⟨_, h⟩
  | tbl p q => obtain ⟨_, h, _⟩ := h; exact ⟨_, h⟩
/-- a cell stays where its own object stays -/
theorem CellOk.stp {K : Fg} {A A' : Addr → Prop} {H H' : Hp} (s : Stp A A' H H') {c : Cell} (h : CellOk K A H c) (e : H' c.pt = H c.pt) : CellOk K A' H' c := by
  cases c with
  | lst p xs => obtain ⟨vs, h, q⟩ := h; exact ⟨vs, by rw [← h]; exact e, q.stp s⟩
  | dct p xs => obtain ⟨vs, h, q⟩ := h; exact ⟨vs, by rw [← h]; exact e, Paired.mapP q fun _ _ z => ⟨z.1, z.2.stp s⟩⟩
  | ins p C ks xs => obtain ⟨dx, vs, h, l, q⟩ := h; exact ⟨dx, vs, by rw [← h]; exact e, l, q.stp s⟩
  | pk p P => obtain ⟨vs, xs, h, q, z⟩ := h; exact ⟨vs, xs, by rw [← h]; exact e, q.stp s, z⟩
  | tbl p q =>
    obtain ⟨ps, h, t, z⟩ := h
    refine ⟨ps, by rw [← h]; exact e, t, fun pos cv hc => ?_⟩
    obtain ⟨c, e1, e2⟩ := z pos cv hc
    exact ⟨c, e1, s.e c _ e2⟩

abbrev Live := List (V × R)
structure Ok (K : Fg) (H : Hp) (S : SH) (L : Live) : Prop where
  nd : (S.map Cell.pt).Nodup
  cells : ∀ c ∈ S, CellOk K (Av S) H c
  live : ∀ e ∈ L, RepR K (Av S) H e.1 e.2
section
variable {K : Fg} {H : Hp} {S : SH} {L L' : Live}
theorem Ok.sub (o : Ok K H S L) (h : ∀ e ∈ L', e ∈ L) : Ok K H S L' := ⟨o.nd, o.cells, fun e he => o.live e (h e he)⟩
theorem Ok.at (o : Ok K H S L) {v : V} {r : R} (h : (v, r) ∈ L) : RepR K (Av S) H v r := o.live _ h
theorem Ok.dat (o : Ok K H S L) {v : V} {d : PyData} (h : (v, R.dat d) ∈ L) : Rep K (Av S) H v d := o.live _ h
theorem Ok.val (o : Ok K H S L) {v w : V} (h : (v, R.val w) ∈ L) : v = w := o.live _ h
theorem Ok.push (o : Ok K H S L) {v : V} {r : R} (h : RepR K (Av S) H v r) : Ok K H S ((v, r) :: L) := ⟨o.nd, o.cells, fun e he => by
  rcases List.mem_cons.mp he with rfl | he
  · exact h
  · exact o.live e he⟩
theorem Ok.pd (o : Ok K H S L) {v : V} {d : PyData} (h : Rep K (Av S) H v d) : Ok K H S ((v, .dat d) :: L) := o.push h
theorem Ok.av (o : Ok K H S L) {a : Addr} (h : Av S a) : ∃ u, H a = some u := by
  obtain ⟨c, hc, rfl⟩ := List.mem_map.mp h
  exact (o.cells c hc).some
/-- a new object -/
theorem stp_new {A : Addr → Prop} {p : Addr} {u : HO} (h : H p = none) : Stp A A H (upd H p u) :=
  ⟨fun a xs e n => ⟨by rw [upd_ne (ne_of_none e h)]; exact e, n⟩, fun a xs e => by rw [upd_ne (ne_of_none e h)]; exact e, fun a ob xs e => by rw [upd_ne (ne_of_none e h)]; exact e, fun a C dx ws e n => ⟨by rw [upd_ne (ne_of_none e h)]; exact e, n⟩, fun a ws e n => ⟨by rw [upd_ne (ne_of_none e h)]; exact e, n⟩, fun a fs e => by rw [upd_ne (ne_of_none e h)]; exact e, fun a fs e => by rw [upd_ne (ne_of_none e h)]; exact e⟩
theorem Ok.new (o : Ok K H S L) {p : Addr} {u : HO} (h : H p = none) : Ok K (upd H p u) S L := ⟨o.nd, fun c hc => (o.cells c hc).stp (stp_new h) (by
    obtain ⟨w, e⟩ := (o.cells c hc).some
    rw [upd_ne (ne_of_none e h)]), fun e he => (o.live e he).stp (stp_new h)⟩
theorem Ok.fresh (o : Ok K H S L) {p : Addr} (h : H p = none) : ¬ Av S p := fun q => by
  obtain ⟨u, e⟩ := o.av q
  rw [e] at h; cases h
abbrev Lives (L : Live) : List V → List R → Prop := Paired fun v r => (v, r) ∈ L
theorem Lives.mono (h : ∀ e ∈ L, e ∈ L') {vs : List V} {rs : List R} (q : Lives L vs rs) : Lives L' vs rs := Paired.mapP q fun _ _ z => h _ z
def dats : List R → Option (List PyData)
  | [] => some []
  | .dat d :: r => (dats r).map fun ds => d :: ds
  | _ :: _ => none
theorem dats_map : ∀ ds : List PyData, dats (ds.map R.dat) = some ds
  | [] => rfl
  | d :: ds => by show (dats (ds.map R.dat)).map _ = _; rw [dats_map ds]; rfl
theorem of_dats : ∀ {rs : List R} {ds : List PyData}, dats rs = some ds → rs = ds.map R.dat
  | [], _, h => by cases h; rfl
  | .dat d :: r, ds, h => by
    cases e : dats r with
    | none => simp [dats, e] at h
    | some es =>
      have h' : some (d :: es) = some ds := by simpa [dats, e] using h
      cases h'
      rw [List.map_cons, of_dats e]
  | .val _ :: _, _, h => by simp [dats] at h
  | .scr _ :: _, _, h => by simp [dats] at h
  | .tp _ :: _, _, h => by simp [dats] at h
  | .obj _ _ _ :: _, _, h => by simp [dats] at h
  | .dic _ _ :: _, _, h => by simp [dats] at h
  | .exc _ _ _ _ :: _, _, h => by simp [dats] at h
  | .fn _ _ _ _ _ _ _ :: _, _, h => by simp [dats] at h
theorem Ok.reps (o : Ok K H S L) : ∀ {vs : List V} {rs : List R}, Lives L vs rs → RepRs K (Av S) H vs rs := fun q => Paired.mapP q fun _ _ z => o.live _ z
theorem reps_all {A : Addr → Prop} : ∀ {vs : List V} {rs : List R} {ds : List PyData}, RepRs K A H vs rs → dats rs = some ds → RepAll K A H vs ds := by
  intro vs rs ds h e
  have e' := of_dats e
  subst e'
  clear e
  induction ds generalizing vs with
  | nil => cases h; exact .nil
  | cons d ds ih =>
    cases h with
    | cons h t => exact .cons h (ih t)
theorem all_reps {A : Addr → Prop} : ∀ {vs : List V} {ds : List PyData}, RepAll K A H vs ds → RepRs K A H vs (ds.map R.dat)
  | _, _, .nil => .nil
  | _, _, .cons h t => .cons h (all_reps t)
theorem Ok.all (o : Ok K H S L) {vs : List V} {rs : List R} {ds : List PyData} (h : Lives L vs rs) (e : dats rs = some ds) : RepAll K (Av S) H vs ds := reps_all (o.reps h) e
theorem Ok.tup (o : Ok K H S L) {p : Addr} {vs : List V} {ds : List PyData} (h : H p = none) (q : RepAll K (Av S) H vs ds) : Ok K (upd H p (.tup vs)) S ((.ref p, .dat (.tuple ds)) :: L) :=
  (o.new h).push (.tup (.inl upd_same) (q.stp (stp_new h)))
theorem Ok.lst (o : Ok K H S L) {p : Addr} {vs : List V} {ds : List PyData} (h : H p = none) (q : RepAll K (Av S) H vs ds) : Ok K (upd H p (.lst vs)) S ((.ref p, .dat (.list ds)) :: L) :=
  (o.new h).push (.lst upd_same (o.fresh h) (q.stp (stp_new h)))
/-- a new object that is a cell -/
theorem stp_cell {p : Addr} {u : HO} {c : Cell} (hc : c.pt = p) (h : H p = none) : Stp (Av S) (Av (c :: S)) H (upd H p u) :=
  ⟨fun a xs e n => ⟨by rw [upd_ne (ne_of_none e h)]; exact e, fun z => by
    rcases List.mem_cons.mp z with z | z
    · exact ne_of_none e h (z.trans hc)
    · exact n z⟩, fun a xs e => by rw [upd_ne (ne_of_none e h)]; exact e, fun a ob xs e => by rw [upd_ne (ne_of_none e h)]; exact e, fun a C dx ws e n => ⟨by rw [upd_ne (ne_of_none e h)]; exact e, fun z => by
    rcases List.mem_cons.mp z with z | z
    · exact ne_of_none e h (z.trans hc)
    · exact n z⟩, fun a ws e n => ⟨by rw [upd_ne (ne_of_none e h)]; exact e, fun z => by
    rcases List.mem_cons.mp z with z | z
    · exact ne_of_none e h (z.trans hc)
    · exact n z⟩, fun a fs e => by rw [upd_ne (ne_of_none e h)]; exact e, fun a fs e => by rw [upd_ne (ne_of_none e h)]; exact e⟩
theorem Ok.cell (o : Ok K H S L) {p : Addr} {u : HO} {c : Cell} (hc : c.pt = p) (h : H p = none) (new : CellOk K (Av (c :: S)) (upd H p u) c) : Ok K (upd H p u) (c :: S) L :=
  ⟨List.nodup_cons.mpr ⟨fun z => o.fresh h (by rw [hc] at z; exact z), o.nd⟩, fun c' hc' => by
    rcases List.mem_cons.mp hc' with rfl | hc'
    · exact new
    · refine (o.cells c' hc').stp (stp_cell hc h) ?_
      obtain ⟨w, e⟩ := (o.cells c' hc').some
      rw [upd_ne (ne_of_none e h)], fun e he => (o.live e he).stp (stp_cell hc h)⟩
theorem Ok.lstC (o : Ok K H S L) {p : Addr} {vs : List V} {rs : List R} (h : H p = none) (q : RepRs K (Av S) H vs rs) : Ok K (upd H p (.lst vs)) (.lst p rs :: S) L :=
  o.cell (c := .lst p rs) rfl h ⟨vs, upd_same, q.stp (stp_cell rfl h)⟩
/-- a cell is let go -/
theorem stp_less {S' : SH} (h : ∀ a, Av S' a → Av S a) : Stp (Av S) (Av S') H H := ⟨fun _ _ e n => ⟨e, fun z => n (h _ z)⟩, fun _ _ e => e, fun _ _ _ e => e, fun _ _ _ _ e n => ⟨e, fun z => n (h _ z)⟩, fun _ _ e n => ⟨e, fun z => n (h _ z)⟩, fun _ _ e => e, fun _ _ e => e⟩
theorem Ok.less (o : Ok K H S L) {S' : SH} (h : S'.Sublist S) : Ok K H S' L := by
  have hs : ∀ a, Av S' a → Av S a := fun a z => (h.map Cell.pt).subset z
  exact ⟨(h.map Cell.pt).nodup o.nd, fun c hc => (o.cells c (h.subset hc)).stp (stp_less hs) rfl, fun e he => (o.live e he).stp (stp_less hs)⟩
/-- the cell at i is changed -/
theorem at_split {i : Nat} {c : Cell} (h : S[i]? = some c) : c ∈ S := List.mem_of_getElem? h
theorem pts_set {i : Nat} {c c' : Cell} (h : S[i]? = some c) (e : c'.pt = c.pt) : (S.set i c').map Cell.pt = S.map Cell.pt := by
  apply List.ext_getElem?
  intro j
  rw [List.getElem?_map, List.getElem?_map, List.getElem?_set]
  split
  · rename_i hj
    subst hj
    obtain ⟨hl, _⟩ := List.getElem?_eq_some_iff.mp h
    rw [if_pos hl, h]
    simp [e]
  · rfl
theorem av_set {i : Nat} {c c' : Cell} (h : S[i]? = some c) (e : c'.pt = c.pt) : Av (S.set i c') = Av S := by unfold Av; rw [pts_set h e]
theorem stp_upd {A : Addr → Prop} {p : Addr} {u w : HO} (hp : H p = some w) (ha : A p) (hw : Mu (some w)) : Stp A A H (upd H p u) :=
  ⟨fun a xs e n => ⟨by rw [upd_ne (fun z => n (by rw [z]; exact ha))]; exact e, n⟩, fun a xs e => by rw [upd_ne (fun z => by subst z; rw [hp] at e; cases e; exact hw)]; exact e, fun a ob xs e => by rw [upd_ne (fun z => by subst z; rw [hp] at e; cases e; exact hw)]; exact e, fun a C dx ws e n => ⟨by rw [upd_ne (fun z => n (by rw [z]; exact ha))]; exact e, n⟩, fun a ws e n => ⟨by rw [upd_ne (fun z => n (by rw [z]; exact ha))]; exact e, n⟩, fun a fs e => by rw [upd_ne (fun z => by subst z; rw [hp] at e; cases e; exact hw)]; exact e, fun a fs e => by rw [upd_ne (fun z => by subst z; rw [hp] at e; cases e; exact hw)]; exact e⟩
theorem pt_at {i : Nat} {c : Cell} (h : S[i]? = some c) : Av S c.pt := List.mem_map.mpr ⟨c, at_split h, rfl⟩
theorem Ok.put (o : Ok K H S L) {i : Nat} {c c' : Cell} {p : Addr} {u w : HO} (h : S[i]? = some c) (hp : c.pt = p) (e : c'.pt = p) (hw : H p = some w) (nt : Mu (some w)) (new : CellOk K (Av S) (upd H p u) c') : Ok K (upd H p u) (S.set i c') L := by
  have ec : c'.pt = c.pt := e.trans hp.symm
  have st : Stp (Av S) (Av S) H (upd H p u) := stp_upd hw (by rw [← hp]; exact pt_at h) nt
  refine ⟨by rw [pts_set h ec]; exact o.nd, fun d hd => ?_, fun e he => ?_⟩
  · rw [av_set h ec]
    obtain ⟨j, hj⟩ := List.getElem?_of_mem hd
    rw [List.getElem?_set] at hj
    split at hj
    · split at hj
      · cases hj; exact new
      · cases hj
    · rename_i hij
      have hne : d.pt ≠ p := fun z => by
        have h1 : (S.map Cell.pt)[i]? = some p := by rw [List.getElem?_map, h]; simp [hp]
        have h2 : (S.map Cell.pt)[j]? = some p := by rw [List.getElem?_map, hj]; simp [z]
        exact hij (nd_ix o.nd h1 h2)
      exact (o.cells d (List.mem_of_getElem? hj)).stp st (by rw [upd_ne hne])
  · rw [av_set h ec]
    exact (o.live e he).stp st
theorem Ok.putL (o : Ok K H S L) {i : Nat} {p : Addr} {xs ys : List R} {us : List V} (h : S[i]? = some (.lst p xs)) (q : RepRs K (Av S) H us ys) : Ok K (upd H p (.lst us)) (S.set i (.lst p ys)) L := by
  obtain ⟨vs, e, _⟩ := o.cells _ (at_split h)
  exact o.put h rfl rfl e True.intro ⟨us, upd_same, q.stp (stp_upd e (pt_at h) True.intro)⟩
/-- a list cell becomes data -/
theorem Ok.frz (o : Ok K H S L) {i : Nat} {p : Addr} {xs : List R} {ds : List PyData} (h : S[i]? = some (.lst p xs)) (e : dats xs = some ds) : Ok K H (S.eraseIdx i) ((.ref p, .dat (.list ds)) :: L) := by
  obtain ⟨vs, e1, q⟩ := o.cells _ (at_split h)
  have hs : (S.eraseIdx i).Sublist S := List.eraseIdx_sublist S i
  have o' := o.less hs
  have hs' : ∀ a, Av (S.eraseIdx i) a → Av S a := fun a z => (hs.map Cell.pt).subset z
  refine o'.push (.lst e1 (fun z => ?_) ((reps_all q e).stp (stp_less hs')))
  have nd := o.nd
  obtain ⟨c, hc, hp⟩ := List.mem_map.mp z
  obtain ⟨j, hj, hji⟩ : ∃ j, S[j]? = some c ∧ j ≠ i := by
    obtain ⟨k, hk⟩ := List.getElem?_of_mem hc
    rw [List.getElem?_eraseIdx] at hk
    split at hk
    · exact ⟨k, hk, by omega⟩
    · exact ⟨k + 1, hk, by omega⟩
  have h1 : (S.map Cell.pt)[i]? = some p := by rw [List.getElem?_map, h]; rfl
  have h2 : (S.map Cell.pt)[j]? = some p := by rw [List.getElem?_map, hj]; simp [hp]
  exact hji (nd_ix nd h2 h1)
theorem Ok.erase_pt (o : Ok K H S L) {i : Nat} {c : Cell} (h : S[i]? = some c) : ¬ Av (S.eraseIdx i) c.pt := fun z => by
  obtain ⟨d, hd, hp⟩ := List.mem_map.mp z
  obtain ⟨j, hj, hji⟩ : ∃ j, S[j]? = some d ∧ j ≠ i := by
    obtain ⟨k, hk⟩ := List.getElem?_of_mem hd
    rw [List.getElem?_eraseIdx] at hk
    split at hk
    · exact ⟨k, hk, by omega⟩
    · exact ⟨k + 1, hk, by omega⟩
  have h1 : (S.map Cell.pt)[i]? = some c.pt := by rw [List.getElem?_map, h]; rfl
  have h2 : (S.map Cell.pt)[j]? = some c.pt := by rw [List.getElem?_map, hj]; simp [hp]
  exact hji (nd_ix o.nd h2 h1)
/-- an instance's cell becomes a frozen one -/
theorem Ok.frzI (o : Ok K H S L) {i : Nat} {p C : Addr} {ks : List Str} {rs : List R} (h : S[i]? = some (.ins p C ks rs)) (hl : rs.length = ks.length) : Ok K H (S.eraseIdx i) ((.ref p, .obj C ks rs) :: L) := by
  obtain ⟨dx, vs, e1, hv, q⟩ := o.cells _ (at_split h)
  have hs : (S.eraseIdx i).Sublist S := List.eraseIdx_sublist S i
  have hs' : ∀ a, Av (S.eraseIdx i) a → Av S a := fun a z => (hs.map Cell.pt).subset z
  have lv : vs.length = ks.length := by
    have : ∀ {l : List V} {m : List R}, Paired (RepR K (Av S) H) l m → l.length = m.length := by
      intro l m w
      induction w with
      | nil => rfl
      | cons _ _ ih => rw [List.length_cons, List.length_cons, ih]
    rw [this q]; exact hl
  exact (o.less hs).push ⟨p, dx, vs, rfl, e1, o.erase_pt h, lv, RepRl.of (q.stp (stp_less hs'))⟩
/-- a dict's cell becomes a frozen one -/
theorem zip_of_kv {K : Fg} {A : Addr → Prop} {H : Hp} : ∀ {kws : List (Key × V)} {kvs : List (Key × R)}, Paired (fun (a : Key × V) (b : Key × R) => a.1 = b.1 ∧ RepR K A H a.2 b.2) kws kvs → kws = (kvs.map (·.1)).zip (kws.map (·.2)) ∧ (kws.map (·.2)).length = (kvs.map (·.1)).length ∧ RepRs K A H (kws.map (·.2)) (kvs.map (·.2))
  | _, _, .nil => ⟨rfl, rfl, .nil⟩
  | (k, v) :: kws, (k', r) :: kvs, .cons h t => by
    obtain ⟨e, hr⟩ := h
    cases (show k = k' from e)
    obtain ⟨a, b, c⟩ := zip_of_kv t
    refine ⟨?_, by simpa using b, .cons hr c⟩
    show (k, v) :: kws = (k, v) :: (kvs.map (·.1)).zip (kws.map (·.2))
    rw [← a]
theorem Ok.frzD (o : Ok K H S L) {i : Nat} {p : Addr} {kvs : List (Key × R)} (h : S[i]? = some (.dct p kvs)) : Ok K H (S.eraseIdx i) ((.ref p, .dic (kvs.map (·.1)) (kvs.map (·.2))) :: L) := by
  obtain ⟨kws, e1, q⟩ := o.cells _ (at_split h)
  have hs : (S.eraseIdx i).Sublist S := List.eraseIdx_sublist S i
  have hs' : ∀ a, Av (S.eraseIdx i) a → Av S a := fun a z => (hs.map Cell.pt).subset z
  obtain ⟨ez, el, er⟩ := zip_of_kv q
  exact (o.less hs).push ⟨p, _, rfl, by rw [← ez]; exact e1, o.erase_pt h, el, RepRl.of (er.stp (stp_less hs'))⟩
/-- a packed list is opened; a list is packed -/
theorem Ok.open_pk (o : Ok K H S L) {i : Nat} {p : Addr} {P : List R → Prop} (h : S[i]? = some (.pk p P)) : ∃ xs, P xs ∧ Ok K H (S.set i (.lst p xs)) L := by
  obtain ⟨vs, xs, e, q, z⟩ := o.cells _ (at_split h)
  have ec : (Cell.lst p xs).pt = (Cell.pk p P).pt := rfl
  refine ⟨xs, z, by rw [pts_set h ec]; exact o.nd, fun d hd => ?_, fun e he => by rw [av_set h ec]; exact o.live e he⟩
  rw [av_set h ec]
  rcases List.mem_or_eq_of_mem_set hd with hd | rfl
  · exact o.cells d hd
  · exact ⟨vs, e, q⟩
theorem Ok.pack (o : Ok K H S L) {i : Nat} {p : Addr} {xs : List R} {P : List R → Prop} (h : S[i]? = some (.lst p xs)) (z : P xs) : Ok K H (S.set i (.pk p P)) L := by
  obtain ⟨vs, e, q⟩ := o.cells _ (at_split h)
  have ec : (Cell.pk p P).pt = (Cell.lst p xs).pt := rfl
  refine ⟨by rw [pts_set h ec]; exact o.nd, fun d hd => ?_, fun e he => by rw [av_set h ec]; exact o.live e he⟩
  rw [av_set h ec]
  rcases List.mem_or_eq_of_mem_set hd with hd | rfl
  · exact o.cells d hd
  · exact ⟨vs, xs, e, q, z⟩
/-- cells in another order -/
theorem Ok.perm (o : Ok K H S L) {S' : SH} (h : S.Perm S') : Ok K H S' L := by
  have hm : ∀ a, Av S a ↔ Av S' a := fun a => (h.map Cell.pt).mem_iff
  have ea : Av S = Av S' := funext fun a => propext (hm a)
  exact ⟨(h.map Cell.pt).nodup_iff.mp o.nd, fun c hc => by rw [← ea]; exact o.cells c (h.mem_iff.mpr hc), fun e he => by rw [← ea]; exact o.live e he⟩
end

/-! ### frames, readings, lifts -/
abbrev Fr := List (Option R)
structure FrOk (σ : L2.St) (fr : Fr) (L : Live) : Prop where
  len : fr.length = σ.length
  at_ : ∀ (i : Nat) (r : R), fr[i]? = some (some r) → ∃ v, σ[i]? = some (some v) ∧ (v, r) ∈ L
theorem FrOk.mono {σ : L2.St} {fr : Fr} {L L' : Live} (f : FrOk σ fr L) (h : ∀ e ∈ L, e ∈ L') : FrOk σ fr L' := ⟨f.len, fun i r e => let ⟨v, a, b⟩ := f.at_ i r e; ⟨v, a, h _ b⟩⟩
theorem FrOk.set {σ : L2.St} {fr : Fr} {L : Live} (f : FrOk σ fr L) {v : V} {r : R} (h : (v, r) ∈ L) (i : Nat) : FrOk (σ.set i (some v)) (fr.set i (some r)) L := by
  refine ⟨by rw [List.length_set, List.length_set]; exact f.len, fun j q e => ?_⟩
  rw [List.getElem?_set] at e
  split at e
  · rename_i hj
    subst hj
    split at e
    · rename_i hl
      cases e
      exact ⟨v, by rw [List.getElem?_set_self (by rw [← f.len]; exact hl)], h⟩
    · cases e
  · rename_i hj
    rw [List.getElem?_set_ne hj]
    exact f.at_ j q e
theorem FrOk.none {σ : L2.St} {fr : Fr} {L : Live} (f : FrOk σ fr L) (i : Nat) : FrOk (σ.set i .none) (fr.set i .none) L := by
  refine ⟨by rw [List.length_set, List.length_set]; exact f.len, fun j q e => ?_⟩
  rw [List.getElem?_set] at e
  split at e
  · split at e <;> cases e
  · rename_i hj
    rw [List.getElem?_set_ne hj]
    exact f.at_ j q e
def wipeF (fr : Fr) : List Nat → Fr
  | [] => fr
  | v :: vs => (wipeF fr vs).set v none
theorem FrOk.wipe {σ : L2.St} {fr : Fr} {L : Live} (f : FrOk σ fr L) : ∀ vs : List Nat, FrOk (L2.wipe σ vs) (wipeF fr vs) L
  | [] => f
  | v :: vs => (FrOk.wipe f vs).none v

abbrev DE := Fr → SH → (R → SH → Prop) → Prop
abbrev DA := Fr → SH → (List R → SH → Prop) → Prop
abbrev DT := Fr → SH → (Bool → SH → Prop) → Prop
abbrev DO := Fr → SH → (Option Int → SH → Prop) → Prop
structure DEnds where
  nx : Fr → SH → Prop
  rt : R → SH → Prop
  bk : Fr → SH → Prop := fun _ _ => False
  ct : Fr → SH → Prop := fun _ _ => False
abbrev DS := DEnds → Fr → SH → Prop
abbrev DG := R → Fr → SH → (Fr → SH → Prop) → Prop
abbrev DGs := List R → Fr → SH → (Fr → SH → Prop) → Prop

/-- F: cells that a reading doesn't speak of -/
abbrev OkF (K : Fg) (F : SH) (H : Hp) (S : SH) (L : Live) : Prop := Ok K H (S ++ F) L
section
variable {K : Fg} {F : SH} {H : Hp} {S : SH} {L : Live}
theorem in_app {i : Nat} {c : Cell} (h : S[i]? = some c) : (S ++ F)[i]? = some c := by
  obtain ⟨hl, _⟩ := List.getElem?_eq_some_iff.mp h
  rw [List.getElem?_append_left hl]; exact h
theorem set_app {i : Nat} {c : Cell} (h : S[i]? = some c) (c' : Cell) : (S ++ F).set i c' = S.set i c' ++ F := by
  obtain ⟨hl, _⟩ := List.getElem?_eq_some_iff.mp h
  rw [List.set_append_left _ _ hl]
theorem erase_app {i : Nat} {c : Cell} (h : S[i]? = some c) : (S ++ F).eraseIdx i = S.eraseIdx i ++ F := by
  obtain ⟨hl, _⟩ := List.getElem?_eq_some_iff.mp h
  rw [List.eraseIdx_append_of_lt_length hl]
end

def Lift (K : Fg) (te : TE) (de : DE) : Prop := ∀ (F : SH) (H : Hp) (σ : L2.St) (fr : Fr) (S : SH) (L : Live), FrOk σ fr L → OkF K F H S L → ∀ (C : R → SH → Prop) (Q : VK), de fr S C →
  (∀ v r S' H', OkF K F H' S' ((v, r) :: L) → C r S' → Q v H') → te σ H Q
def LiftT (K : Fg) (tt : TT) (dt : DT) : Prop := ∀ (F : SH) (H : Hp) (σ : L2.St) (fr : Fr) (S : SH) (L : Live), FrOk σ fr L → OkF K F H S L → ∀ (C : Bool → SH → Prop) (Q : Bool → Hp → Prop), dt fr S C →
  (∀ b S' H', OkF K F H' S' L → C b S' → Q b H') → tt σ H Q
def LiftA (K : Fg) (ta : TA) (da : DA) : Prop := ∀ (F : SH) (H : Hp) (σ : L2.St) (fr : Fr) (S : SH) (L : Live), FrOk σ fr L → OkF K F H S L → ∀ (C : List R → SH → Prop) (Q : List V → Hp → Prop), da fr S C →
  (∀ vs rs S' H' L', OkF K F H' S' L' → (∀ e ∈ L, e ∈ L') → Lives L' vs rs → C rs S' → Q vs H') → ta σ H Q
def LiftO (K : Fg) (to : TO) (do_ : DO) : Prop := ∀ (F : SH) (H : Hp) (σ : L2.St) (fr : Fr) (S : SH) (L : Live), FrOk σ fr L → OkF K F H S L → ∀ (C : Option Int → SH → Prop) (Q : Option Int → Hp → Prop), do_ fr S C →
  (∀ o S' H', OkF K F H' S' L → C o S' → Q o H') → to σ H Q
structure EndsOk (K : Fg) (F : SH) (L : Live) (D : Ends) (D' : DEnds) : Prop where
  nx : ∀ σ fr S H L', FrOk σ fr L' → OkF K F H S L' → (∀ e ∈ L, e ∈ L') → D'.nx fr S → D.nx σ H
  rt : ∀ v r S H, OkF K F H S ((v, r) :: L) → D'.rt r S → D.rt v H
  bk : ∀ σ fr S H L', FrOk σ fr L' → OkF K F H S L' → (∀ e ∈ L, e ∈ L') → D'.bk fr S → D.bk σ H
  ct : ∀ σ fr S H L', FrOk σ fr L' → OkF K F H S L' → (∀ e ∈ L, e ∈ L') → D'.ct fr S → D.ct σ H
theorem tl_mem {α : Type} {a : α} {L : List α} : ∀ e ∈ L, e ∈ a :: L := fun _ h => List.mem_cons_of_mem _ h
theorem sub_cons {α : Type} {a : α} {L L' : List α} (h : ∀ e ∈ L, e ∈ L') : ∀ e ∈ a :: L, e ∈ a :: L' := fun e he => by
  rcases List.mem_cons.mp he with rfl | he
  · exact List.mem_cons_self
  · exact List.mem_cons_of_mem _ (h e he)
theorem EndsOk.mono {K : Fg} {F : SH} {L L' : Live} {D : Ends} {D' : DEnds} (e : EndsOk K F L D D') (h : ∀ e ∈ L, e ∈ L') : EndsOk K F L' D D' :=
  ⟨fun σ fr S H L2 f o s q => e.nx σ fr S H L2 f o (fun x hx => s x (h x hx)) q, fun v r S H o q => e.rt v r S H (o.sub (sub_cons h)) q,
   fun σ fr S H L2 f o s q => e.bk σ fr S H L2 f o (fun x hx => s x (h x hx)) q, fun σ fr S H L2 f o s q => e.ct σ fr S H L2 f o (fun x hx => s x (h x hx)) q⟩
def LiftS (K : Fg) (ts : TS) (ds : DS) : Prop := ∀ (F : SH) (H : Hp) (σ : L2.St) (fr : Fr) (S : SH) (L : Live), FrOk σ fr L → OkF K F H S L → ∀ (D : Ends) (D' : DEnds), EndsOk K F L D D' → ds D' fr S → ts D σ H
def LiftG (K : Fg) (g : TG) (dg : DG) : Prop := ∀ (F : SH) (H : Hp) (σ : L2.St) (fr : Fr) (S : SH) (L : Live) (v : V) (r : R), FrOk σ fr L → OkF K F H S L → (v, r) ∈ L → ∀ (C : Fr → SH → Prop) (Q : L2.St → Hp → Prop), dg r fr S C →
  (∀ σ' fr' S' H' L', FrOk σ' fr' L' → OkF K F H' S' L' → (∀ e ∈ L, e ∈ L') → C fr' S' → Q σ' H') → g v σ H Q
def LiftGs (K : Fg) (g : TGs) (dg : DGs) : Prop := ∀ (F : SH) (H : Hp) (σ : L2.St) (fr : Fr) (S : SH) (L : Live) (vs : List V) (rs : List R), FrOk σ fr L → OkF K F H S L → Lives L vs rs → ∀ (C : Fr → SH → Prop) (Q : L2.St → Hp → Prop), dg rs fr S C →
  (∀ σ' fr' S' H' L', FrOk σ' fr' L' → OkF K F H' S' L' → (∀ e ∈ L, e ∈ L') → C fr' S' → Q σ' H') → g vs σ H Q

structure PD (X : Cx) (e : Expr) (de : DE) : Prop where
  ex : ∃ te, PE X e te ∧ Lift X.K te de
structure PDT (X : Cx) (e : Expr) (dt : DT) : Prop where
  ex : ∃ tt, PT X e tt ∧ LiftT X.K tt dt
structure PDW (X : Cx) (e : Expr) (dt : DT) : Prop where
  ex : ∃ tt, PW X e tt ∧ LiftT X.K tt dt
structure PDA (X : Cx) (es : List Expr) (da : DA) : Prop where
  ex : ∃ ta, PA X es ta ∧ LiftA X.K ta da
structure PDO (X : Cx) (e : Option Expr) (d : DO) : Prop where
  ex : ∃ t, PO X e t ∧ LiftO X.K t d
structure PDS (X : Cx) (st : Stmt) (ds : DS) : Prop where
  ex : ∃ ts, PS X st ts ∧ LiftS X.K ts ds
structure PDSs (X : Cx) (st : List Stmt) (ds : DS) : Prop where
  ex : ∃ ts, PSs X st ts ∧ LiftS X.K ts ds
structure PDG (X : Cx) (e : Expr) (dg : DG) : Prop where
  ex : ∃ g, PG X e g ∧ LiftG X.K g dg
structure PDGs (X : Cx) (es : List Expr) (dg : DGs) : Prop where
  ex : ∃ g, PGs X es g ∧ LiftGs X.K g dg

end DL
set_option Elab.async false
set_option linter.all false
set_option maxRecDepth 100000
set_option maxHeartbeats 4000000
/-! DL, second part: the rules for expressions and tests. -/
namespace DL
open PySem PySem.Spec PyProof.Rows L2

abbrev CR0 := R → SH → Prop
theorem big_of {n : Nat} (h : n ≤ 100000) : n ≤ sizeLine := Nat.le_trans h (by decide)
theorem big_lt {n : Nat} (h : n < 100000) : n < sizeLine := Nat.lt_of_lt_of_le h (by decide)

section
variable {K : Fg}
/-! ### names, constants -/
def dVar (i : Nat) : DE := fun fr S C => ∃ r, fr[i]? = some (some r) ∧ C r S
def dC (r : R) : DE := fun _ S C => C r S
theorem lift_var (i : Nat) : Lift K (tVar i) (dVar i) := fun F H σ fr S L f o C Q ⟨r, e, h⟩ q => by
  obtain ⟨v, ev, m⟩ := f.at_ i r e
  exact ⟨v, ev, q v r S H (o.push (o.live _ m)) h⟩
theorem lift_c {v : V} {r : R} (h : ∀ A H, RepR K A H v r) : Lift K (tC v) (dC r) := fun F H σ fr S L f o C Q h' q => q v r S H (o.push (h _ _)) h'

/-! ### two operands -/
abbrev F2 := R → R → SH → CR0 → Prop
def OpD (K : Fg) (r : R2) (f : F2) : Prop := ∀ (F : SH) (x y : V) (a b : R) (H : Hp) (S : SH) (L : Live) (C : CR0) (Q : VK), OkF K F H S L → (x, a) ∈ L → (y, b) ∈ L → f a b S C →
  (∀ v c S' H', OkF K F H' S' ((v, c) :: L) → C c S' → Q v H') → r x y H Q
def dOp (f : F2) (da db : DE) : DE := fun fr S C => da fr S fun a S1 => db fr S1 fun b S2 => f a b S2 C
theorem lift_op {r : R2} {f : F2} {ta tb : TE} {da db : DE} (h : OpD K r f) (la : Lift K ta da) (lb : Lift K tb db) : Lift K (tOp r ta tb) (dOp f da db) := by
  intro F H σ fr S L fo o C Q hd q
  refine la F H σ fr S L fo o _ _ hd fun x a S1 H1 o1 h1 => ?_
  refine lb F H1 σ fr S1 _ (fo.mono tl_mem) o1 _ _ h1 fun y b S2 H2 o2 h2 => ?_
  refine h F x y a b H2 S2 _ C Q o2 (List.mem_cons_of_mem _ List.mem_cons_self) List.mem_cons_self h2 fun v c S3 H3 o3 h3 => ?_
  exact q v c S3 H3 (o3.sub (sub_cons fun e he => List.mem_cons_of_mem _ (List.mem_cons_of_mem _ he))) h3
/-- an answer that makes nothing new -/
theorem OpD.flat {r : R2} {f : F2} (h : ∀ (A : Addr → Prop) (x y : V) (a b : R) (H : Hp) (S : SH) (C : CR0) (Q : VK), RepR K A H x a → RepR K A H y b → f a b S C → (∀ v c, RepR K A H v c → C c S → Q v H) → r x y H Q) : OpD K r f :=
  fun F x y a b H S L C Q o hx hy hf q => h (Av (S ++ F)) x y a b H S C Q (o.live _ hx) (o.live _ hy) hf fun v c hv hc => q v c S H (o.push hv) hc

/-! ### ints -/
def fI (P : Int → Int → Prop) (g : Int → Int → PyData) : F2 := fun a b S C => match a, b with
  | .dat (.int i), .dat (.int j) => P i j ∧ C (.dat (g i j)) S
  | _, _ => False
def fI0 (g : Int → Int → PyData) : F2 := fun a b S C => match a, b with
  | .dat (.int i), .dat (.int j) => C (.dat (g i j)) S
  | _, _ => False
theorem rep_int_inv {A : Addr → Prop} {H : Hp} {v : V} {i : Int} (h : Rep K A H v (.int i)) : v = .int i := by cases h; rfl
theorem opd_I0 {g : Int → Int → V} {g' : Int → Int → PyData} (hg : ∀ i j A H, Rep K A H (g i j) (g' i j)) : OpD K (rI0 g) (fI0 g') := OpD.flat fun A x y a b H S C Q hx hy hf q => by
  unfold fI0 at hf
  split at hf
  · rename_i i j
    cases rep_int_inv hx; cases rep_int_inv hy
    exact ⟨i, j, rfl, rfl, q _ (.dat _) (hg i j A H) hf⟩
  · exact hf.elim
theorem opd_I {P P' : Int → Int → Prop} {g : Int → Int → V} {g' : Int → Int → PyData} (hp : ∀ i j, P' i j → P i j) (hg : ∀ i j A H, Rep K A H (g i j) (g' i j)) : OpD K (rI P g) (fI P' g') := OpD.flat fun A x y a b H S C Q hx hy hf q => by
  unfold fI at hf
  split at hf
  · rename_i i j
    cases rep_int_inv hx; cases rep_int_inv hy
    exact ⟨i, j, rfl, rfl, hp i j hf.1, q _ (.dat _) (hg i j A H) hf.2⟩
  · exact hf.elim

/-! ### + of ints, texts, lists, tuples -/
def fAdd : F2 := fun a b S C => match a, b with
  | .dat (.int i), .dat (.int j) => C (.dat (.int (i + j))) S
  | .dat (.str x), .dat (.str y) => x.length + y.length ≤ 100000 ∧ C (.dat (.str (x ++ y))) S
  | .dat (.list xs), .dat (.list ys) => xs.length + ys.length ≤ 100000 ∧ C (.dat (.list (xs ++ ys))) S
  | .dat (.tuple xs), .dat (.tuple ys) => xs.length + ys.length ≤ 100000 ∧ C (.dat (.tuple (xs ++ ys))) S
  | _, _ => False
def rStrAdd : R2 := fun x y H Q => ∃ i j, x = .str i ∧ y = .str j ∧ i.length + j.length ≤ sizeLine ∧ Q (.str (i ++ j)) H
def rAddAll (K : Fg) : R2 := fun x y H Q => (rI0 (fun i j => V.int (i + j))) x y H Q ∨ rStrAdd x y H Q ∨ rCat x y H Q ∨ rCatA K x y H Q
theorem op_addAll {X : Cx} : OpR X (binaryOp .Add) (rAddAll X.K) := op_add.or (op_add_str.or (op_cat.or op_catA))
theorem sqT_of {A : Addr → Prop} {H : Hp} {a : Addr} {xs : List V} (h : H a = some (.tup xs) ∨ KTup K a xs) : SqT K H a xs := by
  rcases h with h | h
  · exact SqT.of h
  · exact .inr h
theorem opd_add : OpD K (rAddAll K) fAdd := by
  intro F x y a b H S L C Q o hx hy hf q
  replace hx := o.live _ hx
  replace hy := o.live _ hy
  unfold fAdd at hf
  split at hf
  · cases rep_int_inv hx; cases rep_int_inv hy
    exact .inl ⟨_, _, rfl, rfl, q _ _ S H (o.pd (.int _)) hf⟩
  · cases hx; cases hy
    exact .inr (.inl ⟨_, _, rfl, rfl, big_of hf.1, q _ _ S H (o.pd (.str _)) hf.2⟩)
  · cases hx with | lst h1 n1 q1 => cases hy with | lst h2 n2 q2 =>
    exact .inr (.inr (.inl ⟨_, _, _, _, rfl, rfl, h1, h2, by rw [q1.length, q2.length]; exact big_of hf.1, fun p hp => q _ _ S _ (o.lst hp (q1.append q2)) hf.2⟩))
  · cases hx with | tup h1 q1 => cases hy with | tup h2 q2 =>
    refine .inr (.inr (.inr ⟨_, _, _, _, rfl, rfl, sqT_of (A := Av S) h1, sqT_of (A := Av S) h2, by rw [q1.length, q2.length]; exact big_of hf.1, fun z => ?_, fun _ z => ?_, fun _ _ p hp => q _ _ S _ (o.tup hp (q1.append q2)) hf.2⟩))
    · subst z
      cases q1
      exact q _ _ S H (o.pd (.tup h2 q2)) hf.2
    · subst z
      cases q2
      have e := hf.2
      rw [List.append_nil] at e
      exact q _ _ S H (o.pd (.tup h1 q1)) e
  · exact hf.elim

/-! ### * of ints, of lists -/
def fMul : F2 := fun a b S C => match a, b with
  | .dat (.int i), .dat (.int j) => CMulW i j ∧ C (.dat (.int (i * j))) S
  | .dat (.list xs), .dat (.int k) => k ≤ 1000 ∧ -1000 ≤ k ∧ xs.length ≤ 100 ∧ C (.dat (.list (List.replicate k.toNat xs).flatten)) S
  | _, _ => False
def fMulC : F2 := fun a b S C => match a, b with
  | .dat (.list xs), .dat (.int k) => k ≤ 1000 ∧ -1000 ≤ k ∧ xs.length ≤ 100 ∧ ∀ p, C (.val (.ref p)) (.lst p ((List.replicate k.toNat xs).flatten.map R.dat) :: S)
  | _, _ => False
def rMulAll : R2 := fun x y H Q => (rI CMulW fun i j => V.int (i * j)) x y H Q ∨ rRep x y H Q
theorem op_mulAll {X : Cx} : OpR X (binaryOp .Mult) rMulAll := op_mulW.or op_rep
theorem rep_size {n : Nat} {k : Int} (h : n ≤ 100) (hk : k ≤ 1000) : n * k.toNat ≤ sizeLine := by
  have h1 : k.toNat ≤ 1000 := by omega
  have h2 : n * k.toNat ≤ 100 * 1000 := Nat.mul_le_mul h h1
  exact Nat.le_trans h2 (by decide)
theorem opd_mul : OpD K rMulAll fMul := by
  intro F x y a b H S L C Q o hx hy hf q
  replace hx := o.live _ hx
  replace hy := o.live _ hy
  unfold fMul at hf
  split at hf
  · cases rep_int_inv hx; cases rep_int_inv hy
    exact .inl ⟨_, _, rfl, rfl, hf.1, q _ _ S H (o.pd (.int _)) hf.2⟩
  · cases rep_int_inv hy
    cases hx with | lst h1 n1 q1 =>
    exact .inr ⟨_, _, _, rfl, rfl, h1, by omega, by omega, by rw [q1.length]; exact rep_size hf.2.2.1 hf.1, fun p hp => q _ _ S _ (o.lst hp (q1.rep _)) hf.2.2.2⟩
  · exact hf.elim
theorem opd_mulC : OpD K rMulAll fMulC := by
  intro F x y a b H S L C Q o hx hy hf q
  replace hx := o.live _ hx
  replace hy := o.live _ hy
  unfold fMulC at hf
  split at hf
  · cases rep_int_inv hy
    cases hx with | lst h1 n1 q1 =>
    exact .inr ⟨_, _, _, rfl, rfl, h1, by omega, by omega, by rw [q1.length]; exact rep_size hf.2.2.1 hf.1, fun p hp => q _ _ (_ :: S) _ (Ok.push (r := .val (.ref p)) (o.lstC hp (all_reps (q1.rep _))) rfl) (hf.2.2.2 p)⟩
  · exact hf.elim
/-! ### equality of data -/
def scalD : PyData → PyData → Bool
  | .none, .none => true | .none, .int _ => true | .int _, .none => true | .none, .bool _ => true | .bool _, .none => true | .none, .str _ => true | .str _, .none => true
  | .int _, .int _ => true | .bool _, .bool _ => true | .str _, .str _ => true
  | .int _, .str _ => true | .str _, .int _ => true | .bool _, .str _ => true | .str _, .bool _ => true
  | _, _ => false
def eqOk (d e : PyData) : Bool := scalD d e || (SeqAt.shaped d && SeqAt.shaped e)
def fEq : F2 := fun a b S C => match a, b with
  | .dat d, .dat e => eqOk d e = true ∧ C (.dat (.bool (PyData.eqv d e))) S
  | _, _ => False
def fNe : F2 := fun a b S C => match a, b with
  | .dat d, .dat e => eqOk d e = true ∧ C (.dat (.bool (!PyData.eqv d e))) S
  | _, _ => False
theorem scal_eq {A : Addr → Prop} {H : Hp} {x y : V} {d e : PyData} (hx : Rep K A H x d) (hy : Rep K A H y e) (h : scalD d e = true) : scal x y = true ∧ decide (x = y) = PyData.eqv d e := by
  cases hx <;> cases hy <;> first
    | (refine ⟨rfl, ?_⟩; rfl)
    | (refine ⟨rfl, ?_⟩; simp [PyData.eqv, Bool.beq_eq_decide_eq]; done)
    | (refine ⟨rfl, ?_⟩; rw [dec_str]; simp [PyData.eqv]; done)
    | (refine ⟨rfl, ?_⟩; rw [dec_bl]; simp [PyData.eqv]; done)
    | (exfalso; revert h; simp [scalD]; done)
def rEqAll (K : Fg) : R2 := fun x y H Q => rEq x y H Q ∨ rEqD K x y H Q
def rNeAll (K : Fg) : R2 := fun x y H Q => rNe x y H Q ∨ rNeD K x y H Q
theorem op_eqAll {X : Cx} (hu : X.A.units + 64 < cLine) : OpR X (compareOp .Eq) (rEqAll X.K) := op_eq.or (op_eqD hu)
theorem op_neAll {X : Cx} (hu : X.A.units + 64 < cLine) : OpR X (compareOp .NotEq) (rNeAll X.K) := op_ne.or (op_neD hu)
theorem opd_eq : OpD K (rEqAll K) fEq := OpD.flat fun A x y a b H S C Q hx hy hf q => by
  unfold fEq at hf
  split at hf
  · rename_i d e
    obtain ⟨h1, h2⟩ := hf
    rcases Bool.or_eq_true_iff.mp h1 with h | h
    · obtain ⟨s, e1⟩ := scal_eq hx hy h
      exact .inl ⟨s, q _ (.dat _) (by rw [e1]; exact Rep.bl _) h2⟩
    · obtain ⟨s1, s2⟩ := Bool.and_eq_true_iff.mp h
      exact .inr ⟨d, e, hx.dp, hy.dp, s1, s2, q _ (.dat _) (Rep.bl _) h2⟩
  · exact hf.elim
theorem opd_ne : OpD K (rNeAll K) fNe := OpD.flat fun A x y a b H S C Q hx hy hf q => by
  unfold fNe at hf
  split at hf
  · rename_i d e
    obtain ⟨h1, h2⟩ := hf
    rcases Bool.or_eq_true_iff.mp h1 with h | h
    · obtain ⟨s, e1⟩ := scal_eq hx hy h
      exact .inl ⟨s, q _ (.dat _) (by rw [e1]; exact Rep.bl _) h2⟩
    · obtain ⟨s1, s2⟩ := Bool.and_eq_true_iff.mp h
      exact .inr ⟨d, e, hx.dp, hy.dp, s1, s2, q _ (.dat _) (Rep.bl _) h2⟩
  · exact hf.elim

/-! ### is None -/
def isNone : R → Bool
  | .dat .none => true
  | .dat _ => false
  | .val v => decide (v = .non)
  | .scr _ => false
  | .tp _ => false
  | .obj _ _ _ => false
  | .dic _ _ => false
  | .exc _ _ _ _ => false
  | .fn _ _ _ _ _ _ _ => false
def fIsN : F2 := fun a b S C => match b with
  | .dat .none => C (.dat (.bool (isNone a))) S
  | _ => False
def fNotN : F2 := fun a b S C => match b with
  | .dat .none => C (.dat (.bool (!isNone a))) S
  | _ => False
theorem isNone_of {A : Addr → Prop} {H : Hp} {x : V} {a : R} (h : RepR K A H x a) : decide (x = .non) = isNone a := by
  cases a with
  | dat d => cases h <;> rfl
  | val v => cases (show x = v from h); rfl
  | scr ns => obtain ⟨a, e, _⟩ := h; rw [e]; rfl
  | tp rs => obtain ⟨a, o, e, _⟩ := h; rw [e]; rfl
  | obj C ks rs => obtain ⟨a, dx, vs, e, _⟩ := h; rw [e]; rfl
  | dic ks rs => obtain ⟨a, vs, e, _⟩ := h; rw [e]; rfl
  | exc a C d fs => obtain ⟨e, _⟩ := h; rw [e]; rfl
  | fn f c o q t vs rs => obtain ⟨e, _⟩ := h; rw [e]; rfl
def rIsNn : R2 := fun x y H Q => y = .non ∧ Q (.bl (decide (x = .non))) H
def rNotNn : R2 := fun x y H Q => y = .non ∧ Q (.bl (!decide (x = .non))) H
theorem opd_isN : OpD K rIsNn fIsN := OpD.flat fun A x y a b H S C Q hx hy hf q => by
  unfold fIsN at hf
  split at hf
  · refine ⟨by cases hy; rfl, q _ (.dat _) ?_ hf⟩
    rw [isNone_of hx]; exact Rep.bl _
  · exact hf.elim
theorem opd_notN : OpD K rNotNn fNotN := OpD.flat fun A x y a b H S C Q hx hy hf q => by
  unfold fNotN at hf
  split at hf
  · refine ⟨by cases hy; rfl, q _ (.dat _) ?_ hf⟩
    rw [isNone_of hx]; exact Rep.bl _
  · exact hf.elim

/-! ### in, not in: flat data -/
def flatD : PyData → Bool
  | .none => true | .bool _ => true | .int _ => true | .str _ => true | _ => false
def inD (d : PyData) (ds : List PyData) : Bool := ds.any fun e => PyData.eqv e d
def fIn (neg : Bool) : F2 := fun a b S C => match a, b with
  | .dat d, .dat (.list ds) => flatD d = true ∧ ds.all flatD = true ∧ C (.dat (.bool (if neg then !inD d ds else inD d ds))) S
  | .dat d, .dat (.tuple ds) => flatD d = true ∧ ds.all flatD = true ∧ C (.dat (.bool (if neg then !inD d ds else inD d ds))) S
  | _, _ => False
theorem flat_of {A : Addr → Prop} {H : Hp} {x : V} {d : PyData} (h : Rep K A H x d) (f : flatD d = true) : flatV x = true := by
  cases h <;> first | rfl | (exfalso; revert f; simp [flatD]; done)
theorem flats_of {A : Addr → Prop} {H : Hp} : ∀ {xs : List V} {ds : List PyData}, RepAll K A H xs ds → ds.all flatD = true → xs.all flatV = true
  | _, _, .nil, _ => rfl
  | _, _, .cons h t, f => by
    rw [List.all_cons] at f ⊢
    obtain ⟨f1, f2⟩ := Bool.and_eq_true_iff.mp f
    rw [flat_of h f1, flats_of t f2]; rfl
theorem eqV_of {A : Addr → Prop} {H : Hp} {x y : V} {d e : PyData} (h : Rep K A H x d) (h' : Rep K A H y e) (f : flatD d = true) (f' : flatD e = true) : eqV x y = PyData.eqv d e := by
  cases h <;> cases h' <;> first | rfl | (exfalso; revert f; simp [flatD]; done) | (exfalso; revert f'; simp [flatD]; done) | (simp [eqV, PyData.eqv]; done)
theorem inV_of {A : Addr → Prop} {H : Hp} {x : V} {d : PyData} (h : Rep K A H x d) (f : flatD d = true) : ∀ {xs : List V} {ds : List PyData}, RepAll K A H xs ds → ds.all flatD = true → inV x xs = inD d ds
  | _, _, .nil, _ => rfl
  | _, _, .cons (v := v) (vs := vs) (d := e) (ds := ds) h' t, f' => by
    rw [List.all_cons] at f'
    obtain ⟨f1, f2⟩ := Bool.and_eq_true_iff.mp f'
    have ih := inV_of h f t f2
    unfold inV inD at ih ⊢
    rw [List.any_cons, List.any_cons, ih, eqV_of h' h f1 f]
theorem opd_in {neg : Bool} : OpD K (rIn K neg) (fIn neg) := OpD.flat fun A x y a b H S C Q hx hy hf q => by
  unfold fIn at hf
  split at hf
  · obtain ⟨f1, f2, h⟩ := hf
    cases hy with | lst h1 n1 q1 =>
    refine ⟨_, _, rfl, .inl (SqL.of h1), flat_of hx f1, flats_of q1 f2, q _ (.dat _) ?_ h⟩
    rw [inV_of hx f1 q1 f2]; exact Rep.bl _
  · obtain ⟨f1, f2, h⟩ := hf
    cases hy with | tup h1 q1 =>
    refine ⟨_, _, rfl, .inr (sqT_of (A := A) h1), flat_of hx f1, flats_of q1 f2, q _ (.dat _) ?_ h⟩
    rw [inV_of hx f1 q1 f2]; exact Rep.bl _
  · exact hf.elim

/-! ### subscripts -/
def fIx : F2 := fun a b S C => match a, b with
  | .dat (.list ds), .dat (.int i) => ∃ d, atI ds i = some d ∧ C (.dat d) S
  | .dat (.tuple ds), .dat (.int i) => ∃ d, atI ds i = some d ∧ C (.dat d) S
  | .dat (.str z), .dat (.int i) => z.length ≤ 100000 ∧ ∃ c, atI z.cps.toList i = some c ∧ C (.dat (.str ⟨#[c]⟩)) S
  | .scr ns, .dat (.int i) => ∃ z, atI ns i = some z ∧ C (.dat (.int z)) S
  | .tp rs, .dat (.int i) => ∃ r, atI rs i = some r ∧ C r S
  | .val (.ref p), .dat (.int i) => (∃ (j : Nat) (xs : List R) (r : R), S[j]? = some (.lst p xs) ∧ atI xs i = some r ∧ C r S) ∨
      ∃ (j : Nat) (kvs : List (Key × R)) (r : R), S[j]? = some (.dct p kvs) ∧ kvs.find? (fun kv => decide (kv.1 = Sum.inl i)) = some (Sum.inl i, r) ∧ C r S
  | .val (.ref p), .dat (.str x) => ∃ (j : Nat) (kvs : List (Key × R)) (r : R), S[j]? = some (.dct p kvs) ∧ kvs.find? (fun kv => decide (kv.1 = Sum.inr x)) = some (Sum.inr x, r) ∧ C r S
  | .dic ks rs, .dat (.str x) => ∃ r, (ks.zip rs).find? (fun kv => decide (kv.1 = Sum.inr x)) = some (Sum.inr x, r) ∧ C r S
  | _, _ => False
theorem atI_all {A : Addr → Prop} {H : Hp} {xs : List V} {ds : List PyData} {i : Int} {d : PyData} (h : RepAll K A H xs ds) (e : atI ds i = some d) : ∃ v, atI xs i = some v ∧ Rep K A H v d := by
  unfold atI at e ⊢
  rw [← h.length] at e
  cases e1 : ixN xs.length i with
  | none => rw [e1] at e; cases e
  | some j =>
    rw [e1] at e
    exact h.get' e
theorem atI_map {α β : Type} (f : α → β) {xs : List α} {i : Int} {x : α} (e : atI xs i = some x) : atI (xs.map f) i = some (f x) := by
  unfold atI at e ⊢
  rw [List.length_map]
  cases e1 : ixN xs.length i with
  | none => rw [e1] at e; cases e
  | some j =>
    rw [e1] at e
    show (xs.map f)[j]? = some (f x)
    rw [List.getElem?_map, show xs[j]? = some x from e]; rfl
theorem paired_get' {α β : Type} {P : α → β → Prop} : ∀ {l : List α} {m : List β} {i : Nat} {b : β}, Paired P l m → m[i]? = some b → ∃ a, l[i]? = some a ∧ P a b
  | _, _, _, _, .nil, e => by simp at e
  | _, _, 0, _, .cons r _, e => by simp at e; subst e; exact ⟨_, rfl, r⟩
  | _, _, i + 1, b, .cons _ t, e => by
    obtain ⟨u, h1, h2⟩ := paired_get' (i := i) (b := b) t (by simpa using e)
    exact ⟨u, by simpa using h1, h2⟩
theorem paired_len {α β : Type} {P : α → β → Prop} : ∀ {l : List α} {m : List β}, Paired P l m → l.length = m.length
  | _, _, .nil => rfl
  | _, _, .cons _ t => by rw [List.length_cons, List.length_cons, paired_len t]
theorem atI_rs {P : V → R → Prop} {xs : List V} {ds : List R} {i : Int} {d : R} (h : Paired P xs ds) (e : atI ds i = some d) : ∃ v, atI xs i = some v ∧ P v d := by
  unfold atI at e ⊢
  rw [← paired_len h] at e
  cases e1 : ixN xs.length i with
  | none => rw [e1] at e; cases e
  | some j =>
    rw [e1] at e
    exact paired_get' h e
theorem find_kv {P : V → R → Prop} {k : Key} {r : R} : ∀ {kws : List (Key × V)} {kvs : List (Key × R)}, Paired (fun (a : Key × V) (b : Key × R) => a.1 = b.1 ∧ P a.2 b.2) kws kvs → kvs.find? (fun kv => decide (kv.1 = k)) = some (k, r) → ∃ v, valV kws k = some v ∧ P v r
  | _, _, .nil, e => by simp at e
  | a :: as, b :: bs, .cons ⟨h1, h2⟩ t, e => by
    rw [List.find?_cons] at e
    by_cases hk : b.1 = k
    · rw [decide_eq_true hk] at e
      have e' : b = (k, r) := Option.some.inj e
      refine ⟨a.2, valV_pos (h1.trans hk), ?_⟩
      rw [e'] at h2; exact h2
    · rw [decide_eq_false hk] at e
      obtain ⟨v, e1, e2⟩ := find_kv t e
      exact ⟨v, by rw [valV_neg (fun z => hk (h1.symm.trans z))]; exact e1, e2⟩
def rDGet : R2 := fun x y H Q => ∃ a v, x = .ref a ∧ DGet H a y (some v) ∧ Q v H
theorem ix_dict {X : Cx} (hu : X.A.units + 1 < cLine) : IxR X rDGet := by
  intro value slice pins s σ H x y v u Q I rx ry h hs
  obtain ⟨a, w, rfl, g, q⟩ := h
  obtain rfl : v = Value.ref a := rx
  have hT := dict_typeIs I g
  unfold subscriptTail
  refine wpAny_bind ?_
  rw [getitemInPython_of_ne hT.not_modules]
  refine wpAny_bind (wpAny_specialOf hT PySem.F.slot_dict_getitem.lookup ?_)
  have fin : wpAny (model X.prog X.w) X.A (subscripted slice false (Value.ref a) u) (fun r s₃ => wpAny (model X.prog X.w) X.A (letTemporaryGo value (Value.ref a) r >>= fun _ => pure r) (EP X pins σ Q) X.xe s₃) X.xe s := by
    rw [hs]
    exact wpAny_operating (d_getItem hu I g ry fun w' s3 I3 rw' => wpAny_bind (wpAny_letTemporaryGo (wpAny_pure ⟨w, H, I3, rw', q⟩)))
  first
    | exact wpAny_pure (wpAny_bind fin)
    | exact wpAny_bind (wpAny_pure (wpAny_bind fin))
    | exact wpAny_bind fin
def rIxAll (K : Fg) : R2 := fun x y H Q => rIx K x y H Q ∨ rDGet x y H Q
theorem ix_all {X : Cx} (hu : X.A.units + 1 < cLine) : IxR X (rIxAll X.K) := ix_seq.or (ix_dict hu)
theorem zip_kv {P : V → R → Prop} : ∀ {ks : List Key} {vs : List V} {rs : List R}, Paired P vs rs → Paired (fun (a : Key × V) (b : Key × R) => a.1 = b.1 ∧ P a.2 b.2) (ks.zip vs) (ks.zip rs)
  | [], _, _, _ => .nil
  | _ :: _, _, _, .nil => .nil
  | _ :: _, _, _, .cons h t => .cons ⟨rfl, h⟩ (zip_kv t)
theorem opd_ix : OpD K (rIxAll K) fIx := by
  intro F x y a b H S L C Q o hx hy hf q
  replace hx := o.live _ hx
  replace hy := o.live _ hy
  unfold fIx at hf
  split at hf
  · obtain ⟨d, e, h⟩ := hf
    cases rep_int_inv hy
    cases hx with | lst h1 n1 q1 =>
    obtain ⟨v, e1, r1⟩ := atI_all q1 e
    exact .inl (.inl ⟨_, _, _, v, rfl, rfl, SqL.of h1, e1, q _ _ S H (o.pd r1) h⟩)
  · obtain ⟨d, e, h⟩ := hf
    cases rep_int_inv hy
    cases hx with | tup h1 q1 =>
    obtain ⟨v, e1, r1⟩ := atI_all q1 e
    exact .inl (.inr (.inl ⟨_, _, _, v, rfl, rfl, sqT_of (A := Av S) h1, e1, q _ _ S H (o.pd r1) h⟩))
  · obtain ⟨hl, c, e, h⟩ := hf
    cases rep_int_inv hy
    cases hx
    exact .inl (.inr (.inr ⟨_, _, c, rfl, rfl, big_of hl, e, q _ _ S H (o.pd (.str _)) h⟩))
  · rename_i ns i
    cases rep_int_inv hy
    obtain ⟨a, rfl, e⟩ := (show ∃ a, x = .ref a ∧ ScrAt K _ H a (ns.map V.int) from hx)
    obtain ⟨z, e1, h⟩ := hf
    exact .inl (.inl ⟨_, _, _, _, rfl, rfl, e.sq, atI_map V.int e1, q _ _ S H (o.pd (.int z)) h⟩)
  · rename_i rs i
    cases rep_int_inv hy
    obtain ⟨a, vs, rfl, h1, q1⟩ := (show ∃ a vs, x = .ref a ∧ (H a = some (.tup vs) ∨ KTup K a vs) ∧ RepRl K _ H vs rs from hx)
    obtain ⟨r, e1, h⟩ := hf
    obtain ⟨v, e2, r2⟩ := atI_rs q1.pair e1
    exact .inl (.inr (.inl ⟨_, _, _, v, rfl, rfl, sqT_of (A := Av S) h1, e2, q _ _ S H (o.push r2) h⟩))
  · rename_i p i
    cases rep_int_inv hy
    cases (show x = V.ref p from hx)
    rcases hf with ⟨j, xs, r, hj, e, h⟩ | ⟨j, kvs, r, hj, e, h⟩
    · obtain ⟨vs, e1, q1⟩ := o.cells _ (at_split (in_app hj))
      obtain ⟨v, e2, r2⟩ := atI_rs q1 e
      exact .inl (.inl ⟨_, _, _, v, rfl, rfl, SqL.of e1, e2, q _ _ S H (o.push r2) h⟩)
    · obtain ⟨vs, e1, q1⟩ := o.cells _ (at_split (in_app hj))
      obtain ⟨v, e2, r2⟩ := find_kv q1 e
      exact .inr ⟨_, v, rfl, by rw [← e2]; exact DGet.k (k := Sum.inl i) e1, q _ _ S H (o.push r2) h⟩
  · rename_i p z
    cases hy
    cases (show x = V.ref p from hx)
    obtain ⟨j, kvs, r, hj, e, h⟩ := hf
    obtain ⟨vs, e1, q1⟩ := o.cells _ (at_split (in_app hj))
    obtain ⟨v, e2, r2⟩ := find_kv q1 e
    exact .inr ⟨_, v, rfl, by rw [← e2]; exact DGet.k (k := Sum.inr z) e1, q _ _ S H (o.push r2) h⟩
  · rename_i ks rs z
    cases hy
    obtain ⟨a, vs, rfl, e1, _, el, q1⟩ := (show ∃ a vs, x = .ref a ∧ H a = some (.dK (ks.zip vs)) ∧ ¬ _ ∧ vs.length = ks.length ∧ RepRl K _ H vs rs from hx)
    obtain ⟨r, e, h⟩ := hf
    obtain ⟨v, e2, r2⟩ := find_kv (zip_kv q1.pair) e
    exact .inr ⟨_, v, rfl, by rw [← e2]; exact DGet.k (k := Sum.inr z) e1, q _ _ S H (o.push r2) h⟩
  · exact hf.elim

/-! ### slices -/
def cutD {α : Type} (xs : List α) (lo hi : Option Int) : List α := (xs.drop (HT.sIx xs.length 0 lo)).take (HT.sIx xs.length xs.length hi - HT.sIx xs.length 0 lo)
theorem cut_all {A : Addr → Prop} {H : Hp} {xs : List V} {ds : List PyData} (h : RepAll K A H xs ds) (lo hi : Option Int) : RepAll K A H (cutV xs lo hi) (cutD ds lo hi) := by
  unfold cutV cutD
  rw [← h.length]
  exact (h.drop _).take _
abbrev F1 := R → SH → CR0 → Prop
def fSl (lo hi : Option Int) : F1 := fun a S C => match a with
  | .dat (.list ds) => C (.dat (.list (cutD ds lo hi))) S
  | .dat (.tuple ds) => C (.dat (.tuple (cutD ds lo hi))) S
  | .dat (.str z) => z.length ≤ 100000 ∧ C (.dat (.str (cutS z lo hi))) S
  | _ => False
def dSl (f : Option Int → Option Int → F1) (da : DE) (dl dh : DO) : DE := fun fr S C => da fr S fun a S1 => dl fr S1 fun lo S2 => dh fr S2 fun hi S3 => f lo hi a S3 C
def SlD (K : Fg) (r : V → Option Int → Option Int → Hp → VK → Prop) (f : Option Int → Option Int → F1) : Prop := ∀ (F : SH) (x : V) (lo hi : Option Int) (a : R) (H : Hp) (S : SH) (L : Live) (C : CR0) (Q : VK), OkF K F H S L → (x, a) ∈ L → f lo hi a S C →
  (∀ v c S' H', OkF K F H' S' ((v, c) :: L) → C c S' → Q v H') → r x lo hi H Q
theorem lift_sl {r : V → Option Int → Option Int → Hp → VK → Prop} {f : Option Int → Option Int → F1} {ta : TE} {tl th : TO} {da : DE} {dl dh : DO} (h : SlD K r f) (la : Lift K ta da) (ll : LiftO K tl dl) (lh : LiftO K th dh) : Lift K (tSl r ta tl th) (dSl f da dl dh) := by
  intro F H σ fr S L fo o C Q hd q
  refine la F H σ fr S L fo o _ _ hd fun x a S1 H1 o1 h1 => ?_
  refine ll F H1 σ fr S1 _ (fo.mono tl_mem) o1 _ _ h1 fun lo S2 H2 o2 h2 => ?_
  refine lh F H2 σ fr S2 _ (fo.mono tl_mem) o2 _ _ h2 fun hi S3 H3 o3 h3 => ?_
  exact h F x lo hi a H3 S3 _ C Q o3 List.mem_cons_self h3 fun v c S4 H4 o4 h4 => q v c S4 H4 (o4.sub (sub_cons tl_mem)) h4
def rSlAll (K : Fg) : V → Option Int → Option Int → Hp → VK → Prop := fun x lo hi H Q => rSlL K x lo hi H Q ∨ rSlA K x lo hi H Q ∨ rSlS x lo hi H Q
theorem sl_all {X : Cx} : SlR X (rSlAll X.K) := sl_list.or (sl_tupA.or sl_str)
theorem cutD_whole {α : Type} {xs : List α} {lo hi : Option Int} (h : HT.sIx xs.length 0 lo = 0 ∧ HT.sIx xs.length xs.length hi = xs.length) : cutD xs lo hi = xs := by
  unfold cutD
  rw [h.1, h.2]
  simp
theorem sld_all : SlD K (rSlAll K) fSl := by
  intro F x lo hi a H S L C Q o hx hf q
  replace hx := o.live _ hx
  unfold fSl at hf
  split at hf
  · cases hx with | lst h1 n1 q1 =>
    exact .inl ⟨_, _, rfl, SqL.of h1, fun p hp => q _ _ S _ (o.lst hp (cut_all q1 lo hi)) hf⟩
  · cases hx with | tup h1 q1 =>
    refine .inr (.inl ⟨_, _, rfl, sqT_of (A := Av S) h1, fun w => ?_, fun _ p hp => q _ _ S _ (o.tup hp (cut_all q1 lo hi)) hf⟩)
    rw [q1.length] at w
    rw [cutD_whole w] at hf
    exact q _ _ S H (o.pd (.tup h1 q1)) hf
  · cases hx
    exact .inr (.inr ⟨_, rfl, big_of hf.1, q _ _ S H (o.pd (.str _)) hf.2⟩)
  · exact hf.elim
def dNoPart : DO := fun _ S C => C none S
def dPart (d : DE) : DO := fun fr S C => d fr S fun a S1 => match a with
  | .dat (.int i) => C (some i) S1
  | _ => False
theorem lift_noPart : LiftO K tNoPart dNoPart := fun F H σ fr S L fo o C Q hd q => q none S H o hd
theorem lift_part {ta : TE} {da : DE} (la : Lift K ta da) : LiftO K (tPart ta) (dPart da) := by
  intro F H σ fr S L fo o C Q hd q
  refine la F H σ fr S L fo o _ _ hd fun x a S1 H1 o1 h1 => ?_
  split at h1
  · rename_i i
    cases rep_int_inv (o1.dat List.mem_cons_self)
    exact ⟨i, rfl, q _ S1 H1 (o1.sub tl_mem) h1⟩
  · exact h1.elim

/-! ### calls of built-ins by values -/
abbrev FA := List R → SH → CR0 → Prop
def CallD (K : Fg) (r : List V → Hp → VK → Prop) (f : FA) : Prop := ∀ (F : SH) (vs : List V) (rs : List R) (H : Hp) (S : SH) (L : Live) (C : CR0) (Q : VK), OkF K F H S L → Lives L vs rs → f rs S C →
  (∀ v c S' H', OkF K F H' S' ((v, c) :: L) → C c S' → Q v H') → r vs H Q
def dCB (f : FA) (da : DA) : DE := fun fr S C => da fr S fun rs S1 => f rs S1 C
theorem lift_cb {r : List V → Hp → VK → Prop} {f : FA} {ta : TA} {da : DA} (h : CallD K r f) (la : LiftA K ta da) : Lift K (tCB r ta) (dCB f da) := by
  intro F H σ fr S L fo o C Q hd q
  refine la F H σ fr S L fo o _ _ hd fun vs rs S1 H1 L1 o1 hs lv h1 => ?_
  exact h F vs rs H1 S1 L1 C Q o1 lv h1 fun v c S2 H2 o2 h2 => q v c S2 H2 (o2.sub (sub_cons hs)) h2
def dNil : DA := fun _ S C => C [] S
def dCons (d : DE) (da : DA) : DA := fun fr S C => d fr S fun a S1 => da fr S1 fun rs S2 => C (a :: rs) S2
theorem lift_nil : LiftA K tNil dNil := fun F H σ fr S L fo o C Q hd q => q [] [] S H L o (fun _ h => h) .nil hd
theorem lift_cons {te : TE} {de : DE} {ta : TA} {da : DA} (l : Lift K te de) (la : LiftA K ta da) : LiftA K (tCons te ta) (dCons de da) := by
  intro F H σ fr S L fo o C Q hd q
  refine l F H σ fr S L fo o _ _ hd fun x a S1 H1 o1 h1 => ?_
  refine la F H1 σ fr S1 _ (fo.mono tl_mem) o1 _ _ h1 fun vs rs S2 H2 L2 o2 hs lv h2 => ?_
  exact q (x :: vs) (a :: rs) S2 H2 L2 o2 (fun e he => hs e (List.mem_cons_of_mem _ he)) (.cons (hs _ List.mem_cons_self) lv) h2
/-! ### displays -/
def dTup (da : DA) : DE := fun fr S C => da fr S fun rs S1 => rs.length ≤ 100000 ∧ ∃ ds, dats rs = some ds ∧ C (.dat (.tuple ds)) S1
def dLst (da : DA) : DE := fun fr S C => da fr S fun rs S1 => rs.length ≤ 100000 ∧ ∃ ds, dats rs = some ds ∧ C (.dat (.list ds)) S1
def dLstC (da : DA) : DE := fun fr S C => da fr S fun rs S1 => rs.length ≤ 100000 ∧ ∀ p, C (.val (.ref p)) (.lst p rs :: S1)
def dTp (da : DA) : DE := fun fr S C => da fr S fun rs S1 => rs.length ≤ 100000 ∧ C (.tp rs) S1
theorem lift_tp {ta : TA} {da : DA} (la : LiftA K ta da) : Lift K (tTup ta) (dTp da) := by
  intro F H σ fr S L fo o C Q hd q
  refine la F H σ fr S L fo o _ _ hd fun vs rs S1 H1 L1 o1 hs lv h1 => ?_
  obtain ⟨hl, h⟩ := h1
  exact ⟨by rw [paired_len lv]; exact big_of hl, fun p hp => q _ _ S1 _ ((Ok.push (r := .tp rs) (o1.new hp) ⟨p, vs, rfl, .inl upd_same, RepRl.of ((o1.reps lv).stp (stp_new hp))⟩).sub (sub_cons hs)) h⟩
theorem lift_tup {ta : TA} {da : DA} (la : LiftA K ta da) : Lift K (tTup ta) (dTup da) := by
  intro F H σ fr S L fo o C Q hd q
  refine la F H σ fr S L fo o _ _ hd fun vs rs S1 H1 L1 o1 hs lv h1 => ?_
  obtain ⟨hl, ds, e, h⟩ := h1
  exact ⟨by rw [paired_len lv]; exact big_of hl, fun p hp => q _ _ S1 _ ((o1.tup hp (o1.all lv e)).sub (sub_cons hs)) h⟩
theorem lift_lst {ta : TA} {da : DA} (la : LiftA K ta da) : Lift K (tLst ta) (dLst da) := by
  intro F H σ fr S L fo o C Q hd q
  refine la F H σ fr S L fo o _ _ hd fun vs rs S1 H1 L1 o1 hs lv h1 => ?_
  obtain ⟨hl, ds, e, h⟩ := h1
  exact ⟨by rw [paired_len lv]; exact big_of hl, fun p hp => q _ _ S1 _ ((o1.lst hp (o1.all lv e)).sub (sub_cons hs)) h⟩
theorem lift_lstC {ta : TA} {da : DA} (la : LiftA K ta da) : Lift K (tLst ta) (dLstC da) := by
  intro F H σ fr S L fo o C Q hd q
  refine la F H σ fr S L fo o _ _ hd fun vs rs S1 H1 L1 o1 hs lv h1 => ?_
  obtain ⟨hl, h⟩ := h1
  refine ⟨by rw [paired_len lv]; exact big_of hl, fun p hp => q _ _ (.lst p rs :: S1) _ (((Ok.push (r := .val (.ref p)) (o1.lstC hp (o1.reps lv)) rfl)).sub (sub_cons hs)) (h p)⟩
/-! ### tests -/
def dTest (d : DE) : DT := fun fr S C => d fr S fun a S1 => match a with
  | .dat (.bool k) => C k S1
  | _ => False
theorem lift_test {t : TE} {d : DE} (l : Lift K t d) : LiftT K (tTest t) (dTest d) := by
  intro F H σ fr S L fo o C Q hd q
  refine l F H σ fr S L fo o _ _ hd fun x a S1 H1 o1 h1 => ?_
  split at h1
  · rename_i k
    have e : x = .bl k := by cases (o1.dat List.mem_cons_self); rfl
    exact ⟨k, e, q k S1 H1 (o1.sub tl_mem) h1⟩
  · exact h1.elim
theorem lift_testB {t : TE} {d : DE} (l : Lift K t d) : LiftT K (tB t) (dTest d) := lift_test l
def dAnd (t u : DT) : DT := fun fr S C => t fr S fun c S1 => if c = true then u fr S1 C else C false S1
def dOr (t u : DT) : DT := fun fr S C => t fr S fun c S1 => if c = true then C true S1 else u fr S1 C
def dNot (t : DT) : DT := fun fr S C => t fr S fun c S1 => C (!c) S1
theorem lift_and {t u : TT} {dt du : DT} (l : LiftT K t dt) (l2 : LiftT K u du) : LiftT K (tAnd t u) (dAnd dt du) := by
  intro F H σ fr S L fo o C Q hd q
  refine l F H σ fr S L fo o _ _ hd fun c S1 H1 o1 h1 => ?_
  cases c with
  | true => exact l2 F H1 σ fr S1 L fo o1 C Q h1 q
  | false => exact q false S1 H1 o1 h1
theorem lift_or {t u : TT} {dt du : DT} (l : LiftT K t dt) (l2 : LiftT K u du) : LiftT K (tOr t u) (dOr dt du) := by
  intro F H σ fr S L fo o C Q hd q
  refine l F H σ fr S L fo o _ _ hd fun c S1 H1 o1 h1 => ?_
  cases c with
  | true => exact q true S1 H1 o1 h1
  | false => exact l2 F H1 σ fr S1 L fo o1 C Q h1 q
theorem lift_not {t : TT} {dt : DT} (l : LiftT K t dt) : LiftT K (tNot t) (dNot dt) := by
  intro F H σ fr S L fo o C Q hd q
  exact l F H σ fr S L fo o _ _ hd fun c S1 H1 o1 h1 => q (!c) S1 H1 o1 h1
/-- .. as values -/
def dAndV (a b : DE) : DE := fun fr S C => a fr S fun x S1 => match x with
  | .dat (.bool c) => if c = true then b fr S1 C else C (.dat (.bool false)) S1
  | _ => False
def dOrV (a b : DE) : DE := fun fr S C => a fr S fun x S1 => match x with
  | .dat (.bool c) => if c = true then C (.dat (.bool true)) S1 else b fr S1 C
  | _ => False
def dNotV (a : DE) : DE := fun fr S C => a fr S fun x S1 => match x with
  | .dat (.bool c) => C (.dat (.bool (!c))) S1
  | _ => False
theorem rep_bool_inv {A : Addr → Prop} {H : Hp} {v : V} {i : Bool} (h : Rep K A H v (.bool i)) : v = .bl i := by cases h; rfl
theorem lift_andV {ta tb : TE} {da db : DE} (la : Lift K ta da) (lb : Lift K tb db) : Lift K (tAndV ta tb) (dAndV da db) := by
  intro F H σ fr S L fo o C Q hd q
  refine la F H σ fr S L fo o _ _ hd fun x a S1 H1 o1 h1 => ?_
  split at h1
  · rename_i c
    refine ⟨c, rep_bool_inv (o1.dat List.mem_cons_self), ?_⟩
    cases c with
    | true => exact lb F H1 σ fr S1 L fo (o1.sub tl_mem) C Q h1 q
    | false => exact q _ _ S1 H1 ((o1.sub tl_mem).pd (.bl _)) h1
  · exact h1.elim
theorem lift_orV {ta tb : TE} {da db : DE} (la : Lift K ta da) (lb : Lift K tb db) : Lift K (tOrV ta tb) (dOrV da db) := by
  intro F H σ fr S L fo o C Q hd q
  refine la F H σ fr S L fo o _ _ hd fun x a S1 H1 o1 h1 => ?_
  split at h1
  · rename_i c
    refine ⟨c, rep_bool_inv (o1.dat List.mem_cons_self), ?_⟩
    cases c with
    | false => exact lb F H1 σ fr S1 L fo (o1.sub tl_mem) C Q h1 q
    | true => exact q _ _ S1 H1 ((o1.sub tl_mem).pd (.bl _)) h1
  · exact h1.elim
theorem lift_notV {ta : TE} {da : DE} (la : Lift K ta da) : Lift K (tNotV ta) (dNotV da) := by
  intro F H σ fr S L fo o C Q hd q
  refine la F H σ fr S L fo o _ _ hd fun x a S1 H1 o1 h1 => ?_
  split at h1
  · rename_i c
    exact ⟨c, rep_bool_inv (o1.dat List.mem_cons_self), q _ _ S1 H1 ((o1.sub tl_mem).pd (.bl _)) h1⟩
  · exact h1.elim
def dIf (t : DT) (a b : DE) : DE := fun fr S C => t fr S fun c S1 => if c = true then a fr S1 C else b fr S1 C
theorem lift_if {t : TT} {dt : DT} {ta tb : TE} {da db : DE} (l : LiftT K t dt) (la : Lift K ta da) (lb : Lift K tb db) : Lift K (tIf t ta tb) (dIf dt da db) := by
  intro F H σ fr S L fo o C Q hd q
  refine l F H σ fr S L fo o _ _ hd fun c S1 H1 o1 h1 => ?_
  cases c with
  | true => exact la F H1 σ fr S1 L fo o1 C Q h1 q
  | false => exact lb F H1 σ fr S1 L fo o1 C Q h1 q
/-- a < b < c -/
def dChain (f g : F2) (da db dc : DE) : DE := fun fr S C => da fr S fun a S1 => db fr S1 fun b S2 => f a b S2 fun z S3 => match z with
  | .dat (.bool k) => if k = true then dc fr S3 fun c S4 => g b c S4 C else C (.dat (.bool false)) S3
  | _ => False
theorem lift_chain {r r' : R2} {f g : F2} {ta tb tc : TE} {da db dc : DE} (h : OpD K r f) (h' : OpD K r' g) (la : Lift K ta da) (lb : Lift K tb db) (lc : Lift K tc dc) : Lift K (tChain r r' ta tb tc) (dChain f g da db dc) := by
  intro F H σ fr S L fo o C Q hd q
  refine la F H σ fr S L fo o _ _ hd fun x a S1 H1 o1 h1 => ?_
  refine lb F H1 σ fr S1 _ (fo.mono tl_mem) o1 _ _ h1 fun y b S2 H2 o2 h2 => ?_
  refine h F x y a b H2 S2 _ _ _ o2 (List.mem_cons_of_mem _ List.mem_cons_self) List.mem_cons_self h2 fun z c S3 H3 o3 h3 => ?_
  have o3' := o3.sub tl_mem
  split at h3
  · rename_i k
    refine ⟨k, rep_bool_inv (o3.dat List.mem_cons_self), ?_⟩
    cases k with
    | false => exact q _ _ S3 H3 ((o3'.pd (.bl false)).sub (sub_cons fun e he => List.mem_cons_of_mem _ (List.mem_cons_of_mem _ he))) h3
    | true =>
      refine lc F H3 σ fr S3 _ (fo.mono fun e he => List.mem_cons_of_mem _ (List.mem_cons_of_mem _ he)) o3' _ _ h3 fun w d S4 H4 o4 h4 => ?_
      exact h' F y w b d H4 S4 _ C Q o4 (List.mem_cons_of_mem _ List.mem_cons_self) List.mem_cons_self h4 fun v e S5 H5 o5 h5 =>
        q v e S5 H5 (o5.sub (sub_cons fun e he => List.mem_cons_of_mem _ (List.mem_cons_of_mem _ (List.mem_cons_of_mem _ he)))) h5
  · exact h3.elim
end

/-! ### the rules -/
section
variable {X : Cx} {a b c e f : Expr} {da db dc de df : DE} {dA : DA} {dt du : DT} {dl dh : DO} {pos : Pos} {es : List Expr}
theorem dv (i : Nat) {x : Str} {pos : Pos} (hN : X.N[i]? = some x := by rfl) (hv : Vis X.env.scope x := by first | exact Or.inl rfl | exact Or.inr (Or.inl rfl) | exact Or.inr (Or.inr rfl)) (hd : (x == ("__debug__" : Str)) = false := by decide)
    (hcd : (x == ("__classdict__" : Str)) = false := by decide) : PD X (.Name x pos) (dVar i) := ⟨_, pe_var hN hv hd hcd, lift_var i⟩
theorem d_int {i : Int} {j : Nat} : PD X (.Constant (.int i) j pos) (dC (.dat (.int i))) := ⟨_, pe_int, lift_c fun _ _ => .int i⟩
theorem d_bl {i : Bool} {j : Nat} : PD X (.Constant (.bool i) j pos) (dC (.dat (.bool i))) := ⟨_, pe_bl, lift_c fun _ _ => .bl i⟩
theorem d_non {j : Nat} : PD X (.Constant .none j pos) (dC (.dat .none)) := ⟨_, pe_non, lift_c fun _ _ => .non⟩
theorem d_str {i : Str} {j : Nat} : PD X (.Constant (.str i) j pos) (dC (.dat (.str i))) := ⟨_, pe_str, lift_c fun _ _ => .str i⟩
/-- a module's constant -/
theorem d_globI {x : Str} {i : Int} {t : Tok} (hg : Gl X x) (hm : X.mg x = some (.int i t)) (hd : (x == ("__debug__" : Str)) = false := by decide) : PD X (.Name x pos) (dC (.dat (.int i))) := ⟨_, pe_glob (v := .int i) hg hm ⟨_, rfl⟩ hd, lift_c fun _ _ => .int i⟩
theorem d_globS {x : Str} {i : Str} {t : Tok} (hg : Gl X x) (hm : X.mg x = some (.str i t)) (hd : (x == ("__debug__" : Str)) = false := by decide) : PD X (.Name x pos) (dC (.dat (.str i))) := ⟨_, pe_glob (v := .str i) hg hm ⟨_, rfl⟩ hd, lift_c fun _ _ => .str i⟩
theorem d_globV {x : Str} {v : V} {u : Value} (hg : Gl X x) (hm : X.mg x = some u) (r : RelV v u) (hd : (x == ("__debug__" : Str)) = false := by decide) : PD X (.Name x pos) (dC (.val v)) := ⟨_, pe_glob hg hm r hd, lift_c fun _ _ => rfl⟩
theorem d_bltn {x : Str} {v : V} {u : Value} (hg : Gl X x) (hm : X.mg x = none) (hv : bootBuiltins x = some u) (r : RelV v u) (hn : x ≠ "__name__" := by decide) (hd : (x == ("__debug__" : Str)) = false := by decide) : PD X (.Name x pos) (dC (.val v)) := ⟨_, pe_bltn hg hm hv r hn hd, lift_c fun _ _ => rfl⟩
theorem d_opG {op : Operator} {r : R2} {f : F2} (ho : OpR X (binaryOp op) r) (hd : OpD X.K r f) (ha : PD X a da) (hb : PD X b db) : PD X (.BinOp a op b pos) (dOp f da db) := by
  obtain ⟨_, pa, la⟩ := ha.ex
  obtain ⟨_, pb, lb⟩ := hb.ex
  exact ⟨_, pe_op ho pa pb, lift_op hd la lb⟩
theorem d_add (ha : PD X a da) (hb : PD X b db) : PD X (.BinOp a .Add b pos) (dOp fAdd da db) := d_opG op_addAll opd_add ha hb
theorem d_sub (ha : PD X a da) (hb : PD X b db) : PD X (.BinOp a .Sub b pos) (dOp (fI0 fun i j => .int (i - j)) da db) := d_opG op_sub (opd_I0 fun _ _ _ _ => .int _) ha hb
theorem d_mul (ha : PD X a da) (hb : PD X b db) : PD X (.BinOp a .Mult b pos) (dOp fMul da db) := d_opG op_mulAll opd_mul ha hb
theorem d_mulC (ha : PD X a da) (hb : PD X b db) : PD X (.BinOp a .Mult b pos) (dOp fMulC da db) := d_opG op_mulAll opd_mulC ha hb
theorem d_mod (ha : PD X a da) (hb : PD X b db) : PD X (.BinOp a .Mod b pos) (dOp (fI (fun _ j => 0 < j) fun i j => .int (i % j)) da db) := d_opG op_mod (opd_I (fun _ _ h => h) fun _ _ _ _ => .int _) ha hb
theorem d_fdiv (ha : PD X a da) (hb : PD X b db) : PD X (.BinOp a .FloorDiv b pos) (dOp (fI CDivW fun i j => .int (i / j)) da db) := d_opG op_fdivW (opd_I (fun _ _ h => h) fun _ _ _ _ => .int _) ha hb
theorem d_pow (ha : PD X a da) (hb : PD X b db) : PD X (.BinOp a .Pow b pos) (dOp (fI CPow fun i j => .int (i ^ j.toNat)) da db) := d_opG op_pow (opd_I (fun _ _ h => h) fun _ _ _ _ => .int _) ha hb
def fNeg : F1 := fun a S C => match a with
  | .dat (.int i) => C (.dat (.int (-i))) S
  | _ => False
def dUn (f : F1) (da : DE) : DE := fun fr S C => da fr S fun a S1 => f a S1 C
theorem d_neg (ha : PD X a da) : PD X (.UnaryOp .USub a pos) (dUn fNeg da) := by
  obtain ⟨_, pa, la⟩ := ha.ex
  refine ⟨_, pe_un un_neg pa, ?_⟩
  intro F H σ fr S L fo o C Q hd q
  refine la F H σ fr S L fo o _ _ hd fun x a S1 H1 o1 h1 => ?_
  unfold fNeg at h1
  split at h1
  · cases rep_int_inv (o1.dat List.mem_cons_self)
    exact ⟨_, rfl, q _ _ S1 H1 ((o1.sub tl_mem).pd (.int _)) h1⟩
  · exact h1.elim
/-! comparisons -/
theorem d_cmpG {op : CmpOp} {r : R2} {f : F2} (ho : OpR X (compareOp op) r) (hd : OpD X.K r f) (ha : PD X a da) (hb : PD X b db) (hm : behindInMarks op b = false) : PD X (.Compare a [op] [b] pos) (dOp f da db) := by
  obtain ⟨_, pa, la⟩ := ha.ex
  obtain ⟨_, pb, lb⟩ := hb.ex
  exact ⟨_, pe_cmpR ho pa pb hm, lift_op hd la lb⟩
theorem t_cmpG {op : CmpOp} {r : R2} {f : F2} (ho : OpR X (compareOp op) r) (hd : OpD X.K r f) (ha : PD X a da) (hb : PD X b db) (hm : behindInMarks op b = false) : PDT X (.Compare a [op] [b] pos) (dTest (dOp f da db)) := by
  obtain ⟨_, pa, la⟩ := ha.ex
  obtain ⟨_, pb, lb⟩ := hb.ex
  exact ⟨_, pt_cmpR ho pa pb hm, lift_test (lift_op hd la lb)⟩
abbrev fLt : F2 := fI0 fun i j => .bool (decide (i < j))
abbrev fLe : F2 := fI0 fun i j => .bool (decide (i ≤ j))
abbrev fGt : F2 := fI0 fun i j => .bool (decide (j < i))
abbrev fGe : F2 := fI0 fun i j => .bool (decide (j ≤ i))
theorem opd_lt {K : Fg} : OpD K (rI0 fun i j => .bl (decide (i < j))) fLt := opd_I0 fun _ _ _ _ => .bl _
theorem opd_le {K : Fg} : OpD K (rI0 fun i j => .bl (decide (i ≤ j))) fLe := opd_I0 fun _ _ _ _ => .bl _
theorem opd_gt {K : Fg} : OpD K (rI0 fun i j => .bl (decide (j < i))) fGt := opd_I0 fun _ _ _ _ => .bl _
theorem opd_ge {K : Fg} : OpD K (rI0 fun i j => .bl (decide (j ≤ i))) fGe := opd_I0 fun _ _ _ _ => .bl _
theorem d_lt (ha : PD X a da) (hb : PD X b db) : PD X (.Compare a [.Lt] [b] pos) (dOp fLt da db) := d_cmpG op_lt opd_lt ha hb (nomark _)
theorem d_le (ha : PD X a da) (hb : PD X b db) : PD X (.Compare a [.LtE] [b] pos) (dOp fLe da db) := d_cmpG op_le opd_le ha hb (nomark _)
theorem d_gt (ha : PD X a da) (hb : PD X b db) : PD X (.Compare a [.Gt] [b] pos) (dOp fGt da db) := d_cmpG op_gt opd_gt ha hb (nomark _)
theorem d_ge (ha : PD X a da) (hb : PD X b db) : PD X (.Compare a [.GtE] [b] pos) (dOp fGe da db) := d_cmpG op_ge opd_ge ha hb (nomark _)
theorem d_eq (hu : X.A.units + 64 < cLine) (ha : PD X a da) (hb : PD X b db) : PD X (.Compare a [.Eq] [b] pos) (dOp fEq da db) := d_cmpG (op_eqAll hu) opd_eq ha hb (nomark _)
theorem d_ne (hu : X.A.units + 64 < cLine) (ha : PD X a da) (hb : PD X b db) : PD X (.Compare a [.NotEq] [b] pos) (dOp fNe da db) := d_cmpG (op_neAll hu) opd_ne ha hb (nomark _)
theorem d_isN (ha : PD X a da) (hb : PD X b db) : PD X (.Compare a [.Is] [b] pos) (dOp fIsN da db) := d_cmpG op_isN opd_isN ha hb (nomark _)
theorem d_notN (ha : PD X a da) (hb : PD X b db) : PD X (.Compare a [.IsNot] [b] pos) (dOp fNotN da db) := d_cmpG op_notN opd_notN ha hb (nomark _)
theorem d_in (ha : PD X a da) (hb : PD X b db) (hm : behindInMarks .In b = false := by rfl) : PD X (.Compare a [.In] [b] pos) (dOp (fIn false) da db) := d_cmpG op_in_seq opd_in ha hb hm
theorem d_notIn (ha : PD X a da) (hb : PD X b db) (hm : behindInMarks .NotIn b = false := by rfl) : PD X (.Compare a [.NotIn] [b] pos) (dOp (fIn true) da db) := d_cmpG op_notIn_seq opd_in ha hb hm
theorem t_lt (ha : PD X a da) (hb : PD X b db) : PDT X (.Compare a [.Lt] [b] pos) (dTest (dOp fLt da db)) := t_cmpG op_lt opd_lt ha hb (nomark _)
theorem t_le (ha : PD X a da) (hb : PD X b db) : PDT X (.Compare a [.LtE] [b] pos) (dTest (dOp fLe da db)) := t_cmpG op_le opd_le ha hb (nomark _)
theorem t_gt (ha : PD X a da) (hb : PD X b db) : PDT X (.Compare a [.Gt] [b] pos) (dTest (dOp fGt da db)) := t_cmpG op_gt opd_gt ha hb (nomark _)
theorem t_ge (ha : PD X a da) (hb : PD X b db) : PDT X (.Compare a [.GtE] [b] pos) (dTest (dOp fGe da db)) := t_cmpG op_ge opd_ge ha hb (nomark _)
theorem t_eq (hu : X.A.units + 64 < cLine) (ha : PD X a da) (hb : PD X b db) : PDT X (.Compare a [.Eq] [b] pos) (dTest (dOp fEq da db)) := t_cmpG (op_eqAll hu) opd_eq ha hb (nomark _)
theorem t_ne (hu : X.A.units + 64 < cLine) (ha : PD X a da) (hb : PD X b db) : PDT X (.Compare a [.NotEq] [b] pos) (dTest (dOp fNe da db)) := t_cmpG (op_neAll hu) opd_ne ha hb (nomark _)
theorem t_isN (ha : PD X a da) (hb : PD X b db) : PDT X (.Compare a [.Is] [b] pos) (dTest (dOp fIsN da db)) := t_cmpG op_isN opd_isN ha hb (nomark _)
theorem t_notN (ha : PD X a da) (hb : PD X b db) : PDT X (.Compare a [.IsNot] [b] pos) (dTest (dOp fNotN da db)) := t_cmpG op_notN opd_notN ha hb (nomark _)
theorem t_in (ha : PD X a da) (hb : PD X b db) (hm : behindInMarks .In b = false := by rfl) : PDT X (.Compare a [.In] [b] pos) (dTest (dOp (fIn false) da db)) := t_cmpG op_in_seq opd_in ha hb hm
theorem t_notIn (ha : PD X a da) (hb : PD X b db) (hm : behindInMarks .NotIn b = false := by rfl) : PDT X (.Compare a [.NotIn] [b] pos) (dTest (dOp (fIn true) da db)) := t_cmpG op_notIn_seq opd_in ha hb hm
theorem d_leLe (ha : PD X a da) (hb : PD X b db) (hc : PD X c dc) (hm : lastMarks [.LtE, .LtE] [b, c] = false := by with_unfolding_all rfl) : PD X (.Compare a [.LtE, .LtE] [b, c] pos) (dChain fLe fLe da db dc) := by
  obtain ⟨_, pa, la⟩ := ha.ex
  obtain ⟨_, pb, lb⟩ := hb.ex
  obtain ⟨_, pc, lc⟩ := hc.ex
  exact ⟨_, pe_chain op_le op_le pa pb pc hm, lift_chain opd_le opd_le la lb lc⟩
theorem d_leLt (ha : PD X a da) (hb : PD X b db) (hc : PD X c dc) (hm : lastMarks [.LtE, .Lt] [b, c] = false := by with_unfolding_all rfl) : PD X (.Compare a [.LtE, .Lt] [b, c] pos) (dChain fLe fLt da db dc) := by
  obtain ⟨_, pa, la⟩ := ha.ex
  obtain ⟨_, pb, lb⟩ := hb.ex
  obtain ⟨_, pc, lc⟩ := hc.ex
  exact ⟨_, pe_chain op_le op_lt pa pb pc hm, lift_chain opd_le opd_lt la lb lc⟩
theorem t_leLe (ha : PD X a da) (hb : PD X b db) (hc : PD X c dc) (hm : lastMarks [.LtE, .LtE] [b, c] = false := by with_unfolding_all rfl) : PDT X (.Compare a [.LtE, .LtE] [b, c] pos) (dTest (dChain fLe fLe da db dc)) := by
  obtain ⟨_, pa, la⟩ := ha.ex
  obtain ⟨_, pb, lb⟩ := hb.ex
  obtain ⟨_, pc, lc⟩ := hc.ex
  exact ⟨_, pt_chain op_le op_le pa pb pc hm, lift_test (lift_chain opd_le opd_le la lb lc)⟩
theorem t_leLt (ha : PD X a da) (hb : PD X b db) (hc : PD X c dc) (hm : lastMarks [.LtE, .Lt] [b, c] = false := by with_unfolding_all rfl) : PDT X (.Compare a [.LtE, .Lt] [b, c] pos) (dTest (dChain fLe fLt da db dc)) := by
  obtain ⟨_, pa, la⟩ := ha.ex
  obtain ⟨_, pb, lb⟩ := hb.ex
  obtain ⟨_, pc, lc⟩ := hc.ex
  exact ⟨_, pt_chain op_le op_lt pa pb pc hm, lift_test (lift_chain opd_le opd_lt la lb lc)⟩
theorem t_ltLe (ha : PD X a da) (hb : PD X b db) (hc : PD X c dc) (hm : lastMarks [.Lt, .LtE] [b, c] = false := by with_unfolding_all rfl) : PDT X (.Compare a [.Lt, .LtE] [b, c] pos) (dTest (dChain fLt fLe da db dc)) := by
  obtain ⟨_, pa, la⟩ := ha.ex
  obtain ⟨_, pb, lb⟩ := hb.ex
  obtain ⟨_, pc, lc⟩ := hc.ex
  exact ⟨_, pt_chain op_lt op_le pa pb pc hm, lift_test (lift_chain opd_lt opd_le la lb lc)⟩
/-! tests -/
theorem t_val (h : PD X e de) (he : ∀ whole, isTrue e X.env whole = (do let v ← whole; standAt e.pos; holding [v] (truthy v)) := by intro _; rfl) : PDT X e (dTest de) := by
  obtain ⟨_, p, l⟩ := h.ex
  exact ⟨_, pt_val p he, lift_testB l⟩
theorem PDW.pt (h : PDW X e dt) : PDT X e dt := by
  obtain ⟨_, p, l⟩ := h.ex
  exact ⟨_, p.pt, l⟩
theorem w_and1 (ha : PDT X a dt) : PDW X (.BoolOp .And [a] pos) dt := by
  obtain ⟨_, p, l⟩ := ha.ex
  exact ⟨_, pw_and1 p, l⟩
theorem w_or1 (ha : PDT X a dt) : PDW X (.BoolOp .Or [a] pos) dt := by
  obtain ⟨_, p, l⟩ := ha.ex
  exact ⟨_, pw_or1 p, l⟩
theorem w_and {rest : List Expr} (ha : PDT X a dt) (hb : PDW X (.BoolOp .And (b :: rest) pos) du) : PDW X (.BoolOp .And (a :: b :: rest) pos) (dAnd dt du) := by
  obtain ⟨_, p, l⟩ := ha.ex
  obtain ⟨_, p2, l2⟩ := hb.ex
  exact ⟨_, pw_and p p2, lift_and l l2⟩
theorem w_or {rest : List Expr} (ha : PDT X a dt) (hb : PDW X (.BoolOp .Or (b :: rest) pos) du) : PDW X (.BoolOp .Or (a :: b :: rest) pos) (dOr dt du) := by
  obtain ⟨_, p, l⟩ := ha.ex
  obtain ⟨_, p2, l2⟩ := hb.ex
  exact ⟨_, pw_or p p2, lift_or l l2⟩
theorem t_not (ha : PDT X a dt) : PDT X (.UnaryOp .Not a pos) (dNot dt) := by
  obtain ⟨_, p, l⟩ := ha.ex
  exact ⟨_, pt_not p, lift_not l⟩
theorem d_one {op : BoolOp} (ha : PD X a da) : PD X (.BoolOp op [a] pos) da := by
  obtain ⟨_, p, l⟩ := ha.ex
  exact ⟨_, pe_one p, l⟩
theorem d_and {rest : List Expr} (ha : PD X a da) (hb : PD X (.BoolOp .And (b :: rest) pos) db) : PD X (.BoolOp .And (a :: b :: rest) pos) (dAndV da db) := by
  obtain ⟨_, p, l⟩ := ha.ex
  obtain ⟨_, p2, l2⟩ := hb.ex
  exact ⟨_, pe_and p p2, lift_andV l l2⟩
theorem d_or {rest : List Expr} (ha : PD X a da) (hb : PD X (.BoolOp .Or (b :: rest) pos) db) : PD X (.BoolOp .Or (a :: b :: rest) pos) (dOrV da db) := by
  obtain ⟨_, p, l⟩ := ha.ex
  obtain ⟨_, p2, l2⟩ := hb.ex
  exact ⟨_, pe_or p p2, lift_orV l l2⟩
theorem d_not (ha : PD X a da) : PD X (.UnaryOp .Not a pos) (dNotV da) := by
  obtain ⟨_, p, l⟩ := ha.ex
  exact ⟨_, pe_not p, lift_notV l⟩
theorem d_if (hc : PDT X c dt) (ha : PD X a da) (hb : PD X b db) : PD X (.IfExp c a b pos) (dIf dt da db) := by
  obtain ⟨_, p, l⟩ := hc.ex
  obtain ⟨_, pa, la⟩ := ha.ex
  obtain ⟨_, pb, lb⟩ := hb.ex
  exact ⟨_, pe_ifExp p pa pb, lift_if l la lb⟩
/-! subscripts, slices, displays -/
theorem d_ix (hu : X.A.units + 1 < cLine) (ha : PD X a da) (hb : PD X b db) (hs : PlainIx b := by exact fun _ _ => rfl) : PD X (.Subscript a b pos) (dOp fIx da db) := by
  obtain ⟨_, pa, la⟩ := ha.ex
  obtain ⟨_, pb, lb⟩ := hb.ex
  exact ⟨_, pe_ix (ix_all hu) pa pb hs, lift_op opd_ix la lb⟩
theorem o_none : PDO X none dNoPart := ⟨_, po_none, lift_noPart⟩
theorem o_some (h : PD X e de) : PDO X (some e) (dPart de) := by
  obtain ⟨_, p, l⟩ := h.ex
  exact ⟨_, po_some p, lift_part l⟩
theorem d_slice {lo hi : Option Expr} {p2 : Pos} (ha : PD X a da) (hl : PDO X lo dl) (hh : PDO X hi dh) : PD X (.Subscript a (.Slice lo hi none p2) pos) (dSl fSl da dl dh) := by
  obtain ⟨_, p, l⟩ := ha.ex
  obtain ⟨_, p2, l2⟩ := hl.ex
  obtain ⟨_, p3, l3⟩ := hh.ex
  exact ⟨_, pe_slice sl_all p p2 p3, lift_sl sld_all l l2 l3⟩
theorem a_nil : PDA X [] dNil := ⟨_, pa_nil, lift_nil⟩
theorem a_cons (h : PD X e de) (hr : PDA X es dA) (hs : starEach (e :: es) X.env = (false, eval e X.env) :: starEach es X.env := by rfl) : PDA X (e :: es) (dCons de dA) := by
  obtain ⟨_, p, l⟩ := h.ex
  obtain ⟨_, p2, l2⟩ := hr.ex
  exact ⟨_, pa_cons p p2 hs, lift_cons l l2⟩
theorem d_tup {x1} (h : PDA X es dA) : PD X (.Tuple es x1 pos) (dTup dA) := by
  obtain ⟨_, p, l⟩ := h.ex
  exact ⟨_, pe_tup p, lift_tup l⟩
theorem d_tp {x1} (h : PDA X es dA) : PD X (.Tuple es x1 pos) (dTp dA) := by
  obtain ⟨_, p, l⟩ := h.ex
  exact ⟨_, pe_tup p, lift_tp l⟩
theorem d_lst (h : PDA X es dA) : PD X (.List es pos) (dLst dA) := by
  obtain ⟨_, p, l⟩ := h.ex
  exact ⟨_, pe_lst p, lift_lst l⟩
theorem d_lstC (h : PDA X es dA) : PD X (.List es pos) (dLstC dA) := by
  obtain ⟨_, p, l⟩ := h.ex
  exact ⟨_, pe_lst p, lift_lstC l⟩
theorem d_callB {id : String} {x : Str} {p : Pos} {r : List V → Hp → VK → Prop} {f : FA} (hc : CallR X (.builtin id) r) (hd : CallD X.K r f) (hg : Gl X x) (hm : X.mg x = none) (hv : bootBuiltins x = some (.builtin id)) (ha : PDA X (e :: es) dA) (hn : x ≠ "__name__" := by decide) (hdb : (x == ("__debug__" : Str)) = false := by decide)
    (he : starEach (e :: es) X.env = (false, eval e X.env) :: starEach es X.env := by rfl) (hpl : (backTo pos (starEach es X.env)).any (·.1) = false := by rfl) :
    PD X (.Call (.Name x p) (e :: es) [] pos) (dCB f dA) := by
  obtain ⟨_, pa, la⟩ := ha.ex
  exact ⟨_, pe_callB hc hg hm hv pa hn hdb he hpl, lift_cb hd la⟩
theorem d_callTy {T : String} {x : Str} {p : Pos} {r : List V → Hp → VK → Prop} {f : FA} (hc : CallR X (.type T) r) (hd : CallD X.K r f) (hg : Gl X x) (hm : X.mg x = none) (hv : bootBuiltins x = some (.type T)) (ha : PDA X (e :: es) dA) (hn : x ≠ "__name__" := by decide) (hdb : (x == ("__debug__" : Str)) = false := by decide)
    (he : starEach (e :: es) X.env = (false, eval e X.env) :: starEach es X.env := by rfl) (hpl : (backTo pos (starEach es X.env)).any (·.1) = false := by rfl) :
    PD X (.Call (.Name x p) (e :: es) [] pos) (dCB f dA) := by
  obtain ⟨_, pa, la⟩ := ha.ex
  exact ⟨_, pe_callTy hc hg hm hv pa hn hdb he hpl, lift_cb hd la⟩
end
end DL
set_option Elab.async false
set_option linter.all false
set_option maxRecDepth 100000
set_option maxHeartbeats 4000000
/-! DL, third part: statements, loops, comprehensions, calls of defs. -/
namespace DL
open PySem PySem.Spec PyProof.Rows L2

section
variable {K : Fg}
/-! ### canonical readings -/
def toTE (K : Fg) (de : DE) : TE := fun σ H Q => ∃ (F : SH) (fr : Fr) (S : SH) (L : Live) (C : CR0), FrOk σ fr L ∧ OkF K F H S L ∧ de fr S C ∧ ∀ v r S' H', OkF K F H' S' ((v, r) :: L) → C r S' → Q v H'
theorem lift_to (de : DE) : Lift K (toTE K de) de := fun F H σ fr S L f o C Q hd q => ⟨F, fr, S, L, C, f, o, hd, q⟩
def toTT (K : Fg) (dt : DT) : TT := fun σ H Q => ∃ (F : SH) (fr : Fr) (S : SH) (L : Live) (C : Bool → SH → Prop), FrOk σ fr L ∧ OkF K F H S L ∧ dt fr S C ∧ ∀ b S' H', OkF K F H' S' L → C b S' → Q b H'
theorem liftT_to (dt : DT) : LiftT K (toTT K dt) dt := fun F H σ fr S L f o C Q hd q => ⟨F, fr, S, L, C, f, o, hd, q⟩
theorem PD.pe {X : Cx} {e : Expr} {de : DE} (h : PD X e de) : PE X e (toTE X.K de) := by
  obtain ⟨te, p, l⟩ := h.ex
  exact ⟨fun pins s σ H Q I ⟨F, fr, S, L, C, f, o, hd, q⟩ => p.run pins s σ H Q I (l F H σ fr S L f o C Q hd q)⟩
theorem PDT.pt {X : Cx} {e : Expr} {dt : DT} (h : PDT X e dt) : PT X e (toTT X.K dt) := by
  obtain ⟨te, p, l⟩ := h.ex
  exact ⟨fun pins s σ H Q I ⟨F, fr, S, L, C, f, o, hd, q⟩ => p.run pins s σ H Q I (l F H σ fr S L f o C Q hd q)⟩

/-! ### blocks and simple statements -/
def sNext : DS := fun D fr S => D.nx fr S
def sSeq (t u : DS) : DS := fun D fr S => t { D with nx := u D } fr S
def sBreak : DS := fun D fr S => D.bk fr S
def sCont : DS := fun D fr S => D.ct fr S
def sDrop (d : DE) : DS := fun D fr S => d fr S fun _ S1 => D.nx fr S1
def sRet (d : DE) : DS := fun D fr S => d fr S D.rt
def sRetN : DS := fun D _ S => D.rt (.dat .none) S
def sIf (t : DT) (a b : DS) : DS := fun D fr S => t fr S fun c S1 => if c = true then a D fr S1 else b D fr S1
def sNever : DS := fun _ _ _ => False
theorem lift_next : LiftS K tNext sNext := fun F H σ fr S L f o D D' e h => e.nx σ fr S H L f o (fun _ z => z) h
theorem lift_brk : LiftS K tBreak sBreak := fun F H σ fr S L f o D D' e h => e.bk σ fr S H L f o (fun _ z => z) h
theorem lift_cnt : LiftS K tCont sCont := fun F H σ fr S L f o D D' e h => e.ct σ fr S H L f o (fun _ z => z) h
theorem lift_never : LiftS K tNever sNever := fun F H σ fr S L f o D D' e h => h.elim
theorem lift_seq {t u : TS} {dt du : DS} (l : LiftS K t dt) (l2 : LiftS K u du) : LiftS K (tSeq t u) (sSeq dt du) := fun F H σ fr S L f o D D' e h =>
  l F H σ fr S L f o { D with nx := u D } { D' with nx := du D' } ⟨fun σ' fr' S' H' L' f' o' s' h' => l2 F H' σ' fr' S' L' f' o' D D' (e.mono s') h', e.rt, e.bk, e.ct⟩ h
theorem lift_drop {t : TE} {d : DE} (l : Lift K t d) : LiftS K (tDrop t) (sDrop d) := fun F H σ fr S L f o D D' e h =>
  l F H σ fr S L f o _ _ h fun v r S' H' o' h' => e.nx σ fr S' H' L f (o'.sub tl_mem) (fun _ z => z) h'
theorem lift_ret {t : TE} {d : DE} (l : Lift K t d) : LiftS K (tRet t) (sRet d) := fun F H σ fr S L f o D D' e h =>
  l F H σ fr S L f o _ _ h fun v r S' H' o' h' => e.rt v r S' H' o' h'
theorem lift_retN : LiftS K tRetN sRetN := fun F H σ fr S L f o D D' e h => e.rt _ _ S H (o.pd .non) h
theorem lift_ifS {t : TT} {dt : DT} {a b : TS} {da db : DS} (l : LiftT K t dt) (la : LiftS K a da) (lb : LiftS K b db) : LiftS K (tIfS t a b) (sIf dt da db) := fun F H σ fr S L f o D D' e h => by
  refine l F H σ fr S L f o _ _ h fun c S' H' o' h' => ?_
  cases c with
  | true => exact la F H' σ fr S' L f o' D D' e h'
  | false => exact lb F H' σ fr S' L f o' D D' e h'
/-! ### targets -/
def gnm (i : Nat) : DG := fun r fr S C => C (fr.set i (some r)) S
theorem lift_name (i : Nat) : LiftG K (gName i) (gnm i) := fun F H σ fr S L v r f o m C Q h q => q _ _ S H L (f.set m i) o (fun _ z => z) h
def gNl : DGs := fun rs fr S C => rs = [] ∧ C fr S
def gCn (t : DG) (u : DGs) : DGs := fun rs fr S C => match rs with
  | r :: rs => t r fr S fun fr' S' => u rs fr' S' C
  | [] => False
theorem lift_gnil : LiftGs K gNil gNl := fun F H σ fr S L vs rs f o m C Q h q => by
  obtain ⟨rfl, h⟩ := h
  cases m
  exact ⟨rfl, q σ fr S H L f o (fun _ z => z) h⟩
theorem lift_gcons {t : TG} {u : TGs} {dt : DG} {du : DGs} (l : LiftG K t dt) (l2 : LiftGs K u du) : LiftGs K (gCons t u) (gCn dt du) := fun F H σ fr S L vs rs f o m C Q h q => by
  cases m with
  | nil => exact h.elim
  | cons m1 m2 =>
    refine ⟨_, _, rfl, ?_⟩
    refine l F H σ fr S L _ _ f o m1 _ _ h fun σ1 fr1 S1 H1 L1 f1 o1 s1 h1 => ?_
    exact l2 F H1 σ1 fr1 S1 L1 _ _ f1 o1 (Lives.mono s1 m2) _ _ h1 fun σ2 fr2 S2 H2 L2 f2 o2 s2 h2 => q σ2 fr2 S2 H2 L2 f2 o2 (fun z hz => s2 z (s1 z hz)) h2
def gTp (n : Nat) (t : DGs) : DG := fun r fr S C => match r with
  | .dat (.tuple ds) => ds.length = n ∧ t (ds.map R.dat) fr S C
  | .tp rs => rs.length = n ∧ t rs fr S C
  | _ => False
theorem push_all {H : Hp} {S : SH} {L : Live} (o : Ok K H S L) : ∀ {vs : List V} {ds : List PyData}, RepAll K (Av S) H vs ds → ∃ L', Ok K H S L' ∧ (∀ e ∈ L, e ∈ L') ∧ Lives L' vs (ds.map R.dat)
  | _, _, .nil => ⟨L, o, fun _ z => z, .nil⟩
  | _, _, .cons h t => by
    obtain ⟨L', o', s', lv⟩ := push_all o t
    exact ⟨_, o'.pd h, fun e he => List.mem_cons_of_mem _ (s' e he), .cons List.mem_cons_self (Lives.mono tl_mem lv)⟩
theorem push_rs {H : Hp} {S : SH} {L : Live} (o : Ok K H S L) : ∀ {vs : List V} {rs : List R}, RepRs K (Av S) H vs rs → ∃ L', Ok K H S L' ∧ (∀ e ∈ L, e ∈ L') ∧ Lives L' vs rs
  | _, _, .nil => ⟨L, o, fun _ z => z, .nil⟩
  | _, _, .cons h t => by
    obtain ⟨L', o', s', lv⟩ := push_rs o t
    exact ⟨_, o'.push h, fun e he => List.mem_cons_of_mem _ (s' e he), .cons List.mem_cons_self (Lives.mono tl_mem lv)⟩
theorem lift_gtup {n : Nat} {t : TGs} {dt : DGs} (l : LiftGs K t dt) : LiftG K (gTup K n t) (gTp n dt) := fun F H σ fr S L v r f o m C Q h q => by
  unfold gTp at h
  split at h
  · obtain ⟨hn, h⟩ := h
    have hr := o.dat m
    cases hr with | tup h1 q1 =>
    obtain ⟨L', o', s', lv⟩ := push_all o q1
    refine ⟨_, _, rfl, sqT_of (A := Av S) h1, q1.length.trans hn, ?_⟩
    exact l F H σ fr S L' _ _ (f.mono s') o' lv _ _ h fun σ1 fr1 S1 H1 L1 f1 o1 s1 h1 => q σ1 fr1 S1 H1 L1 f1 o1 (fun e he => s1 e (s' e he)) h1
  · rename_i rs
    obtain ⟨hn, h⟩ := h
    obtain ⟨a, vs, rfl, h1, q1⟩ := (show ∃ a vs, v = .ref a ∧ (H a = some (.tup vs) ∨ KTup K a vs) ∧ RepRl K _ H vs rs from o.live _ m)
    obtain ⟨L', o', s', lv⟩ := push_rs o q1.pair
    refine ⟨_, _, rfl, sqT_of (A := Av S) h1, (paired_len lv).trans hn, ?_⟩
    exact l F H σ fr S L' _ _ (f.mono s') o' lv _ _ h fun σ1 fr1 S1 H1 L1 f1 o1 s1 h1 => q σ1 fr1 S1 H1 L1 f1 o1 (fun e he => s1 e (s' e he)) h1
  · exact h.elim
def sAsg (d : DE) (g : DG) : DS := fun D fr S => d fr S fun r S1 => g r fr S1 D.nx
theorem lift_asg {t : TE} {d : DE} {g : TG} {dg : DG} (l : Lift K t d) (lg : LiftG K g dg) : LiftS K (tAsg t g) (sAsg d dg) := fun F H σ fr S L f o D D' e h => by
  refine l F H σ fr S L f o _ _ h fun v r S1 H1 o1 h1 => ?_
  exact lg F H1 σ fr S1 _ v r (f.mono tl_mem) o1 List.mem_cons_self _ _ h1 fun σ2 fr2 S2 H2 L2 f2 o2 s2 h2 => e.nx σ2 fr2 S2 H2 L2 f2 o2 (fun z hz => s2 z (List.mem_cons_of_mem _ hz)) h2
/-- a, b = x, y -/
def sPar (i j : Nat) (da : DA) : DS := fun D fr S => da fr S fun rs S1 => match rs with
  | [r, q] => D.nx ((fr.set i (some r)).set j (some q)) S1
  | _ => False
theorem lift_par {i j : Nat} {ta : TA} {da : DA} (l : LiftA K ta da) : LiftS K (tPar i j ta) (sPar i j da) := fun F H σ fr S L f o D D' e h => by
  refine l F H σ fr S L f o _ _ h fun vs rs S1 H1 L1 o1 s1 lv h1 => ?_
  split at h1
  · cases lv with | cons m1 t => cases t with | cons m2 t2 =>
    cases t2
    exact ⟨_, _, rfl, e.nx _ _ S1 H1 L1 (((f.mono s1).set m1 i).set m2 j) o1 s1 h1⟩
  · exact h1.elim
/-! ### o[i] = e -/
def gSb (dO di : DE) (f : R → R → R → SH → (SH → Prop) → Prop) : DG := fun r fr S C => dO fr S fun a S1 => di fr S1 fun b S2 => f a b r S2 fun S3 => C fr S3
/-- kvs with k bound to r -/
def putR (kvs : List (Key × R)) (k : Key) (r : R) : List (Key × R) := if kvs.any (fun kv => decide (kv.1 = k)) then kvs.map (fun kv => if kv.1 = k then (kv.1, r) else kv) else kvs ++ [(k, r)]
def fSet : R → R → R → SH → (SH → Prop) → Prop := fun a b r S C => match a, b with
  | .val (.ref p), .dat (.int i) => (∃ (j : Nat) (xs : List R) (m : Nat), S[j]? = some (.lst p xs) ∧ ixN xs.length i = some m ∧ C (S.set j (.lst p (xs.set m r)))) ∨
      ∃ (j : Nat) (kvs : List (Key × R)), S[j]? = some (.dct p kvs) ∧ kvs.length < 100000 ∧ C (S.set j (.dct p (putR kvs (Sum.inl i) r)))
  | .val (.ref p), .dat (.str x) => ∃ (j : Nat) (kvs : List (Key × R)), S[j]? = some (.dct p kvs) ∧ kvs.length < 100000 ∧ C (S.set j (.dct p (putR kvs (Sum.inr x) r)))
  | _, _ => False
def rSetAll : TSet := fun o i v H Q => rSetL o i v H Q ∨ ∃ a H', o = .ref a ∧ DPut H a i v H' ∧ Q H'
theorem paired_set {α β : Type} {P : α → β → Prop} {x : α} {y : β} (r : P x y) : ∀ {xs : List α} {us : List β} (i : Nat), Paired P xs us → Paired P (xs.set i x) (us.set i y)
  | _, _, _, .nil => .nil
  | _, _, 0, .cons _ t => .cons r t
  | _, _, i + 1, .cons q t => .cons q (paired_set r i t)
theorem paired_app {α β : Type} {P : α → β → Prop} : ∀ {xs ys : List α} {us ws : List β}, Paired P xs us → Paired P ys ws → Paired P (xs ++ ys) (us ++ ws)
  | _, _, _, _, .nil, s => s
  | _, _, _, _, .cons r t, s => .cons r (paired_app t s)
theorem any_kv {P : V → R → Prop} (k : Key) : ∀ {kws : List (Key × V)} {kvs : List (Key × R)}, Paired (fun (a : Key × V) (b : Key × R) => a.1 = b.1 ∧ P a.2 b.2) kws kvs → (kws.any fun kv => decide (kv.1 = k)) = kvs.any fun kv => decide (kv.1 = k)
  | _, _, .nil => rfl
  | a :: as, b :: bs, .cons ⟨h1, h2⟩ t => by rw [List.any_cons, List.any_cons, any_kv k t, h1]
theorem map_kv {P : V → R → Prop} {v : V} {r : R} (k : Key) (h : P v r) : ∀ {kws : List (Key × V)} {kvs : List (Key × R)}, Paired (fun (a : Key × V) (b : Key × R) => a.1 = b.1 ∧ P a.2 b.2) kws kvs →
    Paired (fun (a : Key × V) (b : Key × R) => a.1 = b.1 ∧ P a.2 b.2) (kws.map fun kv => if kv.1 = k then (kv.1, v) else kv) (kvs.map fun kv => if kv.1 = k then (kv.1, r) else kv)
  | _, _, .nil => .nil
  | a :: as, b :: bs, .cons ⟨h1, h2⟩ t => by
    rw [List.map_cons, List.map_cons]
    refine .cons ?_ (map_kv k h t)
    by_cases hk : b.1 = k
    · rw [if_pos hk, if_pos (h1.trans hk)]; exact ⟨h1, h⟩
    · rw [if_neg hk, if_neg (fun z => hk (h1.symm.trans z))]; exact ⟨h1, h2⟩
theorem put_kv {P : V → R → Prop} {v : V} {r : R} (k : Key) (h : P v r) {kws : List (Key × V)} {kvs : List (Key × R)} (q : Paired (fun (a : Key × V) (b : Key × R) => a.1 = b.1 ∧ P a.2 b.2) kws kvs) :
    Paired (fun (a : Key × V) (b : Key × R) => a.1 = b.1 ∧ P a.2 b.2) (putK kws k v) (putR kvs k r) := by
  unfold putK putR
  rw [any_kv k q]
  split
  · exact map_kv k h q
  · exact paired_app q (.cons ⟨rfl, h⟩ .nil)
theorem lift_gsub {to ti : TE} {dO di : DE} (lo : Lift K to dO) (li : Lift K ti di) : LiftG K (gSub to ti rSetAll) (gSb dO di fSet) := fun F H σ fr S L v r f o m C Q h q => by
  refine lo F H σ fr S L f o _ _ h fun a ra S1 H1 o1 h1 => ?_
  refine li F H1 σ fr S1 _ (f.mono tl_mem) o1 _ _ h1 fun b rb S2 H2 o2 h2 => ?_
  have ha := o2.live (a, ra) (List.mem_cons_of_mem _ List.mem_cons_self)
  have hb := o2.live (b, rb) List.mem_cons_self
  have hv := o2.live (v, r) (List.mem_cons_of_mem _ (List.mem_cons_of_mem _ m))
  have sb : ∀ e ∈ L, e ∈ (b, rb) :: (a, ra) :: L := fun e he => List.mem_cons_of_mem _ (List.mem_cons_of_mem _ he)
  unfold fSet at h2
  split at h2
  · rename_i p i
    cases (show a = V.ref p from ha)
    cases rep_int_inv hb
    rcases h2 with ⟨j, xs, mm, hj, em, h2⟩ | ⟨j, kvs, hj, hl, h2⟩
    · obtain ⟨vs, e1, q1⟩ := o2.cells _ (at_split (in_app hj))
      refine .inl ⟨p, vs, i, mm, rfl, rfl, e1, by rw [paired_len q1]; exact em, ?_⟩
      have o3 := o2.putL (in_app hj) (paired_set (P := RepR K (Av (S2 ++ F)) H2) hv mm q1)
      rw [set_app hj] at o3
      exact q _ _ _ _ _ (f.mono sb) o3 sb h2
    · obtain ⟨vs, e1, q1⟩ := o2.cells _ (at_split (in_app hj))
      refine .inr ⟨p, _, rfl, DPut.k (k := Sum.inl i) e1 (by rw [paired_len q1]; exact big_lt hl), ?_⟩
      have o3 := o2.put (u := .dK (putK vs (Sum.inl i) v)) (c' := .dct p (putR kvs (Sum.inl i) r)) (in_app hj) rfl rfl e1 True.intro ⟨_, upd_same, Paired.mapP (put_kv (P := RepR K (Av (S2 ++ F)) H2) (Sum.inl i) hv q1) fun _ _ z => ⟨z.1, z.2.stp (stp_upd e1 (pt_at (in_app hj)) True.intro)⟩⟩
      rw [set_app hj] at o3
      exact q _ _ _ _ _ (f.mono sb) o3 sb h2
  · rename_i p x
    cases (show a = V.ref p from ha)
    cases hb
    obtain ⟨j, kvs, hj, hl, h2⟩ := h2
    obtain ⟨vs, e1, q1⟩ := o2.cells _ (at_split (in_app hj))
    refine .inr ⟨p, _, rfl, DPut.k (k := Sum.inr x) e1 (by rw [paired_len q1]; exact big_lt hl), ?_⟩
    have o3 := o2.put (u := .dK (putK vs (Sum.inr x) v)) (c' := .dct p (putR kvs (Sum.inr x) r)) (in_app hj) rfl rfl e1 True.intro ⟨_, upd_same, Paired.mapP (put_kv (P := RepR K (Av (S2 ++ F)) H2) (Sum.inr x) hv q1) fun _ _ z => ⟨z.1, z.2.stp (stp_upd e1 (pt_at (in_app hj)) True.intro)⟩⟩
    rw [set_app hj] at o3
    exact q _ _ _ _ _ (f.mono sb) o3 sb h2
  · exact h2.elim
/-! ### what is walked -/
def ItOk (K : Fg) (J : It) (items : List R) (L : Live) : Prop := ∀ (H : Hp) (T : SH) (L' : Live), Ok K H T L' → (∀ e ∈ L, e ∈ L') → ∀ i : Nat, (∀ r, items[i]? = some r → J.go i H ∧ ∀ x H', J.yld i H x H' → Ok K H' T ((x, r) :: L')) ∧ (items.length = i → J.stop i H)
abbrev DI := Fr → SH → (List R → SH → Prop) → Prop
def LiftI (K : Fg) (wi : TI) (di : DI) : Prop := ∀ (F : SH) (H : Hp) (σ : L2.St) (fr : Fr) (S : SH) (L : Live), FrOk σ fr L → OkF K F H S L → ∀ (C : List R → SH → Prop) (Rr : It → Hp → Prop), di fr S C →
  (∀ J items S' H' L', OkF K F H' S' L' → (∀ e ∈ L, e ∈ L') → ItOk K J items L' → C items S' → Rr J H') → wi σ H Rr
structure PDI (X : Cx) (tg iter : Expr) (di : DI) : Prop where
  ex : ∃ wi, PI X tg iter wi ∧ LiftI X.K wi di
def iSrc (d : DE) : DI := fun fr S C => d fr S fun a S1 => match a with
  | .dat (.list ds) => C (ds.map R.dat) S1
  | .dat (.tuple ds) => C (ds.map R.dat) S1
  | .dat (.str z) => C (z.cps.toList.map fun c => R.dat (.str ⟨#[c]⟩)) S1
  | .scr ns => C (ns.map fun n => R.dat (.int n)) S1
  | _ => False
theorem it_list {a : Addr} {ds : List PyData} {L : Live} (m : (V.ref a, R.dat (.list ds)) ∈ L) : ItOk K (Itl K a) (ds.map R.dat) L := fun H T L' o s i => by
  have hr := o.dat (s _ m)
  cases hr with | @lst _ xs _ h1 n1 q1 =>
  refine ⟨fun r e => ?_, fun hl => ⟨xs, SqL.of h1, by rw [q1.length]; simpa using Nat.le_of_eq hl⟩⟩
  rw [List.getElem?_map] at e
  cases e1 : ds[i]? with
  | none => rw [e1] at e; cases e
  | some d =>
    rw [e1] at e
    cases e
    obtain ⟨v, ev, rv⟩ := q1.get' e1
    refine ⟨⟨xs, v, SqL.of h1, ev⟩, fun x H' y => ?_⟩
    obtain ⟨rfl, y⟩ := y
    have := y xs (SqL.of h1)
    rw [ev] at this
    cases this
    exact o.pd rv
theorem it_tup {a : Addr} {ds : List PyData} {L : Live} (m : (V.ref a, R.dat (.tuple ds)) ∈ L) : ItOk K (Itt K a) (ds.map R.dat) L := fun H T L' o s i => by
  have hr := o.dat (s _ m)
  cases hr with | @tup _ xs _ h1 q1 =>
  have hq : SqT K H a xs := sqT_of (A := Av T) h1
  refine ⟨fun r e => ?_, fun hl => ⟨xs, hq, by rw [q1.length]; simpa using Nat.le_of_eq hl⟩⟩
  rw [List.getElem?_map] at e
  cases e1 : ds[i]? with
  | none => rw [e1] at e; cases e
  | some d =>
    rw [e1] at e
    cases e
    obtain ⟨v, ev, rv⟩ := q1.get' e1
    refine ⟨⟨xs, v, hq, ev⟩, fun x H' y => ?_⟩
    obtain ⟨rfl, y⟩ := y
    have := y xs hq
    rw [ev] at this
    cases this
    exact o.pd rv
theorem it_scr {a : Addr} {ns : List Int} {L : Live} (m : (V.ref a, R.scr ns) ∈ L) : ItOk K (Itl K a) (ns.map fun n => R.dat (.int n)) L := fun H T L' o s i => by
  obtain ⟨a', ea, h1⟩ := (show ∃ a', V.ref a = .ref a' ∧ ScrAt K _ H a' (ns.map V.int) from o.live _ (s _ m))
  cases ea
  have hq : SqL K H a (ns.map V.int) := h1.sq
  refine ⟨fun r e => ?_, fun hl => ⟨_, hq, by simpa using Nat.le_of_eq hl⟩⟩
  rw [List.getElem?_map] at e
  cases e1 : ns[i]? with
  | none => rw [e1] at e; cases e
  | some d =>
    rw [e1] at e
    cases e
    have ev : (ns.map V.int)[i]? = some (.int d) := by rw [List.getElem?_map, e1]; rfl
    refine ⟨⟨_, _, hq, ev⟩, fun x H' y => ?_⟩
    obtain ⟨rfl, y⟩ := y
    have := y _ hq
    rw [ev] at this
    cases this
    exact o.pd (.int d)
theorem it_str {z : Str} {L : Live} : ItOk K (Its z) (z.cps.toList.map fun c => R.dat (.str ⟨#[c]⟩)) L := fun H T L' o s i => by
  refine ⟨fun r e => ?_, fun hl => show z.cps.size ≤ i by simpa using Nat.le_of_eq hl⟩
  rw [List.getElem?_map] at e
  cases e1 : z.cps.toList[i]? with
  | none => rw [e1] at e; cases e
  | some d =>
    rw [e1] at e
    cases e
    have h1 : z.cps[i]? = some d := by simpa using e1
    obtain ⟨hl, _⟩ := Array.getElem?_eq_some_iff.mp h1
    refine ⟨hl, fun x H' y => ?_⟩
    obtain ⟨rfl, c, ec, rfl⟩ := y
    rw [h1] at ec
    cases ec
    exact o.pd (.str _)
def iAny (K : Fg) (tl : TE) : TI := fun σ H R => tl σ H fun x H1 => (∃ a, x = .ref a ∧ (∃ xs, SqL K H1 a xs) ∧ R (Itl K a) H1) ∨ (∃ a, x = .ref a ∧ (∃ xs, SqT K H1 a xs) ∧ R (Itt K a) H1) ∨ ∃ z, x = .str z ∧ R (Its z) H1
theorem pi_any {X : Cx} {tg l : Expr} {tl : TE} (hl : PE X l tl) : PI X tg l (iAny X.K tl) := by
  refine ⟨fun pins s σ H R I h => ?_⟩
  refine thn (hl.run pins s σ H _ I h) fun v s1 ⟨x, H1, I1, r1, q1⟩ => ?_
  rcases q1 with ⟨a, e, ⟨xs, hq⟩, q⟩ | ⟨a, e, ⟨xs, hq⟩, q⟩ | ⟨z, e, q⟩
  · subst e
    cases r1
    obtain ⟨its, rv, p, hz⟩ := I1.list hq
    refine wpAny_pyIter_list p.isList ?_
    refine ⟨s1.heap.objs.size, [s1.heap.objs.size], _, _, H1, rfl, I1.kept (t' := s1.toks) fun b o e => Heap.get?_push_of_some _ e, turn_list a _, ⟨_, Heap.get?_push_size _ rfl, rfl, rfl⟩, fun b hb => ?_, q⟩
    have e : b = s1.heap.objs.size := by simpa using hb
    subst e
    exact I1.fpOk (Nat.le_refl _) (I1.hok.fresh (Nat.le_refl _))
  · subst e
    cases r1
    obtain ⟨its, rv, p, hz⟩ := I1.tuple hq
    refine wpAny_pyIter_tuple (show s1.heap.IsTuple a its.toArray from p) ?_
    refine ⟨s1.heap.objs.size, [s1.heap.objs.size], _, _, H1, rfl, I1.kept (t' := s1.toks) fun b o e => Heap.get?_push_of_some _ e, turn_tuple a _, ⟨_, Heap.get?_push_size _ rfl, rfl, rfl⟩, fun b hb => ?_, q⟩
    have e : b = s1.heap.objs.size := by simpa using hb
    subst e
    exact I1.fpOk (Nat.le_refl _) (I1.hok.fresh (Nat.le_refl _))
  · subst e
    obtain ⟨t, rfl⟩ := r1
    cases ha : z.cps.all (· < 128)
    · exact wpAny_pyIter_wide ha (pi_one (tk := s1.toks) I1 _ (turn_str _ z t "str_iterator" (.inr rfl)) ⟨_, Heap.get?_push_size _ rfl, rfl, rfl⟩ q)
    · exact wpAny_pyIter_ascii ha (pi_one (tk := s1.toks) I1 _ (turn_str _ z t "str_ascii_iterator" (.inl rfl)) ⟨_, Heap.get?_push_size _ rfl, rfl, rfl⟩ q)
theorem lift_src {t : TE} {d : DE} (l : Lift K t d) : LiftI K (iAny K t) (iSrc d) := fun F H σ fr S L f o C Rr h q => by
  refine l F H σ fr S L f o _ _ h fun x r S1 H1 o1 h1 => ?_
  have hr := o1.live _ List.mem_cons_self
  split at h1
  · cases hr with | lst e1 n1 q1 =>
    exact .inl ⟨_, rfl, ⟨_, SqL.of e1⟩, q _ _ S1 H1 _ o1 tl_mem (it_list List.mem_cons_self) h1⟩
  · cases hr with | tup e1 q1 =>
    exact .inr (.inl ⟨_, rfl, ⟨_, sqT_of (A := Av S1) e1⟩, q _ _ S1 H1 _ o1 tl_mem (it_tup List.mem_cons_self) h1⟩)
  · cases hr
    exact .inr (.inr ⟨_, rfl, q _ _ S1 H1 _ o1 tl_mem it_str h1⟩)
  · obtain ⟨a, rfl, e1⟩ := hr
    exact .inl ⟨_, rfl, ⟨_, e1.sq⟩, q _ _ S1 H1 _ o1 tl_mem (it_scr List.mem_cons_self) h1⟩
  · exact h1.elim
def rng (lo : Int) (n : Nat) : List R := (List.range n).map fun (i : Nat) => R.dat (.int (lo + (i : Int)))
theorem it_rng {lo : Int} {n : Nat} {L : Live} : ItOk K (Itr lo n) (rng lo n) L := fun H T L' o s i => by
  unfold rng
  refine ⟨fun r e => ?_, fun hl => show n ≤ i by simpa using Nat.le_of_eq hl⟩
  rw [List.getElem?_map] at e
  by_cases hi : i < n
  · rw [List.getElem?_range hi] at e
    cases e
    refine ⟨hi, fun x H' y => ?_⟩
    obtain ⟨rfl, rfl⟩ := y
    exact o.pd (.int _)
  · rw [List.getElem?_eq_none (by simpa using hi)] at e
    cases e
def iR1 (da : DA) : DI := fun fr S C => da fr S fun rs S1 => match rs with
  | [.dat (.int j)] => (-(2 ^ 62) ≤ j ∧ j < 2 ^ 62) ∧ C (rng 0 j.toNat) S1
  | _ => False
def iR2 (da : DA) : DI := fun fr S C => da fr S fun rs S1 => match rs with
  | [.dat (.int i), .dat (.int j)] => (-(2 ^ 62) ≤ i ∧ i < 2 ^ 62 ∧ -(2 ^ 62) ≤ j ∧ j < 2 ^ 62) ∧ C (rng i (j - i).toNat) S1
  | _ => False
/-- downwards by ones -/
def rngD (hi : Int) (n : Nat) : List R := (List.range n).map fun (i : Nat) => R.dat (.int (hi - (i : Int)))
def iR3 (da : DA) : DI := fun fr S C => da fr S fun rs S1 => match rs with
  | [.dat (.int i), .dat (.int j), .dat (.int k)] => (-(2 ^ 62) ≤ i ∧ i < 2 ^ 62 ∧ -(2 ^ 62) ≤ j ∧ j < 2 ^ 62) ∧ k = -1 ∧ C (rngD i (i - j).toNat) S1
  | _ => False
theorem lift_R1 {ta : TA} {da : DA} (l : LiftA K ta da) : LiftI K (iRng1 ta) (iR1 da) := fun F H σ fr S L f o C Rr h q => by
  refine l F H σ fr S L f o _ _ h fun vs rs S1 H1 L1 o1 s1 lv h1 => ?_
  split at h1
  · cases lv with | cons m t =>
    cases t
    cases rep_int_inv (o1.dat m)
    exact ⟨_, rfl, h1.1.1, h1.1.2, q _ _ S1 H1 L1 o1 s1 it_rng h1.2⟩
  · exact h1.elim
theorem lift_R2 {ta : TA} {da : DA} (l : LiftA K ta da) : LiftI K (iRng2 ta) (iR2 da) := fun F H σ fr S L f o C Rr h q => by
  refine l F H σ fr S L f o _ _ h fun vs rs S1 H1 L1 o1 s1 lv h1 => ?_
  split at h1
  · cases lv with | cons m t => cases t with | cons m2 t =>
    cases t
    cases rep_int_inv (o1.dat m)
    cases rep_int_inv (o1.dat m2)
    exact ⟨_, _, rfl, h1.1, q _ _ S1 H1 L1 o1 s1 it_rng h1.2⟩
  · exact h1.elim
theorem it_rngD {hi : Int} {n : Nat} {L : Live} : ItOk K (Itc hi (-1) n) (rngD hi n) L := fun H T L' o s i => by
  unfold rngD
  refine ⟨fun r e => ?_, fun hl => show n ≤ i by simpa using Nat.le_of_eq hl⟩
  rw [List.getElem?_map] at e
  by_cases hlt : i < n
  · rw [List.getElem?_range hlt] at e
    cases e
    refine ⟨hlt, fun x H' y => ?_⟩
    obtain ⟨rfl, rfl⟩ := y
    have e : hi + ((i : Nat) : Int) * -1 = hi - (i : Int) := by omega
    rw [e]
    exact o.pd (.int _)
  · rw [List.getElem?_eq_none (by simpa using hlt)] at e
    cases e
theorem lift_R3 {ta : TA} {da : DA} (l : LiftA K ta da) : LiftI K (iRng3 ta) (iR3 da) := fun F H σ fr S L f o C Rr h q => by
  refine l F H σ fr S L f o _ _ h fun vs rs S1 H1 L1 o1 s1 lv h1 => ?_
  split at h1
  · cases lv with | cons m t => cases t with | cons m2 t => cases t with | cons m3 t =>
    cases t
    cases rep_int_inv (o1.dat m)
    cases rep_int_inv (o1.dat m2)
    cases rep_int_inv (o1.dat m3)
    obtain ⟨⟨a1, a2, a3, a4⟩, rfl, h1⟩ := h1
    exact ⟨_, _, _, _, rfl, RgC.neg a1 a2 a3 a4, q _ _ S1 H1 L1 o1 s1 it_rngD h1⟩
  · exact h1.elim
/-- enumerate(list) -/
def enumD (ds : List PyData) : List R := (List.range ds.length).map fun (i : Nat) => R.dat (.tuple [.int (i : Int), ds.getD i .none])
def iEn (da : DA) : DI := fun fr S C => da fr S fun rs S1 => match rs with
  | [.dat (.list ds)] => C (enumD ds) S1
  | _ => False
theorem it_enum {a : Addr} {ds : List PyData} {L : Live} (m : (V.ref a, R.dat (.list ds)) ∈ L) : ItOk K (Ite K a) (enumD ds) L := fun H T L' o s i => by
  have hr := o.dat (s _ m)
  cases hr with | @lst _ xs _ h1 n1 q1 =>
  unfold enumD
  refine ⟨fun r e => ?_, fun hl => ⟨xs, SqL.of h1, by rw [q1.length]; simpa using Nat.le_of_eq hl⟩⟩
  rw [List.getElem?_map] at e
  by_cases hi : i < ds.length
  · rw [List.getElem?_range hi] at e
    cases e
    have e1 : ds[i]? = some ds[i] := List.getElem?_eq_getElem hi
    obtain ⟨v, ev, rv⟩ := q1.get' e1
    refine ⟨⟨xs, v, SqL.of h1, ev⟩, fun x H' y => ?_⟩
    obtain ⟨T', x', rfl, hT, rfl, y⟩ := y
    have := y xs (SqL.of h1)
    rw [ev] at this
    cases this
    have e2 : ds.getD i .none = ds[i] := by rw [List.getD_eq_getElem?_getD, e1]; rfl
    show Ok K _ T ((V.ref T', R.dat (.tuple [.int ((i : Nat) : Int), ds.getD i .none])) :: L')
    rw [e2]
    exact o.tup hT (.cons (.int _) (.cons rv .nil))
  · rw [List.getElem?_eq_none (by simpa using hi)] at e
    cases e
theorem lift_enum {ta : TA} {da : DA} (l : LiftA K ta da) : LiftI K (iEnum K ta) (iEn da) := fun F H σ fr S L f o C Rr h q => by
  refine l F H σ fr S L f o _ _ h fun vs rs S1 H1 L1 o1 s1 lv h1 => ?_
  split at h1
  · cases lv with | cons m t =>
    cases t
    have hr := o1.dat m
    cases hr with | lst e1 n1 q1 =>
    exact ⟨_, _, rfl, SqL.of e1, q _ _ S1 H1 L1 o1 s1 (it_enum m) h1⟩
  · exact h1.elim
/-! ### for -/
def sFor (di : DI) (dg : DG) (db : DS) : DS := fun D fr S => di fr S fun items S1 => ∃ I : Nat → Fr → SH → Prop, I 0 fr S1 ∧
  (∀ i r fr S, items[i]? = some r → I i fr S → dg r fr S fun fr2 S2 => db { D with nx := I (i + 1), ct := I (i + 1), bk := D.nx } fr2 S2) ∧ ∀ fr S, I items.length fr S → D.nx fr S
theorem lift_for {wi : TI} {di : DI} {g : TG} {dg : DG} {tb : TS} {db : DS} (li : LiftI K wi di) (lg : LiftG K g dg) (lb : LiftS K tb db) : LiftS K (tFor wi g tb) (sFor di dg db) := fun F H σ fr S L f o D D' e h => by
  refine li F H σ fr S L f o _ _ h fun J items S1 H1 L1 o1 s1 it h1 => ?_
  obtain ⟨I, i0, st, dn⟩ := h1
  refine ⟨fun i m σ H => m = items.length - i ∧ i ≤ items.length ∧ ∃ fr S L', FrOk σ fr L' ∧ OkF K F H S L' ∧ (∀ e ∈ L1, e ∈ L') ∧ I i fr S, ⟨items.length, by simp, Nat.zero_le _, fr, S1, L1, f.mono s1, o1, fun _ z => z, i0⟩, ?_⟩
  rintro i m σ2 H2 ⟨rfl, hi, fr2, S2, L2, f2, o2, s2, i2⟩
  obtain ⟨go, sp⟩ := it H2 (S2 ++ F) L2 o2 s2 i
  by_cases hlt : i < items.length
  · obtain ⟨hg, hy⟩ := go _ (List.getElem?_eq_getElem hlt)
    refine .inr ⟨hg, fun σ H => ∃ fr S L', FrOk σ fr L' ∧ OkF K F H S L' ∧ (∀ e ∈ L1, e ∈ L') ∧ I (i + 1) fr S, fun σ' H' n => ⟨items.length - (i + 1), by omega, rfl, hlt, n⟩, fun x H3 y => ?_⟩
    have o3 : OkF K F H3 S2 ((x, items[i]) :: L2) := hy x H3 y
    refine lg F H3 σ2 fr2 S2 _ x _ (f2.mono tl_mem) o3 List.mem_cons_self _ _ (st i _ fr2 S2 (List.getElem?_eq_getElem hlt) i2) fun σ4 fr4 S4 H4 L4 f4 o4 s4 h4 => ?_
    have s14 : ∀ e ∈ L1, e ∈ L4 := fun z hz => s4 z (List.mem_cons_of_mem _ (s2 z hz))
    have sL4 : ∀ e ∈ L, e ∈ L4 := fun z hz => s14 z (s1 z hz)
    refine lb F H4 σ4 fr4 S4 L4 f4 o4 _ { D' with nx := I (i + 1), ct := I (i + 1), bk := D'.nx } ⟨fun σ5 fr5 S5 H5 L5 f5 o5 s5 h5 => ⟨fr5, S5, L5, f5, o5, fun z hz => s5 z (s14 z hz), h5⟩, (e.mono sL4).rt, fun σ5 fr5 S5 H5 L5 f5 o5 s5 h5 => e.nx σ5 fr5 S5 H5 L5 f5 o5 (fun z hz => s5 z (sL4 z hz)) h5,
      fun σ5 fr5 S5 H5 L5 f5 o5 s5 h5 => ⟨fr5, S5, L5, f5, o5, fun z hz => s5 z (s14 z hz), h5⟩⟩ h4
  · have ei : i = items.length := by omega
    subst ei
    exact .inl ⟨sp rfl, e.nx σ2 fr2 S2 H2 L2 f2 o2 (fun z hz => s2 z (s1 z hz)) (dn fr2 S2 i2)⟩
/-! ### while -/
def sWhile (t : DT) (db : DS) : DS := fun D fr S => ∃ W : Nat → Fr → SH → Prop, (∃ m, W m fr S) ∧ ∀ m fr S, W m fr S → t fr S fun b S1 => if b = true then db { D with nx := fun fr S => ∃ m', m' < m ∧ W m' fr S, ct := fun fr S => ∃ m', m' < m ∧ W m' fr S, bk := D.nx } fr S1 else D.nx fr S1
theorem lift_while {t : TT} {dt : DT} {tb : TS} {db : DS} (lt : LiftT K t dt) (lb : LiftS K tb db) : LiftS K (tWhile t tb) (sWhile dt db) := fun F H σ fr S L f o D D' e h => by
  obtain ⟨W, ⟨m0, w0⟩, st⟩ := h
  refine ⟨fun m σ H => ∃ fr S L', FrOk σ fr L' ∧ OkF K F H S L' ∧ (∀ e ∈ L, e ∈ L') ∧ W m fr S, ⟨m0, fr, S, L, f, o, fun _ z => z, w0⟩, ?_⟩
  rintro m σ2 H2 ⟨fr2, S2, L2, f2, o2, s2, w2⟩
  refine lt F H2 σ2 fr2 S2 L2 f2 o2 _ _ (st m fr2 S2 w2) fun b S3 H3 o3 h3 => ?_
  cases b with
  | false => exact e.nx σ2 fr2 S3 H3 L2 f2 o3 s2 h3
  | true =>
    refine ⟨fun σ H => ∃ m', m' < m ∧ ∃ fr S L', FrOk σ fr L' ∧ OkF K F H S L' ∧ (∀ e ∈ L, e ∈ L') ∧ W m' fr S, fun σ' H' n => n, ?_⟩
    have nx : ∀ σ5 fr5 S5 H5 L5, FrOk σ5 fr5 L5 → OkF K F H5 S5 L5 → (∀ e ∈ L2, e ∈ L5) → (∃ m', m' < m ∧ W m' fr5 S5) → ∃ m', m' < m ∧ ∃ fr S L', FrOk σ5 fr L' ∧ OkF K F H5 S L' ∧ (∀ e ∈ L, e ∈ L') ∧ W m' fr S :=
      fun σ5 fr5 S5 H5 L5 f5 o5 s5 ⟨m', hm, h5⟩ => ⟨m', hm, fr5, S5, L5, f5, o5, fun z hz => s5 z (s2 z hz), h5⟩
    exact lb F H3 σ2 fr2 S3 L2 f2 o3 _ { D' with nx := fun fr S => ∃ m', m' < m ∧ W m' fr S, ct := fun fr S => ∃ m', m' < m ∧ W m' fr S, bk := D'.nx } ⟨nx, (e.mono s2).rt, fun σ5 fr5 S5 H5 L5 f5 o5 s5 h5 => e.nx σ5 fr5 S5 H5 L5 f5 o5 (fun z hz => s5 z (s2 z hz)) h5, nx⟩ h3
/-! ### comprehensions, one name -/
def dLcG (E : List R → SH → CR0 → Prop) (di : DI) (i : Nat) (dt : DT) (de : DE) : DE := fun fr S C => di fr S fun items S1 => ∃ I : Nat → List R → SH → Prop, I 0 [] S1 ∧
  (∀ k r acc S, items[k]? = some r → I k acc S → dt (fr.set i (some r)) S fun b S2 => if b = true then de (fr.set i (some r)) S2 fun y S3 => acc.length < 100000 ∧ I (k + 1) (acc ++ [y]) S3 else I (k + 1) acc S2) ∧
  ∀ acc S, I items.length acc S → E acc S C
def eDat : List R → SH → CR0 → Prop := fun acc S C => ∃ ds, dats acc = some ds ∧ C (.dat (.list ds)) S
def eCel : List R → SH → CR0 → Prop := fun acc S C => ∀ p, C (.val (.ref p)) (.lst p acc :: S)
abbrev dLc := dLcG eDat
abbrev dLcC := dLcG eCel
def EndD (K : Fg) (E : List R → SH → CR0 → Prop) : Prop := ∀ (F : SH) (H : Hp) (S : SH) (L : Live) (p : Addr) (acc : List R) (C : CR0), OkF K (.lst p acc :: F) H S L → E acc S C → ∃ r S', OkF K F H S' ((.ref p, r) :: L) ∧ C r S'
theorem mid_get {α : Type} {c : α} : ∀ (S F : List α), (S ++ c :: F)[S.length]? = some c := fun S F => by simp
theorem end_dat : EndD K eDat := fun F H S L p acc C o ⟨ds, e, h⟩ => by
  refine ⟨_, S, ?_, h⟩
  have o2 := o.frz (mid_get S F) e
  have e2 : (S ++ Cell.lst p acc :: F).eraseIdx S.length = S ++ F := by rw [List.eraseIdx_append_of_length_le (Nat.le_refl _)]; simp
  rw [e2] at o2
  exact o2
theorem end_cel : EndD K eCel := fun F H S L p acc C o h => ⟨.val (.ref p), .lst p acc :: S, Ok.push (o.perm List.perm_middle) rfl, h p⟩
theorem lift_lc {E : List R → SH → CR0 → Prop} (hE : EndD K E) {wi : TI} {di : DI} {tt : TT} {dt : DT} {te : TE} {de : DE} {i : Nat} (li : LiftI K wi di) (lt : LiftT K tt dt) (le : Lift K te de) : Lift K (tLc wi (gName i) tt te [i]) (dLcG E di i dt de) := fun F H σ fr S L f o C Q h q => by
  refine li F H σ fr S L f o _ _ h fun J items S1 H1 L1 o1 s1 it h1 D hD => ?_
  obtain ⟨I, i0, st, dn⟩ := h1
  have o0 : OkF K (.lst D [] :: F) (upd H1 D (.lst [])) S1 L1 := (o1.lstC hD .nil).perm List.perm_middle.symm
  refine ⟨fun k m H => m = items.length - k ∧ k ≤ items.length ∧ ∃ S acc L', OkF K (.lst D acc :: F) H S L' ∧ (∀ e ∈ L1, e ∈ L') ∧ I k acc S, ⟨items.length, by simp, Nat.zero_le _, S1, [], L1, o0, fun _ z => z, i0⟩, ?_⟩
  rintro k m H2 ⟨rfl, hk, S2, acc, L2, o2, s2, i2⟩
  obtain ⟨go, sp⟩ := it H2 _ L2 o2 s2 k
  have s02 : ∀ e ∈ L, e ∈ L2 := fun z hz => s2 z (s1 z hz)
  by_cases hlt : k < items.length
  · obtain ⟨hg, hy⟩ := go _ (List.getElem?_eq_getElem hlt)
    refine .inr ⟨hg, fun H => ∃ S acc L', OkF K (.lst D acc :: F) H S L' ∧ (∀ e ∈ L1, e ∈ L') ∧ I (k + 1) acc S, fun H' n => ⟨items.length - (k + 1), by omega, rfl, hlt, n⟩, fun x H3 y => ?_⟩
    have o3 : OkF K (.lst D acc :: F) H3 S2 ((x, items[k]) :: L2) := hy x H3 y
    show wipe ((wipe σ [i]).set i (some x)) [i] = wipe σ [i] ∧ _
    refine ⟨by simp [wipe], ?_⟩
    have f3 : FrOk ((wipe σ [i]).set i (some x)) (fr.set i (some items[k])) ((x, items[k]) :: L2) := by
      have e1 : (wipe σ [i]).set i (some x) = σ.set i (some x) := by simp [wipe]
      rw [e1]
      exact (f.mono fun z hz => List.mem_cons_of_mem _ (s02 z hz)).set List.mem_cons_self i
    refine lt _ H3 _ _ S2 _ f3 o3 _ _ (st k _ acc S2 (List.getElem?_eq_getElem hlt) i2) fun b S4 H4 o4 h4 => ?_
    cases b with
    | false => exact ⟨S4, acc, _, o4, fun z hz => List.mem_cons_of_mem _ (s2 z hz), h4⟩
    | true =>
      refine le _ H4 _ _ S4 _ f3 o4 _ _ h4 fun v r S5 H5 o5 h5 => ?_
      obtain ⟨vs, e5, q5⟩ := o5.cells _ (at_split (mid_get S5 F))
      refine ⟨vs, e5, by rw [paired_len q5]; exact big_lt h5.1, S5, acc ++ [r], (v, r) :: (x, items[k]) :: L2, ?_, fun z hz => List.mem_cons_of_mem _ (List.mem_cons_of_mem _ (s2 z hz)), h5.2⟩
      have o6 := o5.putL (mid_get S5 F) (paired_app q5 (.cons (o5.live (v, r) List.mem_cons_self) .nil))
      rw [List.set_append_right _ _ (Nat.le_refl _)] at o6
      simpa using o6
  · have ek : k = items.length := by omega
    subst ek
    obtain ⟨r, S', o', h'⟩ := hE F H2 S2 L2 D acc C o2 (dn acc S2 i2)
    exact .inl ⟨sp rfl, q _ r S' H2 (o'.sub (sub_cons s02)) h'⟩
/-! ### defs -/
abbrev SpD := List R → SH → CR0 → Prop
def toSp (K : Fg) (n : Nat) (sp : SpD) : Sp := fun vs H Q _ => vs.length = n ∧ ∃ (F S : SH) (L : Live) (rs : List R) (C : CR0), OkF K F H S L ∧ Lives L vs rs ∧ sp rs S C ∧ ∀ v r S' H', OkF K F H' S' ((v, r) :: L) → C r S' → Q v H'
def dCall (n : Nat) (sp : SpD) (da : DA) : DE := fun fr S C => da fr S fun rs S1 => rs.length = n ∧ sp rs S1 C
theorem lift_call {n : Nat} {sp : SpD} {E : XK} {ta : TA} {da : DA} (l : LiftA K ta da) : Lift K (tCall (toSp K n sp) [] E ta) (dCall n sp da) := fun F H σ fr S L f o C Q h q => by
  refine l F H σ fr S L f o _ _ h fun vs rs S1 H1 L1 o1 s1 lv h1 => ?_
  refine ⟨by rw [List.append_nil, paired_len lv]; exact h1.1, F, S1, L1, rs, C, o1, by rw [List.append_nil]; exact lv, h1.2, fun v r S' H' o' h' => q v r S' H' (o'.sub (sub_cons s1)) h'⟩
def startF (N : List Str) (rs : List R) : Fr := rs.map some ++ List.replicate (N.length - rs.length) none
theorem fr_start {N : List Str} {vs : List V} {rs : List R} {L : Live} (lv : Lives L vs rs) : FrOk (L2.start N vs) (startF N rs) L := by
  have hl := paired_len lv
  refine ⟨by unfold L2.start startF; simp [hl], fun i r e => ?_⟩
  unfold startF at e
  rw [List.getElem?_append] at e
  split at e
  · rename_i hi
    rw [List.getElem?_map] at e
    cases e1 : rs[i]? with
    | none => rw [e1] at e; cases e
    | some q =>
      rw [e1] at e
      cases e
      obtain ⟨v, ev, m⟩ := paired_get' lv e1
      refine ⟨v, ?_, m⟩
      unfold L2.start
      rw [List.getElem?_append_left (by
        rw [List.length_map] at hi ⊢
        omega), List.getElem?_map, ev]
      rfl
  · rw [List.getElem?_replicate] at e
    split at e <;> cases e
theorem okD {P : Program} {w : World} {mg : Str → Option Value} {base : Heap} {x qual : Str} {st : Stmt} {f : Addr} {fd : FuncData} {N ps : List Str} {k n : Nat} {sp : SpD} (Fn : Fun K x qual st f fd) (Sc : FnScope N ps (defScope st)) (hn : ps.length = n)
    (hbody : ∀ (cdv : Value) (A : Around) (outer : List Env) (s : Shared) (H : Hp) (E : XK), Room k (A.deeper (envOfC qual (defScope st) s.heap.objs.size f cdv)) →
      ∃ ds, PDSs (cxOf CX0 P w K mg base N qual (defScope st) f cdv A outer s H E).nox (defBody st) ds ∧ ∀ rs S C, rs.length = n → sp rs S C → ds { nx := fun _ S => C (.dat .none) S, rt := C } (startF N rs) S) : FnOk P w K mg base CX0 (k + 1) f fd ps (toSp K n sp) := by
  refine Fn.ok Sc (fun vs H Q E h => h.1.trans hn.symm) fun cdv A outer s H vs Q E hr h => ?_
  obtain ⟨ds, hp, hd⟩ := hbody cdv A outer s H E hr
  obtain ⟨ts, p, l⟩ := hp.ex
  obtain ⟨hl, F, S, L, rs, C, o, lv, hs, q⟩ := h
  refine ⟨ts, p, ?_⟩
  refine l F H (L2.start N vs) (startF N rs) S L (fr_start lv) o _ { nx := fun _ S => C (.dat .none) S, rt := C } ⟨fun σ' fr' S' H' L' f' o' s' h' => ?_, fun v r S' H' o' h' => q v r S' H' o' h', fun _ _ _ _ _ _ _ _ h => h.elim, fun _ _ _ _ _ _ _ _ h => h.elim⟩ (hd rs S C ((paired_len lv).symm.trans hl) hs)
  exact q .non (.dat .none) S' H' ((o'.sub s').pd .non) h'
end

/-! ### the rules -/
section
variable {X : Cx} {a b c e tg iter : Expr} {da db dc de : DE} {dA : DA} {dt du : DT} {di : DI} {dg : DG} {dgs : DGs} {ds d2 : DS} {pos : Pos} {es : List Expr} {st : Stmt} {sts st2 : List Stmt}
theorem ss_nil : PDSs X [] sNext := ⟨_, pss_nil, lift_next⟩
theorem ss_cons (h1 : PDS X st ds) (h2 : PDSs X sts d2) : PDSs X (st :: sts) (sSeq ds d2) := by
  obtain ⟨_, p, l⟩ := h1.ex
  obtain ⟨_, p2, l2⟩ := h2.ex
  exact ⟨_, pss_cons p p2, lift_seq l l2⟩
theorem ss_one (h1 : PDS X st ds) : PDSs X [st] ds := by
  obtain ⟨_, p, l⟩ := h1.ex
  exact ⟨_, pss_one p, l⟩
theorem s_pass : PDS X (.Pass pos) sNext := ⟨_, ps_pass, lift_next⟩
theorem s_break : PDS X (.Break pos) sBreak := ⟨_, ps_break, lift_brk⟩
theorem s_continue : PDS X (.Continue pos) sCont := ⟨_, ps_continue, lift_cnt⟩
theorem s_never : PDS X st sNever := ⟨_, ps_never, lift_never⟩
theorem s_expr (he : PD X e de) (hs : swapsWith e none pos.line X.env = pure false := by rfl) : PDS X (.Expr e pos) (sDrop de) := by
  obtain ⟨_, p, l⟩ := he.ex
  exact ⟨_, ps_expr p hs, lift_drop l⟩
theorem s_ret (he : PD X e de) : PDS X (.Return (some e) pos) (sRet de) := by
  obtain ⟨_, p, l⟩ := he.ex
  exact ⟨_, ps_ret p, lift_ret l⟩
theorem s_retN : PDS X (.Return none pos) sRetN := ⟨_, ps_retN, lift_retN⟩
theorem s_if (hc : PDT X c dt) (ha : PDSs X sts ds) (hb : PDSs X st2 d2) : PDS X (.If c sts st2 pos) (sIf dt ds d2) := by
  obtain ⟨_, p, l⟩ := hc.ex
  obtain ⟨_, p1, l1⟩ := ha.ex
  obtain ⟨_, p2, l2⟩ := hb.ex
  exact ⟨_, ps_if p p1 p2, lift_ifS l l1 l2⟩
theorem g_name {i : Nat} {x : Str} (hN : X.N.Nodup) (hi : X.N[i]? = some x := by rfl) (hx : Loc X.env.scope x := by first | exact Or.inl rfl | exact Or.inr rfl) (hf : X.fn x = true ∨ X.env.scope.names.lookup x = some .local := by first | exact .inl rfl | exact .inr rfl) : PDG X (.Name x pos) (gnm i) := ⟨_, pg_name hN hi hx hf, lift_name i⟩
theorem gs_nil : PDGs X [] gNl := ⟨_, pgs_nil, lift_gnil⟩
theorem gs_cons (h1 : PDG X e dg) (h2 : PDGs X es dgs) (hs : (assignEach (e :: es) X.env).map (·.2) = assign e X.env :: (assignEach es X.env).map (·.2) := by rfl) : PDGs X (e :: es) (gCn dg dgs) := by
  obtain ⟨_, p, l⟩ := h1.ex
  obtain ⟨_, p2, l2⟩ := h2.ex
  exact ⟨_, pgs_cons p p2 hs, lift_gcons l l2⟩
theorem g_tup {k n : Nat} (h : PDGs X es dgs) (hc : X.calm = true := by rfl) (hn : (assignEach es X.env).length = n := by rfl) (hst : (assignEach es X.env).findIdx? (·.1) = none := by rfl) : PDG X (.Tuple es k pos) (gTp n dgs) := by
  obtain ⟨_, p, l⟩ := h.ex
  exact ⟨_, pg_tup hc p hn hst, lift_gtup l⟩
theorem set_all (hu : X.A.units + 1 < cLine) : PSet X rSetAll := by
  intro pins s σ H o i v ov iv vv Q I ro ri rv h
  rcases h with h | ⟨a, H', rfl, g, q⟩
  · exact set_list pins s σ H o i v ov iv vv Q I ro ri rv h
  · obtain rfl : ov = Value.ref a := ro
    exact d_setItem hu I g ri rv fun s' I' => ⟨H', I', q⟩
theorem g_sub {o i : Expr} {dO di : DE} (hu : X.A.units + 1 < cLine) (ho : PD X o dO) (hi : PD X i di)
    (ha : ∀ v, assign (.Subscript o i pos) X.env v = (do
      let ov ← holding [v] (eval o X.env)
      let iv ← holding [v, ov] (eval i X.env)
      standAt pos
      holding [v, ov, iv] (setItem ov iv v)
      release [v, ov, iv] []) := by intro _; rfl) : PDG X (.Subscript o i pos) (gSb dO di fSet) := by
  obtain ⟨_, p, l⟩ := ho.ex
  obtain ⟨_, p2, l2⟩ := hi.ex
  exact ⟨_, pg_sub p p2 (set_all hu) ha, lift_gsub l l2⟩
theorem s_asg (he : PD X e de) (hg : PDG X tg dg) (hs : swapsWithSole [tg] e pos.line X.env = pure false := by rfl) (hw : swappedStores [tg] e X.env = pure none := by rfl) (h1 : (assignEach [tg] X.env).map (·.2) = [assign tg X.env] := by rfl) : PDS X (.Assign [tg] e pos) (sAsg de dg) := by
  obtain ⟨_, p, l⟩ := he.ex
  obtain ⟨_, p2, l2⟩ := hg.ex
  exact ⟨_, ps_asg p p2 hs hw h1, lift_asg l l2⟩
theorem s_set {i : Nat} {x : Str} {pos' : Pos} (hN : X.N.Nodup) (he : PD X e de) (hi : X.N[i]? = some x := by rfl) (hx : Loc X.env.scope x := by first | exact Or.inl rfl | exact Or.inr rfl) (hs : swapsWith e (some (.Name x pos')) pos.line X.env = pure false := by rfl) (hf : X.fn x = true ∨ X.env.scope.names.lookup x = some .local := by first | exact .inl rfl | exact .inr rfl) :
    PDS X (.Assign [.Name x pos'] e pos) (sAsg de (gnm i)) := by
  obtain ⟨_, p, l⟩ := he.ex
  exact ⟨_, ps_set hN hi hx p hs hf, lift_asg l (lift_name i)⟩
theorem s_par {i j : Nat} {x y : Str} {px py pt : Pos} {kt k2 pt2} (hN : X.N.Nodup) (ha : PDA X [a, b] dA) (hc : X.calm = true := by rfl) (hi : X.N[i]? = some x := by rfl) (hj : X.N[j]? = some y := by rfl) (hij : i ≠ j := by decide)
    (hx : X.env.scope.names.lookup x = some .local := by rfl) (hy : X.env.scope.names.lookup y = some .local := by rfl)
    (hw : swappedStores [.Tuple [.Name x px, .Name y py] kt pt] (.Tuple [a, b] k2 pt2) X.env = pure (some [x, y]) := by rfl)
    (hs : swapsWithSole [.Tuple [.Name x px, .Name y py] kt pt] (.Tuple [a, b] k2 pt2) pos.line X.env = pure false := by rfl) :
    PDS X (.Assign [.Tuple [.Name x px, .Name y py] kt pt] (.Tuple [a, b] k2 pt2) pos) (sPar i j dA) := by
  obtain ⟨_, p, l⟩ := ha.ex
  exact ⟨_, ps_par hc hN hi hj hij hx hy p hw hs, lift_par l⟩
theorem i_src (he : PD X e de) : PDI X tg e (iSrc de) := by
  obtain ⟨_, p, l⟩ := he.ex
  exact ⟨_, pi_any p, lift_src l⟩
theorem i_r1 {p : Pos} (hg : Gl X "range") (hm : X.mg "range" = none) (ha : PDA X [a] dA) (hs : starEach [a] X.env = [(false, eval a X.env)] := by rfl) : PDI X tg (.Call (.Name "range" p) [a] [] pos) (iR1 dA) := by
  obtain ⟨_, p, l⟩ := ha.ex
  exact ⟨_, pi_range1 hg hm p hs, lift_R1 l⟩
theorem i_r2 {p : Pos} (hg : Gl X "range") (hm : X.mg "range" = none) (ha : PDA X [a, b] dA) (hs : starEach [a, b] X.env = [(false, eval a X.env), (false, eval b X.env)] := by rfl) (hs2 : starEach [b] X.env = [(false, eval b X.env)] := by rfl) : PDI X tg (.Call (.Name "range" p) [a, b] [] pos) (iR2 dA) := by
  obtain ⟨_, p, l⟩ := ha.ex
  exact ⟨_, pi_range2 hg hm p hs hs2, lift_R2 l⟩
theorem i_enum {p tpos : Pos} {elts : List Expr} {kk : Nat} (hg : Gl X "enumerate") (hm : X.mg "enumerate" = none) (ha : PDA X [e] dA) (hs : starEach [e] X.env = [(false, eval e X.env)] := by rfl) :
    PDI X (.Tuple elts kk tpos) (.Call (.Name "enumerate" p) [e] [] pos) (iEn dA) := by
  obtain ⟨_, p, l⟩ := ha.ex
  exact ⟨_, pi_enum hg hm p hs, lift_enum l⟩
theorem s_for (hi : PDI X tg iter di) (hg : PDG X tg dg) (hb : PDSs X sts ds) (hp : PassesOwn (model X.prog X.w) X.A X.env X.xe := by exact PassesOwn.never) (hc : X.calm = true := by rfl)
    (hs : ∀ x, foldedSetIterable iter X.env x = pure x := by intro _; rfl) : PDS X (.For tg iter sts [] pos) (sFor di dg ds) := by
  obtain ⟨_, p, l⟩ := hi.ex
  obtain ⟨_, p2, l2⟩ := hg.ex
  obtain ⟨_, p3, l3⟩ := hb.ex
  exact ⟨_, ps_for hp hc p p2 p3 hs, lift_for l l2 l3⟩
theorem s_while (hc : PDT X c dt) (hb : PDSs X sts ds) (hp : PassesOwn (model X.prog X.w) X.A X.env X.xe := by exact PassesOwn.never) : PDS X (.While c sts [] pos) (sWhile dt ds) := by
  obtain ⟨_, p, l⟩ := hc.ex
  obtain ⟨_, p2, l2⟩ := hb.ex
  exact ⟨_, ps_while hp p p2, lift_while l l2⟩
theorem i_r3 {p : Pos} (hg : Gl X "range") (hm : X.mg "range" = none) (ha : PDA X [a, b, c] dA) (hs : starEach [a, b, c] X.env = (false, eval a X.env) :: starEach [b, c] X.env := by rfl) (hpl : (backTo pos (starEach [b, c] X.env)).any (·.1) = false := by rfl) : PDI X tg (.Call (.Name "range" p) [a, b, c] [] pos) (iR3 dA) := by
  obtain ⟨_, p, l⟩ := ha.ex
  exact ⟨_, pi_range3 hg hm p hs hpl, lift_R3 l⟩
theorem d_call {P : SpD} {k n : Nat} {f : Addr} {fd : FuncData} {ps : List Str} {x : Str} {p : Pos} (F : FnOk X.prog X.w X.K X.mg X.base CX0 k f fd ps (toSp X.K n P)) (hr : Room k X.A) (hg : Gl X x) (hm : X.mg x = some (.ref f)) (hk : PySem.W.keepIn X.K (.ref f) = true) (hb : Binds X.K fd ps [])
    (ha : PDA X (e :: es) dA) (hdb : (x == ("__debug__" : Str)) = false := by decide) (he : starEach (e :: es) X.env = (false, eval e X.env) :: starEach es X.env := by rfl) (hpl : (backTo pos (starEach es X.env)).any (·.1) = false := by rfl) :
    PD X (.Call (.Name x p) (e :: es) [] pos) (dCall n P dA) := by
  obtain ⟨_, pa, la⟩ := ha.ex
  exact ⟨_, pe_call F hr hg hm hk hb .nil pass0 pa hdb he hpl, lift_call la⟩
structure PDTs (X : Cx) (ifs : List Expr) (dt : DT) : Prop where
  run : PTs X ifs (toTT X.K dt)
def dYes : DT := fun _ S C => C true S
theorem ts_nil : PDTs X [] dYes := ⟨⟨fun pins s σ H Q I ⟨F, fr, S, L, C, f, o, hd, q⟩ => (pts_nil (X := X)).run pins s σ H Q I (q true S H o hd)⟩⟩
theorem ts_one (h : PDT X c dt) : PDTs X [c] dt := ⟨pts_one h.pt⟩
theorem lc_core' {E : List R → SH → CR0 → Prop} (hE : ∀ K, EndD K E) {elt : Expr} {x : Str} {p : Pos} {ifs : List Expr} {scope : Scope} {i : Nat} (hN : X.N.Nodup) (hi : PDI X (.Name x p) iter di) (ok : BlkOk X.N X.env.scope scope [(x, i)])
    (hg : ∀ (s : Shared) (H : Hp) (C : Addr) (cl : List (Str × Addr)) (fp : List Addr), PG (X.blk s H scope (compEnvC scope cl C X.env) fp) (.Name x p) (gName i))
    (ht : ∀ (s : Shared) (H : Hp) (C : Addr) (cl : List (Str × Addr)) (fp : List Addr), PDTs (X.blk s H scope (compEnvC scope cl C X.env) fp) ifs dt)
    (he : ∀ (s : Shared) (H : Hp) (C : Addr) (cl : List (Str × Addr)) (fp : List Addr), PD (X.blk s H scope (compEnvC scope cl C X.env) fp) elt de)
    (hc : X.calm = true) (hs : ∀ x, foldedSetIterable iter X.env x = pure x) :
    PD X (.ListComp elt [⟨.Name x p, iter, ifs, 0⟩] scope pos) (dLcG E di i dt de) := by
  obtain ⟨_, pi, li⟩ := hi.ex
  exact ⟨_, pe_lc (own := [(x, i)]) (te := toTE X.K de) (tt := toTT X.K dt) hc hN pi ok hg (fun s H C cl fp => (ht s H C cl fp).run) (fun s H C cl fp => (he s H C cl fp).pe) hs, lift_lc (hE X.K) li (liftT_to dt) (lift_to de)⟩
theorem d_lc {elt : Expr} {x : Str} {p : Pos} {ifs : List Expr} {scope : Scope} {i : Nat} (hN : X.N.Nodup) (hi : PDI X (.Name x p) iter di) (ok : BlkOk X.N X.env.scope scope [(x, i)])
    (hg : ∀ (s : Shared) (H : Hp) (C : Addr) (cl : List (Str × Addr)) (fp : List Addr), PG (X.blk s H scope (compEnvC scope cl C X.env) fp) (.Name x p) (gName i))
    (ht : ∀ (s : Shared) (H : Hp) (C : Addr) (cl : List (Str × Addr)) (fp : List Addr), PDTs (X.blk s H scope (compEnvC scope cl C X.env) fp) ifs dt)
    (he : ∀ (s : Shared) (H : Hp) (C : Addr) (cl : List (Str × Addr)) (fp : List Addr), PD (X.blk s H scope (compEnvC scope cl C X.env) fp) elt de)
    (hc : X.calm = true := by rfl) (hs : ∀ x, foldedSetIterable iter X.env x = pure x := by intro _; rfl) :
    PD X (.ListComp elt [⟨.Name x p, iter, ifs, 0⟩] scope pos) (dLc di i dt de) := lc_core' (fun _ => end_dat) hN hi ok hg ht he hc hs
theorem d_lcC {elt : Expr} {x : Str} {p : Pos} {ifs : List Expr} {scope : Scope} {i : Nat} (hN : X.N.Nodup) (hi : PDI X (.Name x p) iter di) (ok : BlkOk X.N X.env.scope scope [(x, i)])
    (hg : ∀ (s : Shared) (H : Hp) (C : Addr) (cl : List (Str × Addr)) (fp : List Addr), PG (X.blk s H scope (compEnvC scope cl C X.env) fp) (.Name x p) (gName i))
    (ht : ∀ (s : Shared) (H : Hp) (C : Addr) (cl : List (Str × Addr)) (fp : List Addr), PDTs (X.blk s H scope (compEnvC scope cl C X.env) fp) ifs dt)
    (he : ∀ (s : Shared) (H : Hp) (C : Addr) (cl : List (Str × Addr)) (fp : List Addr), PD (X.blk s H scope (compEnvC scope cl C X.env) fp) elt de)
    (hc : X.calm = true := by rfl) (hs : ∀ x, foldedSetIterable iter X.env x = pure x := by intro _; rfl) :
    PD X (.ListComp elt [⟨.Name x p, iter, ifs, 0⟩] scope pos) (dLcC di i dt de) := lc_core' (fun _ => end_cel) hN hi ok hg ht he hc hs
/-- y = [..], y a local -/
theorem lcS_core {E : List R → SH → CR0 → Prop} (hE : ∀ K, EndD K E) {elt : Expr} {x y : Str} {p py spos : Pos} {ifs : List Expr} {scope : Scope} {i j : Nat} (hN : X.N.Nodup) (hi : PDI X (.Name x p) iter di) (ok : BlkOk X.N X.env.scope scope [(x, i)])
    (hg : ∀ (s : Shared) (H : Hp) (C : Addr) (cl : List (Str × Addr)) (fp : List Addr), PG (X.blk s H scope (compEnvC scope cl C X.env) fp) (.Name x p) (gName i))
    (ht : ∀ (s : Shared) (H : Hp) (C : Addr) (cl : List (Str × Addr)) (fp : List Addr), PDTs (X.blk s H scope (compEnvC scope cl C X.env) fp) ifs dt)
    (he : ∀ (s : Shared) (H : Hp) (C : Addr) (cl : List (Str × Addr)) (fp : List Addr), PD (X.blk s H scope (compEnvC scope cl C X.env) fp) elt de)
    (hc : X.calm = true) (hy : X.N[j]? = some y) (hyl : X.env.scope.names.lookup y = some .local)
    (hsw : swapsWith (.ListComp elt [⟨.Name x p, iter, ifs, 0⟩] scope pos) (some (.Name y py)) spos.line X.env = pure true) (hs : ∀ x, foldedSetIterable iter X.env x = pure x) :
    PDS X (.Assign [.Name y py] (.ListComp elt [⟨.Name x p, iter, ifs, 0⟩] scope pos) spos) (sAsg (dLcG E di i dt de) (gnm j)) := by
  obtain ⟨_, pi, li⟩ := hi.ex
  exact ⟨_, ps_setLc (own := [(x, i)]) (te := toTE X.K de) (tt := toTT X.K dt) hc hN hy hyl hsw pi ok hg (fun s H C cl fp => (ht s H C cl fp).run) (fun s H C cl fp => (he s H C cl fp).pe) hs, lift_asg (lift_lc (hE X.K) li (liftT_to dt) (lift_to de)) (lift_name j)⟩
theorem s_lc {elt : Expr} {x y : Str} {p py spos : Pos} {ifs : List Expr} {scope : Scope} {i j : Nat} (hN : X.N.Nodup) (hi : PDI X (.Name x p) iter di) (ok : BlkOk X.N X.env.scope scope [(x, i)])
    (hg : ∀ (s : Shared) (H : Hp) (C : Addr) (cl : List (Str × Addr)) (fp : List Addr), PG (X.blk s H scope (compEnvC scope cl C X.env) fp) (.Name x p) (gName i))
    (ht : ∀ (s : Shared) (H : Hp) (C : Addr) (cl : List (Str × Addr)) (fp : List Addr), PDTs (X.blk s H scope (compEnvC scope cl C X.env) fp) ifs dt)
    (he : ∀ (s : Shared) (H : Hp) (C : Addr) (cl : List (Str × Addr)) (fp : List Addr), PD (X.blk s H scope (compEnvC scope cl C X.env) fp) elt de)
    (hc : X.calm = true := by rfl) (hy : X.N[j]? = some y := by rfl) (hyl : X.env.scope.names.lookup y = some .local := by rfl)
    (hsw : swapsWith (.ListComp elt [⟨.Name x p, iter, ifs, 0⟩] scope pos) (some (.Name y py)) spos.line X.env = pure true := by exact sw_true rfl rfl rfl (by decide +kernel)) (hs : ∀ x, foldedSetIterable iter X.env x = pure x := by intro _; rfl) :
    PDS X (.Assign [.Name y py] (.ListComp elt [⟨.Name x p, iter, ifs, 0⟩] scope pos) spos) (sAsg (dLc di i dt de) (gnm j)) := lcS_core (fun _ => end_dat) hN hi ok hg ht he hc hy hyl hsw hs
theorem s_lcC {elt : Expr} {x y : Str} {p py spos : Pos} {ifs : List Expr} {scope : Scope} {i j : Nat} (hN : X.N.Nodup) (hi : PDI X (.Name x p) iter di) (ok : BlkOk X.N X.env.scope scope [(x, i)])
    (hg : ∀ (s : Shared) (H : Hp) (C : Addr) (cl : List (Str × Addr)) (fp : List Addr), PG (X.blk s H scope (compEnvC scope cl C X.env) fp) (.Name x p) (gName i))
    (ht : ∀ (s : Shared) (H : Hp) (C : Addr) (cl : List (Str × Addr)) (fp : List Addr), PDTs (X.blk s H scope (compEnvC scope cl C X.env) fp) ifs dt)
    (he : ∀ (s : Shared) (H : Hp) (C : Addr) (cl : List (Str × Addr)) (fp : List Addr), PD (X.blk s H scope (compEnvC scope cl C X.env) fp) elt de)
    (hc : X.calm = true := by rfl) (hy : X.N[j]? = some y := by rfl) (hyl : X.env.scope.names.lookup y = some .local := by rfl)
    (hsw : swapsWith (.ListComp elt [⟨.Name x p, iter, ifs, 0⟩] scope pos) (some (.Name y py)) spos.line X.env = pure true := by exact sw_true rfl rfl rfl (by decide +kernel)) (hs : ∀ x, foldedSetIterable iter X.env x = pure x := by intro _; rfl) :
    PDS X (.Assign [.Name y py] (.ListComp elt [⟨.Name x p, iter, ifs, 0⟩] scope pos) spos) (sAsg (dLcC di i dt de) (gnm j)) := lcS_core (fun _ => end_cel) hN hi ok hg ht he hc hy hyl hsw hs
end
end DL
set_option Elab.async false
set_option linter.all false
set_option maxRecDepth 100000
set_option maxHeartbeats 4000000
/-! DL, fourth part: built-in functions and methods. -/
namespace DL
open PySem PySem.Spec PyProof.Rows L2

section
variable {K : Fg}
def intsOf : List PyData → Option (List Int)
  | [] => some []
  | .int i :: r => (intsOf r).map fun ns => i :: ns
  | _ :: _ => none
theorem intsOf_map : ∀ ns : List Int, intsOf (ns.map PyData.int) = some ns
  | [] => rfl
  | n :: ns => by show (intsOf (ns.map PyData.int)).map _ = _; rw [intsOf_map ns]; rfl
theorem of_intsOf : ∀ {ds : List PyData} {ns : List Int}, intsOf ds = some ns → ds = ns.map PyData.int
  | [], _, h => by cases h; rfl
  | .int d :: r, ds, h => by
    cases e : intsOf r with
    | none => simp [intsOf, e] at h
    | some es =>
      have h' : some (d :: es) = some ds := by simpa [intsOf, e] using h
      cases h'
      rw [List.map_cons, of_intsOf e]
  | .none :: _, _, h => by simp [intsOf] at h
  | .bool _ :: _, _, h => by simp [intsOf] at h
  | .str _ :: _, _, h => by simp [intsOf] at h
  | .list _ :: _, _, h => by simp [intsOf] at h
  | .tuple _ :: _, _, h => by simp [intsOf] at h
  | .dict _ :: _, _, h => by simp [intsOf] at h
/-! len -/
def fLen : FA := fun rs S C => match rs with
  | [.dat (.list ds)] => C (.dat (.int ds.length)) S
  | [.dat (.tuple ds)] => C (.dat (.int ds.length)) S
  | [.dat (.str z)] => z.length ≤ 100000 ∧ C (.dat (.int z.length)) S
  | [.scr ns] => C (.dat (.int ns.length)) S
  | [.tp rs] => C (.dat (.int rs.length)) S
  | [.val (.ref p)] => ∃ (j : Nat) (xs : List R), S[j]? = some (.lst p xs) ∧ C (.dat (.int xs.length)) S
  | _ => False
theorem cd_len : CallD K (fun xs H Q => ∃ x n, xs = [x] ∧ LenV K x H n ∧ Q (.int n) H) fLen := by
  intro F vs rs H S L C Q o lv hf q
  unfold fLen at hf
  split at hf
  · cases lv with | cons m t =>
    cases t
    have hr := o.dat m
    cases hr with | lst h1 n1 q1 =>
    exact ⟨_, _, rfl, .inl ⟨_, SqL.of h1, q1.length.symm⟩, q _ _ S H (o.pd (.int _)) hf⟩
  · cases lv with | cons m t =>
    cases t
    have hr := o.dat m
    cases hr with | tup h1 q1 =>
    exact ⟨_, _, rfl, .inr ⟨_, sqT_of (A := Av S) h1, q1.length.symm⟩, q _ _ S H (o.pd (.int _)) hf⟩
  · cases lv with | cons m t =>
    cases t
    have hr := o.dat m
    cases hr
    exact ⟨_, _, rfl, ⟨big_of hf.1, rfl⟩, q _ _ S H (o.pd (.int _)) hf.2⟩
  · rename_i ns
    cases lv with | cons m t =>
    cases t
    obtain ⟨a, rfl, h1⟩ := o.live _ m
    exact ⟨_, ns.length, rfl, .inl ⟨_, h1.sq, by simp⟩, q _ _ S H (o.pd (.int _)) hf⟩
  · rename_i rs
    cases lv with | cons m t =>
    cases t
    obtain ⟨a, us, rfl, h1, q1⟩ := o.live _ m
    exact ⟨_, _, rfl, .inr ⟨_, sqT_of (A := Av S) h1, (paired_len q1.pair).symm⟩, q _ _ S H (o.pd (.int _)) hf⟩
  · rename_i p
    cases lv with | cons m t =>
    cases t
    cases o.val m
    obtain ⟨j, xs, hj, h⟩ := hf
    obtain ⟨us, e1, q1⟩ := o.cells _ (at_split (in_app hj))
    exact ⟨_, _, rfl, .inl ⟨_, SqL.of e1, (paired_len q1).symm⟩, q _ _ S H (o.pd (.int _)) h⟩
  · exact hf.elim
/-! int(x) -/
def fInt : FA := fun rs S C => match rs with
  | [.dat (.int i)] => C (.dat (.int i)) S
  | [.dat (.bool b)] => C (.dat (.int (if b then 1 else 0))) S
  | [.dat (.str z)] => ∃ n, PySem.intText? z = some n ∧ z.length ≤ 640 ∧ C (.dat (.int n)) S
  | _ => False
def rInt : List V → Hp → VK → Prop := fun xs H Q => ((∃ i, xs = [.int i] ∧ Q (.int i) H) ∨ ∃ k, xs = [.bl k] ∧ Q (.int (if k then 1 else 0)) H) ∨ ∃ (a : Str) (n : Int), xs = [.str a] ∧ PySem.intText? a = some n ∧ a.length ≤ 640 ∧ Q (.int n) H
theorem cr_int {X : Cx} : CallR X (.type "int") rInt := call_int1.or call_int_str
theorem cd_int : CallD K rInt fInt := by
  intro F vs rs H S L C Q o lv hf q
  unfold fInt at hf
  split at hf
  · cases lv with | cons m t =>
    cases t
    cases rep_int_inv (o.dat m)
    exact .inl (.inl ⟨_, rfl, q _ _ S H (o.pd (.int _)) hf⟩)
  · cases lv with | cons m t =>
    cases t
    cases rep_bool_inv (o.dat m)
    exact .inl (.inr ⟨_, rfl, q _ _ S H (o.pd (.int _)) hf⟩)
  · cases lv with | cons m t =>
    cases t
    have hr := o.dat m
    cases hr
    obtain ⟨n, h1, h2, h3⟩ := hf
    exact .inr ⟨_, n, rfl, h1, h2, q _ _ S H (o.pd (.int _)) h3⟩
  · exact hf.elim
/-! str(n) -/
def fStr : FA := fun rs S C => match rs with
  | [.dat (.int i)] => i.natAbs.log2 < 1920 ∧ C (.dat (.str (toString i))) S
  | _ => False
theorem cd_str : CallD K (fun xs H Q => ∃ i, xs = [.int i] ∧ i.natAbs.log2 < 1920 ∧ Q (.str (toString i)) H) fStr := by
  intro F vs rs H S L C Q o lv hf q
  unfold fStr at hf
  split at hf
  · cases lv with | cons m t =>
    cases t
    cases rep_int_inv (o.dat m)
    exact ⟨_, rfl, hf.1, q _ _ S H (o.pd (.str _)) hf.2⟩
  · exact hf.elim
/-! sum, max, min, sorted of a list of ints -/
def fSum : FA := fun rs S C => match rs with
  | [.dat (.list ds)] => ∃ ns, intsOf ds = some ns ∧ C (.dat (.int ns.sum)) S
  | _ => False
theorem cd_sum : CallD K (rSum K) fSum := by
  intro F vs rs H S L C Q o lv hf q
  unfold fSum at hf
  split at hf
  · cases lv with | cons m t =>
    cases t
    obtain ⟨ns, e, h⟩ := hf
    have e' := of_intsOf e
    subst e'
    have hr := o.dat m
    cases hr with | lst h1 n1 q1 =>
    rw [q1.ints_inv] at h1
    exact ⟨_, ns, rfl, SqL.of h1, q _ _ S H (o.pd (.int _)) h⟩
  · exact hf.elim
def fMax : FA := fun rs S C => match rs with
  | [.dat (.list ds)] => ∃ ns, intsOf ds = some ns ∧ ns ≠ [] ∧ ∀ m, m ∈ ns → (∀ y ∈ ns, y ≤ m) → C (.dat (.int m)) S
  | [.dat (.int i), .dat (.int j)] => C (.dat (.int (if j > i then j else i))) S
  | _ => False
def fMin : FA := fun rs S C => match rs with
  | [.dat (.list ds)] => ∃ ns, intsOf ds = some ns ∧ ns ≠ [] ∧ ∀ m, m ∈ ns → (∀ y ∈ ns, m ≤ y) → C (.dat (.int m)) S
  | [.dat (.int i), .dat (.int j)] => C (.dat (.int (if j < i then j else i))) S
  | _ => False
def rMaxAll (K : Fg) : List V → Hp → VK → Prop := fun xs H Q => rMax K xs H Q ∨ ∃ i j, xs = [.int i, .int j] ∧ Q (.int (if j > i then j else i)) H
def rMinAll (K : Fg) : List V → Hp → VK → Prop := fun xs H Q => rMin K xs H Q ∨ ∃ i j, xs = [.int i, .int j] ∧ Q (.int (if j < i then j else i)) H
theorem cr_maxA {X : Cx} (hc : X.calm = true) : CallR X (.builtin "max") (rMaxAll X.K) := (cr_max hc).or (call_max2 hc)
theorem cr_minA {X : Cx} (hc : X.calm = true) : CallR X (.builtin "min") (rMinAll X.K) := (cr_min hc).or (call_min2 hc)
theorem cd_max : CallD K (rMaxAll K) fMax := by
  intro F vs rs H S L C Q o lv hf q
  unfold fMax at hf
  split at hf
  · cases lv with | cons m t =>
    cases t
    obtain ⟨ns, e, hne, h⟩ := hf
    have e' := of_intsOf e
    subst e'
    have hr := o.dat m
    cases hr with | lst h1 n1 q1 =>
    rw [q1.ints_inv] at h1
    exact .inl ⟨_, ns, rfl, SqL.of h1, List.length_pos_iff.mpr hne, fun m hm hy => q _ _ S H (o.pd (.int _)) (h m hm hy)⟩
  · cases lv with | cons m t => cases t with | cons m2 t =>
    cases t
    cases rep_int_inv (o.dat m)
    cases rep_int_inv (o.dat m2)
    exact .inr ⟨_, _, rfl, q _ _ S H (o.pd (.int _)) hf⟩
  · exact hf.elim
theorem cd_min : CallD K (rMinAll K) fMin := by
  intro F vs rs H S L C Q o lv hf q
  unfold fMin at hf
  split at hf
  · cases lv with | cons m t =>
    cases t
    obtain ⟨ns, e, hne, h⟩ := hf
    have e' := of_intsOf e
    subst e'
    have hr := o.dat m
    cases hr with | lst h1 n1 q1 =>
    rw [q1.ints_inv] at h1
    exact .inl ⟨_, ns, rfl, SqL.of h1, List.length_pos_iff.mpr hne, fun m hm hy => q _ _ S H (o.pd (.int _)) (h m hm hy)⟩
  · cases lv with | cons m t => cases t with | cons m2 t =>
    cases t
    cases rep_int_inv (o.dat m)
    cases rep_int_inv (o.dat m2)
    exact .inr ⟨_, _, rfl, q _ _ S H (o.pd (.int _)) hf⟩
  · exact hf.elim
def fSorted : FA := fun rs S C => match rs with
  | [.dat (.list ds)] => ∃ ns, intsOf ds = some ns ∧ ∀ ns' : List Int, ns'.Perm ns → ns'.Pairwise (· ≤ ·) → C (.dat (.list (ns'.map PyData.int))) S
  | _ => False
theorem cd_sorted : CallD K (rSortedI K) fSorted := by
  intro F vs rs H S L C Q o lv hf q
  unfold fSorted at hf
  split at hf
  · cases lv with | cons m t =>
    cases t
    obtain ⟨ns, e, h⟩ := hf
    have e' := of_intsOf e
    subst e'
    have hr := o.dat m
    cases hr with | lst h1 n1 q1 =>
    rw [q1.ints_inv] at h1
    exact ⟨_, ns, rfl, SqL.of h1, fun ns' p hp hs hn => q _ _ S _ (o.lst hn (RepAll.ints ns')) (h ns' hp hs)⟩
  · exact hf.elim
/-! list(x), tuple(x) -/
def fList : FA := fun rs S C => match rs with
  | [.dat (.list ds)] => C (.dat (.list ds)) S
  | [.dat (.tuple ds)] => C (.dat (.list ds)) S
  | [.val (.ref p)] => ∃ (j : Nat) (xs : List R) (ds : List PyData), S[j]? = some (.lst p xs) ∧ dats xs = some ds ∧ C (.dat (.list ds)) S
  | _ => False
def fListC : FA := fun rs S C => match rs with
  | [.dat (.list ds)] => ∀ p, C (.val (.ref p)) (.lst p (ds.map R.dat) :: S)
  | [.dat (.tuple ds)] => ∀ p, C (.val (.ref p)) (.lst p (ds.map R.dat) :: S)
  | [.val (.ref q)] => ∃ (j : Nat) (xs : List R), S[j]? = some (.lst q xs) ∧ ∀ p, C (.val (.ref p)) (.lst p xs :: S)
  | _ => False
abbrev rListOf (K : Fg) : List V → Hp → VK → Prop := fun xs H Q => ∃ p ys, xs = [.ref p] ∧ (SqL K H p ys ∨ SqT K H p ys) ∧ ∀ l, H l = none → Q (.ref l) (upd H l (.lst ys))
theorem cd_list : CallD K (rListOf K) fList := by
  intro F vs rs H S L C Q o lv hf q
  unfold fList at hf
  split at hf
  · cases lv with | cons m t =>
    cases t
    have hr := o.dat m
    cases hr with | lst h1 n1 q1 =>
    exact ⟨_, _, rfl, .inl (SqL.of h1), fun l hl => q _ _ S _ (o.lst hl q1) hf⟩
  · cases lv with | cons m t =>
    cases t
    have hr := o.dat m
    cases hr with | tup h1 q1 =>
    exact ⟨_, _, rfl, .inr (sqT_of (A := Av S) h1), fun l hl => q _ _ S _ (o.lst hl q1) hf⟩
  · cases lv with | cons m t =>
    cases t
    cases o.val m
    obtain ⟨j, xs, ds, hj, e, h⟩ := hf
    obtain ⟨us, e1, q1⟩ := o.cells _ (at_split (in_app hj))
    exact ⟨_, _, rfl, .inl (SqL.of e1), fun l hl => q _ _ S _ (o.lst hl (reps_all q1 e)) h⟩
  · exact hf.elim
theorem cd_listC : CallD K (rListOf K) fListC := by
  intro F vs rs H S L C Q o lv hf q
  unfold fListC at hf
  split at hf
  · cases lv with | cons m t =>
    cases t
    have hr := o.dat m
    cases hr with | lst h1 n1 q1 =>
    exact ⟨_, _, rfl, .inl (SqL.of h1), fun l hl => q _ _ (_ :: S) _ (Ok.push (r := .val (.ref l)) (o.lstC hl (all_reps q1)) rfl) (hf l)⟩
  · cases lv with | cons m t =>
    cases t
    have hr := o.dat m
    cases hr with | tup h1 q1 =>
    exact ⟨_, _, rfl, .inr (sqT_of (A := Av S) h1), fun l hl => q _ _ (_ :: S) _ (Ok.push (r := .val (.ref l)) (o.lstC hl (all_reps q1)) rfl) (hf l)⟩
  · cases lv with | cons m t =>
    cases t
    cases o.val m
    obtain ⟨j, xs, hj, h⟩ := hf
    obtain ⟨us, e1, q1⟩ := o.cells _ (at_split (in_app hj))
    exact ⟨_, _, rfl, .inl (SqL.of e1), fun l hl => q _ _ (_ :: S) _ (Ok.push (r := .val (.ref l)) (o.lstC hl q1) rfl) (h l)⟩
  · exact hf.elim
def fTuple : FA := fun rs S C => match rs with
  | [.dat (.list ds)] => C (.dat (.tuple ds)) S
  | [.dat (.tuple ds)] => C (.dat (.tuple ds)) S
  | [.val (.ref p)] => ∃ (j : Nat) (xs : List R) (ds : List PyData), S[j]? = some (.lst p xs) ∧ dats xs = some ds ∧ C (.dat (.tuple ds)) S
  | _ => False
abbrev rTupleOf (K : Fg) : List V → Hp → VK → Prop := fun xs H Q => ∃ p ys, xs = [.ref p] ∧ ((SqL K H p ys ∧ ∀ l, H l = none → Q (.ref l) (upd H l (.tup ys))) ∨ (SqT K H p ys ∧ Q (.ref p) H))
theorem cd_tuple : CallD K (rTupleOf K) fTuple := by
  intro F vs rs H S L C Q o lv hf q
  unfold fTuple at hf
  split at hf
  · cases lv with | cons m t =>
    cases t
    have hr := o.dat m
    cases hr with | lst h1 n1 q1 =>
    exact ⟨_, _, rfl, .inl ⟨SqL.of h1, fun l hl => q _ _ S _ (o.tup hl q1) hf⟩⟩
  · cases lv with | cons m t =>
    cases t
    have hr := o.dat m
    cases hr with | tup h1 q1 =>
    exact ⟨_, _, rfl, .inr ⟨sqT_of (A := Av S) h1, q _ _ S H (o.pd (.tup h1 q1)) hf⟩⟩
  · cases lv with | cons m t =>
    cases t
    cases o.val m
    obtain ⟨j, xs, ds, hj, e, h⟩ := hf
    obtain ⟨us, e1, q1⟩ := o.cells _ (at_split (in_app hj))
    exact ⟨_, _, rfl, .inl ⟨SqL.of e1, fun l hl => q _ _ S _ (o.tup hl (reps_all q1 e)) h⟩⟩
  · exact hf.elim
/-! isinstance -/
inductive Kd where
  | non | bl | int | str | lst | tup
def Kd.nm : Kd → String
  | .non => "NoneType" | .bl => "bool" | .int => "int" | .str => "str" | .lst => "list" | .tup => "tuple"
def kdOf : PyData → Option Kd
  | .none => some .non
  | .bool _ => some .bl
  | .int _ => some .int
  | .str _ => some .str
  | .list _ => some .lst
  | .tuple _ => some .tup
  | .dict _ => none
/-- what kind a live value has: its cell, where it is one -/
def kdR (S : SH) : R → Kd → Prop
  | .dat d, k => kdOf d = some k
  | .tp _, k => k = .tup
  | .val (.ref p), k => k = .lst ∧ ∃ (j : Nat) (xs : List R), S[j]? = some (.lst p xs)
  | _, _ => False
theorem kd_ty {F : SH} {H : Hp} {S : SH} {L : Live} {v : V} {r : R} {k : Kd} (o : OkF K F H S L) (m : (v, r) ∈ L) (h : kdR S r k) : TyX K H v (.type k.nm) := by
  have hr := o.live _ m
  cases r with
  | dat d =>
    have h : kdOf d = some k := h
    cases hr with
    | non => cases h; exact .base .non
    | bl b => cases h; exact .base (.bl b)
    | int i => cases h; exact .base (.int i)
    | str x => cases h; exact .base (.str x)
    | lst e n q => cases h; exact .base (.lst e)
    | tup e q =>
      cases h
      rcases e with e | ⟨ob, its, n, e, c, _⟩
      · exact .base (.tup e)
      · exact .kTuple e c
  | val w =>
    cases w with
    | ref p =>
      obtain ⟨rfl, j, xs, hj⟩ := h
      cases (show v = V.ref p from hr)
      obtain ⟨us, e1, _⟩ := o.cells _ (at_split (in_app hj))
      exact .base (.lst e1)
    | _ => exact h.elim
  | scr ns => exact h.elim
  | tp rs =>
    cases (show k = .tup from h)
    obtain ⟨a, vs, rfl, e, _⟩ := hr
    rcases e with e | ⟨ob, its, n, e, c, _⟩
    · exact .base (.tup e)
    · exact .kTuple e c
  | obj C ks rs => exact h.elim
  | dic ks rs => exact h.elim
  | exc a C d fs => exact h.elim
  | fn f c o q t vs rs => exact h.elim
/-- isinstance(x, T): by the kind -/
def fIsi (T : String) (g : Kd → Bool) : FA := fun rs S C => match rs with
  | [r, .val (.ty U)] => U = T ∧ ∃ k, kdR S r k ∧ C (.dat (.bool (g k))) S
  | _ => False
theorem cd_isi {T : String} {g : Kd → Bool} (hT : ∀ k : Kd, kitB k.nm T = some (g k)) : CallD K (rIsi K) (fIsi T g) := by
  intro F vs rs H S L C Q o lv hf q
  unfold fIsi at hf
  split at hf
  · cases lv with | cons m t => cases t with | cons m2 t =>
    cases t
    obtain ⟨rfl, k, hk, h⟩ := hf
    cases o.val m2
    exact ⟨_, _, _, _, _, rfl, .ty _, kd_ty o m hk, kit_ty (hT k), q _ _ S H (o.pd (.bl _)) h⟩
  · exact hf.elim
def gInt : Kd → Bool | .int => true | .bl => true | _ => false
def gBool : Kd → Bool | .bl => true | _ => false
def gStr : Kd → Bool | .str => true | _ => false
def gList : Kd → Bool | .lst => true | _ => false
def gTuple : Kd → Bool | .tup => true | _ => false
theorem kit_int : ∀ k : Kd, kitB k.nm "int" = some (gInt k) := fun k => by cases k <;> decide +kernel
theorem kit_bool : ∀ k : Kd, kitB k.nm "bool" = some (gBool k) := fun k => by cases k <;> decide +kernel
theorem kit_str : ∀ k : Kd, kitB k.nm "str" = some (gStr k) := fun k => by cases k <;> decide +kernel
theorem kit_list : ∀ k : Kd, kitB k.nm "list" = some (gList k) := fun k => by cases k <;> decide +kernel
theorem kit_tuple : ∀ k : Kd, kitB k.nm "tuple" = some (gTuple k) := fun k => by cases k <;> decide +kernel
/-! xs.append(e) -/
def dApp (da de : DE) : DE := fun fr S C => da fr S fun a S1 => match a with
  | .val (.ref p) => (∃ (j : Nat) (xs : List R), S1[j]? = some (.lst p xs)) ∧ de fr S1 fun r S2 => ∃ (j : Nat) (xs : List R), S2[j]? = some (.lst p xs) ∧ xs.length < 100000 ∧ C (.dat .none) (S2.set j (.lst p (xs ++ [r])))
  | _ => False
theorem lift_app {to te : TE} {da de : DE} (la : Lift K to da) (le : Lift K te de) : Lift K (tBM K "list" rAppend to (tCons te tNil)) (dApp da de) := by
  intro F H σ fr S L fo o C Q hd q
  refine la F H σ fr S L fo o _ _ hd fun x a S1 H1 o1 h1 => ?_
  split at h1
  · rename_i p
    obtain ⟨⟨j, xs, hj⟩, h1⟩ := h1
    cases o1.val List.mem_cons_self
    obtain ⟨us, e1, _⟩ := o1.cells _ (at_split (in_app hj))
    refine ⟨.inl ⟨rfl, _, SqL.of e1⟩, ?_⟩
    refine le F H1 σ fr S1 _ (fo.mono tl_mem) o1 _ _ h1 fun v r S2 H2 o2 h2 => ?_
    obtain ⟨j2, ys, hj2, hl, h2⟩ := h2
    obtain ⟨ws, e2, q2⟩ := o2.cells _ (at_split (in_app hj2))
    refine ⟨p, ws, v, rfl, rfl, e2, by rw [paired_len q2]; exact big_lt hl, ?_⟩
    have o3 := o2.putL (in_app hj2) (paired_app q2 (.cons (o2.live (v, r) List.mem_cons_self) .nil))
    rw [set_app hj2] at o3
    exact q _ _ _ _ ((o3.sub fun e he => List.mem_cons_of_mem _ (List.mem_cons_of_mem _ he)).pd .non) h2
  · exact h1.elim
/-! {} -/
def dNewD : DE := fun _ S C => ∀ p, C (.val (.ref p)) (.dct p [] :: S)
theorem lift_newD : Lift K tDNewK dNewD := fun F H σ fr S L fo o C Q hd q p hp => q _ _ (.dct p [] :: S) _ (Ok.push (r := .val (.ref p)) (o.cell (c := .dct p []) rfl hp ⟨[], upd_same, .nil⟩) rfl) (hd p)
end
section
variable {X : Cx} {a b c e : Expr} {da db dc de : DE} {dA : DA} {pos p : Pos} {es : List Expr}
theorem d_len (hg : Gl X "len") (hm : X.mg "len" = none) (ha : PDA X [e] dA) (he : starEach [e] X.env = [(false, eval e X.env)] := by rfl) : PD X (.Call (.Name "len" p) [e] [] pos) (dCB fLen dA) := d_callB call_len cd_len hg hm PySem.boot_len ha (by decide) (by decide) he (by rfl)
theorem d_intF (hg : Gl X "int") (hm : X.mg "int" = none) (ha : PDA X [e] dA) (he : starEach [e] X.env = [(false, eval e X.env)] := by rfl) : PD X (.Call (.Name "int" p) [e] [] pos) (dCB fInt dA) := d_callTy cr_int cd_int hg hm (by decide +kernel) ha (by decide) (by decide) he (by rfl)
theorem d_strF (hg : Gl X "str") (hm : X.mg "str" = none) (ha : PDA X [e] dA) (he : starEach [e] X.env = [(false, eval e X.env)] := by rfl) : PD X (.Call (.Name "str" p) [e] [] pos) (dCB fStr dA) := d_callTy call_str_int cd_str hg hm (by decide +kernel) ha (by decide) (by decide) he (by rfl)
theorem d_sum (hg : Gl X "sum") (hm : X.mg "sum" = none) (ha : PDA X [e] dA) (hc : X.calm = true := by rfl) (he : starEach [e] X.env = [(false, eval e X.env)] := by rfl) : PD X (.Call (.Name "sum" p) [e] [] pos) (dCB fSum dA) := d_callB (cr_sum hc) cd_sum hg hm (by decide +kernel) ha (by decide) (by decide) he (by rfl)
theorem d_max1 (hg : Gl X "max") (hm : X.mg "max" = none) (ha : PDA X [e] dA) (hc : X.calm = true := by rfl) (he : starEach [e] X.env = [(false, eval e X.env)] := by rfl) : PD X (.Call (.Name "max" p) [e] [] pos) (dCB fMax dA) := d_callB (cr_maxA hc) cd_max hg hm (by decide +kernel) ha (by decide) (by decide) he (by rfl)
theorem d_max2 (hg : Gl X "max") (hm : X.mg "max" = none) (ha : PDA X [a, b] dA) (hc : X.calm = true := by rfl) (he : starEach [a, b] X.env = (false, eval a X.env) :: starEach [b] X.env := by rfl) (hpl : (backTo pos (starEach [b] X.env)).any (·.1) = false := by rfl) : PD X (.Call (.Name "max" p) [a, b] [] pos) (dCB fMax dA) := d_callB (cr_maxA hc) cd_max hg hm (by decide +kernel) ha (by decide) (by decide) he hpl
theorem d_min1 (hg : Gl X "min") (hm : X.mg "min" = none) (ha : PDA X [e] dA) (hc : X.calm = true := by rfl) (he : starEach [e] X.env = [(false, eval e X.env)] := by rfl) : PD X (.Call (.Name "min" p) [e] [] pos) (dCB fMin dA) := d_callB (cr_minA hc) cd_min hg hm (by decide +kernel) ha (by decide) (by decide) he (by rfl)
theorem d_min2 (hg : Gl X "min") (hm : X.mg "min" = none) (ha : PDA X [a, b] dA) (hc : X.calm = true := by rfl) (he : starEach [a, b] X.env = (false, eval a X.env) :: starEach [b] X.env := by rfl) (hpl : (backTo pos (starEach [b] X.env)).any (·.1) = false := by rfl) : PD X (.Call (.Name "min" p) [a, b] [] pos) (dCB fMin dA) := d_callB (cr_minA hc) cd_min hg hm (by decide +kernel) ha (by decide) (by decide) he hpl
theorem d_sorted (hg : Gl X "sorted") (hm : X.mg "sorted" = none) (ha : PDA X [e] dA) (he : starEach [e] X.env = [(false, eval e X.env)] := by rfl) : PD X (.Call (.Name "sorted" p) [e] [] pos) (dCB fSorted dA) := d_callB cr_sortedI cd_sorted hg hm (by decide +kernel) ha (by decide) (by decide) he (by rfl)
theorem d_list (hg : Gl X "list") (hm : X.mg "list" = none) (ha : PDA X [e] dA) (he : starEach [e] X.env = [(false, eval e X.env)] := by rfl) : PD X (.Call (.Name "list" p) [e] [] pos) (dCB fList dA) := d_callTy call_list_of cd_list hg hm (by decide +kernel) ha (by decide) (by decide) he (by rfl)
theorem d_listC (hg : Gl X "list") (hm : X.mg "list" = none) (ha : PDA X [e] dA) (he : starEach [e] X.env = [(false, eval e X.env)] := by rfl) : PD X (.Call (.Name "list" p) [e] [] pos) (dCB fListC dA) := d_callTy call_list_of cd_listC hg hm (by decide +kernel) ha (by decide) (by decide) he (by rfl)
theorem d_tuple (hg : Gl X "tuple") (hm : X.mg "tuple" = none) (ha : PDA X [e] dA) (he : starEach [e] X.env = [(false, eval e X.env)] := by rfl) : PD X (.Call (.Name "tuple" p) [e] [] pos) (dCB fTuple dA) := d_callTy call_tuple_of cd_tuple hg hm (by decide +kernel) ha (by decide) (by decide) he (by rfl)
theorem d_isi {T : String} {g : Kd → Bool} (hT : ∀ k : Kd, kitB k.nm T = some (g k)) (hg : Gl X "isinstance") (hm : X.mg "isinstance" = none) (ha : PDA X [a, b] dA) (he : starEach [a, b] X.env = (false, eval a X.env) :: starEach [b] X.env := by rfl) (hpl : (backTo pos (starEach [b] X.env)).any (·.1) = false := by rfl) :
    PD X (.Call (.Name "isinstance" p) [a, b] [] pos) (dCB (fIsi T g) dA) := d_callB call_isi (cd_isi hT) hg hm (by decide +kernel) ha (by decide) (by decide) he hpl
theorem d_app {apos : Pos} (ha : PD X a da) (he : PD X e de) (hp : PE X (.Call (.Attribute a "append" apos) [e] [] pos) (tBM X.K "list" rAppend (toTE X.K da) (tCons (toTE X.K de) tNil))) : PD X (.Call (.Attribute a "append" apos) [e] [] pos) (dApp da de) := ⟨_, hp, lift_app (lift_to da) (lift_to de)⟩
theorem d_newD : PD X (.Dict [] [] pos) dNewD := ⟨_, pe_dnewK, lift_newD⟩
end
end DL
set_option Elab.async false
set_option linter.all false
set_option maxRecDepth 100000
set_option maxHeartbeats 4000000
/-! DL, fifth part: defs of the text as they are called; the built-in names. -/
namespace DL
open PySem PySem.Spec PyProof.Rows L2

structure Blt (mg : Str → Option Value) : Prop where
  len : mg "len" = none
  range : mg "range" = none
  int : mg "int" = none
  sum : mg "sum" = none
  max : mg "max" = none
  min : mg "min" = none
  sorted : mg "sorted" = none
  list : mg "list" = none
  tuple : mg "tuple" = none
  isinstance : mg "isinstance" = none
  enumerate : mg "enumerate" = none
  str : mg "str" = none
  bool : mg "bool" = none
  zip : mg "zip" = none
  set : mg "set" = none
  dict : mg "dict" = none

/-- a def of the top as it stands -/
structure FunAt (K : Fg) (mg : Str → Option Value) (x : Str) (st : Stmt) (ps : List Str) : Prop where
  ex : ∃ f fd, Fun K x x st f fd ∧ mg x = some (.ref f) ∧ Binds K fd ps []
/-- a def of the top and its promise -/
structure Def (P : Program) (w : World) (K : Fg) (mg : Str → Option Value) (base : Heap) (x : Str) (k n : Nat) (sp : SpD) : Prop where
  ex : ∃ f fd ps, FnOk P w K mg base CX0 k f fd ps (toSp K n sp) ∧ mg x = some (.ref f) ∧ PySem.W.keepIn K (.ref f) = true ∧ Binds K fd ps []
theorem Def.mono {P : Program} {w : World} {K : Fg} {mg : Str → Option Value} {base : Heap} {x : Str} {j k n : Nat} {sp : SpD} (d : Def P w K mg base x j n sp) (h : j ≤ k) : Def P w K mg base x k n sp := by
  obtain ⟨f, fd, ps, a, b⟩ := d.ex
  exact ⟨f, fd, ps, a.mono h, b⟩
/-- a weaker promise -/
theorem Def.imp {P : Program} {w : World} {K : Fg} {mg : Str → Option Value} {base : Heap} {x : Str} {k n : Nat} {sp sp' : SpD} (d : Def P w K mg base x k n sp) (h : ∀ rs S C, rs.length = n → sp' rs S C → sp rs S C) : Def P w K mg base x k n sp' := by
  obtain ⟨f, fd, ps, a, b⟩ := d.ex
  exact ⟨f, fd, ps, a.imp fun vs H Q E ⟨hl, F, S, L, rs, C, o, lv, hs, q⟩ => ⟨hl, F, S, L, rs, C, o, lv, h rs S C ((paired_len lv).symm.trans hl) hs, q⟩, b⟩
section
variable {P : Program} {w : World} {K : Fg} {mg : Str → Option Value} {base : Heap}
theorem okF {x : Str} {st : Stmt} {N ps : List Str} {k n : Nat} {sp : SpD} (Fn : FunAt K mg x st ps) (Sc : FnScope N ps (defScope st)) (hn : ps.length = n)
    (hbody : ∀ (cdv : Value) (A : Around) (outer : List Env) (s : Shared) (H : Hp) (E : XK) (f : Addr), Room k (A.deeper (envOfC x (defScope st) s.heap.objs.size f cdv)) →
      ∃ ds, PDSs (cxOf CX0 P w K mg base N x (defScope st) f cdv A outer s H E).nox (defBody st) ds ∧ ∀ rs S C, rs.length = n → sp rs S C → ds { nx := fun _ S => C (.dat .none) S, rt := C } (startF N rs) S) : Def P w K mg base x (k + 1) n sp := by
  obtain ⟨f, fd, Fu, hm, hb⟩ := Fn.ex
  exact ⟨f, fd, ps, okD Fu Sc hn fun cdv A outer s H E hr => hbody cdv A outer s H E f hr, hm, Fu.kp, hb⟩
end
section
variable {X : Cx} {a b c e : Expr} {da db dc de : DE} {dA : DA} {pos p : Pos} {es : List Expr}
theorem d_callF {sp : SpD} {k n : Nat} {x : Str} (d : Def X.prog X.w X.K X.mg X.base x k n sp) (hr : Room k X.A) (hg : Gl X x)
    (ha : PDA X (e :: es) dA) (hdb : (x == ("__debug__" : Str)) = false := by decide) (he : starEach (e :: es) X.env = (false, eval e X.env) :: starEach es X.env := by rfl) (hpl : (backTo pos (starEach es X.env)).any (·.1) = false := by rfl) :
    PD X (.Call (.Name x p) (e :: es) [] pos) (dCall n sp dA) := by
  obtain ⟨f, fd, ps, F, hm, hk, hb⟩ := d.ex
  exact d_call F hr hg hm hk hb ha hdb he hpl
theorem d_appT {apos : Pos} (ha : PD X a da) (he : PD X e de) (hbase : attributeBase a "append" X.env (eval a X.env) = eval a X.env := by rfl)
    (hfew : ((backTo pos (starEach [e] X.env)).all (fun x => !x.1) && (backToKw pos (keywordEach [] X.env)).all (fun x => x.1.isSome)
      && decide (([e] : List Expr).length + ([] : List Keyword).length + (if ([] : List Keyword).isEmpty then 0 else 1) < 30)) = true := by rfl)
    (hline : (apos.endLine == pos.line) = true := by rfl) (hs : starEach [e] X.env = [(false, eval e X.env)] := by rfl) : PD X (.Call (.Attribute a "append" apos) [e] [] pos) (dApp da de) :=
  d_app ha he (pe_bm PySem.F.plainAttrs_list PySem.F.slot_list_append PySem.F.type_list_append mt_append ha.pe (pa_cons he.pe pa_nil hs) hbase hfew hline hs rfl)
end

theorem ite2d {p : Prop} [Decidable p] {A B : Prop} (h1 : p → A) (h2 : ¬ p → B) : if decide p = true then A else B := by
  by_cases h : p
  · rw [if_pos (decide_eq_true h)]; exact h1 h
  · rw [if_neg (by rw [decide_eq_false h]; exact Bool.false_ne_true)]; exact h2 h
theorem ite2b {b : Bool} {A B : Prop} (h1 : b = true → A) (h2 : b = false → B) : if b = true then A else B := by
  cases b with
  | true => rw [if_pos rfl]; exact h1 rfl
  | false => rw [if_neg Bool.false_ne_true]; exact h2 rfl
theorem iteTb {b : Bool} {A B : Prop} (h : b = true) (h1 : A) : if b = true then A else B := by rw [if_pos h]; exact h1
theorem iteFb {b : Bool} {A B : Prop} (h : b = false) (h1 : B) : if b = true then A else B := by rw [if_neg (by rw [h]; exact Bool.false_ne_true)]; exact h1
theorem iteTd {p : Prop} [Decidable p] {A B : Prop} (h : p) (h1 : A) : if decide p = true then A else B := iteTb (decide_eq_true h) h1
theorem iteFd {p : Prop} [Decidable p] {A B : Prop} (h : ¬ p) (h1 : B) : if decide p = true then A else B := iteFb (decide_eq_false h) h1
theorem getset {S : SH} {j : Nat} {c : Cell} (h : S[j]? = some c) (c' : Cell) : (S.set j c')[j]? = some c' := by
  obtain ⟨hl, _⟩ := List.getElem?_eq_some_iff.mp h
  exact List.getElem?_set_self hl
theorem cdiv {i j : Int} (h : 0 < j) (h2 : j < 1073741824) : CDivW i j := wide_div (b := 30) h (by
  have e : (2 : Nat) ^ 30 = 1073741824 := by decide
  rw [e]; omega) (by decide) (by decide)
theorem cmul {i j : Int} (h : -4294967296 < i) (h2 : i < 4294967296) (h3 : -4294967296 < j) (h4 : j < 4294967296) : CMulW i j := wide_mul (a := 32) (b := 32) (by
  have e : (2 : Nat) ^ 32 = 4294967296 := by decide
  rw [e]; omega) (by
  have e : (2 : Nat) ^ 32 = 4294967296 := by decide
  rw [e]; omega) (by decide) (by decide) (by decide)
/-! ### the dice -/
/-- the dice: the script, the place, the mixed number, what is left of a great one -/
def DiceOk (rs : List R) : Prop := ∃ (ns : List Int) (at_ mixed left : Int), rs = [.scr ns, .dat (.int at_), .dat (.int mixed), .dat (.int left)] ∧ 0 ≤ at_ ∧ 0 ≤ mixed ∧ mixed < 2147483647
abbrev dice (D : Addr) : Cell := .pk D DiceOk
end DL
set_option Elab.async false
set_option linter.all false
set_option maxRecDepth 100000
set_option maxHeartbeats 4000000
/-! DL, sixth part: forms of loops and comprehensions that one uses; the dice's next. -/
namespace DL
open PySem PySem.Spec PyProof.Rows L2

/-- a comprehension whose tests and elements are told by the item alone -/
theorem lc_pure {E : List R → SH → CR0 → Prop} {items : List R} {fr : Fr} {S : SH} {C : CR0} {i : Nat} {dt : DT} {de : DE} (p : R → Bool) (g : R → R)
    (ht : ∀ r, r ∈ items → ∀ C' : Bool → SH → Prop, C' (p r) S → dt (fr.set i (some r)) S C') (he : ∀ r, r ∈ items → p r = true → ∀ C' : CR0, C' (g r) S → de (fr.set i (some r)) S C') (hl : items.length ≤ 100000)
    (h : E ((items.filter p).map g) S C) : ∃ I : Nat → List R → SH → Prop, I 0 [] S ∧
  (∀ k r acc S, items[k]? = some r → I k acc S → dt (fr.set i (some r)) S fun b S2 => if b = true then de (fr.set i (some r)) S2 fun y S3 => acc.length < 100000 ∧ I (k + 1) (acc ++ [y]) S3 else I (k + 1) acc S2) ∧
  ∀ acc S, I items.length acc S → E acc S C := by
  refine ⟨fun k acc S' => S' = S ∧ acc = ((items.take k).filter p).map g, ⟨rfl, rfl⟩, ?_, ?_⟩
  · rintro k r acc S' hk ⟨rfl, rfl⟩
    have hm : r ∈ items := List.mem_of_getElem? hk
    obtain ⟨hlt, _⟩ := List.getElem?_eq_some_iff.mp hk
    have et : items.take (k + 1) = items.take k ++ [r] := by rw [List.take_add_one, hk]; rfl
    refine ht r hm _ ?_
    refine ite2b (fun hp => ?_) (fun hp => ?_)
    · refine he r hm hp _ ⟨?_, rfl, ?_⟩
      · rw [List.length_map]
        have h1 := List.length_filter_le p (items.take k)
        have h2 := List.length_take_le k items
        omega
      · rw [et, List.filter_append, List.map_append, List.filter_cons, if_pos hp]; rfl
    · refine ⟨rfl, ?_⟩
      rw [et, List.filter_append, List.filter_cons, if_neg (by rw [hp]; exact Bool.false_ne_true)]; simp
  · rintro acc S' ⟨rfl, rfl⟩
    rw [List.take_length]; exact h
/-- without a test -/
theorem lc_map {E : List R → SH → CR0 → Prop} {items : List R} {fr : Fr} {S : SH} {C : CR0} {i : Nat} {de : DE} (g : R → R)
    (he : ∀ r, r ∈ items → ∀ C' : CR0, C' (g r) S → de (fr.set i (some r)) S C') (hl : items.length ≤ 100000) (h : E (items.map g) S C) : ∃ I : Nat → List R → SH → Prop, I 0 [] S ∧
  (∀ k r acc S, items[k]? = some r → I k acc S → dYes (fr.set i (some r)) S fun b S2 => if b = true then de (fr.set i (some r)) S2 fun y S3 => acc.length < 100000 ∧ I (k + 1) (acc ++ [y]) S3 else I (k + 1) acc S2) ∧
  ∀ acc S, I items.length acc S → E acc S C :=
  lc_pure (fun _ => true) g (fun _ _ _ q => q) (fun r hr _ C' q => he r hr C' q) hl (by rw [List.filter_eq_self.mpr (fun _ _ => rfl)]; exact h)
/-- elements that are drawn: each as Q tells of its item -/
theorem lc_nd {E : List R → SH → CR0 → Prop} {items : List R} {fr : Fr} {S : SH} {C : CR0} {i : Nat} {de : DE} (P : R → Prop)
    (he : ∀ (k : Nat) r, items[k]? = some r → ∀ C' : CR0, (∀ y, P y → C' y S) → de (fr.set i (some r)) S C') (hl : items.length ≤ 100000) (h : ∀ acc : List R, acc.length = items.length → (∀ y ∈ acc, P y) → E acc S C) : ∃ I : Nat → List R → SH → Prop, I 0 [] S ∧
  (∀ k r acc S, items[k]? = some r → I k acc S → dYes (fr.set i (some r)) S fun b S2 => if b = true then de (fr.set i (some r)) S2 fun y S3 => acc.length < 100000 ∧ I (k + 1) (acc ++ [y]) S3 else I (k + 1) acc S2) ∧
  ∀ acc S, I items.length acc S → E acc S C := by
  refine ⟨fun k acc S' => S' = S ∧ acc.length = k ∧ ∀ y ∈ acc, P y, ⟨rfl, rfl, by simp⟩, ?_, ?_⟩
  · rintro k r acc S' hk ⟨rfl, hlen, hP⟩
    obtain ⟨hlt, _⟩ := List.getElem?_eq_some_iff.mp hk
    refine he k r hk _ fun y hy => ⟨by omega, rfl, by rw [List.length_append, hlen]; rfl, fun z hz => ?_⟩
    rcases List.mem_append.mp hz with hz | hz
    · exact hP z hz
    · cases List.mem_singleton.mp hz; exact hy
  · rintro acc S' ⟨rfl, hlen, hP⟩
    exact h acc hlen hP
/-- elements that are drawn, each by its place -/
theorem lc_ndI {E : List R → SH → CR0 → Prop} {items : List R} {fr : Fr} {S : SH} {C : CR0} {i : Nat} {de : DE} (P : Nat → R → Prop)
    (he : ∀ (k : Nat) r, items[k]? = some r → ∀ C' : CR0, (∀ y, P k y → C' y S) → de (fr.set i (some r)) S C') (hl : items.length ≤ 100000) (h : ∀ acc : List R, acc.length = items.length → (∀ (k : Nat) y, acc[k]? = some y → P k y) → E acc S C) : ∃ I : Nat → List R → SH → Prop, I 0 [] S ∧
  (∀ k r acc S, items[k]? = some r → I k acc S → dYes (fr.set i (some r)) S fun b S2 => if b = true then de (fr.set i (some r)) S2 fun y S3 => acc.length < 100000 ∧ I (k + 1) (acc ++ [y]) S3 else I (k + 1) acc S2) ∧
  ∀ acc S, I items.length acc S → E acc S C := by
  refine ⟨fun k acc S' => S' = S ∧ acc.length = k ∧ ∀ (m : Nat) y, acc[m]? = some y → P m y, ⟨rfl, rfl, by simp⟩, ?_, ?_⟩
  · rintro k r acc S' hk ⟨rfl, hlen, hP⟩
    obtain ⟨hlt, _⟩ := List.getElem?_eq_some_iff.mp hk
    refine he k r hk _ fun y hy => ⟨by omega, rfl, by rw [List.length_append, hlen]; rfl, fun m z hz => ?_⟩
    rw [List.getElem?_append] at hz
    split at hz
    · exact hP m z hz
    · rename_i hm
      have e : m = acc.length := by
        obtain ⟨h1, _⟩ := List.getElem?_eq_some_iff.mp hz
        simp at h1
        omega
      subst e
      simp at hz
      subst hz
      rw [hlen]; exact hy
  · rintro acc S' ⟨rfl, hlen, hP⟩
    exact h acc hlen hP
/-- drawn ints -/
theorem ints_of_acc {lo hi : Int} : ∀ {acc : List R}, (∀ y ∈ acc, ∃ i : Int, y = .dat (.int i) ∧ lo ≤ i ∧ i ≤ hi) → ∃ ns : List Int, acc = ns.map (fun n => R.dat (.int n)) ∧ ∀ n ∈ ns, lo ≤ n ∧ n ≤ hi
  | [], _ => ⟨[], rfl, by simp⟩
  | y :: r, h => by
    obtain ⟨ns, e, hb⟩ := ints_of_acc (acc := r) fun z hz => h z (List.mem_cons_of_mem _ hz)
    obtain ⟨i, ei, h1, h2⟩ := h y List.mem_cons_self
    refine ⟨i :: ns, by rw [ei, e]; rfl, fun n hn => ?_⟩
    rcases List.mem_cons.mp hn with rfl | hn
    · exact ⟨h1, h2⟩
    · exact hb n hn
theorem dats_ints (ns : List Int) : dats (ns.map (fun n => R.dat (.int n))) = some (ns.map PyData.int) := by
  have e : ns.map (fun n => R.dat (.int n)) = (ns.map PyData.int).map R.dat := by rw [List.map_map]; rfl
  rw [e, dats_map]
theorem set_same {S : SH} {j : Nat} {c : Cell} (h : S[j]? = some c) : S.set j c = S := by
  apply List.ext_getElem?
  intro i
  rw [List.getElem?_set]
  split
  · rename_i e
    subst e
    obtain ⟨hl, _⟩ := List.getElem?_eq_some_iff.mp h
    rw [if_pos hl, h]
  · rfl
theorem cutD_map {α β : Type} (f : α → β) (xs : List α) (lo hi : Option Int) : cutD (xs.map f) lo hi = (cutD xs lo hi).map f := by
  unfold cutD
  rw [List.length_map, List.map_take, List.map_drop]
theorem enum_get {ds : List PyData} {i : Nat} {r : R} (h : (enumD ds)[i]? = some r) : ∃ d, ds[i]? = some d ∧ r = .dat (.tuple [.int (i : Int), d]) := by
  unfold enumD at h
  rw [List.getElem?_map] at h
  by_cases hi : i < ds.length
  · rw [List.getElem?_range hi] at h
    cases h
    have e1 : ds[i]? = some ds[i] := List.getElem?_eq_getElem hi
    exact ⟨ds[i], e1, by show R.dat (.tuple [.int (i : Int), ds.getD i .none]) = _; rw [List.getD_eq_getElem?_getD, e1]; rfl⟩
  · rw [List.getElem?_eq_none (by simpa using hi)] at h
    cases h
theorem enum_len (ds : List PyData) : (enumD ds).length = ds.length := by simp [enumD]
theorem get_ints {ns : List Int} {i : Nat} {d : PyData} (h : (ns.map PyData.int)[i]? = some d) : ∃ n, ns[i]? = some n ∧ d = .int n := by
  rw [List.getElem?_map] at h
  cases e : ns[i]? with
  | none => rw [e] at h; cases h
  | some n => rw [e] at h; exact ⟨n, rfl, (Option.some.inj h).symm⟩
theorem get_dat {ds : List PyData} {i : Nat} {r : R} (h : (ds.map R.dat)[i]? = some r) : ∃ d, ds[i]? = some d ∧ r = .dat d := by
  rw [List.getElem?_map] at h
  cases e : ds[i]? with
  | none => rw [e] at h; cases h
  | some n => rw [e] at h; exact ⟨n, rfl, (Option.some.inj h).symm⟩
theorem mem_ints {ns : List Int} {r : R} (h : r ∈ (ns.map PyData.int).map R.dat) : ∃ n ∈ ns, r = .dat (.int n) := by
  obtain ⟨d, hd, rfl⟩ := List.mem_map.mp h
  obtain ⟨n, hn, rfl⟩ := List.mem_map.mp hd
  exact ⟨n, hn, rfl⟩
theorem rng_get {lo : Int} {n i : Nat} {r : R} (h : (rng lo n)[i]? = some r) : i < n ∧ r = .dat (.int (lo + (i : Int))) := by
  unfold rng at h
  rw [List.getElem?_map] at h
  by_cases hi : i < n
  · rw [List.getElem?_range hi] at h
    cases h
    exact ⟨hi, rfl⟩
  · rw [List.getElem?_eq_none (by simpa using hi)] at h
    cases h
theorem rng_len (lo : Int) (n : Nat) : (rng lo n).length = n := by simp [rng]
theorem rngD_get {hi : Int} {n i : Nat} {r : R} (h : (rngD hi n)[i]? = some r) : i < n ∧ r = .dat (.int (hi - (i : Int))) := by
  unfold rngD at h
  rw [List.getElem?_map] at h
  by_cases hi : i < n
  · rw [List.getElem?_range hi] at h
    cases h
    exact ⟨hi, rfl⟩
  · rw [List.getElem?_eq_none (by simpa using hi)] at h
    cases h
theorem rngD_len (hi : Int) (n : Nat) : (rngD hi n).length = n := by simp [rngD]
/-! ### the dice's next -/
def spNext : SpD := fun rs S C => ∃ (D : Addr) (n : Int) (j : Nat), rs = [.val (.ref D), .dat (.int n)] ∧ S[j]? = some (dice D) ∧ 0 < n ∧ n < 1073741824 ∧ ∀ r, 0 ≤ r → r < n → C (.dat (.int r)) S
/-- the same, the dice being open -/
def spNext0 : SpD := fun rs S C => ∃ (D : Addr) (n : Int) (j : Nat) (xs : List R), rs = [.val (.ref D), .dat (.int n)] ∧ S[j]? = some (.lst D xs) ∧ DiceOk xs ∧ 0 < n ∧ n < 1073741824 ∧ ∀ r ys, 0 ≤ r → r < n → DiceOk ys → C (.dat (.int r)) (S.set j (.lst D ys))
/-- a draw below a number that is known -/
theorem dnext {fr : Fr} {S : SH} {C : CR0} {D : Addr} {n : Int} {i j : Nat} (hv : fr[i]? = some (some (.val (.ref D)))) (hj : S[j]? = some (dice D)) (h0 : 0 < n) (h1 : n < 1073741824) (q : ∀ r, 0 ≤ r → r < n → C (.dat (.int r)) S) :
    dCall 2 spNext (dCons (dVar i) (dCons (dC (.dat (.int n))) dNil)) fr S C := ⟨_, hv, rfl, D, n, j, rfl, hj, h0, h1, q⟩
theorem dnextV {fr : Fr} {S : SH} {C : CR0} {D : Addr} {n : Int} {i j m : Nat} (hv : fr[i]? = some (some (.val (.ref D)))) (hm : fr[m]? = some (some (.dat (.int n)))) (hj : S[j]? = some (dice D)) (h0 : 0 < n) (h1 : n < 1073741824) (q : ∀ r, 0 ≤ r → r < n → C (.dat (.int r)) S) :
    dCall 2 spNext (dCons (dVar i) (dCons (dVar m) dNil)) fr S C := ⟨_, hv, _, hm, rfl, D, n, j, rfl, hj, h0, h1, q⟩
theorem dnextE {fr : Fr} {S : SH} {C : CR0} {D : Addr} {dn : DE} {i j : Nat} (n : Int) (hv : fr[i]? = some (some (.val (.ref D)))) (hj : S[j]? = some (dice D)) (hn : ∀ C', C' (.dat (.int n)) S → dn fr S C') (h0 : 0 < n) (h1 : n < 1073741824) (q : ∀ r, 0 ≤ r → r < n → C (.dat (.int r)) S) :
    dCall 2 spNext (dCons (dVar i) (dCons dn dNil)) fr S C := ⟨_, hv, hn _ ⟨rfl, D, n, j, rfl, hj, h0, h1, q⟩⟩
/-- an item of a list that is written -/
theorem pick {α : Type} {ds : List α} {r : Int} (h0 : 0 ≤ r) (h1 : r < ds.length) : ∃ d, atI ds r = some d ∧ d ∈ ds := by
  have e : r = ((r.toNat : Nat) : Int) := by omega
  have hl : r.toNat < ds.length := by omega
  refine ⟨ds[r.toNat], ?_, List.getElem_mem hl⟩
  have z := atI_nat (List.getElem?_eq_getElem hl)
  rw [← e] at z
  exact z
theorem next_of {P : Program} {w : World} {K : Fg} {mg : Str → Option Value} {base : Heap} {x : Str} {k : Nat} (d : Def P w K mg base x k 2 spNext0) : Def P w K mg base x k 2 spNext := by
  obtain ⟨f, fd, ps, a, b⟩ := d.ex
  refine ⟨f, fd, ps, a.imp fun vs H Q E h => ?_, b⟩
  obtain ⟨hl, F, S, L, rs, C, o, lv, ⟨D, n, j, rfl, hj, hn, hn2, q⟩, fin⟩ := h
  obtain ⟨xs, hx, o2⟩ := o.open_pk (in_app (F := F) hj)
  rw [set_app hj] at o2
  refine ⟨hl, F, S.set j (.lst D xs), L, _, fun r S' => ∃ i ys, r = .dat (.int i) ∧ 0 ≤ i ∧ i < n ∧ DiceOk ys ∧ S' = (S.set j (.lst D xs)).set j (.lst D ys), o2, lv, ⟨D, n, j, xs, rfl, getset hj _, hx, hn, hn2, fun r ys h0 h1 hy => ⟨r, ys, rfl, h0, h1, hy, rfl⟩⟩, ?_⟩
  rintro v r S' H' o' ⟨i, ys, rfl, h0, h1, hy, rfl⟩
  rw [List.set_set] at o'
  have o3 := o'.pack (P := DiceOk) (in_app (F := F) (getset hj (.lst D ys))) hy
  rw [set_app (getset hj _), List.set_set, set_same hj] at o3
  exact fin v _ S H' o3 (q i h0 h1)
end DL
set_option Elab.async false
set_option linter.all false
set_option maxRecDepth 100000
set_option maxHeartbeats 4000000
/-! DL: min of data that is compared place by place (tuples of numbers and lists). -/
namespace DL
open PySem PySem.Spec PyProof.Rows L2

/-- < between what stands at two places, wherever the objects of h0 are kept -/
def LtIn (prog : Program) (w : World) (A : Around) (h0 : Heap) (P : Nat → Value → Prop) (bt : Nat → Nat → Bool) : Prop :=
  ∀ i j vi vj (s : Shared) (Q : Value → Shared → Prop) (E : Value → Shared → Prop), j < i → (∀ b o, h0.get? b = some o → s.heap.get? b = some o) → P i vi → P j vj → Q (.bool (bt i j)) s → wpAny (model prog w) A (richCompare .Lt vi vj) Q E s
theorem argBest_le (bt : Nat → Nat → Bool) : ∀ k, argBest bt k ≤ k
  | 0 => Nat.le_refl _
  | k + 1 => by
    unfold argBest
    split
    · exact Nat.le_refl _
    · exact Nat.le_succ_of_le (argBest_le bt k)
section
variable {prog : Program} {w : World} {A : Around} {R : Result → Shared → Prop} {I : Addr} {fp wr : List Addr} {n : Nat} {P : Nat → Value → Prop} {St : Nat → Heap → Prop} {h0 : Heap}
theorem minloop (W : Walks prog w A.in1 I fp wr n P St) (bt : Nat → Nat → Bool) (lt : LtIn prog w A.in1 h0 P bt) (S : Addr) (hSf : S ∉ fp) (hw : ∀ b o, h0.get? b = some o → b ∉ wr ∧ b ≠ S) :
    ∀ (k j : Nat) (s : Shared) (vb : Value) (c : Nat), n - (j + 1) = k → j + 1 ≤ n → St (j + 1) s.heap → P (argBest bt j) vb → (∀ b o, h0.get? b = some o → s.heap.get? b = some o) →
    s.heap.get? S = some { cls := .type "list", dict := none, data := .seq #[vb, vb] c, slots := #[] } →
    (∀ v h' tk, P (argBest bt (n - 1)) v → (∀ b o, b ∉ wr → b ≠ S → s.heap.get? b = some o → h'.get? b = some o) → R (.ok (.ret v)) { s with heap := h', toks := tk }) →
    codeAny (model prog w) A (.builtin "min.loop" ⟨[.ref I, .none, .ref S], []⟩) R s := by
  have nSw : S ∉ wr := fun h => hSf (W.sub _ h)
  have nm : (toString "min" ++ toString ".loop" : String) = "min.loop" := by decide
  intro k
  induction k with
  | zero =>
    intro j s vb c hk hj st pb keep hS fin
    have ej : j + 1 = n := by omega
    refine codeAny_builtin F.entry_min_loop ?_
    rw [Around.under_plainId F.plain_min_loop _]
    show wpAny _ A.in1 (seqItems? (.ref S) >>= _) _ _ s
    refine wpAny_bind (wpAny_seqItems hS rfl ?_)
    show wpAny _ A.in1 (tryCatch (pyNext (.ref I)) _ >>= _) _ _ s
    refine wpAny_bind (wpAny_tryCatch (W.done s _ _ (ej ▸ st) fun h' tk kp => ?_))
    have hS' := kp S _ nSw hS
    show wpAny _ A.in1 (updateSeq S (fun _ => #[]) >>= _) _ _ _
    refine wpAny_bind ?_
    refine wpAny_updateSeq hS' rfl (wpAny_bind (wpAny_letGo (wpAny_pure ?_)))
    exact fin vb _ tk (by rw [← ej]; exact pb) fun b o hb hbS e => (Heap.get?_update_other _ _ (Ne.symm hbS)).trans (kp b o hb e)
  | succ k ih =>
    intro j s vb c hk hj st pb keep hS fin
    have lj : j + 1 < n := by omega
    refine codeAny_builtin F.entry_min_loop ?_
    rw [Around.under_plainId F.plain_min_loop _]
    show wpAny _ A.in1 (seqItems? (.ref S) >>= _) _ _ s
    refine wpAny_bind (wpAny_seqItems hS rfl ?_)
    show wpAny _ A.in1 (tryCatch (pyNext (.ref I)) _ >>= _) _ _ s
    refine wpAny_bind (wpAny_tryCatch (W.item (j + 1) s _ _ lj st fun v h' tk pv st' kp => ?_))
    have hS' := kp S _ nSw hS
    have keep' : ∀ b o, h0.get? b = some o → h'.get? b = some o := fun b o e => kp b o (hw b o e).1 (keep b o e)
    show wpAny _ A.in1 (tryCatch (holding [v, v] (richCompare .Lt v vb >>= _)) _ >>= _) _ _ _
    refine wpAny_bind (wpAny_tryCatch (wpAny_holding (wpAny_bind (lt (j + 1) (argBest bt j) v vb _ _ _ (Nat.lt_succ_of_le (argBest_le bt j)) keep' pv pb ?_))))
    refine wpAny_bind (wpAny_holding (wpAny_truthy_bool ?_))
    refine wpAny_bind (wpAny_letGo (wpAny_pure ?_))
    cases hb : bt (j + 1) (argBest bt j) with
    | true =>
      simp only [if_true]
      refine wpAny_bind ?_
      refine wpAny_updateSeq hS' rfl (wpAny_bind (wpAny_letGo ?_))
      rw [nm]
      refine wpAny_pure ⟨plainId_quiet F.plain_min_loop _, ih (j + 1) _ v _ (by omega) lj (W.frame _ _ _ st' fun b hbf o e => ?_) (by simp only [argBest, hb, if_true]; exact pv) (fun b o e => (Heap.get?_update_other _ _ (Ne.symm (hw b o e).2)).trans (keep' b o e)) (Heap.get?_update_self _ hS' rfl) fun v' h'' tk'' pv' kp'' => ?_⟩
      · exact (Heap.get?_update_other _ _ (fun h : S = b => hSf (by rw [h]; exact hbf))).trans e
      · exact fin v' h'' tk'' pv' fun b o hbw hbS e => kp'' b o hbw hbS ((Heap.get?_update_other _ _ (Ne.symm hbS)).trans (kp b o hbw e))
    | false =>
      simp only [Bool.false_eq_true, if_false]
      refine wpAny_bind (wpAny_letGo ?_)
      rw [nm]
      refine wpAny_pure ⟨plainId_quiet F.plain_min_loop _, ih (j + 1) _ vb c (by omega) lj st' (by simp only [argBest, hb, Bool.false_eq_true, if_false]; exact pb) keep' hS' fun v' h'' tk'' pv' kp'' => ?_⟩
      exact fin v' h'' tk'' pv' fun b o hbw hbS e => kp'' b o hbw hbS (kp b o hbw e)
theorem minfirst (W : Walks prog w A.in1 I fp wr n P St) (bt : Nat → Nat → Bool) (lt : LtIn prog w A.in1 h0 P bt) (S : Addr) (hSf : S ∉ fp) (hw : ∀ b o, h0.get? b = some o → b ∉ wr ∧ b ≠ S) (hn : 0 < n) {s : Shared} {c : Nat} (st : St 0 s.heap)
    (keep : ∀ b o, h0.get? b = some o → s.heap.get? b = some o) (hS : s.heap.get? S = some { cls := .type "list", dict := none, data := .seq #[] c, slots := #[] })
    (fin : ∀ v h' tk, P (argBest bt (n - 1)) v → (∀ b o, b ∉ wr → b ≠ S → s.heap.get? b = some o → h'.get? b = some o) → R (.ok (.ret v)) { s with heap := h', toks := tk }) :
    codeAny (model prog w) A (.builtin "min.loop" ⟨[.ref I, .none, .ref S], []⟩) R s := by
  have nSw : S ∉ wr := fun h => hSf (W.sub _ h)
  have nm : (toString "min" ++ toString ".loop" : String) = "min.loop" := by decide
  refine codeAny_builtin F.entry_min_loop ?_
  rw [Around.under_plainId F.plain_min_loop _]
  show wpAny _ A.in1 (seqItems? (.ref S) >>= _) _ _ s
  refine wpAny_bind (wpAny_seqItems hS rfl ?_)
  show wpAny _ A.in1 (tryCatch (pyNext (.ref I)) _ >>= _) _ _ s
  refine wpAny_bind (wpAny_tryCatch (W.item 0 s _ _ hn st fun v h' tk pv st' kp => ?_))
  have hS' := kp S _ nSw hS
  show wpAny _ A.in1 (updateSeq S (fun _ => #[v, v]) >>= _) _ _ _
  refine wpAny_bind ?_
  refine wpAny_updateSeq hS' rfl ?_
  rw [nm]
  refine wpAny_pure ⟨plainId_quiet F.plain_min_loop _, minloop W bt lt S hSf hw _ 0 _ v _ rfl hn (W.frame _ _ _ st' fun b hbf o e => ?_) pv (fun b o e => (Heap.get?_update_other _ _ (Ne.symm (hw b o e).2)).trans (kp b o (hw b o e).1 (keep b o e))) (Heap.get?_update_self _ hS' rfl) fun v' h'' tk'' pv' kp'' => ?_⟩
  · exact (Heap.get?_update_other _ _ (fun h : S = b => hSf (by rw [h]; exact hbf))).trans e
  · exact fin v' h'' tk'' pv' fun b o hbw hbS e => kp'' b o hbw hbS ((Heap.get?_update_other _ _ (Ne.symm hbS)).trans (kp b o hbw e))
end
section
variable {prog : Program} {w : World} {A : Around} {E : Value → Shared → Prop} {s : Shared}
/-- min(xs), a list -/
theorem min_listH {l : Addr} {its : Array Value} {bt : Nat → Nat → Bool} {Q : Value → Shared → Prop} (hh : A.handled = none) (hl : s.heap.IsList l its) (hn : 0 < its.size) (lt : LtIn prog w A.in1 s.heap (fun i v => its[i]? = some v) bt)
    (fin : ∀ v h' tk, its[argBest bt (its.size - 1)]? = some v → (∀ b o, s.heap.get? b = some o → h'.get? b = some o) → Q v { s with heap := h', toks := tk }) : wpAny (model prog w) A (call (.builtin "min") [.ref l]) Q E s := by
  have nm : (toString "min" ++ toString ".loop" : String) = "min.loop" := by decide
  refine call_function_tree F.kind_min F.plain_min F.entry_min (F.args_min1 _) ?_
  show wpAny _ A.in1 (Builtin.Builtins.bindParams "min" ["key", "default"] 0 ⟨[], []⟩ >>= _) _ _ s
  refine wpAny_bind (wpAny_of_eq (show Builtin.Builtins.bindParams "min" ["key", "default"] 0 ⟨[], []⟩ = pure [none, none] from rfl) ?_)
  refine wpAny_bind (wpAny_pure ?_)
  refine wpAny_bind (iter_any hl fun s₂ e st hlI => ?_)
  have hlt : l < s.heap.objs.size := by obtain ⟨_, e, _⟩ := hl; exact Heap.lt_size e
  have hsz : s₂.heap.objs.size = s.heap.objs.size + 1 := by rw [e]; exact Heap.size_push ..
  have kp0 : ∀ b o, s.heap.get? b = some o → s₂.heap.get? b = some o := fun b o q => by rw [e]; exact Heap.get?_push_of_some _ q
  refine wpAny_bind (wpAny_newObj_type ?_)
  have W := Walks.list (prog := prog) (w := w) (A := A.in1) hh s.heap.objs.size l hlI its
  have hSf : s₂.heap.objs.size ∉ [s.heap.objs.size, l] := fun hm => by
    have hm' : s₂.heap.objs.size = s.heap.objs.size ∨ s₂.heap.objs.size = l := by simpa using hm
    rw [hsz] at hm'
    rcases hm' with z | z
    · omega
    · exact Nat.lt_irrefl _ (Nat.lt_trans (Nat.lt_succ_self _) (Nat.lt_of_le_of_lt (Nat.le_of_eq z) hlt))
  rw [nm]
  have far : ∀ b o, s.heap.get? b = some o → b ∉ [s.heap.objs.size] ∧ b ≠ s₂.heap.objs.size := fun b o q => ⟨fun hm => by
      have e1 : b = s.heap.objs.size := by simpa using hm
      rw [e1] at q
      exact Nat.lt_irrefl _ (Heap.lt_size q), fun z => by
      have := Heap.lt_size q
      rw [z, hsz] at this
      exact Nat.lt_irrefl _ (Nat.lt_trans (Nat.lt_succ_self _) this)⟩
  refine wpAny_pure ⟨plainId_quiet F.plain_min_loop _, minfirst (h0 := s.heap) W bt lt _ hSf far hn (W.frame _ _ _ st fun b _ o e => Heap.get?_push_of_some _ e) (fun b o q => Heap.get?_push_of_some _ (kp0 b o q)) (Heap.get?_push_size _ rfl) fun v h' tk pv kp => ?_⟩
  have hq := fin v h' tk pv fun b o q => kp b o (far b o q).1 (far b o q).2 (Heap.get?_push_of_some _ (kp0 b o q))
  rw [e]
  exact hq
/-- min(a, b) -/
theorem min_twoH {a b : Value} {c : Bool} {Q : Value → Shared → Prop} (hh : A.handled = none) (lt : ∀ (s' : Shared) (Q : Value → Shared → Prop) (E : Value → Shared → Prop), (∀ b o, s.heap.get? b = some o → s'.heap.get? b = some o) → Q (.bool c) s' → wpAny (model prog w) A.in1 (richCompare .Lt b a) Q E s')
    (fin : ∀ h' tk, (∀ b o, s.heap.get? b = some o → h'.get? b = some o) → Q (if c then b else a) { s with heap := h', toks := tk }) : wpAny (model prog w) A (call (.builtin "min") [a, b]) Q E s := by
  have nm : (toString "min" ++ toString ".loop" : String) = "min.loop" := by decide
  refine call_function_tree F.kind_min F.plain_min F.entry_min (F.args_min2 _ _) ?_
  show wpAny _ A.in1 (Builtin.Builtins.bindParams "min" ["key", "default"] 0 ⟨[], []⟩ >>= _) _ _ s
  refine wpAny_bind (wpAny_of_eq (show Builtin.Builtins.bindParams "min" ["key", "default"] 0 ⟨[], []⟩ = pure [none, none] from rfl) ?_)
  show wpAny _ A.in1 (newTuple [a, b] >>= _) _ _ s
  refine wpAny_bind (wpAny_newObj_type ?_)
  have hT : (s.heap.push { cls := .type "tuple", data := .seq #[a, b] }).IsTuple s.heap.objs.size #[a, b] := ⟨_, Heap.get?_push_size _ rfl, rfl, 0, rfl⟩
  have hs1 : (s.heap.push { cls := .type "tuple", data := .seq #[a, b] }).objs.size = s.heap.objs.size + 1 := Heap.size_push ..
  refine wpAny_bind (wpAny_pyIter_tuple hT ?_)
  refine wpAny_bind (wpAny_newObj_type ?_)
  have hs2 : ((s.heap.push { cls := .type "tuple", data := .seq #[a, b] }).push { cls := .type "tuple_iterator", data := .fields #[.ref s.heap.objs.size, .int 0 0] }).objs.size = s.heap.objs.size + 1 + 1 := by rw [Heap.size_push, hs1]
  have W := Walks.tuple (prog := prog) (w := w) (A := A.in1) hh (s.heap.push { cls := .type "tuple", data := .seq #[a, b] }).objs.size s.heap.objs.size (by rw [hs1]; exact Nat.ne_of_lt (Nat.lt_succ_self _)) #[a, b]
  rw [nm]
  have kp0 : ∀ b' o, s.heap.get? b' = some o → ((s.heap.push { cls := .type "tuple", data := .seq #[a, b] }).push { cls := .type "tuple_iterator", data := .fields #[.ref s.heap.objs.size, .int 0 0] }).get? b' = some o := fun b' o q => Heap.get?_push_of_some _ (Heap.get?_push_of_some _ q)
  have far : ∀ b' o, s.heap.get? b' = some o → b' ∉ [(s.heap.push { cls := .type "tuple", data := .seq #[a, b] }).objs.size] ∧ b' ≠ ((s.heap.push { cls := .type "tuple", data := .seq #[a, b] }).push { cls := .type "tuple_iterator", data := .fields #[.ref s.heap.objs.size, .int 0 0] }).objs.size := fun b' o q => ⟨fun hm => by
      have e1 : b' = (s.heap.push { cls := .type "tuple", data := .seq #[a, b] }).objs.size := by simpa using hm
      have := Heap.lt_size q
      rw [e1, hs1] at this
      exact Nat.lt_irrefl _ (Nat.lt_trans (Nat.lt_succ_self _) this), fun z => by
      have := Heap.lt_size q
      rw [z, hs2] at this
      exact Nat.lt_irrefl _ (Nat.lt_trans (Nat.lt_succ_self _) (Nat.lt_trans (Nat.lt_succ_self _) this))⟩
  have LT : LtIn prog w A.in1 s.heap (fun i v => #[a, b][i]? = some v) (fun _ _ => c) := fun i j vi vj s' Q E hij kp hi hj hq => by
    have h2 : i < 2 := (Array.getElem?_eq_some_iff.mp hi).1
    have e1 : i = 1 := by omega
    have e2 : j = 0 := by omega
    subst e1 e2
    cases hi
    cases hj
    exact lt s' Q E kp hq
  have hSf : ((s.heap.push { cls := .type "tuple", data := .seq #[a, b] }).push { cls := .type "tuple_iterator", data := .fields #[.ref s.heap.objs.size, .int 0 0] }).objs.size ∉ [(s.heap.push { cls := .type "tuple", data := .seq #[a, b] }).objs.size, s.heap.objs.size] := fun hm => by
    have hm' : ((s.heap.push { cls := .type "tuple", data := .seq #[a, b] }).push { cls := .type "tuple_iterator", data := .fields #[.ref s.heap.objs.size, .int 0 0] }).objs.size = (s.heap.push { cls := .type "tuple", data := .seq #[a, b] }).objs.size ∨ ((s.heap.push { cls := .type "tuple", data := .seq #[a, b] }).push { cls := .type "tuple_iterator", data := .fields #[.ref s.heap.objs.size, .int 0 0] }).objs.size = s.heap.objs.size := by simpa using hm
    rw [hs2, hs1] at hm'
    omega
  have st0 : ((s.heap.push { cls := .type "tuple", data := .seq #[a, b] }).push { cls := .type "tuple_iterator", data := .fields #[.ref s.heap.objs.size, .int 0 0] }).IsTupleIter (s.heap.push { cls := .type "tuple", data := .seq #[a, b] }).objs.size s.heap.objs.size 0 ∧ ((s.heap.push { cls := .type "tuple", data := .seq #[a, b] }).push { cls := .type "tuple_iterator", data := .fields #[.ref s.heap.objs.size, .int 0 0] }).IsTuple s.heap.objs.size #[a, b] := ⟨⟨_, Heap.get?_push_size _ rfl, rfl, rfl⟩, hT.push _⟩
  refine wpAny_pure ⟨plainId_quiet F.plain_min_loop _, minfirst (h0 := s.heap) W _ LT _ hSf far (show 0 < 2 by decide) (W.frame 0 _ _ st0 fun b _ o e => Heap.get?_push_of_some _ e) (fun b o q => Heap.get?_push_of_some _ (kp0 b o q)) (Heap.get?_push_size _ rfl) fun v h' tk pv kp => ?_⟩
  · have hq := fin h' tk fun b' o q => kp b' o (far b' o q).1 (far b' o q).2 (Heap.get?_push_of_some _ (kp0 b' o q))
    have ev : v = if c then b else a := by
      cases c with
      | true =>
        have pv' : #[a, b][1]? = some v := pv
        cases pv'
        rfl
      | false =>
        have pv' : #[a, b][0]? = some v := pv
        cases pv'
        rfl
    rw [ev]
    exact hq
end
end DL
set_option Elab.async false
set_option linter.all false
set_option maxRecDepth 100000
set_option maxHeartbeats 4000000
/-! DL: min of data, as a rule. -/
namespace DL
open PySem PySem.Spec PyProof.Rows L2

/-- two data that may be compared -/
def CmpOk (d e : PyData) : Prop := PySem.W.alike d e = true ∧ d ≠ .none ∧ d.depth ≤ 60
def rMinDat (K : Fg) : List V → Hp → VK → Prop := fun vs H Q =>
  (∃ (p : Addr) (xs : List V) (ds : List PyData), vs = [.ref p] ∧ SqL K H p xs ∧ DpAll K H xs ds ∧ (∀ x ∈ ds, ∀ y ∈ ds, CmpOk x y) ∧ 0 < ds.length ∧ ∀ v, xs[argBest (fun i j => PySem.W.dataLt (ds.getD i .none) (ds.getD j .none)) (ds.length - 1)]? = some v → Q v H) ∨
  ∃ (x y : V) (d e : PyData), vs = [x, y] ∧ Dp K H x d ∧ Dp K H y e ∧ CmpOk e d ∧ Q (if PySem.W.dataLt e d then y else x) H
section
variable {X : Cx}
theorem dpAll_len {K : Fg} {H : Hp} : ∀ {xs : List V} {ds : List PyData}, DpAll K H xs ds → xs.length = ds.length
  | _, _, .nil => rfl
  | _, _, .cons _ t => by rw [List.length_cons, List.length_cons, dpAll_len t]
theorem reads_get {h : Heap} : ∀ {us : List Value} {ds : List PyData} {as : List Addr} {i : Nat} {u : Value}, ReadsAll h us ds as → us[i]? = some u → ∃ d as', ds[i]? = some d ∧ Reads h u d as'
  | _, _, _, i, _, .nil, e => by simp at e
  | _, _, _, 0, _, .cons r _, e => by simp at e; subst e; exact ⟨_, _, rfl, r⟩
  | _, _, _, i + 1, u, .cons _ t, e => by
    obtain ⟨d, as', h1, h2⟩ := reads_get (i := i) (u := u) t (by simpa using e)
    exact ⟨d, as', by simpa using h1, h2⟩
theorem units_in1 (A : Around) : A.in1.units = A.units + 1 := rfl
theorem cr_minDat (hc : X.calm = true) (hu : X.A.units + 64 < cLine) : CallR X (.builtin "min") (rMinDat X.K) := by
  intro pins s σ H xs us Q I r h
  have hh := I.ok.hd hc
  rcases h with ⟨p, ys, ds, rfl, hs, hd, hcmp, hn, q⟩ | ⟨x, y, d, e, rfl, hx, hy, hcmp, q⟩
  · obtain ⟨its, rv, hl, _⟩ := I.list hs
    rw [Vals.ref1 r]
    obtain ⟨as, hr⟩ := Dp.readsAll I ds ys its hd rv
    have hlen : its.length = ds.length := rv.length.symm.trans (dpAll_len hd)
    refine min_listH (bt := fun i j => PySem.W.dataLt (ds.getD i .none) (ds.getD j .none)) hh hl.isList (by simpa [hlen] using hn) ?_ ?_
    · intro i j vi vj s' Q' E' hij kp hi hj hq
      obtain ⟨di, ai, e1, r1⟩ := reads_get hr (by simpa using hi)
      obtain ⟨dj, aj, e2, r2⟩ := reads_get hr (by simpa using hj)
      have c := hcmp di (List.mem_of_getElem? e1) dj (List.mem_of_getElem? e2)
      have e1' : ds.getD i .none = di := by rw [List.getD_eq_getElem?_getD, e1]; rfl
      have e2' : ds.getD j .none = dj := by rw [List.getD_eq_getElem?_getD, e2]; rfl
      refine PySem.W.rcLt_alike di dj X.A.in1 s' vi vj ai aj (Reads.keeps kp r1) (Reads.keeps kp r2) c.1 c.2.1 ?_ _ _ _ _ (by rw [← e1', ← e2']; exact hq)
      rw [units_in1]
      have h1 : min di.depth dj.depth ≤ di.depth := Nat.min_le_left _ _
      have h2 := c.2.2
      omega
    · intro v h' tk hv kp
      have hv' : its[argBest (fun i j => PySem.W.dataLt (ds.getD i .none) (ds.getD j .none)) (ds.length - 1)]? = some v := by
        rw [← hlen]
        simpa using hv
      cases ey : ys[argBest (fun i j => PySem.W.dataLt (ds.getD i .none) (ds.getD j .none)) (ds.length - 1)]? with
      | none => rw [rv.none_of ey] at hv'; cases hv'
      | some z =>
        obtain ⟨u, eu, ru⟩ := rv.get ey
        rw [eu] at hv'
        cases hv'
        exact ⟨z, H, I.kept (t' := tk) kp, ru, q z ey⟩
  · obtain ⟨u, w', rfl, ru, rw'⟩ := vals2 r
    obtain ⟨au, r1⟩ := Dp.reads I d x u hx ru
    obtain ⟨aw, r2⟩ := Dp.reads I e y w' hy rw'
    refine min_twoH (c := PySem.W.dataLt e d) hh (fun s' Q' E' kp hq => ?_) fun h' tk kp => ?_
    · refine PySem.W.rcLt_alike e d X.A.in1 s' w' u aw au (Reads.keeps kp r2) (Reads.keeps kp r1) hcmp.1 hcmp.2.1 ?_ _ _ _ _ hq
      rw [units_in1]
      have h1 : min e.depth d.depth ≤ e.depth := Nat.min_le_left _ _
      have h2 := hcmp.2.2
      omega
    · cases hb : PySem.W.dataLt e d with
      | true =>
        rw [hb] at q
        exact ⟨y, H, I.kept (t' := tk) kp, rw', q⟩
      | false =>
        rw [hb] at q
        exact ⟨x, H, I.kept (t' := tk) kp, ru, q⟩
end
def fMinDat : FA := fun rs S C => match rs with
  | [.dat (.list ds)] => (∀ x ∈ ds, ∀ y ∈ ds, CmpOk x y) ∧ ds ≠ [] ∧ ∀ d, ds[argBest (fun i j => PySem.W.dataLt (ds.getD i .none) (ds.getD j .none)) (ds.length - 1)]? = some d → C (.dat d) S
  | [.dat d, .dat e] => CmpOk e d ∧ C (.dat (if PySem.W.dataLt e d then e else d)) S
  | _ => False
theorem cd_minDat {K : Fg} : CallD K (rMinDat K) fMinDat := by
  intro F vs rs H S L C Q o lv hf q
  unfold fMinDat at hf
  split at hf
  · cases lv with | cons m t =>
    cases t
    obtain ⟨hc, hne, h⟩ := hf
    have hr := o.dat m
    cases hr with | lst h1 n1 q1 =>
    refine .inl ⟨_, _, _, rfl, SqL.of h1, q1.dp, hc, List.length_pos_iff.mpr hne, fun v hv => ?_⟩
    obtain ⟨d, hd, rd⟩ := q1.get hv
    exact q v _ S H (o.pd rd) (h d hd)
  · rename_i d e
    cases lv with | cons m t => cases t with | cons m2 t =>
    cases t
    refine .inr ⟨_, _, d, e, rfl, (o.dat m).dp, (o.dat m2).dp, hf.1, ?_⟩
    cases hb : PySem.W.dataLt e d with
    | true =>
      have h2 := hf.2
      rw [hb] at h2
      exact q _ _ S H (o.pd (o.dat m2)) h2
    | false =>
      have h2 := hf.2
      rw [hb] at h2
      exact q _ _ S H (o.pd (o.dat m)) h2
  · exact hf.elim
section
variable {X : Cx} {a b c e : Expr} {da db dc de : DE} {dA : DA} {pos p : Pos} {es : List Expr}
theorem d_minD1U (hu : X.A.units + 64 < cLine) (hg : Gl X "min") (hm : X.mg "min" = none) (ha : PDA X [e] dA) (hc : X.calm = true := by rfl) (he : starEach [e] X.env = [(false, eval e X.env)] := by rfl) : PD X (.Call (.Name "min" p) [e] [] pos) (dCB fMinDat dA) := d_callB (cr_minDat hc hu) cd_minDat hg hm (by decide +kernel) ha (by decide) (by decide) he (by rfl)
theorem d_minD2U (hu : X.A.units + 64 < cLine) (hg : Gl X "min") (hm : X.mg "min" = none) (ha : PDA X [a, b] dA) (hc : X.calm = true := by rfl) (he : starEach [a, b] X.env = (false, eval a X.env) :: starEach [b] X.env := by rfl) (hpl : (backTo pos (starEach [b] X.env)).any (·.1) = false := by rfl) : PD X (.Call (.Name "min" p) [a, b] [] pos) (dCB fMinDat dA) := d_callB (cr_minDat hc hu) cd_minDat hg hm (by decide +kernel) ha (by decide) (by decide) he hpl
end
/-! ### (a number, a list of numbers): the order -/
abbrev CM := Int × List Int
def CM.dat (x : CM) : PyData := .tuple [.int x.1, .list (x.2.map PyData.int)]
/-- lists of ints, the first that differs, the shorter one first -/
def lexI : List Int → List Int → Bool
  | [], [] => false
  | [], _ :: _ => true
  | _ :: _, [] => false
  | x :: xs, y :: ys => if x = y then lexI xs ys else decide (x < y)
def ltCM (x y : CM) : Bool := if x.1 = y.1 then lexI x.2 y.2 else decide (x.1 < y.1)
theorem lex_end (l m : List (Int ⊕ List Nat)) : PyProof.Rows.lexLt PyProof.Rows.itemOrd (.inl 0 :: l) (.inl 1 :: m) = true := by
  rw [PySem.W.lex_atom (by decide), PySem.W.lex_one]; rfl
theorem lex_end2 (l m : List (Int ⊕ List Nat)) : PyProof.Rows.lexLt PyProof.Rows.itemOrd (.inl 1 :: l) (.inl 0 :: m) = false := by
  rw [PySem.W.lex_atom (by decide), PySem.W.lex_one]; rfl
theorem lex_same (l : List (Int ⊕ List Nat)) : PyProof.Rows.lexLt PyProof.Rows.itemOrd l l = false := by
  have h := PySem.W.lex_pre l [] []
  rw [List.append_nil] at h
  rw [h]; rfl
theorem eqv_int (x y : Int) : PyData.eqv (.int x) (.int y) = (x == y) := by rw [PyData.eqv]
theorem lexI_toks : ∀ xs ys : List Int, PyProof.Rows.lexLt PyProof.Rows.itemOrd (PySem.W.keyToksAll (xs.map PyData.int)) (PySem.W.keyToksAll (ys.map PyData.int)) = lexI xs ys
  | [], [] => lex_same _
  | [], y :: ys => by
    rw [List.map_nil, List.map_cons, PySem.W.toks_all_cons]
    show PyProof.Rows.lexLt PyProof.Rows.itemOrd (PySem.W.keyToksAll []) _ = true
    rw [PySem.W.keyToksAll]
    exact lex_end _ _
  | x :: xs, [] => by
    rw [List.map_nil, List.map_cons, PySem.W.toks_all_cons]
    show PyProof.Rows.lexLt PyProof.Rows.itemOrd _ (PySem.W.keyToksAll []) = false
    rw [PySem.W.keyToksAll]
    exact lex_end2 _ _
  | x :: xs, y :: ys => by
    have ha : PySem.W.alike (.int x) (.int y) = true := by rw [PySem.W.alike]
    rw [List.map_cons, List.map_cons]
    unfold lexI
    by_cases h : x = y
    · rw [if_pos h, PySem.W.dataLt_all_yes ha (by rw [eqv_int, h]; simp), lexI_toks xs ys]
    · rw [if_neg h, PySem.W.dataLt_all_no ha (by rw [eqv_int]; simpa using h), PySem.W.dataLt_int]
theorem eqvAll_ints : ∀ xs ys : List Int, PyData.eqvAll (xs.map PyData.int) (ys.map PyData.int) = decide (xs = ys)
  | [], [] => by rw [List.map_nil, PyData.eqvAll]; rfl
  | [], y :: ys => by rw [List.map_nil, List.map_cons, PyData.eqvAll]; rfl
  | x :: xs, [] => by rw [List.map_nil, List.map_cons, PyData.eqvAll]; rfl
  | x :: xs, y :: ys => by
    rw [List.map_cons, List.map_cons, PyData.eqvAll, eqv_int, eqvAll_ints xs ys]
    by_cases h : x = y <;> by_cases h2 : xs = ys <;> simp [h, h2]
theorem alikeAll_ints : ∀ xs ys : List Int, PySem.W.alikeAll (xs.map PyData.int) (ys.map PyData.int) = true
  | [], _ => by rw [List.map_nil, PySem.W.alikeAll]
  | x :: xs, [] => by rw [List.map_nil, List.map_cons, PySem.W.alikeAll]
  | x :: xs, y :: ys => by rw [List.map_cons, List.map_cons, PySem.W.alikeAll, PySem.W.alike, alikeAll_ints xs ys]; rfl
theorem lexI_irrefl : ∀ xs : List Int, lexI xs xs = false
  | [] => rfl
  | x :: xs => by unfold lexI; rw [if_pos rfl]; exact lexI_irrefl xs
theorem dataLt_CM (x y : CM) : PySem.W.dataLt x.dat y.dat = ltCM x y := by
  have ha : PySem.W.alike (.int x.1) (.int y.1) = true := by rw [PySem.W.alike]
  unfold CM.dat ltCM
  rw [PySem.W.dataLt_tuple]
  by_cases h : x.1 = y.1
  · rw [if_pos h, PySem.W.dataLt_all_yes ha (by rw [eqv_int, h]; simp)]
    have hb : PySem.W.alike (.list (x.2.map PyData.int)) (.list (y.2.map PyData.int)) = true := by rw [PySem.W.alike]; exact alikeAll_ints _ _
    by_cases h2 : x.2 = y.2
    · rw [PySem.W.dataLt_all_yes hb (by rw [PyData.eqv, eqvAll_ints, h2]; simp), h2, lexI_irrefl]
      exact lex_same _
    · rw [PySem.W.dataLt_all_no hb (by rw [PyData.eqv, eqvAll_ints]; simpa using h2), PySem.W.dataLt_list, lexI_toks]
  · rw [if_neg h, PySem.W.dataLt_all_no ha (by rw [eqv_int]; simpa using h), PySem.W.dataLt_int]
theorem depth_ints : ∀ xs : List Int, PyData.depthAll (xs.map PyData.int) ≤ 1
  | [] => by rw [List.map_nil, PyData.depthAll]; decide
  | x :: xs => by
    rw [List.map_cons, PyData.depthAll, PyData.depth]
    have := depth_ints xs
    omega
theorem cmp_CM (x y : CM) : CmpOk x.dat y.dat := by
  refine ⟨?_, (fun h => nomatch h), ?_⟩
  · unfold CM.dat
    rw [PySem.W.alike, PySem.W.alikeAll, PySem.W.alike, PySem.W.alikeAll, PySem.W.alike, alikeAll_ints, PySem.W.alikeAll]; rfl
  · unfold CM.dat
    have := depth_ints x.2
    simp only [PyData.depth, PyData.depthAll]
    omega
end DL
set_option Elab.async false
set_option linter.all false
set_option maxRecDepth 100000
set_option maxHeartbeats 4000000
/-! DL: what a live value stands for, its cells read through; ends that let cells go. -/
namespace DL
open PySem PySem.Spec PyProof.Rows L2

mutual
inductive View (S : SH) : R → PyData → Prop
  | dat (d : PyData) : View S (.dat d) d
  | cel {p : Addr} {j : Nat} {xs : List R} {ds : List PyData} : S[j]? = some (.lst p xs) → Views S xs ds → View S (.val (.ref p)) (.list ds)
  | tp {rs : List R} {ds : List PyData} : Views S rs ds → View S (.tp rs) (.tuple ds)
inductive Views (S : SH) : List R → List PyData → Prop
  | nil : Views S [] []
  | cons {r : R} {rs : List R} {d : PyData} {ds : List PyData} : View S r d → Views S rs ds → Views S (r :: rs) (d :: ds)
end
theorem Views.of_dats {S : SH} : ∀ ds : List PyData, Views S (ds.map R.dat) ds
  | [] => .nil
  | d :: ds => .cons (.dat d) (Views.of_dats ds)
theorem Views.length {S : SH} : ∀ {rs : List R} {ds : List PyData}, Views S rs ds → rs.length = ds.length
  | _, _, .nil => rfl
  | _, _, .cons _ t => by rw [List.length_cons, List.length_cons, Views.length t]
theorem Views.get' {S : SH} : ∀ {rs : List R} {ds : List PyData} {i : Nat} {d : PyData}, Views S rs ds → ds[i]? = some d → ∃ r, rs[i]? = some r ∧ View S r d
  | _, _, _, _, .nil, e => by simp at e
  | _, _, 0, _, .cons r _, e => by simp at e; subst e; exact ⟨_, rfl, r⟩
  | _, _, i + 1, d, .cons _ t, e => by
    obtain ⟨u, h1, h2⟩ := Views.get' (i := i) (d := d) t (by simpa using e)
    exact ⟨u, by simpa using h1, h2⟩
section
variable {K : Fg} {F : SH} {H : Hp} {S : SH} {L : Live}
mutual
theorem View.dp (o : OkF K F H S L) : ∀ {r : R} {d : PyData} {v : V}, View S r d → RepR K (Av (S ++ F)) H v r → Dp K H v d
  | _, _, _, .dat d, h => Rep.dp h
  | _, _, v, .cel (p := p) hj q, h => by
    cases (show v = V.ref p from h)
    obtain ⟨vs, e, qs⟩ := o.cells _ (at_split (in_app hj))
    exact .lst (SqL.of e) (Views.dp o q qs)
  | _, _, v, .tp (rs := rs) q, h => by
    obtain ⟨a, vs, rfl, e, qs⟩ := (show ∃ a vs, v = .ref a ∧ (H a = some (.tup vs) ∨ KTup K a vs) ∧ RepRl K _ H vs rs from h)
    exact .tup (sqT_of (A := Av S) e) (Views.dp o q qs.pair)
theorem Views.dp (o : OkF K F H S L) : ∀ {rs : List R} {ds : List PyData} {vs : List V}, Views S rs ds → RepRs K (Av (S ++ F)) H vs rs → DpAll K H vs ds
  | _, _, _, .nil, .nil => .nil
  | _, _, _, .cons v t, .cons r s => .cons (View.dp o v r) (Views.dp o t s)
end
/-- min of two, read through -/
def fMinV : FA := fun rs S C => match rs with
  | [a, b] => ∃ d e, View S a d ∧ View S b e ∧ CmpOk e d ∧ C (if PySem.W.dataLt e d then b else a) S
  | _ => False
theorem cd_minV : CallD K (rMinDat K) fMinV := by
  intro F vs rs H S L C Q o lv hf q
  unfold fMinV at hf
  split at hf
  · rename_i a b
    cases lv with | cons m t => cases t with | cons m2 t =>
    cases t
    obtain ⟨d, e, hd, he, hc, h⟩ := hf
    refine .inr ⟨_, _, d, e, rfl, hd.dp o (o.live _ m), he.dp o (o.live _ m2), hc, ?_⟩
    cases hb : PySem.W.dataLt e d with
    | true =>
      rw [hb] at h
      exact q _ _ S H (o.push (o.live _ m2)) h
    | false =>
      rw [hb] at h
      exact q _ _ S H (o.push (o.live _ m)) h
  · exact hf.elim
/-- a list, its items -/
def lstR (S : SH) : R → List R → Prop
  | .dat (.list ds), xs => xs = ds.map R.dat
  | .val (.ref p), xs => ∃ j : Nat, S[j]? = some (.lst p xs)
  | _, _ => False
theorem lstR_at (o : OkF K F H S L) {v : V} {r : R} {xs : List R} (h : RepR K (Av (S ++ F)) H v r) (l : lstR S r xs) : ∃ p vs, v = .ref p ∧ H p = some (.lst vs) ∧ RepRs K (Av (S ++ F)) H vs xs := by
  cases r with
  | dat d =>
    cases d with
    | list ds =>
      cases (show xs = ds.map R.dat from l)
      have h : Rep K _ H v (.list ds) := h
      cases h with | lst e n q => exact ⟨_, _, rfl, e, all_reps q⟩
    | _ => exact l.elim
  | val w =>
    cases w with
    | ref p =>
      obtain ⟨j, hj⟩ := l
      cases (show v = V.ref p from h)
      obtain ⟨vs, e, q⟩ := o.cells _ (at_split (in_app hj))
      exact ⟨_, _, rfl, e, q⟩
    | _ => exact l.elim
  | scr ns => exact l.elim
  | tp rs => exact l.elim
  | obj C ks rs => exact l.elim
  | dic ks rs => exact l.elim
  | exc a C d fs => exact l.elim
  | fn f c o q t vs rs => exact l.elim
/-- xs + ys, a new cell -/
def fAddC : F2 := fun a b S C => ∃ xs ys, lstR S a xs ∧ lstR S b ys ∧ xs.length + ys.length ≤ 100000 ∧ ∀ p, C (.val (.ref p)) (.lst p (xs ++ ys) :: S)
theorem opd_addC : OpD K (rAddAll K) fAddC := by
  intro F x y a b H S L C Q o hx hy hf q
  obtain ⟨xs, ys, l1, l2, hl, h⟩ := hf
  obtain ⟨p1, v1, rfl, e1, q1⟩ := lstR_at o (o.live _ hx) l1
  obtain ⟨p2, v2, rfl, e2, q2⟩ := lstR_at o (o.live _ hy) l2
  exact .inr (.inr (.inl ⟨_, _, _, _, rfl, rfl, e1, e2, by rw [paired_len q1, paired_len q2]; exact big_of hl, fun p hp => q _ _ (_ :: S) _ (Ok.push (r := .val (.ref p)) (o.lstC hp (paired_app q1 q2)) rfl) (h p)⟩))
end
/-- an end that lets cells go -/
def Wk (C : CR0) : CR0 := fun r S => ∃ S1 S', S.Perm S1 ∧ S'.Sublist S1 ∧ C r S'
theorem wk {C : CR0} {r : R} {S : SH} (h : C r S) : Wk C r S := ⟨S, S, List.Perm.refl _, List.Sublist.refl _, h⟩
theorem wk_tail {C : CR0} {r : R} {S : SH} (T : SH) (h : C r S) : Wk C r (T ++ S) := ⟨T ++ S, S, List.Perm.refl _, List.sublist_append_right T S, h⟩
theorem wk_one {C : CR0} {r : R} {S : SH} {c : Cell} (T U : SH) (h : C r (c :: S)) : Wk C r (T ++ c :: (U ++ S)) := ⟨T ++ c :: (U ++ S), c :: S, List.Perm.refl _, (List.Sublist.cons₂ c (List.sublist_append_right U S)).trans (List.sublist_append_right T _), h⟩
section
variable {P : Program} {w : World} {K : Fg} {mg : Str → Option Value} {base : Heap}
theorem Ok.wk {C : CR0} {H : Hp} {F S : SH} {L : Live} {r : R} (o : OkF K F H S L) (h : Wk C r S) : ∃ S', OkF K F H S' L ∧ C r S' := by
  obtain ⟨S1, S', hp, hs, h⟩ := h
  exact ⟨S', (o.perm (hp.append_right F)).less (hs.append (List.Sublist.refl F)), h⟩
theorem okFw {x : Str} {st : Stmt} {N ps : List Str} {k n : Nat} {sp : SpD} (Fn : FunAt K mg x st ps) (Sc : FnScope N ps (defScope st)) (hn : ps.length = n)
    (hbody : ∀ (cdv : Value) (A : Around) (outer : List Env) (s : Shared) (H : Hp) (E : XK) (f : Addr), Room k (A.deeper (envOfC x (defScope st) s.heap.objs.size f cdv)) →
      ∃ ds, PDSs (cxOf CX0 P w K mg base N x (defScope st) f cdv A outer s H E).nox (defBody st) ds ∧ ∀ rs S C, rs.length = n → sp rs S C → ds { nx := fun _ S => Wk C (.dat .none) S, rt := Wk C } (startF N rs) S) : Def P w K mg base x (k + 1) n sp := by
  have h := okF (P := P) (w := w) (base := base) (sp := fun rs S C => ∃ C', sp rs S C' ∧ ∀ r S, Wk C' r S → C r S) Fn Sc hn fun cdv A outer s H E f hr => by
    obtain ⟨ds, hp, hd⟩ := hbody cdv A outer s H E f hr
    obtain ⟨ts, pt, l⟩ := hp.ex
    refine ⟨fun D fr S => ∃ C', (∀ r S, Wk C' r S → D.rt r S) ∧ (∀ fr S, Wk C' (.dat .none) S → D.nx fr S) ∧ ds { nx := fun _ S => Wk C' (.dat .none) S, rt := Wk C' } fr S, ⟨ts, pt, fun F H σ fr S L f o D D' e ⟨C', h1, h2, h3⟩ => ?_⟩, fun rs S C hl ⟨C', hs, hw⟩ => ⟨C', hw, fun _ S q => hw _ S q, hd rs S C' hl hs⟩⟩
    exact l F H σ fr S L f o D { nx := fun _ S => Wk C' (.dat .none) S, rt := Wk C' } ⟨fun σ' fr' S' H' L' f' o' s' q => e.nx σ' fr' S' H' L' f' o' s' (h2 fr' S' q), fun v r S' H' o' q => e.rt v r S' H' o' (h1 r S' q), fun _ _ _ _ _ _ _ _ q => q.elim, fun _ _ _ _ _ _ _ _ q => q.elim⟩ h3
  obtain ⟨f, fd, ps', a, b⟩ := h.ex
  refine ⟨f, fd, ps', a.imp fun vs H Q E h => ?_, b⟩
  obtain ⟨hl, F, S, L, rs, C, o, lv, hs, fin⟩ := h
  refine ⟨hl, F, S, L, rs, Wk C, o, lv, ⟨C, hs, fun _ _ q => q⟩, fun v r S' H' o' q => ?_⟩
  obtain ⟨S2, o2, q2⟩ := o'.wk q
  exact fin v r S2 H' o2 q2
end
section
variable {X : Cx} {a b c e : Expr} {da db dc de : DE} {dA : DA} {pos p : Pos} {es : List Expr}
theorem d_minVU (hu : X.A.units + 64 < cLine) (hg : Gl X "min") (hm : X.mg "min" = none) (ha : PDA X [a, b] dA) (hc : X.calm = true := by rfl) (he : starEach [a, b] X.env = (false, eval a X.env) :: starEach [b] X.env := by rfl) (hpl : (backTo pos (starEach [b] X.env)).any (·.1) = false := by rfl) : PD X (.Call (.Name "min" p) [a, b] [] pos) (dCB fMinV dA) := d_callB (cr_minDat hc hu) cd_minV hg hm (by decide +kernel) ha (by decide) (by decide) he hpl
theorem d_addC (ha : PD X a da) (hb : PD X b db) : PD X (.BinOp a .Add b pos) (dOp fAddC da db) := d_opG op_addAll opd_addC ha hb
end
end DL
set_option Elab.async false
set_option linter.all false
set_option maxRecDepth 100000
set_option maxHeartbeats 4000000
/-! DL: instances of own classes: fields, methods, making; further list methods; weakenings in a body. -/
namespace DL
open PySem PySem.Spec PyProof.Rows L2

/-- what is known of a class: its instances' fields, in order -/
structure Klass (K : Fg) (C : Addr) (ks : List Str) : Prop where
  cl : Cls K C
  nf : ∀ f ∈ ks, NoAttr K C f
  nd : ks.Nodup
  few : ks.length < 1000
def putAt {α : Type} : Nat → α → List α → List α
  | _, x, [] => [x]
  | 0, x, _ :: t => x :: t
  | n + 1, x, y :: t => y :: putAt n x t
section
variable {α : Type}
theorem lookup_zip {f : Str} : ∀ {ks : List Str} {vs : List α} {i : Nat} {v : α}, ks.Nodup → ks[i]? = some f → vs[i]? = some v → (ks.zip vs).lookup f = some v
  | [], _, _, _, _, h, _ => by simp at h
  | k :: ks, [], _, _, _, _, h => by simp at h
  | k :: ks, w :: vs, 0, v, _, h1, h2 => by
    simp at h1 h2
    subst h1 h2
    rw [List.zip_cons_cons, List.lookup_cons, beq_self_eq_true]
  | k :: ks, w :: vs, i + 1, v, nd, h1, h2 => by
    rw [List.nodup_cons] at nd
    have h1' : ks[i]? = some f := by simpa using h1
    have hne : f ≠ k := fun e => nd.1 (by rw [← e]; exact List.mem_of_getElem? h1')
    rw [List.zip_cons_cons, List.lookup_cons]
    have : (f == k) = false := by simpa using hne
    rw [this]
    exact lookup_zip nd.2 h1' (by simpa using h2)
theorem lookup_zip_none {f : Str} : ∀ {ks : List Str} {vs : List α}, f ∉ ks → (ks.zip vs).lookup f = none
  | [], _, _ => rfl
  | k :: ks, [], _ => rfl
  | k :: ks, w :: vs, h => by
    rw [List.zip_cons_cons, List.lookup_cons]
    have : (f == k) = false := by simpa using fun e => h (by rw [e]; exact List.mem_cons_self)
    rw [this]
    exact lookup_zip_none fun z => h (List.mem_cons_of_mem _ z)
theorem putF_zip {f : Str} {v : V} : ∀ {ks : List Str} {vs : List V} {i : Nat}, ks.Nodup → ks[i]? = some f → i ≤ vs.length → vs.length ≤ ks.length → putF f v (ks.zip vs) = ks.zip (putAt i v vs)
  | [], _, _, _, h, _, _ => by simp at h
  | k :: ks, [], i, _, h1, h2, _ => by
    have : i = 0 := by simpa using h2
    subst this
    simp at h1
    subst h1
    simp [putF, putAt]
  | k :: ks, w :: vs, 0, _, h1, _, _ => by
    simp at h1
    subst h1
    simp [putF, putAt]
  | k :: ks, w :: vs, i + 1, nd, h1, h2, h3 => by
    rw [List.nodup_cons] at nd
    have h1' : ks[i]? = some f := by simpa using h1
    have hne : k ≠ f := fun e => nd.1 (by rw [e]; exact List.mem_of_getElem? h1')
    have ih := putF_zip (v := v) (i := i) (ks := ks) (vs := vs) nd.2 h1' (by simpa using h2) (by simpa using h3)
    rw [List.zip_cons_cons, putF, if_neg hne, ih]
    rfl
end
theorem paired_put {α β : Type} {P : α → β → Prop} {x : α} {y : β} (r : P x y) : ∀ {xs : List α} {us : List β} (i : Nat), Paired P xs us → Paired P (putAt i x xs) (putAt i y us)
  | _, _, 0, .nil => .cons r .nil
  | _, _, _ + 1, .nil => .cons r .nil
  | _, _, 0, .cons _ t => .cons r t
  | _, _, i + 1, .cons h t => .cons h (paired_put r i t)
theorem putAt_len {α : Type} {x : α} : ∀ {i n : Nat} {xs : List α}, i < n → xs.length ≤ n → i ≤ xs.length → (putAt i x xs).length ≤ n
  | 0, n, [], h, _, _ => h
  | _ + 1, n, [], _, _, h3 => absurd h3 (Nat.not_succ_le_zero _)
  | 0, n, _ :: t, _, h2, _ => h2
  | i + 1, n, y :: t, h, h2, h3 => by
    obtain ⟨m, rfl⟩ : ∃ m, n = m + 1 := ⟨n - 1, by omega⟩
    have := putAt_len (x := x) (i := i) (n := m) (xs := t) (by omega) (by simpa using h2) (by simpa using h3)
    show (putAt i x t).length + 1 ≤ m + 1
    omega
section
variable {K : Fg}
/-! ### e.f -/
def dFld (C : Addr) (ks : List Str) (i : Nat) (da : DE) : DE := fun fr S Q => da fr S fun a S1 => match a with
  | .val (.ref p) => ∃ (j : Nat) (rs : List R) (r : R), S1[j]? = some (.ins p C ks rs) ∧ rs[i]? = some r ∧ Q r S1
  | .obj C' ks' rs => C' = C ∧ ks' = ks ∧ ∃ r, rs[i]? = some r ∧ Q r S1
  | _ => False
theorem lift_fld {C : Addr} {ks : List Str} {i : Nat} {f : Str} {ta : TE} {da : DE} (T : Klass K C ks) (hi : ks[i]? = some f) (la : Lift K ta da) : Lift K (tFld K ta f) (dFld C ks i da) := by
  intro F H σ fr S L fo o C' Q hd q
  refine la F H σ fr S L fo o _ _ hd fun x a S1 H1 o1 h1 => ?_
  have hx := o1.live _ List.mem_cons_self
  have nf : NoAttr K C f := T.nf f (List.mem_of_getElem? hi)
  split at h1
  · rename_i p
    cases (show x = V.ref p from hx)
    obtain ⟨j, rs, r, hj, hr, h⟩ := h1
    obtain ⟨dx, vs, e1, _, q1⟩ := o1.cells _ (at_split (in_app hj))
    obtain ⟨v, ev, rv⟩ := paired_get' q1 hr
    exact ⟨p, C, dx, _, v, rfl, e1, T.cl, nf, lookup_zip T.nd hi ev, q v r S1 H1 ((o1.sub tl_mem).push rv) h⟩
  · rename_i C2 ks2 rs
    obtain ⟨rfl, rfl, r, hr, h⟩ := h1
    obtain ⟨a, dx, vs, rfl, e1, _, hl, q1⟩ := hx
    obtain ⟨v, ev, rv⟩ := paired_get' q1.pair hr
    exact ⟨a, C2, dx, _, v, rfl, e1, T.cl, nf, lookup_zip T.nd hi ev, q v r S1 H1 ((o1.sub tl_mem).push rv) h⟩
  · exact h1.elim
/-! ### o.f = e -/
def sFldD (C : Addr) (ks : List Str) (i : Nat) (da dv : DE) : DS := fun D fr S => dv fr S fun r S1 => da fr S1 fun a S2 => match a with
  | .val (.ref p) => ∃ (j : Nat) (rs : List R), S2[j]? = some (.ins p C ks rs) ∧ i ≤ rs.length ∧ D.nx fr (S2.set j (.ins p C ks (putAt i r rs)))
  | _ => False
theorem lift_sfld {C : Addr} {ks : List Str} {i : Nat} {f : Str} {ta tv : TE} {da dv : DE} (T : Klass K C ks) (hi : ks[i]? = some f) (la : Lift K ta da) (lv : Lift K tv dv) : LiftS K (L2.sFld K ta tv f) (sFldD C ks i da dv) := fun F H σ fr S L fo o D D' e h => by
  refine lv F H σ fr S L fo o _ _ h fun y r S1 H1 o1 h1 => ?_
  refine la F H1 σ fr S1 _ (fo.mono tl_mem) o1 _ _ h1 fun x a S2 H2 o2 h2 => ?_
  have hx := o2.live _ List.mem_cons_self
  have hy := o2.live (y, r) (List.mem_cons_of_mem _ List.mem_cons_self)
  have sb : ∀ e ∈ L, e ∈ (x, a) :: (y, r) :: L := fun e he => List.mem_cons_of_mem _ (List.mem_cons_of_mem _ he)
  split at h2
  · rename_i p
    cases (show x = V.ref p from hx)
    obtain ⟨j, rs, hj, hl, h⟩ := h2
    obtain ⟨dx, vs, e1, hv, q1⟩ := o2.cells _ (at_split (in_app hj))
    have el := paired_len q1
    have few := T.few
    refine ⟨p, C, dx, ks.zip vs, rfl, e1, T.cl, T.nf f (List.mem_of_getElem? hi), ?_, ?_⟩
    · rw [List.length_zip]; exact Nat.lt_of_le_of_lt (Nat.min_le_left _ _) few
    · rw [putF_zip T.nd hi (by omega) hv]
      have hik : i < ks.length := (List.getElem?_eq_some_iff.mp hi).1
      have o3 := o2.put (u := .ins C dx (ks.zip (putAt i y vs))) (c' := .ins p C ks (putAt i r rs)) (in_app hj) rfl rfl e1 True.intro ⟨dx, _, upd_same, putAt_len hik hv (by omega), RepRs.stp (stp_upd e1 (pt_at (in_app hj)) True.intro) (paired_put hy i q1)⟩
      rw [set_app hj] at o3
      exact e.nx _ _ _ _ _ (fo.mono sb) o3 sb h
  · exact h2.elim
/-! ### C(..) -/
def dMake (C : Addr) (ks : List Str) (n : Nat) (sp : SpD) (da : DA) : DE := fun fr S Q => da fr S fun rs S1 => rs.length + 1 = n ∧ ∀ x, sp (.val (.ref x) :: rs) (.ins x C ks [] :: S1) fun r S2 => r = .dat .none ∧ Q (.val (.ref x)) S2
theorem lift_make {C : Addr} {ks : List Str} {n : Nat} {sp : SpD} {E : XK} {ta : TA} {da : DA} (l : LiftA K ta da) : Lift K (tMake C (toSp K n sp) [] E ta) (dMake C ks n sp da) := fun F H σ fr S L f o Q0 Q h q => by
  refine l F H σ fr S L f o _ _ h fun vs rs S1 H1 L1 o1 s1 lv h1 x dx hx hdx hne => ?_
  have o2 : OkF K F (upd H1 dx (.own x)) S1 L1 := o1.new hdx
  have hx2 : upd H1 dx (.own x) x = none := by rw [upd_ne (Ne.symm hne)]; exact hx
  have o3 : OkF K F (upd (upd H1 dx (.own x)) x (.ins C dx [])) (.ins x C ks [] :: S1) L1 := o2.cell (c := .ins x C ks []) rfl hx2 ⟨dx, [], by rw [List.zip_nil_right]; exact upd_same, Nat.zero_le _, .nil⟩
  have o4 := Ok.push (v := .ref x) (r := .val (.ref x)) o3 rfl
  refine ⟨?_, F, _, _, .val (.ref x) :: rs, fun r S2 => r = .dat .none ∧ Q0 (.val (.ref x)) S2, o4, ?_, h1.2 x, ?_⟩
  · rw [List.append_nil, List.length_cons, paired_len lv]; exact h1.1
  · rw [List.append_nil]
    exact .cons List.mem_cons_self (Lives.mono tl_mem lv)
  · rintro v r S2 H2 o5 ⟨rfl, h2⟩
    have e : v = .non := by cases (o5.dat List.mem_cons_self); rfl
    refine ⟨e, q _ _ S2 H2 ?_ h2⟩
    exact (o5.sub tl_mem).sub (sub_cons s1)
/-! ### o.m(..) -/
def dMeth (C : Addr) (ks : List Str) (n : Nat) (sp : SpD) (da : DE) (dA : DA) : DE := fun fr S Q => da fr S fun a S1 => match a with
  | .val (.ref p) => (∃ (j : Nat) (rs : List R), S1[j]? = some (.ins p C ks rs)) ∧ dA fr S1 fun rs S2 => rs.length + 1 = n ∧ sp (.val (.ref p) :: rs) S2 Q
  | _ => False
theorem lift_meth {C : Addr} {ks : List Str} {m : Str} {n : Nat} {sp : SpD} {E : XK} {te : TE} {ta : TA} {de : DE} {da : DA} (hm : m ∉ ks) (le : Lift K te de) (l : LiftA K ta da) : Lift K (tMeth C m (toSp K n sp) [] E te ta) (dMeth C ks n sp de da) := fun F H σ fr S L f o Q0 Q h q => by
  refine le F H σ fr S L f o _ _ h fun x a S1 H1 o1 h1 => ?_
  have hx := o1.live _ List.mem_cons_self
  split at h1
  · rename_i p
    cases (show x = V.ref p from hx)
    obtain ⟨⟨j, rs, hj⟩, h1⟩ := h1
    obtain ⟨dx, vs, e1, _, q1⟩ := o1.cells _ (at_split (in_app hj))
    refine ⟨p, dx, _, rfl, e1, lookup_zip_none hm, ?_⟩
    refine l F H1 σ fr S1 _ (f.mono tl_mem) o1 _ _ h1 fun vs2 rs2 S2 H2 L2 o2 s2 lv h2 => ?_
    refine ⟨?_, F, S2, L2, .val (.ref p) :: rs2, Q0, o2, ?_, h2.2, fun v r S' H' o' h' => q v r S' H' (o'.sub (sub_cons fun e he => s2 e (List.mem_cons_of_mem _ he))) h'⟩
    · rw [List.append_nil, List.length_cons, paired_len lv]; exact h2.1
    · rw [List.append_nil]
      exact .cons (s2 _ List.mem_cons_self) lv
  · exact h1.elim
/-! ### xs.pop() -/
def dPop (da : DE) : DE := fun fr S Q => da fr S fun a S1 => match a with
  | .val (.ref p) => ∃ (j : Nat) (xs : List R) (r : R), S1[j]? = some (.lst p (xs ++ [r])) ∧ Q r (S1.set j (.lst p xs))
  | _ => False
theorem paired_snoc {α β : Type} {P : α → β → Prop} : ∀ {ws : List α} {xs : List β} {y : β}, Paired P ws (xs ++ [y]) → ∃ us u, ws = us ++ [u] ∧ Paired P us xs ∧ P u y
  | _, [], _, .cons h .nil => ⟨[], _, rfl, .nil, h⟩
  | _, x :: xs, y, .cons h t => by
    obtain ⟨us, u, rfl, a, b⟩ := paired_snoc (xs := xs) t
    exact ⟨_ :: us, u, rfl, .cons h a, b⟩
theorem lift_pop {to : TE} {da : DE} (la : Lift K to da) : Lift K (tBM0 K "list" rPop to) (dPop da) := by
  intro F H σ fr S L fo o C Q hd q
  refine la F H σ fr S L fo o _ _ hd fun x a S1 H1 o1 h1 => ?_
  split at h1
  · rename_i p
    obtain ⟨j, xs, r, hj, h⟩ := h1
    cases o1.val List.mem_cons_self
    obtain ⟨us, e1, q1⟩ := o1.cells _ (at_split (in_app hj))
    obtain ⟨us, u, rfl, q2, q3⟩ := paired_snoc q1
    refine ⟨.inl ⟨rfl, _, SqL.of e1⟩, p, _, u, rfl, rfl, e1, by simp, ?_⟩
    rw [List.dropLast_concat]
    have o3 := (o1.push q3).putL (in_app hj) q2
    rw [set_app hj] at o3
    exact q _ _ _ _ (o3.sub (sub_cons tl_mem)) h
  · exact h1.elim
/-! ### a, b, c = x, y, z -/
def sPar3 (i j l : Nat) (da : DA) : DS := fun D fr S => da fr S fun rs S1 => match rs with
  | [r, q, t] => D.nx (((fr.set i (some r)).set j (some q)).set l (some t)) S1
  | _ => False
theorem lift_par3 {i j l : Nat} {ta : TA} {da : DA} (la : LiftA K ta da) : LiftS K (tPar3 i j l ta) (sPar3 i j l da) := fun F H σ fr S L f o D D' e h => by
  refine la F H σ fr S L f o _ _ h fun vs rs S1 H1 L1 o1 s1 lv h1 => ?_
  split at h1
  · cases lv with | cons m1 t => cases t with | cons m2 t2 => cases t2 with | cons m3 t3 =>
    cases t3
    exact ⟨_, _, _, rfl, e.nx _ _ S1 H1 L1 ((((f.mono s1).set m1 i).set m2 j).set m3 l) o1 s1 h1⟩
  · exact h1.elim
end
/-! ### the rules -/
section
variable {X : Cx} {a b c e o v : Expr} {da db dc de dO dv : DE} {dA : DA} {pos pos' p apos : Pos} {es : List Expr} {C : Addr} {ks : List Str} {f m x : Str}
theorem d_fld (T : Klass X.K C ks) (i : Nat) (he : PD X e de) (hi : ks[i]? = some f := by rfl) (hb : attributeBase e f X.env (eval e X.env) = eval e X.env := by rfl) : PD X (.Attribute e f pos) (dFld C ks i de) := by
  obtain ⟨_, p, l⟩ := he.ex
  exact ⟨_, pe_fld p hb, lift_fld T hi l⟩
theorem s_fld (T : Klass X.K C ks) (i : Nat) (ho : PD X o dO) (hv : PD X v dv) (hi : ks[i]? = some f := by rfl) (hs : swapsWith v (some (.Attribute o f pos')) pos.line X.env = pure false := by rfl) : PDS X (.Assign [.Attribute o f pos'] v pos) (sFldD C ks i dO dv) := by
  obtain ⟨_, p, l⟩ := ho.ex
  obtain ⟨_, p2, l2⟩ := hv.ex
  exact ⟨_, ps_fld p p2 hs, lift_sfld T hi l l2⟩
theorem s_par3 {i j k : Nat} {x y z : Str} {px py pz pt : Pos} {kt k2 pt2} (hN : X.N.Nodup) (ha : PDA X [a, b, c] dA) (hc : X.calm = true := by rfl) (hi : X.N[i]? = some x := by rfl) (hj : X.N[j]? = some y := by rfl) (hk : X.N[k]? = some z := by rfl) (hij : i ≠ j := by decide) (hik : i ≠ k := by decide) (hjk : j ≠ k := by decide)
    (hx : X.env.scope.names.lookup x = some .local := by rfl) (hy : X.env.scope.names.lookup y = some .local := by rfl) (hz : X.env.scope.names.lookup z = some .local := by rfl)
    (hw : swappedStores [.Tuple [.Name x px, .Name y py, .Name z pz] kt pt] (.Tuple [a, b, c] k2 pt2) X.env = pure (some [x, y, z]) := by rfl)
    (hs : swapsWithSole [.Tuple [.Name x px, .Name y py, .Name z pz] kt pt] (.Tuple [a, b, c] k2 pt2) pos.line X.env = pure false := by rfl) :
    PDS X (.Assign [.Tuple [.Name x px, .Name y py, .Name z pz] kt pt] (.Tuple [a, b, c] k2 pt2) pos) (sPar3 i j k dA) := by
  obtain ⟨_, p, l⟩ := ha.ex
  exact ⟨_, ps_par3 hc hN hi hj hk hij hik hjk hx hy hz p hw hs, lift_par3 l⟩
theorem d_pop (ha : PD X a da) (hbase : attributeBase a "pop" X.env (eval a X.env) = eval a X.env := by rfl) (hline : (apos.endLine == pos.line) = true := by rfl) : PD X (.Call (.Attribute a "pop" apos) [] [] pos) (dPop da) := by
  obtain ⟨_, p, l⟩ := ha.ex
  exact ⟨_, pe_bm0 PySem.F.plainAttrs_list PySem.F.slot_list_pop PySem.F.type_list_pop mt_pop p hbase hline, lift_pop l⟩
end
/-! ### methods and makers as they are called -/
/-- a method of a class and its promise (self first) -/
structure DefM (P : Program) (w : World) (K : Fg) (mg : Str → Option Value) (base : Heap) (C : Addr) (m : Str) (k n : Nat) (sp : SpD) : Prop where
  ex : ∃ f fd ps, FnOk P w K mg base CX0 k f fd ps (toSp K n sp) ∧ Meth K C m f ∧ Binds K fd ps []
structure DefI (P : Program) (w : World) (K : Fg) (mg : Str → Option Value) (base : Heap) (x : Str) (C : Addr) (k n : Nat) (sp : SpD) : Prop where
  ex : ∃ f fd ps, FnOk P w K mg base CX0 k f fd ps (toSp K n sp) ∧ Mk K C f ∧ Binds K fd ps [] ∧ mg x = some (.ref C)
/-- a method's def as it stands -/
structure FunM (K : Fg) (C : Addr) (m qual : Str) (st : Stmt) (ps : List Str) : Prop where
  ex : ∃ f fd, Fun K m qual st f fd ∧ Meth K C m f ∧ Binds K fd ps []
structure FunI (K : Fg) (mg : Str → Option Value) (x : Str) (C : Addr) (qual : Str) (st : Stmt) (ps : List Str) : Prop where
  ex : ∃ f fd, Fun K "__init__" qual st f fd ∧ Mk K C f ∧ Binds K fd ps [] ∧ mg x = some (.ref C)
section
variable {P : Program} {w : World} {K : Fg} {mg : Str → Option Value} {base : Heap} {C : Addr} {m x qual : Str} {st : Stmt} {N ps : List Str} {j k n : Nat} {sp sp' : SpD}
theorem DefM.mono (d : DefM P w K mg base C m j n sp) (h : j ≤ k) : DefM P w K mg base C m k n sp := by
  obtain ⟨f, fd, ps, a, b⟩ := d.ex
  exact ⟨f, fd, ps, a.mono h, b⟩
theorem DefI.mono (d : DefI P w K mg base x C j n sp) (h : j ≤ k) : DefI P w K mg base x C k n sp := by
  obtain ⟨f, fd, ps, a, b⟩ := d.ex
  exact ⟨f, fd, ps, a.mono h, b⟩
theorem toSp_imp (h : ∀ rs S C, rs.length = n → sp' rs S C → sp rs S C) : ∀ vs H Q E, toSp K n sp' vs H Q E → toSp K n sp vs H Q E := fun vs H Q E ⟨hl, F, S, L, rs, C, o, lv, hs, q⟩ => ⟨hl, F, S, L, rs, C, o, lv, h rs S C ((paired_len lv).symm.trans hl) hs, q⟩
theorem DefM.imp (d : DefM P w K mg base C m k n sp) (h : ∀ rs S C, rs.length = n → sp' rs S C → sp rs S C) : DefM P w K mg base C m k n sp' := by
  obtain ⟨f, fd, ps, a, b⟩ := d.ex
  exact ⟨f, fd, ps, a.imp (toSp_imp h), b⟩
theorem DefI.imp (d : DefI P w K mg base x C k n sp) (h : ∀ rs S C, rs.length = n → sp' rs S C → sp rs S C) : DefI P w K mg base x C k n sp' := by
  obtain ⟨f, fd, ps, a, b⟩ := d.ex
  exact ⟨f, fd, ps, a.imp (toSp_imp h), b⟩
end
/-! ### weakenings: what is known is told otherwise (cells let go, frozen, in another order) -/
/-- of a value and the cells -/
def Wkn (r : R) (S : SH) (r' : R) (S' : SH) : Prop := ∀ (K : Fg) (F : SH) (H : Hp) (L : Live) (v : V), OkF K F H S ((v, r) :: L) → OkF K F H S' ((v, r') :: L)
/-- of a frame and the cells -/
def WkF (fr : Fr) (S : SH) (fr' : Fr) (S' : SH) : Prop := ∀ (K : Fg) (F : SH) (H : Hp) (σ : L2.St) (L : Live), FrOk σ fr L → OkF K F H S L → ∃ L', FrOk σ fr' L' ∧ OkF K F H S' L' ∧ ∀ e ∈ L, e ∈ L'
def WkC (C : CR0) : CR0 := fun r S => ∃ r' S', Wkn r S r' S' ∧ C r' S'
theorem WkC.of {C : CR0} {r : R} {S : SH} (h : C r S) : WkC C r S := ⟨r, S, fun _ _ _ _ _ o => o, h⟩
theorem wkn_sub {r : R} {S S1 S' : SH} (hp : S.Perm S1) (hs : S'.Sublist S1) : Wkn r S r S' := fun K F H L v o => (o.perm (hp.append_right F)).less (hs.append (List.Sublist.refl F))
theorem wkn_obj {p C : Addr} {ks : List Str} {rs : List R} {S : SH} (hl : rs.length = ks.length) : Wkn (.val (.ref p)) (.ins p C ks rs :: S) (.obj C ks rs) S := fun K F H L v o => by
  have e := o.val List.mem_cons_self
  subst e
  exact ((Ok.frzI (i := 0) o rfl hl)).sub (sub_cons tl_mem)
theorem wkn_lst {p : Addr} {ds : List PyData} {S : SH} : Wkn (.val (.ref p)) (.lst p (ds.map R.dat) :: S) (.dat (.list ds)) S := fun K F H L v o => by
  have e := o.val List.mem_cons_self
  subst e
  exact ((Ok.frz (i := 0) o rfl (dats_map ds))).sub (sub_cons tl_mem)
theorem Wkn.trans {r r' r'' : R} {S S' S'' : SH} (h : Wkn r S r' S') (g : Wkn r' S' r'' S'') : Wkn r S r'' S'' := fun K F H L v o => g K F H L v (h K F H L v o)
section
variable {P : Program} {w : World} {K : Fg} {mg : Str → Option Value} {base : Heap} {n : Nat} {sp : SpD}
theorem toSp_wk : ∀ vs H Q E, toSp K n sp vs H Q E → toSp K n (fun rs S C => ∃ C', sp rs S C' ∧ ∀ r S, WkC C' r S → C r S) vs H Q E := fun vs H Q E ⟨hl, F, S, L, rs, C, o, lv, hs, q⟩ =>
  ⟨hl, F, S, L, rs, WkC C, o, lv, ⟨C, hs, fun _ _ z => z⟩, fun v r S' H' o' ⟨r2, S2, hw, h2⟩ => q v r2 S2 H' (hw K F H' L v o') h2⟩
/-- THE RULE: a def's body, its ends weakened -/
theorem okD_wk {x qual : Str} {st : Stmt} {f : Addr} {fd : FuncData} {N ps : List Str} {k : Nat} (Fn : Fun K x qual st f fd) (Sc : FnScope N ps (defScope st)) (hn : ps.length = n)
    (hbody : ∀ (cdv : Value) (A : Around) (outer : List Env) (s : Shared) (H : Hp) (E : XK), Room k (A.deeper (envOfC qual (defScope st) s.heap.objs.size f cdv)) →
      ∃ ds, PDSs (cxOf CX0 P w K mg base N qual (defScope st) f cdv A outer s H E).nox (defBody st) ds ∧ ∀ rs S C, rs.length = n → sp rs S C → ds { nx := fun _ S => WkC C (.dat .none) S, rt := WkC C } (startF N rs) S) : FnOk P w K mg base CX0 (k + 1) f fd ps (toSp K n sp) := by
  refine (okD (sp := fun rs S C => ∃ C', sp rs S C' ∧ ∀ r S, WkC C' r S → C r S) Fn Sc hn fun cdv A outer s H E hr => ?_).imp toSp_wk
  obtain ⟨ds, hp, hd⟩ := hbody cdv A outer s H E hr
  obtain ⟨ts, pt, l⟩ := hp.ex
  refine ⟨fun D fr S => ∃ C', (∀ r S, WkC C' r S → D.rt r S) ∧ (∀ fr S, WkC C' (.dat .none) S → D.nx fr S) ∧ ds { nx := fun _ S => WkC C' (.dat .none) S, rt := WkC C' } fr S, ⟨ts, pt, fun F H σ fr S L f o D D' e ⟨C', h1, h2, h3⟩ => ?_⟩, fun rs S C hl ⟨C', hs, hw⟩ => ⟨C', hw, fun _ S q => hw _ S q, hd rs S C' hl hs⟩⟩
  exact l F H σ fr S L f o D { nx := fun _ S => WkC C' (.dat .none) S, rt := WkC C' } ⟨fun σ' fr' S' H' L' f' o' s' q => e.nx σ' fr' S' H' L' f' o' s' (h2 fr' S' q), fun v r S' H' o' q => e.rt v r S' H' o' (h1 r S' q), fun _ _ _ _ _ _ _ _ q => q.elim, fun _ _ _ _ _ _ _ _ q => q.elim⟩ h3
theorem okW {x : Str} {st : Stmt} {N ps : List Str} {k : Nat} (Fn : FunAt K mg x st ps) (Sc : FnScope N ps (defScope st)) (hn : ps.length = n)
    (hbody : ∀ (cdv : Value) (A : Around) (outer : List Env) (s : Shared) (H : Hp) (E : XK) (f : Addr), Room k (A.deeper (envOfC x (defScope st) s.heap.objs.size f cdv)) →
      ∃ ds, PDSs (cxOf CX0 P w K mg base N x (defScope st) f cdv A outer s H E).nox (defBody st) ds ∧ ∀ rs S C, rs.length = n → sp rs S C → ds { nx := fun _ S => WkC C (.dat .none) S, rt := WkC C } (startF N rs) S) : Def P w K mg base x (k + 1) n sp := by
  obtain ⟨f, fd, Fu, hm, hb⟩ := Fn.ex
  exact ⟨f, fd, ps, okD_wk Fu Sc hn fun cdv A outer s H E hr => hbody cdv A outer s H E f hr, hm, Fu.kp, hb⟩
theorem okM {C : Addr} {m qual : Str} {st : Stmt} {N ps : List Str} {k : Nat} (Fn : FunM K C m qual st ps) (Sc : FnScope N ps (defScope st)) (hn : ps.length = n)
    (hbody : ∀ (cdv : Value) (A : Around) (outer : List Env) (s : Shared) (H : Hp) (E : XK) (f : Addr), Room k (A.deeper (envOfC qual (defScope st) s.heap.objs.size f cdv)) →
      ∃ ds, PDSs (cxOf CX0 P w K mg base N qual (defScope st) f cdv A outer s H E).nox (defBody st) ds ∧ ∀ rs S C, rs.length = n → sp rs S C → ds { nx := fun _ S => WkC C (.dat .none) S, rt := WkC C } (startF N rs) S) : DefM P w K mg base C m (k + 1) n sp := by
  obtain ⟨f, fd, Fu, hm, hb⟩ := Fn.ex
  exact ⟨f, fd, ps, okD_wk Fu Sc hn fun cdv A outer s H E hr => hbody cdv A outer s H E f hr, hm, hb⟩
theorem okI {x : Str} {C : Addr} {qual : Str} {st : Stmt} {N ps : List Str} {k : Nat} (Fn : FunI K mg x C qual st ps) (Sc : FnScope N ps (defScope st)) (hn : ps.length = n)
    (hbody : ∀ (cdv : Value) (A : Around) (outer : List Env) (s : Shared) (H : Hp) (E : XK) (f : Addr), Room k (A.deeper (envOfC qual (defScope st) s.heap.objs.size f cdv)) →
      ∃ ds, PDSs (cxOf CX0 P w K mg base N qual (defScope st) f cdv A outer s H E).nox (defBody st) ds ∧ ∀ rs S C, rs.length = n → sp rs S C → ds { nx := fun _ S => WkC C (.dat .none) S, rt := WkC C } (startF N rs) S) : DefI P w K mg base x C (k + 1) n sp := by
  obtain ⟨f, fd, Fu, hm, hb, hx⟩ := Fn.ex
  exact ⟨f, fd, ps, okD_wk Fu Sc hn fun cdv A outer s H E hr => hbody cdv A outer s H E f hr, hm, hb, hx⟩
end
/-- a weakening ahead of a block -/
def sWk (ds : DS) : DS := fun D fr S => ∃ fr' S', WkF fr S fr' S' ∧ ds D fr' S'
section
variable {X : Cx} {a b c e o v : Expr} {da db dc de dO dv : DE} {dA : DA} {pos pos' p apos : Pos} {es : List Expr} {C : Addr} {ks : List Str} {f m x : Str} {sts : List Stmt} {ds : DS}
theorem ss_wk (h : PDSs X sts ds) : PDSs X sts (sWk ds) := by
  obtain ⟨ts, p, l⟩ := h.ex
  exact ⟨ts, p, fun F H σ fr S L fo o D D' e ⟨fr', S', hw, hd⟩ => by
    obtain ⟨L', f', o', s'⟩ := hw X.K F H σ L fo o
    exact l F H σ fr' S' L' f' o' D D' (e.mono s') hd⟩
theorem d_meth {sp : SpD} {k n : Nat} {pl : Sem Bool} (T : Klass X.K C ks) (d : DefM X.prog X.w X.K X.mg X.base C m k n sp) (hr : Room k X.A) (hm : m ∉ ks) (ho : PD X o dO) (ha : PDA X (e :: es) dA)
    (hst : starEach (e :: es) X.env = (false, eval e X.env) :: starEach es X.env := by rfl) (hpl : (backTo pos (starEach es X.env)).any (·.1) = false := by rfl)
    (ht : eval (.Call (.Attribute o m apos) (e :: es) [] pos) X.env = (do
      let ov ← eval o X.env
      standAt apos.atName
      let (f, first) ← holding [ov] (getMethod ov m pl)
      callWith pos f first (backTo pos (starEach (e :: es) X.env)) (backToKw pos (keywordEach [] X.env))) := by rfl) :
    PD X (.Call (.Attribute o m apos) (e :: es) [] pos) (dMeth C ks n sp dO dA) := by
  obtain ⟨f, fd, ps, F, hM, hb⟩ := d.ex
  obtain ⟨_, p1, l1⟩ := ho.ex
  obtain ⟨_, p2, l2⟩ := ha.ex
  exact ⟨_, pe_meth p1 T.cl hM F hr hb .nil pass0 p2 hst hpl ht, lift_meth hm l1 l2⟩
theorem d_meth0 {sp : SpD} {k n : Nat} {pl : Sem Bool} (T : Klass X.K C ks) (d : DefM X.prog X.w X.K X.mg X.base C m k n sp) (hr : Room k X.A) (hm : m ∉ ks) (ho : PD X o dO)
    (ht : eval (.Call (.Attribute o m apos) [] [] pos) X.env = (do
      let ov ← eval o X.env
      standAt apos.atName
      let (f, first) ← holding [ov] (getMethod ov m pl)
      callWith pos f first (backTo pos (starEach [] X.env)) (backToKw pos (keywordEach [] X.env))) := by rfl) :
    PD X (.Call (.Attribute o m apos) [] [] pos) (dMeth C ks n sp dO dNil) := by
  obtain ⟨f, fd, ps, F, hM, hb⟩ := d.ex
  obtain ⟨_, p1, l1⟩ := ho.ex
  exact ⟨_, pe_meth0 p1 T.cl hM F hr hb .nil pass0 ht, lift_meth hm l1 lift_nil⟩
theorem d_make {sp : SpD} {k n : Nat} (ks : List Str) (d : DefI X.prog X.w X.K X.mg X.base x C k n sp) (hr : Room (k + 1) X.A) (hg : Gl X x) (ha : PDA X (e :: es) dA) (hdb : (x == ("__debug__" : Str)) = false := by decide) (he : starEach (e :: es) X.env = (false, eval e X.env) :: starEach es X.env := by rfl) (hpl : (backTo pos (starEach es X.env)).any (·.1) = false := by rfl) :
    PD X (.Call (.Name x p) (e :: es) [] pos) (dMake C ks n sp dA) := by
  obtain ⟨f, fd, ps, F, M, hb, hm⟩ := d.ex
  obtain ⟨_, p2, l2⟩ := ha.ex
  exact ⟨_, pe_make M F hr hg hm hb .nil pass0 p2 hdb he hpl, lift_make l2⟩
end
end DL
set_option Elab.async false
set_option linter.all false
set_option maxRecDepth 100000
set_option maxHeartbeats 4000000
/-! DL: zip of a text and a tuple; written dicts and tuples; (x,) * n; comprehensions over a list that is a cell. -/
namespace DL
open PySem PySem.Spec PyProof.Rows L2

/-! ### zip(text, tuple) -/
def ItzS (K : Fg) (z : Str) (b : Addr) : It :=
  ⟨fun i H => i < z.cps.size ∧ ∃ (ys : List V) (y : V), SqT K H b ys ∧ ys[i]? = some y,
    fun i H v H' => ∃ T c y, v = .ref T ∧ H T = none ∧ H' = upd H T (.tup [.str ⟨#[c]⟩, y]) ∧ z.cps[i]? = some c ∧ ∀ ys, SqT K H b ys → ys[i]? = some y,
    fun i H => ∃ ys : List V, SqT K H b ys ∧ i = min z.cps.size ys.length⟩
theorem turn_zipS {P : Program} {w : World} {K : Fg} {elts : List Expr} {kk : Nat} {tpos : Pos} {z : Str} {tk0 : Tok} {b zz TI TO i1 i2 : Addr} (D : ZipSep2 zz TI TO i1 i2 [i1] [i2, b]) (hne : b ≠ i2) :
    Turn P w K (.Tuple elts kk tpos) (ItzS K z b) [zz, TI, TO, i1, i2] zz (fun i h => IsZip h zz TI TO .none ∧ IsTupOf2 h TI (.ref i1) (.ref i2) ∧ (∃ x y, IsTupOf2 h TO x y) ∧ h.IsStrIter i1 (strIterType z) z tk0 i ∧ h.IsTupleIter i2 b i) where
  mem := by simp
  obj := fun i h st c hc => by
    obtain ⟨hz, hTI, ⟨x, y, hTO⟩, ⟨o1, e1, _, d1⟩, ⟨o2, e2, _, d2⟩⟩ := st
    have e' : c = zz ∨ c = TI ∨ c = TO ∨ c = i1 ∨ c = i2 := by simpa using hc
    rcases e' with q | q | q | q | q
    · rw [q]; exact ⟨_, hz, fun v q => nomatch q⟩
    · rw [q]; exact ⟨_, hTI, fun v q => nomatch q⟩
    · rw [q]; exact ⟨_, hTO, fun v q => nomatch q⟩
    · rw [q]; exact ⟨o1, e1, fun v q => by rw [d1] at q; cases q⟩
    · rw [q]; exact ⟨o2, e2, fun v q => by rw [d2] at q; cases q⟩
  keep := fun i h h' st k => by
    obtain ⟨hz, hTI, ⟨x, y, hTO⟩, ⟨o1, e1, r1⟩, h2⟩ := st
    exact ⟨k zz (by simp) _ hz, k TI (by simp) _ hTI, ⟨x, y, k TO (by simp) _ hTO⟩, ⟨o1, k i1 (by simp) o1 e1, r1⟩, h2.at fun o q => k i2 (by simp) o q⟩
  item := by
    intro X hP hw hK hc i pins s σ H E I hf st hg
    subst hP hw hK
    obtain ⟨hz, hTI, hTO, h1, h2⟩ := st
    obtain ⟨hlt, ys, y, hqy, hy⟩ := hg
    obtain ⟨its, rv, p, _⟩ := I.tuple hqy
    obtain ⟨u, hu, ru⟩ := rv.get hy
    have hhd : X.A.in1.handled = none := I.ok.hd hc
    have G := GoesN.zip2 (prog := X.prog) (w := X.w) (A := X.A) (elts := elts) (x1 := kk) (pos := tpos) D (Draws.text hhd i1 z tk0) (Draws.tuple hhd i2 b hne its.toArray)
    have hlt2 : i < its.toArray.size := by
      have := (List.getElem?_eq_some_iff.mp hu).1
      simpa using this
    refine G.goes i s _ _ (by omega) ⟨hz, hTI, hTO, h1, h2, p⟩ fun v h' tk hY st' hk htk => ?_
    obtain ⟨T, xv, yv, rfl, hT0, ⟨c, t, hcx, rfl⟩, hyv, hT⟩ := hY
    have eyv : yv = u := by
      have e1 : its[i]? = some yv := by simpa using hyv
      rw [hu] at e1
      exact (Option.some.inj e1).symm
    subst eyv
    have new : ObjOk X.prog X.w (upd H T (.tup [.str ⟨#[c]⟩, y])) h' T (.tup [.str ⟨#[c]⟩, y]) :=
      ⟨by show 2 ≤ sizeLine; decide, [.str ⟨#[c]⟩ t, yv], .cons ⟨t, rfl⟩ (.cons ru .nil), hT⟩
    have I1 : Inv X pins σ (upd H T (.tup [.str ⟨#[c]⟩, y])) { s with heap := h', toks := tk } :=
      I.turnedNew (t' := tk) (ch := [zz, TI, TO, i1, i2]) (fun c o hb q => hk c o (fun q' => hb (by
        have q'' : c = zz ∨ c = TO ∨ c = i1 ∨ c = i2 := by simpa using q'
        rcases q'' with q'' | q'' | q'' | q'' <;> simp [q''])) q) hf hT0 new
    refine ⟨.ref T, _, I1, rfl, ⟨T, c, y, rfl, I.hok.fresh hT0, rfl, hcx, fun l hl => by rw [I.tuple_inj hl hqy]; exact hy⟩, ⟨st'.1, st'.2.1, st'.2.2.1, st'.2.2.2.1, st'.2.2.2.2.1⟩, fun c' hcm => ?_⟩
    have hlt : c' < s.heap.objs.size := by
      obtain ⟨x0, y0, hTO'⟩ := hTO
      have e' : c' = zz ∨ c' = TI ∨ c' = TO ∨ c' = i1 ∨ c' = i2 := by simpa using hcm
      rcases e' with q | q | q | q | q
      · rw [q]; exact Heap.lt_size hz
      · rw [q]; exact Heap.lt_size hTI
      · rw [q]; exact Heap.lt_size hTO'
      · rw [q]; obtain ⟨_, e1, _⟩ := h1; exact Heap.lt_size e1
      · rw [q]; obtain ⟨_, e2, _⟩ := h2; exact Heap.lt_size e2
    rw [upd_ne (Nat.ne_of_lt (Nat.lt_of_lt_of_le hlt hT0))]
    exact (hf c' hcm).1
  done := by
    intro X hP hw hK hc i pins s σ H E I hf st hg
    subst hP hw hK
    obtain ⟨hz, hTI, hTO, h1, h2⟩ := st
    obtain ⟨ys, hqy, hend⟩ := hg
    obtain ⟨its, rv, p, _⟩ := I.tuple hqy
    have l1 := rv.length
    have hhd : X.A.in1.handled = none := I.ok.hd hc
    have G := GoesN.zip2 (prog := X.prog) (w := X.w) (A := X.A) (elts := elts) (x1 := kk) (pos := tpos) D (Draws.text hhd i1 z tk0) (Draws.tuple hhd i2 b hne its.toArray)
    have e : i = min z.cps.size its.toArray.size := by rw [hend, l1]; simp
    subst e
    exact wpAny_mono (G.stops s (fun s1 => Inv X pins σ H s1) _ ⟨hz, hTI, hTO, h1, h2, p⟩ fun h' tk hk htk => I.turnedL (t' := tk) (ch := [zz, TI, TO, i1, i2]) (fun c o hb q =>
      hk c o (fun q' => hb (by
        have q'' : c = zz ∨ c = TO ∨ c = i1 ∨ c = i2 := by simpa using q'
        rcases q'' with q'' | q'' | q'' | q'' <;> simp [q''])) q) hf) (fun _ _ h => h) (fun _ _ h => h)
  self := fun A i s Q E st h => wpAny_pyIter_zip st.1 h
def iZipS (K : Fg) (ta : TA) : TI := fun σ H R => ta σ H fun vs H1 => ∃ z b ys, vs = [.str z, .ref b] ∧ SqT K H1 b ys ∧ R (ItzS K z b) H1
theorem pi_zipS {X : Cx} {e e2 : Expr} {ta : TA} {p pos tpos : Pos} {elts : List Expr} {kk : Nat} (hg : Gl X "zip") (hm : X.mg "zip" = none) (ha : PA X [e, e2] ta)
    (hs : starEach [e, e2] X.env = (false, eval e X.env) :: starEach [e2] X.env := by rfl) (hpl : (backTo pos (starEach [e2] X.env)).any (·.1) = false := by rfl) :
    PI X (.Tuple elts kk tpos) (.Call (.Name "zip" p) [e, e2] [] pos) (iZipS X.K ta) := by
  refine ⟨fun pins s σ H R I h => ?_⟩
  refine Call_ (ld_blt I hg hm PyProof.Rows.boot_zip (PyProof.Rows.callWith_type1 (thn (ha.run pos pins s σ H _ I h) fun us s1 ⟨vs, H1, I1, r1, q1⟩ => ?_) hs hpl))
  obtain ⟨z, b, ys, ex, hqy, q⟩ := q1
  subst ex
  cases r1 with
  | cons r rr =>
    cases rr with
    | cons r' rr =>
      cases rr
      obtain ⟨t, rfl⟩ := r
      cases r'
      have fresh5 : ∀ c, c ∈ [s1.heap.objs.size + 4, s1.heap.objs.size + 2, s1.heap.objs.size + 3, s1.heap.objs.size, s1.heap.objs.size + 1] → FpOk X pins H1 c := fun c hcm => by
        have e' : c = s1.heap.objs.size + 4 ∨ c = s1.heap.objs.size + 2 ∨ c = s1.heap.objs.size + 3 ∨ c = s1.heap.objs.size ∨ c = s1.heap.objs.size + 1 := by simpa using hcm
        have hle : s1.heap.objs.size ≤ c := by
          rcases e' with z | z | z | z | z
          · rw [z]; exact Nat.le_add_right _ _
          · rw [z]; exact Nat.le_add_right _ _
          · rw [z]; exact Nat.le_add_right _ _
          · rw [z]; exact Nat.le_refl _
          · rw [z]; exact Nat.le_add_right _ _
        exact I1.fpOk hle (I1.hok.fresh hle)
      obtain ⟨its, rv, p1, _⟩ := I1.tuple hqy
      obtain ⟨o1, ho1, _⟩ := id p1
      have hb : b < s1.heap.objs.size := Heap.lt_size ho1
      have nadd : ∀ (n k m : Nat), k ≠ m → n + k ≠ n + m := fun n k m h e => h (Nat.add_left_cancel e)
      have nz : ∀ (n k : Nat), k ≠ 0 → n + k ≠ n := fun n k h e => h (Nat.add_left_cancel (m := k) (k := 0) e)
      have sep : ZipSep2 (s1.heap.objs.size + 4) (s1.heap.objs.size + 2) (s1.heap.objs.size + 3) s1.heap.objs.size (s1.heap.objs.size + 1) [s1.heap.objs.size] [s1.heap.objs.size + 1, b] := by
        generalize s1.heap.objs.size = n at hb
        have hb' : ∀ k : Nat, n + k ≠ b := fun k e => Nat.lt_irrefl _ (Nat.lt_of_le_of_lt (Nat.le_add_right n k) (e ▸ hb))
        have hb0 : n ≠ b := fun e => Nat.lt_irrefl _ (e ▸ hb)
        refine ⟨nadd _ _ _ (by decide), nadd _ _ _ (by decide), nadd _ _ _ (by decide), nz _ _ (by decide), List.mem_singleton.mpr rfl, fun z => nz _ _ (by decide) (List.mem_singleton.mp z), fun z => nz _ _ (by decide) (List.mem_singleton.mp z), nadd _ _ _ (by decide), List.mem_cons_self, fun z => ?_, fun z => ?_, fun z => ?_, fun z => nz _ _ (by decide) (List.mem_singleton.mp z)⟩
        · rcases List.mem_cons.mp z with z | z
          · exact nadd _ _ _ (by decide) z
          · exact hb' _ (List.mem_singleton.mp z)
        · rcases List.mem_cons.mp z with z | z
          · exact nadd _ _ _ (by decide) z
          · exact hb' _ (List.mem_singleton.mp z)
        · rcases List.mem_cons.mp z with z | z
          · exact nz _ _ (by decide) z.symm
          · exact hb0 (List.mem_singleton.mp z)
      refine zip_begins2 (begins_text z t) (begins_tuple b its.toArray) trivial p1 fun h' hz hTI hTO h1 h2 hsz hk => wpAny_pyIter_zip hz ?_
      have I2 : Inv X pins σ H1 { s1 with heap := h' } := I1.kept (t' := s1.toks) hk
      exact ⟨s1.heap.objs.size + 4, [s1.heap.objs.size + 4, s1.heap.objs.size + 2, s1.heap.objs.size + 3, s1.heap.objs.size, s1.heap.objs.size + 1], _, _, H1, rfl, I2, turn_zipS (tk0 := t) sep (fun e => Nat.lt_irrefl _ (Nat.lt_of_le_of_lt (Nat.le_add_right _ 1) (e ▸ hb))), ⟨hz, hTI, ⟨_, _, hTO⟩, ⟨_, h1, rfl, rfl⟩, ⟨_, h2, rfl, rfl⟩⟩, fresh5, q⟩
section
variable {K : Fg}
def zipSD (z : Str) (ds : List PyData) : List R := (z.cps.toList.zip ds).map fun q => R.dat (.tuple [.str ⟨#[q.1]⟩, q.2])
def iZs (da : DA) : DI := fun fr S C => da fr S fun rs S1 => match rs with
  | [.dat (.str z), .dat (.tuple ds)] => C (zipSD z ds) S1
  | _ => False
theorem it_zipS {z : Str} {b : Addr} {ds : List PyData} {L : Live} (m : (V.ref b, R.dat (.tuple ds)) ∈ L) : ItOk K (ItzS K z b) (zipSD z ds) L := fun H T L' o s i => by
  have hr := o.dat (s _ m)
  cases hr with | @tup _ xs _ h1 q1 =>
  have hq : SqT K H b xs := sqT_of (A := Av T) h1
  unfold zipSD
  refine ⟨fun r e => ?_, fun hl => ⟨xs, hq, ?_⟩⟩
  · rw [List.getElem?_map] at e
    cases e1 : (z.cps.toList.zip ds)[i]? with
    | none => rw [e1] at e; cases e
    | some q =>
      rw [e1] at e
      cases e
      obtain ⟨c, d⟩ := q
      obtain ⟨ec, ed⟩ : z.cps.toList[i]? = some c ∧ ds[i]? = some d := by
        rw [List.getElem?_zip_eq_some] at e1
        exact e1
      obtain ⟨v, ev, rv⟩ := q1.get' ed
      have ec' : z.cps[i]? = some c := by simpa using ec
      refine ⟨⟨(Array.getElem?_eq_some_iff.mp ec').1, xs, v, hq, ev⟩, fun x H' y => ?_⟩
      obtain ⟨T', c', y', rfl, hT, rfl, hc', y⟩ := y
      have e3 := y xs hq
      rw [ev] at e3
      cases e3
      rw [ec'] at hc'
      cases hc'
      exact o.tup hT (.cons (.str _) (.cons rv .nil))
  · rw [List.length_map, List.length_zip] at hl
    rw [q1.length, ← hl]
    simp
theorem lift_zipS {ta : TA} {da : DA} (l : LiftA K ta da) : LiftI K (iZipS K ta) (iZs da) := fun F H σ fr S L f o C Rr h q => by
  refine l F H σ fr S L f o _ _ h fun vs rs S1 H1 L1 o1 s1 lv h1 => ?_
  split at h1
  · cases lv with | cons m t => cases t with | cons m2 t =>
    cases t
    have hr := o1.dat m
    cases hr
    have hr2 := o1.dat m2
    cases hr2 with | tup e1 q1 =>
    exact ⟨_, _, _, rfl, sqT_of (A := Av S1) e1, q _ _ S1 H1 L1 o1 s1 (it_zipS m2) h1⟩
  · exact h1.elim
end
section
variable {X : Cx} {a b e : Expr} {dA : DA} {pos : Pos}
theorem i_zipS {p tpos : Pos} {elts : List Expr} {kk : Nat} (hg : Gl X "zip") (hm : X.mg "zip" = none) (ha : PDA X [a, b] dA) (hs : starEach [a, b] X.env = (false, eval a X.env) :: starEach [b] X.env := by rfl) (hpl : (backTo pos (starEach [b] X.env)).any (·.1) = false := by rfl) :
    PDI X (.Tuple elts kk tpos) (.Call (.Name "zip" p) [a, b] [] pos) (iZs dA) := by
  obtain ⟨_, p, l⟩ := ha.ex
  exact ⟨_, pi_zipS hg hm p hs hpl, lift_zipS l⟩
end
end DL
set_option Elab.async false
set_option linter.all false
set_option maxRecDepth 100000
set_option maxHeartbeats 4000000
/-! DL: enumerate of a tuple. -/
namespace DL
open PySem PySem.Spec PyProof.Rows L2

theorem meets_enum1 {v : Value} {o : Obj} {H : Heap → Prop} (B : Begins v o H) :
    Meets (Builtin.«enumerate.__new__» ⟨[.type "enumerate", v], []⟩) (fun _ R s => H s.heap ∧
      R (.ok (.ret (.ref (s.heap.push o).objs.size))) { s with heap := (s.heap.push o).push { cls := .type "enumerate", data := .fields #[.none, .bool false, .ref s.heap.objs.size, rawInt 0, .none, .none] } }) :=
  .of_wp fun prog w A R s h => by
    obtain ⟨hp, g, d, tk, os⟩ := s; obtain ⟨h1, h⟩ := h
    have hsub := sub_enumerate
    have q1 : ∀ {A' : Around} {E : Value → Shared → Prop} {Q : Value → Shared → Prop}, Q (.ref hp.objs.size) ⟨hp.push o, g, d, tk, os⟩ → wpAny (model prog w) A' (pyIter v) Q E ⟨hp, g, d, tk, os⟩ :=
      fun q => B.iter prog w _ _ ⟨hp, g, d, tk, os⟩ _ h1 q
    wp_walk using q1
    refine wpAny_stack_any fun st => wpAny_pure ?_
    split
    · rename_i c _ _ _ _ _
      cases (c == Value.type "enumerate")
      · wp_walk using q1
        exact ⟨_, rfl, h⟩
      · wp_walk using q1
        exact ⟨_, rfl, h⟩
    · wp_walk using q1
      exact ⟨_, rfl, h⟩
section
variable {prog : Program} {w : World} {A : Around} {E : Value → Shared → Prop} {s : Shared}
theorem enum_begins1 {v : Value} {o : Obj} {H : Heap → Prop} {Q : Value → Shared → Prop} (B : Begins v o H) (h1 : H s.heap)
    (h : ∀ h', IsEnum h' (s.heap.objs.size + 1) s.heap.objs.size 0 .none → h'.get? s.heap.objs.size = some o → h'.objs.size = s.heap.objs.size + 2 →
      (∀ b o, s.heap.get? b = some o → h'.get? b = some o) → Q (.ref (s.heap.objs.size + 1)) { s with heap := h' }) :
    wpAny (model prog w) A (call (.type "enumerate") [v]) Q E s := by
  refine callType_new F.called_enumerate (by decide) (F.typeCall_enumerate_1 _) (F.newCall_enumerate_1 _) (fun obj => F.args_object_init_2 obj _) F.entry_enumerate_new
    (meets_enum1 B) ⟨h1, ?_⟩
  have hz : (s.heap.push o).objs.size = s.heap.objs.size + 1 := Heap.size_push ..
  show _ ∧ _
  rw [hz]
  have he : IsEnum ((s.heap.push o).push { cls := .type "enumerate", data := .fields #[.none, .bool false, .ref s.heap.objs.size, rawInt 0, .none, .none] }) (s.heap.objs.size + 1) s.heap.objs.size 0 .none := by
    have := Heap.get?_push_size (s.heap.push o) (o := { cls := .type "enumerate", data := .fields #[.none, .bool false, .ref s.heap.objs.size, rawInt 0, .none, .none] }) rfl
    rw [hz] at this; exact this
  refine ⟨⟨_, he, rfl⟩, h _ he (Heap.get?_push_of_some _ (Heap.get?_push_size _ B.free)) (by rw [Heap.size_push, hz]) fun b o x => Heap.get?_push_of_some _ (Heap.get?_push_of_some _ x)⟩
end
def IteT (K : Fg) (b : Addr) : It :=
  ⟨fun i H => ∃ (ys : List V) (y : V), SqT K H b ys ∧ ys[i]? = some y,
    fun i H v H' => ∃ T y, v = .ref T ∧ H T = none ∧ H' = upd H T (.tup [.int (i : Int), y]) ∧ ∀ ys, SqT K H b ys → ys[i]? = some y,
    fun i H => ∃ ys : List V, SqT K H b ys ∧ i = ys.length⟩
theorem turn_enumT {P : Program} {w : World} {K : Fg} {elts : List Expr} {kk : Nat} {tpos : Pos} {b e it : Addr} (hei : e ≠ it) (heb : e ≠ b) (hne : b ≠ it) :
    Turn P w K (.Tuple elts kk tpos) (IteT K b) [e, it] e (fun i h => (∃ old, IsEnum h e it (0 + (i : Int)) old) ∧ h.IsTupleIter it b i) where
  mem := by simp
  obj := fun i h st c hc => by
    obtain ⟨⟨old, he⟩, ⟨o2, e2, _, d2⟩⟩ := st
    have e' : c = e ∨ c = it := by simpa using hc
    rcases e' with q | q
    · rw [q]; exact ⟨_, he, fun v q => nomatch q⟩
    · rw [q]; exact ⟨o2, e2, fun v q => by rw [d2] at q; cases q⟩
  keep := fun i h h' st k => by
    obtain ⟨⟨old, he⟩, h2⟩ := st
    exact ⟨⟨old, k e (by simp) _ he⟩, h2.at fun o q => k it (by simp) o q⟩
  item := by
    intro X hP hw hK hc i pins s σ H E I hf st hg
    subst hP hw hK
    obtain ⟨⟨old, he⟩, h2⟩ := st
    obtain ⟨ys, y, hqy, hy⟩ := hg
    obtain ⟨its, rv, p, _⟩ := I.tuple hqy
    obtain ⟨u, hu, ru⟩ := rv.get hy
    have hhd : X.A.in1.handled = none := I.ok.hd hc
    have G := GoesN.enumFrom (prog := X.prog) (w := X.w) (A := X.A) (elts := elts) (x1 := kk) (pos := tpos) 0 (Draws.tuple hhd it b hne its.toArray) e hei (by
      intro z
      have z' : e = it ∨ e = b := by simpa using z
      rcases z' with z' | z'
      · exact hei z'
      · exact heb z') (by simp)
    have hlt2 : i < its.toArray.size := by
      have := (List.getElem?_eq_some_iff.mp hu).1
      simpa using this
    refine G.goes i s _ _ hlt2 ⟨⟨old, he⟩, h2, p⟩ fun v h' tk hY st' hk htk => ?_
    obtain ⟨T, t, yv, rfl, hT0, hyv, hT⟩ := hY
    have eyv : yv = u := by
      have e1 : its[i]? = some yv := by simpa using hyv
      rw [hu] at e1
      exact (Option.some.inj e1).symm
    subst eyv
    have e0 : (0 : Int) + (i : Int) = (i : Int) := Int.zero_add _
    rw [e0] at hT
    have new : ObjOk X.prog X.w (upd H T (.tup [.int (i : Int), y])) h' T (.tup [.int (i : Int), y]) :=
      ⟨by show 2 ≤ sizeLine; decide, [.int (i : Int) t, yv], .cons ⟨t, rfl⟩ (.cons ru .nil), hT⟩
    have I1 : Inv X pins σ (upd H T (.tup [.int (i : Int), y])) { s with heap := h', toks := tk } :=
      I.turnedNew (t' := tk) (ch := [e, it]) (fun c o hb q => hk c o hb q) hf hT0 new
    refine ⟨.ref T, _, I1, rfl, ⟨T, y, rfl, I.hok.fresh hT0, rfl, fun l hl => by rw [I.tuple_inj hl hqy]; exact hy⟩, ⟨st'.1, st'.2.1⟩, fun c' hcm => ?_⟩
    have hlt : c' < s.heap.objs.size := by
      have e' : c' = e ∨ c' = it := by simpa using hcm
      rcases e' with q | q
      · rw [q]; exact Heap.lt_size he
      · rw [q]; obtain ⟨_, e2, _⟩ := h2; exact Heap.lt_size e2
    rw [upd_ne (Nat.ne_of_lt (Nat.lt_of_lt_of_le hlt hT0))]
    exact (hf c' hcm).1
  done := by
    intro X hP hw hK hc i pins s σ H E I hf st hg
    subst hP hw hK
    obtain ⟨⟨old, he⟩, h2⟩ := st
    obtain ⟨ys, hqy, hend⟩ := hg
    obtain ⟨its, rv, p, _⟩ := I.tuple hqy
    have l1 := rv.length
    have hhd : X.A.in1.handled = none := I.ok.hd hc
    have G := GoesN.enumFrom (prog := X.prog) (w := X.w) (A := X.A) (elts := elts) (x1 := kk) (pos := tpos) 0 (Draws.tuple hhd it b hne its.toArray) e hei (by
      intro z
      have z' : e = it ∨ e = b := by simpa using z
      rcases z' with z' | z'
      · exact hei z'
      · exact heb z') (by simp)
    have e : i = its.toArray.size := by rw [hend, l1]; simp
    subst e
    exact wpAny_mono (G.stops s (fun s1 => Inv X pins σ H s1) _ ⟨⟨old, he⟩, h2, p⟩ fun h' tk hk htk => I.turnedL (t' := tk) (fun c o hb q => hk c o hb q) hf) (fun _ _ h => h) (fun _ _ h => h)
  self := fun A i s Q E st h => by
    obtain ⟨⟨old, he⟩, _⟩ := st
    exact wpAny_pyIter_enum he h
def iEnumT (K : Fg) (ta : TA) : TI := fun σ H R => ta σ H fun vs H1 => ∃ b ys, vs = [.ref b] ∧ SqT K H1 b ys ∧ R (IteT K b) H1
theorem pi_enumT {X : Cx} {e : Expr} {ta : TA} {p pos tpos : Pos} {elts : List Expr} {kk : Nat} (hg : Gl X "enumerate") (hm : X.mg "enumerate" = none) (ha : PA X [e] ta) (hs : starEach [e] X.env = [(false, eval e X.env)] := by rfl) :
    PI X (.Tuple elts kk tpos) (.Call (.Name "enumerate" p) [e] [] pos) (iEnumT X.K ta) := by
  refine ⟨fun pins s σ H R I h => ?_⟩
  refine Call_ (ld_blt I hg hm boot_enumerate (PyProof.Rows.callWith_type1 (thn (ha.run pos pins s σ H _ I h) fun us s1 ⟨vs, H1, I1, r1, q1⟩ => ?_) hs rfl))
  obtain ⟨b, ys, ex, hq, q⟩ := q1
  subst ex
  cases r1 with
  | cons r rr =>
    cases rr
    cases r
    obtain ⟨its, rv, p1, _⟩ := I1.tuple hq
    obtain ⟨o1, ho1, _⟩ := id p1
    have hb : b < s1.heap.objs.size := Heap.lt_size ho1
    refine enum_begins1 (begins_tuple b its.toArray) p1 fun h' he h2 hsz hk => wpAny_pyIter_enum he ?_
    have I2 : Inv X pins σ H1 { s1 with heap := h' } := I1.kept (t' := s1.toks) hk
    refine ⟨s1.heap.objs.size + 1, [s1.heap.objs.size + 1, s1.heap.objs.size], _, _, H1, rfl, I2, turn_enumT (b := b) (Nat.succ_ne_self _) (fun e => Nat.lt_irrefl _ (Nat.lt_of_le_of_lt (Nat.le_add_right _ 1) (e ▸ hb))) (fun e => Nat.lt_irrefl _ (e ▸ hb)), ⟨⟨.none, he⟩, ⟨_, h2, rfl, rfl⟩⟩, fun b' hb' => ?_, q⟩
    have e' : b' = s1.heap.objs.size + 1 ∨ b' = s1.heap.objs.size := by simpa using hb'
    have hle : s1.heap.objs.size ≤ b' := by
      rcases e' with z | z
      · rw [z]; exact Nat.le_add_right _ _
      · rw [z]; exact Nat.le_refl _
    exact I1.fpOk hle (I1.hok.fresh hle)
section
variable {K : Fg}
def iEnT (da : DA) : DI := fun fr S C => da fr S fun rs S1 => match rs with
  | [.dat (.tuple ds)] => C (enumD ds) S1
  | _ => False
theorem it_enumT {b : Addr} {ds : List PyData} {L : Live} (m : (V.ref b, R.dat (.tuple ds)) ∈ L) : ItOk K (IteT K b) (enumD ds) L := fun H T L' o s i => by
  have hr := o.dat (s _ m)
  cases hr with | @tup _ xs _ h1 q1 =>
  have hq : SqT K H b xs := sqT_of (A := Av T) h1
  refine ⟨fun r e => ?_, fun hl => ⟨xs, hq, ?_⟩⟩
  · unfold enumD at e
    rw [List.getElem?_map] at e
    by_cases hi : i < ds.length
    · rw [List.getElem?_range hi] at e
      cases e
      have e1 : ds[i]? = some ds[i] := List.getElem?_eq_getElem hi
      obtain ⟨v, ev, rv⟩ := q1.get' e1
      refine ⟨⟨xs, v, hq, ev⟩, fun x H' y => ?_⟩
      obtain ⟨T', y', rfl, hT, rfl, y⟩ := y
      have e3 := y xs hq
      rw [ev] at e3
      cases e3
      have e2 : ds.getD i .none = ds[i] := by rw [List.getD_eq_getElem?_getD, e1]; rfl
      show Ok K _ T ((V.ref T', R.dat (.tuple [.int ((i : Nat) : Int), ds.getD i .none])) :: L')
      rw [e2]
      exact o.tup hT (.cons (.int _) (.cons rv .nil))
    · rw [List.getElem?_eq_none (by simpa using hi)] at e
      cases e
  · rw [q1.length, ← hl]
    simp [enumD]
theorem lift_enumT {ta : TA} {da : DA} (l : LiftA K ta da) : LiftI K (iEnumT K ta) (iEnT da) := fun F H σ fr S L f o C Rr h q => by
  refine l F H σ fr S L f o _ _ h fun vs rs S1 H1 L1 o1 s1 lv h1 => ?_
  split at h1
  · cases lv with | cons m t =>
    cases t
    have hr := o1.dat m
    cases hr with | tup e1 q1 =>
    exact ⟨_, _, rfl, sqT_of (A := Av S1) e1, q _ _ S1 H1 L1 o1 s1 (it_enumT m) h1⟩
  · exact h1.elim
end
section
variable {X : Cx} {a b e : Expr} {dA : DA} {pos : Pos}
theorem i_enumT {p tpos : Pos} {elts : List Expr} {kk : Nat} (hg : Gl X "enumerate") (hm : X.mg "enumerate" = none) (ha : PDA X [e] dA) (hs : starEach [e] X.env = [(false, eval e X.env)] := by rfl) :
    PDI X (.Tuple elts kk tpos) (.Call (.Name "enumerate" p) [e] [] pos) (iEnT dA) := by
  obtain ⟨_, p, l⟩ := ha.ex
  exact ⟨_, pi_enumT hg hm p hs, lift_enumT l⟩
end
end DL
set_option Elab.async false
set_option linter.all false
set_option maxRecDepth 100000
set_option maxHeartbeats 4000000
/-! DL: (x,) * n; written tuples and dicts of texts; comprehensions over a list that is a cell. -/
namespace DL
open PySem PySem.Spec PyProof.Rows L2

/-! ### tuple * int -/
theorem tuple_mul1 (l : Addr) (items : Array Value) (n : Nat) (dd : Option Addr) (sl : Array (Option Value)) (u : Tok) :
    Meets (Builtin.«tuple.__mul__» ⟨[.ref l, .int 1 u], []⟩) (fun _ R s => s.heap.get? l = some { cls := .type "tuple", dict := dd, data := .seq items n, slots := sl } ∧
      R (.ok (.ret (Value.ref l))) s) :=
  .of_wp fun prog w A R s h => by
    obtain ⟨hp, g, d, tk, os⟩ := s
    obtain ⟨hl, h⟩ := h
    have f1 := AutoSeq1.idx_int
    wp_walk using wpAny_loadPart' hl
    exact ⟨_, rfl, h⟩
def rRep1 (K : Fg) : R2 := fun x y H Q => ∃ l xs, x = .ref l ∧ y = .int 1 ∧ SqT K H l xs ∧ Q (.ref l) H
theorem op_rep1 {X : Cx} : OpR X (binaryOp .Mult) (rRep1 X.K) := by
  intro pins s σ H x y v u Q I rx ry h
  obtain ⟨l, xs, rfl, rfl, hT, q⟩ := h
  cases rx
  obtain ⟨t, rfl⟩ := ry
  obtain ⟨its, r, ⟨⟨cls, dd, data, sl⟩, ho, hc, n, hd⟩, hs⟩ := I.tuple hT
  simp only at hc hd
  subst hc hd
  refine wpAny_binaryOp_repeat_ref (T := "tuple") (U := "int") (by decide) ⟨_, ho, rfl⟩ (fun s' => typeIs_int s' 1 t) noFill_tuple_mul F.fills_int_mul F.slot_int_rmul repeat_tuple F.slot_int_index.lookup
    (call_meets F.slot_int_rmul (typeIs_int s 1 t) F.entry_int_rmul (F.args_int_rmul_2 _ _) (int_rmul_tuple 1 t l its.toArray n dd sl)
      ⟨ho, rfl, ⟨_, ho, rfl⟩, call_meets F.slot_tuple_mul ⟨_, ho, rfl⟩ F.entry_tuple_mul (F.args_tuple_mul_2 _ _) (tuple_mul1 l its.toArray n dd sl t) ⟨ho, ?_⟩⟩)
  exact ⟨.ref l, H, I, rfl, q⟩
section
variable {K : Fg}
def fMulT : F2 := fun a b S C => match a, b with
  | .dat (.tuple xs), .dat (.int k) => xs ≠ [] ∧ 1 ≤ k ∧ k ≤ 1000 ∧ xs.length ≤ 1000 ∧ C (.dat (.tuple (List.replicate k.toNat xs).flatten)) S
  | _, _ => False
def rMulT (K : Fg) : R2 := fun x y H Q => rRepT K x y H Q ∨ rRep1 K x y H Q
theorem opd_mulT : OpD K (rMulT K) fMulT := by
  intro F x y a b H S L C Q o hx hy hf q
  replace hx := o.live _ hx
  replace hy := o.live _ hy
  unfold fMulT at hf
  split at hf
  · rename_i xs k
    cases rep_int_inv hy
    obtain ⟨hne, h1, h2, hl, h⟩ := hf
    cases hx with | @tup _ vs _ e1 q1 =>
    by_cases hk : k = 1
    · subst hk
      refine .inr ⟨_, _, rfl, rfl, sqT_of (A := Av S) e1, q _ _ S H (o.pd (.tup e1 q1)) ?_⟩
      have e : (List.replicate (1 : Int).toNat xs).flatten = xs := by simp
      rw [e] at h
      exact h
    · refine .inl ⟨_, _, _, rfl, rfl, sqT_of (A := Av S) e1, fun z => hne ?_, by omega, h2, by rw [q1.length]; exact hl, fun p hp => q _ _ S _ (o.tup hp (q1.rep _)) h⟩
      have := q1.length
      rw [z] at this
      exact List.eq_nil_of_length_eq_zero this.symm
  · exact hf.elim
end
/-! ### a written dict of texts: d.get(k, x) -/
structure KTab (K : Fg) (w : World) (a : Addr) (kvs : List (Str × Str)) : Prop where
  ex : ∃ es n, KDict K w a es n
  at_ : ∀ z, ∃ r, PySem.W.nsIn K a z = some r ∧ match kvs.lookup z with
    | some s => ∃ u, r = some u ∧ RelV (.str s) u
    | none => r = none
def tKGet (a : Addr) (kvs : List (Str × Str)) (ty tx : TE) : TE := fun σ H Q => ty σ H fun y H1 => tx σ H1 fun z H2 => ∃ s, y = .str s ∧ Q (match kvs.lookup s with | some v => .str v | none => z) H2
section
variable {X : Cx} {o e f : Expr} {apos cpos : Pos} {ty tx : TE} {a : Addr} {kvs : List (Str × Str)}
theorem pe_kget (T : KTab X.K X.w a kvs) (ho : PE X o (tC (.ref a))) (he : PE X e ty) (hf : PE X f tx) (m : M2 X o "get" apos e f cpos) : PE X (.Call (.Attribute o "get" apos) [e, f] [] cpos) (tKGet a kvs ty tx) := by
  refine ⟨fun pins s σ H Q I h => ?_⟩
  refine wpAny_Call_method m.base m.few m.line PySem.F.plainAttrs_dict PySem.F.slot_dict_get PySem.F.type_dict_get (thn (ho.run pins s σ H (fun v H' => v = .ref a ∧ ty σ H' fun y H1 => tx σ H1 fun z H2 => ∃ s, y = .str s ∧ Q (match kvs.lookup s with | some v => .str v | none => z) H2) I ⟨rfl, h⟩) fun u s1 ⟨x, H1, I1, rx, ex, q1⟩ => ?_)
  subst ex
  obtain rfl : u = Value.ref a := rx
  obtain ⟨es, n, D⟩ := T.ex
  have hk := I1.kIn a _ D.at_
  refine ⟨kd_type D I1, fun b q => ?_, ?_⟩
  · cases q
    exact ⟨_, hk, rfl⟩
  rw [m.trees]
  refine Calls.callWith_builtin rfl (Calls.evalArgs_plain (Calls.spliced_cons (thn (he.run pins s1 σ H1 _ I1 q1) fun iv s2 ⟨y, H2, I2, ry, q2⟩ =>
    Calls.spliced_cons (thn (hf.run pins s2 σ H2 _ I2 q2) fun fv s3 ⟨z, H3, I3, rz, st, ey, q3⟩ => Calls.spliced_nil ?_))))
  subst ey
  obtain ⟨t, rfl⟩ := ry
  have hm := PySem.W.mapOf_K (prog := X.prog) (w := X.w) I3.kIn D.at_ D.lit
  obtain ⟨r, er, hr⟩ := T.at_ st
  refine call_meetsIn PySem.F.slot_dict_get hm.typeIs PySem.F.entry_dict_get (PySem.F.args_dict_get_3 _ _ _) (meets_dict_get_default (strKind X.prog X.w) a (strKind_is X.prog X.w st t) D.low fv) ⟨_, hm, ?_⟩
  rw [PySem.W.find_K D.at_ er]
  cases hl : kvs.lookup st with
  | none =>
    rw [hl] at hr q3
    rw [hr]
    exact ⟨z, H3, I3.tok _, rz, q3⟩
  | some s' =>
    rw [hl] at hr q3
    obtain ⟨u, rfl, ru⟩ := hr
    exact ⟨.str s', H3, I3.tok _, ru, q3⟩
def dKGet (kvs : List (Str × Str)) (de df : DE) : DE := fun fr S Q => de fr S fun r S1 => df fr S1 fun q S2 => match r with
  | .dat (.str s) => Q (match kvs.lookup s with | some v => .dat (.str v) | none => q) S2
  | _ => False
theorem lift_kget {K : Fg} {de df : DE} (le : Lift K ty de) (lf : Lift K tx df) : Lift K (tKGet a kvs ty tx) (dKGet kvs de df) := by
  intro F H σ fr S L fo o C Q hd q
  refine le F H σ fr S L fo o _ _ hd fun y r S1 H1 o1 h1 => ?_
  refine lf F H1 σ fr S1 _ (fo.mono tl_mem) o1 _ _ h1 fun z d S2 H2 o2 h2 => ?_
  have hy := o2.live (y, r) (List.mem_cons_of_mem _ List.mem_cons_self)
  have hz := o2.live (z, d) List.mem_cons_self
  have o3 := o2.sub (fun e he => List.mem_cons_of_mem (z, d) (List.mem_cons_of_mem (y, r) he) : ∀ e ∈ L, e ∈ (z, d) :: (y, r) :: L)
  split at h2
  · rename_i st
    cases hy
    refine ⟨st, rfl, ?_⟩
    cases hl : kvs.lookup st with
    | none =>
      rw [hl] at h2
      exact q _ _ S2 H2 (o3.push hz) h2
    | some s' =>
      rw [hl] at h2
      exact q _ _ S2 H2 (o3.pd (.str _)) h2
  · exact h2.elim
theorem d_kget {de df : DE} {x : Str} {p : Pos} (T : KTab X.K X.w a kvs) (hg : Gl X x) (hm : X.mg x = some (.ref a)) (he : PD X e de) (hf : PD X f df) (hd : (x == ("__debug__" : Str)) = false := by decide)
    (h1 : attributeBase (.Name x p) "get" X.env (eval (.Name x p) X.env) = eval (.Name x p) X.env := by rfl)
    (h2 : ((backTo cpos (starEach [e, f] X.env)).all (fun x => !x.1) && (backToKw cpos (keywordEach [] X.env)).all (fun x => x.1.isSome)
      && decide (([e, f] : List Expr).length + ([] : List Keyword).length + (if ([] : List Keyword).isEmpty then 0 else 1) < 30)) = true := by rfl)
    (h3 : (apos.endLine == cpos.line) = true := by rfl)
    (h4 : backTo cpos (starEach [e, f] X.env) = [(false, eval e X.env), (false, eval f X.env)] := by rfl) : PD X (.Call (.Attribute (.Name x p) "get" apos) [e, f] [] cpos) (dKGet kvs de df) := by
  obtain ⟨_, p1, l1⟩ := he.ex
  obtain ⟨_, p2, l2⟩ := hf.ex
  exact ⟨_, pe_kget T (pe_glob (v := .ref a) hg hm rfl hd) p1 p2 ⟨h1, h2, h3, h4⟩, lift_kget l1 l2⟩
/-- a written tuple of texts -/
theorem d_globT {x : Str} {ns : List Str} {pos : Pos} (hg : Gl X x) (hm : X.mg x = some (.ref a)) (kt : KTup X.K a (ns.map V.str)) (hd : (x == ("__debug__" : Str)) = false := by decide) : PD X (.Name x pos) (dC (.dat (.tuple (ns.map PyData.str)))) :=
  ⟨_, pe_glob (v := .ref a) hg hm rfl hd, lift_c fun _ _ => Rep.tup (.inr kt) (RepAll.strs ns)⟩
theorem d_mulT {da db : DE} {pos : Pos} {b c : Expr} (ha : PD X b da) (hb : PD X c db) : PD X (.BinOp b .Mult c pos) (dOp fMulT da db) := d_opG (op_repT.or op_rep1) opd_mulT ha hb
end
/-! ### [.. for x in xs], xs a cell that stays -/
section
variable {K : Fg}
def ItKp (K : Fg) (J : It) (items : List R) (p : Addr) (L : Live) : Prop := ∀ (H : Hp) (T : SH) (L' : Live), Ok K H T L' → (∀ e ∈ L, e ∈ L') → Cell.lst p items ∈ T → ∀ i : Nat, (∀ r, items[i]? = some r → J.go i H ∧ ∀ x H', J.yld i H x H' → Ok K H' T ((x, r) :: L')) ∧ (items.length = i → J.stop i H)
theorem it_cell {p : Addr} {items : List R} {L : Live} : ItKp K (Itl K p) items p L := fun H T L' o s m i => by
  obtain ⟨vs, e1, q1⟩ := o.cells _ m
  have hl := paired_len q1
  refine ⟨fun r e => ?_, fun hi => ⟨vs, SqL.of e1, by rw [hl]; exact Nat.le_of_eq hi⟩⟩
  obtain ⟨v, ev, rv⟩ := paired_get' q1 e
  refine ⟨⟨vs, v, SqL.of e1, ev⟩, fun x H' y => ?_⟩
  obtain ⟨rfl, y⟩ := y
  have := y vs (SqL.of e1)
  rw [ev] at this
  cases this
  exact o.push rv
/-- the source: a cell -/
def dLcK (E : List R → SH → CR0 → Prop) (ds : DE) (i : Nat) (dt : DT) (de : DE) : DE := fun fr S C => ds fr S fun a S1 => match a with
  | .val (.ref p) => ∃ items : List R, Cell.lst p items ∈ S1 ∧ ∃ I : Nat → List R → SH → Prop, I 0 [] S1 ∧ (∀ k acc S, I k acc S → Cell.lst p items ∈ S) ∧
    (∀ k r acc S, items[k]? = some r → I k acc S → dt (fr.set i (some r)) S fun b S2 => if b = true then de (fr.set i (some r)) S2 fun y S3 => acc.length < 100000 ∧ I (k + 1) (acc ++ [y]) S3 else I (k + 1) acc S2) ∧
    ∀ acc S, I items.length acc S → E acc S C
  | _ => False
theorem lift_lcK {E : List R → SH → CR0 → Prop} (hE : EndD K E) {ts : TE} {ds : DE} {tt : TT} {dt : DT} {te : TE} {de : DE} {i : Nat} (ls : Lift K ts ds) (lt : LiftT K tt dt) (le : Lift K te de) : Lift K (tLc (iAny K ts) (gName i) tt te [i]) (dLcK E ds i dt de) := fun F H σ fr S L f o C Q h q => by
  refine ls F H σ fr S L f o _ _ h fun x a S1 H1 o1' h1 => ?_
  have hx := o1'.live _ List.mem_cons_self
  split at h1
  · rename_i p
    cases (show x = V.ref p from hx)
    obtain ⟨items, hm, I, i0, kp, st, dn⟩ := h1
    have o1 := o1'.sub tl_mem
    obtain ⟨vs0, e0, _⟩ := o1.cells _ (List.mem_append_left F hm)
    refine .inl ⟨p, rfl, ⟨_, SqL.of e0⟩, fun D hD => ?_⟩
    have o0 : OkF K (.lst D [] :: F) (upd H1 D (.lst [])) S1 L := (o1.lstC hD .nil).perm List.perm_middle.symm
    refine ⟨fun k m H => m = items.length - k ∧ k ≤ items.length ∧ ∃ S acc L', OkF K (.lst D acc :: F) H S L' ∧ (∀ e ∈ L, e ∈ L') ∧ I k acc S, ⟨items.length, by simp, Nat.zero_le _, S1, [], L, o0, fun _ z => z, i0⟩, ?_⟩
    rintro k m H2 ⟨rfl, hk, S2, acc, L2, o2, s2, i2⟩
    obtain ⟨go, sp⟩ := it_cell (K := K) (p := p) (items := items) (L := L) H2 _ L2 o2 s2 (List.mem_append_left _ (kp k acc S2 i2)) k
    by_cases hlt : k < items.length
    · obtain ⟨hg, hy⟩ := go _ (List.getElem?_eq_getElem hlt)
      refine .inr ⟨hg, fun H => ∃ S acc L', OkF K (.lst D acc :: F) H S L' ∧ (∀ e ∈ L, e ∈ L') ∧ I (k + 1) acc S, fun H' n => ⟨items.length - (k + 1), by omega, rfl, hlt, n⟩, fun x H3 y => ?_⟩
      have o3 : OkF K (.lst D acc :: F) H3 S2 ((x, items[k]) :: L2) := hy x H3 y
      show wipe ((wipe σ [i]).set i (some x)) [i] = wipe σ [i] ∧ _
      refine ⟨by simp [wipe], ?_⟩
      have f3 : FrOk ((wipe σ [i]).set i (some x)) (fr.set i (some items[k])) ((x, items[k]) :: L2) := by
        have e1 : (wipe σ [i]).set i (some x) = σ.set i (some x) := by simp [wipe]
        rw [e1]
        exact (f.mono fun z hz => List.mem_cons_of_mem _ (s2 z hz)).set List.mem_cons_self i
      refine lt _ H3 _ _ S2 _ f3 o3 _ _ (st k _ acc S2 (List.getElem?_eq_getElem hlt) i2) fun b S4 H4 o4 h4 => ?_
      cases b with
      | false => exact ⟨S4, acc, _, o4, fun z hz => List.mem_cons_of_mem _ (s2 z hz), h4⟩
      | true =>
        refine le _ H4 _ _ S4 _ f3 o4 _ _ h4 fun v r S5 H5 o5 h5 => ?_
        obtain ⟨vs, e5, q5⟩ := o5.cells _ (at_split (mid_get S5 F))
        refine ⟨vs, e5, by rw [paired_len q5]; exact big_lt h5.1, S5, acc ++ [r], (v, r) :: (x, items[k]) :: L2, ?_, fun z hz => List.mem_cons_of_mem _ (List.mem_cons_of_mem _ (s2 z hz)), h5.2⟩
        have o6 := o5.putL (mid_get S5 F) (paired_app q5 (.cons (o5.live (v, r) List.mem_cons_self) .nil))
        rw [List.set_append_right _ _ (Nat.le_refl _)] at o6
        simpa using o6
    · have ek : k = items.length := by omega
      subst ek
      obtain ⟨r, S', o', h'⟩ := hE F H2 S2 L2 D acc C o2 (dn acc S2 i2)
      exact .inl ⟨sp rfl, q _ r S' H2 (o'.sub (sub_cons s2)) h'⟩
  · exact h1.elim
end
section
variable {X : Cx} {a b c e iter : Expr} {da db dc de ds : DE} {dt : DT} {pos : Pos}
theorem d_lcK {E : List R → SH → CR0 → Prop} (hE : ∀ K, EndD K E) {elt : Expr} {x : Str} {p : Pos} {ifs : List Expr} {scope : Scope} {i : Nat} (hN : X.N.Nodup) (hi : PD X iter ds) (ok : BlkOk X.N X.env.scope scope [(x, i)])
    (hg : ∀ (s : Shared) (H : Hp) (C : Addr) (cl : List (Str × Addr)) (fp : List Addr), PG (X.blk s H scope (compEnvC scope cl C X.env) fp) (.Name x p) (gName i))
    (ht : ∀ (s : Shared) (H : Hp) (C : Addr) (cl : List (Str × Addr)) (fp : List Addr), PDTs (X.blk s H scope (compEnvC scope cl C X.env) fp) ifs dt)
    (he : ∀ (s : Shared) (H : Hp) (C : Addr) (cl : List (Str × Addr)) (fp : List Addr), PD (X.blk s H scope (compEnvC scope cl C X.env) fp) elt de)
    (hc : X.calm = true := by rfl) (hs : ∀ x, foldedSetIterable iter X.env x = pure x := by intro _; rfl) :
    PD X (.ListComp elt [⟨.Name x p, iter, ifs, 0⟩] scope pos) (dLcK E ds i dt de) := by
  obtain ⟨_, pi, li⟩ := hi.ex
  exact ⟨_, pe_lc (own := [(x, i)]) (te := toTE X.K de) (tt := toTT X.K dt) hc hN (pi_any pi) ok hg (fun s H C cl fp => (ht s H C cl fp).run) (fun s H C cl fp => (he s H C cl fp).pe) hs, lift_lcK (hE X.K) li (liftT_to dt) (lift_to de)⟩
end
end DL
set_option Elab.async false
set_option linter.all false
set_option maxRecDepth 100000
set_option maxHeartbeats 4000000
/-! DL: a list that is a cell against []; instances that are never changed behind their making. -/
namespace DL
open PySem PySem.Spec PyProof.Rows L2

def rNeE (K : Fg) : R2 := fun x y H Q => ∃ l b xs, x = .ref l ∧ y = .ref b ∧ SqL K H l xs ∧ SqL K H b [] ∧ Q (.bl (!xs.isEmpty)) H
theorem op_neE {X : Cx} (hu : X.A.units + 64 < cLine) : OpR X (compareOp .NotEq) (rNeE X.K) := by
  intro pins s σ H x y v u Q I rx ry h
  obtain ⟨l, b, xs, rfl, rfl, h1, h2, q⟩ := h
  cases rx
  cases ry
  obtain ⟨its, rv, p1, _⟩ := I.list h1
  obtain ⟨its2, rv2, p2, _⟩ := I.list h2
  cases rv2
  cases xs with
  | nil =>
    cases rv
    have h := SeqAt.RcNeAt.lists (A := X.A) (s := s) (e := fun _ => true) p1.isList p2.isList rfl (by omega) (fun j h1 h2 => absurd h1 (by simp))
    exact h X.prog X.w X.xe (EP X pins σ Q) ⟨.bl false, H, I, rfl, q⟩
  | cons a r =>
    cases rv with | cons ra rr =>
    have h := SeqAt.RcNeAt.lists_lengths (A := X.A) (s := s) p1.isList p2.isList (by simp) (by omega)
    exact h X.prog X.w X.xe (EP X pins σ Q) ⟨.bl true, H, I, rfl, q⟩
section
variable {K : Fg}
def fNeE : F2 := fun a b S C => match a, b with
  | .val (.ref p), .dat (.list []) => ∃ (j : Nat) (xs : List R), S[j]? = some (.lst p xs) ∧ C (.dat (.bool (!xs.isEmpty))) S
  | _, _ => False
theorem opd_neE : OpD K (rNeE K) fNeE := by
  intro F x y a b H S L C Q o hx hy hf q
  replace hx := o.live _ hx
  replace hy := o.live _ hy
  unfold fNeE at hf
  split at hf
  · rename_i p
    cases (show x = V.ref p from hx)
    obtain ⟨j, xs, hj, h⟩ := hf
    obtain ⟨vs, e1, q1⟩ := o.cells _ (at_split (in_app hj))
    cases hy with | lst e2 n2 q2 =>
    cases q2
    refine ⟨_, _, vs, rfl, rfl, SqL.of e1, SqL.of e2, q _ _ S H (o.pd (d := .bool (!xs.isEmpty)) ?_) h⟩
    have e : vs.isEmpty = xs.isEmpty := by
      cases q1 with
      | nil => rfl
      | cons _ _ => rfl
    rw [e]
    exact .bl _
  · exact hf.elim
/-- C(..), frozen at once -/
def dMakeF (C : Addr) (ks : List Str) (n : Nat) (sp : SpD) (da : DA) : DE := fun fr S Q => da fr S fun rs S1 => rs.length + 1 = n ∧ ∀ x, sp (.val (.ref x) :: rs) (.ins x C ks [] :: S1) fun r S2 => r = .dat .none ∧ ∃ vs S3, S2 = .ins x C ks vs :: S3 ∧ vs.length = ks.length ∧ Q (.obj C ks vs) S3
theorem lift_makeF {C : Addr} {ks : List Str} {n : Nat} {sp : SpD} {E : XK} {ta : TA} {da : DA} (l : LiftA K ta da) : Lift K (tMake C (toSp K n sp) [] E ta) (dMakeF C ks n sp da) := fun F H σ fr S L f o Q0 Q h q => by
  refine l F H σ fr S L f o _ _ h fun vs rs S1 H1 L1 o1 s1 lv h1 x dx hx hdx hne => ?_
  have o2 : OkF K F (upd H1 dx (.own x)) S1 L1 := o1.new hdx
  have hx2 : upd H1 dx (.own x) x = none := by rw [upd_ne (Ne.symm hne)]; exact hx
  have o3 : OkF K F (upd (upd H1 dx (.own x)) x (.ins C dx [])) (.ins x C ks [] :: S1) L1 := o2.cell (c := .ins x C ks []) rfl hx2 ⟨dx, [], by rw [List.zip_nil_right]; exact upd_same, Nat.zero_le _, .nil⟩
  have o4 := Ok.push (v := .ref x) (r := .val (.ref x)) o3 rfl
  refine ⟨?_, F, _, _, .val (.ref x) :: rs, fun r S2 => r = .dat .none ∧ ∃ vs S3, S2 = .ins x C ks vs :: S3 ∧ vs.length = ks.length ∧ Q0 (.obj C ks vs) S3, o4, ?_, h1.2 x, ?_⟩
  · rw [List.append_nil, List.length_cons, paired_len lv]; exact h1.1
  · rw [List.append_nil]
    exact .cons List.mem_cons_self (Lives.mono tl_mem lv)
  · rintro v r S2 H2 o5 ⟨rfl, ws, S3, rfl, hl, h2⟩
    have e : v = .non := by cases (o5.dat List.mem_cons_self); rfl
    have o6 : Ok K H2 (S3 ++ F) ((.ref x, .obj C ks ws) :: (v, .dat .none) :: (.ref x, .val (.ref x)) :: L1) := Ok.frzI (i := 0) o5 rfl hl
    refine ⟨e, q _ _ S3 H2 (o6.sub (sub_cons fun z hz => List.mem_cons_of_mem _ (List.mem_cons_of_mem _ (s1 z hz)))) h2⟩
end
section
variable {X : Cx} {a b e : Expr} {da db : DE} {dA : DA} {pos p : Pos} {es : List Expr} {C : Addr} {x : Str}
theorem d_neE (hu : X.A.units + 64 < cLine) (ha : PD X a da) (hb : PD X b db) : PD X (.Compare a [.NotEq] [b] pos) (dOp fNeE da db) := d_cmpG (op_neE hu) opd_neE ha hb (nomark _)
theorem t_neE (hu : X.A.units + 64 < cLine) (ha : PD X a da) (hb : PD X b db) : PDT X (.Compare a [.NotEq] [b] pos) (dTest (dOp fNeE da db)) := t_cmpG (op_neE hu) opd_neE ha hb (nomark _)
theorem d_makeF {sp : SpD} {k n : Nat} (ks : List Str) (d : DefI X.prog X.w X.K X.mg X.base x C k n sp) (hr : Room (k + 1) X.A) (hg : Gl X x) (ha : PDA X (e :: es) dA) (hdb : (x == ("__debug__" : Str)) = false := by decide) (he : starEach (e :: es) X.env = (false, eval e X.env) :: starEach es X.env := by rfl) (hpl : (backTo pos (starEach es X.env)).any (·.1) = false := by rfl) :
    PD X (.Call (.Name x p) (e :: es) [] pos) (dMakeF C ks n sp dA) := by
  obtain ⟨f, fd, ps, F, M, hb, hm⟩ := d.ex
  obtain ⟨_, p2, l2⟩ := ha.ex
  exact ⟨_, pe_make M F hr hg hm hb .nil pass0 p2 hdb he hpl, lift_makeF l2⟩
end
section
variable {X : Cx} {a b c e iter : Expr} {da db dc de ds : DE} {dt : DT} {pos : Pos}
/-- y = [.. for x in xs], xs a cell, y a local -/
theorem s_lcK {E : List R → SH → CR0 → Prop} (hE : ∀ K, EndD K E) {elt : Expr} {x y : Str} {p py spos : Pos} {ifs : List Expr} {scope : Scope} {i j : Nat} (hN : X.N.Nodup) (hi : PD X iter ds) (ok : BlkOk X.N X.env.scope scope [(x, i)])
    (hg : ∀ (s : Shared) (H : Hp) (C : Addr) (cl : List (Str × Addr)) (fp : List Addr), PG (X.blk s H scope (compEnvC scope cl C X.env) fp) (.Name x p) (gName i))
    (ht : ∀ (s : Shared) (H : Hp) (C : Addr) (cl : List (Str × Addr)) (fp : List Addr), PDTs (X.blk s H scope (compEnvC scope cl C X.env) fp) ifs dt)
    (he : ∀ (s : Shared) (H : Hp) (C : Addr) (cl : List (Str × Addr)) (fp : List Addr), PD (X.blk s H scope (compEnvC scope cl C X.env) fp) elt de)
    (hc : X.calm = true := by rfl) (hy : X.N[j]? = some y := by rfl) (hyl : X.env.scope.names.lookup y = some .local := by rfl)
    (hsw : swapsWith (.ListComp elt [⟨.Name x p, iter, ifs, 0⟩] scope pos) (some (.Name y py)) spos.line X.env = pure true := by exact sw_true rfl rfl rfl (by decide +kernel)) (hs : ∀ x, foldedSetIterable iter X.env x = pure x := by intro _; rfl) :
    PDS X (.Assign [.Name y py] (.ListComp elt [⟨.Name x p, iter, ifs, 0⟩] scope pos) spos) (sAsg (dLcK E ds i dt de) (gnm j)) := by
  obtain ⟨_, pi, li⟩ := hi.ex
  exact ⟨_, ps_setLc (own := [(x, i)]) (te := toTE X.K de) (tt := toTT X.K dt) hc hN hy hyl hsw (pi_any pi) ok hg (fun s H C cl fp => (ht s H C cl fp).run) (fun s H C cl fp => (he s H C cl fp).pe) hs, lift_asg (lift_lcK (hE X.K) li (liftT_to dt) (lift_to de)) (lift_name j)⟩
end
/-- a comprehension over a cell that stays: its elements by the items -/
theorem lcK_map {E : List R → SH → CR0 → Prop} {items : List R} {fr : Fr} {S : SH} {C : CR0} {i : Nat} {de : DE} {p : Addr} (g : R → R) (hm : Cell.lst p items ∈ S)
    (he : ∀ r, r ∈ items → ∀ C' : CR0, C' (g r) S → de (fr.set i (some r)) S C') (hl : items.length ≤ 100000) (h : E (items.map g) S C) : ∃ items' : List R, Cell.lst p items' ∈ S ∧ ∃ I : Nat → List R → SH → Prop, I 0 [] S ∧ (∀ k acc S, I k acc S → Cell.lst p items' ∈ S) ∧
    (∀ k r acc S, items'[k]? = some r → I k acc S → dYes (fr.set i (some r)) S fun b S2 => if b = true then de (fr.set i (some r)) S2 fun y S3 => acc.length < 100000 ∧ I (k + 1) (acc ++ [y]) S3 else I (k + 1) acc S2) ∧
    ∀ acc S, I items'.length acc S → E acc S C := by
  refine ⟨items, hm, fun k acc S' => S' = S ∧ acc = (items.take k).map g, ⟨rfl, rfl⟩, fun k acc S' z => by rw [z.1]; exact hm, ?_, ?_⟩
  · rintro k r acc S' hk ⟨rfl, rfl⟩
    have hmem : r ∈ items := List.mem_of_getElem? hk
    obtain ⟨hlt, _⟩ := List.getElem?_eq_some_iff.mp hk
    have et : items.take (k + 1) = items.take k ++ [r] := by rw [List.take_add_one, hk]; rfl
    refine he r hmem _ ⟨?_, rfl, ?_⟩
    · rw [List.length_map]
      have h2 := List.length_take_le k items
      omega
    · rw [et, List.map_append]; rfl
  · rintro acc S' ⟨rfl, rfl⟩
    rw [List.take_length]; exact h
end DL
set_option Elab.async false
set_option linter.all false
set_option maxRecDepth 100000
set_option maxHeartbeats 4000000
/-! The program's things as plain data: parts, rows, programs, what a row does. -/
namespace PM
open PySem PySem.Spec PyProof.Rows L2 DL

/-! ### loops over lists that are known -/
def loopD (dg : DG) (db : DS) (D : DEnds) : List R → Fr → SH → Prop
  | [] => D.nx
  | r :: rs => fun fr S => dg r fr S fun fr2 S2 => db { D with nx := loopD dg db D rs, ct := loopD dg db D rs, bk := D.nx } fr2 S2
theorem loop_unroll {dg : DG} {db : DS} {D : DEnds} {items : List R} {fr : Fr} {S : SH} (h : loopD dg db D items fr S) : ∃ I : Nat → Fr → SH → Prop, I 0 fr S ∧
    (∀ i r fr S, items[i]? = some r → I i fr S → dg r fr S fun fr2 S2 => db { D with nx := I (i + 1), ct := I (i + 1), bk := D.nx } fr2 S2) ∧ ∀ fr S, I items.length fr S → D.nx fr S := by
  refine ⟨fun i => loopD dg db D (items.drop i), h, fun i r fr S hi hI => ?_, fun fr S hI => ?_⟩
  · have e : items.drop i = r :: items.drop (i + 1) := by
      obtain ⟨hl, e⟩ := List.getElem?_eq_some_iff.mp hi
      rw [List.drop_eq_getElem_cons hl, e]
    have hI' : loopD dg db D (items.drop i) fr S := hI
    rw [e] at hI'
    exact hI'
  · have hI' : loopD dg db D (items.drop items.length) fr S := hI
    rw [List.drop_length] at hI'
    exact hI'
theorem at0 {α : Type} {x : α} {xs : List α} : atI (x :: xs) 0 = some x := atI_nat (j := 0) (by rfl)
/-! ### lists by what they hold, cells or data -/
theorem ix_lstR {S : SH} {r : R} {xs : List R} {i : Int} {x : R} {C : CR0} (h : lstR S r xs) (e : atI xs i = some x) (q : C x S) : fIx r (.dat (.int i)) S C := by
  cases r with
  | dat d =>
    cases d with
    | list ds =>
      cases (show xs = ds.map R.dat from h)
      unfold atI at e
      rw [List.length_map] at e
      cases e1 : ixN ds.length i with
      | none => rw [e1] at e; cases e
      | some j =>
        rw [e1] at e
        have e2 : (ds.map R.dat)[j]? = some x := e
        obtain ⟨d, ed, rfl⟩ := get_dat e2
        refine ⟨d, ?_, q⟩
        unfold atI
        rw [e1]; exact ed
    | _ => exact h.elim
  | val w =>
    cases w with
    | ref p =>
      obtain ⟨j, hj⟩ := h
      exact .inl ⟨j, xs, x, hj, e, q⟩
    | _ => exact h.elim
  | _ => exact h.elim
theorem len_lstR {S : SH} {r : R} {xs : List R} {C : CR0} (h : lstR S r xs) (q : C (.dat (.int xs.length)) S) : fLen [r] S C := by
  cases r with
  | dat d =>
    cases d with
    | list ds =>
      cases (show xs = ds.map R.dat from h)
      rw [List.length_map] at q
      exact q
    | _ => exact h.elim
  | val w =>
    cases w with
    | ref p =>
      obtain ⟨j, hj⟩ := h
      exact ⟨j, xs, hj, q⟩
    | _ => exact h.elim
  | _ => exact h.elim
theorem dlen_lstR {S : SH} {fr : Fr} {i : Nat} {r : R} {xs : List R} {C : CR0} (hi : fr[i]? = some (some r)) (h : lstR S r xs) (q : C (.dat (.int xs.length)) S) : dCB fLen (dCons (dVar i) dNil) fr S C := ⟨r, hi, len_lstR h q⟩
def iR (ns : List Int) : List R := ns.map fun n => R.dat (.int n)
theorem iR_at {ns : List Int} {i : Nat} (h : i < ns.length) : atI (iR ns) (i : Int) = some (.dat (.int (ns.getD i 0))) := by
  refine atI_nat ?_
  unfold iR
  rw [List.getElem?_map, List.getElem?_eq_getElem h, List.getD_eq_getElem?_getD, List.getElem?_eq_getElem h]
  rfl
theorem iR_len (ns : List Int) : (iR ns).length = ns.length := by simp [iR]
theorem toNat_cast {i : Int} (h : 0 ≤ i) : ((i.toNat : Nat) : Int) = i := by omega
/-! ### data: shaped -/
theorem lay_ints : ∀ xs : List Int, PyData.canLayAll0 (xs.map PyData.int) = true
  | [] => by rw [List.map_nil, PyData.canLayAll0]
  | x :: xs => by rw [List.map_cons, PyData.canLayAll0, lay_ints xs, PyData.canLay0]; rfl
theorem lay_app : ∀ {xs ys : List PyData}, PyData.canLayAll0 xs = true → PyData.canLayAll0 ys = true → PyData.canLayAll0 (xs ++ ys) = true
  | [], _, _, h => h
  | x :: xs, ys, h, g => by
    rw [PyData.canLayAll0] at h
    obtain ⟨h1, h2⟩ := Bool.and_eq_true_iff.mp h
    rw [List.cons_append, PyData.canLayAll0, h1, lay_app h2 g]; rfl
theorem lay_all : ∀ {xs : List PyData}, (∀ x ∈ xs, PyData.canLay0 x = true) → PyData.canLayAll0 xs = true
  | [], _ => by rw [PyData.canLayAll0]
  | x :: xs, h => by rw [PyData.canLayAll0, h x List.mem_cons_self, lay_all fun y hy => h y (List.mem_cons_of_mem _ hy)]; rfl
theorem depth_all {n : Nat} : ∀ {xs : List PyData}, (∀ x ∈ xs, x.depth ≤ n) → PyData.depthAll xs ≤ n
  | [], _ => by rw [PyData.depthAll]; exact Nat.zero_le _
  | x :: xs, h => by
    rw [PyData.depthAll]
    exact Nat.max_le.mpr ⟨h x List.mem_cons_self, depth_all fun y hy => h y (List.mem_cons_of_mem _ hy)⟩
theorem shaped_mk {d : PyData} (h : d.canLay0 = true) (g : d.depth ≤ 64) : SeqAt.shaped d = true := by
  unfold SeqAt.shaped
  rw [h, decide_eq_true g]; rfl
theorem eqOk_mk {d e : PyData} (h : SeqAt.shaped d = true) (g : SeqAt.shaped e = true) : eqOk d e = true := by
  unfold eqOk
  rw [h, g, Bool.and_self, Bool.or_true]
/-! ### parts -/
abbrev pairW : List Str := ["sum", "diff", "less"]
abbrev changeW : List Str := ["add", "put", "cut"]
inductive Op3 where
  | sum | diff | less
def Op3.word : Op3 → Str
  | .sum => "sum" | .diff => "diff" | .less => "less"
inductive Part where
  | num (n : Int)
  | name (n : Int)
  | op (o : Op3) (a b : Part)
def Part.dat : Part → PyData
  | .num n => .tuple [.str "num", .int n]
  | .name n => .tuple [.str "name", .int n]
  | .op o a b => .tuple [.str o.word, a.dat, b.dat]
def Part.deep : Part → Nat
  | .num _ => 1
  | .name _ => 1
  | .op _ a b => max a.deep b.deep + 1
def Part.ok (names : Int) : Part → Prop
  | .num n => 0 ≤ n ∧ n ≤ 10006
  | .name n => 0 ≤ n ∧ n < names
  | .op _ a b => a.ok names ∧ b.ok names
def Part.worth (ns : List Int) : Part → Int
  | .num n => n
  | .name n => ns.getD n.toNat 0
  | .op .less a b => if a.worth ns < b.worth ns then 1 else 0
  | .op .sum a b => (a.worth ns + b.worth ns) % 10007
  | .op .diff a b => (a.worth ns - b.worth ns) % 10007
theorem Part.nonneg {names : Int} {ns : List Int} (h : ∀ x ∈ ns, 0 ≤ x) : ∀ p : Part, p.ok names → 0 ≤ p.worth ns
  | .num n, hp => hp.1
  | .name n, _ => by
    unfold Part.worth
    rw [List.getD_eq_getElem?_getD]
    cases e : ns[n.toNat]? with
    | none => exact Int.le_refl _
    | some x => exact h x (List.mem_of_getElem? e)
  | .op .less a b, _ => by
    unfold Part.worth
    split <;> decide
  | .op .sum a b, _ => Int.emod_nonneg _ (by decide)
  | .op .diff a b, _ => Int.emod_nonneg _ (by decide)
theorem Part.depth : ∀ p : Part, p.dat.depth ≤ p.deep + 1
  | .num n => by simp [Part.dat, Part.deep, PyData.depth, PyData.depthAll]
  | .name n => by simp [Part.dat, Part.deep, PyData.depth, PyData.depthAll]
  | .op o a b => by
    have h1 := Part.depth a
    have h2 := Part.depth b
    simp only [Part.dat, Part.deep, PyData.depth, PyData.depthAll]
    omega
theorem Part.lay : ∀ p : Part, p.dat.canLay0 = true
  | .num n => by simp only [Part.dat, PyData.canLay0, PyData.canLayAll0]; decide +kernel
  | .name n => by simp only [Part.dat, PyData.canLay0, PyData.canLayAll0]; decide +kernel
  | .op o a b => by
    simp only [Part.dat, PyData.canLay0, PyData.canLayAll0, Part.lay a, Part.lay b]
    cases o <;> decide +kernel
theorem Part.deep_pos : ∀ p : Part, 1 ≤ p.deep
  | .num _ => Nat.le_refl _
  | .name _ => Nat.le_refl _
  | .op _ _ _ => Nat.le_add_left _ _
/-! ### rows -/
inductive PRow where
  | set (n : Int) (p : Part)
  | take (n : Int)
  | add (f : Int) (p : Part)
  | put (f : Int) (p q : Part)
  | cut (f : Int) (p : Part)
  | get (n f : Int) (p : Part)
  | size (n f : Int)
  | send (p : Part)
  | go (r : Int)
  | unl (n r : Int)
  | mark
def PRow.word : PRow → Str
  | .set _ _ => "set" | .take _ => "take" | .add _ _ => "add" | .put _ _ _ => "put" | .cut _ _ => "cut" | .get _ _ _ => "get" | .size _ _ => "size"
  | .send _ => "send" | .go _ => "go" | .unl _ _ => "unless" | .mark => "mark"
def PRow.args : PRow → List PyData
  | .set n p => [.int n, p.dat] | .take n => [.int n] | .add f p => [.int f, p.dat] | .put f p q => [.int f, p.dat, q.dat] | .cut f p => [.int f, p.dat]
  | .get n f p => [.int n, .int f, p.dat] | .size n f => [.int n, .int f] | .send p => [p.dat] | .go r => [.int r] | .unl n r => [.int n, .int r] | .mark => []
def PRow.dat (r : PRow) : PyData := .tuple (.str r.word :: r.args)
def PRow.shape : PRow → Str
  | .set _ _ => "nx" | .take _ => "n" | .add _ _ => "fx" | .put _ _ _ => "fxx" | .cut _ _ => "fx" | .get _ _ _ => "nfx" | .size _ _ => "nf"
  | .send _ => "x" | .go _ => "r" | .unl _ _ => "nr" | .mark => ""
def NumOk (n hi : Int) : Prop := 0 ≤ n ∧ n < hi
def PartOk (names : Int) (p : Part) : Prop := p.ok names ∧ p.deep ≤ 3
def PRow.ok (names files many : Int) : PRow → Prop
  | .set n p => NumOk n names ∧ PartOk names p
  | .take n => NumOk n names
  | .add f p => NumOk f files ∧ PartOk names p
  | .put f p q => NumOk f files ∧ PartOk names p ∧ PartOk names q
  | .cut f p => NumOk f files ∧ PartOk names p
  | .get n f p => NumOk n names ∧ NumOk f files ∧ PartOk names p
  | .size n f => NumOk n names ∧ NumOk f files
  | .send p => PartOk names p
  | .go r => NumOk r (many + 1)
  | .unl n r => NumOk n names ∧ NumOk r (many + 1)
  | .mark => True
theorem PRow.lay (r : PRow) : r.dat.canLay0 = true := by
  cases r <;> simp only [PRow.dat, PRow.word, PRow.args, PyData.canLay0, PyData.canLayAll0, Part.lay] <;> decide +kernel
theorem PRow.depth {names files many : Int} {r : PRow} (h : r.ok names files many) : r.dat.depth ≤ 5 := by
  cases r with
  | set n p => have := p.depth; have := h.2.2; simp only [PRow.dat, PRow.word, PRow.args, PyData.depth, PyData.depthAll]; omega
  | take n => simp [PRow.dat, PRow.word, PRow.args, PyData.depth, PyData.depthAll]
  | add f p => have := p.depth; have := h.2.2; simp only [PRow.dat, PRow.word, PRow.args, PyData.depth, PyData.depthAll]; omega
  | put f p q => have := p.depth; have := q.depth; have := h.2.1.2; have := h.2.2.2; simp only [PRow.dat, PRow.word, PRow.args, PyData.depth, PyData.depthAll]; omega
  | cut f p => have := p.depth; have := h.2.2; simp only [PRow.dat, PRow.word, PRow.args, PyData.depth, PyData.depthAll]; omega
  | get n f p => have := p.depth; have := h.2.2.2; simp only [PRow.dat, PRow.word, PRow.args, PyData.depth, PyData.depthAll]; omega
  | size n f => simp [PRow.dat, PRow.word, PRow.args, PyData.depth, PyData.depthAll]
  | send p => have := p.depth; have := h.2; simp only [PRow.dat, PRow.word, PRow.args, PyData.depth, PyData.depthAll]; omega
  | go r => simp [PRow.dat, PRow.word, PRow.args, PyData.depth, PyData.depthAll]
  | unl n r => simp [PRow.dat, PRow.word, PRow.args, PyData.depth, PyData.depthAll]
  | mark => simp [PRow.dat, PRow.word, PRow.args, PyData.depth, PyData.depthAll]
/-! ### programs -/
structure Prog where
  names : Int
  files : Int
  rows : List PRow
def Prog.dat (p : Prog) : PyData := .tuple [.int p.names, .int p.files, .tuple (p.rows.map PRow.dat)]
structure Prog.ok (p : Prog) : Prop where
  n : 1 ≤ p.names ∧ p.names ≤ 8
  f : 1 ≤ p.files ∧ p.files ≤ 4
  l : p.rows.length ≤ 60
  r : ∀ r ∈ p.rows, r.ok p.names p.files p.rows.length
def HandedOk (hs : List Int) : Prop := hs.length ≤ 40 ∧ ∀ x ∈ hs, 0 ≤ x ∧ x ≤ 10006
/-! ### classes' fields -/
abbrev FE : List Str := ["row", "taken", "name", "number", "file", "at", "old", "new", "letter", "fault"]
abbrev FM : List Str := ["row", "names", "taken", "passed", "letters"]
abbrev FI : List Str := ["row", "names", "taken", "passed", "letters", "since", "noted", "out", "again"]
abbrev FW : List Str := ["rows", "handed", "way", "often", "held", "letters", "mark", "jots", "made", "over", "inner", "count"]
theorem le_ok {a b : Nat} (h : Nat.ble a b = true) : a ≤ b := Nat.le_of_ble_eq_true h
/-! ### what is kept of lists -/
theorem lstR_cons {S : SH} {r : R} {xs : List R} (c : Cell) (h : lstR S r xs) : lstR (c :: S) r xs := by
  cases r with
  | dat d => cases d <;> exact h
  | val v =>
    cases v with
    | ref p =>
      obtain ⟨j, hj⟩ := h
      exact ⟨j + 1, by simpa using hj⟩
    | _ => exact h
  | _ => exact h
theorem lstR_set {S : SH} {r : R} {xs : List R} {j : Nat} {p C : Addr} {ks : List Str} {rs : List R} (hj : S[j]? = some (.ins p C ks rs)) (c : Cell) (h : lstR S r xs) : lstR (S.set j c) r xs := by
  cases r with
  | dat d => cases d <;> exact h
  | val v =>
    cases v with
    | ref p =>
      obtain ⟨i, hi⟩ := h
      refine ⟨i, ?_⟩
      rw [List.getElem?_set]
      split
      · rename_i e
        subst e
        rw [hj] at hi
        cases hi
      · exact hi
    | _ => exact h
  | _ => exact h
theorem cut_from {α : Type} (xs : List α) {i : Int} (h : 0 ≤ i) : cutD xs (some i) none = xs.drop i.toNat := by
  unfold DL.cutD
  have e : HT.sIx xs.length 0 (some i) = min i.toNat xs.length := by
    have := HT.sIx_nat xs.length 0 i.toNat
    rw [toNat_cast h] at this
    exact this
  rw [e, HT.sIx_none]
  by_cases hl : i.toNat ≤ xs.length
  · rw [Nat.min_eq_left hl, List.take_of_length_le (by rw [List.length_drop]; exact Nat.le_refl _)]
  · rw [Nat.min_eq_right (by omega), List.drop_length, List.drop_eq_nil_of_le (by omega)]
    simp
theorem cut_to {α : Type} (xs : List α) {i : Int} (h : 0 ≤ i) : cutD xs none (some i) = xs.take i.toNat := by
  unfold DL.cutD
  have e : HT.sIx xs.length xs.length (some i) = min i.toNat xs.length := by
    have := HT.sIx_nat xs.length xs.length i.toNat
    rw [toNat_cast h] at this
    exact this
  rw [e, HT.sIx_none]
  simp only [List.drop_zero, Nat.sub_zero]
  by_cases hl : i.toNat ≤ xs.length
  · rw [Nat.min_eq_left hl]
  · rw [Nat.min_eq_right (by omega), List.take_of_length_le (Nat.le_refl _), List.take_of_length_le (by omega)]
/-! ### what a row does -/
structure Eff where
  row : Int
  taken : Int
  name : Option Int
  number : Option Int
  file : Option Int
  pos : Int
  old : List Int
  new : List Int
  letter : Option Int
  fault : Option Str
def optI : Option Int → PyData
  | none => .none
  | some i => .int i
def optS : Option Str → PyData
  | none => .none
  | some i => .str i
def tupI (ns : List Int) : PyData := .tuple (ns.map PyData.int)
def lstI (ns : List Int) : PyData := .list (ns.map PyData.int)
def Eff.rs (e : Eff) : List R := [.dat (.int e.row), .dat (.int e.taken), .dat (optI e.name), .dat (optI e.number), .dat (optI e.file), .dat (.int e.pos), .dat (tupI e.old), .dat (tupI e.new), .dat (optI e.letter), .dat (optS e.fault)]
def eff0 (row taken : Int) : Eff := ⟨row, taken, none, none, none, 0, [], [], none, none⟩
def fileR (fs : List (List Int)) : List R := fs.map fun f => .dat (lstI f)
def changedE (e : Eff) (f : Int) (held : List Int) (at_ : Nat) (new : List Int) : Eff := { e with file := some f, pos := at_, old := held.drop at_, new := new }
def effect (row : PRow) (at_ taken : Int) (ns hs : List Int) (fs : List (List Int)) : Eff :=
  let e := eff0 (at_ + 1) taken
  match row with
  | .set n p => { e with name := some n, number := some (p.worth ns) }
  | .size n f => { e with name := some n, number := some ((fs.getD f.toNat []).length : Int) }
  | .take n => if taken = (hs.length : Int) then { e with name := some n, fault := some "none", taken := taken + 1 } else { e with name := some n, number := some (hs.getD taken.toNat 0), taken := taken + 1 }
  | .get n f p => if ((fs.getD f.toNat []).length : Int) ≤ p.worth ns then { e with name := some n, fault := some "place" } else { e with name := some n, number := some ((fs.getD f.toNat []).getD (p.worth ns).toNat 0) }
  | .add f p => let h := fs.getD f.toNat []; changedE (if h.length = 40 then { e with fault := some "full" } else e) f h h.length [p.worth ns]
  | .put f p q => let h := fs.getD f.toNat []; changedE (if (h.length : Int) ≤ p.worth ns then { e with fault := some "place" } else e) f h (p.worth ns).toNat (q.worth ns :: h.drop ((p.worth ns).toNat + 1))
  | .cut f p => let h := fs.getD f.toNat []; changedE e f h (min (p.worth ns).toNat h.length) []
  | .send p => { e with letter := some (p.worth ns) }
  | .go r => { e with row := r }
  | .unl n r => if ns.getD n.toNat 0 = 0 then { e with row := r } else e
  | .mark => e
theorem fileR_at {fs : List (List Int)} {i : Nat} (h : i < fs.length) : atI (fileR fs) (i : Int) = some (.dat (lstI (fs.getD i []))) := by
  refine atI_nat ?_
  unfold fileR
  rw [List.getElem?_map, List.getElem?_eq_getElem h, List.getD_eq_getElem?_getD, List.getElem?_eq_getElem h]
  rfl
theorem fileR_len (fs : List (List Int)) : (fileR fs).length = fs.length := by simp [fileR]
end PM
set_option Elab.async false
set_option linter.all false
set_option maxRecDepth 100000
set_option maxHeartbeats 4000000
namespace K16
open PySem PySem.Spec PyProof.Rows L2 DL
def topS (i : Nat) : Stmt := PySem.Challenge.pw_longwork_k16_plans_refused.main.body.getD i (.Pass ⟨0, 0, 0, 0⟩)
local macro_rules | `(tactic| walk_at "dl") => `(tactic| repeat (first | refine ⟨_, rfl, ?_⟩ | refine .inl ⟨_, _, _, by assumption, rfl, ?_⟩ | refine ⟨rfl, _, rfl, ?_⟩ | refine iteT ?_ | refine iteF ?_))
section
variable {P : Program} {w : World} {K : Fg} {mg : Str → Option Value} {base : Heap}
/-! is_number -/
def isNum : PyData → Int → Int → Bool
  | .int i, lo, hi => decide (lo ≤ i) && decide (i ≤ hi)
  | _, _, _ => false
def spIsNumber : SpD := fun rs S C => ∃ d lo hi, rs = [.dat d, .dat (.int lo), .dat (.int hi)] ∧ kdOf d ≠ none ∧ C (.dat (.bool (isNum d lo hi))) S
abbrev s_is_number : Stmt := topS 13
abbrev N_is_number : List Str := ["part", "low", "high"]
theorem sc_is_number : FnScope N_is_number ["part", "low", "high"] (defScope s_is_number) := ⟨rfl, rfl, rfl, by decide +kernel, rfl, by decide +kernel, by decide +kernel⟩
theorem ok_is_number {k : Nat} (F : FunAt K mg "is_number" s_is_number ["part", "low", "high"]) (B : Blt mg) : Def P w K mg base "is_number" (k + 1) 3 spIsNumber := by
  refine okF F sc_is_number rfl fun cdv A outer s H E f hr => ⟨_,
    (ss_one (s_ret (d_and (d_isi kit_int (by rfl) B.isinstance (a_cons (dv 0) (a_cons (d_bltn (v := .ty "int") (by rfl) B.int (by decide +kernel) rfl) a_nil))) (d_and (d_not (d_isi kit_bool (by rfl) B.isinstance (a_cons (dv 0) (a_cons (d_bltn (v := .ty "bool") (by rfl) B.bool (by decide +kernel) rfl) a_nil)))) (d_one (d_leLe (dv 1) (dv 0) (dv 2)))))))
    , ?_⟩
  intro rs S C hl h
  obtain ⟨d, lo, hi, rfl, hk, h⟩ := h
  cases d with
  | int i =>
    walk_at "dl"
    refine ite2d (fun h1 => ?_) (fun h1 => ?_)
    · walk_at "dl"
      have e : isNum (.int i) lo hi = decide (i ≤ hi) := by simp [isNum, h1]
      rw [e] at h
      exact h
    · have e : isNum (.int i) lo hi = false := by simp [isNum, h1]
      rw [e] at h
      exact h
  | dict kvs => exact absurd rfl hk
  | _ =>
    walk_at "dl"
    exact h
/-! _law_next -/
abbrev s__law_next : Stmt := topS 26
abbrev N__law_next : List Str := ["_law_dice_here", "_law_many", "_law_found", "_law_cell"]
theorem sc__law_next : FnScope N__law_next ["_law_dice_here", "_law_many"] (defScope s__law_next) := ⟨rfl, rfl, rfl, by decide +kernel, rfl, by decide +kernel, by decide +kernel⟩
theorem ok_next0 {k : Nat} (F : FunAt K mg "_law_next" s__law_next ["_law_dice_here", "_law_many"]) (B : Blt mg) : Def P w K mg base "_law_next" (k + 1) 2 spNext0 := by
  refine okF F sc__law_next rfl fun cdv A outer s H E f hr => ⟨_,
    (ss_cons (s_if (t_gt (d_ix (hu_of hr) (dv 0) d_int) d_int)
      (ss_cons (s_set (i := 2) sc__law_next.nd (d_mod (d_ix (hu_of hr) (dv 0) d_int) (dv 1)))
      (ss_cons (s_asg (d_fdiv (d_ix (hu_of hr) (dv 0) d_int) (dv 1)) (g_sub (hu_of hr) (dv 0) d_int))
      (ss_one (s_ret (dv 2)))))
      ss_nil)
      (ss_cons (s_asg (d_add (d_ix (hu_of hr) (dv 0) d_int) d_int) (g_sub (hu_of hr) (dv 0) d_int))
      (ss_cons (s_if (t_le (d_ix (hu_of hr) (dv 0) d_int) (d_len (by rfl) B.len (a_cons (d_ix (hu_of hr) (dv 0) d_int) a_nil)))
      (ss_cons (s_set (i := 3) sc__law_next.nd (d_ix (hu_of hr) (d_ix (hu_of hr) (dv 0) d_int) (d_sub (d_ix (hu_of hr) (dv 0) d_int) d_int)))
      (ss_cons (s_asg (d_if (t_ge (dv 3) (d_pow d_int d_int)) (d_fdiv (dv 3) (dv 1)) d_int) (g_sub (hu_of hr) (dv 0) d_int))
      (ss_one (s_ret (d_mod (dv 3) (dv 1))))))
      ss_nil)
      (ss_cons (s_asg (d_mod (d_mul (d_ix (hu_of hr) (dv 0) d_int) d_int) d_int) (g_sub (hu_of hr) (dv 0) d_int))
      (ss_one (s_ret (d_mod (d_fdiv (d_ix (hu_of hr) (dv 0) d_int) d_int) (dv 1))))))))
    , ?_⟩
  intro rs S C hl h
  obtain ⟨D, n, j, xs, rfl, hj, ⟨ns, at_, mixed, left, rfl, h0, h1, h2⟩, hn, hn2, q⟩ := h
  walk_at "dl"
  refine ite2d (fun hc => ?_) (fun hc => ?_)
  · walk_at "dl"
    refine ⟨hn, ?_⟩
    walk_at "dl"
    refine ⟨cdiv hn hn2, ?_⟩
    walk_at "dl"
    exact q _ _ (Int.emod_nonneg _ (by omega)) (Int.emod_lt_of_pos _ hn) ⟨ns, at_, mixed, _, rfl, h0, h1, h2⟩
  · walk_at "dl"
    have hj1 := getset hj (.lst D [.scr ns, .dat (.int (at_ + 1)), .dat (.int mixed), .dat (.int left)])
    walk_at "dl"
    refine ite2d (fun hc => ?_) (fun hc => ?_)
    · walk_at "dl"
      obtain ⟨z, hz⟩ : ∃ z, atI ns (at_ + 1 - 1) = some z := by
        have e : at_ + 1 - 1 = ((at_.toNat : Nat) : Int) := by omega
        rw [e]
        exact ⟨_, atI_nat (List.getElem?_eq_getElem (by omega))⟩
      refine ⟨z, hz, ?_⟩
      walk_at "dl"
      refine ⟨⟨by decide, by decide, by decide⟩, ?_⟩
      refine ite2d (fun hc => ?_) (fun hc => ?_)
      · walk_at "dl"
        refine ⟨cdiv hn hn2, ?_⟩
        walk_at "dl"
        refine ⟨hn, ?_⟩
        rw [List.set_set]
        exact q _ _ (Int.emod_nonneg _ (by omega)) (Int.emod_lt_of_pos _ hn) ⟨ns, at_ + 1, mixed, _, rfl, by omega, h1, h2⟩
      · walk_at "dl"
        refine ⟨hn, ?_⟩
        rw [List.set_set]
        exact q _ _ (Int.emod_nonneg _ (by omega)) (Int.emod_lt_of_pos _ hn) ⟨ns, at_ + 1, mixed, _, rfl, by omega, h1, h2⟩
    · walk_at "dl"
      refine ⟨cmul (by omega) (by omega) (by decide) (by decide), ?_⟩
      refine ⟨(by show (0 : Int) < 2147483647; decide), ?_⟩
      walk_at "dl"
      have hj2 := getset hj1 (.lst D [.scr ns, .dat (.int (at_ + 1)), .dat (.int (mixed * 48271 % 2147483647)), .dat (.int left)])
      walk_at "dl"
      refine ⟨cdiv (by decide) (by decide), ?_⟩
      walk_at "dl"
      refine ⟨hn, ?_⟩
      rw [List.set_set]
      exact q _ _ (Int.emod_nonneg _ (by omega)) (Int.emod_lt_of_pos _ hn) ⟨ns, at_ + 1, _, _, rfl, by omega, Int.emod_nonneg _ (by decide), Int.emod_lt_of_pos _ (by decide)⟩
theorem ok_next {k : Nat} (F : FunAt K mg "_law_next" s__law_next ["_law_dice_here", "_law_many"]) (B : Blt mg) : Def P w K mg base "_law_next" (k + 1) 2 spNext := next_of (ok_next0 F B)
/-! need_plan -/
structure PlanOk (ws fs : List Int) (pr : Int) : Prop where
  hw : ∀ w ∈ ws, 1 ≤ w ∧ w ≤ 99
  hwl : ws.length ≤ 60
  hf : ∀ f ∈ fs, 0 ≤ f ∧ f ≤ ws.length
  hfs : fs.Pairwise (· ≤ ·)
  hfl : fs.length ≤ 20
  hp : 0 ≤ pr ∧ pr ≤ 999
def spNeedPlan : SpD := fun rs S C => ∃ ws fs pr, rs = [.dat (.list (ws.map PyData.int)), .dat (.list (fs.map PyData.int)), .dat (.int pr)] ∧ PlanOk ws fs pr ∧ C (.dat .none) S
theorem isNum_yes {i lo hi : Int} (h : lo ≤ i ∧ i ≤ hi) : (!isNum (.int i) lo hi) = false := by simp [isNum, h.1, h.2]
abbrev s_need_plan : Stmt := topS 19
abbrev N_need_plan : List Str := ["weights", "falls", "price", "number", "weight", "last", "fall"]
theorem sc_need_plan : FnScope N_need_plan ["weights", "falls", "price"] (defScope s_need_plan) := ⟨rfl, rfl, rfl, by decide +kernel, rfl, by decide +kernel, by decide +kernel⟩
theorem ok_need_plan {k : Nat} {t1 t2 t3 t4 : Tok} (F : FunAt K mg "need_plan" s_need_plan ["weights", "falls", "price"]) (B : Blt mg) (D1 : Def P w K mg base "is_number" 1 3 spIsNumber) (c1 : mg "MOST_WEIGHTS" = some (.int 60 t1)) (c2 : mg "MOST_WEIGHT" = some (.int 99 t2)) (c3 : mg "MOST_FALLS" = some (.int 20 t3)) (c4 : mg "MOST_PRICE" = some (.int 999 t4)) :
    Def P w K mg base "need_plan" (k + 2) 3 spNeedPlan := by
  refine okF F sc_need_plan rfl fun cdv A outer s H E f hr => ⟨_,
    (ss_cons (s_for (i_enum (by rfl) B.enumerate (a_cons (dv 0) a_nil)) (g_tup (gs_cons (g_name (i := 3) sc_need_plan.nd) (gs_cons (g_name (i := 4) sc_need_plan.nd) gs_nil)))
      (ss_one (s_if (PDW.pt (w_or (t_ge (dv 3) (d_globI (by rfl) c1)) (w_or1 (t_not (t_val (d_callF D1 (hr.mono (by omega)) (by rfl) (a_cons (dv 4) (a_cons d_int (a_cons (d_globI (by rfl) c2) a_nil)))))))))
      (ss_one s_never)
      ss_nil)))
      (ss_cons (s_set (i := 5) sc_need_plan.nd d_int)
      (ss_cons (s_for (i_enum (by rfl) B.enumerate (a_cons (dv 1) a_nil)) (g_tup (gs_cons (g_name (i := 3) sc_need_plan.nd) (gs_cons (g_name (i := 6) sc_need_plan.nd) gs_nil)))
      (ss_cons (s_if (PDW.pt (w_or (t_ge (dv 3) (d_globI (by rfl) c3)) (w_or1 (t_not (t_val (d_callF D1 (hr.mono (by omega)) (by rfl) (a_cons (dv 6) (a_cons (dv 5) (a_cons (d_len (by rfl) B.len (a_cons (dv 0) a_nil)) a_nil)))))))))
      (ss_one s_never)
      ss_nil)
      (ss_one (s_set (i := 5) sc_need_plan.nd (dv 6)))))
      (ss_one (s_if (t_not (t_val (d_callF D1 (hr.mono (by omega)) (by rfl) (a_cons (dv 2) (a_cons d_int (a_cons (d_globI (by rfl) c4) a_nil))))))
      (ss_one s_never)
      ss_nil)))))
    , ?_⟩
  intro rs S C hl h
  obtain ⟨ws, fs, pr, rfl, ok, h⟩ := h
  refine ⟨_, rfl, fun i fr S' => S' = S ∧ ∃ a b, fr = [some (.dat (.list (ws.map PyData.int))), some (.dat (.list (fs.map PyData.int))), some (.dat (.int pr)), a, b, none, none], ⟨rfl, none, none, rfl⟩, ?_, ?_⟩
  · rintro i r fr S' hi ⟨rfl, a, b, rfl⟩
    obtain ⟨d, hd, rfl⟩ := enum_get hi
    obtain ⟨x, hx, rfl⟩ := get_ints hd
    have hlt := (List.getElem?_eq_some_iff.mp hx).1
    have hwl := ok.hwl
    refine ⟨rfl, rfl, _, rfl, iteFd (by omega) ⟨_, rfl, rfl, _, _, _, rfl, (fun z => nomatch z), iteFb (isNum_yes (ok.hw x (List.mem_of_getElem? hx))) ?_⟩⟩
    exact ⟨rfl, _, _, rfl⟩
  · rintro fr S' ⟨rfl, a, b, rfl⟩
    refine ⟨_, rfl, fun i fr S'' => S'' = S' ∧ ∃ (a b c : Option R) (l : Int), fr = [some (.dat (.list (ws.map PyData.int))), some (.dat (.list (fs.map PyData.int))), some (.dat (.int pr)), a, b, some (.dat (.int l)), c] ∧ ∀ x, fs[i]? = some x → l ≤ x, ⟨rfl, _, _, _, 0, rfl, fun x hx => (ok.hf x (List.mem_of_getElem? hx)).1⟩, ?_, ?_⟩
    · rintro i r fr S' hi ⟨rfl, a, b, c, l, rfl, hle⟩
      obtain ⟨d, hd, rfl⟩ := enum_get hi
      obtain ⟨x, hx, rfl⟩ := get_ints hd
      have hlt := (List.getElem?_eq_some_iff.mp hx).1
      have hfl := ok.hfl
      have hb := ok.hf x (List.mem_of_getElem? hx)
      refine ⟨rfl, rfl, _, rfl, iteFd (by omega) ⟨_, rfl, _, rfl, _, rfl, rfl, _, _, _, rfl, (fun z => nomatch z), iteFb (isNum_yes ⟨hle x hx, by rw [List.length_map]; exact hb.2⟩) ?_⟩⟩
      refine ⟨_, rfl, rfl, _, _, _, x, rfl, fun y hy => ?_⟩
      obtain ⟨h1, e1⟩ := List.getElem?_eq_some_iff.mp hx
      obtain ⟨h2, e2⟩ := List.getElem?_eq_some_iff.mp hy
      have := List.pairwise_iff_getElem.mp ok.hfs i (i + 1) h1 h2 (by omega)
      rw [e1, e2] at this
      exact this
    · rintro fr S' ⟨rfl, a, b, c, l, rfl, hle⟩
      refine ⟨_, rfl, rfl, _, _, _, rfl, (fun z => nomatch z), iteFb (isNum_yes ok.hp) ?_⟩
      exact h
/-! redone -/
def redone (ws fs : List Int) (b e : Int) : Int := ((fs.filter fun f => decide (b ≤ f) && decide (f < e)).map fun f => (cutD ws (some b) (some f)).sum).sum
def spRedone : SpD := fun rs S C => ∃ ws fs b e, rs = [.dat (.list (ws.map PyData.int)), .dat (.list (fs.map PyData.int)), .dat (.int b), .dat (.int e)] ∧ fs.length ≤ 1000 ∧ C (.dat (.int (redone ws fs b e))) S
abbrev s_redone : Stmt := topS 21
abbrev N_redone : List Str := ["weights", "falls", "begin", "end", "fall"]
theorem sc_redone : FnScope N_redone ["weights", "falls", "begin", "end"] (defScope s_redone) := ⟨rfl, rfl, rfl, by decide +kernel, rfl, by decide +kernel, by decide +kernel⟩
def pR (b e : Int) : R → Bool
  | .dat (.int f) => decide (b ≤ f) && decide (f < e)
  | _ => false
def gR (ws : List Int) (b : Int) : R → R
  | .dat (.int f) => .dat (.int (cutD ws (some b) (some f)).sum)
  | r => r
theorem redone_list (ws : List Int) (b e : Int) : ∀ fs : List Int, (((fs.map PyData.int).map R.dat).filter (pR b e)).map (gR ws b) = (((fs.filter fun f => decide (b ≤ f) && decide (f < e)).map fun f => (cutD ws (some b) (some f)).sum).map PyData.int).map R.dat
  | [] => rfl
  | f :: fs => by
    have ih := redone_list ws b e fs
    rw [List.map_cons, List.map_cons, List.filter_cons, List.filter_cons]
    have e1 : pR b e (.dat (.int f)) = (decide (b ≤ f) && decide (f < e)) := rfl
    rw [e1]
    split
    · rw [List.map_cons, List.map_cons, List.map_cons, List.map_cons, ih]; rfl
    · exact ih
theorem ok_redone {k : Nat} (F : FunAt K mg "redone" s_redone ["weights", "falls", "begin", "end"]) (B : Blt mg) : Def P w K mg base "redone" (k + 1) 4 spRedone := by
  refine okF F sc_redone rfl fun cdv A outer s H E f hr => ⟨_,
    (ss_one (s_ret (d_sum (by rfl) B.sum (a_cons (d_lc sc_redone.nd (i := 4) (i_src (dv 1)) (blkOk_by (N := N_redone) (sc := defScope s_redone) (own := [("fall", 4)]) (by decide +kernel)) (fun _ _ _ _ _ => pg_name (i := 4) sc_redone.nd rfl (Or.inl rfl)) (fun _ _ _ _ _ => (ts_one (t_leLt (dv 2) (dv 4) (dv 3)))) (fun _ _ _ _ _ => (d_sum (by rfl) B.sum (a_cons (d_slice (dv 0) (o_some (dv 2)) (o_some (dv 4))) a_nil)))) a_nil))))
    , ?_⟩
  intro rs S C hl h
  obtain ⟨ws, fs, b, e, rfl, hfl, h⟩ := h
  refine ⟨_, rfl, lc_pure (pR b e) (gR ws b) ?_ ?_ (by simp; omega) ?_⟩
  · rintro r hr C' q
    obtain ⟨n, hn, rfl⟩ := mem_ints hr
    refine ⟨_, rfl, _, rfl, ite2d (fun h1 => ?_) (fun h1 => ?_)⟩
    · refine ⟨_, rfl, ?_⟩
      have e1 : pR b e (.dat (.int n)) = decide (n < e) := by simp [pR, h1]
      rw [e1] at q
      exact q
    · have e1 : pR b e (.dat (.int n)) = false := by simp [pR, h1]
      rw [e1] at q
      exact q
  · rintro r hr hp C' q
    obtain ⟨n, hn, rfl⟩ := mem_ints hr
    refine ⟨_, rfl, _, rfl, _, rfl, (cutD ws (some b) (some n)), ?_, q⟩
    rw [cutD_map]
    exact intsOf_map _
  · rw [redone_list]
    refine ⟨_, dats_map _, _, intsOf_map _, h⟩
end
end K16
set_option Elab.async false
set_option linter.all false
set_option maxRecDepth 100000
set_option maxHeartbeats 4000000
/-! DX: statements that may raise: what leaves is told by its class, its fields and the cells. -/
namespace DL
open PySem PySem.Spec PyProof.Rows L2

/-- what an exception is wished to come to -/
abbrev DY := Addr → List (Str × V) → SH → Prop
structure XEnds extends DEnds where
  ex : DY
abbrev XS := XEnds → Fr → SH → Prop
structure XEndsOk (K : Fg) (W : WX) (F : SH) (L : Live) (D : Ends) (D' : XEnds) : Prop where
  ends : EndsOk K F L D D'.toDEnds
  ex : ∀ C fs d σ S H L', OkF K F H S L' → (∀ e ∈ L, e ∈ L') → XRep H d fs → D'.ex C fs S → W (.ref C) d σ H
theorem XEndsOk.mono {K : Fg} {W : WX} {F : SH} {L L' : Live} {D : Ends} {D' : XEnds} (e : XEndsOk K W F L D D') (h : ∀ x ∈ L, x ∈ L') : XEndsOk K W F L' D D' :=
  ⟨e.ends.mono h, fun C fs d σ S H L2 o s x q => e.ex C fs d σ S H L2 o (fun z hz => s z (h z hz)) x q⟩
def LiftX (K : Fg) (W : WX) (ts : TS) (ds : XS) : Prop := ∀ (F : SH) (H : Hp) (σ : L2.St) (fr : Fr) (S : SH) (L : Live), FrOk σ fr L → OkF K F H S L → ∀ (D : Ends) (D' : XEnds), XEndsOk K W F L D D' → ds D' fr S → ts D σ H
/-- all that X's end takes -/
def canW (X : Cx) : WX := fun cls d σ H => ∀ u s', XE X (fun c' d' σ' H' => c' = cls ∧ d' = d ∧ σ' = σ ∧ H' = H) u s' → X.xe u s'
theorem takes_can (X : Cx) : Takes X (canW X) := fun u s' ⟨a, B, sI, pins, σ, H, cls, d, e, I, nb, up, sky, na, os, ag, w⟩ =>
  w u s' ⟨a, B, sI, pins, σ, H, cls, d, e, I, nb, up, sky, na, os, ag, rfl, rfl, rfl, rfl⟩
theorem can_of {X : Cx} {W : WX} (t : Takes X W) {cls : Value} {d : Option Addr} {σ : L2.St} {H : Hp} (w : W cls d σ H) : canW X cls d σ H := fun u s' x => t u s' (by
  obtain ⟨a, B, sI, pins, σ2, H2, cls2, d2, e, I, nb, up, sky, na, os, ag, rfl, rfl, rfl, rfl⟩ := x
  exact ⟨a, B, sI, pins, _, _, _, _, e, I, nb, up, sky, na, os, ag, w⟩)
structure PDX (X : Cx) (st : Stmt) (ds : XS) : Prop where
  ex : ∃ ts, PS X st ts ∧ LiftX X.K (canW X) ts ds
structure PDXs (X : Cx) (st : List Stmt) (ds : XS) : Prop where
  ex : ∃ ts, PSs X st ts ∧ LiftX X.K (canW X) ts ds
def xSeq (a b : XS) : XS := fun D fr S => a { D with nx := b D } fr S
def xIf (dt : DT) (a b : XS) : XS := fun D fr S => dt fr S fun c S1 => if c = true then a D fr S1 else b D fr S1
def xOf (d : DS) : XS := fun D => d D.toDEnds
def xNext : XS := fun D => D.nx
section
variable {X : Cx} {st : Stmt} {sts st2 : List Stmt} {d1 d2 : XS} {ds : DS} {pos : Pos} {c : Expr} {dt : DT}
theorem x_of (h : PDS X st ds) : PDX X st (xOf ds) := by
  obtain ⟨_, p, l⟩ := h.ex
  exact ⟨_, p, fun F H σ fr S L f o D D' e q => l F H σ fr S L f o D D'.toDEnds e.ends q⟩
theorem xs_of (h : PDSs X sts ds) : PDXs X sts (xOf ds) := by
  obtain ⟨_, p, l⟩ := h.ex
  exact ⟨_, p, fun F H σ fr S L f o D D' e q => l F H σ fr S L f o D D'.toDEnds e.ends q⟩
theorem xs_cons (h1 : PDX X st d1) (h2 : PDXs X sts d2) : PDXs X (st :: sts) (xSeq d1 d2) := by
  obtain ⟨t, p, l⟩ := h1.ex
  obtain ⟨u, p2, l2⟩ := h2.ex
  refine ⟨_, pss_cons p p2, fun F H σ fr S L f o D D' e h => ?_⟩
  exact l F H σ fr S L f o { D with nx := u D } { D' with nx := d2 D' } ⟨⟨fun σ' fr' S' H' L' f' o' s' h' => l2 F H' σ' fr' S' L' f' o' D D' (e.mono s') h', e.ends.rt, e.ends.bk, e.ends.ct⟩, e.ex⟩ h
theorem xs_one (h1 : PDX X st d1) : PDXs X [st] d1 := by
  obtain ⟨t, p, l⟩ := h1.ex
  exact ⟨_, pss_one p, l⟩
theorem xs_nil : PDXs X [] xNext := ⟨_, pss_nil, fun F H σ fr S L f o D D' e h => e.ends.nx σ fr S H L f o (fun _ z => z) h⟩
theorem x_if (hc : PDT X c dt) (ha : PDXs X sts d1) (hb : PDXs X st2 d2) : PDX X (.If c sts st2 pos) (xIf dt d1 d2) := by
  obtain ⟨tt, p, l⟩ := hc.ex
  obtain ⟨ta, pa, la⟩ := ha.ex
  obtain ⟨tb, pb, lb⟩ := hb.ex
  refine ⟨_, ps_if p pa pb, fun F H σ fr S L f o D D' e h => ?_⟩
  refine l F H σ fr S L f o _ _ h fun b S1 H1 o1 h1 => ?_
  cases b with
  | true => exact la F H1 σ fr S1 L f o1 D D' e h1
  | false => exact lb F H1 σ fr S1 L f o1 D D' e h1
/-! ### for -/
def xFor (di : DI) (dg : DG) (db : XS) : XS := fun D fr S => di fr S fun items S1 => ∃ I : Nat → Fr → SH → Prop, I 0 fr S1 ∧
  (∀ i r fr S, items[i]? = some r → I i fr S → dg r fr S fun fr2 S2 => db { D with nx := I (i + 1), ct := I (i + 1), bk := D.nx } fr2 S2) ∧ ∀ fr S, I items.length fr S → D.nx fr S
theorem x_for {tg iter : Expr} {di : DI} {dg : DG} {db : XS} (hi : PDI X tg iter di) (hg : PDG X tg dg) (hb : PDXs X sts db) (hp : PassesOwn (model X.prog X.w) X.A X.env X.xe := by exact passes_of rfl) (hc : X.calm = true := by rfl)
    (hs : ∀ x, foldedSetIterable iter X.env x = pure x := by intro _; rfl) : PDX X (.For tg iter sts [] pos) (xFor di dg db) := by
  obtain ⟨wi, p, li⟩ := hi.ex
  obtain ⟨g, p2, lg⟩ := hg.ex
  obtain ⟨tb, p3, lb⟩ := hb.ex
  refine ⟨_, ps_for hp hc p p2 p3 hs, fun F H σ fr S L f o D D' e h => ?_⟩
  refine li F H σ fr S L f o _ _ h fun J items S1 H1 L1 o1 s1 it h1 => ?_
  obtain ⟨I, i0, st, dn⟩ := h1
  refine ⟨fun i m σ H => m = items.length - i ∧ i ≤ items.length ∧ ∃ fr S L', FrOk σ fr L' ∧ OkF X.K F H S L' ∧ (∀ e ∈ L1, e ∈ L') ∧ I i fr S, ⟨items.length, by simp, Nat.zero_le _, fr, S1, L1, f.mono s1, o1, fun _ z => z, i0⟩, ?_⟩
  rintro i m σ2 H2 ⟨rfl, hi, fr2, S2, L2, f2, o2, s2, i2⟩
  obtain ⟨go, sp⟩ := it H2 (S2 ++ F) L2 o2 s2 i
  by_cases hlt : i < items.length
  · obtain ⟨hg, hy⟩ := go _ (List.getElem?_eq_getElem hlt)
    refine .inr ⟨hg, fun σ H => ∃ fr S L', FrOk σ fr L' ∧ OkF X.K F H S L' ∧ (∀ e ∈ L1, e ∈ L') ∧ I (i + 1) fr S, fun σ' H' n => ⟨items.length - (i + 1), by omega, rfl, hlt, n⟩, fun x H3 y => ?_⟩
    have o3 : OkF X.K F H3 S2 ((x, items[i]) :: L2) := hy x H3 y
    refine lg F H3 σ2 fr2 S2 _ x _ (f2.mono tl_mem) o3 List.mem_cons_self _ _ (st i _ fr2 S2 (List.getElem?_eq_getElem hlt) i2) fun σ4 fr4 S4 H4 L4 f4 o4 s4 h4 => ?_
    have s14 : ∀ e ∈ L1, e ∈ L4 := fun z hz => s4 z (List.mem_cons_of_mem _ (s2 z hz))
    have sL4 : ∀ e ∈ L, e ∈ L4 := fun z hz => s14 z (s1 z hz)
    refine lb F H4 σ4 fr4 S4 L4 f4 o4 _ { D' with nx := I (i + 1), ct := I (i + 1), bk := D'.nx } ⟨⟨fun σ5 fr5 S5 H5 L5 f5 o5 s5 h5 => ⟨fr5, S5, L5, f5, o5, fun z hz => s5 z (s14 z hz), h5⟩, (e.ends.mono sL4).rt, fun σ5 fr5 S5 H5 L5 f5 o5 s5 h5 => e.ends.nx σ5 fr5 S5 H5 L5 f5 o5 (fun z hz => s5 z (sL4 z hz)) h5,
      fun σ5 fr5 S5 H5 L5 f5 o5 s5 h5 => ⟨fr5, S5, L5, f5, o5, fun z hz => s5 z (s14 z hz), h5⟩⟩, (e.mono sL4).ex⟩ h4
  · have ei : i = items.length := by omega
    subst ei
    exact .inl ⟨sp rfl, e.ends.nx σ2 fr2 S2 H2 L2 f2 o2 (fun z hz => s2 z (s1 z hz)) (dn fr2 S2 i2)⟩
end
/-! ### expressions that may raise -/
abbrev DEX := Fr → SH → CR0 → DY → Prop
def LiftE (K : Fg) (W : WX) (te : TE) (de : DEX) : Prop := ∀ (F : SH) (H : Hp) (σ : L2.St) (fr : Fr) (S : SH) (L : Live), FrOk σ fr L → OkF K F H S L → ∀ (C : CR0) (Y : DY) (Q : VK), de fr S C Y →
  (∀ v r S' H', OkF K F H' S' ((v, r) :: L) → C r S' → Q v H') → (∀ Cc fs d σ' S' H' L', OkF K F H' S' L' → (∀ e ∈ L, e ∈ L') → XRep H' d fs → Y Cc fs S' → W (.ref Cc) d σ' H') → te σ H Q
structure PDE (X : Cx) (e : Expr) (de : DEX) : Prop where
  ex : ∃ te, PE X e te ∧ LiftE X.K (canW X) te de
def xDrop (d : DEX) : XS := fun D fr S => d fr S (fun _ S1 => D.nx fr S1) D.ex
def xRet (d : DEX) : XS := fun D fr S => d fr S D.rt D.ex
def xAsg (d : DEX) (dg : DG) : XS := fun D fr S => d fr S (fun r S1 => dg r fr S1 D.nx) D.ex
section
variable {X : Cx} {e : Expr} {de : DEX} {pos pos' : Pos}
theorem x_expr (he : PDE X e de) (hs : swapsWith e none pos.line X.env = pure false := by rfl) : PDX X (.Expr e pos) (xDrop de) := by
  obtain ⟨_, p, l⟩ := he.ex
  exact ⟨_, ps_expr p hs, fun F H σ fr S L f o D D' en h => l F H σ fr S L f o _ _ _ h (fun v r S' H' o' h' => en.ends.nx σ fr S' H' L f (o'.sub tl_mem) (fun _ z => z) h') en.ex⟩
theorem x_ret (he : PDE X e de) : PDX X (.Return (some e) pos) (xRet de) := by
  obtain ⟨_, p, l⟩ := he.ex
  exact ⟨_, ps_ret p, fun F H σ fr S L f o D D' en h => l F H σ fr S L f o _ _ _ h (fun v r S' H' o' h' => en.ends.rt v r S' H' o' h') en.ex⟩
end
/-! ### defs that may raise -/
abbrev SpX := List R → SH → CR0 → DY → Prop
def toSpX (K : Fg) (n : Nat) (sp : SpX) : Sp := fun vs H Q E => vs.length = n ∧ ∃ (F S : SH) (L : Live) (rs : List R) (C : CR0) (Y : DY), OkF K F H S L ∧ Lives L vs rs ∧ sp rs S C Y ∧ (∀ v r S' H', OkF K F H' S' ((v, r) :: L) → C r S' → Q v H') ∧
  ∀ Cc fs d S' H' L', OkF K F H' S' L' → (∀ e ∈ L, e ∈ L') → XRep H' d fs → Y Cc fs S' → E (.ref Cc) d H'
structure DefX (P : Program) (w : World) (K : Fg) (mg : Str → Option Value) (base : Heap) (x : Str) (k n : Nat) (sp : SpX) : Prop where
  ex : ∃ f fd ps, FnOk P w K mg base (L2.CX P w) k f fd ps (toSpX K n sp) ∧ mg x = some (.ref f) ∧ PySem.W.keepIn K (.ref f) = true ∧ Binds K fd ps []
theorem DefX.mono {P : Program} {w : World} {K : Fg} {mg : Str → Option Value} {base : Heap} {x : Str} {j k n : Nat} {sp : SpX} (d : DefX P w K mg base x j n sp) (h : j ≤ k) : DefX P w K mg base x k n sp := by
  obtain ⟨f, fd, ps, a, b⟩ := d.ex
  exact ⟨f, fd, ps, a.mono h, b⟩
def dCallX (n : Nat) (sp : SpX) (da : DA) : DEX := fun fr S C Y => da fr S fun rs S1 => rs.length = n ∧ sp rs S1 C Y
theorem e_callX {X : Cx} {e : Expr} {es : List Expr} {dA : DA} {sp : SpX} {k n : Nat} {x : Str} {p pos : Pos} (d : DefX X.prog X.w X.K X.mg X.base x k n sp) (hr : Room k X.A) (hg : Gl X x)
    (ha : PDA X (e :: es) dA) (hdb : (x == ("__debug__" : Str)) = false := by decide) (he : starEach (e :: es) X.env = (false, eval e X.env) :: starEach es X.env := by rfl) (hpl : (backTo pos (starEach es X.env)).any (·.1) = false := by rfl) :
    PDE X (.Call (.Name x p) (e :: es) [] pos) (dCallX n sp dA) := by
  obtain ⟨f, fd, ps, F, hm, hk, hb⟩ := d.ex
  obtain ⟨_, pa, la⟩ := ha.ex
  refine ⟨_, pe_callS F hr hg hm hk hb (fun σ => passAt (takes_can X) σ) pa hdb he hpl, fun F H σ fr S L f o C Y Q h q qx => ?_⟩
  refine la F H σ fr S L f o _ _ (show dA fr S (fun rs S1 => rs.length = n ∧ sp rs S1 C Y) from h) fun vs rs S1 H1 L1 o1 s1 lv h1 => ?_
  exact ⟨by rw [paired_len lv]; exact h1.1, F, S1, L1, rs, C, Y, o1, lv, h1.2, fun v r S' H' o' h' => q v r S' H' (o'.sub (sub_cons s1)) h', fun Cc fs d S' H' L' o' s' x y => qx Cc fs d σ S' H' L' o' (fun z hz => s' z (s1 z hz)) x y⟩
theorem okX {P : Program} {w : World} {K : Fg} {mg : Str → Option Value} {base : Heap} {x : Str} {st : Stmt} {N ps : List Str} {k n : Nat} {sp : SpX} (Fn : FunAt K mg x st ps) (Sc : FnScope N ps (defScope st)) (hn : ps.length = n)
    (hbody : ∀ (cdv : Value) (A : Around) (outer : List Env) (s : Shared) (H : Hp) (E : XK) (f : Addr), Room k (A.deeper (envOfC x (defScope st) s.heap.objs.size f cdv)) →
      ∃ ds, PDXs (cxOf (L2.CX P w) P w K mg base N x (defScope st) f cdv A outer s H E) (defBody st) ds ∧ ∀ rs S C Y, rs.length = n → sp rs S C Y → ds { nx := fun _ S => C (.dat .none) S, rt := C, ex := Y } (startF N rs) S) : DefX P w K mg base x (k + 1) n sp := by
  obtain ⟨f, fd, Fu, hm, hb⟩ := Fn.ex
  refine ⟨f, fd, ps, Fu.okX Sc (fun vs H Q E h => h.1.trans hn.symm) fun cdv A outer s H vs Q E hr h => ?_, hm, Fu.kp, hb⟩
  obtain ⟨ds, hp, hd⟩ := hbody cdv A outer s H E f hr
  obtain ⟨ts, p, l⟩ := hp.ex
  obtain ⟨hl, F, S, L, rs, C, Y, o, lv, hs, q, qx⟩ := h
  refine ⟨ts, p, ?_⟩
  refine l F H (L2.start N vs) (startF N rs) S L (fr_start lv) o _ { nx := fun _ S => C (.dat .none) S, rt := C, ex := Y } ⟨⟨fun σ' fr' S' H' L' f' o' s' h' => ?_, fun v r S' H' o' h' => q v r S' H' o' h', fun _ _ _ _ _ _ _ _ h => h.elim, fun _ _ _ _ _ _ _ _ h => h.elim⟩, fun Cc fs d σ' S' H' L' o' s' x' y => ?_⟩ (hd rs S C Y ((paired_len lv).symm.trans hl) hs)
  · exact q .non (.dat .none) S' H' ((o'.sub s').pd .non) h'
  · exact can_of (takes_of (E := E) rfl rfl rfl rfl) (qx Cc fs d S' H' L' o' s' x' y)
/-! ### raise -/
abbrev DMk := Fr → SH → DY → Prop
structure PDMk (X : Cx) (e : Expr) (dm : DMk) : Prop where
  ex : ∃ t, PMk X e t ∧ ∀ (F : SH) (H : Hp) (σ : L2.St) (fr : Fr) (S : SH) (L : Live), FrOk σ fr L → OkF X.K F H S L → ∀ (Y : DY) (Q : XK), dm fr S Y →
    (∀ Cc fs d S' H' L', OkF X.K F H' S' L' → (∀ e ∈ L, e ∈ L') → XRep H' d fs → Y Cc fs S' → Q (.ref Cc) d H') → t σ H Q
def xRaise (dm : DMk) : XS := fun D fr S => dm fr S D.ex
theorem x_raise {X : Cx} {e : Expr} {dm : DMk} {pos : Pos} (hm : PDMk X e dm) (hc : X.calm = true := by rfl) : PDX X (.Raise (some e) none pos) (xRaise dm) := by
  obtain ⟨t, p, l⟩ := hm.ex
  exact ⟨_, ps_raise hc (takes_can X) p, fun F H σ fr S L f o D D' en h => l F H σ fr S L f o D'.ex _ h fun Cc fs d S' H' L' o' s' x y => en.ex Cc fs d σ S' H' L' o' s' x y⟩
/-! ### cells beside -/
def framedX (sp : SpX) : SpX := fun rs S C Y => ∃ S0 T, S.Perm (S0 ++ T) ∧ sp rs S0 (fun r S' => C r (S' ++ T)) fun Cc fs S' => Y Cc fs (S' ++ T)
theorem DefX.frame {P : Program} {w : World} {K : Fg} {mg : Str → Option Value} {base : Heap} {x : Str} {k n : Nat} {sp : SpX} (d : DefX P w K mg base x k n sp) : DefX P w K mg base x k n (framedX sp) := by
  obtain ⟨f, fd, ps, a, b⟩ := d.ex
  refine ⟨f, fd, ps, a.imp fun vs H Q E ⟨hl, F, S, L, rs, C, Y, o, lv, ⟨S0, T, hp, hs⟩, q, qx⟩ => ⟨hl, T ++ F, S0, L, rs, fun r S' => C r (S' ++ T), fun Cc fs S' => Y Cc fs (S' ++ T), ?_, lv, hs, fun v r S' H' o' h' => q v r (S' ++ T) H' ?_ h', fun Cc fs d S' H' L' o' s' x' y => qx Cc fs d (S' ++ T) H' L' ?_ s' x' y⟩, b⟩
  · have o2 := o.perm (hp.append_right F)
    rw [List.append_assoc] at o2
    exact o2
  · have o3 : Ok K H' (S' ++ (T ++ F)) ((v, r) :: L) := o'
    rw [← List.append_assoc] at o3
    exact o3
  · have o3 : Ok K H' (S' ++ (T ++ F)) L' := o'
    rw [← List.append_assoc] at o3
    exact o3
end DL
set_option Elab.async false
set_option linter.all false
set_option maxRecDepth 100000
set_option maxHeartbeats 4000000
/-! DXm: exceptions of own classes are made: without an own init, with one that keeps numbers and texts. -/
namespace DL
open PySem PySem.Spec PyProof.Rows L2
/-- an own class that is asked for its init by its name -/
structure Bas (K : Fg) (C : Addr) : Prop where
  hg : PySem.W.specialIn K (.ref C) "__getattribute__" = some (some (.builtin "type.__getattribute__"))
  ty : PySem.W.typeIn K (.ref C) = some (.type "type")
  rd : PySem.W.readsIn K C (.type "type") = true
  ini : PySem.W.findCls K (.ref C) (.type "type") "__init__" = some (.val (.builtin "ValueError.__init__"))
section
variable {X : Cx} {e : Expr} {es : List Expr} {ta : TA} {p1 p2 pos : Pos} {x : Str} {C : Addr}
theorem pe_basinit {pl : Sem Bool} (hg : Gl X x) (hm : X.mg x = some (.ref C)) (T : Bas X.K C) (ha : PA X (e :: es) ta) (hdb : (x == ("__debug__" : Str)) = false := by decide)
    (hc : eval (.Call (.Attribute (.Name x p1) "__init__" p2) (e :: es) [] pos) X.env = (do
      let u ← eval (.Name x p1) X.env
      standAt p2.atName
      let (g, pre) ← holding [u] (getMethod u "__init__" pl)
      callWith pos g pre (backTo pos (starEach (e :: es) X.env)) (backToKw pos (keywordEach [] X.env))) := by rfl)
    (he : starEach (e :: es) X.env = (false, eval e X.env) :: starEach es X.env := by rfl) (hpl : (backTo pos (starEach es X.env)).any (·.1) = false := by rfl) :
    PE X (.Call (.Attribute (.Name x p1) "__init__" p2) (e :: es) [] pos) (tVeI X.K ta) := by
  refine ⟨fun pins s σ H Q J h => ?_⟩
  refine PySem.W.methodCall_KW (ld_glob J hg hm ?_ hdb) hc
  obtain ⟨m, fr⟩ := J.fr
  refine PySem.W.method_of_cls fr J.ok.mod.kin T.hg (PySem.W.cls_val fr J.ok.mod.kin T.ty T.rd T.ini (by decide +kernel) ?_)
  refine PyProof.Rows.callWith_method1 (thn (ha.run pos pins _ σ H _ (J.tok _) h) fun us s1 ⟨vs, H1, J1, rs, a, D, ws, ev, hl, T2, ea, q⟩ => ?_) he hpl
  subst ev
  cases rs with
  | @cons _ u0 _ ur ra rw' =>
    obtain rfl : u0 = Value.ref a := ra
    exact oinit_ok T2 J1 ea (by rw [← Paired.length rw', sizeLine_eq]; omega) fun s' J2 => ⟨.non, H1, J2, rfl, q⟩
end
/-! ### classes with an own init -/
/-- C.__init__(self, v): the base's init, self.f = v -/
def spI1 (K : Fg) (C : Addr) (f : Str) : Sp := fun vs H Q _ => ∃ (a : Addr) (v : V), vs = [.ref a, v] ∧ H a = some (exo a C none) ∧ ∀ dx, H dx = none → dx ≠ a → Q .non (upd (upd H dx (exd dx [(f, v)])) a (exo a C (some dx)))
/-- C.__init__(self, v, w): self.f = v, self.g = w -/
def spI2 (K : Fg) (C : Addr) (f g : Str) : Sp := fun vs H Q _ => ∃ (a : Addr) (v w : V), vs = [.ref a, v, w] ∧ H a = some (exo a C none) ∧ ∀ dx, H dx = none → dx ≠ a → Q .non (upd (upd (upd H dx (exd dx [(f, v)])) a (exo a C (some dx))) dx (exd dx [(g, w), (f, v)]))
structure MkE (P : Program) (w : World) (K : Fg) (mg : Str → Option Value) (base : Heap) (x : Str) (C : Addr) (sp : Sp) (k : Nat) : Prop where
  cls : OexC K C
  nm : mg x = some (.ref C)
  ex : ∃ fI fd ps, PySem.W.findIn K (.ref C) "__init__" = some (some (.ref fI)) ∧ PySem.W.typeIn K (.ref fI) = some (.type "function") ∧ FnOk P w K mg base CX0 k fI fd ps sp ∧ Binds K fd ps []
/-- the data that a field may hold: a number or a text, by itself -/
def scV : PyData → Option V
  | .int i => some (.int i)
  | .str x => some (.str x)
  | _ => none
theorem scV_of {K : Fg} {A : Addr → Prop} {H : Hp} {v u : V} {d : PyData} (h : Rep K A H v d) (e : scV d = some u) : v = u := by
  cases h <;> first | (cases e; rfl) | cases e
section
variable {X : Cx} {e : Expr} {es : List Expr} {dA : DA} {p pos : Pos} {x : Str} {C : Addr} {k : Nat}
theorem m_oex1 {f : Str} (M : MkE X.prog X.w X.K X.mg X.base x C (spI1 X.K C f) k) (hr : Room (k + 1) X.A) (hg : Gl X x) (ha : PDA X (e :: es) dA)
    (hdb : (x == ("__debug__" : Str)) = false := by decide) (he : starEach (e :: es) X.env = (false, eval e X.env) :: starEach es X.env := by rfl) (hpl : (backTo pos (starEach es X.env)).any (·.1) = false := by rfl) :
    PDMk X (.Call (.Name x p) (e :: es) [] pos) (fun fr S Y => dA fr S fun rs S1 => ∃ d v, rs = [.dat d] ∧ scV d = some v ∧ Y C [(f, v)] S1) := by
  obtain ⟨fI, fd, ps, iC, tI, F1, hb⟩ := M.ex
  obtain ⟨_, pa, la⟩ := ha.ex
  refine ⟨_, pmk_oex M.cls iC tI F1 hr hb .nil pass0 hg M.nm pa hdb he hpl, fun F H σ fr S L fo o Y Q h q => ?_⟩
  refine la F H σ fr S L fo o _ _ h fun vs rs S1 H1 L1 o1 s1 lv h1 => ?_
  obtain ⟨d, v, rfl, sv, h1⟩ := h1
  cases lv with | cons m t =>
  cases t
  cases scV_of (o1.dat m) sv
  refine ⟨by show 1 ≤ 1000; decide, fun a na => ⟨a, _, rfl, upd_same, fun dx nd ne => ⟨rfl, dx, [(f, _)], upd_same, by rw [upd_ne ne, upd_same], ?_, ?_⟩⟩⟩
  · rw [upd_ne ne] at nd
    exact nd
  · have nd' : H1 dx = none := by rw [upd_ne ne] at nd; exact nd
    have eh : upd (del (upd (upd (upd H1 a (exo a C none)) dx (exd dx [(f, v)])) a (exo a C (some dx))) a) dx (.xd [(f, v)]) = upd H1 dx (.xd [(f, v)]) := by
      funext b
      unfold upd del
      by_cases hb : b = dx <;> by_cases hc : b = a <;> simp [hb, hc, na]
    rw [eh]
    exact q C [(f, v)] (some dx) S1 _ L1 (o1.new nd') s1 (.inr ⟨dx, rfl, upd_same⟩) h1
theorem m_oex2 {f g : Str} (M : MkE X.prog X.w X.K X.mg X.base x C (spI2 X.K C f g) k) (hr : Room (k + 1) X.A) (hg : Gl X x) (ha : PDA X (e :: es) dA)
    (hdb : (x == ("__debug__" : Str)) = false := by decide) (he : starEach (e :: es) X.env = (false, eval e X.env) :: starEach es X.env := by rfl) (hpl : (backTo pos (starEach es X.env)).any (·.1) = false := by rfl) :
    PDMk X (.Call (.Name x p) (e :: es) [] pos) (fun fr S Y => dA fr S fun rs S1 => ∃ d d' v v', rs = [.dat d, .dat d'] ∧ scV d = some v ∧ scV d' = some v' ∧ Y C [(g, v'), (f, v)] S1) := by
  obtain ⟨fI, fd, ps, iC, tI, F1, hb⟩ := M.ex
  obtain ⟨_, pa, la⟩ := ha.ex
  refine ⟨_, pmk_oex M.cls iC tI F1 hr hb .nil pass0 hg M.nm pa hdb he hpl, fun F H σ fr S L fo o Y Q h q => ?_⟩
  refine la F H σ fr S L fo o _ _ h fun vs rs S1 H1 L1 o1 s1 lv h1 => ?_
  obtain ⟨d, d', v, v', rfl, sv, sv', h1⟩ := h1
  cases lv with | cons m t => cases t with | cons m2 t2 =>
  cases t2
  cases scV_of (o1.dat m) sv
  cases scV_of (o1.dat m2) sv'
  refine ⟨by show 2 ≤ 1000; decide, fun a na => ⟨a, _, _, rfl, upd_same, fun dx nd ne => ⟨rfl, dx, [(g, _), (f, _)], by rw [upd_ne (Ne.symm ne), upd_same], upd_same, ?_, ?_⟩⟩⟩
  · rw [upd_ne ne] at nd
    exact nd
  · have nd' : H1 dx = none := by rw [upd_ne ne] at nd; exact nd
    have eh : upd (del (upd (upd (upd (upd H1 a (exo a C none)) dx (exd dx [(f, v)])) a (exo a C (some dx))) dx (exd dx [(g, v'), (f, v)])) a) dx (.xd [(g, v'), (f, v)]) = upd H1 dx (.xd [(g, v'), (f, v)]) := by
      funext b
      unfold upd del
      by_cases hb : b = dx <;> by_cases hc : b = a <;> simp [hb, hc, na]
    rw [eh]
    exact q C [(g, v'), (f, v)] (some dx) S1 _ L1 (o1.new nd') s1 (.inr ⟨dx, rfl, upd_same⟩) h1
/-- a class without an init: C('m') -/
theorem m_own {m : Str} {j : Nat} {p2 : Pos} {bmB : List Value} {B newId initId : String} (F : ExcBaseFacts B newId initId bmB) (q : PySem.W.excIn X.K C bmB newId = true) (gC : X.mg x = some (.ref C)) (kC : PySem.W.keepIn X.K (.ref C) = true) (r1 : PySem.W.subIn X.K (.ref C) (.type "BaseException") = some true) (r2 : PySem.W.typeIn X.K (.ref C) = some (.type "type")) (hg : Gl X x)
    (hdb : (x == ("__debug__" : Str)) = false := by decide) : PDMk X (.Call (.Name x p) [.Constant (.str m) j p2] [] pos) (fun _ S Y => Y C [] S) :=
  ⟨_, pmk_own F q gC kC (raises_own r1 r2) hg hdb, fun F H σ fr S L fo o Y Q h q => q C [] none S H L o (fun _ z => z) (.inl ⟨rfl, rfl⟩) h⟩
end
end DL
set_option Elab.async false
set_option linter.all false
set_option maxRecDepth 100000
set_option maxHeartbeats 4000000
/-! DXs: what is asked of an exception that is held: isinstance (with a dict, or without), its fields. -/
namespace PySem.W
open PySem PySem.Spec PySem.Calls PyProof.Rows
section
variable {prog : Program} {w : World} {A : Around} {E : Value → Shared → Prop} {s : Shared} {K : Frag} {x D : Addr} {ox : Obj} {od : Option Obj}
theorem data_any {C : Addr} {name : Str} {a g : Value} (hc : (clsIn K C).isSome = true) (ha : findIn K (.ref C) name = some (some a)) (hg : specialIn K a "__get__" = some (some g)) (ht : takesIn K a = some true) : findObj K C od name = some (.bind g a) := by
  obtain ⟨c1, h1⟩ := Option.isSome_iff_exists.mp hc
  unfold findObj
  rw [h1, Option.bind_some, ha, Option.bind_some]
  simp [hg, ht]
theorem class_held {Q : Option Value → Shared → Prop} (T : L2.ExcC K D) (Y : K.In s.heap) (J : InstAt s.heap x ox D od) (q : Q (some (.ref D)) { s with toks := s.toks + 1 }) : wpAny (model prog w) A (getAttr? (.ref x) "__class__") Q E s := by
  have fd : findObj K D od "__class__" = some (.bind (.builtin "getset_descriptor.__get__") (.builtin "object.__class__")) := data_any (by obtain ⟨c1, h1, _⟩ := any_some T.hd; rw [h1]; rfl) T.ha T.hn T.ht
  obtain ⟨h1, g1, d1, t1, o1⟩ := s
  have A0 := J.type (M := model prog w)
  have A1 := looks_findIn (M := model prog w) Y T.hg
  have A2 := looks_findIn (M := model prog w) Y T.hk
  have A3 := looks_find (M := model prog w) Y J fd
  have AB : Looks (model prog w) h1 (isInstance (.ref x) (.type "BaseException")) true := A0.andThen (looks_subIn Y T.hs)
  have z0 : (false && onTheHeap (Value.builtin "BaseException.__getattribute__")) = false := rfl
  have z2 : (Value.builtin "BaseException.__getattribute__" == Value.builtin "object.__getattribute__") = false := by decide +kernel
  have z1 : (onTheHeap (Value.ref D) && Value.builtin "BaseException.__getattribute__" == Value.builtin "object.__getattribute__") = false := by rw [z2]; rfl
  unfold getAttr? getAttrBy? getAttrBy
  refine wpAny_bind (wpAny_mkText (wpAny_bind (wpAny_attempt (wpAny_holding (wpAny_bind (A0.at (wpAny_bind (A1.at ?_))))))))
  show wpAny _ _ (if (onTheHeap (Value.ref D) && Value.builtin "BaseException.__getattribute__" == Value.builtin "object.__getattribute__") = true then _ else _) _ _ _
  rw [z1, if_neg Bool.false_ne_true]
  unfold getAttrByItsOwn hookBefore
  refine wpAny_bind ?_
  rw [if_pos (show onTheHeap (Value.ref D) = true from rfl)]
  refine A2.at ?_
  refine wpAny_bind (wpAny_attempt (wpAny_holding ?_))
  unfold callGetattribute
  rw [z0, if_neg Bool.false_ne_true]
  unfold boundAndCalled
  rw [PySem.F.excAttr_ValueError.ga.bind (.ref x)]
  refine wpAny_bind (wpAny_pure ?_)
  show wpAny _ _ (call (.builtin "BaseException.__getattribute__") [.ref x, .str "__class__" t1]) _ _ _
  refine wpAny_call (codeAny_call_builtin PySem.F.excAttr_ValueError.ga.plain PySem.F.entry_bexc_ga ?_)
  refine @check_slot (model prog w) _ _ ⟨h1, g1, d1, t1 + 1, o1⟩ "BaseException.__getattribute__" "BaseException" "__getattribute__" (.ref x) [.str "__class__" t1] [] _ (by decide +kernel) (by decide +kernel) AB (PySem.F.args_bexc_ga (.ref x) (.str "__class__" t1)) ?_
  unfold Builtin.«object.__getattribute__»
  refine wpAny_bind (wpAny_of_eq (a := ((Value.ref x : Value), [Value.str "__class__" t1])) (by first | rfl | (simp only [slotArgs]; rfl)) ?_)
  refine wpAny_bind (wpAny_pure (wpAny_bind (A0.at (wpAny_bind (A3.at ?_)))))
  show wpAny _ _ (holding [Value.builtin "object.__class__"] (call (.builtin "getset_descriptor.__get__") [.builtin "object.__class__", .ref x, .ref D]) >>= ret) _ _ _
  refine wpAny_bind (wpAny_holding (wpAny_call (class_get (s := ⟨h1, g1, d1, t1 + 1, o1⟩) (ox := ox) (od := od) Y J T.hm ?_)))
  refine wpAny_pure ?_
  show wpAny _ _ (handedOut (.ref D)) _ _ _
  rw [handedOut_of (v := .ref D) rfl]
  first
    | exact wpAny_pure (wpAny_pure q)
    | exact wpAny_pure q
    | exact wpAny_pure (wpAny_bind (wpAny_pure (wpAny_pure q)))
theorem kit_held (T : L2.ExcC K D) : KitX K (.ref x) (.ref D) (fun h => InstAt h x ox D od) where
  ty := fun _ _ _ J => J.type
  it := fun _ _ Y _ => by
    obtain ⟨c1, h1, _⟩ := any_some T.hd
    unfold clsIn at h1
    split at h1
    · rename_i ho
      intro A' Q' E' s' k q
      unfold isType loadHead
      exact wpAny_bind (wpAny_loadPart (k _ _ (Y _ _ ho)) (wpAny_pure q))
    · cases h1
  ne := fun h tp dd its n sl Y htp => by
    obtain ⟨c1, h1, _⟩ := any_some T.hd
    refine Bool.eq_false_iff.mpr fun q => ?_
    have e : D = tp := Value.ref.inj (beq_iff_eq.mp q)
    subst e
    unfold clsIn at h1
    split at h1
    · rename_i ho
      have z := (Y _ _ ho).symm.trans htp
      cases z
    · cases h1
  ca := fun Y J k => class_held T Y J k
end
end PySem.W
namespace DL
open PySem PySem.Spec PyProof.Rows L2
/-- isinstance(e, c) of what is held at a -/
def rIsH (K : Fg) (D a : Addr) (d : Option Addr) : List V → Hp → VK → Prop := fun xs H Q => ∃ (c : V) (cv : Value) (b : Bool) (fs : List (Str × V)), xs = [.ref a, c] ∧ (∀ u, RelV c u → u = cv) ∧ PySem.W.kitOne K (.ref D) cv = some b ∧ XRep H d fs ∧ Q (.bl b) H
theorem call_isH {X : Cx} {a D : Addr} {d : Option Addr} {oe : Obj} {pn : List (Addr × Obj)} (T : ExcC X.K D) (hz : Zc (.ref D) d oe) (hf : ∃ vs, oe.data = .fields vs) : CallR (X.suite a ((a, oe) :: pn)) (.builtin "isinstance") (rIsH X.K D a d) := by
  intro pins s σ H xs us Q I r h
  obtain ⟨c, cv, b, fs, rfl, hcv, e, xr, q⟩ := h
  cases r with
  | cons rx rr =>
    cases rr with
    | cons rt rr =>
      cases rr
      cases rx
      have ec := hcv _ rt
      subst ec
      obtain ⟨hget, _⟩ := I.pin (a, oe) (List.mem_append.mpr (.inl List.mem_cons_self))
      obtain ⟨vs, hv⟩ := hf
      obtain ⟨od, J⟩ : ∃ od, PySem.W.InstAt s.heap a oe D od := by
        obtain ⟨o1, o2, o3, o4⟩ := oe
        obtain ⟨h1, h2⟩ := hz
        dsimp only at h1 h2 hv
        subst h1 h2 hv
        rcases xr with ⟨e1, _⟩ | ⟨dx, e1, e2⟩
        · subst e1
          exact ⟨none, hget, rfl, rfl, trivial⟩
        · subst e1
          obtain ⟨mA, hns, _⟩ : ObjOk X.prog X.w H s.heap dx (.xd fs) := I.hok dx _ e2
          obtain ⟨o, ho, _⟩ := lookIn_ns hns
          exact ⟨some o, hget, rfl, rfl, ho⟩
      exact PySem.W.kia_one (PySem.W.kit_held T) I.kIn J e (fun z => nomatch z) fun tk => ⟨.bl b, H, I.kept (t' := tk) fun _ _ z => z, rfl, q⟩
end DL
set_option Elab.async false
set_option linter.all false
set_option maxRecDepth 100000
set_option maxHeartbeats 4000000
/-! DL: x in t, x not in t: data of any depth within a tuple. -/
namespace DL
open PySem PySem.Spec PyProof.Rows L2
def rInT (K : Fg) (neg : Bool) : R2 := fun x y H Q => ∃ d ds, Dp K H x d ∧ Dp K H y (.tuple ds) ∧ d.canLay0 = true ∧ d.depth ≤ 60 ∧ PyData.canLayAll0 ds = true ∧ Q (.bl (if neg then !inD d ds else inD d ds)) H
section
variable {X : Cx} {K : Fg}
theorem op_inT (hu : X.A.units + 64 < cLine) : OpR X (compareOp .In) (rInT X.K false) := by
  intro pins s σ H x y v u Q I rx ry h
  obtain ⟨d, ds, hd, he, sd, dd, se, q⟩ := h
  obtain ⟨as, r1⟩ := Dp.reads I d x v hd rx
  obtain ⟨bs, r2⟩ := Dp.reads I (.tuple ds) y u he ry
  exact SeqAt.in_tuple_reads r2 r1 se sd (by omega) ⟨.bl _, H, I, rfl, q⟩
theorem op_notInT (hu : X.A.units + 64 < cLine) : OpR X (compareOp .NotIn) (rInT X.K true) := by
  intro pins s σ H x y v u Q I rx ry h
  obtain ⟨d, ds, hd, he, sd, dd, se, q⟩ := h
  obtain ⟨as, r1⟩ := Dp.reads I d x v hd rx
  obtain ⟨bs, r2⟩ := Dp.reads I (.tuple ds) y u he ry
  exact SeqAt.notIn_tuple_reads r2 r1 se sd (by omega) ⟨.bl _, H, I, rfl, q⟩
def fInT (neg : Bool) : F2 := fun a b S C => match a, b with
  | .dat d, .dat (.tuple ds) => d.canLay0 = true ∧ d.depth ≤ 60 ∧ PyData.canLayAll0 ds = true ∧ C (.dat (.bool (if neg then !inD d ds else inD d ds))) S
  | _, _ => False
theorem opd_inT {neg : Bool} : OpD K (rInT K neg) (fInT neg) := OpD.flat fun A x y a b H S C Q hx hy hf q => by
  unfold fInT at hf
  split at hf
  · obtain ⟨h1, h2, h3, h⟩ := hf
    exact ⟨_, _, hx.dp, hy.dp, h1, h2, h3, q _ (.dat _) (Rep.bl _) h⟩
  · exact hf.elim
end
section
variable {X : Cx} {a b : Expr} {da db : DE} {pos : Pos}
theorem d_inT (hu : X.A.units + 64 < cLine) (ha : PD X a da) (hb : PD X b db) (hm : behindInMarks .In b = false := by rfl) : PD X (.Compare a [.In] [b] pos) (dOp (fInT false) da db) := d_cmpG (op_inT hu) opd_inT ha hb hm
theorem d_notInT (hu : X.A.units + 64 < cLine) (ha : PD X a da) (hb : PD X b db) (hm : behindInMarks .NotIn b = false := by rfl) : PD X (.Compare a [.NotIn] [b] pos) (dOp (fInT true) da db) := d_cmpG (op_notInT hu) opd_inT ha hb hm
theorem t_inT (hu : X.A.units + 64 < cLine) (ha : PD X a da) (hb : PD X b db) (hm : behindInMarks .In b = false := by rfl) : PDT X (.Compare a [.In] [b] pos) (dTest (dOp (fInT false) da db)) := t_cmpG (op_inT hu) opd_inT ha hb hm
theorem t_notInT (hu : X.A.units + 64 < cLine) (ha : PD X a da) (hb : PD X b db) (hm : behindInMarks .NotIn b = false := by rfl) : PDT X (.Compare a [.NotIn] [b] pos) (dTest (dOp (fInT true) da db)) := t_cmpG (op_notInT hu) opd_inT ha hb hm
end
end DL
set_option Elab.async false
set_option linter.all false
set_option maxRecDepth 100000
set_option maxHeartbeats 4000000
/-! DL: xs.count(x) of data; a slice of a list that is a cell. -/
namespace DL
open PySem PySem.Spec PyProof.Rows L2
def rCntD (K : Fg) : V → List V → Hp → VK → Prop := fun x xs H Q => ∃ (p : Addr) (y : V) (ds : List PyData) (d : PyData), x = .ref p ∧ xs = [y] ∧ Dp K H (.ref p) (.list ds) ∧ Dp K H y d ∧ PyData.plainAll ds = true ∧ d.plain = true ∧ d.depth ≤ 60 ∧ Q (.int ((ds.countP fun z => PyData.eqv z d : Nat) : Int)) H
section
variable {X : Cx} {K : Fg}
theorem mt_cntD (hu : X.A.units + 64 < cLine) : MtR X "list.count" (rCntD X.K) := by
  intro pins s σ H x xs v us Q I rx rxs h
  obtain ⟨p, y, ds, d, rfl, rfl, hl, hy, h1, h2, h3, q⟩ := h
  cases rx
  cases rxs with
  | cons ry rt =>
    rename_i uy ut
    cases rt
    obtain ⟨bs, r1⟩ := Dp.reads I d y uy hy ry
    cases hl with
    | lst hs ha =>
      obtain ⟨its, rv, ⟨⟨cls, dd, data, sls⟩, n, ho, hc, hdn, hdt⟩, hlen⟩ := I.list hs
      simp only at hc hdt
      subst hc hdt
      obtain ⟨as, h4⟩ := Dp.readsAll I ds _ its ha rv
      refine SeqAt.count_list_data (vs := its.toArray) ⟨_, ho, rfl, _, rfl⟩ h4 r1 h1 h2 (by omega) ?_
      exact ⟨.int _, H, I.tok _, ⟨_, rfl⟩, q⟩
def dCnt (da de : DE) : DE := fun fr S C => da fr S fun a S1 => match a with
  | .dat (.list ds) => de fr S1 fun b S2 => match b with
    | .dat d => PyData.plainAll ds = true ∧ d.plain = true ∧ d.depth ≤ 60 ∧ C (.dat (.int ((ds.countP fun z => PyData.eqv z d : Nat) : Int))) S2
    | _ => False
  | _ => False
theorem lift_count {to te : TE} {da de : DE} (la : Lift K to da) (le : Lift K te de) : Lift K (tBM K "list" (rCntD K) to (tCons te tNil)) (dCnt da de) := by
  intro F H σ fr S L fo o C Q hd q
  refine la F H σ fr S L fo o _ _ hd fun x a S1 H1 o1 h1 => ?_
  split at h1
  · rename_i ds
    have hx := o1.dat List.mem_cons_self
    cases hx with | lst e1 n1 q1 =>
    refine ⟨.inl ⟨rfl, _, SqL.of e1⟩, ?_⟩
    refine le F H1 σ fr S1 _ (fo.mono tl_mem) o1 _ _ h1 fun v r S2 H2 o2 h2 => ?_
    split at h2
    · obtain ⟨z1, z2, z3, h⟩ := h2
      have hl := o2.dat (List.mem_cons_of_mem _ List.mem_cons_self)
      have hv := o2.dat List.mem_cons_self
      exact ⟨_, v, ds, _, rfl, rfl, hl.dp, hv.dp, z1, z2, z3, q _ _ S2 H2 ((o2.sub fun e he => List.mem_cons_of_mem _ (List.mem_cons_of_mem _ he)).pd (.int _)) h⟩
    · exact h2.elim
  · exact h1.elim
/-! a slice of a cell -/
def fSlC (lo hi : Option Int) : F1 := fun a S C => match a with
  | .val (.ref p) => ∃ (j : Nat) (xs : List R) (ds : List PyData), S[j]? = some (.lst p xs) ∧ dats xs = some ds ∧ C (.dat (.list (cutD ds lo hi))) S
  | _ => False
theorem sld_cel : SlD K (rSlAll K) fSlC := by
  intro F x lo hi a H S L C Q o hx hf q
  replace hx := o.live _ hx
  unfold fSlC at hf
  split at hf
  · rename_i p
    cases (show x = V.ref p from hx)
    obtain ⟨j, xs, ds, hj, hd, h⟩ := hf
    obtain ⟨vs, e1, q1⟩ := o.cells _ (at_split (in_app hj))
    exact .inl ⟨_, _, rfl, SqL.of e1, fun p hp => q _ _ S _ (o.lst hp (cut_all (reps_all q1 hd) lo hi)) h⟩
  · exact hf.elim
end
section
variable {X : Cx} {a e : Expr} {da de : DE} {dl dh : DO} {pos apos : Pos}
theorem d_sliceC {lo hi : Option Expr} {p2 : Pos} (ha : PD X a da) (hl : PDO X lo dl) (hh : PDO X hi dh) : PD X (.Subscript a (.Slice lo hi none p2) pos) (dSl fSlC da dl dh) := by
  obtain ⟨_, p, l⟩ := ha.ex
  obtain ⟨_, p2, l2⟩ := hl.ex
  obtain ⟨_, p3, l3⟩ := hh.ex
  exact ⟨_, pe_slice sl_all p p2 p3, lift_sl sld_cel l l2 l3⟩
theorem d_cnt (hu : X.A.units + 64 < cLine) (ha : PD X a da) (he : PD X e de) (hbase : attributeBase a "count" X.env (eval a X.env) = eval a X.env := by rfl)
    (hfew : ((backTo pos (starEach [e] X.env)).all (fun x => !x.1) && (backToKw pos (keywordEach [] X.env)).all (fun x => x.1.isSome)
      && decide (([e] : List Expr).length + ([] : List Keyword).length + (if ([] : List Keyword).isEmpty then 0 else 1) < 30)) = true := by rfl)
    (hline : (apos.endLine == pos.line) = true := by rfl) (hs : starEach [e] X.env = [(false, eval e X.env)] := by rfl) : PD X (.Call (.Attribute a "count" apos) [e] [] pos) (dCnt da de) := by
  obtain ⟨_, p, l⟩ := ha.ex
  obtain ⟨_, p2, l2⟩ := he.ex
  exact ⟨_, pe_bm PySem.F.plainAttrs_list PySem.F.slot_list_count PySem.F.type_list_count (mt_cntD hu) p (pa_cons p2 pa_nil hs) hbase hfew hline hs rfl, lift_count l l2⟩
end
/-! weakenings of a frame -/
theorem wkf_perm {fr : Fr} {S S' : SH} (hp : S.Perm S') : WkF fr S fr S' := fun K F H σ L f o => ⟨L, f, o.perm (hp.append_right F), fun _ h => h⟩
theorem list_set_same {α : Type} {l : List α} {i : Nat} {x : α} (h : l[i]? = some x) : l.set i x = l := by
  apply List.ext_getElem?
  intro j
  rw [List.getElem?_set]
  split
  · rename_i e
    subst e
    obtain ⟨hl, _⟩ := List.getElem?_eq_some_iff.mp h
    rw [if_pos hl, h]
  · rfl
theorem wkf_frz {fr : Fr} {i : Nat} {p : Addr} {ds : List PyData} {S S1 : SH} (hi : fr[i]? = some (some (.val (.ref p)))) (hp : S.Perm (.lst p (ds.map R.dat) :: S1)) : WkF fr S (fr.set i (some (.dat (.list ds)))) S1 := fun K F H σ L f o => by
  have o1 : Ok K H (.lst p (ds.map R.dat) :: (S1 ++ F)) L := o.perm (hp.append_right F)
  obtain ⟨v, hv, hm⟩ := f.at_ i _ hi
  have ev : v = .ref p := o.val hm
  subst ev
  have o2 := Ok.frz (i := 0) o1 rfl (dats_map ds)
  refine ⟨(.ref p, .dat (.list ds)) :: L, ?_, o2, tl_mem⟩
  have q := (f.mono (L' := (V.ref p, R.dat (.list ds)) :: L) tl_mem).set (v := .ref p) (r := .dat (.list ds)) List.mem_cons_self i
  rw [list_set_same hv] at q
  exact q
end DL
set_option Elab.async false
set_option linter.all false
set_option maxRecDepth 100000
set_option maxHeartbeats 4000000
/-! DXh: an except suite, told by what is held; xs.index(y); a lambda handed to a def that tells what is refused. -/
namespace DL
open PySem PySem.Spec PyProof.Rows L2
section
variable {K : Fg}
/-! isinstance(e, c), e.f -/
def fIsH (K : Fg) (a D : Addr) (d : Option Addr) : FA := fun rs S C => match rs with
  | [.exc a' D' d' _, .val (.ref c)] => a' = a ∧ D' = D ∧ d' = d ∧ ∃ b, PySem.W.kitOne K (.ref D) (.ref c) = some b ∧ C (.dat (.bool b)) S
  | [.exc a' D' d' _, .val (.ty T)] => a' = a ∧ D' = D ∧ d' = d ∧ ∃ b, PySem.W.kitOne K (.ref D) (.type T) = some b ∧ C (.dat (.bool b)) S
  | _ => False
theorem cd_isH {a D : Addr} {d : Option Addr} : CallD K (rIsH K D a d) (fIsH K a D d) := by
  intro F vs rs H S L C Q o lv hf q
  unfold fIsH at hf
  split at hf
  · cases lv with | cons m1 t => cases t with | cons m2 t2 =>
    cases t2
    obtain ⟨rfl, rfl, rfl, b, e, h⟩ := hf
    obtain ⟨ev, xr⟩ := o.live _ m1
    have e2 := o.val m2
    dsimp only at ev
    subst ev e2
    exact ⟨_, _, b, _, rfl, fun u r => r, e, xr, q _ _ S H (o.pd (.bl _)) h⟩
  · cases lv with | cons m1 t => cases t with | cons m2 t2 =>
    cases t2
    obtain ⟨rfl, rfl, rfl, b, e, h⟩ := hf
    obtain ⟨ev, xr⟩ := o.live _ m1
    have e2 := o.val m2
    dsimp only at ev
    subst ev e2
    exact ⟨_, _, b, _, rfl, fun u r => r, e, xr, q _ _ S H (o.pd (.bl _)) h⟩
  · exact hf.elim
def dXf (a C : Addr) (d : Option Addr) (n : Str) (de : DE) : DE := fun fr S Q => de fr S fun r S1 => match r with
  | .exc a' C' d' fs => a' = a ∧ C' = C ∧ d' = d ∧ ((∃ i, fs.lookup n = some (.int i) ∧ Q (.dat (.int i)) S1) ∨ ∃ x, fs.lookup n = some (.str x) ∧ Q (.dat (.str x)) S1)
  | _ => False
theorem lift_xf {a C : Addr} {d : Option Addr} {n : Str} {te : TE} {de : DE} (l : Lift K te de) : Lift K (tXf a (.ref C) d C n te) (dXf a C d n de) := by
  intro F H σ fr S L fo o Q0 Q hd q
  refine l F H σ fr S L fo o _ _ hd fun x r S1 H1 o1 h1 => ?_
  split at h1
  · obtain ⟨rfl, rfl, rfl, h1⟩ := h1
    obtain ⟨ev, xr⟩ := o1.live _ List.mem_cons_self
    dsimp only at ev
    subst ev
    have o2 := o1.sub tl_mem
    rcases xr with ⟨_, e2⟩ | ⟨dx, e1, e2⟩
    · subst e2
      rcases h1 with ⟨i, e, _⟩ | ⟨i, e, _⟩ <;> cases e
    · rcases h1 with ⟨i, e, h1⟩ | ⟨i, e, h1⟩
      · exact ⟨rfl, rfl, dx, _, _, e1, e2, e, q _ _ S1 H1 (o2.pd (.int _)) h1⟩
      · exact ⟨rfl, rfl, dx, _, _, e1, e2, e, q _ _ S1 H1 (o2.pd (.str _)) h1⟩
  · exact h1.elim
/-! xs.index(y) -/
def dIdx (da de : DE) : DE := fun fr S C => da fr S fun a S1 => match a with
  | .dat (.list ds) => de fr S1 fun b S2 => match b with
    | .dat d => flatD d = true ∧ ds.all flatD = true ∧ ∃ (j : Nat) (z : PyData), ds[j]? = some z ∧ PyData.eqv z d = true ∧ (∀ (m : Nat) (z' : PyData), m < j → ds[m]? = some z' → PyData.eqv z' d = false) ∧ C (.dat (.int (j : Nat))) S2
    | _ => False
  | _ => False
theorem lift_idx {to te : TE} {da de : DE} (la : Lift K to da) (le : Lift K te de) : Lift K (tBM K "list" (rIndex K) to (tCons te tNil)) (dIdx da de) := by
  intro F H σ fr S L fo o C Q hd q
  refine la F H σ fr S L fo o _ _ hd fun x a S1 H1 o1 h1 => ?_
  split at h1
  · rename_i ds
    have hx := o1.dat List.mem_cons_self
    cases hx with | lst e1 n1 q1 =>
    refine ⟨.inl ⟨rfl, _, SqL.of e1⟩, ?_⟩
    refine le F H1 σ fr S1 _ (fo.mono tl_mem) o1 _ _ h1 fun v r S2 H2 o2 h2 => ?_
    split at h2
    · obtain ⟨f1, f2, j, z, ez, e3, e4, h⟩ := h2
      have hl := o2.dat (List.mem_cons_of_mem _ List.mem_cons_self)
      have hv := o2.dat List.mem_cons_self
      cases hl with | lst g1 n2 q2 =>
      obtain ⟨u, eu, ru⟩ := q2.get' ez
      have fz : ∀ {m : Nat} {z' : PyData}, ds[m]? = some z' → flatD z' = true := fun e => (List.all_eq_true.mp f2) _ (List.mem_of_getElem? e)
      refine ⟨_, _, v, j, u, rfl, rfl, SqL.of g1, flat_of hv f1, flats_of q2 f2, eu, by rw [eqV_of ru hv (fz ez) f1]; exact e3, fun m z' hm e => ?_, q _ _ S2 H2 ((o2.sub fun e he => List.mem_cons_of_mem _ (List.mem_cons_of_mem _ he)).pd (.int _)) h⟩
      obtain ⟨d', ed, rd⟩ := q2.get e
      rw [eqV_of rd hv (fz ed) f1]
      exact e4 m d' hm ed
    · exact h2.elim
  · exact h1.elim
end
section
variable {X : Cx} {a e : Expr} {da de : DE} {dA : DA} {pos apos p : Pos}
theorem d_idx (ha : PD X a da) (he : PD X e de) (hbase : attributeBase a "index" X.env (eval a X.env) = eval a X.env := by rfl)
    (hfew : ((backTo pos (starEach [e] X.env)).all (fun x => !x.1) && (backToKw pos (keywordEach [] X.env)).all (fun x => x.1.isSome)
      && decide (([e] : List Expr).length + ([] : List Keyword).length + (if ([] : List Keyword).isEmpty then 0 else 1) < 30)) = true := by rfl)
    (hline : (apos.endLine == pos.line) = true := by rfl) (hs : starEach [e] X.env = [(false, eval e X.env)] := by rfl) : PD X (.Call (.Attribute a "index" apos) [e] [] pos) (dIdx da de) := by
  obtain ⟨_, p, l⟩ := ha.ex
  obtain ⟨_, p2, l2⟩ := he.ex
  exact ⟨_, pe_bm PySem.F.plainAttrs_list PySem.F.slot_list_index PySem.F.type_list_index mt_index p (pa_cons p2 pa_nil hs) hbase hfew hline hs rfl, lift_idx l l2⟩
variable {a0 D : Addr} {d : Option Addr} {oe : Obj} {pn : List (Addr × Obj)} {e1 e2 : Expr} {n : Str}
theorem d_isH (T : ExcC X.K D) (hz : Zc (.ref D) d oe) (hf : ∃ vs, oe.data = .fields vs) (hg : Gl X "isinstance") (hm : X.mg "isinstance" = none) (ha : PDA (X.suite a0 ((a0, oe) :: pn)) [e1, e2] dA)
    (he : starEach [e1, e2] X.env = (false, eval e1 X.env) :: starEach [e2] X.env := by rfl) (hpl : (backTo pos (starEach [e2] X.env)).any (·.1) = false := by rfl) :
    PD (X.suite a0 ((a0, oe) :: pn)) (.Call (.Name "isinstance" p) [e1, e2] [] pos) (dCB (fIsH X.K a0 D d) dA) := d_callB (call_isH T hz hf) cd_isH hg hm (by decide +kernel) ha (by decide) (by decide) he hpl
theorem d_xf (T : XfC X.K D) (hno : PySem.W.findIn X.K (.ref D) n = some none) (hz : Zc (.ref D) d oe) (hf : ∃ vs, oe.data = .fields vs) (he : PD (X.suite a0 ((a0, oe) :: pn)) e de) (hb : attributeBase e n X.env (eval e X.env) = eval e X.env := by rfl) :
    PD (X.suite a0 ((a0, oe) :: pn)) (.Attribute e n pos) (dXf a0 D d n de) := by
  obtain ⟨_, p, l⟩ := he.ex
  exact ⟨_, pe_xf T hno hz hf p hb, lift_xf l⟩
theorem d_isHK {K' : Fg} (T : ExcC K' D) (hz : Zc (.ref D) d oe) (hf : ∃ vs, oe.data = .fields vs) (hg : Gl X "isinstance") (hm : X.mg "isinstance" = none) (ha : PDA (X.suite a0 ((a0, oe) :: pn)) [e1, e2] dA) (hK : X.K = K' := by rfl)
    (he : starEach [e1, e2] X.env = (false, eval e1 X.env) :: starEach [e2] X.env := by rfl) (hpl : (backTo pos (starEach [e2] X.env)).any (·.1) = false := by rfl) :
    PD (X.suite a0 ((a0, oe) :: pn)) (.Call (.Name "isinstance" p) [e1, e2] [] pos) (dCB (fIsH K' a0 D d) dA) := by
  subst hK
  exact d_isH T hz hf hg hm ha he hpl
theorem d_xfK {K' : Fg} (T : XfC K' D) (hno : PySem.W.findIn K' (.ref D) n = some none) (hz : Zc (.ref D) d oe) (hf : ∃ vs, oe.data = .fields vs) (he : PD (X.suite a0 ((a0, oe) :: pn)) e de) (hK : X.K = K' := by rfl) (hb : attributeBase e n X.env (eval e X.env) = eval e X.env := by rfl) :
    PD (X.suite a0 ((a0, oe) :: pn)) (.Attribute e n pos) (dXf a0 D d n de) := by
  subst hK
  exact d_xf T hno hz hf he hb
end
end DL
set_option Elab.async false
set_option linter.all false
set_option maxRecDepth 100000
set_option maxHeartbeats 4000000
/-! DXl: a def that calls what it is handed and tells what was refused; a lambda handed to it. -/
namespace DL
open PySem PySem.Spec PyProof.Rows L2
/-- the widest reading of statements by cells -/
def toTS (K : Fg) (ds : DS) : TS := fun D σ H => ∃ (F : SH) (fr : Fr) (S : SH) (L : Live) (D' : DEnds), FrOk σ fr L ∧ OkF K F H S L ∧ EndsOk K F L D D' ∧ ds D' fr S
theorem pss_to {X : Cx} {sts : List Stmt} {ds : DS} (h : PDSs X sts ds) : PSs X sts (toTS X.K ds) := by
  obtain ⟨ts, p, l⟩ := h.ex
  exact ⟨fun pins s σ H D I ⟨F, fr, S, L, D', f, o, e, q⟩ => p.run pins s σ H D I (l F H σ fr S L f o D D' e q)⟩
def toTX (K : Fg) (de : DEX) (E : XK) : TE := fun σ H Q => ∃ (F : SH) (fr : Fr) (S : SH) (L : Live) (C : CR0) (Y : DY), FrOk σ fr L ∧ OkF K F H S L ∧ de fr S C Y ∧ (∀ v r S' H', OkF K F H' S' ((v, r) :: L) → C r S' → Q v H') ∧
  ∀ Cc fs d S' H' L', OkF K F H' S' L' → (∀ e ∈ L, e ∈ L') → XRep H' d fs → Y Cc fs S' → E (.ref Cc) d H'
theorem pe_toX {X : Cx} {e : Expr} {de : DEX} {E : XK} (h : PDE X e de) (tk : Takes X fun cls d _ H => E cls d H) : PE X e (toTX X.K de E) := by
  obtain ⟨te, p, l⟩ := h.ex
  exact ⟨fun pins s σ H Q I ⟨F, fr, S, L, C, Y, f, o, q, qv, qx⟩ => p.run pins s σ H Q I (l F H σ fr S L f o C Y Q q qv fun Cc fs d σ' S' H' L' o' s' x y => can_of tk (qx Cc fs d S' H' L' o' s' x y))⟩
/-- the suite: by a class that is known -/
def tSuite (K : Fg) (n : Nat) (Kn : Addr → Prop) (ds : Addr → Addr → Option Addr → DS) : Addr → Value → Option Addr → TS := fun a cls d D σ H => ∃ C, cls = .ref C ∧ Kn C ∧ (σ.length = n → toTS K (ds a C d) D σ H)
theorem pss_suite {X : Cx} {st : List Stmt} {Kn : Addr → Prop} {ds : Addr → Addr → Option Addr → DS} {a : Addr} {oe : Obj} {cls : Value} {d : Option Addr} {pn : List (Addr × Obj)}
    (h : ∀ C, cls = .ref C → Kn C → PDSs (X.suite a ((a, oe) :: pn)) st (ds a C d)) : PSs (X.suite a ((a, oe) :: pn)) st (tSuite X.K X.N.length Kn ds a cls d) :=
  ⟨fun pins s σ H D I ⟨C, ec, kn, q⟩ => (pss_to (h C ec kn)).run pins s σ H D I (q I.len)⟩
/-- what the def makes of what it is handed -/
def TTx (K : Fg) (CW : Addr) (Kn : Addr → Prop) (sp : Addr → List (Str × V) → SH → CR0 → Prop) : (XK → Hp → VK → Prop) → Hp → VK → Prop := fun tl H Q =>
  tl (fun cls d H' => ∃ (C : Addr) (fs : List (Str × V)) (F S : SH) (L : Live) (Cc : CR0), cls = .ref C ∧ PySem.W.exmOne K (.ref C) (.ref CW) = some true ∧ Kn C ∧ OkF K F H' S L ∧ XRep H' d fs ∧ sp C fs S Cc ∧ ∀ v r S' H'', OkF K F H'' S' ((v, r) :: L) → Cc r S' → Q v H'') H Q
def fr0 (n : Nat) (r : R) : Fr := (List.replicate n none).set 1 (some r)
theorem told_gives {X : Cx} {Ng : List Str} {x a xw en q : Str} {sg : Scope} {g CW : Addr} {cdg : Value} {Kn : Addr → Prop} {sp : Addr → List (Str × V) → SH → CR0 → Prop} {ds : Addr → Addr → Option Addr → DS} {b₀ : Stmt} {suite : List Stmt} {p1 p2 p3 p4 p5 p6 : Pos}
    (hw : sg.names.lookup xw = some .globalImplicit) (hmw : X.mg xw = some (.ref CW)) (hdw : (xw == ("__debug__" : Str)) = false) (hN : Ng.Nodup) (hi : Ng[1]? = some en) (hln : sg.names.lookup en = some .local) (h0 : ∀ f : Addr, (L2.start Ng [V.ref f])[0]? = some (some (V.ref f)))
    (hsu : ∀ (s : Shared) (H : Hp) (a : Addr) (oe : Obj) (C : Addr) (d : Option Addr) (pn : List (Addr × Obj)), Zc (.ref C) d oe → (∃ vs, oe.data = .fields vs) → Kn C → PDSs ((cxOf C8.CX0 X.prog X.w X.K X.mg X.base Ng x sg g cdg X.A X.stack s H C8.E0).nox.suite a ((a, oe) :: pn)) (b₀ :: suite) (ds a C d))
    (hsp : ∀ a C d fs S Cc, Kn C → sp C fs S Cc → ds a C d { nx := fun _ _ => False, rt := Cc } (fr0 Ng.length (.exc a C d fs)) S) :
    LamX.GivesTo X Ng x sg g cdg [.Try [.Return (some (.Call (.Name a p1) [] [] p2)) p3] [.ExceptHandler (some (.Name xw p4)) (some en) (b₀ :: suite) p5] [] [] p6] a q (TTx X.K CW Kn sp) := by
  intro f c' s H Q tl act hc h
  have hgl : Gl (cxOf C8.CX0 X.prog X.w X.K X.mg X.base Ng x sg g cdg X.A X.stack s H C8.E0).nox xw := hw
  refine ⟨_, pss_one (ps_try_as (X := (cxOf C8.CX0 X.prog X.w X.K X.mg X.base Ng x sg g cdg X.A X.stack s H C8.E0).nox) (c := .ref CW) (i := 1) (ts := fun a' cls d => tSuite X.K Ng.length Kn ds a' cls d)
      (tb := fun W D σ H => ∃ Ech : XK, (∀ cls d σ' H', Ech cls d H' → W cls d σ' H') ∧ σ[0]? = some (some (.ref f)) ∧ H c' = some (LamX.CodeO c' q) ∧ tl Ech H D.rt)
      rfl rfl hN hi hln ⟨hgl, hdw, .inl hmw⟩ L2.takes0 (fun W pn xe tk _ => ?_) (fun a' oe cls d pn hz hf => pss_suite (Kn := Kn) (ds := ds) (cls := cls) (d := d) fun C ec kn => ?_)), ?_⟩
  · refine ⟨fun pins s' σ H' D I h' => ?_⟩
    obtain ⟨Ech, hW, h1, h2, h3⟩ := h'
    exact (pss_one (ps_ret (pos := p3) (act W pn xe Ech p1 p2 tk hW))).run pins s' σ H' D I ⟨h1, h2, h3⟩
  · subst ec
    exact hsu _ _ a' oe C d pn hz hf kn
  · refine ⟨_, fun cls d σ' H' z => ?_, h0 f, hc, h⟩
    obtain ⟨C, fs, F, S, L, Cc, ec, ex, kn, o, xr, hs, qv⟩ := z
    subst ec
    refine ⟨true, ex, fun _ a' na => ⟨C, rfl, kn, fun hl => ?_⟩, fun e => nomatch e⟩
    have hlen : σ'.length = Ng.length := by rw [List.length_set] at hl; exact hl
    have h1 : 1 < Ng.length := (List.getElem?_eq_some_iff.mp hi).1
    refine ⟨F, fr0 Ng.length (.exc a' C d fs), S, (.ref a', .exc a' C d fs) :: L, { nx := fun _ _ => False, rt := Cc }, ⟨?_, fun i r e => ?_⟩, o.push ⟨rfl, xr⟩, ⟨fun _ _ _ _ _ _ _ _ z => z.elim, fun v r S' H'' o' h' => ?_, fun _ _ _ _ _ _ _ _ z => z.elim, fun _ _ _ _ _ _ _ _ z => z.elim⟩, hsp a' C d fs S Cc kn hs⟩
    · unfold fr0
      rw [List.length_set, List.length_set, List.length_replicate, hlen]
    · unfold fr0 at e
      rw [List.getElem?_set] at e
      split at e
      · rename_i hi1
        subst hi1
        split at e
        · cases e
          exact ⟨.ref a', by rw [List.getElem?_set_self (by rw [hlen]; exact h1)], List.mem_cons_self⟩
        · cases e
      · rw [List.getElem?_replicate] at e
        split at e <;> cases e
    · exact qv v r S' H'' (o'.sub (sub_cons tl_mem)) h'
/-! ### a lambda handed to such a def -/
def tabOf : Cell → Option (Addr × Str)
  | .tbl p q => some (p, q)
  | _ => none
def tabsOf (S : SH) : List (Addr × Str) := S.filterMap tabOf
theorem tabs_mem {S : SH} {p : Addr} {q : Str} (h : Cell.tbl p q ∈ S) : (p, q) ∈ tabsOf S := List.mem_filterMap.mpr ⟨_, h, rfl⟩
theorem of_tabs {S : SH} {z : Addr × Str} (h : z ∈ tabsOf S) : Cell.tbl z.1 z.2 ∈ S := by
  obtain ⟨c, hc, e⟩ := List.mem_filterMap.mp h
  cases c <;> first | (cases e; exact hc) | cases e
theorem stp_ext {A : Addr → Prop} {H H1 : Hp} (e : LamX.ExtN H H1) : Stp A A H H1 :=
  ⟨fun a xs h n => ⟨e _ _ h (fun _ z => nomatch z), n⟩, fun a xs h => e _ _ h (fun _ z => nomatch z), fun a ob xs h => e _ _ h (fun _ z => nomatch z), fun a C dx ws h n => ⟨e _ _ h (fun _ z => nomatch z), n⟩, fun a ws h n => ⟨e _ _ h (fun _ z => nomatch z), n⟩, fun a fs h => e _ _ h (fun _ z => nomatch z), fun a fs h => e _ _ h (fun _ z => nomatch z)⟩
theorem Ok.tabs {K : Fg} {H H1 : Hp} {S : SH} {L : Live} (o : Ok K H S L) (e : LamX.ExtN H H1) (t : LamX.Tabs (tabsOf S) H1) : Ok K H1 S L := by
  have st : Stp (Av S) (Av S) H H1 := stp_ext e
  refine ⟨o.nd, fun c hc => ?_, fun x hx => (o.live x hx).stp st⟩
  have h := o.cells c hc
  cases c with
  | lst p xs =>
    obtain ⟨vs, e1, _⟩ := id h
    exact h.stp st (by show H1 p = H p; rw [e1]; exact e _ _ e1 (fun _ z => nomatch z))
  | dct p xs =>
    obtain ⟨vs, e1, _⟩ := id h
    exact h.stp st (by show H1 p = H p; rw [e1]; exact e _ _ e1 (fun _ z => nomatch z))
  | ins p C ks xs =>
    obtain ⟨dx, vs, e1, _⟩ := id h
    exact h.stp st (by show H1 p = H p; rw [e1]; exact e _ _ e1 (fun _ z => nomatch z))
  | pk p P =>
    obtain ⟨vs, xs, e1, _⟩ := id h
    exact h.stp st (by show H1 p = H p; rw [e1]; exact e _ _ e1 (fun _ z => nomatch z))
  | tbl p q => exact t _ (tabs_mem hc)
def dLam (K : Fg) (P : Addr) (q : Str) (CW : Addr) (Kn : Addr → Prop) (sp : Addr → List (Str × V) → SH → CR0 → Prop) (de : DEX) : DE := fun fr S C => (∃ j : Nat, S[j]? = some (.tbl P q)) ∧
  de fr S C fun Cc fs S' => PySem.W.exmOne K (.ref Cc) (.ref CW) = some true ∧ Kn Cc ∧ sp Cc fs S' C
theorem d_lam {X : Cx} {x a : Str} {st : Stmt} {Ng : List Str} {c P CW : Addr} {k : Nat} {Kn : Addr → Prop} {sp : Addr → List (Str × V) → SH → CR0 → Prop} {params : Arguments} {body : Expr} {scope : Scope} {de : DEX} {p lpos pos : Pos}
    (Fn : FunAt X.K X.mg x st [a]) (Sg : FnScope Ng [a] (defScope st)) (hNg : Ng[0]? = some a) (hva : Vis (defScope st) a) (hG : ∀ g cdv, LamX.GivesTo X Ng x (defScope st) g cdv (defBody st) a (X.env.qual ++ "<lambda>") (TTx X.K CW Kn sp))
    (TB : LamX.TabB X.base X.mg c P) (hcode : X.env.code = .ref c) (hr : Room (k + 2) X.A) (Ls : LamX.LamS X.env.scope scope) (hg : Gl X x)
    (hbody : ∀ (A : Around) (outer : List Env) (s : Shared) (H : Hp) (E : XK) (f c' : Addr), Room k (A.deeper (LamX.lamEnv X scope s.heap.objs.size f c')) → PDE (LamX.lamCx X A outer s H E scope f c') body de)
    (hdef : defaultsOf params X.env = ([], []) := by rfl)
    (hbind : ∀ (q : Str) (cl : List (Str × Addr)) (pm cv ctv : Value), bindArgs (PySem.W.kla_fn "<lambda>" q params body scope cl pm cv ctv) ⟨[], []⟩ = pure [] := by intro _ _ _ _ _; rfl)
    (hdb : (x == ("__debug__" : Str)) = false := by decide) (hd : (a == ("__debug__" : Str)) = false := by decide) (hcd : (a == ("__classdict__" : Str)) = false := by decide) :
    PD X (.Call (.Name x p) [.Lambda params body scope lpos] [] pos) (dLam X.K P (X.env.qual ++ "<lambda>") CW Kn sp de) := by
  obtain ⟨g, fd, Fu, hm, hb⟩ := Fn.ex
  obtain ⟨oc, od, kV, doc, pm, an, cdv, ct, osl, rfl, lk, hcd2⟩ := Fu.ex
  refine ⟨fun σ H Q => ∃ T : List (Addr × Str), (P, X.env.qual ++ "<lambda>") ∈ T ∧ (∀ z ∈ T, z.1 = P → z.2 = X.env.qual ++ "<lambda>") ∧ LamX.tLam T (TTx X.K CW Kn sp) (fun E => toTX X.K de E) σ H Q,
    ⟨fun pins s σ H Q I ⟨T, h1, h2, h3⟩ => (LamX.pe_lamcall (T := T) hg hm Fu.kp lk hcd2 hb Sg hNg hva (hG g cdv) TB hcode h1 h2 hr Ls hdef hbind (fun A outer s H E f c' hr2 => pe_toX (hbody A outer s H E f c' hr2) (takes_of (E := E) rfl rfl rfl rfl)) hdb hd hcd).run pins s σ H Q I h3⟩, ?_⟩
  intro F H σ fr S L fo o C Q hd2 q
  obtain ⟨⟨j, hj⟩, h⟩ := hd2
  have hm0 : Cell.tbl P (X.env.qual ++ "<lambda>") ∈ S ++ F := at_split (in_app hj)
  refine ⟨tabsOf (S ++ F), tabs_mem hm0, fun z hz e => ?_, fun z hz => ?_, fun H1 eN t1 => ?_⟩
  · have h1 := of_tabs hz
    obtain ⟨i1, g1⟩ := List.getElem?_of_mem h1
    obtain ⟨i2, g2⟩ := List.getElem?_of_mem hm0
    have e1 : ((S ++ F).map Cell.pt)[i1]? = some P := by rw [List.getElem?_map, g1]; exact congrArg some e
    have e2 : ((S ++ F).map Cell.pt)[i2]? = some P := by rw [List.getElem?_map, g2]; rfl
    have e3 := nd_ix o.nd e1 e2
    subst e3
    rw [g1] at g2
    have g3 := Option.some.inj g2
    injection g3
  · exact o.cells _ (of_tabs hz)
  · refine ⟨F, fr, S, L, C, _, fo, Ok.tabs o eN t1, h, q, fun Cc fs d S' H' L' o' s' x' y => ?_⟩
    obtain ⟨y1, y2, y3⟩ := y
    exact ⟨Cc, fs, F, S', L', C, rfl, y1, y2, o', x', y3, fun v r S2 H2 o2 h2 => q v r S2 H2 (o2.sub (sub_cons s')) h2⟩
end DL
set_option Elab.async false
set_option linter.all false
set_option maxRecDepth 100000
set_option maxHeartbeats 4000000
namespace K16
open PySem PySem.Spec PyProof.Rows L2 DL PM
section
variable {P : Program} {w : World} {K : Fg} {mg : Str → Option Value} {base : Heap}
/-! _law_told_by -/
abbrev excWords : List Str := ["program", "handed", "way", "often", "log", "weights", "falls", "price", "marks", "text"]
/-- the ten classes of refusals -/
structure Kn10 (K : Fg) (mg : Str → Option Value) (cs : Nat → Addr) (CW : Addr) : Prop where
  n0 : mg "BadProgram" = some (.ref (cs 0))
  n1 : mg "BadHanded" = some (.ref (cs 1))
  n2 : mg "BadWay" = some (.ref (cs 2))
  n3 : mg "BadOften" = some (.ref (cs 3))
  n4 : mg "BadLog" = some (.ref (cs 4))
  n5 : mg "BadWeights" = some (.ref (cs 5))
  n6 : mg "BadFalls" = some (.ref (cs 6))
  n7 : mg "BadPrice" = some (.ref (cs 7))
  n8 : mg "BadMarks" = some (.ref (cs 8))
  n9 : mg "BadText" = some (.ref (cs 9))
  nw : mg "WorkError" = some (.ref CW)
  nv : mg "ValueError" = none
  kit : ∀ i j, i < 10 → j < 10 → PySem.W.kitOne K (.ref (cs i)) (.ref (cs j)) = some (decide (i = j))
  ve : ∀ i, i < 10 → PySem.W.kitOne K (.ref (cs i)) (.type "ValueError") = some true
  exm : ∀ i, i < 10 → PySem.W.exmOne K (.ref (cs i)) (.ref CW) = some true
  ec : ∀ i, i < 10 → ExcC K (cs i)
  xf : ∀ i, i < 10 → XfC K (cs i)
  nn : ∀ i, i < 10 → PySem.W.findIn K (.ref (cs i)) "number" = some none
  ny : ∀ i, i < 10 → PySem.W.findIn K (.ref (cs i)) "why" = some none
  nr : ∀ i, i < 10 → PySem.W.findIn K (.ref (cs i)) "row" = some none
def isC (cs : Nat → Addr) : Addr → Prop := fun C => ∃ i, i < 10 ∧ C = cs i
/-- what is told of a refusal -/
def toldOk (i : Nat) (fs : List (Str × V)) (d : PyData) : Prop :=
  (i = 0 ∧ ∃ n y, fs.lookup ("number" : Str) = some (V.int n) ∧ fs.lookup ("why" : Str) = some (V.str y) ∧ d = .tuple [.str "refused", .str "program", .int n, .str y]) ∨
  ((i = 4 ∨ i = 5 ∨ i = 6 ∨ i = 8) ∧ ∃ n, fs.lookup ("number" : Str) = some (V.int n) ∧ d = .tuple [.str "refused", .str (excWords.getD i ""), .int n]) ∨
  (i = 9 ∧ ∃ n, fs.lookup ("row" : Str) = some (V.int n) ∧ d = .tuple [.str "refused", .str "text", .int n]) ∨
  ((i = 1 ∨ i = 2 ∨ i = 3 ∨ i = 7) ∧ d = .tuple [.str "refused", .str (excWords.getD i "")])
def spTold (cs : Nat → Addr) : Addr → List (Str × V) → SH → CR0 → Prop := fun C fs S Cc => ∃ i d, i < 10 ∧ C = cs i ∧ toldOk i fs d ∧ Cc (.dat d) S
/-- none ahead is true -/
theorem first_off {i : Nat} {ds : List PyData} (hd : ds = (List.range 10).map fun j => PyData.bool (decide (i = j))) : ∀ (m : Nat) (z : PyData), m < i → ds[m]? = some z → PyData.eqv z (.bool true) = false := fun m z hm e => by
  subst hd
  rw [List.getElem?_map] at e
  cases h : (List.range 10)[m]? with
  | none => rw [h] at e; cases e
  | some j =>
    rw [h] at e
    cases e
    obtain ⟨hl, hj⟩ := List.getElem?_eq_some_iff.mp h
    rw [List.getElem_range] at hj
    subst hj
    have e2 : decide (i = m) = false := decide_eq_false (by omega)
    show (PyData.bool (decide (i = m))).eqv (.bool true) = false
    rw [e2]
    rfl
abbrev s__law_told_by : Stmt := topS 28
abbrev N__law_told_by : List Str := ["_law_work", "e", "_law_kinds", "_law_words", "_law_word"]
theorem sc__law_told_by : FnScope N__law_told_by ["_law_work"] (defScope s__law_told_by) := ⟨rfl, rfl, rfl, by decide +kernel, rfl, by decide +kernel, by decide +kernel⟩
theorem told_suite {X : Cx} {cs : Nat → Addr} {CW : Addr} (B : Blt X.mg) (kn : Kn10 X.K X.mg cs CW) (hr0 : Room 2 X.A) (g : Addr) (cdg : Value) :
    ∃ ds : Addr → Addr → Option Addr → DS, (∀ (s : Shared) (H : Hp) (a : Addr) (oe : Obj) (C : Addr) (d : Option Addr) (pn : List (Addr × Obj)), Zc (.ref C) d oe → (∃ vs, oe.data = .fields vs) → isC cs C →
      PDSs ((cxOf C8.CX0 X.prog X.w X.K X.mg X.base N__law_told_by "_law_told_by" (defScope s__law_told_by) g cdg X.A X.stack s H C8.E0).nox.suite a ((a, oe) :: pn)) (match defBody s__law_told_by with | [.Try _ [.ExceptHandler _ _ st _] _ _ _] => st | _ => []) (ds a C d)) ∧
      ∀ a C d fs S Cc, isC cs C → spTold cs C fs S Cc → ds a C d { nx := fun _ _ => False, rt := Cc } (fr0 N__law_told_by.length (.exc a C d fs)) S := by
  refine ⟨_, fun s H a oe C d pn hz hf hC =>
    have TC : ExcC X.K C := hC.elim fun i h => h.2 ▸ kn.ec i h.1
    have TX : XfC X.K C := hC.elim fun i h => h.2 ▸ kn.xf i h.1
    have NO_number : PySem.W.findIn X.K (.ref C) "number" = some none := hC.elim fun i h => h.2 ▸ kn.nn i h.1
    have NO_why : PySem.W.findIn X.K (.ref C) "why" = some none := hC.elim fun i h => h.2 ▸ kn.ny i h.1
    have NO_row : PySem.W.findIn X.K (.ref C) "row" = some none := hC.elim fun i h => h.2 ▸ kn.nr i h.1
    have hr : Room 1 (X.A.deeper (envOfC "_law_told_by" (defScope s__law_told_by) s.heap.objs.size g cdg)) := hr0.deeper _
    have hu1 : (X.A.deeper (envOfC "_law_told_by" (defScope s__law_told_by) s.heap.objs.size g cdg)).units + 1 < cLine := by have := hr.units; omega
    (ss_cons (s_set (i := 2) sc__law_told_by.nd (d_lst (a_cons (d_isHK (a0 := a) (oe := oe) (pn := pn) TC hz hf (by rfl) B.isinstance (a_cons (dv 1) (a_cons (d_globV (v := .ref (cs 0)) (by rfl) kn.n0 rfl) a_nil))) (a_cons (d_isHK (a0 := a) (oe := oe) (pn := pn) TC hz hf (by rfl) B.isinstance (a_cons (dv 1) (a_cons (d_globV (v := .ref (cs 1)) (by rfl) kn.n1 rfl) a_nil))) (a_cons (d_isHK (a0 := a) (oe := oe) (pn := pn) TC hz hf (by rfl) B.isinstance (a_cons (dv 1) (a_cons (d_globV (v := .ref (cs 2)) (by rfl) kn.n2 rfl) a_nil))) (a_cons (d_isHK (a0 := a) (oe := oe) (pn := pn) TC hz hf (by rfl) B.isinstance (a_cons (dv 1) (a_cons (d_globV (v := .ref (cs 3)) (by rfl) kn.n3 rfl) a_nil))) a_nil))))))
      (ss_cons (s_set (i := 2) sc__law_told_by.nd (d_add (dv 2) (d_lst (a_cons (d_isHK (a0 := a) (oe := oe) (pn := pn) TC hz hf (by rfl) B.isinstance (a_cons (dv 1) (a_cons (d_globV (v := .ref (cs 4)) (by rfl) kn.n4 rfl) a_nil))) (a_cons (d_isHK (a0 := a) (oe := oe) (pn := pn) TC hz hf (by rfl) B.isinstance (a_cons (dv 1) (a_cons (d_globV (v := .ref (cs 5)) (by rfl) kn.n5 rfl) a_nil))) (a_cons (d_isHK (a0 := a) (oe := oe) (pn := pn) TC hz hf (by rfl) B.isinstance (a_cons (dv 1) (a_cons (d_globV (v := .ref (cs 6)) (by rfl) kn.n6 rfl) a_nil))) a_nil))))))
      (ss_cons (s_set (i := 2) sc__law_told_by.nd (d_add (dv 2) (d_lst (a_cons (d_isHK (a0 := a) (oe := oe) (pn := pn) TC hz hf (by rfl) B.isinstance (a_cons (dv 1) (a_cons (d_globV (v := .ref (cs 7)) (by rfl) kn.n7 rfl) a_nil))) (a_cons (d_isHK (a0 := a) (oe := oe) (pn := pn) TC hz hf (by rfl) B.isinstance (a_cons (dv 1) (a_cons (d_globV (v := .ref (cs 8)) (by rfl) kn.n8 rfl) a_nil))) (a_cons (d_isHK (a0 := a) (oe := oe) (pn := pn) TC hz hf (by rfl) B.isinstance (a_cons (dv 1) (a_cons (d_globV (v := .ref (cs 9)) (by rfl) kn.n9 rfl) a_nil))) a_nil))))))
      (ss_cons (s_if (PDW.pt (w_or (t_ne hr.units (d_cnt hr.units (dv 2) d_bl) d_int) (w_or1 (t_not (t_val (d_isHK (a0 := a) (oe := oe) (pn := pn) TC hz hf (by rfl) B.isinstance (a_cons (dv 1) (a_cons (d_bltn (v := .ty "ValueError") (by rfl) kn.nv (by decide +kernel) rfl) a_nil))))))))
      (ss_one (s_ret (d_tup (a_cons d_str (a_cons d_str a_nil)))))
      ss_nil)
      (ss_cons (s_set (i := 3) sc__law_told_by.nd (d_lst (a_cons d_str (a_cons d_str (a_cons d_str (a_cons d_str (a_cons d_str (a_cons d_str (a_cons d_str (a_cons d_str (a_cons d_str (a_cons d_str a_nil))))))))))))
      (ss_cons (s_set (i := 4) sc__law_told_by.nd (d_ix hu1 (dv 3) (d_idx (dv 2) d_bl)))
      (ss_cons (s_if (t_eq hr.units (dv 4) d_str)
      (ss_one (s_ret (d_tup (a_cons d_str (a_cons (dv 4) (a_cons (d_xfK (a0 := a) (oe := oe) (pn := pn) TX NO_number hz hf (dv 1)) (a_cons (d_xfK (a0 := a) (oe := oe) (pn := pn) TX NO_why hz hf (dv 1)) a_nil)))))))
      ss_nil)
      (ss_cons (s_if (t_in (dv 4) (d_tup (a_cons d_str (a_cons d_str (a_cons d_str (a_cons d_str a_nil))))))
      (ss_one (s_ret (d_tup (a_cons d_str (a_cons (dv 4) (a_cons (d_xfK (a0 := a) (oe := oe) (pn := pn) TX NO_number hz hf (dv 1)) a_nil))))))
      ss_nil)
      (ss_one (s_ret (d_if (t_eq hr.units (dv 4) d_str) (d_tup (a_cons d_str (a_cons (dv 4) (a_cons (d_xfK (a0 := a) (oe := oe) (pn := pn) TX NO_row hz hf (dv 1)) a_nil)))) (d_tup (a_cons d_str (a_cons (dv 4) a_nil))))))))))))))
    , ?_⟩
  intro a C d fs S Cc hC h
  obtain ⟨i, dd, hi, rfl, ht, h⟩ := h
  rcases ht with ⟨rfl, n, y, hn, hy, rfl⟩ | ⟨e, n, hn, rfl⟩ | ⟨rfl, n, hn, rfl⟩ | ⟨e, rfl⟩
  · refine ⟨_, rfl, rfl, rfl, rfl, _, kn.kit _ _ (by decide) (by decide), _, rfl, rfl, rfl, rfl, _, kn.kit _ _ (by decide) (by decide), _, rfl, rfl, rfl, rfl, _, kn.kit _ _ (by decide) (by decide), _, rfl, rfl, rfl, rfl, _, kn.kit _ _ (by decide) (by decide), le_ok rfl, _, rfl, ?_⟩
    refine ⟨_, rfl, _, rfl, rfl, rfl, rfl, _, kn.kit _ _ (by decide) (by decide), _, rfl, rfl, rfl, rfl, _, kn.kit _ _ (by decide) (by decide), _, rfl, rfl, rfl, rfl, _, kn.kit _ _ (by decide) (by decide), le_ok rfl, _, rfl, le_ok rfl, ?_⟩
    refine ⟨_, rfl, _, rfl, rfl, rfl, rfl, _, kn.kit _ _ (by decide) (by decide), _, rfl, rfl, rfl, rfl, _, kn.kit _ _ (by decide) (by decide), _, rfl, rfl, rfl, rfl, _, kn.kit _ _ (by decide) (by decide), le_ok rfl, _, rfl, le_ok rfl, ?_⟩
    refine ⟨_, rfl, rfl, rfl, le_ok rfl, rfl, iteFb rfl ⟨_, rfl, rfl, rfl, rfl, _, kn.ve _ (by decide), ?_⟩⟩
    refine ⟨le_ok rfl, _, rfl, ?_⟩
    refine ⟨_, rfl, _, rfl, rfl, rfl, 0, _, rfl, rfl, first_off rfl, _, rfl, ?_⟩
    refine ⟨_, rfl, rfl, iteTb rfl ?_⟩
    exact ⟨_, rfl, _, rfl, rfl, rfl, rfl, .inl ⟨_, hn, _, rfl, rfl, rfl, rfl, .inr ⟨_, hy, le_ok rfl, _, rfl, h⟩⟩⟩
  · rcases e with rfl | rfl | rfl | rfl
    · refine ⟨_, rfl, rfl, rfl, rfl, _, kn.kit _ _ (by decide) (by decide), _, rfl, rfl, rfl, rfl, _, kn.kit _ _ (by decide) (by decide), _, rfl, rfl, rfl, rfl, _, kn.kit _ _ (by decide) (by decide), _, rfl, rfl, rfl, rfl, _, kn.kit _ _ (by decide) (by decide), le_ok rfl, _, rfl, ?_⟩
      refine ⟨_, rfl, _, rfl, rfl, rfl, rfl, _, kn.kit _ _ (by decide) (by decide), _, rfl, rfl, rfl, rfl, _, kn.kit _ _ (by decide) (by decide), _, rfl, rfl, rfl, rfl, _, kn.kit _ _ (by decide) (by decide), le_ok rfl, _, rfl, le_ok rfl, ?_⟩
      refine ⟨_, rfl, _, rfl, rfl, rfl, rfl, _, kn.kit _ _ (by decide) (by decide), _, rfl, rfl, rfl, rfl, _, kn.kit _ _ (by decide) (by decide), _, rfl, rfl, rfl, rfl, _, kn.kit _ _ (by decide) (by decide), le_ok rfl, _, rfl, le_ok rfl, ?_⟩
      refine ⟨_, rfl, rfl, rfl, le_ok rfl, rfl, iteFb rfl ⟨_, rfl, rfl, rfl, rfl, _, kn.ve _ (by decide), ?_⟩⟩
      refine ⟨le_ok rfl, _, rfl, ?_⟩
      refine ⟨_, rfl, _, rfl, rfl, rfl, 4, _, rfl, rfl, first_off rfl, _, rfl, ?_⟩
      refine ⟨_, rfl, rfl, iteFb rfl ?_⟩
      refine ⟨_, rfl, le_ok rfl, _, rfl, rfl, rfl, iteTb rfl ?_⟩
      exact ⟨_, rfl, _, rfl, rfl, rfl, rfl, .inl ⟨_, hn, le_ok rfl, _, rfl, h⟩⟩
    · refine ⟨_, rfl, rfl, rfl, rfl, _, kn.kit _ _ (by decide) (by decide), _, rfl, rfl, rfl, rfl, _, kn.kit _ _ (by decide) (by decide), _, rfl, rfl, rfl, rfl, _, kn.kit _ _ (by decide) (by decide), _, rfl, rfl, rfl, rfl, _, kn.kit _ _ (by decide) (by decide), le_ok rfl, _, rfl, ?_⟩
      refine ⟨_, rfl, _, rfl, rfl, rfl, rfl, _, kn.kit _ _ (by decide) (by decide), _, rfl, rfl, rfl, rfl, _, kn.kit _ _ (by decide) (by decide), _, rfl, rfl, rfl, rfl, _, kn.kit _ _ (by decide) (by decide), le_ok rfl, _, rfl, le_ok rfl, ?_⟩
      refine ⟨_, rfl, _, rfl, rfl, rfl, rfl, _, kn.kit _ _ (by decide) (by decide), _, rfl, rfl, rfl, rfl, _, kn.kit _ _ (by decide) (by decide), _, rfl, rfl, rfl, rfl, _, kn.kit _ _ (by decide) (by decide), le_ok rfl, _, rfl, le_ok rfl, ?_⟩
      refine ⟨_, rfl, rfl, rfl, le_ok rfl, rfl, iteFb rfl ⟨_, rfl, rfl, rfl, rfl, _, kn.ve _ (by decide), ?_⟩⟩
      refine ⟨le_ok rfl, _, rfl, ?_⟩
      refine ⟨_, rfl, _, rfl, rfl, rfl, 5, _, rfl, rfl, first_off rfl, _, rfl, ?_⟩
      refine ⟨_, rfl, rfl, iteFb rfl ?_⟩
      refine ⟨_, rfl, le_ok rfl, _, rfl, rfl, rfl, iteTb rfl ?_⟩
      exact ⟨_, rfl, _, rfl, rfl, rfl, rfl, .inl ⟨_, hn, le_ok rfl, _, rfl, h⟩⟩
    · refine ⟨_, rfl, rfl, rfl, rfl, _, kn.kit _ _ (by decide) (by decide), _, rfl, rfl, rfl, rfl, _, kn.kit _ _ (by decide) (by decide), _, rfl, rfl, rfl, rfl, _, kn.kit _ _ (by decide) (by decide), _, rfl, rfl, rfl, rfl, _, kn.kit _ _ (by decide) (by decide), le_ok rfl, _, rfl, ?_⟩
      refine ⟨_, rfl, _, rfl, rfl, rfl, rfl, _, kn.kit _ _ (by decide) (by decide), _, rfl, rfl, rfl, rfl, _, kn.kit _ _ (by decide) (by decide), _, rfl, rfl, rfl, rfl, _, kn.kit _ _ (by decide) (by decide), le_ok rfl, _, rfl, le_ok rfl, ?_⟩
      refine ⟨_, rfl, _, rfl, rfl, rfl, rfl, _, kn.kit _ _ (by decide) (by decide), _, rfl, rfl, rfl, rfl, _, kn.kit _ _ (by decide) (by decide), _, rfl, rfl, rfl, rfl, _, kn.kit _ _ (by decide) (by decide), le_ok rfl, _, rfl, le_ok rfl, ?_⟩
      refine ⟨_, rfl, rfl, rfl, le_ok rfl, rfl, iteFb rfl ⟨_, rfl, rfl, rfl, rfl, _, kn.ve _ (by decide), ?_⟩⟩
      refine ⟨le_ok rfl, _, rfl, ?_⟩
      refine ⟨_, rfl, _, rfl, rfl, rfl, 6, _, rfl, rfl, first_off rfl, _, rfl, ?_⟩
      refine ⟨_, rfl, rfl, iteFb rfl ?_⟩
      refine ⟨_, rfl, le_ok rfl, _, rfl, rfl, rfl, iteTb rfl ?_⟩
      exact ⟨_, rfl, _, rfl, rfl, rfl, rfl, .inl ⟨_, hn, le_ok rfl, _, rfl, h⟩⟩
    · refine ⟨_, rfl, rfl, rfl, rfl, _, kn.kit _ _ (by decide) (by decide), _, rfl, rfl, rfl, rfl, _, kn.kit _ _ (by decide) (by decide), _, rfl, rfl, rfl, rfl, _, kn.kit _ _ (by decide) (by decide), _, rfl, rfl, rfl, rfl, _, kn.kit _ _ (by decide) (by decide), le_ok rfl, _, rfl, ?_⟩
      refine ⟨_, rfl, _, rfl, rfl, rfl, rfl, _, kn.kit _ _ (by decide) (by decide), _, rfl, rfl, rfl, rfl, _, kn.kit _ _ (by decide) (by decide), _, rfl, rfl, rfl, rfl, _, kn.kit _ _ (by decide) (by decide), le_ok rfl, _, rfl, le_ok rfl, ?_⟩
      refine ⟨_, rfl, _, rfl, rfl, rfl, rfl, _, kn.kit _ _ (by decide) (by decide), _, rfl, rfl, rfl, rfl, _, kn.kit _ _ (by decide) (by decide), _, rfl, rfl, rfl, rfl, _, kn.kit _ _ (by decide) (by decide), le_ok rfl, _, rfl, le_ok rfl, ?_⟩
      refine ⟨_, rfl, rfl, rfl, le_ok rfl, rfl, iteFb rfl ⟨_, rfl, rfl, rfl, rfl, _, kn.ve _ (by decide), ?_⟩⟩
      refine ⟨le_ok rfl, _, rfl, ?_⟩
      refine ⟨_, rfl, _, rfl, rfl, rfl, 8, _, rfl, rfl, first_off rfl, _, rfl, ?_⟩
      refine ⟨_, rfl, rfl, iteFb rfl ?_⟩
      refine ⟨_, rfl, le_ok rfl, _, rfl, rfl, rfl, iteTb rfl ?_⟩
      exact ⟨_, rfl, _, rfl, rfl, rfl, rfl, .inl ⟨_, hn, le_ok rfl, _, rfl, h⟩⟩
  · refine ⟨_, rfl, rfl, rfl, rfl, _, kn.kit _ _ (by decide) (by decide), _, rfl, rfl, rfl, rfl, _, kn.kit _ _ (by decide) (by decide), _, rfl, rfl, rfl, rfl, _, kn.kit _ _ (by decide) (by decide), _, rfl, rfl, rfl, rfl, _, kn.kit _ _ (by decide) (by decide), le_ok rfl, _, rfl, ?_⟩
    refine ⟨_, rfl, _, rfl, rfl, rfl, rfl, _, kn.kit _ _ (by decide) (by decide), _, rfl, rfl, rfl, rfl, _, kn.kit _ _ (by decide) (by decide), _, rfl, rfl, rfl, rfl, _, kn.kit _ _ (by decide) (by decide), le_ok rfl, _, rfl, le_ok rfl, ?_⟩
    refine ⟨_, rfl, _, rfl, rfl, rfl, rfl, _, kn.kit _ _ (by decide) (by decide), _, rfl, rfl, rfl, rfl, _, kn.kit _ _ (by decide) (by decide), _, rfl, rfl, rfl, rfl, _, kn.kit _ _ (by decide) (by decide), le_ok rfl, _, rfl, le_ok rfl, ?_⟩
    refine ⟨_, rfl, rfl, rfl, le_ok rfl, rfl, iteFb rfl ⟨_, rfl, rfl, rfl, rfl, _, kn.ve _ (by decide), ?_⟩⟩
    refine ⟨le_ok rfl, _, rfl, ?_⟩
    refine ⟨_, rfl, _, rfl, rfl, rfl, 9, _, rfl, rfl, first_off rfl, _, rfl, ?_⟩
    refine ⟨_, rfl, rfl, iteFb rfl ?_⟩
    refine ⟨_, rfl, le_ok rfl, _, rfl, rfl, rfl, iteFb rfl ?_⟩
    refine ⟨_, rfl, rfl, iteTb rfl ?_⟩
    exact ⟨_, rfl, _, rfl, rfl, rfl, rfl, .inl ⟨_, hn, le_ok rfl, _, rfl, h⟩⟩
  · rcases e with rfl | rfl | rfl | rfl
    · refine ⟨_, rfl, rfl, rfl, rfl, _, kn.kit _ _ (by decide) (by decide), _, rfl, rfl, rfl, rfl, _, kn.kit _ _ (by decide) (by decide), _, rfl, rfl, rfl, rfl, _, kn.kit _ _ (by decide) (by decide), _, rfl, rfl, rfl, rfl, _, kn.kit _ _ (by decide) (by decide), le_ok rfl, _, rfl, ?_⟩
      refine ⟨_, rfl, _, rfl, rfl, rfl, rfl, _, kn.kit _ _ (by decide) (by decide), _, rfl, rfl, rfl, rfl, _, kn.kit _ _ (by decide) (by decide), _, rfl, rfl, rfl, rfl, _, kn.kit _ _ (by decide) (by decide), le_ok rfl, _, rfl, le_ok rfl, ?_⟩
      refine ⟨_, rfl, _, rfl, rfl, rfl, rfl, _, kn.kit _ _ (by decide) (by decide), _, rfl, rfl, rfl, rfl, _, kn.kit _ _ (by decide) (by decide), _, rfl, rfl, rfl, rfl, _, kn.kit _ _ (by decide) (by decide), le_ok rfl, _, rfl, le_ok rfl, ?_⟩
      refine ⟨_, rfl, rfl, rfl, le_ok rfl, rfl, iteFb rfl ⟨_, rfl, rfl, rfl, rfl, _, kn.ve _ (by decide), ?_⟩⟩
      refine ⟨le_ok rfl, _, rfl, ?_⟩
      refine ⟨_, rfl, _, rfl, rfl, rfl, 1, _, rfl, rfl, first_off rfl, _, rfl, ?_⟩
      refine ⟨_, rfl, rfl, iteFb rfl ?_⟩
      refine ⟨_, rfl, le_ok rfl, _, rfl, rfl, rfl, iteFb rfl ?_⟩
      refine ⟨_, rfl, rfl, iteFb rfl ?_⟩
      exact ⟨_, rfl, le_ok rfl, _, rfl, h⟩
    · refine ⟨_, rfl, rfl, rfl, rfl, _, kn.kit _ _ (by decide) (by decide), _, rfl, rfl, rfl, rfl, _, kn.kit _ _ (by decide) (by decide), _, rfl, rfl, rfl, rfl, _, kn.kit _ _ (by decide) (by decide), _, rfl, rfl, rfl, rfl, _, kn.kit _ _ (by decide) (by decide), le_ok rfl, _, rfl, ?_⟩
      refine ⟨_, rfl, _, rfl, rfl, rfl, rfl, _, kn.kit _ _ (by decide) (by decide), _, rfl, rfl, rfl, rfl, _, kn.kit _ _ (by decide) (by decide), _, rfl, rfl, rfl, rfl, _, kn.kit _ _ (by decide) (by decide), le_ok rfl, _, rfl, le_ok rfl, ?_⟩
      refine ⟨_, rfl, _, rfl, rfl, rfl, rfl, _, kn.kit _ _ (by decide) (by decide), _, rfl, rfl, rfl, rfl, _, kn.kit _ _ (by decide) (by decide), _, rfl, rfl, rfl, rfl, _, kn.kit _ _ (by decide) (by decide), le_ok rfl, _, rfl, le_ok rfl, ?_⟩
      refine ⟨_, rfl, rfl, rfl, le_ok rfl, rfl, iteFb rfl ⟨_, rfl, rfl, rfl, rfl, _, kn.ve _ (by decide), ?_⟩⟩
      refine ⟨le_ok rfl, _, rfl, ?_⟩
      refine ⟨_, rfl, _, rfl, rfl, rfl, 2, _, rfl, rfl, first_off rfl, _, rfl, ?_⟩
      refine ⟨_, rfl, rfl, iteFb rfl ?_⟩
      refine ⟨_, rfl, le_ok rfl, _, rfl, rfl, rfl, iteFb rfl ?_⟩
      refine ⟨_, rfl, rfl, iteFb rfl ?_⟩
      exact ⟨_, rfl, le_ok rfl, _, rfl, h⟩
    · refine ⟨_, rfl, rfl, rfl, rfl, _, kn.kit _ _ (by decide) (by decide), _, rfl, rfl, rfl, rfl, _, kn.kit _ _ (by decide) (by decide), _, rfl, rfl, rfl, rfl, _, kn.kit _ _ (by decide) (by decide), _, rfl, rfl, rfl, rfl, _, kn.kit _ _ (by decide) (by decide), le_ok rfl, _, rfl, ?_⟩
      refine ⟨_, rfl, _, rfl, rfl, rfl, rfl, _, kn.kit _ _ (by decide) (by decide), _, rfl, rfl, rfl, rfl, _, kn.kit _ _ (by decide) (by decide), _, rfl, rfl, rfl, rfl, _, kn.kit _ _ (by decide) (by decide), le_ok rfl, _, rfl, le_ok rfl, ?_⟩
      refine ⟨_, rfl, _, rfl, rfl, rfl, rfl, _, kn.kit _ _ (by decide) (by decide), _, rfl, rfl, rfl, rfl, _, kn.kit _ _ (by decide) (by decide), _, rfl, rfl, rfl, rfl, _, kn.kit _ _ (by decide) (by decide), le_ok rfl, _, rfl, le_ok rfl, ?_⟩
      refine ⟨_, rfl, rfl, rfl, le_ok rfl, rfl, iteFb rfl ⟨_, rfl, rfl, rfl, rfl, _, kn.ve _ (by decide), ?_⟩⟩
      refine ⟨le_ok rfl, _, rfl, ?_⟩
      refine ⟨_, rfl, _, rfl, rfl, rfl, 3, _, rfl, rfl, first_off rfl, _, rfl, ?_⟩
      refine ⟨_, rfl, rfl, iteFb rfl ?_⟩
      refine ⟨_, rfl, le_ok rfl, _, rfl, rfl, rfl, iteFb rfl ?_⟩
      refine ⟨_, rfl, rfl, iteFb rfl ?_⟩
      exact ⟨_, rfl, le_ok rfl, _, rfl, h⟩
    · refine ⟨_, rfl, rfl, rfl, rfl, _, kn.kit _ _ (by decide) (by decide), _, rfl, rfl, rfl, rfl, _, kn.kit _ _ (by decide) (by decide), _, rfl, rfl, rfl, rfl, _, kn.kit _ _ (by decide) (by decide), _, rfl, rfl, rfl, rfl, _, kn.kit _ _ (by decide) (by decide), le_ok rfl, _, rfl, ?_⟩
      refine ⟨_, rfl, _, rfl, rfl, rfl, rfl, _, kn.kit _ _ (by decide) (by decide), _, rfl, rfl, rfl, rfl, _, kn.kit _ _ (by decide) (by decide), _, rfl, rfl, rfl, rfl, _, kn.kit _ _ (by decide) (by decide), le_ok rfl, _, rfl, le_ok rfl, ?_⟩
      refine ⟨_, rfl, _, rfl, rfl, rfl, rfl, _, kn.kit _ _ (by decide) (by decide), _, rfl, rfl, rfl, rfl, _, kn.kit _ _ (by decide) (by decide), _, rfl, rfl, rfl, rfl, _, kn.kit _ _ (by decide) (by decide), le_ok rfl, _, rfl, le_ok rfl, ?_⟩
      refine ⟨_, rfl, rfl, rfl, le_ok rfl, rfl, iteFb rfl ⟨_, rfl, rfl, rfl, rfl, _, kn.ve _ (by decide), ?_⟩⟩
      refine ⟨le_ok rfl, _, rfl, ?_⟩
      refine ⟨_, rfl, _, rfl, rfl, rfl, 7, _, rfl, rfl, first_off rfl, _, rfl, ?_⟩
      refine ⟨_, rfl, rfl, iteFb rfl ?_⟩
      refine ⟨_, rfl, le_ok rfl, _, rfl, rfl, rfl, iteFb rfl ?_⟩
      refine ⟨_, rfl, rfl, iteFb rfl ?_⟩
      exact ⟨_, rfl, le_ok rfl, _, rfl, h⟩
theorem told_lam {X : Cx} {cs : Nat → Addr} {CW : Addr} {q : Str} (B : Blt X.mg) (kn : Kn10 X.K X.mg cs CW) (hr0 : Room 2 X.A) (g : Addr) (cdv : Value) :
    LamX.GivesTo X N__law_told_by "_law_told_by" (defScope s__law_told_by) g cdv (defBody s__law_told_by) "_law_work" q (TTx X.K CW (isC cs) (spTold cs)) := by
  obtain ⟨ds, h1, h2⟩ := told_suite B kn hr0 g cdv
  exact told_gives (en := N__law_told_by.getD 1 "") rfl kn.nw (by decide) sc__law_told_by.nd rfl rfl (fun f => rfl) h1 h2
end
end K16
set_option Elab.async false
set_option linter.all false
set_option maxRecDepth 100000
set_option maxHeartbeats 4000000
namespace K16
open PySem PySem.Spec PyProof.Rows L2 DL PM
section
variable {P : Program} {w : World} {K : Fg} {mg : Str → Option Value} {base : Heap}
/-! inits of refusals that keep a number -/
abbrev s_BadWeights___init__ : Stmt := inClass (topS 7) 0
abbrev N_BadWeights___init__ : List Str := ["self", "number"]
theorem sc_BadWeights___init__ : FnScope N_BadWeights___init__ ["self", "number"] (defScope s_BadWeights___init__) := ⟨rfl, rfl, rfl, by decide +kernel, rfl, by decide +kernel, by decide +kernel⟩
theorem ok_BadWeights_init {k : Nat} {CW C fI : Addr} {fd : FuncData} (Fn : Fun K "__init__" "BadWeights.__init__" s_BadWeights___init__ fI fd) (T : OexC K C) (TB : Bas K CW) (hm : mg "WorkError" = some (.ref CW)) (hno : PySem.W.findIn K (.ref C) "number" = some none) :
    FnOk P w K mg base CX0 (k + 1) fI fd ["self", "number"] (spI1 K C "number") := by
  refine Fn.ok sc_BadWeights___init__ (fun vs H Q E h => by obtain ⟨a, v, rfl, _⟩ := h; rfl) fun cdv A outer s H vs Q E hr h => ⟨_, pss_cons (ps_expr (pe_basinit rfl hm TB (pa_cons (pe_var (i := 0) rfl (.inl rfl)) (pa_cons pe_str pa_nil)))) (pss_one (ps_ost (pe_var (i := 0) rfl (.inl rfl)) (pe_var (i := 1) rfl (.inl rfl)))), ?_⟩
  obtain ⟨a, v, rfl, ea, q⟩ := h
  exact ⟨_, rfl, a, C, _, rfl, le_ok rfl, T, ea, _, rfl, _, rfl, a, C, rfl, T, hno, .inl ⟨ea, fun dx nd ne => q dx nd ne⟩⟩
abbrev s_BadFalls___init__ : Stmt := inClass (topS 8) 0
abbrev N_BadFalls___init__ : List Str := ["self", "number"]
theorem sc_BadFalls___init__ : FnScope N_BadFalls___init__ ["self", "number"] (defScope s_BadFalls___init__) := ⟨rfl, rfl, rfl, by decide +kernel, rfl, by decide +kernel, by decide +kernel⟩
theorem ok_BadFalls_init {k : Nat} {CW C fI : Addr} {fd : FuncData} (Fn : Fun K "__init__" "BadFalls.__init__" s_BadFalls___init__ fI fd) (T : OexC K C) (TB : Bas K CW) (hm : mg "WorkError" = some (.ref CW)) (hno : PySem.W.findIn K (.ref C) "number" = some none) :
    FnOk P w K mg base CX0 (k + 1) fI fd ["self", "number"] (spI1 K C "number") := by
  refine Fn.ok sc_BadFalls___init__ (fun vs H Q E h => by obtain ⟨a, v, rfl, _⟩ := h; rfl) fun cdv A outer s H vs Q E hr h => ⟨_, pss_cons (ps_expr (pe_basinit rfl hm TB (pa_cons (pe_var (i := 0) rfl (.inl rfl)) (pa_cons pe_str pa_nil)))) (pss_one (ps_ost (pe_var (i := 0) rfl (.inl rfl)) (pe_var (i := 1) rfl (.inl rfl)))), ?_⟩
  obtain ⟨a, v, rfl, ea, q⟩ := h
  exact ⟨_, rfl, a, C, _, rfl, le_ok rfl, T, ea, _, rfl, _, rfl, a, C, rfl, T, hno, .inl ⟨ea, fun dx nd ne => q dx nd ne⟩⟩
abbrev s_BadMarks___init__ : Stmt := inClass (topS 10) 0
abbrev N_BadMarks___init__ : List Str := ["self", "number"]
theorem sc_BadMarks___init__ : FnScope N_BadMarks___init__ ["self", "number"] (defScope s_BadMarks___init__) := ⟨rfl, rfl, rfl, by decide +kernel, rfl, by decide +kernel, by decide +kernel⟩
theorem ok_BadMarks_init {k : Nat} {CW C fI : Addr} {fd : FuncData} (Fn : Fun K "__init__" "BadMarks.__init__" s_BadMarks___init__ fI fd) (T : OexC K C) (TB : Bas K CW) (hm : mg "WorkError" = some (.ref CW)) (hno : PySem.W.findIn K (.ref C) "number" = some none) :
    FnOk P w K mg base CX0 (k + 1) fI fd ["self", "number"] (spI1 K C "number") := by
  refine Fn.ok sc_BadMarks___init__ (fun vs H Q E h => by obtain ⟨a, v, rfl, _⟩ := h; rfl) fun cdv A outer s H vs Q E hr h => ⟨_, pss_cons (ps_expr (pe_basinit rfl hm TB (pa_cons (pe_var (i := 0) rfl (.inl rfl)) (pa_cons pe_str pa_nil)))) (pss_one (ps_ost (pe_var (i := 0) rfl (.inl rfl)) (pe_var (i := 1) rfl (.inl rfl)))), ?_⟩
  obtain ⟨a, v, rfl, ea, q⟩ := h
  exact ⟨_, rfl, a, C, _, rfl, le_ok rfl, T, ea, _, rfl, _, rfl, a, C, rfl, T, hno, .inl ⟨ea, fun dx nd ne => q dx nd ne⟩⟩
end
end K16
set_option Elab.async false
set_option linter.all false
set_option maxRecDepth 100000
set_option maxHeartbeats 4000000
namespace K16
open PySem PySem.Spec PyProof.Rows L2 DL
section
variable {P : Program} {w : World} {K : Fg} {mg : Str → Option Value} {base : Heap}
/-! best -/
def iR (ns : List Int) : List R := ns.map fun n => R.dat (.int n)
def cand (ws fs : List Int) (pr b : Int) (val : Int → CM) (m : Int) : CM := (redone ws fs b m + pr + (val m).1, m :: (val m).2)
def better (acc x : CM) : CM := if ltCM x acc then x else acc
/-- the least of what may follow a mark at b, by val -/
def inner (ws fs : List Int) (pr b : Int) (val : Int → CM) (k : Nat) : CM := (List.range k).foldl (fun acc (i : Nat) => better acc (cand ws fs pr b val (b + 1 + i))) (redone ws fs b (ws.length + 1), [])
theorem inner_succ (ws fs : List Int) (pr b : Int) (val : Int → CM) (k : Nat) : inner ws fs pr b val (k + 1) = better (inner ws fs pr b val k) (cand ws fs pr b val (b + 1 + k)) := by
  unfold inner
  rw [List.range_succ, List.foldl_append]; rfl
def Rec (ws fs : List Int) (pr : Int) (val : Int → CM) (lo : Int) : Prop := ∀ b, lo ≤ b → b ≤ max 0 ((ws.length : Int) - 1) → val b = inner ws fs pr b val (ws.length - (b + 1)).toNat
theorem inner_congr {ws fs : List Int} {pr b : Int} {val val' : Int → CM} : ∀ k : Nat, (∀ m, b < m → m ≤ b + k → val m = val' m) → inner ws fs pr b val k = inner ws fs pr b val' k
  | 0, _ => rfl
  | k + 1, h => by
    rw [inner_succ, inner_succ, inner_congr k fun m h1 h2 => h m h1 (by omega)]
    have e : val (b + 1 + k) = val' (b + 1 + k) := h _ (by omega) (by omega)
    unfold cand
    rw [e]
def HasL (S : SH) (q : Addr) (ms : List Int) : Prop := ∃ j : Nat, S[j]? = some (.lst q (iR ms))
theorem HasL.cons {S : SH} {q : Addr} {ms : List Int} (h : HasL S q ms) (c : Cell) : HasL (c :: S) q ms := by
  obtain ⟨j, hj⟩ := h
  exact ⟨j + 1, by simpa using hj⟩
def tpR (x : CM) (q : Addr) : R := .tp [.dat (.int x.1), .val (.ref q)]
theorem views_ints {S : SH} (ns : List Int) : Views S (iR ns) (ns.map PyData.int) := by
  have e : iR ns = (ns.map PyData.int).map R.dat := by unfold iR; rw [List.map_map]; rfl
  rw [e]; exact Views.of_dats _
theorem view_tp {S : SH} {x : CM} {q : Addr} (h : HasL S q x.2) : View S (tpR x q) x.dat := by
  obtain ⟨j, hj⟩ := h
  exact .tp (.cons (.dat _) (.cons (.cel hj (views_ints _)) .nil))
theorem HasL.app {S : SH} {q : Addr} {ms : List Int} (h : HasL S q ms) (U : SH) : HasL (S ++ U) q ms := by
  obtain ⟨j, hj⟩ := h
  exact ⟨j, in_app hj⟩
theorem find_put_self (k : Key) (r : R) : ∀ kvs : List (Key × R), (putR kvs k r).find? (fun kv => decide (kv.1 = k)) = some (k, r) := by
  intro kvs
  unfold putR
  split
  · rename_i h
    induction kvs with
    | nil => simp at h
    | cons a kvs ih =>
      rw [List.map_cons, List.find?_cons]
      by_cases ha : a.1 = k
      · rw [if_pos ha]
        show (match decide (a.1 = k) with | true => some (a.1, r) | false => _) = _
        rw [decide_eq_true ha, ha]
      · rw [if_neg ha, decide_eq_false ha]
        refine ih ?_
        rw [List.any_cons, decide_eq_false ha] at h
        simpa using h
  · rename_i h
    rw [List.find?_append]
    have e : kvs.find? (fun kv => decide (kv.1 = k)) = none := by
      rw [List.find?_eq_none]
      intro x hx hk
      exact h (List.any_eq_true.mpr ⟨x, hx, hk⟩)
    rw [e]
    simp
theorem find_put_ne {k k' : Key} (hk : k' ≠ k) (r : R) : ∀ kvs : List (Key × R), (putR kvs k r).find? (fun kv => decide (kv.1 = k')) = kvs.find? (fun kv => decide (kv.1 = k')) := by
  intro kvs
  unfold putR
  split
  · rename_i h
    clear h
    induction kvs with
    | nil => rfl
    | cons a kvs ih =>
      rw [List.map_cons, List.find?_cons, List.find?_cons]
      by_cases ha : a.1 = k
      · rw [if_pos ha]
        have : ¬ a.1 = k' := fun z => hk (z.symm.trans ha)
        show (match decide (a.1 = k') with | true => some (a.1, r) | false => _) = _
        rw [decide_eq_false this]
        exact ih
      · rw [if_neg ha, ih]
  · rw [List.find?_append]
    cases kvs.find? (fun kv => decide (kv.1 = k')) with
    | some x => rfl
    | none =>
      rw [List.find?_cons, decide_eq_false (show ¬ (k, r).1 = k' from fun z => hk z.symm)]; rfl
theorem putR_len (kvs : List (Key × R)) (k : Key) (r : R) : (putR kvs k r).length ≤ kvs.length + 1 := by
  unfold putR
  split
  · rw [List.length_map]; omega
  · rw [List.length_append]; exact Nat.le_refl _
structure Kn (S : SH) (kvs : List (Key × R)) (val : Int → CM) (lo hi : Int) : Prop where
  at_ : ∀ m, lo ≤ m → m ≤ hi → ∃ q, kvs.find? (fun kv => decide (kv.1 = Sum.inl m)) = some (Sum.inl m, tpR (val m) q) ∧ HasL S q (val m).2 ∧ ((val m).2.length : Int) ≤ hi - m
  len : (kvs.length : Int) ≤ hi - lo + 1
theorem top_eq (n : Nat) : (if (n : Int) - 1 > 0 then (n : Int) - 1 else 0) = max 0 ((n : Int) - 1) := by
  by_cases h : (n : Int) - 1 > 0
  · rw [if_pos h]; omega
  · rw [if_neg h]; omega
theorem Kn.cons {S : SH} {kvs : List (Key × R)} {val : Int → CM} {lo hi : Int} (k : Kn S kvs val lo hi) (c : Cell) : Kn (c :: S) kvs val lo hi :=
  ⟨fun m h1 h2 => let ⟨q, a, b, d⟩ := k.at_ m h1 h2; ⟨q, a, b.cons c, d⟩, k.len⟩
def spBest : SpD := fun rs S C => ∃ ws fs pr, rs = [.dat (.list (ws.map PyData.int)), .dat (.list (fs.map PyData.int)), .dat (.int pr)] ∧ PlanOk ws fs pr ∧
  ∀ val q, Rec ws fs pr val 0 → C (tpR (val 0) q) (.lst q (iR (val 0).2) :: S)
abbrev s_best : Stmt := topS 23
abbrev N_best : List Str := ["weights", "falls", "price", "many", "known", "begin", "found", "mark", "further", "whole"]
theorem sc_best : FnScope N_best ["weights", "falls", "price"] (defScope s_best) := ⟨rfl, rfl, rfl, by decide +kernel, rfl, by decide +kernel, by decide +kernel⟩
theorem ok_best {k : Nat} (F : FunAt K mg "best" s_best ["weights", "falls", "price"]) (B : Blt mg) (D1 : Def P w K mg base "need_plan" 2 3 spNeedPlan) (D2 : Def P w K mg base "redone" 1 4 spRedone) :
    Def P w K mg base "best" (k + 3) 3 spBest := by
  refine okFw F sc_best rfl fun cdv A outer s H E f hr => ⟨_,
    (ss_cons (s_expr (d_callF D1 (hr.mono (by omega)) (by rfl) (a_cons (dv 0) (a_cons (dv 1) (a_cons (dv 2) a_nil)))))
      (ss_cons (s_set (i := 3) sc_best.nd (d_len (by rfl) B.len (a_cons (dv 0) a_nil)))
      (ss_cons (s_set (i := 4) sc_best.nd d_newD)
      (ss_cons (s_for (i_r3 (by rfl) B.range (a_cons (d_max2 (by rfl) B.max (a_cons d_int (a_cons (d_sub (dv 3) d_int) a_nil))) (a_cons (d_neg d_int) (a_cons (d_neg d_int) a_nil)))) (g_name (i := 5) sc_best.nd)
      (ss_cons (s_set (i := 6) sc_best.nd (d_tp (a_cons (d_callF D2 (hr.mono (by omega)) (by rfl) (a_cons (dv 0) (a_cons (dv 1) (a_cons (dv 5) (a_cons (d_add (dv 3) d_int) a_nil))))) (a_cons (d_lstC a_nil) a_nil))))
      (ss_cons (s_for (i_r2 (by rfl) B.range (a_cons (d_add (dv 5) d_int) (a_cons (dv 3) a_nil))) (g_name (i := 7) sc_best.nd)
      (ss_cons (s_set (i := 8) sc_best.nd (d_ix (hu_of hr) (dv 4) (dv 7)))
      (ss_cons (s_set (i := 9) sc_best.nd (d_add (d_add (d_callF D2 (hr.mono (by omega)) (by rfl) (a_cons (dv 0) (a_cons (dv 1) (a_cons (dv 5) (a_cons (dv 7) a_nil))))) (dv 2)) (d_ix (hu_of hr) (dv 8) d_int)))
      (ss_one (s_set (i := 6) sc_best.nd (d_minVU hr.units (by rfl) B.min (a_cons (dv 6) (a_cons (d_tp (a_cons (dv 9) (a_cons (d_addC (d_lst (a_cons (dv 7) a_nil)) (d_ix (hu_of hr) (dv 8) d_int)) a_nil))) a_nil))))))))
      (ss_one (s_asg (dv 6) (g_sub (hu_of hr) (dv 4) (dv 5)))))))
      (ss_one (s_ret (d_ix (hu_of hr) (dv 4) d_int)))))))
    , ?_⟩
  intro rs S C hl h
  obtain ⟨ws, fs, pr, rfl, ok, h⟩ := h
  have hwl := ok.hwl
  have hfl := ok.hfl
  refine ⟨_, rfl, _, rfl, _, rfl, rfl, ws, fs, pr, rfl, ok, _, rfl, fun kp => ?_⟩
  simp only [List.length_map]
  have ht := top_eq ws.length
  refine ⟨_, rfl, ⟨by omega, by omega, by decide, by decide⟩, rfl, ?_⟩
  rw [ht]
  generalize htop : max 0 ((ws.length : Int) - 1) = top at *
  have htop0 : 0 ≤ top := by omega
  refine ⟨fun i fr S' => ∃ (val : Int → CM) (kvs : List (Key × R)) (T : SH) (a5 a6 a7 a8 a9 : Option R), fr = [some (.dat (.list (ws.map PyData.int))), some (.dat (.list (fs.map PyData.int))), some (.dat (.int pr)), some (.dat (.int (ws.length : Int))), some (.val (.ref kp)), a5, a6, a7, a8, a9] ∧
      S' = T ++ .dct kp kvs :: S ∧ Kn T kvs val (top - i + 1) top ∧ Rec ws fs pr val (top - i + 1), ?_, ?_, ?_⟩
  · exact ⟨fun _ => (0, []), [], [], none, none, none, none, none, rfl, rfl, ⟨fun m h1 h2 => by omega, by simp; omega⟩, fun b h1 h2 => by rw [htop] at h2; omega⟩
  · rintro i r fr S' hi ⟨val, kvs, T, a5, a6, a7, a8, a9, rfl, rfl, kn, rc⟩
    obtain ⟨hin, rfl⟩ := rngD_get hi
    generalize hb : top - (i : Int) = b at *
    have hb0 : 0 ≤ b := by omega
    refine ⟨_, rfl, _, rfl, _, rfl, _, rfl, rfl, ws, fs, b, (ws.length : Int) + 1, rfl, by omega, by simp, fun q0 => ⟨by simp, ?_⟩⟩
    refine ⟨_, rfl, _, rfl, ⟨by omega, by omega, by omega, by omega⟩, ?_⟩
    refine ⟨fun i2 fr S2 => ∃ (T2 : SH) (x : CM) (q : Addr) (a7 a8 a9 : Option R), fr = [some (.dat (.list (ws.map PyData.int))), some (.dat (.list (fs.map PyData.int))), some (.dat (.int pr)), some (.dat (.int (ws.length : Int))), some (.val (.ref kp)), some (.dat (.int b)), some (tpR x q), a7, a8, a9] ∧
        S2 = T2 ++ .dct kp kvs :: S ∧ Kn T2 kvs val (b + 1) top ∧ HasL T2 q x.2 ∧ x = inner ws fs pr b val i2 ∧ (x.2.length : Int) ≤ top - b, ?_, ?_, ?_⟩
    · exact ⟨.lst q0 [] :: T, (redone ws fs b (ws.length + 1), []), q0, a7, a8, a9, rfl, rfl, kn.cons _, ⟨0, rfl⟩, rfl, by simp; omega⟩
    · rintro i2 r2 fr2 S2 hi2 ⟨T2, x, q, b7, b8, b9, rfl, rfl, kn2, hx, ex, hxl⟩
      obtain ⟨hin2, rfl⟩ := rng_get hi2
      generalize hm : b + 1 + (i2 : Int) = m at *
      obtain ⟨qm, hf, hq, hql⟩ := kn2.at_ m (by omega) (by omega)
      refine ⟨_, rfl, _, rfl, .inr ⟨T2.length, kvs, _, mid_get T2 S, hf, ?_⟩⟩
      refine ⟨_, rfl, _, rfl, _, rfl, _, rfl, rfl, ws, fs, b, m, rfl, by omega, _, rfl, _, rfl, _, rfl, ?_⟩
      obtain ⟨jq, hjq⟩ := hq
      refine ⟨_, rfl, _, rfl, _, rfl, by simp, _, rfl, _, rfl, _, rfl, [.dat (.int m)], iR (val m).2, rfl, ⟨jq, in_app hjq⟩, by simp [iR]; omega, fun p => ⟨by simp, ?_⟩⟩
      have hy : HasL (.lst p ([.dat (.int m)] ++ iR (val m).2) :: T2) p (cand ws fs pr b val m).2 := ⟨0, rfl⟩
      refine ⟨x.dat, (cand ws fs pr b val m).dat, view_tp ((hx.cons _).app _), view_tp (hy.app _), cmp_CM _ _, ?_⟩
      rw [dataLt_CM]
      have es : inner ws fs pr b val (i2 + 1) = better x (cand ws fs pr b val m) := by rw [inner_succ, ← ex, hm]
      cases hlt : ltCM (cand ws fs pr b val m) x with
      | true =>
        refine ⟨.lst p ([.dat (.int m)] ++ iR (val m).2) :: T2, cand ws fs pr b val m, p, _, _, _, rfl, rfl, kn2.cons _, hy, ?_, ?_⟩
        · rw [es]; unfold better; rw [if_pos hlt]
        · show ((m :: (val m).2).length : Int) ≤ top - b
          rw [List.length_cons]; omega
      | false =>
        refine ⟨.lst p ([.dat (.int m)] ++ iR (val m).2) :: T2, x, q, _, _, _, rfl, rfl, kn2.cons _, hx.cons _, ?_, hxl⟩
        rw [es]; unfold better; rw [if_neg (by rw [hlt]; exact Bool.false_ne_true)]
    · rintro fr2 S2 ⟨T2, x, q, b7, b8, b9, rfl, rfl, kn2, hx, ex, hxl⟩
      rw [rng_len] at ex
      have hkl := kn2.len
      refine ⟨_, rfl, _, rfl, _, rfl, .inr ⟨T2.length, kvs, mid_get T2 S, by omega, ?_⟩⟩
      have es : (T2 ++ Cell.dct kp kvs :: S).set T2.length (.dct kp (putR kvs (Sum.inl b) (tpR x q))) = T2 ++ .dct kp (putR kvs (Sum.inl b) (tpR x q)) :: S := by
        rw [List.set_append_right _ _ (Nat.le_refl _)]; simp
      obtain ⟨val', evb, ev⟩ : ∃ val' : Int → CM, val' b = x ∧ ∀ m, m ≠ b → val' m = val m := ⟨fun m => if m = b then x else val m, if_pos rfl, fun m hm => if_neg hm⟩
      refine ⟨val', putR kvs (Sum.inl b) (tpR x q), T2, _, _, _, _, _, rfl, es, ⟨fun m h1 h2 => ?_, ?_⟩, fun m h1 h2 => ?_⟩
      · by_cases hmb : m = b
        · subst hmb
          rw [evb]
          exact ⟨q, find_put_self _ _ _, hx, hxl⟩
        · obtain ⟨q', a, b', d⟩ := kn2.at_ m (by omega) h2
          rw [ev m hmb]
          exact ⟨q', by rw [find_put_ne (fun z => hmb (Sum.inl.inj z))]; exact a, b', d⟩
      · have := putR_len kvs (Sum.inl b) (tpR x q)
        omega
      · by_cases hmb : m = b
        · subst hmb
          rw [evb, ex]
          exact inner_congr _ fun m' h3 h4 => (ev m' (by omega)).symm
        · rw [ev m hmb, rc m (by omega) h2]
          exact inner_congr _ fun m' h3 h4 => (ev m' (by omega)).symm
  · rintro fr S' ⟨val, kvs, T, a5, a6, a7, a8, a9, rfl, rfl, kn, rc⟩
    rw [rngD_len] at kn rc
    obtain ⟨q, hf, ⟨jq, hjq⟩, _⟩ := kn.at_ 0 (by omega) htop0
    refine ⟨_, rfl, .inr ⟨T.length, kvs, _, mid_get T S, hf, ?_⟩⟩
    have hr' : Rec ws fs pr val 0 := fun b h1 h2 => rc b (by omega) h2
    obtain ⟨A', B', eT⟩ : ∃ A' B', T = A' ++ Cell.lst q (iR (val 0).2) :: B' := List.append_of_mem (List.mem_of_getElem? hjq)
    have e3 : T ++ Cell.dct kp kvs :: S = A' ++ Cell.lst q (iR (val 0).2) :: ((B' ++ [.dct kp kvs]) ++ S) := by rw [eT]; simp
    rw [e3]
    exact wk_one A' (B' ++ [.dct kp kvs]) (h val q hr')
end
end K16
set_option Elab.async false
set_option linter.all false
set_option maxRecDepth 100000
set_option maxHeartbeats 4000000
namespace K16
open PySem PySem.Spec PyProof.Rows L2 DL
local macro_rules | `(tactic| walk_at "dl") => `(tactic| repeat (first | refine ⟨_, rfl, ?_⟩ | refine ⟨rfl, _, by assumption, ?_⟩ | refine iteT ?_ | refine iteF ?_))
section
variable {P : Program} {w : World} {K : Fg} {mg : Str → Option Value} {base : Heap}
/-! _law_dice -/
def spDice0 : SpD := fun rs S C => ∃ ns : List Int, rs = [.scr ns] ∧ ns.length ≤ 1000 ∧ ∀ p xs, DiceOk xs → C (.val (.ref p)) (.lst p xs :: S)
def spDice : SpD := fun rs S C => ∃ ns : List Int, rs = [.scr ns] ∧ ns.length ≤ 1000 ∧ ∀ p, C (.val (.ref p)) (dice p :: S)
theorem dice_of {x : Str} {k : Nat} (d : Def P w K mg base x k 1 spDice0) : Def P w K mg base x k 1 spDice := by
  obtain ⟨f, fd, ps, a, b⟩ := d.ex
  refine ⟨f, fd, ps, a.imp fun vs H Q E h => ?_, b⟩
  obtain ⟨hl, F, S, L, rs, C, o, lv, ⟨ns, rfl, hn, q⟩, fin⟩ := h
  refine ⟨hl, F, S, L, _, fun r S' => ∃ p xs, r = .val (.ref p) ∧ DiceOk xs ∧ S' = .lst p xs :: S, o, lv, ⟨ns, rfl, hn, fun p xs hx => ⟨p, xs, rfl, hx, rfl⟩⟩, ?_⟩
  rintro v r S' H' o' ⟨p, xs, rfl, hx, rfl⟩
  have o3 := o'.pack (P := DiceOk) (i := 0) rfl hx
  exact fin v _ (dice p :: S) H' o3 (q p)
abbrev s__law_dice : Stmt := topS 25
abbrev N__law_dice : List Str := ["_law_script", "_law_mixed", "_law_cell"]
theorem sc__law_dice : FnScope N__law_dice ["_law_script"] (defScope s__law_dice) := ⟨rfl, rfl, rfl, by decide +kernel, rfl, by decide +kernel, by decide +kernel⟩
theorem ok_dice {k : Nat} (F : FunAt K mg "_law_dice" s__law_dice ["_law_script"]) (B : Blt mg) : Def P w K mg base "_law_dice" (k + 1) 1 spDice := by
  refine dice_of (okF F sc__law_dice rfl fun cdv A outer s H E f hr => ⟨_,
    (ss_cons (s_set (i := 1) sc__law_dice.nd d_int)
      (ss_cons (s_for (i_src (dv 0)) (g_name (i := 2) sc__law_dice.nd)
      (ss_one (s_set (i := 1) sc__law_dice.nd (d_mod (d_add (d_add (d_mul (dv 1) d_int) (d_mul (d_mod (dv 2) d_int) d_int)) d_int) d_int))))
      (ss_one (s_ret (d_lstC (a_cons (dv 0) (a_cons d_int (a_cons (d_mul (dv 1) (d_intF (by rfl) B.int (a_cons (d_gt (d_len (by rfl) B.len (a_cons (dv 0) a_nil)) d_int) a_nil))) (a_cons d_int a_nil)))))))))
    , ?_⟩)
  intro rs S C hl h
  obtain ⟨ns, rfl, hn, h⟩ := h
  refine ⟨_, rfl, fun i fr S' => S' = S ∧ ∃ (x : Int) (a : Option R), fr = [some (.scr ns), some (.dat (.int x)), a] ∧ 0 ≤ x ∧ x < 2147483647, ⟨rfl, 0, none, rfl, by decide, by decide⟩, ?_, ?_⟩
  · rintro i r fr S' hi ⟨rfl, x, a, rfl, h0, h1⟩
    obtain ⟨z, rfl⟩ : ∃ z, r = .dat (.int z) := by
      rw [List.getElem?_map] at hi
      cases e : ns[i]? with
      | none => rw [e] at hi; cases hi
      | some n => rw [e] at hi; exact ⟨n, (Option.some.inj hi).symm⟩
    have hz0 := Int.emod_nonneg z (show (2147483647 : Int) ≠ 0 by decide)
    have hz1 := Int.emod_lt_of_pos z (show (0 : Int) < 2147483647 by decide)
    refine ⟨_, rfl, cmul (by omega) (by omega) (by decide) (by decide), _, rfl, (by show (0 : Int) < 2147483647; decide), cmul (by omega) (by omega) (by decide) (by decide), (by show (0 : Int) < 2147483647; decide), ?_⟩
    exact ⟨rfl, _, _, rfl, Int.emod_nonneg _ (by decide), Int.emod_lt_of_pos _ (by decide)⟩
  · rintro fr S' ⟨rfl, x, a, rfl, h0, h1⟩
    refine ⟨_, rfl, _, rfl, _, rfl, cmul (by omega) (by omega) ?_ ?_, by simp, fun p => h p _ ⟨ns, 0, _, 0, rfl, by decide, ?_, ?_⟩⟩
    all_goals (by_cases hc : (2 : Int) < ns.length <;> simp [hc] <;> omega)
/-! _law_like -/
theorem kd_view {S : SH} {r : R} {d : PyData} {k : Kd} (h : View S r d) (hk : kdOf d = some k) : kdR S r k := by
  cases h with
  | dat d => exact hk
  | cel hj q => cases hk; exact ⟨rfl, _, _, hj⟩
  | tp q => cases hk; rfl
theorem len_view {S : SH} {r : R} {ds : List PyData} {C : CR0} (h : View S r (.list ds) ∨ View S r (.tuple ds)) (q : C (.dat (.int ds.length)) S) : fLen [r] S C := by
  rcases h with h | h
  · cases h with
    | dat d => exact q
    | cel hj v => exact ⟨_, _, hj, by rw [v.length]; exact q⟩
  · cases h with
    | dat d => exact q
    | tp v => show C _ S; rw [v.length]; exact q
theorem dlen_view {S : SH} {fr : Fr} {i : Nat} {r : R} {ds : List PyData} {C : CR0} (hi : fr[i]? = some (some r)) (h : View S r (.list ds) ∨ View S r (.tuple ds)) (q : C (.dat (.int ds.length)) S) : dCB fLen (dCons (dVar i) dNil) fr S C := ⟨r, hi, len_view h q⟩
theorem ix_view {S : SH} {r : R} {ds : List PyData} {i : Nat} {d : PyData} {C : CR0} (h : View S r (.list ds) ∨ View S r (.tuple ds)) (e : ds[i]? = some d) (q : ∀ r', View S r' d → C r' S) : fIx r (.dat (.int (i : Int))) S C := by
  rcases h with h | h
  · cases h with
    | dat _ => exact ⟨d, atI_nat e, q _ (.dat d)⟩
    | cel hj v =>
      obtain ⟨r', e', v'⟩ := v.get' e
      exact .inl ⟨_, _, r', hj, atI_nat e', q _ v'⟩
  · cases h with
    | dat _ => exact ⟨d, atI_nat e, q _ (.dat d)⟩
    | tp v =>
      obtain ⟨r', e', v'⟩ := v.get' e
      exact ⟨r', atI_nat e', q _ v'⟩
theorem dix_view {S : SH} {fr : Fr} {i j : Nat} {r : R} {ds : List PyData} {m : Nat} {d : PyData} {C : CR0} (hi : fr[i]? = some (some r)) (hj : fr[j]? = some (some (.dat (.int (m : Int))))) (h : View S r (.list ds) ∨ View S r (.tuple ds)) (e : ds[m]? = some d) (q : ∀ r', View S r' d → C r' S) : dOp fIx (dVar i) (dVar j) fr S C := ⟨r, hi, _, hj, ix_view h e q⟩
mutual
def noDict : PyData → Bool
  | .dict _ => false
  | .list xs => decide (xs.length ≤ 100000) && noDicts xs
  | .tuple xs => decide (xs.length ≤ 100000) && noDicts xs
  | _ => true
def noDicts : List PyData → Bool
  | [] => true
  | x :: xs => noDict x && noDicts xs
end
theorem noDicts_at : ∀ {xs : List PyData} {i : Nat} {d : PyData}, noDicts xs = true → xs[i]? = some d → noDict d = true
  | [], _, _, _, e => by simp at e
  | x :: xs, 0, _, h, e => by
    rw [noDicts] at h
    simp at e
    subst e
    exact (Bool.and_eq_true_iff.mp h).1
  | x :: xs, i + 1, _, h, e => by
    rw [noDicts] at h
    exact noDicts_at (Bool.and_eq_true_iff.mp h).2 (by simpa using e)
theorem depth_at : ∀ {xs : List PyData} {i : Nat} {d : PyData}, xs[i]? = some d → d.depth ≤ PyData.depthAll xs
  | [], _, _, e => by simp at e
  | x :: xs, 0, _, e => by
    rw [PyData.depthAll]
    simp at e
    subst e
    exact Nat.le_max_left _ _
  | x :: xs, i + 1, _, e => by
    rw [PyData.depthAll]
    exact Nat.le_trans (depth_at (xs := xs) (i := i) (by simpa using e)) (Nat.le_max_right _ _)
def spLike (n : Nat) : SpD := fun rs S C => ∃ a b d, rs = [a, b] ∧ View S a d ∧ View S b d ∧ d.depth ≤ n ∧ noDict d = true ∧ C (.dat (.bool true)) S
abbrev s__law_like : Stmt := topS 27
abbrev N__law_like : List Str := ["_law_found", "_law_due", "_law_k"]
theorem sc__law_like : FnScope N__law_like ["_law_found", "_law_due"] (defScope s__law_like) := ⟨rfl, rfl, rfl, by decide +kernel, rfl, by decide +kernel, by decide +kernel⟩
theorem Def.never {x : Str} {st : Stmt} {ps : List Str} {k n : Nat} (Fn : FunAt K mg x st ps) : Def P w K mg base x k n (fun _ _ _ => False) := by
  obtain ⟨f, fd, Fu, hm, hb⟩ := Fn.ex
  exact ⟨f, fd, ps, ⟨fun vs H Q E h => by obtain ⟨_, _, _, _, _, _, _, _, z, _⟩ := h; exact z.elim, fun A outer s H args us vs Q E _ _ _ _ h => by obtain ⟨_, _, _, _, _, _, _, _, z, _⟩ := h; exact z.elim⟩, hm, Fu.kp, hb⟩
theorem isNone_view {S : SH} {r : R} {d : PyData} (h : View S r d) (hd : d ≠ .none) : isNone r = false := by
  cases h with
  | dat d => cases d <;> first | rfl | exact absurd rfl hd
  | cel hj q => rfl
  | tp q => rfl
theorem eqv_refl_scal {d : PyData} (h : scalD d d = true) : PyData.eqv d d = true := by
  cases d <;> first | rfl | (simp [PyData.eqv]; done) | (exfalso; revert h; simp [scalD]; done)
theorem eqk (b : Bool) : (!PyData.eqv (.bool b) (.bool b)) = false := by cases b <;> rfl
theorem eqn (i : Int) : (!PyData.eqv (.int i) (.int i)) = false := by simp [PyData.eqv]
theorem like_body {n k : Nat} {spR : SpD} (F : FunAt K mg "_law_like" s__law_like ["_law_found", "_law_due"]) (B : Blt mg) (D : Def P w K mg base "_law_like" k 2 spR) (hR : ∀ m rs S C, m + 1 = n → spLike m rs S C → spR rs S C) : Def P w K mg base "_law_like" (k + 1) 2 (spLike n) := by
  refine okF F sc__law_like rfl fun cdv A outer s H E f hr => ⟨_,
    (ss_cons (s_if (t_val (d_isi kit_bool (by rfl) B.isinstance (a_cons (dv 1) (a_cons (d_bltn (v := .ty "bool") (by rfl) B.bool (by decide +kernel) rfl) a_nil))))
      (ss_one (s_ret (d_and (d_isi kit_bool (by rfl) B.isinstance (a_cons (dv 0) (a_cons (d_bltn (v := .ty "bool") (by rfl) B.bool (by decide +kernel) rfl) a_nil))) (d_one (d_eq hr.units (dv 0) (dv 1))))))
      ss_nil)
      (ss_cons (s_if (t_val (d_isi kit_str (by rfl) B.isinstance (a_cons (dv 1) (a_cons (d_bltn (v := .ty "str") (by rfl) B.str (by decide +kernel) rfl) a_nil))))
      (ss_one (s_ret (d_and (d_isi kit_str (by rfl) B.isinstance (a_cons (dv 0) (a_cons (d_bltn (v := .ty "str") (by rfl) B.str (by decide +kernel) rfl) a_nil))) (d_one (d_eq hr.units (dv 0) (dv 1))))))
      ss_nil)
      (ss_cons (s_if (t_val (d_isi kit_int (by rfl) B.isinstance (a_cons (dv 1) (a_cons (d_bltn (v := .ty "int") (by rfl) B.int (by decide +kernel) rfl) a_nil))))
      (ss_one (s_ret (d_and (d_isi kit_int (by rfl) B.isinstance (a_cons (dv 0) (a_cons (d_bltn (v := .ty "int") (by rfl) B.int (by decide +kernel) rfl) a_nil))) (d_and (d_not (d_isi kit_bool (by rfl) B.isinstance (a_cons (dv 0) (a_cons (d_bltn (v := .ty "bool") (by rfl) B.bool (by decide +kernel) rfl) a_nil)))) (d_one (d_eq hr.units (dv 0) (dv 1)))))))
      ss_nil)
      (ss_cons (s_if (t_isN (dv 1) d_non)
      (ss_one (s_ret (d_isN (dv 0) d_non)))
      ss_nil)
      (ss_cons (s_if (PDW.pt (w_or (t_ne hr.units (d_isi kit_tuple (by rfl) B.isinstance (a_cons (dv 1) (a_cons (d_bltn (v := .ty "tuple") (by rfl) B.tuple (by decide +kernel) rfl) a_nil))) (d_isi kit_tuple (by rfl) B.isinstance (a_cons (dv 0) (a_cons (d_bltn (v := .ty "tuple") (by rfl) B.tuple (by decide +kernel) rfl) a_nil)))) (w_or1 (t_ne hr.units (d_isi kit_list (by rfl) B.isinstance (a_cons (dv 1) (a_cons (d_bltn (v := .ty "list") (by rfl) B.list (by decide +kernel) rfl) a_nil))) (d_isi kit_list (by rfl) B.isinstance (a_cons (dv 0) (a_cons (d_bltn (v := .ty "list") (by rfl) B.list (by decide +kernel) rfl) a_nil)))))))
      (ss_one (s_ret d_bl))
      ss_nil)
      (ss_cons (s_if (t_ne hr.units (d_len (by rfl) B.len (a_cons (dv 0) a_nil)) (d_len (by rfl) B.len (a_cons (dv 1) a_nil)))
      (ss_one (s_ret d_bl))
      ss_nil)
      (ss_cons (s_for (i_r1 (by rfl) B.range (a_cons (d_len (by rfl) B.len (a_cons (dv 1) a_nil)) a_nil)) (g_name (i := 2) sc__law_like.nd)
      (ss_one (s_if (t_not (t_val (d_callF D (hr.mono (by omega)) (by rfl) (a_cons (d_ix (hu_of hr) (dv 0) (dv 2)) (a_cons (d_ix (hu_of hr) (dv 1) (dv 2)) a_nil)))))
      (ss_one (s_ret d_bl))
      ss_nil)))
      (ss_one (s_ret d_bl)))))))))
    , ?_⟩
  intro rs S C hl h
  obtain ⟨a, b, d, rfl, va, vb, hd, nd, h⟩ := h
  have seqc : ∀ ds : List PyData, (View S a (.list ds) ∧ View S b (.list ds)) ∨ (View S a (.tuple ds) ∧ View S b (.tuple ds)) → PyData.depthAll ds + 1 ≤ n → (decide (ds.length ≤ 100000) && noDicts ds) = true → (d = .list ds ∨ d = .tuple ds) →
      sSeq (sIf (dTest (dOp fNe (dCB fLen (dCons (dVar 0) dNil)) (dCB fLen (dCons (dVar 1) dNil)))) (sRet (dC (R.dat (PyData.bool false)))) sNext)
        (sSeq (sFor (iR1 (dCons (dCB fLen (dCons (dVar 1) dNil)) dNil)) (gnm 2)
            (sIf (dNot (dTest (dCall 2 spR (dCons (dOp fIx (dVar 0) (dVar 2)) (dCons (dOp fIx (dVar 1) (dVar 2)) dNil))))) (sRet (dC (R.dat (PyData.bool false)))) sNext))
          (sRet (dC (R.dat (PyData.bool true))))) { nx := fun x S => C (R.dat PyData.none) S, rt := C } (startF N__law_like [a, b]) S := by
    intro ds vs hdd hnd _
    have v1 : View S a (.list ds) ∨ View S a (.tuple ds) := vs.imp And.left And.left
    have v2 : View S b (.list ds) ∨ View S b (.tuple ds) := vs.imp And.right And.right
    obtain ⟨hl1, hnd⟩ := Bool.and_eq_true_iff.mp hnd
    have hl2 := of_decide_eq_true hl1
    have hlen : (ds.length : Int) < 2 ^ 62 := by omega
    refine dlen_view (i := 0) rfl v1 ?_
    refine dlen_view (i := 1) rfl v2 ?_
    refine ⟨rfl, iteFb (eqn _) ?_⟩
    refine dlen_view (i := 1) rfl v2 ?_
    refine ⟨⟨by omega, hlen⟩, ?_⟩
    refine ⟨fun i fr S' => S' = S ∧ ∃ c, fr = [some a, some b, c], ⟨rfl, none, rfl⟩, ?_, ?_⟩
    · rintro i r fr S' hi ⟨rfl, c, rfl⟩
      obtain ⟨hlt, rfl⟩ := rng_get hi
      have hi' : i < ds.length := by omega
      have e0 : (0 : Int) + (i : Int) = (i : Int) := Int.zero_add _
      rw [e0]
      have ed : ds[i]? = some ds[i] := List.getElem?_eq_getElem hi'
      refine dix_view (i := 0) (j := 2) rfl rfl v1 ed fun r1 w1 => ?_
      refine dix_view (i := 1) (j := 2) rfl rfl v2 ed fun r2 w2 => ⟨rfl, ?_⟩
      obtain ⟨m, hm⟩ : ∃ m, m + 1 = n := ⟨n - 1, by omega⟩
      have hde := depth_at ed
      refine hR m _ _ _ hm ⟨r1, r2, ds[i], rfl, w1, w2, by omega, noDicts_at hnd ed, ?_⟩
      exact ⟨rfl, _, rfl⟩
    · rintro fr S' ⟨rfl, c, rfl⟩
      exact h
  have ka : ∀ k, kdOf d = some k → kdR S a k := fun k hk => kd_view va hk
  have kb : ∀ k, kdOf d = some k → kdR S b k := fun k hk => kd_view vb hk
  cases d with
  | none =>
    have k1 := ka _ rfl
    have k2 := kb _ rfl
    cases va
    cases vb
    walk_at "dl"
    exact h
  | bool x =>
    have k1 := ka _ rfl
    have k2 := kb _ rfl
    cases va
    cases vb
    walk_at "dl"
    have e := eqv_refl_scal (d := .bool x) rfl
    refine ⟨rfl, ?_⟩
    rw [e]
    exact h
  | int x =>
    have k1 := ka _ rfl
    have k2 := kb _ rfl
    cases va
    cases vb
    walk_at "dl"
    have e := eqv_refl_scal (d := .int x) rfl
    refine ⟨rfl, ?_⟩
    rw [e]
    exact h
  | str x =>
    have k1 := ka _ rfl
    have k2 := kb _ rfl
    cases va
    cases vb
    walk_at "dl"
    have e := eqv_refl_scal (d := .str x) rfl
    refine ⟨rfl, ?_⟩
    rw [e]
    exact h
  | list ds =>
    have k1 := ka _ rfl
    have k2 := kb _ rfl
    have en := isNone_view vb (fun z => nomatch z)
    walk_at "dl"
    refine iteFb en ?_
    walk_at "dl"
    refine ⟨rfl, iteFb (eqk _) ?_⟩
    walk_at "dl"
    refine ⟨rfl, iteFb (eqk _) ?_⟩
    refine seqc ds (.inl ⟨va, vb⟩) (by rw [PyData.depth] at hd; exact hd) (by rw [noDict] at nd; exact nd) (.inl rfl)
  | tuple ds =>
    have k1 := ka _ rfl
    have k2 := kb _ rfl
    have en := isNone_view vb (fun z => nomatch z)
    walk_at "dl"
    refine iteFb en ?_
    walk_at "dl"
    refine ⟨rfl, iteFb (eqk _) ?_⟩
    walk_at "dl"
    refine ⟨rfl, iteFb (eqk _) ?_⟩
    refine seqc ds (.inr ⟨va, vb⟩) (by rw [PyData.depth] at hd; exact hd) (by rw [noDict] at nd; exact nd) (.inr rfl)
  | dict kvs => cases nd
theorem ok_like (F : FunAt K mg "_law_like" s__law_like ["_law_found", "_law_due"]) (B : Blt mg) : ∀ n : Nat, Def P w K mg base "_law_like" (n + 1) 2 (spLike n)
  | 0 => like_body F B (Def.never F) fun m _ _ _ h _ => by omega
  | n + 1 => like_body F B (ok_like F B n) fun m rs S C h q => by
    have e : m = n := by omega
    subst e
    exact q
end
end K16
namespace K16
open DL
/-! ### the mathematics: the order -/
theorem lexI_irrefl' : ∀ xs : List Int, lexI xs xs = false
  | [] => rfl
  | x :: xs => by unfold lexI; rw [if_pos rfl]; exact lexI_irrefl' xs
theorem lexI_tri : ∀ xs ys : List Int, lexI xs ys = false → lexI ys xs = false → xs = ys
  | [], [], _, _ => rfl
  | [], _ :: _, h, _ => by simp [lexI] at h
  | _ :: _, [], _, h => by simp [lexI] at h
  | x :: xs, y :: ys, h, g => by
    unfold lexI at h g
    by_cases e : x = y
    · rw [if_pos e] at h
      rw [if_pos e.symm] at g
      rw [e, lexI_tri xs ys h g]
    · rw [if_neg e] at h
      rw [if_neg (Ne.symm e)] at g
      have h1 := of_decide_eq_false h
      have h2 := of_decide_eq_false g
      omega
theorem lexI_tr : ∀ xs ys zs : List Int, lexI ys xs = false → lexI zs ys = false → lexI zs xs = false
  | [], _, [], _, _ => rfl
  | [], [], _ :: _, _, _ => rfl
  | [], _ :: _, _ :: _, h, g => rfl
  | _ :: _, [], _, h, _ => by simp [lexI] at h
  | _ :: _, _ :: _, [], _, g => by simp [lexI] at g
  | x :: xs, y :: ys, z :: zs, h, g => by
    unfold lexI at h g ⊢
    by_cases e : y = x
    · rw [if_pos e] at h
      by_cases e2 : z = y
      · rw [if_pos e2] at g
        rw [if_pos (e2.trans e)]
        exact lexI_tr xs ys zs h g
      · rw [if_neg e2] at g
        have g' := of_decide_eq_false g
        rw [if_neg (fun q => e2 (q.trans e.symm))]
        exact decide_eq_false (by omega)
    · rw [if_neg e] at h
      have h' := of_decide_eq_false h
      by_cases e2 : z = y
      · rw [if_pos e2] at g
        rw [if_neg (fun q => e (e2.symm.trans q))]
        exact decide_eq_false (by omega)
      · rw [if_neg e2] at g
        have g' := of_decide_eq_false g
        rw [if_neg (by omega)]
        exact decide_eq_false (by omega)
def leCM (x y : CM) : Prop := ltCM y x = false
theorem leCM_refl (x : CM) : leCM x x := by unfold leCM ltCM; rw [if_pos rfl]; exact lexI_irrefl' _
theorem leCM_of_lt {x y : CM} (h : x.1 < y.1) : leCM x y := by unfold leCM ltCM; rw [if_neg (by omega)]; exact decide_eq_false (by omega)
theorem leCM_eq {x y : CM} (h : x.1 = y.1) (g : lexI y.2 x.2 = false) : leCM x y := by unfold leCM ltCM; rw [if_pos h.symm]; exact g
theorem leCM_cases {x y : CM} (h : leCM x y) : x.1 < y.1 ∨ (x.1 = y.1 ∧ lexI y.2 x.2 = false) := by
  unfold leCM ltCM at h
  by_cases e : y.1 = x.1
  · rw [if_pos e] at h; exact .inr ⟨e.symm, h⟩
  · rw [if_neg e] at h
    have := of_decide_eq_false h
    exact .inl (by omega)
theorem leCM_trans {x y z : CM} (h : leCM x y) (g : leCM y z) : leCM x z := by
  rcases leCM_cases h with h1 | ⟨h1, h2⟩
  · rcases leCM_cases g with g1 | ⟨g1, g2⟩
    · exact leCM_of_lt (by omega)
    · exact leCM_of_lt (by omega)
  · rcases leCM_cases g with g1 | ⟨g1, g2⟩
    · exact leCM_of_lt (by omega)
    · exact leCM_eq (by omega) (lexI_tr _ _ _ h2 g2)
theorem leCM_anti {x y : CM} (h : leCM x y) (g : leCM y x) : x = y := by
  rcases leCM_cases h with h1 | ⟨h1, h2⟩
  · rcases leCM_cases g with g1 | ⟨g1, g2⟩
    · omega
    · omega
  · rcases leCM_cases g with g1 | ⟨g1, g2⟩
    · omega
    · exact Prod.ext h1 (lexI_tri _ _ g2 h2)
theorem leCM_lt {x y : CM} (h : ltCM x y = true) : leCM x y := by
  unfold leCM
  unfold ltCM at h ⊢
  by_cases e : x.1 = y.1
  · rw [if_pos e] at h
    rw [if_pos e.symm]
    cases q : lexI y.2 x.2 with
    | false => rfl
    | true =>
      exfalso
      have h1 : lexI x.2 y.2 = false ∨ lexI y.2 x.2 = false := by
        clear h q e
        generalize x.2 = xs
        generalize y.2 = ys
        induction xs generalizing ys with
        | nil => cases ys with
          | nil => exact .inl rfl
          | cons => exact .inr rfl
        | cons a xs ih => cases ys with
          | nil => exact .inl rfl
          | cons b ys =>
            unfold lexI
            by_cases e : a = b
            · rw [if_pos e, if_pos e.symm]; exact ih ys
            · rw [if_neg e, if_neg (Ne.symm e)]
              by_cases l : a < b
              · exact .inr (decide_eq_false (by omega))
              · exact .inl (decide_eq_false l)
      rcases h1 with h1 | h1
      · rw [h1] at h; cases h
      · rw [h1] at q; cases q
  · rw [if_neg e] at h
    rw [if_neg (Ne.symm e)]
    have := of_decide_eq_true h
    exact decide_eq_false (by omega)
theorem better_le (a x : CM) : leCM (better a x) a ∧ leCM (better a x) x ∧ (better a x = a ∨ better a x = x) := by
  unfold better
  cases h : ltCM x a with
  | true => rw [if_pos rfl]; exact ⟨leCM_lt h, leCM_refl _, .inr rfl⟩
  | false => rw [if_neg Bool.false_ne_true]; exact ⟨leCM_refl _, h, .inl rfl⟩
/-! ### marks behind a mark -/
def Valid (n : Int) : Int → List Int → Prop
  | _, [] => True
  | b, m :: ms => b < m ∧ m < n ∧ Valid n m ms
def cF (ws fs : List Int) (pr : Int) : Int → List Int → Int
  | b, [] => redone ws fs b (ws.length + 1)
  | b, m :: ms => redone ws fs b m + pr + cF ws fs pr m ms
structure Best (ws fs : List Int) (pr b : Int) (x : CM) : Prop where
  ex : ∃ ms, Valid ws.length b ms ∧ x = (cF ws fs pr b ms, ms)
  le : ∀ ms, Valid ws.length b ms → leCM x (cF ws fs pr b ms, ms)
theorem inner_min (ws fs : List Int) (pr b : Int) (val : Int → CM) : ∀ k : Nat, leCM (inner ws fs pr b val k) (redone ws fs b (ws.length + 1), []) ∧ (∀ i : Nat, i < k → leCM (inner ws fs pr b val k) (cand ws fs pr b val (b + 1 + i))) ∧
    (inner ws fs pr b val k = (redone ws fs b (ws.length + 1), []) ∨ ∃ i : Nat, i < k ∧ inner ws fs pr b val k = cand ws fs pr b val (b + 1 + i))
  | 0 => ⟨leCM_refl _, fun i hi => absurd hi (Nat.not_lt_zero i), .inl rfl⟩
  | k + 1 => by
    obtain ⟨h1, h2, h3⟩ := inner_min ws fs pr b val k
    rw [inner_succ]
    obtain ⟨b1, b2, b3⟩ := better_le (inner ws fs pr b val k) (cand ws fs pr b val (b + 1 + k))
    refine ⟨leCM_trans b1 h1, fun i hi => ?_, ?_⟩
    · by_cases e : i = k
      · subst e; exact b2
      · exact leCM_trans b1 (h2 i (by omega))
    · rcases b3 with b3 | b3
      · rw [b3]
        rcases h3 with h3 | ⟨i, hi, h3⟩
        · exact .inl h3
        · exact .inr ⟨i, by omega, h3⟩
      · rw [b3]
        exact .inr ⟨k, by omega, rfl⟩
theorem best_of (ws fs : List Int) (pr : Int) (val : Int → CM) (h : Rec ws fs pr val 0) : ∀ (k : Nat) (b : Int), 0 ≤ b → b ≤ max 0 ((ws.length : Int) - 1) → ((ws.length : Int) - b).toNat ≤ k → Best ws fs pr b (val b)
  | 0, b, h0, h1, hk => by
    have hn : ws.length = 0 := by omega
    have hb : b = 0 := by omega
    rw [h b h0 h1]
    have e : ((ws.length : Int) - (b + 1)).toNat = 0 := by omega
    rw [e]
    refine ⟨⟨[], True.intro, rfl⟩, fun ms hv => ?_⟩
    cases ms with
    | nil => exact leCM_refl _
    | cons m ms => have := hv.1; have := hv.2.1; omega
  | k + 1, b, h0, h1, hk => by
    rw [h b h0 h1]
    obtain ⟨g1, g2, g3⟩ := inner_min ws fs pr b val ((ws.length : Int) - (b + 1)).toNat
    have ih : ∀ m, b < m → m < ws.length → Best ws fs pr m (val m) := fun m hm hm2 => best_of ws fs pr val h k m (by omega) (by omega) (by omega)
    refine ⟨?_, fun ms hv => ?_⟩
    · rcases g3 with g3 | ⟨i, hi, g3⟩
      · exact ⟨[], True.intro, g3⟩
      · obtain ⟨ms, hv, e⟩ := (ih (b + 1 + i) (by omega) (by omega)).ex
        refine ⟨(b + 1 + i) :: ms, ⟨by omega, by omega, hv⟩, ?_⟩
        rw [g3]
        unfold cand cF
        rw [e]
    · cases ms with
      | nil => exact g1
      | cons m ms =>
        obtain ⟨v1, v2, v3⟩ := hv
        have em : m = b + 1 + ((m - (b + 1)).toNat : Int) := by omega
        refine leCM_trans (g2 (m - (b + 1)).toNat (by omega)) ?_
        rw [← em]
        rcases leCM_cases ((ih m v1 v2).le ms v3) with q | ⟨q1, q2⟩
        · exact leCM_of_lt (by show _ < redone ws fs b m + pr + cF ws fs pr m ms; show redone ws fs b m + pr + (val m).1 < _; have : (val m).1 < cF ws fs pr m ms := q; omega)
        · refine leCM_eq (by show redone ws fs b m + pr + (val m).1 = redone ws fs b m + pr + cF ws fs pr m ms; have : (val m).1 = cF ws fs pr m ms := q1; omega) ?_
          show lexI (m :: ms) (m :: (val m).2) = false
          unfold lexI
          rw [if_pos rfl]
          exact q2
/-! ### the cost by falls -/
/-- the last of b :: ms that is at f or ahead of it -/
def atF (f : Int) : Int → List Int → Int
  | b, [] => b
  | b, m :: ms => if m ≤ f then atF f m ms else b
def cost (ws fs : List Int) (pr : Int) (b : Int) (ms : List Int) : Int := pr * ms.length + ((fs.filter fun f => decide (b ≤ f)).map fun f => (cutD ws (some (atF f b ms)) (some f)).sum).sum
theorem cost_cF (ws fs : List Int) (pr : Int) (hf : ∀ f ∈ fs, f ≤ ws.length) : ∀ (ms : List Int) (b : Int), Valid ws.length b ms → cost ws fs pr b ms = cF ws fs pr b ms
  | [], b, _ => by
    unfold cost cF redone
    have e : fs.filter (fun f => decide (b ≤ f)) = fs.filter fun f => decide (b ≤ f) && decide (f < (ws.length : Int) + 1) := by
      apply List.filter_congr
      intro f h
      have := hf f h
      have e2 : decide (f < (ws.length : Int) + 1) = true := decide_eq_true (by omega)
      rw [e2, Bool.and_true]
    rw [e]
    simp [atF]
  | m :: ms, b, ⟨h1, h2, h3⟩ => by
    unfold cF
    rw [← cost_cF ws fs pr hf ms m h3]
    unfold cost redone
    have key : ∀ (g : List Int), ((g.filter fun f => decide (b ≤ f)).map fun f => (cutD ws (some (atF f b (m :: ms))) (some f)).sum).sum =
        ((g.filter fun f => decide (b ≤ f) && decide (f < m)).map fun f => (cutD ws (some b) (some f)).sum).sum + ((g.filter fun f => decide (m ≤ f)).map fun f => (cutD ws (some (atF f m ms)) (some f)).sum).sum := by
      intro g
      induction g with
      | nil => rfl
      | cons f g ih =>
        rw [List.filter_cons, List.filter_cons, List.filter_cons]
        by_cases c1 : b ≤ f
        · by_cases c2 : f < m
          · have c3 : ¬ m ≤ f := by omega
            have ea : atF f b (m :: ms) = b := by unfold atF; rw [if_neg c3]
            rw [if_pos (by simp [c1]), if_pos (by simp [c1, c2]), if_neg (by simp; omega), List.map_cons, List.map_cons, List.sum_cons, List.sum_cons, ea, ih]
            omega
          · have c3 : m ≤ f := by omega
            have ea : atF f b (m :: ms) = atF f m ms := by rw [atF, if_pos c3]
            rw [if_pos (by simp [c1]), if_neg (by simp [c2]), if_pos (by simp [c3]), List.map_cons, List.map_cons, List.sum_cons, List.sum_cons, ea, ih]
            omega
        · rw [if_neg (by simp [c1]), if_neg (by simp [c1]), if_neg (by simp; omega)]
          exact ih
    rw [key fs, List.length_cons]
    have e3 : pr * ((ms.length + 1 : Nat) : Int) = pr + pr * ms.length := by
      rw [Int.natCast_succ, Int.mul_add]; omega
    rw [e3]
    omega
/-! ### all lists of marks -/
def every : Nat → List (List Int)
  | 0 => [[]]
  | k + 1 => every k ++ (every k).map (· ++ [((k + 1 : Nat) : Int)])
theorem valid_snoc (n : Int) : ∀ (ms : List Int) (b : Int), Valid n b ms → Valid (n + 1) b ms ∧ (b < n → Valid (n + 1) b (ms ++ [n]))
  | [], b, _ => ⟨True.intro, fun h => ⟨h, by omega, True.intro⟩⟩
  | m :: ms, b, ⟨h1, h2, h3⟩ => by
    obtain ⟨a, c⟩ := valid_snoc n ms m h3
    exact ⟨⟨h1, by omega, a⟩, fun _ => ⟨h1, by omega, c h2⟩⟩
theorem valid_split (n : Int) : ∀ (ms : List Int) (b : Int), Valid (n + 1) b ms → Valid n b ms ∨ ∃ ms', ms = ms' ++ [n] ∧ Valid n b ms'
  | [], b, _ => .inl True.intro
  | m :: ms, b, ⟨h1, h2, h3⟩ => by
    by_cases e : m = n
    · subst e
      cases ms with
      | nil => exact .inr ⟨[], rfl, True.intro⟩
      | cons m' ms' => have := h3.1; have := h3.2.1; omega
    · rcases valid_split n ms m h3 with q | ⟨ms', q1, q2⟩
      · exact .inl ⟨h1, by omega, q⟩
      · exact .inr ⟨m :: ms', by rw [q1]; rfl, h1, by omega, q2⟩
theorem mem_every : ∀ (k : Nat) (ms : List Int), ms ∈ every k ↔ Valid ((k : Int) + 1) 0 ms
  | 0, ms => by
    unfold every
    rw [List.mem_singleton]
    constructor
    · rintro rfl; exact True.intro
    · intro h
      cases ms with
      | nil => rfl
      | cons m ms => have := h.1; have := h.2.1; omega
  | k + 1, ms => by
    unfold every
    rw [List.mem_append, List.mem_map]
    constructor
    · rintro (h | ⟨ms', h, rfl⟩)
      · have := (valid_snoc _ _ _ ((mem_every k ms).mp h)).1
        exact this
      · have := (valid_snoc _ _ _ ((mem_every k ms').mp h)).2 (by omega)
        exact this
    · intro h
      rw [show ((k + 1 : Nat) : Int) + 1 = (k : Int) + 1 + 1 from by omega] at h
      rcases valid_split ((k : Int) + 1) ms 0 h with q | ⟨ms', q1, q2⟩
      · exact .inl ((mem_every k ms).mpr q)
      · exact .inr ⟨ms', (mem_every k ms').mpr q2, q1.symm⟩
theorem every_ne (k : Nat) : every k ≠ [] := by
  intro h
  have := (mem_every k []).mpr True.intro
  rw [h] at this
  exact absurd this (by simp)
theorem every_len : ∀ k : Nat, (every k).length = 2 ^ k
  | 0 => rfl
  | k + 1 => by unfold every; rw [List.length_append, List.length_map, every_len k, Nat.pow_succ]; omega
theorem valid_len (n : Int) : ∀ (ms : List Int) (b : Int), Valid n b ms → b < n → (ms.length : Int) < n - b
  | [], b, _, hb => by simp; omega
  | m :: ms, b, ⟨h1, h2, h3⟩, hb => by
    have := valid_len n ms m h3 h2
    rw [List.length_cons]; omega
end K16
set_option Elab.async false
set_option linter.all false
set_option maxRecDepth 100000
set_option maxHeartbeats 4000000
namespace K16
open PySem PySem.Spec PyProof.Rows L2 DL
local macro_rules | `(tactic| walk_at "dl") => `(tactic| repeat (first | refine ⟨_, rfl, ?_⟩ | refine ⟨rfl, _, by assumption, ?_⟩ | refine iteT ?_ | refine iteF ?_))
section
variable {P : Program} {w : World} {K : Fg} {mg : Str → Option Value} {base : Heap}
/-! _law_plan -/
def spPlan : SpD := fun rs S C => ∃ (D : Addr) (most : Int) (j : Nat), rs = [.val (.ref D), .dat (.int most)] ∧ S[j]? = some (dice D) ∧ 0 ≤ most ∧ most ≤ 60 ∧
  ∀ ws fs pr, PlanOk ws fs pr → (ws.length : Int) ≤ most → C (.dat (.tuple [.list (ws.map PyData.int), .list (fs.map PyData.int), .int pr])) S
abbrev s__law_plan : Stmt := topS 29
abbrev N__law_plan : List Str := ["_law_d", "_law_most", "_law_wide", "_law_weights", "_law_many", "_law_falls", "_law_k"]
theorem sc__law_plan : FnScope N__law_plan ["_law_d", "_law_most"] (defScope s__law_plan) := ⟨rfl, rfl, rfl, by decide +kernel, rfl, by decide +kernel, by decide +kernel⟩
theorem ok_plan {k : Nat} (F : FunAt K mg "_law_plan" s__law_plan ["_law_d", "_law_most"]) (B : Blt mg) (D1 : Def P w K mg base "_law_next" 1 2 spNext) : Def P w K mg base "_law_plan" (k + 2) 2 spPlan := by
  refine okF F sc__law_plan rfl fun cdv A outer s H E f hr => ⟨_,
    (ss_cons (s_set (i := 2) sc__law_plan.nd (d_ix (hu_of hr) (d_lst (a_cons d_int (a_cons d_int a_nil))) (d_callF D1 (hr.mono (by omega)) (by rfl) (a_cons (dv 0) (a_cons d_int a_nil)))))
      (ss_cons (s_set (i := 3) sc__law_plan.nd (d_lc sc__law_plan.nd (i := 6) (i_r1 (by rfl) B.range (a_cons (d_callF D1 (hr.mono (by omega)) (by rfl) (a_cons (dv 0) (a_cons (d_add (dv 1) d_int) a_nil))) a_nil)) (blkOk_by (N := N__law_plan) (sc := defScope s__law_plan) (own := [("_law_k", 6)]) (by decide +kernel)) (fun _ _ _ _ _ => pg_name (i := 6) sc__law_plan.nd rfl (Or.inl rfl)) (fun _ _ _ _ _ => ts_nil) (fun _ _ _ _ _ => (d_add d_int (d_callF D1 (hr.mono (by omega)) (by rfl) (a_cons (dv 0) (a_cons (dv 2) a_nil)))))))
      (ss_cons (s_set (i := 4) sc__law_plan.nd (d_ix (hu_of hr) (d_lst (a_cons (d_callF D1 (hr.mono (by omega)) (by rfl) (a_cons (dv 0) (a_cons d_int a_nil))) (a_cons (d_callF D1 (hr.mono (by omega)) (by rfl) (a_cons (dv 0) (a_cons d_int a_nil))) a_nil))) (d_callF D1 (hr.mono (by omega)) (by rfl) (a_cons (dv 0) (a_cons d_int a_nil)))))
      (ss_cons (s_set (i := 5) sc__law_plan.nd (d_sorted (by rfl) B.sorted (a_cons (d_lc sc__law_plan.nd (i := 6) (i_r1 (by rfl) B.range (a_cons (dv 4) a_nil)) (blkOk_by (N := N__law_plan) (sc := defScope s__law_plan) (own := [("_law_k", 6)]) (by decide +kernel)) (fun _ _ _ _ _ => pg_name (i := 6) sc__law_plan.nd rfl (Or.inl rfl)) (fun _ _ _ _ _ => ts_nil) (fun _ _ _ _ _ => (d_callF D1 (hr.mono (by omega)) (by rfl) (a_cons (dv 0) (a_cons (d_add (d_len (by rfl) B.len (a_cons (dv 3) a_nil)) d_int) a_nil))))) a_nil)))
      (ss_one (s_ret (d_tup (a_cons (dv 3) (a_cons (dv 5) (a_cons (d_ix (hu_of hr) (d_lst (a_cons (d_callF D1 (hr.mono (by omega)) (by rfl) (a_cons (dv 0) (a_cons d_int a_nil))) (a_cons (d_callF D1 (hr.mono (by omega)) (by rfl) (a_cons (dv 0) (a_cons d_int a_nil))) (a_cons (d_callF D1 (hr.mono (by omega)) (by rfl) (a_cons (dv 0) (a_cons d_int a_nil))) a_nil)))) (d_callF D1 (hr.mono (by omega)) (by rfl) (a_cons (dv 0) (a_cons d_int a_nil)))) a_nil))))))))))
    , ?_⟩
  intro rs S C hl h
  obtain ⟨D, most, j, rfl, hj, hm0, hm1, h⟩ := h
  refine ⟨by simp, _, rfl, dnext (D := D) (j := j) rfl hj (by decide) (by decide) fun r1 h10 h11 => ?_⟩
  obtain ⟨wd, e1, m1⟩ := pick (ds := [PyData.int 3, PyData.int 99]) h10 h11
  refine ⟨wd, e1, ?_⟩
  obtain ⟨wide, rfl, hw0, hw1⟩ : ∃ n : Int, wd = .int n ∧ 0 < n ∧ n ≤ 99 := by
    rcases List.mem_cons.mp m1 with rfl | m1
    · exact ⟨3, rfl, by decide, by decide⟩
    · cases List.mem_singleton.mp m1; exact ⟨99, rfl, by decide, by decide⟩
  refine dnextE (D := D) (j := j) (most + 1) rfl hj (fun C' q => ⟨_, rfl, q⟩) (by omega) (by omega) fun nw hn0 hn1 => ?_
  refine ⟨⟨by omega, by omega⟩, lc_nd (fun y => ∃ i : Int, y = .dat (.int i) ∧ 1 ≤ i ∧ i ≤ wide) (fun k r hk C' q => ?_) (by rw [rng_len]; omega) fun acc hacc hP => ?_⟩
  · refine dnextV (D := D) (j := j) (m := 2) rfl rfl hj (by omega) (by omega) fun x x0 x1 => ?_
    exact q _ ⟨1 + x, rfl, by omega, by omega⟩
  obtain ⟨ws, rfl, hws⟩ := ints_of_acc hP
  rw [List.length_map, rng_len] at hacc
  refine ⟨_, dats_ints ws, ?_⟩
  refine dnext (D := D) (j := j) rfl hj (by decide) (by decide) fun n1 _ n11 => ?_
  refine dnext (D := D) (j := j) rfl hj (by decide) (by decide) fun n2 _ n21 => ?_
  refine ⟨by simp, _, rfl, dnext (D := D) (j := j) rfl hj (by decide) (by decide) fun r2 h20 h21 => ?_⟩
  obtain ⟨md, e2, m2⟩ := pick (ds := [PyData.int n1, PyData.int n2]) h20 h21
  refine ⟨md, e2, ?_⟩
  obtain ⟨many, rfl, hm2, hm3⟩ : ∃ n : Int, md = .int n ∧ 0 ≤ n ∧ n ≤ 20 := by
    rcases List.mem_cons.mp m2 with rfl | m2
    · exact ⟨n1, rfl, by omega, by omega⟩
    · cases List.mem_singleton.mp m2; exact ⟨n2, rfl, by omega, by omega⟩
  refine ⟨_, rfl, ⟨by omega, by omega⟩, lc_nd (fun y => ∃ i : Int, y = .dat (.int i) ∧ 0 ≤ i ∧ i ≤ ws.length) (fun k r hk C' q => ?_) (by rw [rng_len]; omega) fun acc2 hacc2 hP2 => ?_⟩
  · refine dnextE (D := D) (j := j) ((ws.length : Int) + 1) rfl hj (fun C' q => ⟨_, rfl, by show C' (.dat (.int (((ws.map PyData.int).length : Int) + 1))) S; rw [List.length_map]; exact q⟩) (by omega) (by omega) fun x x0 x1 => ?_
    exact q _ ⟨x, rfl, by omega, by omega⟩
  obtain ⟨fs0, rfl, hfs0⟩ := ints_of_acc hP2
  rw [List.length_map, rng_len] at hacc2
  refine ⟨_, dats_ints fs0, fs0, intsOf_map _, fun fs hperm hsort => ?_⟩
  have hfl := hperm.length_eq
  refine ⟨_, rfl, _, rfl, ?_⟩
  refine dnext (D := D) (j := j) rfl hj (by decide) (by decide) fun p1 _ p11 => ?_
  refine dnext (D := D) (j := j) rfl hj (by decide) (by decide) fun p2 _ p21 => ?_
  refine dnext (D := D) (j := j) rfl hj (by decide) (by decide) fun p3 _ p31 => ?_
  refine ⟨by simp, _, rfl, dnext (D := D) (j := j) rfl hj (by decide) (by decide) fun r3 h30 h31 => ?_⟩
  obtain ⟨pd, e3, m3⟩ := pick (ds := [PyData.int p1, PyData.int p2, PyData.int p3]) h30 h31
  refine ⟨pd, e3, ?_⟩
  obtain ⟨pr, rfl, hp0, hp1⟩ : ∃ n : Int, pd = .int n ∧ 0 ≤ n ∧ n ≤ 999 := by
    rcases List.mem_cons.mp m3 with rfl | m3
    · exact ⟨p1, rfl, by omega, by omega⟩
    · rcases List.mem_cons.mp m3 with rfl | m3
      · exact ⟨p2, rfl, by omega, by omega⟩
      · cases List.mem_singleton.mp m3; exact ⟨p3, rfl, by omega, by omega⟩
  refine ⟨by simp, _, rfl, h ws fs pr ⟨fun w hw => ?_, by omega, fun f hf => ?_, hsort, by omega, hp0, hp1⟩ (by omega)⟩
  · have := hws w hw; omega
  · exact hfs0 f (hperm.mem_iff.mp hf)
end
end K16
set_option Elab.async false
set_option linter.all false
set_option maxRecDepth 100000
set_option maxHeartbeats 4000000
namespace K16
open PySem PySem.Spec PyProof.Rows L2 DL
section
variable {P : Program} {w : World} {K : Fg} {mg : Str → Option Value} {base : Heap}
/-! what is told, frozen -/
theorem Def.wk {x : Str} {k n : Nat} {sp : SpD} (d : Def P w K mg base x k n sp) : Def P w K mg base x k n (fun rs S C => sp rs S (WkC C)) := by
  obtain ⟨f, fd, ps, a, b⟩ := d.ex
  exact ⟨f, fd, ps, a.imp fun vs H Q E ⟨hl, F, S, L, rs, C, o, lv, hs, q⟩ => ⟨hl, F, S, L, rs, WkC C, o, lv, hs, fun v r S' H' o' ⟨r2, S2, hw, h2⟩ => q v r2 S2 H' (hw K F H' L v o') h2⟩, b⟩
theorem dats_iR (ns : List Int) : dats (iR ns) = some (ns.map PyData.int) := by
  have : iR ns = (ns.map PyData.int).map R.dat := by unfold iR; rw [List.map_map]; rfl
  rw [this]; exact dats_map _
theorem wkn_cm {x : CM} {q : Addr} {S : SH} : Wkn (tpR x q) (.lst q (iR x.2) :: S) (.dat (CM.dat x)) S := by
  intro K F H L v o
  have o3 : Ok K H (S ++ F) ((V.ref q, R.dat (.list (x.2.map PyData.int))) :: (v, tpR x q) :: L) := Ok.frz (i := 0) o rfl (dats_iR x.2)
  have hn := o3.dat (v := .ref q) List.mem_cons_self
  have hv := o3.live (v, tpR x q) (List.mem_cons_of_mem _ List.mem_cons_self)
  obtain ⟨a, vs, rfl, ha, hq⟩ := (show ∃ a vs, v = .ref a ∧ (H a = some (.tup vs) ∨ KTup K a vs) ∧ RepRl K _ H vs _ from hv)
  have o4 : Ok K H (S ++ F) L := o3.sub fun z hz => List.mem_cons_of_mem _ (List.mem_cons_of_mem _ hz)
  refine o4.pd (.tup ha ?_)
  have hq' := hq.pair
  cases hq' with | cons q1 t => cases t with | cons q2 t =>
  cases t
  cases q2
  exact .cons q1 (.cons hn .nil)
def spBestD : SpD := fun rs S C => ∃ ws fs pr, rs = [.dat (.list (ws.map PyData.int)), .dat (.list (fs.map PyData.int)), .dat (.int pr)] ∧ PlanOk ws fs pr ∧
  ∀ val, Rec ws fs pr val 0 → C (.dat (CM.dat (val 0))) S
theorem best_frz {k : Nat} (d : Def P w K mg base "best" k 3 spBest) : Def P w K mg base "best" k 3 spBestD :=
  Def.imp (Def.wk d) fun rs S C _ ⟨ws, fs, pr, e, ok, h⟩ => ⟨ws, fs, pr, e, ok, fun val q hr => ⟨_, _, wkn_cm, h val hr⟩⟩
/-! need_marks -/
def spNeedMarks : SpD := fun rs S C => ∃ ws ms : List Int, rs = [.dat (.list (ws.map PyData.int)), .dat (.list (ms.map PyData.int))] ∧ ms.length ≤ 1000 ∧ Valid (ws.length : Int) 0 ms ∧ C (.dat .none) S
theorem valid_drop {n : Int} : ∀ (ms : List Int) (b : Int) (i : Nat) (x : Int), Valid n b ms → ms[i]? = some x → (if i = 0 then b else ms.getD (i - 1) 0) < x ∧ x < n
  | [], _, _, _, _, e => by simp at e
  | m :: ms, b, 0, x, ⟨h1, h2, h3⟩, e => by simp at e; subst e; exact ⟨h1, h2⟩
  | m :: ms, b, i + 1, x, ⟨h1, h2, h3⟩, e => by
    have ih := valid_drop ms m i x h3 (by simpa using e)
    rw [if_neg (by omega)]
    cases i with
    | zero => simpa using ih
    | succ i => simpa using ih
abbrev s_need_marks : Stmt := topS 20
abbrev N_need_marks : List Str := ["weights", "marks", "last", "number", "mark"]
theorem sc_need_marks : FnScope N_need_marks ["weights", "marks"] (defScope s_need_marks) := ⟨rfl, rfl, rfl, by decide +kernel, rfl, by decide +kernel, by decide +kernel⟩
theorem ok_need_marks {k : Nat} (F : FunAt K mg "need_marks" s_need_marks ["weights", "marks"]) (B : Blt mg) (D1 : Def P w K mg base "is_number" 1 3 spIsNumber) :
    Def P w K mg base "need_marks" (k + 2) 2 spNeedMarks := by
  refine okF F sc_need_marks rfl fun cdv A outer s H E f hr => ⟨_,
    (ss_cons (s_set (i := 2) sc_need_marks.nd d_int)
      (ss_one (s_for (i_enum (by rfl) B.enumerate (a_cons (dv 1) a_nil)) (g_tup (gs_cons (g_name (i := 3) sc_need_marks.nd) (gs_cons (g_name (i := 4) sc_need_marks.nd) gs_nil)))
      (ss_cons (s_if (t_not (t_val (d_callF D1 (hr.mono (by omega)) (by rfl) (a_cons (dv 4) (a_cons (d_add (dv 2) d_int) (a_cons (d_sub (d_len (by rfl) B.len (a_cons (dv 0) a_nil)) d_int) a_nil))))))
      (ss_one s_never)
      ss_nil)
      (ss_one (s_set (i := 2) sc_need_marks.nd (dv 4)))))))
    , ?_⟩
  intro rs S C hl h
  obtain ⟨ws, ms, rfl, hml, hv, h⟩ := h
  refine ⟨_, rfl, fun i fr S'' => S'' = S ∧ ∃ (a b : Option R), fr = [some (.dat (.list (ws.map PyData.int))), some (.dat (.list (ms.map PyData.int))), some (.dat (.int (if i = 0 then 0 else ms.getD (i - 1) 0))), a, b], ⟨rfl, _, _, rfl⟩, ?_, ?_⟩
  · rintro i r fr S' hi ⟨rfl, a, b, rfl⟩
    obtain ⟨d, hd, rfl⟩ := enum_get hi
    obtain ⟨x, hx, rfl⟩ := get_ints hd
    obtain ⟨h1, h2⟩ := valid_drop ms 0 i x hv hx
    refine ⟨rfl, rfl, _, rfl, _, rfl, _, rfl, rfl, _, _, _, rfl, (fun z => nomatch z), iteFb (isNum_yes ⟨by omega, by rw [List.length_map]; omega⟩) ?_⟩
    refine ⟨_, rfl, rfl, some (.dat (.int i)), some (.dat (.int x)), ?_⟩
    have en : (if i + 1 = 0 then (0 : Int) else ms.getD (i + 1 - 1) 0) = x := by
      rw [if_neg (by omega), Nat.add_sub_cancel, List.getD_eq_getElem?_getD, hx]; rfl
    rw [en]
    rfl
  · rintro fr S' ⟨rfl, a, b, rfl⟩
    exact h
/-! cost -/
def upto (ws fs es : List Int) (k : Nat) : Int := ((List.range k).map fun j => redone ws fs (es.getD j 0) (es.getD (j + 1) 0)).sum
theorem upto_succ (ws fs es : List Int) (k : Nat) : upto ws fs es (k + 1) = upto ws fs es k + redone ws fs (es.getD k 0) (es.getD (k + 1) 0) := by
  unfold upto
  rw [List.range_succ, List.map_append, List.sum_append]
  simp
theorem upto_cons (ws fs : List Int) (b : Int) (es : List Int) : ∀ k : Nat, upto ws fs (b :: es) (k + 1) = redone ws fs b (es.getD 0 0) + upto ws fs es k
  | 0 => by simp [upto]
  | k + 1 => by
    rw [upto_succ, upto_cons ws fs b es k, upto_succ]
    simp only [List.getD_cons_succ]
    omega
theorem upto_cF (ws fs : List Int) (pr : Int) : ∀ (ms : List Int) (b : Int), pr * ms.length + upto ws fs (b :: (ms ++ [(ws.length : Int) + 1])) (ms.length + 1) = cF ws fs pr b ms
  | [], b => by
    rw [List.nil_append, List.length_nil, upto_cons]
    simp [upto, cF]
  | m :: ms, b => by
    rw [List.length_cons, upto_cons, cF, ← upto_cF ws fs pr ms m]
    have e3 : pr * ((ms.length + 1 : Nat) : Int) = pr + pr * ms.length := by
      rw [Int.natCast_succ, Int.mul_add]; omega
    rw [e3]
    simp only [List.cons_append, List.getD_cons_zero]
    omega
def spCostP : SpD := fun rs S C => ∃ ws fs pr ms, rs = [.dat (.list (ws.map PyData.int)), .dat (.list (fs.map PyData.int)), .dat (.int pr), .dat (.list (ms.map PyData.int))] ∧ PlanOk ws fs pr ∧ Valid ws.length 0 ms ∧ C (.dat (.int (cF ws fs pr 0 ms))) S
theorem valid_len60 {n : Nat} {ms : List Int} (hv : Valid n 0 ms) (hn : n ≤ 60) : ms.length ≤ 60 := by
  by_cases h0 : 0 < n
  · have := valid_len _ ms 0 hv (by omega); omega
  · cases ms with
    | nil => simp
    | cons m ms => have := hv.1; have := hv.2.1; omega
theorem getD_ints {es : List Int} {j : Nat} (h : j < es.length) : (es.map PyData.int)[j]? = some (.int (es.getD j 0)) := by
  rw [List.getElem?_map, List.getElem?_eq_getElem h, List.getD_eq_getElem?_getD, List.getElem?_eq_getElem h]; rfl
abbrev s_cost : Stmt := topS 22
abbrev N_cost : List Str := ["weights", "falls", "price", "marks", "edges", "found", "k"]
theorem sc_cost : FnScope N_cost ["weights", "falls", "price", "marks"] (defScope s_cost) := ⟨rfl, rfl, rfl, by decide +kernel, rfl, by decide +kernel, by decide +kernel⟩
theorem ok_costP {k : Nat} (F : FunAt K mg "cost" s_cost ["weights", "falls", "price", "marks"]) (B : Blt mg) (D1 : Def P w K mg base "need_plan" 2 3 spNeedPlan) (D2 : Def P w K mg base "need_marks" 2 2 spNeedMarks) (D3 : Def P w K mg base "redone" 1 4 spRedone) :
    Def P w K mg base "cost" (k + 3) 4 spCostP := by
  refine okF F sc_cost rfl fun cdv A outer s H E f hr => ⟨_,
    (ss_cons (s_expr (d_callF D1 (hr.mono (by omega)) (by rfl) (a_cons (dv 0) (a_cons (dv 1) (a_cons (dv 2) a_nil)))))
      (ss_cons (s_expr (d_callF D2 (hr.mono (by omega)) (by rfl) (a_cons (dv 0) (a_cons (dv 3) a_nil))))
      (ss_cons (s_set (i := 4) sc_cost.nd (d_add (d_add (d_lst (a_cons d_int a_nil)) (d_list (by rfl) B.list (a_cons (dv 3) a_nil))) (d_lst (a_cons (d_add (d_len (by rfl) B.len (a_cons (dv 0) a_nil)) d_int) a_nil))))
      (ss_cons (s_set (i := 5) sc_cost.nd (d_mul (dv 2) (d_len (by rfl) B.len (a_cons (dv 3) a_nil))))
      (ss_cons (s_for (i_r1 (by rfl) B.range (a_cons (d_sub (d_len (by rfl) B.len (a_cons (dv 4) a_nil)) d_int) a_nil)) (g_name (i := 6) sc_cost.nd)
      (ss_one (s_set (i := 5) sc_cost.nd (d_add (dv 5) (d_callF D3 (hr.mono (by omega)) (by rfl) (a_cons (dv 0) (a_cons (dv 1) (a_cons (d_ix (hu_of hr) (dv 4) (dv 6)) (a_cons (d_ix (hu_of hr) (dv 4) (d_add (dv 6) d_int)) a_nil)))))))))
      (ss_one (s_ret (dv 5))))))))
    , ?_⟩
  intro rs S C hl h
  obtain ⟨ws, fs, pr, ms, rfl, ok, hv, h⟩ := h
  have hp := ok.hp
  have hwl := ok.hwl
  have hfl := ok.hfl
  have hml : ms.length ≤ 60 := valid_len60 hv hwl
  refine ⟨_, rfl, _, rfl, _, rfl, rfl, ws, fs, pr, rfl, ok, ?_⟩
  refine ⟨_, rfl, _, rfl, rfl, ws, ms, rfl, by omega, hv, ?_⟩
  obtain ⟨es, hes⟩ : ∃ es : List Int, es = 0 :: (ms ++ [(ws.length : Int) + 1]) := ⟨_, rfl⟩
  have ee : es.map PyData.int = ([PyData.int 0] ++ ms.map PyData.int) ++ [PyData.int (((ws.map PyData.int).length : Int) + 1)] := by rw [hes]; simp
  have hel : es.length = ms.length + 2 := by rw [hes]; simp
  refine ⟨by simp, _, rfl, _, rfl, by simp; omega, _, rfl, by simp, _, rfl, by simp; omega, ?_⟩
  refine ⟨_, rfl, _, rfl, cmul (by omega) (by omega) (by simp; omega) (by simp; omega), ?_⟩
  refine ⟨_, rfl, ⟨by simp; omega, by simp; omega⟩, fun i fr S' => S' = S ∧ ∃ (a : Option R), fr = [some (.dat (.list (ws.map PyData.int))), some (.dat (.list (fs.map PyData.int))), some (.dat (.int pr)), some (.dat (.list (ms.map PyData.int))), some (.dat (.list (es.map PyData.int))), some (.dat (.int (pr * ms.length + upto ws fs es i))), a], ⟨rfl, none, ?_⟩, ?_, ?_⟩
  · rw [ee]
    have : upto ws fs es 0 = 0 := rfl
    rw [this, Int.add_zero, show (ms.length : Int) = ((ms.map PyData.int).length : Int) by rw [List.length_map]]
    rfl
  · rintro i r fr S' hi ⟨rfl, a, rfl⟩
    obtain ⟨hlt, rfl⟩ := rng_get hi
    have hlt2 : i < ms.length + 1 := by simp at hlt; omega
    have e0 : (0 : Int) + (i : Int) = (i : Int) := Int.zero_add _
    rw [e0]
    have e1 : (i : Int) + 1 = ((i + 1 : Nat) : Int) := by omega
    refine ⟨_, rfl, _, rfl, _, rfl, _, rfl, _, rfl, _, atI_nat (getD_ints (j := i) (by omega)), _, rfl, _, rfl, PyData.int (es.getD (i + 1) 0), ?_, rfl, ws, fs, es.getD i 0, es.getD (i + 1) 0, rfl, by omega, rfl, some (.dat (.int i)), ?_⟩
    · rw [e1]; exact atI_nat (getD_ints (j := i + 1) (by omega))
    · rw [upto_succ, ← Int.add_assoc]; rfl
  · rintro fr S' ⟨rfl, a, rfl⟩
    refine ⟨_, rfl, ?_⟩
    rw [rng_len]
    have en : ((((([PyData.int 0] ++ ms.map PyData.int) ++ [PyData.int (((ws.map PyData.int).length : Int) + 1)]).length : Nat) : Int) - 1).toNat = ms.length + 1 := by simp
    have := upto_cF ws fs pr ms 0
    rw [← hes] at this
    rw [← this, ← en] at h
    exact h
end
end K16
set_option Elab.async false
set_option linter.all false
set_option maxRecDepth 100000
set_option maxHeartbeats 4000000
namespace K16
open PySem PySem.Spec PyProof.Rows L2 DL
section
variable {P : Program} {w : World} {K : Fg} {mg : Str → Option Value} {base : Heap}
/-! need_plan: what is refused -/
def iD (xs : List Int) : List PyData := xs.map PyData.int
structure BadW (wd : List PyData) (j : Nat) : Prop where
  ex : ∃ ws d rest, wd = iD ws ++ d :: rest ∧ ws.length = j ∧ (∀ w ∈ ws, 1 ≤ w ∧ w ≤ 99) ∧ j ≤ 60 ∧ (j = 60 ∨ (isNum d 1 99 = false ∧ kdOf d ≠ none))
structure BadF (n : Int) (fd : List PyData) (j : Nat) : Prop where
  ex : ∃ fs d rest, fd = iD fs ++ d :: rest ∧ fs.length = j ∧ (∀ f ∈ fs, 0 ≤ f ∧ f ≤ n) ∧ fs.Pairwise (· ≤ ·) ∧ j ≤ 20 ∧ (j = 20 ∨ (isNum d (fs.getLast?.getD 0) n = false ∧ kdOf d ≠ none))
structure WOk (ws : List Int) : Prop where
  hw : ∀ w ∈ ws, 1 ≤ w ∧ w ≤ 99
  hwl : ws.length ≤ 60
structure FOk (n : Int) (fs : List Int) : Prop where
  hf : ∀ f ∈ fs, 0 ≤ f ∧ f ≤ n
  hfs : fs.Pairwise (· ≤ ·)
  hfl : fs.length ≤ 20
def BadPlan (cs : Nat → Addr) (wd fd : List PyData) (pd : PyData) (S : SH) (Y : DY) : Prop :=
  (∃ j, BadW wd j ∧ Y (cs 5) [("number", .int (j : Nat))] S) ∨ (∃ ws j, wd = iD ws ∧ WOk ws ∧ BadF ws.length fd j ∧ Y (cs 6) [("number", .int (j : Nat))] S) ∨
    (∃ ws fs, wd = iD ws ∧ fd = iD fs ∧ WOk ws ∧ FOk ws.length fs ∧ isNum pd 0 999 = false ∧ kdOf pd ≠ none ∧ Y (cs 7) [] S)
def spNeedPlanX (cs : Nat → Addr) : SpX := fun rs S C Y => ∃ (wd fd : List PyData) (pd : PyData), rs = [.dat (.list wd), .dat (.list fd), .dat pd] ∧ (BadPlan cs wd fd pd S Y ∨ ∃ ws fs pr, wd = iD ws ∧ fd = iD fs ∧ pd = .int pr ∧ PlanOk ws fs pr ∧ C (.dat .none) S)
theorem get_pre {xs : List Int} {d : PyData} {rest : List PyData} {i : Nat} {e : PyData} (h : (iD xs ++ d :: rest)[i]? = some e) (hi : i ≤ xs.length) : (∃ x, xs[i]? = some x ∧ e = .int x) ∨ (i = xs.length ∧ e = d) := by
  unfold iD at h
  by_cases hl : i < xs.length
  · rw [List.getElem?_append_left (by rw [List.length_map]; exact hl), List.getElem?_map, List.getElem?_eq_getElem hl] at h
    exact .inl ⟨xs[i], List.getElem?_eq_getElem hl, (Option.some.inj h).symm⟩
  · have hi' : i = xs.length := by omega
    subst hi'
    rw [List.getElem?_append_right (by rw [List.length_map]; exact Nat.le_refl _), List.length_map, Nat.sub_self] at h
    exact .inr ⟨rfl, (Option.some.inj h).symm⟩
theorem isNum_no {d : PyData} {lo hi : Int} (h : isNum d lo hi = false) : (!isNum d lo hi) = true := by rw [h]; rfl
def lastI (fs : List Int) (i : Nat) : Int := if i = 0 then 0 else fs.getD (i - 1) 0
theorem lastI_succ {fs : List Int} {i : Nat} {x : Int} (h : fs[i]? = some x) : lastI fs (i + 1) = x := by
  unfold lastI
  rw [if_neg (by omega), Nat.add_sub_cancel, List.getD_eq_getElem?_getD, h]
  rfl
theorem lastI_len (fs : List Int) : lastI fs fs.length = fs.getLast?.getD 0 := by
  unfold lastI
  cases fs with
  | nil => rfl
  | cons a l =>
    rw [if_neg (by simp), List.getLast?_eq_getElem?, List.getD_eq_getElem?_getD]
theorem lastI_le {fs : List Int} {n : Int} (hf : ∀ f ∈ fs, 0 ≤ f ∧ f ≤ n) (hp : fs.Pairwise (· ≤ ·)) {i : Nat} {x : Int} (h : fs[i]? = some x) : lastI fs i ≤ x := by
  unfold lastI
  split
  · exact (hf x (List.mem_of_getElem? h)).1
  · rename_i hi
    obtain ⟨hl, e⟩ := List.getElem?_eq_some_iff.mp h
    have := List.pairwise_iff_getElem.mp hp (i - 1) i (by omega) hl (by omega)
    rw [List.getD_eq_getElem?_getD, List.getElem?_eq_getElem (by omega : i - 1 < fs.length)]
    rw [e] at this
    exact this
theorem ok_need_planX {k : Nat} {cs : Nat → Addr} {t1 t2 t3 t4 : Tok} (F : FunAt K mg "need_plan" s_need_plan ["weights", "falls", "price"]) (B : Blt mg) (D1 : Def P w K mg base "is_number" 1 3 spIsNumber)
    (EW : MkE P w K mg base "BadWeights" (cs 5) (spI1 K (cs 5) "number") 1) (EF : MkE P w K mg base "BadFalls" (cs 6) (spI1 K (cs 6) "number") 1) (q : PySem.W.excIn K (cs 7) He.veBase "ValueError.__new__" = true) (gC : mg "BadPrice" = some (.ref (cs 7))) (kC : PySem.W.keepIn K (.ref (cs 7)) = true) (r1 : PySem.W.subIn K (.ref (cs 7)) (.type "BaseException") = some true) (r2 : PySem.W.typeIn K (.ref (cs 7)) = some (.type "type"))
    (c1 : mg "MOST_WEIGHTS" = some (.int 60 t1)) (c2 : mg "MOST_WEIGHT" = some (.int 99 t2)) (c3 : mg "MOST_FALLS" = some (.int 20 t3)) (c4 : mg "MOST_PRICE" = some (.int 999 t4)) :
    DefX P w K mg base "need_plan" (k + 3) 3 (spNeedPlanX cs) := by
  refine okX F sc_need_plan rfl fun cdv A outer s H E f hr => ⟨_,
    (xs_cons (x_for (i_enum (by rfl) B.enumerate (a_cons (dv 0) a_nil)) (g_tup (gs_cons (g_name (i := 3) sc_need_plan.nd) (gs_cons (g_name (i := 4) sc_need_plan.nd) gs_nil)))
      (xs_one (x_if (PDW.pt (w_or (t_ge (dv 3) (d_globI (by rfl) c1)) (w_or1 (t_not (t_val (d_callF D1 (hr.mono (by omega)) (by rfl) (a_cons (dv 4) (a_cons d_int (a_cons (d_globI (by rfl) c2) a_nil)))))))))
      (xs_one (x_raise (m_oex1 EW (hr.mono (by omega)) (by rfl) (a_cons (dv 3) a_nil))))
      xs_nil)))
      (xs_cons (x_of (s_set (i := 5) sc_need_plan.nd d_int))
      (xs_cons (x_for (i_enum (by rfl) B.enumerate (a_cons (dv 1) a_nil)) (g_tup (gs_cons (g_name (i := 3) sc_need_plan.nd) (gs_cons (g_name (i := 6) sc_need_plan.nd) gs_nil)))
      (xs_cons (x_if (PDW.pt (w_or (t_ge (dv 3) (d_globI (by rfl) c3)) (w_or1 (t_not (t_val (d_callF D1 (hr.mono (by omega)) (by rfl) (a_cons (dv 6) (a_cons (dv 5) (a_cons (d_len (by rfl) B.len (a_cons (dv 0) a_nil)) a_nil)))))))))
      (xs_one (x_raise (m_oex1 EF (hr.mono (by omega)) (by rfl) (a_cons (dv 3) a_nil))))
      xs_nil)
      (xs_one (x_of (s_set (i := 5) sc_need_plan.nd (dv 6))))))
      (xs_one (x_if (t_not (t_val (d_callF D1 (hr.mono (by omega)) (by rfl) (a_cons (dv 2) (a_cons d_int (a_cons (d_globI (by rfl) c4) a_nil))))))
      (xs_one (x_raise (m_own PySem.F.excBase_ValueError q gC kC r1 r2 (by rfl))))
      xs_nil)))))
    , ?_⟩
  intro rs S C Y hl h
  obtain ⟨wd, fd, pd, rfl, h⟩ := h
  have h2 : (∃ j, BadW wd j ∧ Y (cs 5) [("number", .int (j : Nat))] S) ∨ ∃ ws, wd = iD ws ∧ (∀ w ∈ ws, 1 ≤ w ∧ w ≤ 99) ∧ ws.length ≤ 60 ∧ ((∃ j, BadF ws.length fd j ∧ Y (cs 6) [("number", .int (j : Nat))] S) ∨ ∃ fs, fd = iD fs ∧ FOk ws.length fs ∧ ((isNum pd 0 999 = false ∧ kdOf pd ≠ none ∧ Y (cs 7) [] S) ∨ (∃ pr, pd = .int pr ∧ 0 ≤ pr ∧ pr ≤ 999 ∧ C (.dat .none) S))) := by
    rcases h with (h | ⟨ws, j, e, wo, bf, y⟩ | ⟨ws, fs, e1, e2, wo, fo, n1, n2, y⟩) | ⟨ws, fs, pr, e1, e2, e3, po, h⟩
    · exact .inl h
    · exact .inr ⟨ws, e, wo.hw, wo.hwl, .inl ⟨j, bf, y⟩⟩
    · exact .inr ⟨ws, e1, wo.hw, wo.hwl, .inr ⟨fs, e2, fo, .inl ⟨n1, n2, y⟩⟩⟩
    · exact .inr ⟨ws, e1, po.hw, po.hwl, .inr ⟨fs, e2, ⟨po.hf, po.hfs, po.hfl⟩, .inr ⟨pr, e3, po.hp.1, po.hp.2, h⟩⟩⟩
  clear h
  rcases h2 with ⟨j, ⟨ws, d, rest, rfl, hj, hw, hj60, hno⟩, h⟩ | ⟨ws, rfl, hw, hwl, h⟩
  · refine ⟨_, rfl, fun i fr S' => i ≤ j ∧ S' = S ∧ ∃ a b, fr = [some (.dat (.list (iD ws ++ d :: rest))), some (.dat (.list fd)), some (.dat pd), a, b, none, none], ⟨Nat.zero_le _, rfl, none, none, rfl⟩, ?_, ?_⟩
    · rintro i r fr S' hi ⟨hij, rfl, a, b, rfl⟩
      obtain ⟨e, he, rfl⟩ := enum_get hi
      rcases get_pre he (by omega) with ⟨x, hx, rfl⟩ | ⟨hi2, rfl⟩
      · have hlt := (List.getElem?_eq_some_iff.mp hx).1
        refine ⟨rfl, rfl, _, rfl, iteFd (by omega) ⟨_, rfl, rfl, _, _, _, rfl, (fun z => nomatch z), iteFb (isNum_yes (hw x (List.mem_of_getElem? hx))) ?_⟩⟩
        exact ⟨by omega, rfl, _, _, rfl⟩
      · by_cases h60 : (60 : Int) ≤ (i : Int)
        · refine ⟨rfl, rfl, _, rfl, iteTd h60 ?_⟩
          refine ⟨_, rfl, _, _, rfl, rfl, ?_⟩
          rw [show i = j by omega]
          exact h
        · obtain ⟨n1, n2⟩ := hno.resolve_left (by omega)
          refine ⟨rfl, rfl, _, rfl, iteFd h60 ⟨_, rfl, rfl, _, _, _, rfl, n2, iteTb (isNum_no n1) ?_⟩⟩
          refine ⟨_, rfl, _, _, rfl, rfl, ?_⟩
          rw [show i = j by omega]
          exact h
    · rintro fr S' ⟨hij, rfl, a, b, rfl⟩
      rw [enum_len] at hij
      have : (iD ws ++ d :: rest).length = ws.length + (rest.length + 1) := by unfold iD; simp
      omega
  refine ⟨_, rfl, fun i fr S' => S' = S ∧ ∃ a b, fr = [some (.dat (.list (iD ws))), some (.dat (.list fd)), some (.dat pd), a, b, none, none], ⟨rfl, none, none, rfl⟩, ?_, ?_⟩
  · rintro i r fr S' hi ⟨rfl, a, b, rfl⟩
    obtain ⟨d, hd, rfl⟩ := enum_get hi
    obtain ⟨x, hx, rfl⟩ := get_ints hd
    have hlt := (List.getElem?_eq_some_iff.mp hx).1
    refine ⟨rfl, rfl, _, rfl, iteFd (by omega) ⟨_, rfl, rfl, _, _, _, rfl, (fun z => nomatch z), iteFb (isNum_yes (hw x (List.mem_of_getElem? hx))) ?_⟩⟩
    exact ⟨rfl, _, _, rfl⟩
  rintro fr S' ⟨rfl, a, b, rfl⟩
  have hlen : ((iD ws).length : Int) = ws.length := by unfold iD; rw [List.length_map]
  rcases h with ⟨j, ⟨fs, d, rest, rfl, hj, hf, hfs, hj20, hno⟩, h⟩ | ⟨fs, rfl, ⟨hf, hfs, hfl⟩, h⟩
  · refine ⟨_, rfl, fun i fr S'' => i ≤ j ∧ S'' = S' ∧ ∃ (a b c : Option R), fr = [some (.dat (.list (iD ws))), some (.dat (.list (iD fs ++ d :: rest))), some (.dat pd), a, b, some (.dat (.int (lastI fs i))), c], ⟨Nat.zero_le _, rfl, _, _, _, rfl⟩, ?_, ?_⟩
    · rintro i r fr S'' hi ⟨hij, rfl, a, b, c, rfl⟩
      obtain ⟨e, he, rfl⟩ := enum_get hi
      rcases get_pre he (by omega) with ⟨x, hx, rfl⟩ | ⟨hi2, rfl⟩
      · have hlt := (List.getElem?_eq_some_iff.mp hx).1
        refine ⟨rfl, rfl, _, rfl, iteFd (by omega) ⟨_, rfl, _, rfl, _, rfl, rfl, _, _, _, rfl, (fun z => nomatch z), iteFb (isNum_yes ⟨lastI_le hf hfs hx, by rw [hlen]; exact (hf x (List.mem_of_getElem? hx)).2⟩) ?_⟩⟩
        refine ⟨_, rfl, by omega, rfl, some (.dat (.int i)), b, some (.dat (.int x)), ?_⟩
        rw [lastI_succ hx]
        rfl
      · by_cases h20 : (20 : Int) ≤ (i : Int)
        · refine ⟨rfl, rfl, _, rfl, iteTd h20 ?_⟩
          refine ⟨_, rfl, _, _, rfl, rfl, ?_⟩
          rw [show i = j by omega]
          exact h
        · obtain ⟨n1, n2⟩ := hno.resolve_left (by omega)
          refine ⟨rfl, rfl, _, rfl, iteFd h20 ⟨_, rfl, _, rfl, _, rfl, rfl, _, _, _, rfl, n2, iteTb (isNum_no (by rw [hlen, hi2, lastI_len]; exact n1)) ?_⟩⟩
          refine ⟨_, rfl, _, _, rfl, rfl, ?_⟩
          rw [show i = j by omega]
          exact h
    · rintro fr S'' ⟨hij, rfl, a, b, c, rfl⟩
      rw [enum_len] at hij
      have : (iD fs ++ d :: rest).length = fs.length + (rest.length + 1) := by unfold iD; simp
      omega
  · refine ⟨_, rfl, fun i fr S'' => S'' = S' ∧ ∃ (a b c : Option R), fr = [some (.dat (.list (iD ws))), some (.dat (.list (iD fs))), some (.dat pd), a, b, some (.dat (.int (lastI fs i))), c], ⟨rfl, _, _, _, rfl⟩, ?_, ?_⟩
    · rintro i r fr S'' hi ⟨rfl, a, b, c, rfl⟩
      obtain ⟨d, hd, rfl⟩ := enum_get hi
      obtain ⟨x, hx, rfl⟩ := get_ints hd
      have hlt := (List.getElem?_eq_some_iff.mp hx).1
      refine ⟨rfl, rfl, _, rfl, iteFd (by omega) ⟨_, rfl, _, rfl, _, rfl, rfl, _, _, _, rfl, (fun z => nomatch z), iteFb (isNum_yes ⟨lastI_le hf hfs hx, by rw [hlen]; exact (hf x (List.mem_of_getElem? hx)).2⟩) ?_⟩⟩
      refine ⟨_, rfl, rfl, some (.dat (.int i)), b, some (.dat (.int x)), ?_⟩
      rw [lastI_succ hx]
      rfl
    · rintro fr S'' ⟨rfl, a, b, c, rfl⟩
      rcases h with ⟨n1, n2, y⟩ | ⟨pr, rfl, p0, p1, y⟩
      · exact ⟨_, rfl, rfl, _, _, _, rfl, n2, iteTb (isNum_no n1) y⟩
      · exact ⟨_, rfl, rfl, _, _, _, rfl, (fun z => nomatch z), iteFb (isNum_yes ⟨p0, p1⟩) y⟩
/-! need_marks, cost, best: what is refused -/
structure BadM (n : Int) (md : List PyData) (j : Nat) : Prop where
  ex : ∃ ms d rest, md = iD ms ++ d :: rest ∧ ms.length = j ∧ (∀ (i : Nat) x, ms[i]? = some x → lastI ms i + 1 ≤ x ∧ x ≤ n - 1) ∧ isNum d (ms.getLast?.getD 0 + 1) (n - 1) = false ∧ kdOf d ≠ none
def spNeedMarksX (cs : Nat → Addr) : SpX := fun rs S C Y => ∃ (ws : List Int) (md : List PyData) (j : Nat), rs = [.dat (.list (iD ws)), .dat (.list md)] ∧ BadM ws.length md j ∧ Y (cs 8) [("number", .int (j : Nat))] S
theorem ok_need_marksX {k : Nat} {cs : Nat → Addr} (F : FunAt K mg "need_marks" s_need_marks ["weights", "marks"]) (B : Blt mg) (D1 : Def P w K mg base "is_number" 1 3 spIsNumber) (EM : MkE P w K mg base "BadMarks" (cs 8) (spI1 K (cs 8) "number") 1) :
    DefX P w K mg base "need_marks" (k + 3) 2 (spNeedMarksX cs) := by
  refine okX F sc_need_marks rfl fun cdv A outer s H E f hr => ⟨_,
    (xs_cons (x_of (s_set (i := 2) sc_need_marks.nd d_int))
      (xs_one (x_for (i_enum (by rfl) B.enumerate (a_cons (dv 1) a_nil)) (g_tup (gs_cons (g_name (i := 3) sc_need_marks.nd) (gs_cons (g_name (i := 4) sc_need_marks.nd) gs_nil)))
      (xs_cons (x_if (t_not (t_val (d_callF D1 (hr.mono (by omega)) (by rfl) (a_cons (dv 4) (a_cons (d_add (dv 2) d_int) (a_cons (d_sub (d_len (by rfl) B.len (a_cons (dv 0) a_nil)) d_int) a_nil))))))
      (xs_one (x_raise (m_oex1 EM (hr.mono (by omega)) (by rfl) (a_cons (dv 3) a_nil))))
      xs_nil)
      (xs_one (x_of (s_set (i := 2) sc_need_marks.nd (dv 4))))))))
    , ?_⟩
  intro rs S C Y hl h
  obtain ⟨ws, md, j, rfl, ⟨ms, d, rest, rfl, hj, hv, n1, n2⟩, h⟩ := h
  have hlen : ((iD ws).length : Int) = ws.length := by unfold iD; rw [List.length_map]
  refine ⟨_, rfl, fun i fr S'' => i ≤ j ∧ S'' = S ∧ ∃ (a b : Option R), fr = [some (.dat (.list (iD ws))), some (.dat (.list (iD ms ++ d :: rest))), some (.dat (.int (lastI ms i))), a, b], ⟨Nat.zero_le _, rfl, _, _, rfl⟩, ?_, ?_⟩
  · rintro i r fr S'' hi ⟨hij, rfl, a, b, rfl⟩
    obtain ⟨e, he, rfl⟩ := enum_get hi
    rcases get_pre he (by omega) with ⟨x, hx, rfl⟩ | ⟨hi2, rfl⟩
    · have hlt := (List.getElem?_eq_some_iff.mp hx).1
      obtain ⟨v1, v2⟩ := hv i x hx
      refine ⟨rfl, rfl, _, rfl, _, rfl, _, rfl, rfl, _, _, _, rfl, (fun z => nomatch z), iteFb (isNum_yes ⟨v1, by rw [hlen]; exact v2⟩) ?_⟩
      refine ⟨_, rfl, by omega, rfl, some (.dat (.int i)), some (.dat (.int x)), ?_⟩
      rw [lastI_succ hx]
      rfl
    · refine ⟨rfl, rfl, _, rfl, _, rfl, _, rfl, rfl, _, _, _, rfl, n2, iteTb (isNum_no (by rw [hlen, hi2, lastI_len]; exact n1)) ?_⟩
      refine ⟨_, rfl, _, _, rfl, rfl, ?_⟩
      rw [show i = j by omega]
      exact h
  · rintro fr S'' ⟨hij, rfl, a, b, rfl⟩
    rw [enum_len] at hij
    have : (iD ms ++ d :: rest).length = ms.length + (rest.length + 1) := by unfold iD; simp
    omega
def spCostX (cs : Nat → Addr) : SpX := fun rs S C Y => ∃ (wd fd : List PyData) (pd : PyData) (md : List PyData), rs = [.dat (.list wd), .dat (.list fd), .dat pd, .dat (.list md)] ∧
  (BadPlan cs wd fd pd S Y ∨ ∃ ws fs pr j, wd = iD ws ∧ fd = iD fs ∧ pd = .int pr ∧ PlanOk ws fs pr ∧ BadM ws.length md j ∧ Y (cs 8) [("number", .int (j : Nat))] S)
theorem ok_costX {k : Nat} {cs : Nat → Addr} (F : FunAt K mg "cost" s_cost ["weights", "falls", "price", "marks"]) (B : Blt mg) (D1 : DefX P w K mg base "need_plan" 3 3 (spNeedPlanX cs)) (D2 : DefX P w K mg base "need_marks" 3 2 (spNeedMarksX cs)) (D3 : Def P w K mg base "redone" 1 4 spRedone) :
    DefX P w K mg base "cost" (k + 4) 4 (spCostX cs) := by
  refine okX F sc_cost rfl fun cdv A outer s H E f hr => ⟨_,
    (xs_cons (x_expr (e_callX D1 (hr.mono (by omega)) (by rfl) (a_cons (dv 0) (a_cons (dv 1) (a_cons (dv 2) a_nil)))))
      (xs_cons (x_expr (e_callX D2 (hr.mono (by omega)) (by rfl) (a_cons (dv 0) (a_cons (dv 3) a_nil))))
      (xs_cons (x_of (s_set (i := 4) sc_cost.nd (d_add (d_add (d_lst (a_cons d_int a_nil)) (d_list (by rfl) B.list (a_cons (dv 3) a_nil))) (d_lst (a_cons (d_add (d_len (by rfl) B.len (a_cons (dv 0) a_nil)) d_int) a_nil)))))
      (xs_cons (x_of (s_set (i := 5) sc_cost.nd (d_mul (dv 2) (d_len (by rfl) B.len (a_cons (dv 3) a_nil)))))
      (xs_cons (x_of (s_for (hp := passes_of rfl) (i_r1 (by rfl) B.range (a_cons (d_sub (d_len (by rfl) B.len (a_cons (dv 4) a_nil)) d_int) a_nil)) (g_name (i := 6) sc_cost.nd)
      (ss_one (s_set (i := 5) sc_cost.nd (d_add (dv 5) (d_callF D3 (hr.mono (by omega)) (by rfl) (a_cons (dv 0) (a_cons (dv 1) (a_cons (d_ix (hu_of hr) (dv 4) (dv 6)) (a_cons (d_ix (hu_of hr) (dv 4) (d_add (dv 6) d_int)) a_nil))))))))))
      (xs_one (x_of (s_ret (dv 5)))))))))
    , ?_⟩
  intro rs S C Y hl h
  obtain ⟨wd, fd, pd, md, rfl, h⟩ := h
  rcases h with h | ⟨ws, fs, pr, j, rfl, rfl, rfl, po, bm, h⟩
  · exact ⟨_, rfl, _, rfl, _, rfl, rfl, wd, fd, pd, rfl, .inl h⟩
  · exact ⟨_, rfl, _, rfl, _, rfl, rfl, _, _, _, rfl, .inr ⟨ws, fs, pr, rfl, rfl, rfl, po, _, rfl, _, rfl, rfl, ws, md, j, rfl, bm, h⟩⟩
def spBestX (cs : Nat → Addr) : SpX := fun rs S C Y => ∃ (wd fd : List PyData) (pd : PyData), rs = [.dat (.list wd), .dat (.list fd), .dat pd] ∧ BadPlan cs wd fd pd S Y
theorem ok_bestX {k : Nat} {cs : Nat → Addr} (F : FunAt K mg "best" s_best ["weights", "falls", "price"]) (B : Blt mg) (D1 : DefX P w K mg base "need_plan" 3 3 (spNeedPlanX cs)) (D2 : Def P w K mg base "redone" 1 4 spRedone) :
    DefX P w K mg base "best" (k + 4) 3 (spBestX cs) := by
  refine okX F sc_best rfl fun cdv A outer s H E f hr => ⟨_,
    (xs_cons (x_expr (e_callX D1 (hr.mono (by omega)) (by rfl) (a_cons (dv 0) (a_cons (dv 1) (a_cons (dv 2) a_nil)))))
      (xs_cons (x_of (s_set (i := 3) sc_best.nd (d_len (by rfl) B.len (a_cons (dv 0) a_nil))))
      (xs_cons (x_of (s_set (i := 4) sc_best.nd d_newD))
      (xs_cons (x_of (s_for (hp := passes_of rfl) (i_r3 (by rfl) B.range (a_cons (d_max2 (by rfl) B.max (a_cons d_int (a_cons (d_sub (dv 3) d_int) a_nil))) (a_cons (d_neg d_int) (a_cons (d_neg d_int) a_nil)))) (g_name (i := 5) sc_best.nd)
      (ss_cons (s_set (i := 6) sc_best.nd (d_tp (a_cons (d_callF D2 (hr.mono (by omega)) (by rfl) (a_cons (dv 0) (a_cons (dv 1) (a_cons (dv 5) (a_cons (d_add (dv 3) d_int) a_nil))))) (a_cons (d_lstC a_nil) a_nil))))
      (ss_cons (s_for (hp := passes_of rfl) (i_r2 (by rfl) B.range (a_cons (d_add (dv 5) d_int) (a_cons (dv 3) a_nil))) (g_name (i := 7) sc_best.nd)
      (ss_cons (s_set (i := 8) sc_best.nd (d_ix (hu_of hr) (dv 4) (dv 7)))
      (ss_cons (s_set (i := 9) sc_best.nd (d_add (d_add (d_callF D2 (hr.mono (by omega)) (by rfl) (a_cons (dv 0) (a_cons (dv 1) (a_cons (dv 5) (a_cons (dv 7) a_nil))))) (dv 2)) (d_ix (hu_of hr) (dv 8) d_int)))
      (ss_one (s_set (i := 6) sc_best.nd (d_minVU hr.units (by rfl) B.min (a_cons (dv 6) (a_cons (d_tp (a_cons (dv 9) (a_cons (d_addC (d_lst (a_cons (dv 7) a_nil)) (d_ix (hu_of hr) (dv 8) d_int)) a_nil))) a_nil))))))))
      (ss_one (s_asg (dv 6) (g_sub (hu_of hr) (dv 4) (dv 5))))))))
      (xs_one (x_of (s_ret (d_ix (hu_of hr) (dv 4) d_int))))))))
    , ?_⟩
  intro rs S C Y hl h
  obtain ⟨wd, fd, pd, rfl, h⟩ := h
  exact ⟨_, rfl, _, rfl, _, rfl, rfl, wd, fd, pd, rfl, .inl h⟩
end
end K16
set_option Elab.async false
set_option linter.all false
set_option maxRecDepth 100000
set_option maxHeartbeats 4000000
namespace K16
open PySem PySem.Spec PyProof.Rows L2 DL
open PM (le_ok)
section
variable {P : Program} {w : World} {K : Fg} {mg : Str → Option Value} {base : Heap}
/-! what can't be, drawn -/
def spBadWeights : SpD := fun rs S C => ∃ (D : Addr) (j : Nat) (ws : List Int) (far : Int), rs = [.val (.ref D), .dat (.list (iD ws)), .dat (.int far)] ∧ S[j]? = some (dice D) ∧ WOk ws ∧ ws.length ≤ 12 ∧ 0 ≤ far ∧ far ≤ 1000000 ∧ ∀ wd i, BadW wd i → C (.dat (.tuple [.list wd, .int (i : Nat)])) S
theorem iD_take (xs : List Int) (n : Nat) : (iD xs).take n = iD (xs.take n) := List.map_take.symm
theorem nines (n : Nat) : (List.replicate n [PyData.int 99]).flatten = iD (List.replicate n 99) := by
  induction n with
  | zero => rfl
  | succ n ih => rw [List.replicate_succ, List.flatten_cons, ih, List.replicate_succ]; rfl
abbrev s__law_bad_weights : Stmt := topS 31
abbrev N__law_bad_weights : List Str := ["_law_d", "_law_weights", "_law_far", "_law_odd", "_law_at"]
theorem sc__law_bad_weights : FnScope N__law_bad_weights ["_law_d", "_law_weights", "_law_far"] (defScope s__law_bad_weights) := ⟨rfl, rfl, rfl, by decide +kernel, rfl, by decide +kernel, by decide +kernel⟩
theorem ok_bad_weights {k : Nat} (F : FunAt K mg "_law_bad_weights" s__law_bad_weights ["_law_d", "_law_weights", "_law_far"]) (B : Blt mg) (D1 : Def P w K mg base "_law_next" 1 2 spNext) : Def P w K mg base "_law_bad_weights" (k + 2) 3 spBadWeights := by
  refine okF F sc__law_bad_weights rfl fun cdv A outer s H E f hr => ⟨_,
    (ss_cons (s_set (i := 3) sc__law_bad_weights.nd (d_ix (hu_of hr) (d_lst (a_cons d_int (a_cons (d_add d_int (dv 2)) (a_cons (d_sub (d_neg d_int) (dv 2)) (a_cons d_bl (a_cons d_non a_nil)))))) (d_callF D1 (hr.mono (by omega)) (by rfl) (a_cons (dv 0) (a_cons d_int a_nil)))))
      (ss_cons (s_set (i := 4) sc__law_bad_weights.nd (d_ix (hu_of hr) (d_lst (a_cons (d_callF D1 (hr.mono (by omega)) (by rfl) (a_cons (dv 0) (a_cons (d_add (d_len (by rfl) B.len (a_cons (dv 1) a_nil)) d_int) a_nil))) (a_cons (d_len (by rfl) B.len (a_cons (dv 1) a_nil)) a_nil))) (d_callF D1 (hr.mono (by omega)) (by rfl) (a_cons (dv 0) (a_cons d_int a_nil)))))
      (ss_cons (s_if (t_eq hr.units (d_callF D1 (hr.mono (by omega)) (by rfl) (a_cons (dv 0) (a_cons d_int a_nil))) d_int)
      (ss_one (s_ret (d_tup (a_cons (d_mul (d_lst (a_cons d_int a_nil)) (d_add d_int (d_callF D1 (hr.mono (by omega)) (by rfl) (a_cons (dv 0) (a_cons d_int a_nil))))) (a_cons d_int a_nil)))))
      ss_nil)
      (ss_one (s_ret (d_tup (a_cons (d_add (d_add (d_slice (dv 1) o_none (o_some (dv 4))) (d_lst (a_cons (dv 3) a_nil))) (d_slice (dv 1) (o_some (d_add (dv 4) (d_callF D1 (hr.mono (by omega)) (by rfl) (a_cons (dv 0) (a_cons d_int a_nil))))) o_none)) (a_cons (dv 4) a_nil))))))))
    , ?_⟩
  intro rs S C hl h
  obtain ⟨D, j, ws, far, rfl, hj, wo, hw12, f0, f1, h⟩ := h
  have hlen : (iD ws).length = ws.length := by unfold iD; rw [List.length_map]
  refine ⟨_, rfl, _, rfl, le_ok rfl, _, rfl, ?_⟩
  refine dnext (D := D) (j := j) rfl hj (by decide) (by decide) fun y y0 y1 => ?_
  obtain ⟨odd, e1, md⟩ := pick (ds := [PyData.int 0, PyData.int (100 + far), PyData.int (-1 - far), PyData.bool true, PyData.none]) y0 y1
  refine ⟨odd, e1, ?_⟩
  have ho : isNum odd 1 99 = false ∧ kdOf odd ≠ none := by
    simp only [List.mem_cons, List.not_mem_nil, or_false] at md
    rcases md with rfl | rfl | rfl | rfl | rfl
    · exact ⟨rfl, fun z => nomatch z⟩
    · exact ⟨by simp [isNum]; omega, fun z => nomatch z⟩
    · exact ⟨by simp [isNum]; omega, fun z => nomatch z⟩
    · exact ⟨rfl, fun z => nomatch z⟩
    · exact ⟨rfl, fun z => nomatch z⟩
  clear e1 md y0 y1
  refine dnextE (D := D) (j := j) (((iD ws).length : Int) + 1) rfl hj (fun C' q => ⟨_, rfl, q⟩) (by omega) (by omega) fun q1 q10 q11 => ?_
  refine ⟨_, rfl, le_ok rfl, _, rfl, ?_⟩
  refine dnext (D := D) (j := j) rfl hj (by decide) (by decide) fun y y0 y1 => ?_
  obtain ⟨d, e1, md⟩ := pick (ds := [PyData.int q1, PyData.int ((iD ws).length : Int)]) y0 y1
  refine ⟨d, e1, ?_⟩
  obtain ⟨at_, rfl, a0⟩ : ∃ to : Nat, d = .int (to : Int) ∧ to ≤ ws.length := by
    rcases List.mem_cons.mp md with rfl | md
    · exact ⟨q1.toNat, by rw [Int.toNat_of_nonneg q10], by omega⟩
    · cases List.mem_singleton.mp md
      exact ⟨_, rfl, Nat.le_of_eq hlen⟩
  clear e1 md y0 y1 q10 q11
  refine dnext (D := D) (j := j) rfl hj (by decide) (by decide) fun z z0 z1 => ⟨rfl, ite2b (fun hb => ?_) (fun hb => ?_)⟩
  · refine ⟨le_ok rfl, _, rfl, ?_⟩
    refine dnext (D := D) (j := j) rfl hj (by decide) (by decide) fun n n0 n1 => ?_
    refine ⟨by omega, by omega, by show 1 ≤ 100; decide, le_ok rfl, _, rfl, ?_⟩
    show C (.dat (.tuple [.list (List.replicate (61 + n).toNat [PyData.int 99]).flatten, .int 60])) S
    rw [nines]
    refine h _ 60 ⟨List.replicate 60 99, .int 99, iD (List.replicate ((61 + n).toNat - 61) 99), ?_, List.length_replicate, fun w hw => ?_, Nat.le_refl _, .inl rfl⟩
    · have e : (61 + n).toNat = 60 + (1 + ((61 + n).toNat - 61)) := by omega
      rw [e, ← List.replicate_append_replicate, ← List.replicate_append_replicate]
      unfold iD
      rw [List.map_append, List.map_append]
      have e2 : 60 + (1 + ((61 + n).toNat - 61)) - 61 = (61 + n).toNat - 61 := by omega
      rw [e2]
      rfl
    · rw [List.eq_of_mem_replicate hw]
      exact ⟨by decide, by decide⟩
  · have ec1 : DL.cutD (iD ws) none (some (at_ : Int)) = iD (ws.take at_) := by rw [PM.cut_to _ (by omega)]; exact iD_take ws at_
    refine ⟨_, rfl, _, rfl, _, rfl, le_ok rfl, _, rfl, ?_⟩
    have hl1 : (DL.cutD (iD ws) none (some (at_ : Int))).length + 1 ≤ 13 := by
      rw [ec1]
      unfold iD
      rw [List.length_map, List.length_take]
      omega
    refine ⟨Nat.le_trans hl1 (show 13 ≤ 100000 by decide), _, rfl, _, rfl, ?_⟩
    refine dnext (D := D) (j := j) rfl hj (by decide) (by decide) fun y y0 y1 => ?_
    have hl2 : (DL.cutD (iD ws) (some ((at_ : Int) + y)) none).length ≤ 12 := by
      rw [PM.cut_from _ (by omega)]
      unfold iD
      rw [List.length_drop, List.length_map]
      omega
    refine ⟨(by rw [List.length_append]; exact Nat.le_trans (Nat.add_le_add hl1 hl2) (by decide)), _, rfl, le_ok rfl, _, rfl, ?_⟩
    refine h _ at_ ⟨ws.take at_, odd, DL.cutD (iD ws) (some ((at_ : Int) + y)) none, ?_, by rw [List.length_take]; omega, fun w hw => wo.hw w (List.mem_of_mem_take hw), by omega, .inr ho⟩
    rw [ec1]
    show (iD (ws.take at_) ++ [odd]) ++ _ = _
    rw [List.append_assoc]
    rfl
/-! falls -/
def spBadFalls : SpD := fun rs S C => ∃ (D : Addr) (j : Nat) (n : Nat) (fs : List Int) (far : Int), rs = [.val (.ref D), .dat (.list (iD fs)), .dat (.int n), .dat (.int far)] ∧ S[j]? = some (dice D) ∧ FOk n fs ∧ n ≤ 12 ∧ 0 ≤ far ∧ far ≤ 1000000 ∧ ∀ fd i, BadF n fd i → C (.dat (.tuple [.list fd, .int (i : Nat)])) S
theorem noughts : (List.replicate 21 [PyData.int 0]).flatten = iD (List.replicate 20 0) ++ PyData.int 0 :: [] := by rfl
abbrev s__law_bad_falls : Stmt := topS 32
abbrev N__law_bad_falls : List Str := ["_law_d", "_law_falls", "_law_many", "_law_far", "_law_way", "_law_at", "_law_odd"]
theorem sc__law_bad_falls : FnScope N__law_bad_falls ["_law_d", "_law_falls", "_law_many", "_law_far"] (defScope s__law_bad_falls) := ⟨rfl, rfl, rfl, by decide +kernel, rfl, by decide +kernel, by decide +kernel⟩
theorem ok_bad_falls {k : Nat} (F : FunAt K mg "_law_bad_falls" s__law_bad_falls ["_law_d", "_law_falls", "_law_many", "_law_far"]) (B : Blt mg) (D1 : Def P w K mg base "_law_next" 1 2 spNext) : Def P w K mg base "_law_bad_falls" (k + 2) 4 spBadFalls := by
  refine okF F sc__law_bad_falls rfl fun cdv A outer s H E f hr => ⟨_,
    (ss_cons (s_set (i := 4) sc__law_bad_falls.nd (d_callF D1 (hr.mono (by omega)) (by rfl) (a_cons (dv 0) (a_cons d_int a_nil))))
      (ss_cons (s_set (i := 5) sc__law_bad_falls.nd (d_ix (hu_of hr) (d_lst (a_cons (d_callF D1 (hr.mono (by omega)) (by rfl) (a_cons (dv 0) (a_cons (d_add (d_len (by rfl) B.len (a_cons (dv 1) a_nil)) d_int) a_nil))) (a_cons (d_len (by rfl) B.len (a_cons (dv 1) a_nil)) a_nil))) (d_callF D1 (hr.mono (by omega)) (by rfl) (a_cons (dv 0) (a_cons d_int a_nil)))))
      (ss_cons (s_set (i := 6) sc__law_bad_falls.nd (d_ix (hu_of hr) (d_lst (a_cons (d_add (d_add (dv 2) d_int) (dv 3)) (a_cons (d_sub (d_neg d_int) (dv 3)) (a_cons d_bl (a_cons d_non a_nil))))) (d_callF D1 (hr.mono (by omega)) (by rfl) (a_cons (dv 0) (a_cons d_int a_nil)))))
      (ss_cons (s_if (t_eq hr.units (dv 4) d_int)
      (ss_one (s_ret (d_tup (a_cons (d_mul (d_lst (a_cons d_int a_nil)) d_int) (a_cons d_int a_nil)))))
      ss_nil)
      (ss_cons (s_if (PDW.pt (w_and (t_lt (dv 4) d_int) (w_and1 (t_gt (dv 2) d_int))))
      (ss_one (s_ret (d_tup (a_cons (d_add (dv 1) (d_lst (a_cons (dv 2) (a_cons (d_sub (dv 2) d_int) a_nil)))) (a_cons (d_min2 (by rfl) B.min (a_cons d_int (a_cons (d_add (d_len (by rfl) B.len (a_cons (dv 1) a_nil)) d_int) a_nil))) a_nil)))))
      ss_nil)
      (ss_one (s_ret (d_tup (a_cons (d_add (d_add (d_slice (dv 1) o_none (o_some (dv 5))) (d_lst (a_cons (dv 6) a_nil))) (d_slice (dv 1) (o_some (dv 5)) o_none)) (a_cons (d_min2 (by rfl) B.min (a_cons d_int (a_cons (dv 5) a_nil))) a_nil))))))))))
    , ?_⟩
  intro rs S C hl h
  obtain ⟨D, j, n, fs, far, rfl, hj, fo, hn12, f0, f1, h⟩ := h
  have hlen : (iD fs).length = fs.length := by unfold iD; rw [List.length_map]
  have hfl := fo.hfl
  refine dnext (D := D) (j := j) rfl hj (by decide) (by decide) fun wy wy0 wy1 => ?_
  refine dnextE (D := D) (j := j) (((iD fs).length : Int) + 1) rfl hj (fun C' q => ⟨_, rfl, q⟩) (by omega) (by omega) fun q1 q10 q11 => ?_
  refine ⟨_, rfl, le_ok rfl, _, rfl, ?_⟩
  refine dnext (D := D) (j := j) rfl hj (by decide) (by decide) fun y y0 y1 => ?_
  obtain ⟨d, e1, md⟩ := pick (ds := [PyData.int q1, PyData.int ((iD fs).length : Int)]) y0 y1
  refine ⟨d, e1, ?_⟩
  obtain ⟨at_, rfl, a0⟩ : ∃ to : Nat, d = .int (to : Int) ∧ to ≤ fs.length := by
    rcases List.mem_cons.mp md with rfl | md
    · exact ⟨q1.toNat, by rw [Int.toNat_of_nonneg q10], by omega⟩
    · cases List.mem_singleton.mp md
      exact ⟨_, rfl, Nat.le_of_eq hlen⟩
  clear e1 md y0 y1 q10 q11
  refine ⟨_, rfl, _, rfl, _, rfl, le_ok rfl, _, rfl, ?_⟩
  refine dnext (D := D) (j := j) rfl hj (by decide) (by decide) fun y y0 y1 => ?_
  obtain ⟨odd, e1, md⟩ := pick (ds := [PyData.int ((n : Int) + 1 + far), PyData.int (-1 - far), PyData.bool true, PyData.none]) y0 y1
  refine ⟨odd, e1, ?_⟩
  have ho : ∀ lo : Int, 0 ≤ lo → isNum odd lo n = false ∧ kdOf odd ≠ none := by
    intro lo hlo
    simp only [List.mem_cons, List.not_mem_nil, or_false] at md
    rcases md with rfl | rfl | rfl | rfl
    · exact ⟨by simp [isNum]; omega, fun z => nomatch z⟩
    · exact ⟨by simp [isNum]; omega, fun z => nomatch z⟩
    · exact ⟨rfl, fun z => nomatch z⟩
    · exact ⟨rfl, fun z => nomatch z⟩
  clear e1 md y0 y1
  refine ⟨_, rfl, rfl, ite2b (fun hb => ?_) (fun hb => ?_)⟩
  · refine ⟨le_ok rfl, _, rfl, by decide, by decide, by show 1 ≤ 100; decide, le_ok rfl, _, rfl, ?_⟩
    show C (.dat (.tuple [.list (List.replicate 21 [PyData.int 0]).flatten, .int 20])) S
    rw [noughts]
    refine h _ 20 ⟨List.replicate 20 0, .int 0, [], rfl, List.length_replicate, fun x hx => ?_, ?_, Nat.le_refl _, .inl rfl⟩
    · rw [List.eq_of_mem_replicate hx]
      omega
    · exact List.pairwise_replicate.mpr (.inr (Int.le_refl _))
  refine ⟨_, rfl, ite2d (fun h1 => ⟨_, rfl, ite2d (fun h2 => ?a) (fun h2 => ?b)⟩) (fun h1 => iteFb rfl ?c)⟩
  case a =>
    refine ⟨_, rfl, _, rfl, _, rfl, le_ok rfl, _, rfl, by rw [hlen]; show _ + 2 ≤ _; omega, _, rfl, ?_⟩
    refine ⟨le_ok rfl, _, rfl, ?_⟩
    have two : ∀ x y : Int, iD fs ++ [PyData.int x, .int y] = iD fs ++ PyData.int x :: [.int y] ∧ iD fs ++ [PyData.int x, .int y] = iD (fs ++ [x]) ++ PyData.int y :: [] := fun x y => ⟨rfl, by unfold iD; rw [List.map_append, List.append_assoc]; rfl⟩
    rw [hlen]
    by_cases hf20 : fs.length = 20
    · have e : (if (fs.length : Int) + 1 < 20 then (fs.length : Int) + 1 else 20) = ((20 : Nat) : Int) := by rw [if_neg (by omega)]; rfl
      rw [e]
      exact h _ 20 ⟨fs, _, _, (two _ _).1, hf20, fo.hf, fo.hfs, Nat.le_refl _, .inl rfl⟩
    · have e : (if (fs.length : Int) + 1 < 20 then (fs.length : Int) + 1 else 20) = ((fs.length + 1 : Nat) : Int) := by split <;> omega
      rw [e]
      refine h _ (fs.length + 1) ⟨fs ++ [(n : Int)], _, _, (two _ _).2, by simp, fun f hf => ?_, ?_, by omega, .inr ⟨?_, fun z => nomatch z⟩⟩
      · rcases List.mem_append.mp hf with hf | hf
        · exact fo.hf f hf
        · rw [List.mem_singleton.mp hf]
          omega
      · refine List.pairwise_append.mpr ⟨fo.hfs, List.pairwise_singleton _ _, fun a ha b hb => ?_⟩
        rw [List.mem_singleton.mp hb]
        exact (fo.hf a ha).2
      · rw [List.getLast?_concat]
        show (decide ((n : Int) ≤ (n : Int) - 1) && _) = false
        rw [decide_eq_false (by omega), Bool.false_and]
  all_goals
    have ec1 : DL.cutD (iD fs) none (some (at_ : Int)) = iD (fs.take at_) := by rw [PM.cut_to _ (by omega)]; exact iD_take fs at_
    have hl1 : (DL.cutD (iD fs) none (some (at_ : Int))).length + 1 ≤ 21 := by
      rw [ec1]
      unfold iD
      rw [List.length_map, List.length_take]
      omega
    have hl2 : (DL.cutD (iD fs) (some (at_ : Int)) none).length ≤ 20 := by
      rw [PM.cut_from _ (by omega)]
      unfold iD
      rw [List.length_drop, List.length_map]
      omega
    refine ⟨_, rfl, _, rfl, _, rfl, le_ok rfl, _, rfl, Nat.le_trans hl1 (show 21 ≤ 100000 by decide), _, rfl, _, rfl, (by rw [List.length_append]; exact Nat.le_trans (Nat.add_le_add hl1 hl2) (by decide)), _, rfl, le_ok rfl, _, rfl, ?_⟩
    have ei : (if (at_ : Int) < 20 then (at_ : Int) else 20) = ((at_ : Nat) : Int) := by split <;> omega
    rw [ei]
    have hlast : 0 ≤ (fs.take at_).getLast?.getD 0 := by
      cases hq : (fs.take at_).getLast? with
      | none => exact Int.le_refl _
      | some v => exact (fo.hf v (List.mem_of_mem_take (List.mem_of_getLast? hq))).1
    refine h _ at_ ⟨fs.take at_, odd, DL.cutD (iD fs) (some (at_ : Int)) none, ?_, by rw [List.length_take]; omega, fun w hw => fo.hf w (List.mem_of_mem_take hw), fo.hfs.sublist (List.take_sublist _ _), by omega, .inr (ho _ hlast)⟩
    rw [ec1]
    show (iD (fs.take at_) ++ [odd]) ++ _ = _
    rw [List.append_assoc]
    rfl
/-! marks -/
theorem lay_ints : ∀ xs : List Int, PyData.canLayAll0 (xs.map PyData.int) = true
  | [] => by rw [List.map_nil, PyData.canLayAll0]
  | x :: xs => by rw [List.map_cons, PyData.canLayAll0, lay_ints xs, PyData.canLay0]; rfl
theorem shaped1 (xs : List Int) : SeqAt.shaped (.list (xs.map PyData.int)) = true := by
  unfold SeqAt.shaped
  have h1 := depth_ints xs
  simp only [PyData.canLay0, lay_ints, PyData.depth, Bool.and_eq_true, decide_eq_true_eq]
  refine ⟨True.intro, ?_⟩
  refine decide_eq_true ?_
  omega
theorem eqOk1 (xs ys : List Int) : eqOk (.list (xs.map PyData.int)) (.list (ys.map PyData.int)) = true := by
  unfold eqOk
  rw [shaped1, shaped1, Bool.and_self, Bool.or_true]
theorem bm_at {n : Int} {gs : List Int} {d : PyData} {rest : List PyData} (h : ∀ (i : Nat) x, gs[i]? = some x → lastI gs i + 1 ≤ x ∧ x ≤ n - 1) (n1 : isNum d (gs.getLast?.getD 0 + 1) (n - 1) = false) (n2 : kdOf d ≠ none) : BadM n (iD gs ++ d :: rest) gs.length := ⟨gs, d, rest, rfl, rfl, h, n1, n2⟩
theorem bm_0 {n : Int} {d : PyData} {rest : List PyData} (n1 : isNum d 1 (n - 1) = false) (n2 : kdOf d ≠ none) : BadM n (d :: rest) 0 := ⟨[], d, rest, rfl, rfl, (fun i x e => by cases e), n1, n2⟩
theorem no_hi {v lo n : Int} (h : n ≤ v) : isNum (.int v) lo (n - 1) = false := by
  show (decide (lo ≤ v) && decide (v ≤ n - 1)) = false
  rw [decide_eq_false (p := v ≤ n - 1) (by omega), Bool.and_false]
theorem no_lo {v n : Int} : isNum (.int v) (v + 1) n = false := by
  show (decide (v + 1 ≤ v) && _) = false
  rw [decide_eq_false (by omega), Bool.false_and]
theorem cut_last {α : Type} (xs : List α) (z : α) : DL.cutD (xs ++ [z]) (some (-1)) none = [z] := by
  unfold DL.cutD
  have e : HT.sIx (xs ++ [z]).length 0 (some (-1)) = xs.length := by
    show (if (-1 : Int) < 0 then ((-1 : Int) + ((xs ++ [z]).length : Int)).toNat else min (-1 : Int).toNat (xs ++ [z]).length) = xs.length
    rw [if_pos (by decide), List.length_append]
    show (-1 + ((xs.length + 1 : Nat) : Int)).toNat = xs.length
    omega
  rw [e, HT.sIx_none, List.drop_left, List.length_append]
  show [z].take (xs.length + 1 - xs.length) = [z]
  rw [Nat.add_sub_cancel_left]
  rfl
def spBadMarks : SpD := fun rs S C => ∃ (D : Addr) (j : Nat) (n : Nat) (far : Int), rs = [.val (.ref D), .dat (.int n), .dat (.int far)] ∧ S[j]? = some (dice D) ∧ n ≤ 12 ∧ 0 ≤ far ∧ far ≤ 1000000 ∧ ∀ md i, BadM n md i → C (.dat (.tuple [.list md, .int (i : Nat)])) S
abbrev s__law_bad_marks : Stmt := topS 33
abbrev N__law_bad_marks : List Str := ["_law_d", "_law_many", "_law_far", "_law_good", "_law_way", "_law_twice", "_law_bad", "_law_place"]
theorem sc__law_bad_marks : FnScope N__law_bad_marks ["_law_d", "_law_many", "_law_far"] (defScope s__law_bad_marks) := ⟨rfl, rfl, rfl, by decide +kernel, rfl, by decide +kernel, by decide +kernel⟩
theorem ok_bad_marks {k : Nat} (F : FunAt K mg "_law_bad_marks" s__law_bad_marks ["_law_d", "_law_many", "_law_far"]) (B : Blt mg) (D1 : Def P w K mg base "_law_next" 1 2 spNext) : Def P w K mg base "_law_bad_marks" (k + 2) 3 spBadMarks := by
  refine okF F sc__law_bad_marks rfl fun cdv A outer s H E f hr => ⟨_,
    (ss_cons (s_lc (j := 3) sc__law_bad_marks.nd (i := 7) (i_r2 (by rfl) B.range (a_cons d_int (a_cons (dv 1) a_nil))) (blkOk_by (N := N__law_bad_marks) (sc := defScope s__law_bad_marks) (own := [("_law_place", 7)]) (by decide +kernel)) (fun _ _ _ _ _ => pg_name (i := 7) sc__law_bad_marks.nd rfl (Or.inl rfl)) (fun _ _ _ _ _ => (ts_one (t_eq hr.units (d_callF D1 (hr.mono (by omega)) (by rfl) (a_cons (dv 0) (a_cons d_int a_nil))) d_int))) (fun _ _ _ _ _ => (dv 7)))
      (ss_cons (s_set (i := 4) sc__law_bad_marks.nd (d_callF D1 (hr.mono (by omega)) (by rfl) (a_cons (dv 0) (a_cons d_int a_nil))))
      (ss_cons (s_set (i := 5) sc__law_bad_marks.nd (d_if (t_ne hr.units (dv 3) (d_lst a_nil)) (d_add (dv 3) (d_slice (dv 3) (o_some (d_neg d_int)) o_none)) (d_lst (a_cons (dv 1) a_nil))))
      (ss_cons (s_set (i := 6) sc__law_bad_marks.nd (d_ix (hu_of hr) (d_lst (a_cons (d_add (d_lst (a_cons d_int a_nil)) (dv 3)) (a_cons (d_add (dv 3) (d_lst (a_cons (dv 1) a_nil))) (a_cons (dv 5) (a_cons (d_add (d_lst (a_cons (d_add (dv 1) (dv 2)) a_nil)) (dv 3)) (a_cons (d_add (dv 3) (d_lst (a_cons d_non a_nil))) a_nil)))))) (dv 4)))
      (ss_one (s_ret (d_tup (a_cons (dv 6) (a_cons (d_ix (hu_of hr) (d_lst (a_cons d_int (a_cons (d_len (by rfl) B.len (a_cons (dv 3) a_nil)) (a_cons (d_len (by rfl) B.len (a_cons (dv 3) a_nil)) (a_cons d_int (a_cons (d_len (by rfl) B.len (a_cons (dv 3) a_nil)) a_nil)))))) (dv 4)) a_nil)))))))))
    , ?_⟩
  intro rs S C hl h
  obtain ⟨D, j, n, far, rfl, hj, hn12, f0, f1, h⟩ := h
  refine ⟨_, rfl, ⟨by omega, by omega, by omega, by omega⟩, fun k acc S' => S' = S ∧ ∃ gs : List Int, acc = gs.map (fun i => R.dat (.int i)) ∧ gs.length ≤ k ∧ (∀ (i : Nat) x, gs[i]? = some x → lastI gs i + 1 ≤ x) ∧ ∀ x ∈ gs, 1 ≤ x ∧ x ≤ k, ⟨rfl, [], rfl, Nat.le_refl _, (fun i x e => by cases e), (fun x e => by cases e)⟩, ?_, ?_⟩
  · rintro k r acc S' hk ⟨rfl, gs, rfl, gl, gv, gb⟩
    obtain ⟨hk1, hk2⟩ := rng_get hk
    refine dnext (D := D) (j := j) rfl hj (by decide) (by decide) fun y y0 y1 => ⟨rfl, ite2b (fun hb => ?_) (fun hb => ?_)⟩
    · refine ⟨_, rfl, by rw [List.length_map]; omega, rfl, gs ++ [1 + (k : Int)], by rw [List.map_append, hk2]; rfl, by rw [List.length_append]; exact Nat.succ_le_succ gl, fun i x e => ?_, fun x hx => ?_⟩
      · by_cases hi : i < gs.length
        · rw [List.getElem?_append_left hi] at e
          have := gv i x e
          unfold lastI at this ⊢
          split
          · rename_i h0
            rw [if_pos h0] at this
            exact this
          · rename_i h0
            rw [if_neg h0] at this
            rw [List.getD_eq_getElem?_getD, List.getElem?_append_left (by omega), ← List.getD_eq_getElem?_getD]
            exact this
        · have hi2 : i = gs.length := by
            have := (List.getElem?_eq_some_iff.mp e).1
            rw [List.length_append] at this
            simp at this
            omega
          subst hi2
          rw [List.getElem?_append_right (Nat.le_refl _), Nat.sub_self] at e
          cases e
          unfold lastI
          split
          · omega
          · rename_i h0
            rw [List.getD_eq_getElem?_getD, List.getElem?_append_left (by omega), List.getElem?_eq_getElem (by omega)]
            have := (gb _ (List.getElem_mem (by omega : gs.length - 1 < gs.length))).2
            show gs[gs.length - 1] + 1 ≤ _
            omega
      · rcases List.mem_append.mp hx with hx | hx
        · have := gb x hx
          omega
        · rw [List.mem_singleton.mp hx]
          omega
    · exact ⟨rfl, gs, rfl, by omega, gv, fun x hx => by have := gb x hx; omega⟩
  rintro acc S' ⟨rfl, gs, rfl, gl, gv, gb⟩
  rw [rng_len] at gl gb
  have gl12 : gs.length ≤ 12 := by omega
  have gvn : ∀ (i : Nat) x, gs[i]? = some x → lastI gs i + 1 ≤ x ∧ x ≤ (n : Int) - 1 := fun i x e => ⟨gv i x e, by have := gb x (List.mem_of_getElem? e); omega⟩
  have glast : 0 ≤ gs.getLast?.getD 0 := by
    cases hq : gs.getLast? with
    | none => exact Int.le_refl _
    | some v =>
      have := (gb v (List.mem_of_getLast? hq)).1
      show 0 ≤ v
      omega
  refine ⟨iD gs, dats_ints gs, ?_⟩
  refine dnext (D := D) (j := j) rfl hj (by decide) (by decide) fun wy wy0 wy1 => ?_
  have hgl : (iD gs).length = gs.length := by unfold iD; rw [List.length_map]
  have hc1 : 1 + (iD gs).length ≤ 100000 := by rw [hgl]; omega
  have hc2 : (iD gs).length + 1 ≤ 100000 := by rw [hgl]; omega
  rcases List.eq_nil_or_concat gs with e | ⟨g0, z, e⟩
  · subst e
    refine ⟨_, rfl, le_ok rfl, _, rfl, eqOk1 [] [], iteFb rfl ⟨_, rfl, le_ok rfl, _, rfl, ?_⟩⟩
    have hw5 : wy = 0 ∨ wy = 1 ∨ wy = 2 ∨ wy = 3 ∨ wy = 4 := by omega
    refine ⟨le_ok rfl, _, rfl, _, rfl, hc1, _, rfl, _, rfl, le_ok rfl, _, rfl, hc2, _, rfl, _, rfl, _, rfl, le_ok rfl, _, rfl, _, rfl, hc1, _, rfl, le_ok rfl, _, rfl, hc2, le_ok rfl, _, rfl, _, rfl, ?_⟩
    rcases hw5 with rfl | rfl | rfl | rfl | rfl
    · refine ⟨_, atI_nat (j := 0) rfl, _, rfl, _, rfl, _, rfl, _, rfl, le_ok rfl, _, rfl, _, rfl, _, atI_nat (j := 0) rfl, le_ok rfl, _, rfl, ?_⟩
      exact h _ 0 (bm_0 (rest := iD ([])) (by rfl) (fun z => nomatch z))
    · refine ⟨_, atI_nat (j := 1) rfl, _, rfl, _, rfl, _, rfl, _, rfl, le_ok rfl, _, rfl, _, rfl, _, atI_nat (j := 1) rfl, le_ok rfl, _, rfl, ?_⟩
      rw [hgl]
      exact h _ _ (bm_at gvn (no_hi (Int.le_refl _)) (fun z => nomatch z))
    · refine ⟨_, atI_nat (j := 2) rfl, _, rfl, _, rfl, _, rfl, _, rfl, le_ok rfl, _, rfl, _, rfl, _, atI_nat (j := 2) rfl, le_ok rfl, _, rfl, ?_⟩
      exact h _ 0 (bm_0 (rest := []) (no_hi (Int.le_refl _)) (fun z => nomatch z))
    · refine ⟨_, atI_nat (j := 3) rfl, _, rfl, _, rfl, _, rfl, _, rfl, le_ok rfl, _, rfl, _, rfl, _, atI_nat (j := 3) rfl, le_ok rfl, _, rfl, ?_⟩
      exact h _ 0 (bm_0 (rest := iD ([])) (no_hi (by omega)) (fun z => nomatch z))
    · refine ⟨_, atI_nat (j := 4) rfl, _, rfl, _, rfl, _, rfl, _, rfl, le_ok rfl, _, rfl, _, rfl, _, atI_nat (j := 4) rfl, le_ok rfl, _, rfl, ?_⟩
      rw [hgl]
      exact h _ _ (bm_at gvn rfl (fun z => nomatch z))
  · rw [List.concat_eq_append] at e
    subst e
    have en : PyData.eqv (.list (iD (g0 ++ [z]))) (.list []) = false := by
      cases g0 <;> rfl
    have ecl : DL.cutD (iD (g0 ++ [z])) (some (-1)) none = [PyData.int z] := by
      have := cut_last (iD g0) (PyData.int z)
      unfold iD at this ⊢
      rw [List.map_append]
      exact this
    have hcl : (iD (g0 ++ [z])).length + (DL.cutD (iD (g0 ++ [z])) (some (-1)) none).length ≤ 100000 := by rw [ecl]; exact hc2
    refine ⟨_, rfl, le_ok rfl, _, rfl, eqOk1 (g0 ++ [z]) [], iteTb (by rw [en]; rfl) ⟨_, rfl, _, rfl, hcl, ?_⟩⟩
    have hw5 : wy = 0 ∨ wy = 1 ∨ wy = 2 ∨ wy = 3 ∨ wy = 4 := by omega
    refine ⟨le_ok rfl, _, rfl, _, rfl, hc1, _, rfl, _, rfl, le_ok rfl, _, rfl, hc2, _, rfl, _, rfl, _, rfl, le_ok rfl, _, rfl, _, rfl, hc1, _, rfl, le_ok rfl, _, rfl, hc2, le_ok rfl, _, rfl, _, rfl, ?_⟩
    rcases hw5 with rfl | rfl | rfl | rfl | rfl
    · refine ⟨_, atI_nat (j := 0) rfl, _, rfl, _, rfl, _, rfl, _, rfl, le_ok rfl, _, rfl, _, rfl, _, atI_nat (j := 0) rfl, le_ok rfl, _, rfl, ?_⟩
      exact h _ 0 (bm_0 (rest := iD (g0 ++ [z])) (by rfl) (fun z => nomatch z))
    · refine ⟨_, atI_nat (j := 1) rfl, _, rfl, _, rfl, _, rfl, _, rfl, le_ok rfl, _, rfl, _, rfl, _, atI_nat (j := 1) rfl, le_ok rfl, _, rfl, ?_⟩
      rw [hgl]
      exact h _ _ (bm_at gvn (no_hi (Int.le_refl _)) (fun z => nomatch z))
    · refine ⟨_, atI_nat (j := 2) rfl, _, rfl, _, rfl, _, rfl, _, rfl, le_ok rfl, _, rfl, _, rfl, _, atI_nat (j := 2) rfl, le_ok rfl, _, rfl, ?_⟩
      rw [hgl, ecl]
      refine h _ _ (bm_at gvn ?_ (fun z => nomatch z))
      rw [List.getLast?_concat]
      exact no_lo
    · refine ⟨_, atI_nat (j := 3) rfl, _, rfl, _, rfl, _, rfl, _, rfl, le_ok rfl, _, rfl, _, rfl, _, atI_nat (j := 3) rfl, le_ok rfl, _, rfl, ?_⟩
      exact h _ 0 (bm_0 (rest := iD (g0 ++ [z])) (no_hi (by omega)) (fun z => nomatch z))
    · refine ⟨_, atI_nat (j := 4) rfl, _, rfl, _, rfl, _, rfl, _, rfl, le_ok rfl, _, rfl, _, rfl, _, atI_nat (j := 4) rfl, le_ok rfl, _, rfl, ?_⟩
      rw [hgl]
      exact h _ _ (bm_at gvn rfl (fun z => nomatch z))
end
end K16
set_option Elab.async false
set_option linter.all false
set_option maxRecDepth 100000
set_option maxHeartbeats 4000000
/-! DFa: what stays of a heap; lambdas that are kept. -/
namespace DL
open PySem PySem.Spec PyProof.Rows L2
/-! ### what stays: untracked, no frame -/
open Classical in
noncomputable def stayB (h : Heap) (H : Hp) (fs : List Addr) : Heap := PySem.W.hideAll h ((List.range h.objs.size).filter fun b => decide (¬ (H b = none ∧ b ∉ fs)))
theorem stay_get {h : Heap} {H : Hp} {fs : List Addr} {b : Addr} {o : Obj} : (stayB h H fs).get? b = some o ↔ h.get? b = some o ∧ H b = none ∧ b ∉ fs := by
  unfold stayB
  constructor
  · intro e
    have e0 := PySem.W.of_hideAll _ e
    refine ⟨e0, Classical.byContradiction fun n => ?_⟩
    rw [PySem.W.hideAll_none _ (List.mem_filter.mpr ⟨List.mem_range.mpr (Heap.lt_size e0), decide_eq_true n⟩)] at e
    cases e
  · rintro ⟨e, n⟩
    refine PySem.W.hideAll_get _ e fun z => ?_
    have q := (List.mem_filter.mp z).2
    simp only [decide_not, Bool.not_eq_true', decide_eq_false_iff_not] at q
    exact q n
theorem stay_size {h : Heap} {H : Hp} {fs : List Addr} : (stayB h H fs).objs.size = h.objs.size := PySem.W.hideAll_size _ _
theorem frames_re {h b b' : Heap} : ∀ {l : List Env}, h.FunFrames b l → (∀ L ∈ frs l, b'.get? L = none) → h.FunFrames b' l
  | [], _, _ => True.intro
  | env :: rest, z, n => by
    obtain ⟨hk, ⟨L, o, hf, hn, ho⟩, hr⟩ := z
    have ef : frs (env :: rest) = L :: frs rest := by
      unfold frs
      rw [List.filterMap_cons, hf]
    exact ⟨hk, ⟨L, o, hf, n L (by rw [ef]; exact List.mem_cons_self), ho⟩, frames_re hr fun M hM => n M (by rw [ef]; exact List.mem_cons_of_mem _ hM)⟩
section
variable {X : Cx} {pins : List (Addr × Obj)} {σ : L2.St} {H : Hp} {s : Shared}
theorem stay_base (I : Inv X pins σ H s) : ∀ b o, X.base.get? b = some o → (stayB s.heap H (frs X.stack)).get? b = some o := fun b o e => by
  refine stay_get.mpr ⟨(I.bs b o e).1, (I.bs b o e).2, fun z => ?_⟩
  rcases List.mem_cons.mp (I.stkSub _ z) with q | q
  · have h1 := Heap.lt_size e
    have h2 := I.ok.bsz
    have h3 := I.ok.above
    rw [q] at h1
    exact absurd (Nat.lt_of_lt_of_le h1 (Nat.le_trans h2 h3)) (Nat.lt_irrefl _)
  · exact I.ok.nofr e q
theorem env0_stay (I : Inv X pins σ H s) : Env0 X.prog X.w X.K X.mg (stayB s.heap H (frs X.stack)) X.A X.stack s H := by
  have e0 := I.env0
  have k := stay_base I
  obtain ⟨mb, m1, m2⟩ := e0.mod.blt
  exact { frames := e0.frames, mod := ⟨fun a o e => k a o (e0.mod.kin a o e), e0.mod.glob.keeps k, ⟨mb, m1.keeps k, m2⟩, e0.mod.nolimit.keeps k⟩,
          bs := fun b o e => ⟨(stay_get.mp e).1, (stay_get.mp e).2.1⟩, bsz := Nat.le_of_eq stay_size,
          funs := frames_re e0.funs fun L hL => by
            cases q : (stayB s.heap H (frs X.stack)).get? L with
            | none => rfl
            | some o => exact absurd hL (stay_get.mp q).2.2,
          frf := e0.frf, hok := e0.hok, bare := e0.bare }
end
/-! ### a kept lambda -/
abbrev lamO (q : Str) (params : Arguments) (body : Expr) (scope : Scope) (cl : List (Str × Addr)) (dV doc pm : Value) (c : Addr) (ctv : Value) : Obj := PySem.W.kdv_obj "<lambda>" q params (.expr body) scope cl dV doc pm c ctv
abbrev lamF (q : Str) (params : Arguments) (body : Expr) (scope : Scope) (cl : List (Str × Addr)) (dV doc pm : Value) (c : Addr) (ctv : Value) : FuncData := PySem.W.kdv_fn "<lambda>" q params (.expr body) scope cl dV doc pm (.ref c) ctv
theorem extn_upd {H : Hp} {a : Addr} {o : HO} (n : H a = none) : LamX.ExtN H (upd H a o) := fun b u e _ => by rw [upd_ne (ne_of_none e n)]; exact e
theorem tabs_upd {T : List (Addr × Str)} {H : Hp} {a : Addr} {o : HO} (n : H a = none) (t : LamX.Tabs T H) : LamX.Tabs T (upd H a o) := t.ext fun b u e => by rw [upd_ne (ne_of_none e n)]; exact e
section
variable {X : Cx} {pins : List (Addr × Obj)} {σ : L2.St} {H : Hp} {s : Shared}
/-- the function's object is laid and known -/
theorem laid_fn {h' : Heap} {o : Obj} {t : Nat} (I : Inv X pins σ H s) (k : ∀ b u, s.heap.get? b = some u → h'.get? b = some u) (hp : s.heap.objs.size ≤ h'.objs.size) (hc : o.isFreed = false) :
    Inv X pins σ (upd H h'.objs.size (FnO h'.objs.size o)) { s with heap := h'.push o, toks := t } := by
  have e : (h'.push o).get? h'.objs.size = some o := Heap.get?_push_size _ hc
  exact I.laid (fun b u q => Heap.get?_push_of_some _ (k b u q)) hp ⟨e, o, e⟩
variable {T : List (Addr × Str)} {c P : Addr} {params : Arguments} {body : Expr} {scope : Scope} {pos : Pos} {q : Str} {clos : List (Str × Addr)} {M : Value → Shared → Prop} {Q : Value → Shared → Prop}
/-- what a lambda comes to at its making -/
def Made (X : Cx) (pins : List (Addr × Obj)) (σ : L2.St) (T : List (Addr × Str)) (q : Str) (o : Value → Value → Addr → Value → Obj) (Q : Addr → Addr → Obj → Hp → Shared → Prop) (H : Hp) : Prop :=
  ∀ (f c' : Addr) (pm doc ctv : Value) (H1 : Hp) (s' : Shared), Inv X pins σ H1 s' → LamX.ExtN H H1 → LamX.Tabs T H1 → H1 f = some (FnO f (o doc pm c' ctv)) → H1 c' = some (LamX.CodeO c' q) → Q f c' (o doc pm c' ctv) H1 s'
theorem lam_tail {dV : Value} {Qf : Addr → Addr → Obj → Hp → Shared → Prop} (I : Inv X pins σ H s) (TB : LamX.TabB X.base X.mg c P) (hcode : X.env.code = .ref c) (hm : (P, q) ∈ T) (hu : ∀ z ∈ T, z.1 = P → z.2 = q) (hT : LamX.Tabs T H)
    (hcl : closureFor scope X.env = pure clos) (h : Made X pins σ T q (fun doc pm c' ctv => lamO q params body scope clos dV doc pm c' ctv) Qf H) (hQ : ∀ f c' o H1 s', Qf f c' o H1 s' → Q (.ref f) s') :
    wpAny (model X.prog X.w) X.A (makeTail "<lambda>" q params (.expr body) scope X.env dV .none none pos pos.line) Q M s := by
  obtain ⟨ps, tabP, trip, cods⟩ := hT (P, q) hm
  have bP := TB.bm.keeps I.bk
  have oP : s.heap.get? P = some (PySem.W.tabObj ps) := I.hok P _ tabP
  cases hc : codeAmong pos ps.toList with
  | some cv =>
    obtain ⟨c', ec, hco⟩ := cods pos cv hc
    subst ec
    refine PySem.W.kdv_makeTailHit hcl I.ok.glob (I.mod.glob.keeps I.bk) hcode (TB.code.keeps I.bk) oP trip hc bP fun ctv doc h' tk kp sz => ?_
    have n := I.hok.fresh sz
    exact hQ _ _ _ _ _ (h _ c' _ doc ctv _ _ (laid_fn (t := tk) I kp sz rfl) (extn_upd n) (tabs_upd n hT) upd_same (by rw [upd_ne (ne_of_none hco n)]; exact hco))
  | none =>
    refine PySem.W.kdv_makeTail hcl I.ok.glob (I.mod.glob.keeps I.bk) hcode (TB.code.keeps I.bk) oP trip hc TB.gP bP fun c' ctv doc h' tk hx ge lt rec' tb => ?_
    obtain ⟨c2, oc, vs, t, e2, hoc, hd, hv⟩ := rec'
    cases e2
    have nC := I.hok.fresh ge
    have cP : P ≠ c' := ne_of_none tabP nC
    have I1 := LamX.inv_table (t' := tk) (more := #[rawInt pos.line, rawInt pos.col, .ref c']) (h' := h') (c := c') (q := q) I tabP (fun b o nb e => hx b o nb e) tb ge ⟨oc, vs, t, hoc, hd, hv⟩
    have ex1 : LamX.ExtN H (upd (upd H P (.tbl (ps ++ #[rawInt pos.line, rawInt pos.col, .ref c']))) c' (LamX.CodeO c' q)) := fun b o e n => by
      rw [upd_ne (ne_of_none e nC), upd_ne (fun z => by rw [z, tabP] at e; exact n ps (Option.some.inj e).symm)]
      exact e
    have el : (ps ++ #[rawInt pos.line, rawInt pos.col, .ref c']).toList = ps.toList ++ [rawInt pos.line, rawInt pos.col, .ref c'] := Array.toList_append
    have t1 : LamX.Tabs T (upd (upd H P (.tbl (ps ++ #[rawInt pos.line, rawInt pos.col, .ref c']))) c' (LamX.CodeO c' q)) := fun z hz => by
      by_cases zP : z.1 = P
      · have zq := hu z hz zP
        refine ⟨_, by rw [zP, upd_ne cP, upd_same], el ▸ PySem.TriplesOk_snoc _ _ _ _ trip, fun p' cv hcv => ?_⟩
        rw [el] at hcv
        rw [zq]
        rcases LamX.among_app _ trip hcv with y | y
        · obtain ⟨c0, f1, f2⟩ := cods p' cv y
          exact ⟨c0, f1, ex1 _ _ f2 LamX.codeO_ne⟩
        · exact ⟨c', y, upd_same⟩
      · obtain ⟨ps', g1, g2, g3⟩ := hT z hz
        refine ⟨ps', by rw [upd_ne (ne_of_none g1 nC), upd_ne zP]; exact g1, g2, fun p' cv hcv => ?_⟩
        obtain ⟨c0, f1, f2⟩ := g3 p' cv hcv
        exact ⟨c0, f1, ex1 _ _ f2 LamX.codeO_ne⟩
    have n : (upd (upd H P (.tbl (ps ++ #[rawInt pos.line, rawInt pos.col, .ref c']))) c' (LamX.CodeO c' q)) h'.objs.size = none := I1.hok.fresh (Nat.le_refl _)
    refine hQ _ _ _ _ _ (h _ c' _ doc ctv _ _ (laid_fn (s := { s with heap := h', toks := tk }) (h' := h') (t := tk) I1 (fun _ _ e => e) (Nat.le_refl _) rfl) (ex1.trans (extn_upd n)) (tabs_upd n t1) upd_same ?_)
    rw [upd_ne (ne_of_none upd_same n)]
    exact upd_same
/-- without defaults -/
theorem lam_eval {Qf : Addr → Addr → Obj → Hp → Shared → Prop} (I : Inv X pins σ H s) (TB : LamX.TabB X.base X.mg c P) (hcode : X.env.code = .ref c) (hm : (P, X.env.qual ++ "<lambda>") ∈ T) (hu : ∀ z ∈ T, z.1 = P → z.2 = X.env.qual ++ "<lambda>") (hT : LamX.Tabs T H)
    (hcl : closureFor scope X.env = pure clos) (hdef : defaultsOf params X.env = ([], [])) (h : Made X pins σ T (X.env.qual ++ "<lambda>") (fun doc pm c' ctv => lamO (X.env.qual ++ "<lambda>") params body scope clos .none doc pm c' ctv) Qf H) (hQ : ∀ f c' o H1 s', Qf f c' o H1 s' → Q (.ref f) s') :
    wpAny (model X.prog X.w) X.A (eval (.Lambda params body scope pos) X.env) Q M s := by
  refine PySem.W.kla_eval hdef ?_
  rw [makeFunction_eq]
  simp only [List.zip_nil_right, List.filterMap_nil, List.isEmpty_nil, if_true, pure_bind]
  exact lam_tail I TB hcode hm hu hT hcl h hQ
/-- with one default: a number that is written -/
theorem lam_eval1 {i : Int} {j : Nat} {p : Pos} {Qf : Addr → Addr → Obj → Hp → Shared → Prop} (I : Inv X pins σ H s) (TB : LamX.TabB X.base X.mg c P) (hcode : X.env.code = .ref c) (hm : (P, X.env.qual ++ "<lambda>") ∈ T) (hu : ∀ z ∈ T, z.1 = P → z.2 = X.env.qual ++ "<lambda>") (hT : LamX.Tabs T H)
    (hcl : closureFor scope X.env = pure clos) (hd : params.defaults = [.Constant (.int i) j p]) (hk : params.kw_defaults = []) (hQ : ∀ f c' o H1 s', Qf f c' o H1 s' → Q (.ref f) s')
    (h : ∀ (a : Addr) (H0 : Hp) (s0 : Shared), H a = none → H0 = upd H a (.tup [.int i]) → Inv X pins σ H0 s0 → Made X pins σ T (X.env.qual ++ "<lambda>") (fun doc pm c' ctv => lamO (X.env.qual ++ "<lambda>") params body scope clos (.ref a) doc pm c' ctv) Qf H0) :
    wpAny (model X.prog X.w) X.A (eval (.Lambda params body scope pos) X.env) Q M s := by
  refine PySem.W.kdv_lam (by rw [hd]; rfl) hk ?_
  rw [hd]
  show wpAny _ _ (do let v ← eval (.Constant (.int i) j p) X.env; return v :: (← holding [v] (evalAll []))) _ _ _
  refine wpAny_bind (thn ((pe_int (X := X) (i := i) (j := j) (pos := p)).run pins s σ H (fun v H1 => v = .int i ∧ H1 = H) I ⟨rfl, rfl⟩) fun u s1 ⟨v, H1, I1, rv, e⟩ => ?_)
  obtain ⟨ev, eH⟩ := e
  subst ev
  rw [eH] at I1
  obtain ⟨tt, eu⟩ := rv
  subst eu
  refine wpAny_bind (wpAny_holding (wpAny_pure (wpAny_pure ?_)))
  rw [makeFunction_eq]
  simp only [List.zip_nil_right, List.filterMap_nil, List.isEmpty_cons, Bool.false_eq_true, if_false, List.isEmpty_nil, if_true, pure_bind]
  refine wpAny_bind (wpAny_newTextTuple ?_)
  have n := I1.hok.fresh (Nat.le_refl s1.heap.objs.size)
  have e1 : (s1.heap.push ⟨.type "tuple", none, .seq #[.int i tt] 0, #[]⟩).get? s1.heap.objs.size = some _ := Heap.get?_push_size _ rfl
  have I2 := I1.laid (a := s1.heap.objs.size) (o := .tup [.int i]) (h' := s1.heap.push { cls := .type "tuple", data := .seq [Value.int i tt].toArray }) (t' := s1.toks) (fun b u e => Heap.get?_push_of_some _ e) (Nat.le_refl _)
    ⟨by show 1 ≤ sizeLine; decide, [.int i tt], .cons ⟨tt, rfl⟩ .nil, _, Heap.get?_push_size _ rfl, rfl, _, rfl⟩
  exact lam_tail I2 TB hcode hm hu (tabs_upd n hT) hcl (h _ _ _ n rfl I2) hQ
end
end DL
set_option Elab.async false
set_option linter.all false
set_option maxRecDepth 100000
set_option maxHeartbeats 4000000
/-! DFb: a kept lambda is called. -/
namespace DL
open PySem PySem.Spec PyProof.Rows L2
/-! ### names of a lambda: captured ones, globals, its defaults' parameters -/
structure LamD (N : List Str) (sc scope : Scope) (xs : List Str) : Prop where
  kind : scope.kind = .function
  co : scope.isCoroutine = false
  gen : scope.isGenerator = false
  own : ∀ y ∈ scope.names, y.2 ≠ .cell ∧ (y.2 = .local → y.1 ∉ N)
  free : ∀ y ∈ scope.names, y.2 = .free → sc.names.lookup y.1 = some .cell ∨ sc.names.lookup y.1 = some .free
  par : ∀ x ∈ xs, scope.names.lookup x = some .local
def lamDB (N : List Str) (sc scope : Scope) (xs : List Str) : Bool :=
  decide (scope.kind = .function) && (!scope.isCoroutine && (!scope.isGenerator && ((scope.names.all fun y => decide (y.2 ≠ .cell) && (!decide (y.2 = .local) || decide (y.1 ∉ N))) && ((scope.names.all fun y => !decide (y.2 = .free) || (decide (sc.names.lookup y.1 = some .cell) || decide (sc.names.lookup y.1 = some .free))) &&
    xs.all fun x => decide (scope.names.lookup x = some .local)))))
theorem lamD_by {N : List Str} {sc scope : Scope} {xs : List Str} (h : lamDB N sc scope xs = true) : LamD N sc scope xs := by
  unfold lamDB at h
  simp only [Bool.and_eq_true, Bool.or_eq_true, Bool.not_eq_true', decide_eq_true_eq, decide_eq_false_iff_not, List.all_eq_true] at h
  obtain ⟨h1, h2, h3, h4, h5, h6⟩ := h
  exact ⟨h1, h2, h3, fun y hy => ⟨(h4 y hy).1, fun e => (h4 y hy).2.resolve_left fun n => n e⟩, fun y hy e => (h5 y hy).resolve_left fun n => n e, h6⟩
theorem LamD.has {X : Cx} {scope : Scope} {N xs : List Str} (D : LamD N X.env.scope scope xs) (ok : X.Ok) : ∀ y ∈ scope.names, y.2 = .free → ∃ c, X.env.cells.lookup y.1 = some c := fun y hy e => ok.has _ (D.free y hy e)
/-! ### what is captured: by places -/
def stOf (n : Nat) (is : List Nat) (vs : List V) : L2.St := (List.range n).map fun i => (is.zip vs).lookup i
def frOf (n : Nat) (is : List Nat) (rs : List R) : Fr := (List.range n).map fun i => (is.zip rs).lookup i
theorem look_zip {α : Type} : ∀ {is : List Nat} {vs : List α} {i : Nat} {v : α}, (is.zip vs).lookup i = some v → ∃ j : Nat, is[j]? = some i ∧ vs[j]? = some v
  | [], vs, i, v, h => by cases h
  | _ :: _, [], i, v, h => by cases h
  | a :: is, w :: vs, i, v, h => by
    rw [List.zip_cons_cons, List.lookup_cons] at h
    cases e : (i == a) with
    | true =>
      rw [e] at h
      cases h
      exact ⟨0, by rw [eq_of_beq e]; rfl, rfl⟩
    | false =>
      rw [e] at h
      obtain ⟨j, h1, h2⟩ := look_zip h
      exact ⟨j + 1, h1, h2⟩
theorem stOf_at {n : Nat} {is : List Nat} {vs : List V} {i : Nat} {v : V} (h : (stOf n is vs)[i]? = some (some v)) : ∃ j : Nat, is[j]? = some i ∧ vs[j]? = some v := by
  unfold stOf at h
  rw [List.getElem?_map] at h
  cases e : (List.range n)[i]? with
  | none => rw [e] at h; cases h
  | some k =>
    rw [e] at h
    obtain ⟨hl, hk⟩ := List.getElem?_eq_some_iff.mp e
    rw [List.getElem_range] at hk
    subst hk
    exact look_zip (Option.some.inj h)
/-- the captured values, as they are live -/
theorem fr_caps {n : Nat} {L : Live} : ∀ {is : List Nat} {vs : List V} {rs : List R}, Lives L vs rs → FrOk (stOf n is vs) (frOf n is rs) L := fun {is vs rs} h => by
  have key : ∀ {is : List Nat} {vs : List V} {rs : List R}, Lives L vs rs → ∀ (i : Nat) (r : R), (is.zip rs).lookup i = some r → ∃ v, (is.zip vs).lookup i = some v ∧ (v, r) ∈ L := by
    intro is
    induction is with
    | nil => intro vs rs _ i r e; cases e
    | cons a is ih =>
      intro vs rs h i r e
      cases h with
      | nil => cases e
      | @cons v r0 vs rs m t =>
        rw [List.zip_cons_cons, List.lookup_cons] at e ⊢
        cases q : (i == a) with
        | true => rw [q] at e; cases e; exact ⟨v, rfl, m⟩
        | false => rw [q] at e; exact ih t i r e
  refine ⟨by unfold stOf frOf; rw [List.length_map, List.length_map], fun i r e => ?_⟩
  unfold frOf at e
  rw [List.getElem?_map] at e
  cases q : (List.range n)[i]? with
  | none => rw [q] at e; cases e
  | some k =>
    rw [q] at e
    obtain ⟨v, e1, e2⟩ := key h k r (Option.some.inj e)
    refine ⟨v, ?_, e2⟩
    unfold stOf
    rw [List.getElem?_map, q]
    exact congrArg some e1
/-! ### X's cells, at a heap that stays -/
structure CapAt (X : Cx) (base : Heap) (is : List Nat) (vs : List V) : Prop where
  cell : ∀ y c, X.env.cells.lookup y = some c → ∃ v, base.IsCell c v
  at_ : ∀ (j i : Nat) (v : V) (y : Str), is[j]? = some i → vs[j]? = some v → X.N[i]? = some y → (X.env.scope.names.lookup y = some .cell ∨ X.env.scope.names.lookup y = some .free) → ∃ c u, X.env.cells.lookup y = some c ∧ base.IsCell c (some u) ∧ RelV v u
  bs : ∀ b o, X.base.get? b = some o → base.get? b = some o
  bsz : X.base.objs.size ≤ base.objs.size
  ok : X.Ok
theorem cap_of {X : Cx} {pins : List (Addr × Obj)} {σ : L2.St} {H : Hp} {s : Shared} {is : List Nat} {vs : List V} (I : Inv X pins σ H s) (hfn : ∀ y, X.fn y = true) (hv : ∀ (j i : Nat) (v : V), is[j]? = some i → vs[j]? = some v → σ[i]? = some (some v)) :
    CapAt X (stayB s.heap H (frs X.stack)) is vs := by
  have nf : ∀ y c, X.env.cells.lookup y = some c → c ∉ frs X.stack := fun y c e z => by
    rcases List.mem_cons.mp (I.stkSub _ z) with q | q
    · exact I.cne y c e q
    · obtain ⟨_, o, ho, _⟩ := I.ok.funs.mem q
      exact absurd (Nat.lt_of_lt_of_le (Heap.lt_size ho) (I.ok.cab y c (hfn y) e)) (Nat.lt_irrefl _)
  have stay : ∀ y c v, X.env.cells.lookup y = some c → s.heap.IsCell c v → (stayB s.heap H (frs X.stack)).IsCell c v := fun y c v e ⟨o, ho, hd⟩ => ⟨o, stay_get.mpr ⟨ho, I.freeC y c e, nf y c e⟩, hd⟩
  refine ⟨fun y c e => ?_, fun j i v y hj hw hy hk => ?_, stay_base I, by rw [stay_size]; exact Nat.le_trans (Nat.le_trans I.ok.bsz I.ok.above) (Nat.le_of_lt I.lt), I.ok⟩
  · obtain ⟨v, q⟩ := I.cell y c e
    exact ⟨v, stay y c v e q⟩
  · obtain ⟨m, _, hl⟩ := I.loc
    obtain ⟨u, r, q⟩ := hl i y v hy (hv j i v hj hw) (.inr hk)
    rcases q with ⟨k1, _⟩ | ⟨_, c, e, z⟩
    · have k1 : X.env.scope.names.lookup y = some .local := k1
      rcases hk with k2 | k2 <;> (rw [k1] at k2; cases k2)
    · exact ⟨c, u, e, stay y c _ e z, r⟩
theorem lam_begin {X : Cx} {A : Around} {outer : List Env} {E : XK} {scope : Scope} {f c : Addr} {h1 : Heap} {tk : Nat} {base : Heap} {is : List Nat} {vs : List V} {xs : List Str} {m : Str → Option Value} {s1 : Shared} {HZ : Hp} (cp : CapAt X base is vs) (D : LamD X.N X.env.scope scope xs) (e0 : Env0 X.prog X.w X.K X.mg base A outer s1 HZ) (hd : A.handled = none)
    (hns : h1.Ns s1.heap.objs.size m) (kp : ∀ b o, s1.heap.get? b = some o → h1.get? b = some o) : Inv (LamX.lamCx X A outer s1 HZ E scope f c) [] (stOf X.N.length is vs) HZ { s1 with heap := h1, toks := tk } := by
  have hfree := D.has cp.ok
  have same : ∀ {y a}, (cloFrom X.env.cells scope.names []).lookup y = some a → X.env.cells.lookup y = some a := fun {y a} e => by
    rcases cloFrom_mem (PySem.mem_of_lookup e) with z | ⟨z1, z2⟩
    · cases z
    · obtain ⟨a1, ha⟩ := hfree _ z1 rfl
      have ha : X.env.cells.lookup y = some a1 := ha
      rw [ha] at z2
      rw [ha, z2]
      rfl
  have look : ∀ {y}, scope.names.lookup y = some .free → ∃ a, (cloFrom X.env.cells scope.names []).lookup y = some a := fun {y} hl => mem_lookup (cloFrom_has (cells := X.env.cells) (acc := []) (PySem.mem_of_lookup hl))
  have cellK : ∀ {a v}, base.IsCell a v → h1.IsCell a v ∧ HZ a = none := fun {a v} ⟨o, ho, hdt⟩ => ⟨⟨o, kp _ _ (e0.bs _ _ ho).1, hdt⟩, (e0.bs _ _ ho).2⟩
  have none_ex : ∀ b : Addr, b ∉ (LamX.lamCx X A outer s1 HZ E scope f c).ex := fun b z => by cases z
  have bX : ∀ b o, X.base.get? b = some o → s1.heap.get? b = some o ∧ HZ b = none := fun b o e => e0.bs b o (cp.bs b o e)
  refine ⟨⟨cp.ok.mod, D.kind, rfl, rfl, Nat.le_refl _, fun y z a q1 q2 => cp.ok.inj y z a (same q1) (same q2), fun y hy => ?_, fun y a z _ => ?_, fun _ => hd, Around.frames_deeper e0.frames, .inr ⟨rfl, rfl⟩, fun b z => absurd z (none_ex b), bX, Nat.le_trans cp.bsz e0.bsz, fun b _ _ => none_ex b,
      fun b z => absurd z (none_ex b), frames_re e0.funs fun L hL => ?_, e0.frf⟩,
    rfl, e0.bare, Un.kept kp, ⟨_, hns, fun i y v q1 q2 q3 => ?_⟩, fun y a e => ?_, e0.hok.fresh (Nat.le_refl _), fun y a e => ?_, fun q hq => absurd (show q ∈ ([] : List (Addr × Obj)) ++ [] from hq) (by simp), e0.hok.kept kp, by unfold stOf; rw [List.length_map, List.length_range]; rfl⟩
  · have hy : scope.names.lookup y = some .cell ∨ scope.names.lookup y = some .free := hy
    rcases hy with hy | hy
    · exact absurd rfl (D.own _ (PySem.mem_of_lookup hy)).1
    · exact look hy
  · have z : false = true := z
    cases z
  · show X.base.get? L = none
    cases q : X.base.get? L with
    | none => rfl
    | some o =>
      obtain ⟨n, _⟩ := e0.funs.mem hL
      rw [cp.bs L o q] at n
      cases n
  · have q1 : X.N[i]? = some y := q1
    have q3 : Vis scope y := q3
    rcases q3 with k | k | k
    · exact absurd (List.mem_of_getElem? q1) ((D.own _ (PySem.mem_of_lookup k)).2 rfl)
    · exact absurd rfl (D.own _ (PySem.mem_of_lookup k)).1
    · obtain ⟨j, j1, j2⟩ := stOf_at q2
      obtain ⟨a, u, w1, w2, w3⟩ := cp.at_ j i v y j1 j2 q1 (D.free _ (PySem.mem_of_lookup k) rfl)
      obtain ⟨a2, h2⟩ := look k
      have e2 := same h2
      rw [w1] at e2
      cases e2
      exact ⟨u, w3, .inr ⟨.inr k, a, h2, (cellK w2).1⟩⟩
  · obtain ⟨v, z⟩ := cp.cell y a (same e)
    exact ⟨v, (cellK z).1⟩
  · obtain ⟨v, z⟩ := cp.cell y a (same e)
    exact (cellK z).2
/-! ### the call -/
/-- what is bound -/
def BindL (fd : FuncData) (t : Option (Addr × List V)) (xs : List Str) : Prop :=
  (t = none ∧ bindArgs fd ⟨[], []⟩ = pure []) ∨ ∃ (x : Str) (a : Addr) (i : Int) (k : Option (Array Value) → Sem (List (Str × Value))), x ∈ xs ∧ t = some (a, [.int i]) ∧ fd.defaults = .ref a ∧ bindArgs fd ⟨[], []⟩ = seqItems? fd.defaults >>= k ∧ ∀ u, k (some #[u]) = pure [(x, u)]
theorem lam_call {X : Cx} {A : Around} {outer : List Env} {E : XK} {params : Arguments} {body : Expr} {scope : Scope} {f c : Addr} {base : Heap} {is : List Nat} {vs : List V} {xs : List Str} {s1 : Shared} {HZ : Hp} {dV doc pm ctv : Value} {t : Option (Addr × List V)} {k : Nat} {tb : TE} {Q : VK}
    (cp : CapAt X base is vs) (D : LamD X.N X.env.scope scope xs) (e0 : Env0 X.prog X.w X.K X.mg base A outer s1 HZ) (hr : Room (k + 1) A) (hf : HZ f = some (FnO f (lamO (X.env.qual ++ "<lambda>") params body scope (cloFrom X.env.cells scope.names []) dV doc pm c ctv)))
    (hc : HZ c = some (LamX.CodeO c (X.env.qual ++ "<lambda>"))) (ht : ∀ z, t = some z → HZ z.1 = some (.tup z.2)) (hb : BindL (lamF (X.env.qual ++ "<lambda>") params body scope (cloFrom X.env.cells scope.names []) dV doc pm c ctv) t xs)
    (hbody : Room k (A.deeper (LamX.lamEnv X scope s1.heap.objs.size f c)) → PE (LamX.lamCx X A outer s1 HZ E scope f c) body tb) (q : tb (stOf X.N.length is vs) HZ Q) : codeAny (model X.prog X.w) A (.call (.ref f) ⟨[], []⟩) (CR (L2.CX X.prog X.w) outer X.prog X.w HZ s1 Q E) s1 := by
  have of1 : s1.heap.get? f = some (lamO (X.env.qual ++ "<lambda>") params body scope (cloFrom X.env.cells scope.names []) dV doc pm c ctv) := (e0.hok f _ hf).1
  obtain ⟨⟨oc, cvs, ct, hoc, hdc, hvc⟩, _, _⟩ := e0.hok c _ hc
  have nl : s1.heap.NoLimit := e0.mod.nolimit.keeps fun b o e => (e0.bs b o e).1
  obtain ⟨bs, bt, bl⟩ : ∃ bs : List (Str × Value), BindsTo s1 (lamF (X.env.qual ++ "<lambda>") params body scope (cloFrom X.env.cells scope.names []) dV doc pm c ctv) ⟨[], []⟩ bs ∧ ∀ y ∈ bs, scope.names.lookup y.1 = some .local := by
    rcases hb with ⟨_, e⟩ | ⟨x, a, i, kk, hx, et, ed, e1, e2⟩
    · exact ⟨[], BindsTo.of_eq e, fun y hy => by cases hy⟩
    · obtain ⟨_, its, r, ob, eo, _, n, ed2⟩ := e0.hok a _ (ht _ et)
      cases r with | @cons _ u _ us ru rt =>
      cases rt
      exact ⟨[(x, u)], BindsTo.of_defaults ed eo ed2 e1 (e2 u), fun y hy => by rw [List.mem_singleton.mp hy]; exact D.par x hx⟩
  refine PySem.W.kla_callFunE hr.depth of1 rfl D.co D.gen rfl ⟨c, oc, cvs, ct, rfl, hoc, hdc, hvc⟩ (bt _ _ _ _ ?_)
  refine wpAny_newFunctionEnv (fun y hy => (D.own y hy).1) bl (fun h1 hns hsb => ⟨nl.fresh _ hsb, ?_⟩) D.kind
  show codeAny _ _ (.expr body (LamX.lamEnv X scope s1.heap.objs.size f c)) _ _
  have kp : ∀ b o, s1.heap.get? b = some o → h1.get? b = some o := fun b o e => hsb.extBut b o (Nat.ne_of_lt (Heap.lt_size e)) (Heap.get?_push_of_some _ e)
  have J := lam_begin (E := E) (f := f) (c := c) (tk := s1.toks + bs.length) cp D e0 hr.hd hns kp
  refine PySem.W.kla_codeExpr (thn ((hbody (hr.deeper _)).run [] _ _ HZ Q J q) fun v s' ⟨w', H', J', rv, q'⟩ => ?_)
  exact ⟨w', H', J'.os, J'.bare, J'.base, J'.hok, rv, q'⟩
end DL
set_option Elab.async false
set_option linter.all false
set_option maxRecDepth 100000
set_option maxHeartbeats 4000000
/-! DFc: kept lambdas by cells: made; told by a def; what is captured is handed on. -/
namespace DL
open PySem PySem.Spec PyProof.Rows L2
structure Lm where
  params : Arguments
  body : Expr
  scope : Scope
  xs : List Str
  de : DEX
/-- o is m's object, made by X -/
def IsLam (X : Cx) (m : Lm) (o : Obj) (c : Addr) (t : Option (Addr × List V)) : Prop :=
  ∃ dV doc pm ctv, o = lamO (X.env.qual ++ "<lambda>") m.params m.body m.scope (cloFrom X.env.cells m.scope.names []) dV doc pm c ctv ∧ ((m.xs = [] ∧ t = none ∧ dV = .none) ∨ ∃ a i, m.xs ≠ [] ∧ t = some (a, [.int i]) ∧ dV = .ref a)
structure LmOk (X : Cx) (k : Nat) (m : Lm) : Prop where
  D : LamD X.N X.env.scope m.scope m.xs
  bnd : (m.xs = [] ∧ ∀ q cl doc pm c ctv, bindArgs (lamF q m.params m.body m.scope cl .none doc pm c ctv) ⟨[], []⟩ = pure []) ∨
    ∃ x, m.xs = [x] ∧ ∀ q cl a doc pm c ctv, ∃ kk : Option (Array Value) → Sem (List (Str × Value)), bindArgs (lamF q m.params m.body m.scope cl (.ref a) doc pm c ctv) ⟨[], []⟩ = seqItems? (.ref a) >>= kk ∧ ∀ u, kk (some #[u]) = pure [(x, u)]
  body : ∀ (A : Around) (outer : List Env) (s : Shared) (H : Hp) (E : XK) (f c' : Addr), Room k (A.deeper (LamX.lamEnv X m.scope s.heap.objs.size f c')) → PDE (LamX.lamCx X A outer s H E m.scope f c') m.body m.de
/-- o is a lambda of X's, that makes m -/
structure FnIs (X : Cx) (k : Nat) (m : Lm) (o : Obj) (c : Addr) (t : Option (Addr × List V)) : Prop where
  ok : LmOk X k m
  is : IsLam X m o c t
/-! ### made -/
def dLamF (X : Cx) (k : Nat) (P : Addr) (q : Str) (m : Lm) : DE := fun fr S C => (∃ j : Nat, S[j]? = some (.tbl P q)) ∧ ∀ f c o t, FnIs X k m o c t → C (.fn f c o q t [] []) S
def tLamF (X : Cx) (k : Nat) (P : Addr) (q : Str) (m : Lm) : TE := fun σ H Q => ∃ T : List (Addr × Str), (P, q) ∈ T ∧ (∀ z ∈ T, z.1 = P → z.2 = q) ∧ LamX.Tabs T H ∧
  ∀ f c o t H1, LamX.ExtN H H1 → LamX.Tabs T H1 → H1 f = some (FnO f o) → H1 c = some (LamX.CodeO c q) → (∀ z, t = some z → H1 z.1 = some (.tup z.2)) → FnIs X k m o c t → Q (.ref f) H1
theorem lift_lamF {X : Cx} {k : Nat} {P : Addr} {q : Str} {m : Lm} : Lift X.K (tLamF X k P q m) (dLamF X k P q m) := by
  intro F H σ fr S L fo o C Q hd hq
  obtain ⟨⟨j, hj⟩, h⟩ := hd
  have hm0 : Cell.tbl P q ∈ S ++ F := at_split (in_app hj)
  refine ⟨tabsOf (S ++ F), tabs_mem hm0, fun z hz e => ?_, fun z hz => o.cells _ (of_tabs hz), fun f c ob t H1 eN t1 e1 e2 e3 il => ?_⟩
  · obtain ⟨i1, g1⟩ := List.getElem?_of_mem (of_tabs hz)
    obtain ⟨i2, g2⟩ := List.getElem?_of_mem hm0
    have w1 : ((S ++ F).map Cell.pt)[i1]? = some P := by rw [List.getElem?_map, g1]; exact congrArg some e
    have w2 : ((S ++ F).map Cell.pt)[i2]? = some P := by rw [List.getElem?_map, g2]; rfl
    obtain rfl := nd_ix o.nd w1 w2
    rw [g1] at g2
    injection Option.some.inj g2
  · exact hq _ (.fn f c ob q t [] []) S H1 ((Ok.tabs o eN t1).push (v := .ref f) (r := .fn f c ob q t [] []) ⟨rfl, e1, e2, e3, True.intro⟩) (h f c ob t il)
section
variable {X : Cx} {k : Nat} {c P : Addr} {params : Arguments} {body : Expr} {scope : Scope} {xs : List Str} {de : DEX} {pos : Pos}
theorem d_lamF0 (TB : LamX.TabB X.base X.mg c P) (hcode : X.env.code = .ref c) (D : LamD X.N X.env.scope scope []) (bnd : ∀ q cl doc pm c ctv, bindArgs (lamF q params body scope cl .none doc pm c ctv) ⟨[], []⟩ = pure [])
    (hb : ∀ (A : Around) (outer : List Env) (s : Shared) (H : Hp) (E : XK) (f c' : Addr), Room k (A.deeper (LamX.lamEnv X scope s.heap.objs.size f c')) → PDE (LamX.lamCx X A outer s H E scope f c') body de) (hdef : defaultsOf params X.env = ([], [])) :
    PD X (.Lambda params body scope pos) (dLamF X k P (X.env.qual ++ "<lambda>") ⟨params, body, scope, [], de⟩) := by
  have ok : LmOk X k ⟨params, body, scope, [], de⟩ := ⟨D, .inl ⟨rfl, bnd⟩, hb⟩
  refine ⟨_, ⟨fun pins s σ H Q I h => ?_⟩, lift_lamF⟩
  obtain ⟨T, h1, h2, h3, h⟩ := h
  exact lam_eval (Qf := fun f _ _ H1 s' => Inv X pins σ H1 s' ∧ Q (.ref f) H1) I TB hcode h1 h2 h3 (closure_ok (ok.D.has I.ok)) hdef
    (fun f c' pm doc ctv H1 s' I1 eN t1 e1 e2 => ⟨I1, h f c' _ none H1 eN t1 e1 e2 (fun z hz => by cases hz) ⟨ok, _, doc, pm, ctv, rfl, .inl ⟨rfl, rfl, rfl⟩⟩⟩) fun f c' o H1 s' z => ⟨.ref f, H1, z.1, rfl, z.2⟩
theorem d_lamF1 {x : Str} {i : Int} {j : Nat} {p : Pos} (TB : LamX.TabB X.base X.mg c P) (hcode : X.env.code = .ref c) (D : LamD X.N X.env.scope scope [x]) (bnd : ∀ q cl a doc pm c ctv, ∃ kk : Option (Array Value) → Sem (List (Str × Value)), bindArgs (lamF q params body scope cl (.ref a) doc pm c ctv) ⟨[], []⟩ = seqItems? (.ref a) >>= kk ∧ ∀ u, kk (some #[u]) = pure [(x, u)])
    (hb : ∀ (A : Around) (outer : List Env) (s : Shared) (H : Hp) (E : XK) (f c' : Addr), Room k (A.deeper (LamX.lamEnv X scope s.heap.objs.size f c')) → PDE (LamX.lamCx X A outer s H E scope f c') body de) (hd : params.defaults = [.Constant (.int i) j p]) (hk : params.kw_defaults = []) :
    PD X (.Lambda params body scope pos) (dLamF X k P (X.env.qual ++ "<lambda>") ⟨params, body, scope, [x], de⟩) := by
  have ok : LmOk X k ⟨params, body, scope, [x], de⟩ := ⟨D, .inr ⟨x, rfl, bnd⟩, hb⟩
  refine ⟨_, ⟨fun pins s σ H Q I h => ?_⟩, lift_lamF⟩
  obtain ⟨T, h1, h2, h3, h⟩ := h
  refine lam_eval1 (Qf := fun f _ _ H1 s' => Inv X pins σ H1 s' ∧ Q (.ref f) H1) I TB hcode h1 h2 h3 (closure_ok (ok.D.has I.ok)) hd hk (fun f c' o H1 s' z => ⟨.ref f, H1, z.1, rfl, z.2⟩) fun a H0 s0 n e0 I0 => ?_
  subst e0
  have x0 : LamX.ExtN H (upd H a (.tup [.int i])) := extn_upd n
  exact fun f c' pm doc ctv H1 s' I1 eN t1 e1 e2 => ⟨I1, h f c' _ (some (a, [.int i])) H1 (x0.trans eN) t1 e1 e2 (fun z hz => by cases hz; exact eN _ _ upd_same (fun _ z => nomatch z)) ⟨ok, _, doc, pm, ctv, rfl, .inr ⟨a, i, (fun z => nomatch z), rfl, rfl⟩⟩⟩
end
/-! ### told -/
/-- what a def makes of the kept lambdas that it is handed -/
def spFn (X : Cx) (k : Nat) (CW : Addr) (Kn : Addr → Prop) (sp : Addr → List (Str × V) → SH → CR0 → Prop) (is : List Nat) (vs0 : List V) : SpD := fun rs S C => ∃ f c o t rs' m, rs = [.fn f c o (X.env.qual ++ "<lambda>") t vs0 rs'] ∧ FnIs X k m o c t ∧
  m.de (frOf X.N.length is rs') S C fun Cc fs S' => PySem.W.exmOne X.K (.ref Cc) (.ref CW) = some true ∧ Kn Cc ∧ sp Cc fs S' C
theorem told_fn {X : Cx} {base : Heap} {x a : Str} {st : Stmt} {Ng : List Str} {CW : Addr} {k : Nat} {Kn : Addr → Prop} {sp : Addr → List (Str × V) → SH → CR0 → Prop} {is : List Nat} {vs0 : List V}
    (Fn : FunAt X.K X.mg x st [a]) (Sg : FnScope Ng [a] (defScope st)) (hNg : Ng[0]? = some a) (hva : Vis (defScope st) a) (hG : ∀ A outer, Room 2 A → ∀ g cdv, LamX.GivesTo { X with base := base, A := A, stack := outer } Ng x (defScope st) g cdv (defBody st) a (X.env.qual ++ "<lambda>") (TTx X.K CW Kn sp))
    (cp : CapAt X base is vs0) (hd : (a == ("__debug__" : Str)) = false := by decide) (hcd : (a == ("__classdict__" : Str)) = false := by decide) :
    Def X.prog X.w X.K X.mg base x (k + 3) 1 (spFn X (k + 1) CW Kn sp is vs0) := by
  obtain ⟨g, fd, Fu, hm, hb⟩ := Fn.ex
  have kp := Fu.kp
  obtain ⟨oc, od, kV, doc, pm, an, cdv, ct, osl, rfl, lk, hcd2⟩ := Fu.ex
  refine ⟨g, _, [a], ⟨fun vs H Q E h => h.1, fun A outer s H args us vs Q E hr e0 hbi r hsp => ?_⟩, hm, kp, hb⟩
  obtain ⟨hl1, F, S, L, rs, C, o, lv, hs, q⟩ := hsp
  obtain ⟨f, c, ob, t, rs', m, rfl, ⟨ok, il⟩, hde⟩ := hs
  cases lv with | @cons v _ vs _ mv tv =>
  cases tv
  have hrep := o.live _ mv
  obtain ⟨ev, hf, hc, ht, hcap⟩ : v = V.ref f ∧ H f = some (FnO f ob) ∧ H c = some (LamX.CodeO c (X.env.qual ++ "<lambda>")) ∧ (∀ z, t = some z → H z.1 = some (.tup z.2)) ∧ RepRl X.K (Av (S ++ F)) H vs0 rs' := hrep
  subst ev
  obtain ⟨L', o', sL, lc⟩ := push_rs o hcap.pair
  obtain ⟨dV, ldoc, lpm, ctv, eo, hdv⟩ := il
  subst eo
  refine LamX.run_ofS (N := Ng) (ps := [a]) (us := us) (vs := [.ref f]) lk hcd2 Sg hr e0 hbi r rfl fun hr' => ?_
  let tl : XK → Hp → VK → Prop := fun E' HZ Q' => HZ f = some (FnO f (lamO (X.env.qual ++ "<lambda>") m.params m.body m.scope (cloFrom X.env.cells m.scope.names []) dV ldoc lpm c ctv)) ∧ (∀ z, t = some z → HZ z.1 = some (.tup z.2)) ∧ toTX X.K m.de E' (stOf X.N.length is vs0) HZ Q'
  have hbl : BindL (lamF (X.env.qual ++ "<lambda>") m.params m.body m.scope (cloFrom X.env.cells m.scope.names []) dV ldoc lpm c ctv) t m.xs := by
    rcases hdv with ⟨z1, z2, z3⟩ | ⟨ad, i, z1, z2, z3⟩
    · rcases ok.bnd with ⟨_, b⟩ | ⟨x, b, _⟩
      · subst z3
        exact .inl ⟨z2, b _ _ _ _ _ _⟩
      · rw [z1] at b
        cases b
    · rcases ok.bnd with ⟨b, _⟩ | ⟨x, b1, b⟩
      · exact absurd b z1
      · subst z3
        obtain ⟨kk, b2, b3⟩ := b (X.env.qual ++ "<lambda>") (cloFrom X.env.cells m.scope.names []) ad ldoc lpm c ctv
        exact .inr ⟨x, ad, i, kk, by rw [b1]; exact List.mem_singleton.mpr rfl, z2, rfl, b2, b3⟩
  refine Exists.elim (hG A outer (hr.mono (by omega)) g cdv f c s H Q tl (fun W pn xe E' p1 p2 tk hW => ?_) hc ?_) fun t' z => ⟨t', z.1.nox, z.2⟩
  · refine ⟨fun pinsZ sZ σZ HZ QZ IZ h => ?_⟩
    obtain ⟨hs, hcZ, hfZ, htZ, tb⟩ := h
    refine wpAny_Call_Name_kw (thn ((pe_var (pos := p1) (i := 0) hNg hva hd hcd).run pinsZ sZ σZ HZ (fun v H1 => v = .ref f ∧ H1 = HZ) IZ ⟨.ref f, hs, rfl, rfl⟩) fun u s1 ⟨v, H1, I1, r1, q1⟩ => ?_)
    obtain ⟨e1, e2⟩ := q1
    subst e1
    rw [e2] at I1
    obtain rfl : u = Value.ref f := r1
    have of1 := (I1.hok f _ hfZ).1
    refine PySem.W.callWith_F0 ⟨_, _, _, _, of1⟩ ?_
    have rc := lam_call (Q := QZ) (E := E') cp ok.D I1.env0 hr' hfZ hcZ htZ hbl (fun hr2 => pe_toX (ok.body _ _ _ _ E' f c hr2) (takes_of (E := E') rfl rfl rfl rfl)) tb
    have hx := passes_call tk hW
    refine wpAny_call (codeAny_mono rc fun rr s' hq => ?_)
    cases rr with
    | error e => exact hx pinsZ σZ HZ s1 e s' I1 hq
    | ok fl =>
      cases fl with
      | ret u => exact I1.after hq
      | next => exact hq.elim
      | brk => exact hq.elim
      | cont => exact hq.elim
  · refine ⟨hf, ht, F, frOf X.N.length is rs', S, L', C, _, fr_caps lc, o', hde, fun v r S' H' o2 h2 => q v r S' H' (o2.sub (sub_cons sL)) h2, fun Cc fs d S' H' L2 o2 s2 x2 y => ?_⟩
    obtain ⟨y1, y2, y3⟩ := y
    exact ⟨Cc, fs, F, S', L2, C, rfl, y1, y2, o2, x2, y3, fun v r S2 H2 o3 h3 => q v r S2 H2 (o3.sub (sub_cons fun e he => s2 e (sL e he))) h3⟩
end DL
/-! ### what is captured is handed on -/
namespace DL
open PySem PySem.Spec PyProof.Rows L2
def capR (vs : List V) (caps : List R) : R → R
  | .fn f c o q t _ _ => .fn f c o q t vs caps
  | r => r
def capC (vs : List V) (caps : List R) : Cell → Cell
  | .lst p xs => .lst p (xs.map (capR vs caps))
  | c => c
theorem capC_pt {vs : List V} {caps : List R} (c : Cell) : (capC vs caps c).pt = c.pt := by cases c <;> rfl
theorem cap_rep {K : Fg} {A : Addr → Prop} {H : Hp} {vs : List V} {caps : List R} (hc : RepRs K A H vs caps) {v : V} {r : R} (h : RepR K A H v r) : RepR K A H v (capR vs caps r) := by
  cases r with
  | fn f c o q t vs' rs' =>
    obtain ⟨e, h1, h2, h3, _⟩ := h
    exact ⟨e, h1, h2, h3, RepRl.of hc⟩
  | _ => exact h
theorem cap_reps {K : Fg} {A : Addr → Prop} {H : Hp} {vs : List V} {caps : List R} (hc : RepRs K A H vs caps) : ∀ {ws : List V} {rs : List R}, RepRs K A H ws rs → RepRs K A H ws (rs.map (capR vs caps))
  | _, _, .nil => .nil
  | _, _, .cons r t => .cons (cap_rep hc r) (cap_reps hc t)
theorem cap_pts {S F : SH} {vs : List V} {caps : List R} : (S.map (capC vs caps) ++ F).map Cell.pt = (S ++ F).map Cell.pt := by
  rw [List.map_append, List.map_append, List.map_map]
  congr 1
  exact List.map_congr_left fun c _ => capC_pt c
theorem cap_ok {K : Fg} {H : Hp} {S F : SH} {L : Live} {vs : List V} {caps : List R} (o : Ok K H (S ++ F) L) (hc : RepRs K (Av (S ++ F)) H vs caps) : Ok K H (S.map (capC vs caps) ++ F) L := by
  have ep := cap_pts (S := S) (F := F) (vs := vs) (caps := caps)
  have ea : Av (S.map (capC vs caps) ++ F) = Av (S ++ F) := by
    unfold Av
    rw [ep]
  refine ⟨by rw [ep]; exact o.nd, fun c hcm => ?_, fun e he => by rw [ea]; exact o.live e he⟩
  rw [ea]
  rcases List.mem_append.mp hcm with h | h
  · obtain ⟨c0, h0, rfl⟩ := List.mem_map.mp h
    have h1 := o.cells c0 (List.mem_append_left _ h0)
    cases c0 with
    | lst p xs =>
      obtain ⟨ws, e, q⟩ := h1
      exact ⟨ws, e, cap_reps hc q⟩
    | _ => exact h1
  · exact o.cells c (List.mem_append_right _ h)
theorem caps_live {σ : L2.St} {fr : Fr} {L : Live} (f : FrOk σ fr L) : ∀ {is : List Nat} {caps : List R}, is.map (fun i => fr[i]?) = caps.map (fun r => some (some r)) → ∃ vs : List V, (∀ (j i : Nat) (v : V), is[j]? = some i → vs[j]? = some v → σ[i]? = some (some v)) ∧ Lives L vs caps
  | [], [], _ => ⟨[], fun j i v e => (by cases e), .nil⟩
  | [], _ :: _, h => by cases h
  | _ :: _, [], h => by cases h
  | i :: is, r :: caps, h => by
    rw [List.map_cons, List.map_cons] at h
    obtain ⟨h1, h2⟩ := List.cons.inj h
    obtain ⟨v, e1, e2⟩ := f.at_ i r h1
    obtain ⟨vs, g1, g2⟩ := caps_live f h2
    refine ⟨v :: vs, fun j i' v' a b => ?_, .cons e2 g2⟩
    cases j with
    | zero => cases a; cases b; exact e1
    | succ j => exact g1 j i' v' a b
def dCap (n : Nat) (is : List Nat) (sp : List V → SpD) (da : DA) : DE := fun fr S C => da fr S fun rs S1 => rs.length = n ∧ ∃ caps : List R, is.map (fun i => fr[i]?) = caps.map (fun r => some (some r)) ∧ ∀ vs0 : List V, sp vs0 (rs.map (capR vs0 caps)) (S1.map (capC vs0 caps)) C
theorem d_callCap {X : Cx} {x : Str} {st : Stmt} {ps : List Str} {n k : Nat} {is : List Nat} {dA : DA} {sp : List V → SpD} {e : Expr} {es : List Expr} {p pos : Pos} (Fn : FunAt X.K X.mg x st ps) (hfn : ∀ y, X.fn y = true) (hD : ∀ base vs0, CapAt X base is vs0 → Def X.prog X.w X.K X.mg base x k n (sp vs0)) (hr : Room k X.A) (hg : Gl X x)
    (ha : PDA X (e :: es) dA) (hdb : (x == ("__debug__" : Str)) = false := by decide) (he : starEach (e :: es) X.env = (false, eval e X.env) :: starEach es X.env := by rfl) (hpl : (backTo pos (starEach es X.env)).any (·.1) = false := by rfl) :
    PD X (.Call (.Name x p) (e :: es) [] pos) (dCap n is sp dA) := by
  obtain ⟨g, fd, Fu, hm, hb⟩ := Fn.ex
  obtain ⟨ta, pa, la⟩ := ha.ex
  refine ⟨fun σ H Q => ta σ H fun vs H1 => ∃ vs0 : List V, (∀ (j i : Nat) (v : V), is[j]? = some i → vs0[j]? = some v → σ[i]? = some (some v)) ∧ toSp X.K n (sp vs0) vs H1 Q C8.E0, ⟨fun pins s σ H Q I h => ?_⟩, ?_⟩
  · refine wpAny_Call_Name_kw (ld_glob I hg hm ?_ hdb)
    refine PySem.W.callWith_K (h₀ := X.base) I.ok.mod.kin Fu.kp (thn (pa.run pos pins s σ H _ I h) fun us s1 ⟨vs, H1, I1, r, q⟩ => ⟨I1.kIn, ?_⟩) he hpl
    obtain ⟨vs0, hv, hs⟩ := q
    obtain ⟨g', fd', ps', F, hm', _, hb'⟩ := (hD _ vs0 (cap_of I1 hfn hv)).ex
    rw [hm] at hm'
    cases hm'
    have hl : us.length = ps'.length := (Paired.length r).symm.trans (F.len _ _ _ _ hs)
    have bt := hb' s1 us I1.kIn (by simpa using hl)
    rw [List.append_nil] at bt
    refine wpAny_call (codeAny_mono (F.run X.A X.stack s1 H1 ⟨us, []⟩ us vs Q C8.E0 hr (env0_stay I1) bt r hs) fun rr s2 hq => ?_)
    cases rr with
    | error er => exact (show False from hq).elim
    | ok fl =>
      cases fl with
      | ret u => exact I1.after hq
      | next => exact hq.elim
      | brk => exact hq.elim
      | cont => exact hq.elim
  · intro F H σ fr S L fo o C Q hd hq
    refine la F H σ fr S L fo o _ _ hd fun vs rs S1 H1 L1 o1 s1 lv h1 => ?_
    obtain ⟨hl, caps, hc, h⟩ := h1
    obtain ⟨vs0, hv, lc⟩ := caps_live (fo.mono s1) hc
    have rc := o1.reps lc
    have o2 := cap_ok o1 rc
    have ea : Av (S1.map (capC vs0 caps) ++ F) = Av (S1 ++ F) := by
      unfold Av
      rw [cap_pts]
    have rr : RepRs X.K (Av (S1.map (capC vs0 caps) ++ F)) H1 vs (rs.map (capR vs0 caps)) := by
      rw [ea]
      exact cap_reps rc (o1.reps lv)
    obtain ⟨L2, o3, s3, lv3⟩ := push_rs o2 rr
    exact ⟨vs0, hv, (paired_len lv).trans hl, F, S1.map (capC vs0 caps), L2, rs.map (capR vs0 caps), C, o3, lv3, h vs0, fun v r S' H' o' h' => hq v r S' H' (o'.sub (sub_cons fun e he => s3 e (s1 e he))) h'⟩
end DL
set_option Elab.async false
set_option linter.all false
set_option maxRecDepth 100000
set_option maxHeartbeats 4000000
namespace K16
open PySem PySem.Spec PyProof.Rows L2 DL
open PM (le_ok)
section
variable {P : Program} {w : World} {K : Fg} {mg : Str → Option Value} {base : Heap}
/-! _law_is_refused: by what each is told -/
def spRef (spT : SpD) : SpD := fun rs S C => ∃ (p : Addr) (j : Nat) (fns : List R) (due : List PyData), rs = [.val (.ref p), .dat (.tuple due)] ∧ S[j]? = some (.lst p fns) ∧ fns.length ≤ 10 ∧ due.length ≤ 5 ∧
  (PyData.tuple (.str "refused" :: due)).depth ≤ 3 ∧ noDict (.tuple (.str "refused" :: due)) = true ∧ (∀ r ∈ fns, ∀ C' : CR0, C' (.dat (.tuple (.str "refused" :: due))) S → spT [r] S C') ∧ C (.dat (.bool true)) S
abbrev s__law_is_refused : Stmt := topS 30
abbrev N__law_is_refused : List Str := ["_law_works", "_law_due", "_law_work"]
theorem sc__law_is_refused : FnScope N__law_is_refused ["_law_works", "_law_due"] (defScope s__law_is_refused) := ⟨rfl, rfl, rfl, by decide +kernel, rfl, by decide +kernel, by decide +kernel⟩
theorem ok_is_refused {k n : Nat} {spT : SpD} (F : FunAt K mg "_law_is_refused" s__law_is_refused ["_law_works", "_law_due"]) (B : Blt mg) (DT : Def P w K mg base "_law_told_by" (n + 5) 1 spT) (DL1 : Def P w K mg base "_law_like" 4 2 (spLike 3)) : Def P w K mg base "_law_is_refused" (k + n + 6) 2 (spRef spT) := by
  refine okF F sc__law_is_refused rfl fun cdv A outer s H E f hr => ⟨_,
    (ss_one (s_ret (d_eq hr.units (d_lcK (fun _ => end_dat) sc__law_is_refused.nd (i := 2) (dv 0) (blkOk_by (N := N__law_is_refused) (sc := defScope s__law_is_refused) (own := [("_law_work", 2)]) (by decide +kernel)) (fun _ _ _ _ _ => pg_name (i := 2) sc__law_is_refused.nd rfl (Or.inl rfl)) (fun _ _ _ _ _ => (ts_one (t_not (t_val (d_callF DL1 (hr.mono (by omega)) (by rfl) (a_cons (d_callF DT (hr.mono (by omega)) (by rfl) (a_cons (dv 2) a_nil)) (a_cons (d_add (d_tup (a_cons d_str a_nil)) (dv 1)) a_nil))))))) (fun _ _ _ _ _ => (dv 2))) (d_lst a_nil))))
    , ?_⟩
  intro rs S C hl h
  obtain ⟨p, j, fns, due, rfl, hj, hf, hd, hdp, hnd, ht, h⟩ := h
  refine ⟨_, rfl, fns, List.mem_of_getElem? hj, fun i acc S' => S' = S ∧ acc = [], ⟨rfl, rfl⟩, ?_, ?_, ?_⟩
  · rintro k acc S' ⟨rfl, rfl⟩
    exact List.mem_of_getElem? hj
  · rintro i r acc S' hr ⟨rfl, rfl⟩
    refine ⟨_, rfl, rfl, ht r (List.mem_of_getElem? hr) _ ?_⟩
    refine ⟨le_ok rfl, _, rfl, _, rfl, (by show 1 + due.length ≤ 100000; omega), rfl, _, _, .tuple (.str "refused" :: due), rfl, .dat _, .dat _, hdp, hnd, iteFb rfl ⟨rfl, rfl⟩⟩
  · rintro acc S' ⟨rfl, rfl⟩
    exact ⟨[], rfl, le_ok rfl, _, rfl, rfl, h⟩
end
end K16
set_option Elab.async false
set_option linter.all false
set_option maxRecDepth 100000
set_option maxHeartbeats 4000000
/-! DL: the end: the law's own def, what the head tells. -/
namespace DL
open PySem PySem.Spec PyProof.Rows L2
/-- the law's def and its promise, its text known -/
structure DefL (P : Program) (w : World) (K : Fg) (mg : Str → Option Value) (base : Heap) (x : Str) (st : Stmt) (ps : List Str) (k n : Nat) (sp : SpD) : Prop where
  ex : ∃ f fd, Fun K x x st f fd ∧ mg x = some (.ref f) ∧ FnOk P w K mg base CX0 k f fd ps (toSp K n sp)
section
variable {P : Program} {w : World} {K : Fg} {mg : Str → Option Value} {base : Heap}
theorem okL {x : Str} {st : Stmt} {N ps : List Str} {k n : Nat} {sp : SpD} (Fn : FunAt K mg x st ps) (Sc : FnScope N ps (defScope st)) (hn : ps.length = n)
    (hbody : ∀ (cdv : Value) (A : Around) (outer : List Env) (s : Shared) (H : Hp) (E : XK) (f : Addr), Room k (A.deeper (envOfC x (defScope st) s.heap.objs.size f cdv)) →
      ∃ ds, PDSs (cxOf CX0 P w K mg base N x (defScope st) f cdv A outer s H E).nox (defBody st) ds ∧ ∀ rs S C, rs.length = n → sp rs S C → ds { nx := fun _ S => C (.dat .none) S, rt := C } (startF N rs) S) : DefL P w K mg base x st ps (k + 1) n sp := by
  obtain ⟨f, fd, Fu, hm, hb⟩ := Fn.ex
  exact ⟨f, fd, Fu, hm, okD Fu Sc hn fun cdv A outer s H E hr => hbody cdv A outer s H E f hr⟩
theorem funAt_mk {x : Str} {st : Stmt} {ps : List Str} {f : Addr} {fd : FuncData} (F : FunD K x x (defArgs st) (defBody st) (defScope st) [] [] f fd) (hm : mg x = some (.ref f))
    (h : ∀ (kV doc pm : Value) (an : Option Addr) (cdv ct : Value) (us : List Value), us.length = ps.length → bindArgs (PySem.W.fnOf x x (defArgs st) (defBody st) (defScope st) .none kV doc pm an cdv ct) ⟨us, []⟩ = pure (ps.zip us)) : FunAt K mg x st ps := by
  have hb := F.bindsN h
  obtain ⟨oc, od, dV, kV, doc, pm, an, cdv, ct, osl, e, lk, hcd, hD, hK⟩ := F.ex
  rcases hD with ⟨_, rfl⟩ | ⟨z, _⟩
  · exact ⟨f, fd, ⟨⟨oc, od, kV, doc, pm, an, cdv, ct, osl, e, lk, hcd⟩, F.kp⟩, hm, hb⟩
  · exact absurd rfl z
/-- the promise that a law's end asks -/
theorem law_sp {sp : SpD} {H : Hp} {a : Addr} {ns : List Int} {m : Nat} (hl : ns.length ≤ m) (hO : Only H) (hS : SqL K H a (ns.map V.int)) (h : ∀ C : CR0, (∀ S', C (.dat (.bool true)) S') → sp [.scr ns] [] C) : toSp K 1 sp [.ref a] H (fun v _ => v = .bl true) fun _ _ _ => False := by
  refine ⟨rfl, [], [], [(.ref a, .scr ns)], [.scr ns], fun r _ => r = .dat (.bool true), ⟨List.nodup_nil, (fun c hc => nomatch hc), fun e he => ?_⟩, .cons List.mem_cons_self .nil, h _ fun _ => rfl, ?_⟩
  · cases List.mem_singleton.mp he
    exact ⟨a, rfl, ScrAt.of hO hS⟩
  · rintro v r S' H' o rfl
    exact rep_bool_inv (o.dat List.mem_cons_self)
end
end DL
set_option Elab.async false
set_option linter.all false
set_option maxRecDepth 100000
set_option maxHeartbeats 4000000
/-! DXe: the end of a law whose own def makes lambdas: its table is empty at first, and is a cell. -/
namespace DL
open PySem PySem.Spec PyProof.Rows L2 LamX
/-- the law's own table as it stands at first -/
def OwnT (h : Heap) (fa c P : Addr) : Prop := ∃ (o : Obj) (fd : FuncData), h.get? fa = some o ∧ o.data = .func fd ∧ fd.code = .ref c ∧ PySem.W.CodeHd h c P ∧ h.get? P = some { cls := .none, data := .fields #[] }
theorem walk_own {l : PySem.W.OpenLaw} {n k : Nat} {q : Program} {loose : List Str} {XP : (Str → Option Value) → Heap → Prop} {YP : World → Heap → Prop} {d : DefRec} {CX : World → CXT} {x : Str}
    (h1 : l.most = some n) (h2 : n ≤ sizeLine) (h3 : d.params.defaults = []) (h4 : Room k callerA) (h5 : ((recsOf q).any fun e => e.name == d.name) = true)
    (F : ∀ (w : World) (mg : Str → Option Value) (fa : Addr) (h : Heap), YP w h → h.Ns mainGlobals mg → mg d.name = some (.ref fa) → (∃ c P, OwnT h fa c P) → ∃ K : PySem.W.Frag, K.In h ∧ LawAtS l w K (CX w) k n x mg fa h)
    (h6 : ∀ (w : World) (H : Hp) (s : Shared) (e : Value) (s' : Shared), CX w [] H s (fun _ _ _ => False) e s' → False) :
    PySem.W.WalkO q loose XP YP l.row.toRowW d [] (fun f vs => PySem.call f vs) := by
  refine Att.attach_callB h1 h3 fun w s0 s1 mg mb fa o pm cd doc a us ns G Y ho hd hcd hmg hobj hints hlen hbits hg => ?_
  have tb : ∃ c P, OwnT s1.heap fa c P := by
    obtain ⟨dL, hm, hq⟩ := List.any_eq_true.mp h5
    have hq2 : dL.name = d.name := beq_iff_eq.mp hq
    obtain ⟨a2, o2, fd2, c2, P2, e1, e2, e3, e4, e5, e6⟩ := G.T.tab dL hm
    rw [hq2, hmg] at e1
    cases e1
    exact ⟨c2, P2, o2, fd2, e2, e3, e4, PySem.W.CodeHd.of e5 e6, e6.2⟩
  obtain ⟨K, KX, fd, cs, sp, hT, nT, C, hb, hsp, hF⟩ := F w mg fa _ Y G.T.g hmg tb
  exact law_callTs KX G.T.g G.T.b G.T.builtins G.T.nolimit hg hT nT C G.T.bmain hobj hints (Nat.le_trans hlen h2) h4 hF hb (fun H hH hS => hsp H a ns hlen hbits hH hS) fun H e s' => h6 w H s1 e s'
/-- a law's def whose code object is known -/
theorem okLT {P : Program} {w : World} {K : Fg} {mg : Str → Option Value} {base : Heap} {x : Str} {st : Stmt} {f c : Addr} {fd : FuncData} {N ps : List Str} {k n : Nat} {sp : SpD} (Fu : Fun K x x st f fd) (hc : fd.code = .ref c) (Sc : FnScope N ps (defScope st)) (hn : ps.length = n)
    (hbody : ∀ (A : Around) (outer : List Env) (s : Shared) (H : Hp) (E : XK), Room k (A.deeper (envOfC x (defScope st) s.heap.objs.size f (.ref c))) →
      ∃ ds, PDSs (cxOf CX0 P w K mg base N x (defScope st) f (.ref c) A outer s H E).nox (defBody st) ds ∧ ∀ rs S C, rs.length = n → sp rs S C → ds { nx := fun _ S => C (.dat .none) S, rt := C } (startF N rs) S) : FnOk P w K mg base CX0 (k + 1) f fd ps (toSp K n sp) := by
  obtain ⟨oc, od, kV, doc, pm, an, cdv, ct, osl, rfl, lk, hcd⟩ := Fu.ex
  obtain rfl : cdv = .ref c := hc
  refine fn_of lk hcd Sc (fun vs H Q E h => h.1.trans hn.symm) fun A outer s H vs Q E hr h => ?_
  obtain ⟨ds, hp, hd⟩ := hbody A outer s H E hr
  obtain ⟨ts, p, l⟩ := hp.ex
  obtain ⟨hl, F, S, L, rs, C, o, lv, hs, q⟩ := h
  refine ⟨ts, p.nox, ?_⟩
  refine l F H (L2.start N vs) (startF N rs) S L (fr_start lv) o _ { nx := fun _ S => C (.dat .none) S, rt := C } ⟨fun σ' fr' S' H' L' f' o' s' h' => ?_, fun v r S' H' o' h' => q v r S' H' o' h', fun _ _ _ _ _ _ _ _ h => h.elim, fun _ _ _ _ _ _ _ _ h => h.elim⟩ (hd rs S C ((paired_len lv).symm.trans hl) hs)
  exact q .non (.dat .none) S' H' ((o'.sub s').pd .non) h'
/-- what a law's end asks, its table a cell -/
theorem law_spT {K : Fg} {sp : SpD} {H : Hp} {a P : Addr} {ns : List Int} {m : Nat} {q : Str} (hl : ns.length ≤ m) (hP : H P = some (.tbl #[])) (hS : SqL K H a (ns.map V.int)) (hne : a ≠ P) (h : ∀ C : CR0, (∀ S', C (.dat (.bool true)) S') → sp [.scr ns] [.tbl P q] C) : toSp K 1 sp [.ref a] H (fun v _ => v = .bl true) fun _ _ _ => False := by
  refine ⟨rfl, [], [.tbl P q], [(.ref a, .scr ns)], [.scr ns], fun r _ => r = .dat (.bool true), ⟨?_, fun c hc => ?_, fun e he => ?_⟩, .cons List.mem_cons_self .nil, h _ fun _ => rfl, fun v r S' H' o' e => ?_⟩
  · exact List.nodup_cons.mpr ⟨(fun z => nomatch z), List.nodup_nil⟩
  · cases List.mem_singleton.mp hc
    exact TabS.nil hP
  · cases List.mem_singleton.mp he
    exact ⟨a, rfl, ScrAt.any (fun z => hne (List.mem_singleton.mp z)) hS⟩
  · subst e
    have z := o'.dat List.mem_cons_self
    cases z
    rfl
end DL
set_option Elab.async false
set_option linter.all false
set_option maxRecDepth 100000
set_option maxHeartbeats 4000000
namespace K16
open PySem PySem.Spec PyProof.Rows L2 DL
/-! costs are no less than nought -/
theorem sum_nn : ∀ {l : List Int}, (∀ x ∈ l, 0 ≤ x) → 0 ≤ l.sum
  | [], _ => by rw [List.sum_nil]; exact Int.le_refl _
  | a :: l, h => by
    have h1 := h a List.mem_cons_self
    have h2 := sum_nn (l := l) fun x hx => h x (List.mem_cons_of_mem _ hx)
    rw [List.sum_cons]
    omega
theorem redone_nn {ws fs : List Int} {b e : Int} (hw : ∀ w ∈ ws, 0 ≤ w) : 0 ≤ redone ws fs b e := by
  unfold redone
  refine sum_nn fun x hx => ?_
  obtain ⟨f, _, rfl⟩ := List.mem_map.mp hx
  refine sum_nn fun y hy => hw y ?_
  unfold DL.cutD at hy
  exact List.mem_of_mem_drop (List.mem_of_mem_take hy)
theorem inner_nn {ws fs : List Int} {pr b : Int} {val : Int → CM} (hw : ∀ w ∈ ws, 0 ≤ w) (hp : 0 ≤ pr) : ∀ k : Nat, (∀ m, b < m → m ≤ b + k → 0 ≤ (val m).1) → 0 ≤ (inner ws fs pr b val k).1
  | 0, _ => redone_nn hw
  | k + 1, h => by
    rw [inner_succ]
    have ih := inner_nn (ws := ws) (fs := fs) (pr := pr) (b := b) (val := val) hw hp k fun m h1 h2 => h m h1 (by omega)
    unfold better
    split
    · have h1 := h (b + 1 + k) (by omega) (by omega)
      have h2 := redone_nn (ws := ws) (fs := fs) (b := b) (e := b + 1 + k) hw
      show 0 ≤ redone ws fs b (b + 1 + k) + pr + (val (b + 1 + k)).1
      omega
    · exact ih
theorem val_nn {ws fs : List Int} {pr : Int} {val : Int → CM} (hw : ∀ w ∈ ws, 0 ≤ w) (hp : 0 ≤ pr) (h : Rec ws fs pr val 0) : ∀ (d : Nat) (b : Int), 0 ≤ b → b ≤ max 0 ((ws.length : Int) - 1) → (max 0 ((ws.length : Int) - 1) - b).toNat ≤ d → 0 ≤ (val b).1
  | 0, b, h0, h1, hd => by
    rw [h b h0 h1]
    refine inner_nn hw hp _ fun m m1 m2 => ?_
    omega
  | d + 1, b, h0, h1, hd => by
    rw [h b h0 h1]
    refine inner_nn hw hp _ fun m m1 m2 => val_nn hw hp h d m (by omega) (by omega) (by omega)
theorem cF_nil_nn {ws fs : List Int} {pr : Int} (hw : ∀ w ∈ ws, 0 ≤ w) : 0 ≤ cF ws fs pr 0 [] := by
  unfold cF
  exact redone_nn hw
end K16
set_option Elab.async false
set_option linter.all false
set_option maxRecDepth 100000
set_option maxHeartbeats 4000000
namespace K16
open PySem PySem.Spec PyProof.Rows L2 DL
open PM (le_ok)
section
variable {P : Program} {w : World} {K : Fg} {mg : Str → Option Value} {base : Heap}
/-! law -/
abbrev s_law : Stmt := topS 34
abbrev N_law : List Str := ["_law_script", "_law_d", "_law_turn", "_law_weights", "_law_falls", "_law_price", "_law_far", "_law_lost", "_law_bad", "_law_due", "_law_works", "_law_odd", "_law_marks"]
theorem sc_law : FnScope N_law ["_law_script"] (defScope s_law) := ⟨rfl, rfl, rfl, by decide +kernel, rfl, by decide +kernel, by decide +kernel⟩
def qLam : Str := (envOfC "law" (defScope s_law) 0 0 (.ref 0)).qual ++ "<lambda>"
def spLawT (P0 : Addr) : SpD := fun rs S C => ∃ ns : List Int, rs = [.scr ns] ∧ ns.length ≤ 63 ∧ S = [.tbl P0 qLam] ∧ ∀ S2, C (.dat (.bool true)) S2
theorem hdp1 (w : Str) (n : Int) (hw : (PyData.str w).canLay0 = true) : (PyData.tuple [.str "refused", .str w, .int n]).depth ≤ 3 ∧ noDict (.tuple [.str "refused", .str w, .int n]) = true := by
  refine ⟨?_, rfl⟩
  simp only [PyData.depth, PyData.depthAll]
  decide
theorem hdp0 (w : Str) (hw : (PyData.str w).canLay0 = true) : (PyData.tuple [.str "refused", .str w]).depth ≤ 3 ∧ noDict (.tuple [.str "refused", .str w]) = true := by
  refine ⟨?_, rfl⟩
  simp only [PyData.depth, PyData.depthAll]
  decide
theorem caps_keep {S : SH} {vs : List V} {caps : List R} {c : Cell} {j jt : Nat} {D P0 : Addr} {q : Str} (hj : S[j]? = some (dice D)) (hjt : S[jt]? = some (Cell.tbl P0 q)) : dice D ∈ (c :: S).map (capC vs caps) ∧ Cell.tbl P0 q ∈ (c :: S).map (capC vs caps) := by
  constructor
  · exact List.mem_map.mpr ⟨dice D, List.mem_cons_of_mem _ (List.mem_of_getElem? hj), rfl⟩
  · exact List.mem_map.mpr ⟨.tbl P0 q, List.mem_cons_of_mem _ (List.mem_of_getElem? hjt), rfl⟩
theorem tellN {K : Fg} {mg : Str → Option Value} {cs : Nat → Addr} {CW : Addr} (kn : Kn10 K mg cs CW) {i n : Nat} (hi : i = 4 ∨ i = 5 ∨ i = 6 ∨ i = 8) {S : SH} {C : CR0} (q : C (.dat (.tuple [.str "refused", .str (excWords.getD i ""), .int (n : Int)])) S) :
    PySem.W.exmOne K (.ref (cs i)) (.ref CW) = some true ∧ isC cs (cs i) ∧ spTold cs (cs i) [("number", .int (n : Int))] S C := by
  have h10 : i < 10 := by omega
  exact ⟨kn.exm i h10, ⟨i, h10, rfl⟩, i, _, h10, rfl, .inr (.inl ⟨hi, _, rfl, rfl⟩), q⟩
theorem tell0 {K : Fg} {mg : Str → Option Value} {cs : Nat → Addr} {CW : Addr} (kn : Kn10 K mg cs CW) {S : SH} {C : CR0} (q : C (.dat (.tuple [.str "refused", .str "price"])) S) :
    PySem.W.exmOne K (.ref (cs 7)) (.ref CW) = some true ∧ isC cs (cs 7) ∧ spTold cs (cs 7) [] S C :=
  ⟨kn.exm 7 (by decide), ⟨7, by decide, rfl⟩, 7, _, by decide, rfl, .inr (.inr (.inr ⟨.inr (.inr (.inr rfl)), rfl⟩)), q⟩
theorem ok_law {k : Nat} {f c0 P0 CW : Addr} {cs : Nat → Addr} {fd : FuncData} (Fu : Fun K "law" "law" s_law f fd) (hc : fd.code = .ref c0) (B : Blt mg) (DD : Def P w K mg base "_law_dice" 1 1 spDice) (DN : Def P w K mg base "_law_next" 1 2 spNext) (DP : Def P w K mg base "_law_plan" 2 2 spPlan)
    (DB : Def P w K mg base "best" 3 3 spBestD) (DC : Def P w K mg base "cost" 3 4 spCostP) (DX : DefX P w K mg base "cost" 4 4 (spCostX cs)) (DY : DefX P w K mg base "best" 4 3 (spBestX cs)) (D1 : Def P w K mg base "_law_bad_weights" 2 3 spBadWeights) (D2 : Def P w K mg base "_law_bad_falls" 2 4 spBadFalls) (D3 : Def P w K mg base "_law_bad_marks" 2 3 spBadMarks)
    (DL1 : ∀ base, Def P w K mg base "_law_like" 4 2 (spLike 3)) (Fr : FunAt K mg "_law_is_refused" s__law_is_refused ["_law_works", "_law_due"]) (kn : Kn10 K mg cs CW) (TB : LamX.TabB base mg c0 P0) (Ft : FunAt K mg "_law_told_by" s__law_told_by ["_law_work"]) : FnOk P w K mg base CX0 (k + 13) f fd ["_law_script"] (toSp K 1 (spLawT P0)) := by
  refine okLT Fu hc sc_law rfl fun A outer s H E hr => ?_
  have HR : ∀ (is : List Nat) (b : Heap) (vs0 : List V), CapAt (cxOf CX0 P w K mg base N_law "law" (defScope s_law) f (.ref c0) A outer s H E).nox b is vs0 →
      Def P w K mg b "_law_is_refused" 11 2 (spRef (spFn (cxOf CX0 P w K mg base N_law "law" (defScope s_law) f (.ref c0) A outer s H E).nox 5 CW (isC cs) (spTold cs) is vs0)) := fun is b vs0 cp =>
    ok_is_refused (k := 0) (n := 5) Fr B ((told_fn (X := (cxOf CX0 P w K mg base N_law "law" (defScope s_law) f (.ref c0) A outer s H E).nox) (k := 4) Ft sc__law_told_by rfl (Or.inl rfl) (fun A' outer' r g cdv => told_lam (X := { (cxOf CX0 P w K mg base N_law "law" (defScope s_law) f (.ref c0) A outer s H E).nox with base := b, A := A', stack := outer' }) B kn r g cdv) cp).mono (by decide)) (DL1 b)
  refine ⟨_,
    (ss_cons (s_set (i := 1) sc_law.nd (d_callF DD (hr.mono (by omega)) (by rfl) (a_cons (dv 0) a_nil)))
      (ss_cons (s_for (i_r1 (by rfl) B.range (a_cons d_int a_nil)) (g_name (i := 2) sc_law.nd)
      (ss_cons (s_asg (d_callF DP (hr.mono (by omega)) (by rfl) (a_cons (dv 1) (a_cons d_int a_nil))) (g_tup (gs_cons (g_name (i := 3) sc_law.nd) (gs_cons (g_name (i := 4) sc_law.nd) (gs_cons (g_name (i := 5) sc_law.nd) gs_nil)))))
      (ss_cons (s_set (i := 6) sc_law.nd (d_ix (hu_of hr) (d_lst (a_cons d_int (a_cons (d_callF DN (hr.mono (by omega)) (by rfl) (a_cons (dv 1) (a_cons (d_pow d_int d_int) a_nil))) a_nil))) (d_callF DN (hr.mono (by omega)) (by rfl) (a_cons (dv 1) (a_cons d_int a_nil)))))
      (ss_cons (s_set (i := 7) sc_law.nd (d_ix (hu_of hr) (d_lst (a_cons (d_sub (d_neg d_int) (dv 6)) (a_cons (d_add d_int (dv 6)) (a_cons d_bl (a_cons d_non a_nil))))) (d_callF DN (hr.mono (by omega)) (by rfl) (a_cons (dv 1) (a_cons d_int a_nil)))))
      (ss_cons (s_asg (d_callF D1 (hr.mono (by omega)) (by rfl) (a_cons (dv 1) (a_cons (dv 3) (a_cons (dv 6) a_nil)))) (g_tup (gs_cons (g_name (i := 8) sc_law.nd) (gs_cons (g_name (i := 9) sc_law.nd) gs_nil))))
      (ss_cons (s_set (i := 10) sc_law.nd (d_lstC (a_cons (d_lamF0 (k := 5) TB rfl (lamD_by (N := N_law) (sc := defScope s_law) (by decide +kernel)) (fun _ _ _ _ _ _ => rfl) (fun A outer s H E f c' hr => (e_callX DX (hr.mono (by omega)) (by rfl) (a_cons (dv 8) (a_cons (d_lst (a_cons d_non a_nil)) (a_cons (dv 7) (a_cons (d_lst (a_cons d_int a_nil)) a_nil)))))) (by rfl)) (a_cons (d_lamF1 (k := 5) (x := "_law_a") TB rfl (lamD_by (N := N_law) (sc := defScope s_law) (by decide +kernel)) (fun _ _ _ _ _ _ _ => ⟨_, rfl, fun _ => rfl⟩) (fun A outer s H E f c' hr => (e_callX DY (hr.mono (by omega)) (by rfl) (a_cons (dv 8) (a_cons (d_lst (a_cons d_non a_nil)) (a_cons (dv 7) a_nil))))) rfl rfl) a_nil))))
      (ss_cons (s_if (t_not (t_val (d_callCap (k := 11) (is := [8, 7]) Fr (fun _ => rfl) (HR _) (hr.mono (by omega)) (by rfl) (a_cons (dv 10) (a_cons (d_tup (a_cons d_str (a_cons (dv 9) a_nil))) a_nil)))))
      (ss_one (s_ret d_bl))
      ss_nil)
      (ss_cons (s_asg (d_callF D2 (hr.mono (by omega)) (by rfl) (a_cons (dv 1) (a_cons (dv 4) (a_cons (d_len (by rfl) B.len (a_cons (dv 3) a_nil)) (a_cons (dv 6) a_nil))))) (g_tup (gs_cons (g_name (i := 11) sc_law.nd) (gs_cons (g_name (i := 9) sc_law.nd) gs_nil))))
      (ss_cons (s_set (i := 10) sc_law.nd (d_lstC (a_cons (d_lamF0 (k := 5) TB rfl (lamD_by (N := N_law) (sc := defScope s_law) (by decide +kernel)) (fun _ _ _ _ _ _ => rfl) (fun A outer s H E f c' hr => (e_callX DX (hr.mono (by omega)) (by rfl) (a_cons (dv 3) (a_cons (dv 11) (a_cons (dv 7) (a_cons (d_lst (a_cons d_int a_nil)) a_nil)))))) (by rfl)) (a_cons (d_lamF1 (k := 5) (x := "_law_a") TB rfl (lamD_by (N := N_law) (sc := defScope s_law) (by decide +kernel)) (fun _ _ _ _ _ _ _ => ⟨_, rfl, fun _ => rfl⟩) (fun A outer s H E f c' hr => (e_callX DY (hr.mono (by omega)) (by rfl) (a_cons (dv 3) (a_cons (dv 11) (a_cons (dv 7) a_nil))))) rfl rfl) a_nil))))
      (ss_cons (s_if (t_not (t_val (d_callCap (k := 11) (is := [3, 11, 7]) Fr (fun _ => rfl) (HR _) (hr.mono (by omega)) (by rfl) (a_cons (dv 10) (a_cons (d_tup (a_cons d_str (a_cons (dv 9) a_nil))) a_nil)))))
      (ss_one (s_ret d_bl))
      ss_nil)
      (ss_cons (s_set (i := 10) sc_law.nd (d_lstC (a_cons (d_lamF0 (k := 5) TB rfl (lamD_by (N := N_law) (sc := defScope s_law) (by decide +kernel)) (fun _ _ _ _ _ _ => rfl) (fun A outer s H E f c' hr => (e_callX DX (hr.mono (by omega)) (by rfl) (a_cons (dv 3) (a_cons (dv 4) (a_cons (dv 7) (a_cons (d_lst (a_cons d_int a_nil)) a_nil)))))) (by rfl)) (a_cons (d_lamF1 (k := 5) (x := "_law_a") TB rfl (lamD_by (N := N_law) (sc := defScope s_law) (by decide +kernel)) (fun _ _ _ _ _ _ _ => ⟨_, rfl, fun _ => rfl⟩) (fun A outer s H E f c' hr => (e_callX DY (hr.mono (by omega)) (by rfl) (a_cons (dv 3) (a_cons (dv 4) (a_cons (dv 7) a_nil))))) rfl rfl) a_nil))))
      (ss_cons (s_if (t_not (t_val (d_callCap (k := 11) (is := [3, 4, 7]) Fr (fun _ => rfl) (HR _) (hr.mono (by omega)) (by rfl) (a_cons (dv 10) (a_cons (d_tup (a_cons d_str a_nil)) a_nil)))))
      (ss_one (s_ret d_bl))
      ss_nil)
      (ss_cons (s_asg (d_callF D3 (hr.mono (by omega)) (by rfl) (a_cons (dv 1) (a_cons (d_len (by rfl) B.len (a_cons (dv 3) a_nil)) (a_cons (dv 6) a_nil)))) (g_tup (gs_cons (g_name (i := 12) sc_law.nd) (gs_cons (g_name (i := 9) sc_law.nd) gs_nil))))
      (ss_cons (s_if (t_not (t_val (d_callCap (k := 11) (is := [3, 4, 5, 12]) Fr (fun _ => rfl) (HR _) (hr.mono (by omega)) (by rfl) (a_cons (d_lstC (a_cons (d_lamF0 (k := 5) TB rfl (lamD_by (N := N_law) (sc := defScope s_law) (by decide +kernel)) (fun _ _ _ _ _ _ => rfl) (fun A outer s H E f c' hr => (e_callX DX (hr.mono (by omega)) (by rfl) (a_cons (dv 3) (a_cons (dv 4) (a_cons (dv 5) (a_cons (dv 12) a_nil)))))) (by rfl)) a_nil)) (a_cons (d_tup (a_cons d_str (a_cons (dv 9) a_nil))) a_nil)))))
      (ss_one (s_ret d_bl))
      ss_nil)
      (ss_one (s_if (PDW.pt (w_or (t_lt (d_ix (hu_of hr) (d_callF DB (hr.mono (by omega)) (by rfl) (a_cons (d_mul (d_lst (a_cons d_int a_nil)) d_int) (a_cons (d_mul (d_lst (a_cons d_int a_nil)) d_int) (a_cons d_int a_nil)))) d_int) d_int) (w_or1 (t_lt (d_callF DC (hr.mono (by omega)) (by rfl) (a_cons (dv 3) (a_cons (dv 4) (a_cons d_int (a_cons (d_lst a_nil) a_nil))))) d_int))))
      (ss_one (s_ret d_bl))
      ss_nil))))))))))))))))
      (ss_one (s_ret d_bl))))
    , ?_⟩
  intro rs S C hl h
  obtain ⟨ns, rfl, hn, rfl, h⟩ := h
  refine ⟨_, rfl, rfl, ns, rfl, by omega, fun D => ?_⟩
  refine ⟨⟨by decide, by decide⟩, fun i fr S' => ∃ (a2 a3 a4 a5 a6 a7 a8 a9 a10 a11 a12 : Option R), fr = [some (.scr ns), some (.val (.ref D)), a2, a3, a4, a5, a6, a7, a8, a9, a10, a11, a12] ∧ dice D ∈ S' ∧ Cell.tbl P0 qLam ∈ S', ⟨none, none, none, none, none, none, none, none, none, none, none, rfl, List.mem_cons_self, List.mem_cons_of_mem _ List.mem_cons_self⟩, ?_, ?_⟩
  · rintro i r fr S' hi ⟨a2, a3, a4, a5, a6, a7, a8, a9, a10, a11, a12, rfl, hD, hT⟩
    obtain ⟨j, hj⟩ := List.mem_iff_getElem?.mp hD
    obtain ⟨jt, hjt⟩ := List.mem_iff_getElem?.mp hT
    refine ⟨_, rfl, rfl, D, 12, j, rfl, hj, by decide, by decide, fun ws fs pr ok hwl => ?_⟩
    refine ⟨rfl, rfl, ?_⟩
    refine dnextE (D := D) (j := j) 1000000 rfl hj (fun C' q => ⟨⟨by decide, by decide, by decide⟩, q⟩) (by decide) (by decide) fun q1 q10 q11 => ?_
    refine ⟨le_ok rfl, _, rfl, ?_⟩
    refine dnext (D := D) (j := j) rfl hj (by decide) (by decide) fun y y0 y1 => ?_
    obtain ⟨d, e1, md⟩ := pick (ds := [PyData.int 0, PyData.int q1]) y0 y1
    refine ⟨d, e1, ?_⟩
    obtain ⟨far, rfl, f0, f1⟩ : ∃ far : Int, d = .int far ∧ 0 ≤ far ∧ far ≤ 1000000 := by
      rcases List.mem_cons.mp md with rfl | md
      · exact ⟨0, rfl, by decide, by decide⟩
      · cases List.mem_singleton.mp md
        exact ⟨_, rfl, q10, by omega⟩
    clear e1 md y0 y1 q10 q11
    refine ⟨_, rfl, _, rfl, le_ok rfl, _, rfl, ?_⟩
    refine dnext (D := D) (j := j) rfl hj (by decide) (by decide) fun y y0 y1 => ?_
    obtain ⟨lost, e1, md⟩ := pick (ds := [PyData.int (-1 - far), PyData.int (1000 + far), PyData.bool true, PyData.none]) y0 y1
    refine ⟨lost, e1, ?_⟩
    have ho : isNum lost 0 999 = false ∧ kdOf lost ≠ none := by
      simp only [List.mem_cons, List.not_mem_nil, or_false] at md
      rcases md with rfl | rfl | rfl | rfl
      · exact ⟨by simp [isNum]; omega, fun z => nomatch z⟩
      · exact ⟨by simp [isNum]; omega, fun z => nomatch z⟩
      · exact ⟨rfl, fun z => nomatch z⟩
      · exact ⟨rfl, fun z => nomatch z⟩
    clear e1 md y0 y1
    refine ⟨_, rfl, _, rfl, _, rfl, rfl, D, j, ws, far, rfl, hj, ⟨ok.hw, ok.hwl⟩, by omega, f0, f1, fun wd bi hb => ⟨rfl, rfl, ?_⟩⟩
    refine ⟨⟨jt, hjt⟩, fun fA cA oA tA isA => ⟨⟨jt, hjt⟩, fun fB cB oB tB isB => ⟨le_ok rfl, fun p1 => ?_⟩⟩⟩
    refine ⟨_, rfl, _, rfl, le_ok rfl, _, rfl, rfl, [.dat (.list wd), .dat lost], rfl, fun vs0 => ?_⟩
    refine ⟨p1, 0, _, _, rfl, rfl, (show 2 ≤ 10 by decide), (show 2 ≤ 5 by decide), (hdp1 _ _ (by decide +kernel)).1, (hdp1 _ _ (by decide +kernel)).2, fun r hr C' q => ?_, iteFb rfl ?_⟩
    · rcases List.mem_cons.mp hr with rfl | hr
      · refine ⟨fA, cA, oA, tA, [.dat (.list wd), .dat lost], _, rfl, isA, ?_⟩
        exact ⟨_, rfl, le_ok rfl, _, rfl, _, rfl, le_ok rfl, _, rfl, rfl, wd, [.none], lost, [.int 0], rfl, .inl (.inl ⟨bi, hb, tellN kn (.inr (.inl rfl)) q⟩)⟩
      · rw [List.mem_singleton.mp hr]
        refine ⟨fB, cB, oB, tB, [.dat (.list wd), .dat lost], _, rfl, isB, ?_⟩
        exact ⟨_, rfl, le_ok rfl, _, rfl, _, rfl, rfl, wd, [.none], lost, rfl, .inl ⟨bi, hb, tellN kn (.inr (.inl rfl)) q⟩⟩
    obtain ⟨hD2, hT2⟩ := caps_keep (vs := vs0) (caps := [.dat (.list wd), .dat lost]) (c := .lst p1 [.fn fA cA oA _ tA [] [], .fn fB cB oB _ tB [] []]) hj hjt
    revert hD2 hT2
    generalize List.map (capC vs0 [.dat (.list wd), .dat lost]) _ = S2
    intro hD2 hT2
    clear hj hjt isA isB
    obtain ⟨j, hj⟩ := List.mem_iff_getElem?.mp hD2
    obtain ⟨jt, hjt⟩ := List.mem_iff_getElem?.mp hT2
    have hlm : (ws.map PyData.int).length = ws.length := List.length_map _
    have fo : FOk (((ws.map PyData.int).length : Nat) : Int) fs := ⟨fun f hf => by rw [hlm]; exact ok.hf f hf, ok.hfs, ok.hfl⟩
    refine ⟨_, rfl, _, rfl, _, rfl, _, rfl, rfl, D, j, (ws.map PyData.int).length, fs, far, rfl, hj, fo, by omega, f0, f1, fun fd fi hf => ⟨rfl, rfl, ?_⟩⟩
    rw [hlm] at hf
    refine ⟨⟨jt, hjt⟩, fun fA cA oA tA isA => ⟨⟨jt, hjt⟩, fun fB cB oB tB isB => ⟨le_ok rfl, fun p2 => ?_⟩⟩⟩
    refine ⟨_, rfl, _, rfl, le_ok rfl, _, rfl, rfl, [.dat (.list (ws.map PyData.int)), .dat (.list fd), .dat lost], rfl, fun vs0 => ?_⟩
    refine ⟨p2, 0, _, _, rfl, rfl, (show 2 ≤ 10 by decide), (show 2 ≤ 5 by decide), (hdp1 _ _ (by decide +kernel)).1, (hdp1 _ _ (by decide +kernel)).2, fun r hr C' q => ?_, iteFb rfl ?_⟩
    · rcases List.mem_cons.mp hr with rfl | hr
      · refine ⟨fA, cA, oA, tA, [.dat (.list (ws.map PyData.int)), .dat (.list fd), .dat lost], _, rfl, isA, ?_⟩
        exact ⟨_, rfl, _, rfl, _, rfl, le_ok rfl, _, rfl, rfl, _, fd, lost, [.int 0], rfl, .inl (.inr (.inl ⟨ws, fi, rfl, ⟨ok.hw, ok.hwl⟩, hf, tellN kn (.inr (.inr (.inl rfl))) q⟩))⟩
      · rw [List.mem_singleton.mp hr]
        refine ⟨fB, cB, oB, tB, [.dat (.list (ws.map PyData.int)), .dat (.list fd), .dat lost], _, rfl, isB, ?_⟩
        exact ⟨_, rfl, _, rfl, _, rfl, rfl, _, fd, lost, rfl, .inr (.inl ⟨ws, fi, rfl, ⟨ok.hw, ok.hwl⟩, hf, tellN kn (.inr (.inr (.inl rfl))) q⟩)⟩
    obtain ⟨hD2, hT2⟩ := caps_keep (vs := vs0) (caps := [.dat (.list (ws.map PyData.int)), .dat (.list fd), .dat lost]) (c := .lst p2 [.fn fA cA oA _ tA [] [], .fn fB cB oB _ tB [] []]) hj hjt
    revert hD2 hT2
    generalize List.map (capC vs0 [.dat (.list (ws.map PyData.int)), .dat (.list fd), .dat lost]) _ = S2
    intro hD2 hT2
    clear hj hjt isA isB
    obtain ⟨j, hj⟩ := List.mem_iff_getElem?.mp hD2
    obtain ⟨jt, hjt⟩ := List.mem_iff_getElem?.mp hT2
    refine ⟨⟨jt, hjt⟩, fun fA cA oA tA isA => ⟨⟨jt, hjt⟩, fun fB cB oB tB isB => ⟨le_ok rfl, fun p3 => ?_⟩⟩⟩
    refine ⟨_, rfl, le_ok rfl, _, rfl, rfl, [.dat (.list (ws.map PyData.int)), .dat (.list (fs.map PyData.int)), .dat lost], rfl, fun vs0 => ?_⟩
    refine ⟨p3, 0, _, _, rfl, rfl, (show 2 ≤ 10 by decide), (show 1 ≤ 5 by decide), (hdp0 _ (by decide +kernel)).1, (hdp0 _ (by decide +kernel)).2, fun r hr C' q => ?_, iteFb rfl ?_⟩
    · rcases List.mem_cons.mp hr with rfl | hr
      · refine ⟨fA, cA, oA, tA, [.dat (.list (ws.map PyData.int)), .dat (.list (fs.map PyData.int)), .dat lost], _, rfl, isA, ?_⟩
        exact ⟨_, rfl, _, rfl, _, rfl, le_ok rfl, _, rfl, rfl, _, _, lost, [.int 0], rfl, .inl (.inr (.inr ⟨ws, fs, rfl, rfl, ⟨ok.hw, ok.hwl⟩, ⟨ok.hf, ok.hfs, ok.hfl⟩, ho.1, ho.2, tell0 kn q⟩))⟩
      · rw [List.mem_singleton.mp hr]
        refine ⟨fB, cB, oB, tB, [.dat (.list (ws.map PyData.int)), .dat (.list (fs.map PyData.int)), .dat lost], _, rfl, isB, ?_⟩
        exact ⟨_, rfl, _, rfl, _, rfl, rfl, _, _, lost, rfl, .inr (.inr ⟨ws, fs, rfl, rfl, ⟨ok.hw, ok.hwl⟩, ⟨ok.hf, ok.hfs, ok.hfl⟩, ho.1, ho.2, tell0 kn q⟩)⟩
    obtain ⟨hD2, hT2⟩ := caps_keep (vs := vs0) (caps := [.dat (.list (ws.map PyData.int)), .dat (.list (fs.map PyData.int)), .dat lost]) (c := .lst p3 [.fn fA cA oA _ tA [] [], .fn fB cB oB _ tB [] []]) hj hjt
    revert hD2 hT2
    generalize List.map (capC vs0 [.dat (.list (ws.map PyData.int)), .dat (.list (fs.map PyData.int)), .dat lost]) _ = S2
    intro hD2 hT2
    clear hj hjt isA isB
    obtain ⟨j, hj⟩ := List.mem_iff_getElem?.mp hD2
    obtain ⟨jt, hjt⟩ := List.mem_iff_getElem?.mp hT2
    refine ⟨_, rfl, _, rfl, _, rfl, rfl, D, j, (ws.map PyData.int).length, far, rfl, hj, by omega, f0, f1, fun md mi hm => ⟨rfl, rfl, ?_⟩⟩
    rw [hlm] at hm
    refine ⟨⟨jt, hjt⟩, fun fA cA oA tA isA => ⟨le_ok rfl, fun p4 => ?_⟩⟩
    refine ⟨_, rfl, le_ok rfl, _, rfl, rfl, [.dat (.list (ws.map PyData.int)), .dat (.list (fs.map PyData.int)), .dat (.int pr), .dat (.list md)], rfl, fun vs0 => ?_⟩
    refine ⟨p4, 0, _, _, rfl, rfl, (show 1 ≤ 10 by decide), (show 2 ≤ 5 by decide), (hdp1 _ _ (by decide +kernel)).1, (hdp1 _ _ (by decide +kernel)).2, fun r hr C' q => ?_, iteFb rfl ?_⟩
    · rw [List.mem_singleton.mp hr]
      refine ⟨fA, cA, oA, tA, [.dat (.list (ws.map PyData.int)), .dat (.list (fs.map PyData.int)), .dat (.int pr), .dat (.list md)], _, rfl, isA, ?_⟩
      exact ⟨_, rfl, _, rfl, _, rfl, _, rfl, rfl, _, _, _, md, rfl, .inr ⟨ws, fs, pr, mi, rfl, rfl, rfl, ok, hm, tellN kn (.inr (.inr (.inr rfl))) q⟩⟩
    obtain ⟨hD2, hT2⟩ := caps_keep (vs := vs0) (caps := [.dat (.list (ws.map PyData.int)), .dat (.list (fs.map PyData.int)), .dat (.int pr), .dat (.list md)]) (c := .lst p4 [.fn fA cA oA _ tA [] []]) hj hjt
    revert hD2 hT2
    generalize List.map (capC vs0 [.dat (.list (ws.map PyData.int)), .dat (.list (fs.map PyData.int)), .dat (.int pr), .dat (.list md)]) _ = S2
    intro hD2 hT2
    clear hj hjt isA
    have hwr : ∀ w ∈ List.replicate 60 (99 : Int), 1 ≤ w ∧ w ≤ 99 := fun w hw => by rw [List.eq_of_mem_replicate hw]; exact ⟨by decide, by decide⟩
    have okr : PlanOk (List.replicate 60 99) (List.replicate 20 60) 999 := ⟨hwr, by rw [List.length_replicate]; exact Nat.le_refl _, fun f hf => by rw [List.eq_of_mem_replicate hf, List.length_replicate]; exact ⟨by decide, by decide⟩, List.pairwise_replicate.mpr (.inr (Int.le_refl _)), by rw [List.length_replicate]; exact Nat.le_refl _, ⟨by decide, by decide⟩⟩
    refine ⟨le_ok rfl, _, rfl, by decide, by decide, (show 1 ≤ 100 by decide), le_ok rfl, _, rfl, by decide, by decide, (show 1 ≤ 100 by decide), rfl, List.replicate 60 99, List.replicate 20 60, 999, rfl, okr, fun val hrec => ?_⟩
    have hv0 := val_nn (fun w hw => by have := hwr w hw; omega) (by decide) hrec _ 0 (Int.le_refl _) (by omega) (Nat.le_refl _)
    have hc0 : 0 ≤ cF ws fs 999 0 [] := cF_nil_nn fun w hw => by have := ok.hw w hw; omega
    refine ⟨_, atI_nat (j := 0) rfl, iteFd (by omega) ?_⟩
    refine ⟨_, rfl, _, rfl, le_ok rfl, _, rfl, rfl, ws, fs, 999, [], rfl, ⟨ok.hw, ok.hwl, ok.hf, ok.hfs, ok.hfl, by decide, by decide⟩, True.intro, iteFd (by omega) ?_⟩
    exact ⟨_, _, _, _, _, _, _, _, _, _, _, rfl, hD2, hT2⟩
  · rintro fr S' ⟨a2, a3, a4, a5, a6, a7, a8, a9, a10, a11, a12, rfl, hD, hT⟩
    exact h _
end
end K16
set_option Elab.async false
set_option linter.all false
set_option maxRecDepth 100000
set_option maxHeartbeats 4000000
/-! DXb: what a head has to find of own exception classes, as Bools. -/
namespace DL
open PySem PySem.Spec PyProof.Rows L2
def oexB (K : Fg) (C : Addr) : Bool := (match K.lookup C with
  | some ⟨.type "type", _, .cls cd, sl⟩ => (match cd.mro, sl.toList with
    | .ref C' :: bm, [_, _, _, _, some (.builtin n), _] => C' == C && n == "ValueError.__new__" && !cd.hasDel && cd.hasDict && HandSPX.refsVE bm
    | _, _ => false)
  | _ => false) && (decide (PySem.W.findIn K (.ref C) "__setattr__" = some (some (.builtin "object.__setattr__"))) && (decide (PySem.W.subIn K (.ref C) (.type "BaseException") = some true) && (decide (PySem.W.typeIn K (.ref C) = some (.type "type")) && PySem.W.keepIn K (.ref C))))
theorem oexB_ok {K : Fg} {C : Addr} (h : oexB K C = true) : OexC K C := by
  unfold oexB at h
  obtain ⟨h1, h⟩ := Bool.and_eq_true_iff.mp h
  obtain ⟨h2, h⟩ := Bool.and_eq_true_iff.mp h
  obtain ⟨h3, h⟩ := Bool.and_eq_true_iff.mp h
  obtain ⟨h4, h5⟩ := Bool.and_eq_true_iff.mp h
  refine ⟨?_, of_decide_eq_true h2, of_decide_eq_true h3, of_decide_eq_true h4, h5⟩
  split at h1
  · rename_i dd cd sl ho
    split at h1
    · rename_i C' bm k0 k1 k2 k3 n k5 hm hs
      simp only [Bool.and_eq_true, beq_iff_eq, Bool.not_eq_true'] at h1
      obtain ⟨⟨⟨⟨rfl, rfl⟩, hdel⟩, hdi⟩, hv⟩ := h1
      obtain ⟨nm, bs, mro, ns, qn, hd, sn, sub, ab, col, del⟩ := cd
      dsimp only at hm hdel hdi
      subst hm hdel hdi
      have hsl : sl = #[k0, k1, k2, k3, some (.builtin "ValueError.__new__"), k5] := by
        obtain ⟨l⟩ := sl
        simp only at hs
        rw [hs]
      subst hsl
      exact ⟨nm, qn, ns, bs, bm, sn, sub, ab, col, dd, k0, k1, k2, k3, k5, ho, hv⟩
    · cases h1
  · cases h1
def basB (K : Fg) (C : Addr) : Bool := decide (PySem.W.specialIn K (.ref C) "__getattribute__" = some (some (.builtin "type.__getattribute__"))) && (decide (PySem.W.typeIn K (.ref C) = some (.type "type")) && (PySem.W.readsIn K C (.type "type") &&
  (match PySem.W.findCls K (.ref C) (.type "type") "__init__" with | some (.val (.builtin n)) => n == "ValueError.__init__" | _ => false)))
theorem basB_ok {K : Fg} {C : Addr} (h : basB K C = true) : Bas K C := by
  unfold basB at h
  obtain ⟨h1, h⟩ := Bool.and_eq_true_iff.mp h
  obtain ⟨h2, h⟩ := Bool.and_eq_true_iff.mp h
  obtain ⟨h3, h4⟩ := Bool.and_eq_true_iff.mp h
  refine ⟨of_decide_eq_true h1, of_decide_eq_true h2, h3, ?_⟩
  split at h4
  · rename_i n e
    rw [e, beq_iff_eq.mp h4]
  · cases h4
def excCB (K : Fg) (C : Addr) : Bool := decide (PySem.W.findIn K (.ref C) "__getattribute__" = some (some (.builtin "BaseException.__getattribute__"))) && (decide (PySem.W.findIn K (.ref C) "__getattr__" = some none) && (decide (PySem.W.subIn K (.ref C) (.type "BaseException") = some true) && (PySem.W.hasDictIn K C &&
  (decide (PySem.W.findIn K (.ref C) "__class__" = some (some (.builtin "object.__class__"))) && (decide (PySem.W.specialIn K (.builtin "object.__class__") "__get__" = some (some (.builtin "getset_descriptor.__get__"))) && (decide (PySem.W.takesIn K (.builtin "object.__class__") = some true) && decide (PySem.W.mroIn K C (.type "object") = some true)))))))
theorem excCB_ok {K : Fg} {C : Addr} (h : excCB K C = true) : ExcC K C := by
  unfold excCB at h
  obtain ⟨h1, h⟩ := Bool.and_eq_true_iff.mp h
  obtain ⟨h2, h⟩ := Bool.and_eq_true_iff.mp h
  obtain ⟨h3, h⟩ := Bool.and_eq_true_iff.mp h
  obtain ⟨h4, h⟩ := Bool.and_eq_true_iff.mp h
  obtain ⟨h5, h⟩ := Bool.and_eq_true_iff.mp h
  obtain ⟨h6, h⟩ := Bool.and_eq_true_iff.mp h
  obtain ⟨h7, h8⟩ := Bool.and_eq_true_iff.mp h
  exact ⟨of_decide_eq_true h1, of_decide_eq_true h2, of_decide_eq_true h3, h4, of_decide_eq_true h5, of_decide_eq_true h6, of_decide_eq_true h7, of_decide_eq_true h8⟩
end DL
set_option Elab.async false
set_option linter.all false
set_option maxRecDepth 100000
set_option maxHeartbeats 4000000
/-! DL: what the head tells of classes, methods, written tables. -/
namespace DL
open PySem PySem.Spec PyProof.Rows L2
section
variable {K : Fg} {mg : Str → Option Value} {w : World}
theorem funM_mk {x m qual : Str} {st : Stmt} {ps : List Str} {fd : FuncData} (F : FunD K m qual (defArgs st) (defBody st) (defScope st) [] [] (He.fAd K (x, some m)) fd) (M : Meth K (He.ga K x) m (He.ma K (He.ga K x) m))
    (h : ∀ (kV doc pm : Value) (an : Option Addr) (cdv ct : Value) (us : List Value), us.length = ps.length → bindArgs (PySem.W.fnOf m qual (defArgs st) (defBody st) (defScope st) .none kV doc pm an cdv ct) ⟨us, []⟩ = pure (ps.zip us)) : FunM K (He.ga K x) m qual st ps := by
  have hb := F.bindsN h
  obtain ⟨oc, od, dV, kV, doc, pm, an, cdv, ct, osl, e, lk, hcd, hD, hK⟩ := F.ex
  rcases hD with ⟨_, rfl⟩ | ⟨z, _⟩
  · exact ⟨_, fd, ⟨⟨oc, od, kV, doc, pm, an, cdv, ct, osl, e, lk, hcd⟩, F.kp⟩, M, hb⟩
  · exact absurd rfl z
theorem funI_mk {x qual : Str} {st : Stmt} {ps : List Str} {fd : FuncData} (F : FunD K "__init__" qual (defArgs st) (defBody st) (defScope st) [] [] (He.fAd K (x, some "__init__")) fd) (M : Mk K (He.ga K x) (He.ma K (He.ga K x) "__init__")) (hm : mg x = some (.ref (He.ga K x)))
    (h : ∀ (kV doc pm : Value) (an : Option Addr) (cdv ct : Value) (us : List Value), us.length = ps.length → bindArgs (PySem.W.fnOf "__init__" qual (defArgs st) (defBody st) (defScope st) .none kV doc pm an cdv ct) ⟨us, []⟩ = pure (ps.zip us)) : FunI K mg x (He.ga K x) qual st ps := by
  have hb := F.bindsN h
  obtain ⟨oc, od, dV, kV, doc, pm, an, cdv, ct, osl, e, lk, hcd, hD, hK⟩ := F.ex
  rcases hD with ⟨_, rfl⟩ | ⟨z, _⟩
  · exact ⟨_, fd, ⟨⟨oc, od, kV, doc, pm, an, cdv, ct, osl, e, lk, hcd⟩, F.kp⟩, M, hb, hm⟩
  · exact absurd rfl z
theorem kTup_mk {x : Str} {vs : List He.Dv} (h : He.tupB K x vs = true) : KTup K (He.ga K x) (vs.map (He.Dv.v K)) := by
  have z := He.tupB_ok h (fun _ => none)
  rcases z with (z | ⟨o, z⟩) | z
  · cases (show (none : Option HO) = some (.tup (vs.map (He.Dv.v K))) from z)
  · cases (show (none : Option HO) = some (.frz o (.tup (vs.map (He.Dv.v K)))) from z)
  · exact z
theorem noneK {n : Nat} {e : DictEntry} {x z : Str} {t : Tok} (hx : x ≠ z) (ek : e.key = .str x t) : ¬ (e.key.isStr z = true) ∧ e.refKey = false := by
  unfold DictEntry.refKey
  rw [ek]
  exact ⟨fun q => hx (eq_of_beq (show (x == z) = true from q)), rfl⟩
/-- the keys of a written dict -/
theorem keys_mem {P : Params} : ∀ {l : List DictEntry} {ks : List Str}, l.map He.keyOf = He.keysIn P ks → ∀ e ∈ l, ∃ x ∈ ks, ∃ t, e.key = .str x t
  | [], _, _, e, he => by cases he
  | e :: r, [], h, _, _ => by cases h
  | e :: r, k :: ks, h, e', he => by
    have h1 : He.keyOf e :: r.map He.keyOf = some (k, PyData.keyHash P k) :: He.keysIn P ks := h
    injection h1 with h2 h3
    rcases List.mem_cons.mp he with rfl | he
    · unfold He.keyOf at h2
      split at h2
      · rename_i x t q
        obtain ⟨h5, h6⟩ := Prod.mk.inj (Option.some.inj h2)
        subst h5
        exact ⟨_, List.mem_cons_self, t, q⟩
      · cases h2
    · obtain ⟨x, hx, t, q⟩ := keys_mem h3 e' he
      exact ⟨x, List.mem_cons_of_mem _ hx, t, q⟩
theorem dicW_none {P : Params} {a : Addr} {ks : List Str} {z : Str} (h : He.dicW K a = some (He.keysIn P ks)) (hz : ∀ x ∈ ks, x ≠ z) : PySem.W.nsIn K a z = some none := by
  unfold He.dicW at h
  unfold PySem.W.nsIn
  cases q : K.lookup a with
  | none => rw [q] at h; cases h
  | some o =>
    obtain ⟨oc, od, dt, osl⟩ := o
    rw [q] at h
    cases oc with
    | type c =>
      cases od with
      | none =>
        cases dt with
        | dict es n =>
          have h1 : (match decide (c = "dict") && (osl.isEmpty && !(a == sysModules)) with
            | true => some (es.toList.map He.keyOf)
            | false => none) = some (He.keysIn P ks) := h
          cases zz : decide (c = "dict") && (osl.isEmpty && !(a == sysModules)) with
          | false => rw [zz] at h1; cases h1
          | true =>
            rw [zz] at h1
            have km := keys_mem (Option.some.inj h1)
            have f1 : es.toList.find? (·.key.isStr z) = none := by
              rw [List.find?_eq_none]
              intro e he
              obtain ⟨x, hx, t, ek⟩ := km e he
              exact (noneK (n := 0) (hz x hx) ek).1
            have f2 : es.toList.any (·.refKey) = false := by
              rw [List.any_eq_false]
              intro e he
              obtain ⟨x, hx, t, ek⟩ := km e he
              rw [(noneK (n := 0) (hz x hx) ek).2]
              exact Bool.false_ne_true
            show (match es.toList.find? (·.key.isStr z) with
              | some e => some (some e.val)
              | none => if es.toList.any (·.refKey) then none else some none) = some none
            rw [f1, f2]; rfl
        | _ => cases h
      | some b => cases dt <;> cases h
    | _ => cases od <;> cases dt <;> cases h
end
section
variable {K : Fg} {mg : Str → Option Value} {w : World}
theorem lookup_some {kvs : List (Str × Str)} {z s : Str} (hl : kvs.lookup z = some s) : (z, s) ∈ kvs := by
  induction kvs with
  | nil => cases hl
  | cons q r ih =>
    obtain ⟨k, v⟩ := q
    rw [List.lookup_cons] at hl
    cases e : (z == k) with
    | true =>
      rw [e] at hl
      cases hl
      rw [eq_of_beq e]; exact List.mem_cons_self
    | false =>
      rw [e] at hl
      exact List.mem_cons_of_mem _ (ih hl)
theorem lookup_none {kvs : List (Str × Str)} {z : Str} (hl : kvs.lookup z = none) : ∀ x ∈ kvs.map (·.1), x ≠ z := by
  induction kvs with
  | nil => exact fun x hx => by cases hx
  | cons q r ih =>
    obtain ⟨k, v⟩ := q
    rw [List.lookup_cons] at hl
    cases e : (z == k) with
    | true => rw [e] at hl; cases hl
    | false =>
      rw [e] at hl
      intro x hx
      rcases List.mem_cons.mp hx with hx | hx
      · subst hx
        intro q
        rw [← q, beq_self_eq_true] at e
        cases e
      · exact ih hl x hx
theorem kTab_mk {a : Addr} {kvs : List (Str × Str)} (h : He.dicW K a = some (He.keysIn w.params (kvs.map (·.1)))) (hv : He.valsB K a (kvs.map fun q => (q.1, He.Dv.str q.2)) = true) : KTab K w a kvs := by
  refine ⟨He.dicW_ok h, fun z => ?_⟩
  cases hl : kvs.lookup z with
  | some s =>
    obtain ⟨u, e1, e2⟩ := He.valsB_ok hv (q := (z, He.Dv.str s)) (List.mem_map.mpr ⟨_, lookup_some hl, rfl⟩)
    exact ⟨some u, e1, u, rfl, e2⟩
  | none => exact ⟨none, dicW_none h (lookup_none hl), rfl⟩
theorem saysT_tab {fa : List He.Fa} {fn : List He.DefD} {ts : List He.Tab} (c : He.SaysT fa fn ts w K) (i : Nat) {t : He.Tab} (h : ts[i]? = some t) : He.dicW K (t.1 K) = some (He.keysIn w.params t.2) := by
  have e : ts.map (fun t => He.dicW K (t.1 K)) = ts.map fun t => some (He.keysIn w.params t.2) := congrArg (fun z : He.AlT => z.2) c
  have e2 : (ts.map fun t => He.dicW K (t.1 K))[i]? = (ts.map fun t => some (He.keysIn w.params t.2))[i]? := by rw [e]
  rw [List.getElem?_map, List.getElem?_map, h] at e2
  exact Option.some.inj e2
theorem klass_mk {x : Str} {ks : List Str} (h1 : (He.Fa.cls x).ok K = true) (h2 : ∀ f ∈ ks, (He.Fa.noat x f).ok K = true) (nd : ks.Nodup) (few : ks.length < 1000) : Klass K (He.ga K x) ks :=
  ⟨He.cls_ok h1, fun f hf => He.noat_ok (h2 f hf), nd, few⟩
end
end DL
set_option Elab.async false
set_option linter.all false
set_option maxRecDepth 100000
set_option maxHeartbeats 4000000
/-! DXk: what the head tells of the refusals' classes, of the law's own table. -/
namespace DL
open PySem PySem.Spec PyProof.Rows L2
abbrev excNames : List Str := ["BadProgram", "BadHanded", "BadWay", "BadOften", "BadLog", "BadWeights", "BadFalls", "BadPrice", "BadMarks", "BadText"]
def csOf (K : Fg) (i : Nat) : Addr := He.ga K (excNames.getD i "")
def kn1B (K : Fg) (CW : Addr) (i : Nat) : Bool :=
  ((List.range 10).all fun j => decide (PySem.W.kitOne K (.ref (csOf K i)) (.ref (csOf K j)) = some (decide (i = j)))) && (decide (PySem.W.kitOne K (.ref (csOf K i)) (.type "ValueError") = some true) && (decide (PySem.W.exmOne K (.ref (csOf K i)) (.ref CW) = some true) && (excCB K (csOf K i) && (xfB K (csOf K i) &&
    (decide (PySem.W.findIn K (.ref (csOf K i)) "number" = some none) && (decide (PySem.W.findIn K (.ref (csOf K i)) "why" = some none) && decide (PySem.W.findIn K (.ref (csOf K i)) "row" = some none)))))))
def knB (K : Fg) : Bool := (List.range 10).all fun i => kn1B K (He.ga K "WorkError") i
structure Kn1 (K : Fg) (CW : Addr) (i : Nat) : Prop where
  kit : ∀ j, j < 10 → PySem.W.kitOne K (.ref (csOf K i)) (.ref (csOf K j)) = some (decide (i = j))
  ve : PySem.W.kitOne K (.ref (csOf K i)) (.type "ValueError") = some true
  exm : PySem.W.exmOne K (.ref (csOf K i)) (.ref CW) = some true
  ec : ExcC K (csOf K i)
  xf : XfC K (csOf K i)
  nn : PySem.W.findIn K (.ref (csOf K i)) "number" = some none
  ny : PySem.W.findIn K (.ref (csOf K i)) "why" = some none
  nr : PySem.W.findIn K (.ref (csOf K i)) "row" = some none
theorem kn1B_ok {K : Fg} {CW : Addr} {i : Nat} (h : kn1B K CW i = true) : Kn1 K CW i := by
  unfold kn1B at h
  obtain ⟨h1, h⟩ := Bool.and_eq_true_iff.mp h
  obtain ⟨h2, h⟩ := Bool.and_eq_true_iff.mp h
  obtain ⟨h3, h⟩ := Bool.and_eq_true_iff.mp h
  obtain ⟨h4, h⟩ := Bool.and_eq_true_iff.mp h
  obtain ⟨h5, h⟩ := Bool.and_eq_true_iff.mp h
  obtain ⟨h6, h⟩ := Bool.and_eq_true_iff.mp h
  obtain ⟨h7, h8⟩ := Bool.and_eq_true_iff.mp h
  exact ⟨fun j hj => of_decide_eq_true (List.all_eq_true.mp h1 j (List.mem_range.mpr hj)), of_decide_eq_true h2, of_decide_eq_true h3, excCB_ok h4, xfB_ok h5, of_decide_eq_true h6, of_decide_eq_true h7, of_decide_eq_true h8⟩
theorem knB_ok {K : Fg} (h : knB K = true) : ∀ i, i < 10 → Kn1 K (He.ga K "WorkError") i := fun i hi => kn1B_ok (List.all_eq_true.mp h i (List.mem_range.mpr hi))
/-- a class with an own init -/
theorem mkE_mk {P : Program} {w : World} {K : Fg} {mg : Str → Option Value} {base : Heap} {x qual : Str} {st : Stmt} {ps : List Str} {fd : FuncData} {sp : Sp} {k : Nat} (F : FunD K "__init__" qual (defArgs st) (defBody st) (defScope st) [] [] (He.fAd K (x, some "__init__")) fd)
    (M : Meth K (He.ga K x) "__init__" (He.ma K (He.ga K x) "__init__")) (hm : mg x = some (.ref (He.ga K x))) (T : OexC K (He.ga K x))
    (h : ∀ (kV doc pm : Value) (an : Option Addr) (cdv ct : Value) (us : List Value), us.length = ps.length → bindArgs (PySem.W.fnOf "__init__" qual (defArgs st) (defBody st) (defScope st) .none kV doc pm an cdv ct) ⟨us, []⟩ = pure (ps.zip us))
    (ok : Fun K "__init__" qual st (He.ma K (He.ga K x) "__init__") fd → FnOk P w K mg base CX0 k (He.ma K (He.ga K x) "__init__") fd ps sp) : MkE P w K mg base x (He.ga K x) sp k := by
  have hb := F.bindsN h
  obtain ⟨oc, od, dV, kV, doc, pm, an, cdv, ct, osl, e, lk, hcd, hD, hK⟩ := F.ex
  rcases hD with ⟨_, rfl⟩ | ⟨z, _⟩
  · exact ⟨T, hm, _, fd, ps, M.at_, of_decide_eq_true (by simpa [PySem.W.isFn] using M.fn), ok ⟨⟨oc, od, kV, doc, pm, an, cdv, ct, osl, e, lk, hcd⟩, F.kp⟩, hb⟩
  · exact absurd rfl z
/-- the law's own table: out of K, empty -/
theorem own_tab {K : Fg} {h : Heap} {x : Str} {st : Stmt} {fd : FuncData} (X : K.In h) (F : Fun K x x st (He.ga K x) fd) (hd : PySem.W.codeHdIn K (He.cT K (x, none)).1 (He.cT K (x, none)).2 = true) : fd.code = .ref (He.cT K (x, none)).1 ∧ PySem.W.CodeHd h (He.cT K (x, none)).1 (He.cT K (x, none)).2 := by
  obtain ⟨oc, od, kV, doc, pm, an, cdv, ct, osl, e, lk, hcd⟩ := F.ex
  obtain ⟨c, ec⟩ := He.codeIn_ref hcd
  subst e
  subst ec
  refine ⟨?_, PySem.W.codeHd_of_K X hd⟩
  have := He.codeOf_eq (p := (x, none)) (fd := _) lk rfl
  exact congrArg Value.ref this.symm
theorem tab_ne {K : Fg} {H : Hp} {a P : Addr} {xs : List V} (hP : H P = some (.tbl #[])) (kP : K.lookup P = none) (hS : SqL K H a xs) : a ≠ P := by
  rintro rfl
  rcases hS with h | ⟨o, its, n, lk, _⟩
  · rcases h with h | ⟨o, h⟩
    · rw [hP] at h; cases h
    · rw [hP] at h; cases h
  · rw [kP] at lk; cases lk
end DL
namespace DL
open PySem PySem.Spec PyProof.Rows L2
theorem fun_mk {K : Fg} {name qual : Str} {st : Stmt} {f : Addr} {fd : FuncData} (F : FunD K name qual (defArgs st) (defBody st) (defScope st) [] [] f fd) : Fun K name qual st f fd := by
  obtain ⟨oc, od, dV, kV, doc, pm, an, cdv, ct, osl, e, lk, hcd, hD, hK⟩ := F.ex
  rcases hD with ⟨_, rfl⟩ | ⟨z, _⟩
  · exact ⟨⟨oc, od, kV, doc, pm, an, cdv, ct, osl, e, lk, hcd⟩, F.kp⟩
  · exact absurd rfl z
end DL
/-! ### the hook with the interpreter's own statics beside -/
namespace DL
open PySem PySem.Spec PyProof.Rows L2
def asC (g : Addr → Option Obj) (n : Nat) : List Addr := He.asD g n ++ [cStatics]
def obsC (n : Nat) (fa : List He.Fa) (fn : List He.DefD) (ts : List He.Tab) (tf : List He.Defn) (ex : Fg → Bool) (g : Addr → Option Obj) : He.AlX :=
  (He.obsT fa fn ts (He.frT g (asC g n)), ex (He.frT g (asC g n)) && He.tabsB g tf (He.frT g (asC g n)))
theorem saysC_of {as : List Addr} {fa : List He.Fa} {fn : List He.DefD} {ts : List He.Tab} {tf : List He.Defn} {ex : Fg → Bool} {w : World} {h : Heap}
    (e : ((He.obsT fa fn ts (He.frT h.get? as), ex (He.frT h.get? as) && He.tabsB h.get? tf (He.frT h.get? as)) : He.AlX) = He.valX fn ts w) : He.SaysX fa fn ts tf ex w h (He.frT h.get? as) := by
  obtain ⟨e1, e2⟩ := Prod.mk.inj e
  obtain ⟨m, tb⟩ := Bool.and_eq_true_iff.mp e2
  have one : ∀ p ∈ tf, ∃ o, PySem.W.codeHdIn (He.frT h.get? as) (He.cT (He.frT h.get? as) p).1 (He.cT (He.frT h.get? as) p).2 = true ∧ h.get? (He.cT (He.frT h.get? as) p).2 = some o ∧ He.emptyTab o = true := by
    intro p hp
    obtain ⟨a1, a2⟩ := Bool.and_eq_true_iff.mp (List.all_eq_true.mp tb p hp)
    split at a2
    · rename_i o ho
      exact ⟨o, a1, ho, a2⟩
    · cases a2
  refine ⟨e1, m, fun p hp => ?_, fun p hp => ?_, fun p hp => ?_⟩ <;> obtain ⟨o, b1, b2, b3⟩ := one p hp
  · exact b1
  · exact He.frT_none b2 b3
  · exact b2.trans (congrArg some (He.emptyTab_eq b3))
def hookC (n : Nat) (fa : List He.Fa) (fn : List He.DefD) (ts : List He.Tab) (tf : List He.Defn) (ex : Fg → Bool) : PySem.W.Hook where
  α := He.AlX
  obs := fun s => obsC n fa fn ts tf ex s.heap.get?
  val := fun w => He.valX fn ts w
  says := fun w h => ∃ K : Fg, K.In h ∧ He.SaysX fa fn ts tf ex w h K
  of := fun _ _ e => ⟨_, He.frT_in, saysC_of e⟩
  keeps := fun _ _ _ x k => x.elim fun K z => ⟨K, PySem.W.Frag.In.keeps z.1 k, { z.2 with empty := fun p hp => k _ _ (z.2.empty p hp) }⟩
theorem obsC_eq {n : Nat} {fa : List He.Fa} {fn : List He.DefD} {ts : List He.Tab} {tf : List He.Defn} {ex : Fg → Bool} {g : Addr → Option Obj} {s : Shared} (h : ∀ a, g a = s.heap.get? a) : obsC n fa fn ts tf ex g = (hookC n fa fn ts tf ex).obs s := by
  obtain rfl : g = s.heap.get? := funext h
  rfl
end DL
set_option Elab.async false
set_option linter.all false
set_option maxRecDepth 100000
set_option maxHeartbeats 0
namespace K16
open PySem PySem.Spec PyProof.Rows L2 DL
def dd_is_number : He.DefD := ⟨("is_number", none), "is_number", "is_number", defArgs s_is_number, defBody s_is_number, defScope s_is_number, [], []⟩
def dd_need_plan : He.DefD := ⟨("need_plan", none), "need_plan", "need_plan", defArgs s_need_plan, defBody s_need_plan, defScope s_need_plan, [], []⟩
def dd_need_marks : He.DefD := ⟨("need_marks", none), "need_marks", "need_marks", defArgs s_need_marks, defBody s_need_marks, defScope s_need_marks, [], []⟩
def dd_redone : He.DefD := ⟨("redone", none), "redone", "redone", defArgs s_redone, defBody s_redone, defScope s_redone, [], []⟩
def dd_cost : He.DefD := ⟨("cost", none), "cost", "cost", defArgs s_cost, defBody s_cost, defScope s_cost, [], []⟩
def dd_best : He.DefD := ⟨("best", none), "best", "best", defArgs s_best, defBody s_best, defScope s_best, [], []⟩
def dd__law_dice : He.DefD := ⟨("_law_dice", none), "_law_dice", "_law_dice", defArgs s__law_dice, defBody s__law_dice, defScope s__law_dice, [], []⟩
def dd__law_next : He.DefD := ⟨("_law_next", none), "_law_next", "_law_next", defArgs s__law_next, defBody s__law_next, defScope s__law_next, [], []⟩
def dd__law_like : He.DefD := ⟨("_law_like", none), "_law_like", "_law_like", defArgs s__law_like, defBody s__law_like, defScope s__law_like, [], []⟩
def dd__law_told_by : He.DefD := ⟨("_law_told_by", none), "_law_told_by", "_law_told_by", defArgs s__law_told_by, defBody s__law_told_by, defScope s__law_told_by, [], []⟩
def dd__law_plan : He.DefD := ⟨("_law_plan", none), "_law_plan", "_law_plan", defArgs s__law_plan, defBody s__law_plan, defScope s__law_plan, [], []⟩
def dd__law_is_refused : He.DefD := ⟨("_law_is_refused", none), "_law_is_refused", "_law_is_refused", defArgs s__law_is_refused, defBody s__law_is_refused, defScope s__law_is_refused, [], []⟩
def dd__law_bad_weights : He.DefD := ⟨("_law_bad_weights", none), "_law_bad_weights", "_law_bad_weights", defArgs s__law_bad_weights, defBody s__law_bad_weights, defScope s__law_bad_weights, [], []⟩
def dd__law_bad_falls : He.DefD := ⟨("_law_bad_falls", none), "_law_bad_falls", "_law_bad_falls", defArgs s__law_bad_falls, defBody s__law_bad_falls, defScope s__law_bad_falls, [], []⟩
def dd__law_bad_marks : He.DefD := ⟨("_law_bad_marks", none), "_law_bad_marks", "_law_bad_marks", defArgs s__law_bad_marks, defBody s__law_bad_marks, defScope s__law_bad_marks, [], []⟩
def dd_law : He.DefD := ⟨("law", none), "law", "law", defArgs s_law, defBody s_law, defScope s_law, [], []⟩
def dd_BadWeights___init__ : He.DefD := ⟨("BadWeights", some "__init__"), "__init__", "BadWeights.__init__", defArgs s_BadWeights___init__, defBody s_BadWeights___init__, defScope s_BadWeights___init__, [], []⟩
def dd_BadFalls___init__ : He.DefD := ⟨("BadFalls", some "__init__"), "__init__", "BadFalls.__init__", defArgs s_BadFalls___init__, defBody s_BadFalls___init__, defScope s_BadFalls___init__, [], []⟩
def dd_BadMarks___init__ : He.DefD := ⟨("BadMarks", some "__init__"), "__init__", "BadMarks.__init__", defArgs s_BadMarks___init__, defBody s_BadMarks___init__, defScope s_BadMarks___init__, [], []⟩
def fn : List He.DefD := [dd_is_number, dd_need_plan, dd_need_marks, dd_redone, dd_cost, dd_best, dd__law_dice, dd__law_next, dd__law_like, dd__law_told_by, dd__law_plan, dd__law_is_refused, dd__law_bad_weights, dd__law_bad_falls, dd__law_bad_marks, dd_law, dd_BadWeights___init__, dd_BadFalls___init__, dd_BadMarks___init__]
def faA : List He.Fa := [.glo "is_number", .glo "need_plan", .glo "need_marks", .glo "redone", .glo "cost", .glo "best", .glo "_law_dice", .glo "_law_next", .glo "_law_like", .glo "_law_told_by", .glo "_law_plan", .glo "_law_is_refused", .glo "_law_bad_weights", .glo "_law_bad_falls", .glo "_law_bad_marks", .glo "law", .free "len", .free "range", .free "int", .free "sum", .free "max", .free "min", .free "sorted", .free "list", .free "tuple", .free "isinstance", .free "enumerate", .free "str", .free "bool", .free "zip", .free "set", .free "dict", .int "MOST_WEIGHTS" (60), .int "MOST_WEIGHT" (99), .int "MOST_FALLS" (20), .int "MOST_PRICE" (999), .glo "BadProgram", .glo "BadHanded", .glo "BadWay", .glo "BadOften", .glo "BadLog", .glo "BadWeights", .glo "BadFalls", .glo "BadPrice", .glo "BadMarks", .glo "BadText", .glo "WorkError", .free "ValueError", .meth "BadWeights" "__init__", .meth "BadFalls" "__init__", .meth "BadMarks" "__init__", .exc "BadPrice"]
def fa : List He.Fa := faA
def ts : List He.Tab := []
def ex (K : PySem.W.Frag) : Bool := knB K && (basB K (He.ga K "WorkError") && (oexB K (He.ga K "BadWeights") && (oexB K (He.ga K "BadFalls") && (oexB K (He.ga K "BadMarks")))))
abbrev Rw : PySem.W.OpenRow := PySem.W.OpenLaw.row PySem.Challenge.rw_longwork_k16_plans_refused
abbrev hk : PySem.W.Hook := DL.hookC 5 fa fn ts [("law", none)] ex
def ob (s : PySem.W.SharedT) : He.AlX := DL.obsC 5 fa fn ts [("law", none)] ex (HandSHeadRun.getT s)
theorem ob_eq (s : PySem.W.SharedT) : ob s = hk.obs s.abs := DL.obsC_eq (HandSHeadRun.getT_eq s)
def loose0 : List Str := ["WorkError", "BadProgram", "BadHanded", "BadWay", "BadOften", "BadLog", "BadWeights", "BadFalls", "BadPrice", "BadMarks", "BadText", "is_number", "MOST_WEIGHTS", "MOST_WEIGHT", "MOST_FALLS", "MOST_PRICE", "need_plan", "need_marks", "redone", "cost", "best", "_law_dice", "_law_next", "_law_like", "_law_told_by", "_law_plan", "_law_is_refused", "_law_bad_weights", "_law_bad_falls", "_law_bad_marks"]
def loose : List Str := loose0
theorem runF (w : World) : HandSHeadRun.RunEq Rw (PySem.W.view Rw.prog [34]) hk ob 6000 loose (w.withFollow "special-get-raises" false) := by
  intro os
  kernel_rfl
theorem runT (w : World) : HandSHeadRun.RunEq Rw (PySem.W.view Rw.prog [34]) hk ob 6000 loose (w.withFollow "special-get-raises" true) := by
  intro os
  kernel_rfl
theorem run (w : World) : HandSHeadRun.RunEq Rw (PySem.W.view Rw.prog [34]) hk ob 6000 loose w := PySem.W.byRow2 "special-get-raises" (P := fun w => HandSHeadRun.RunEq Rw (PySem.W.view Rw.prog [34]) hk ob 6000 loose w) runF runT w
theorem facts {P : Program} {w : World} {K : Fg} {h : Heap} {mg : Str → Option Value} {f : Addr} (X : K.In h) (G : h.Ns mainGlobals mg) (hfa : mg ("law" : Str) = some (.ref f)) (c : He.SaysX fa fn ts [("law", none)] ex w h K) :
    ∃ fd : FuncData, (∀ (s : Shared) (v : Value), BindsTo s fd ⟨[v], []⟩ [("_law_script", v)]) ∧ PySem.W.CodeHd h (He.cT K ("law", none)).1 (He.cT K ("law", none)).2 ∧
      ∀ base : Heap, K.In base → base.Ns mainGlobals mg → LamX.TabB base mg (He.cT K ("law", none)).1 (He.cT K ("law", none)).2 → FnOk P w K mg base CX0 13 f fd ["_law_script"] (toSp K 1 (spLawT (He.cT K ("law", none)).2)) := by
  have F_is_number : FunAt K mg "is_number" s_is_number ["part", "low", "high"] := by
    obtain ⟨fd, F⟩ := c.t.d.def_ 0 (d := dd_is_number) rfl
    exact funAt_mk F (He.glo_ok X G (c.t.d.fact 0 (f := .glo "is_number") rfl)) fun _ _ _ _ _ _ us hl => match us, hl with | [_, _, _], _ => rfl
  have F_need_plan : FunAt K mg "need_plan" s_need_plan ["weights", "falls", "price"] := by
    obtain ⟨fd, F⟩ := c.t.d.def_ 1 (d := dd_need_plan) rfl
    exact funAt_mk F (He.glo_ok X G (c.t.d.fact 1 (f := .glo "need_plan") rfl)) fun _ _ _ _ _ _ us hl => match us, hl with | [_, _, _], _ => rfl
  have F_need_marks : FunAt K mg "need_marks" s_need_marks ["weights", "marks"] := by
    obtain ⟨fd, F⟩ := c.t.d.def_ 2 (d := dd_need_marks) rfl
    exact funAt_mk F (He.glo_ok X G (c.t.d.fact 2 (f := .glo "need_marks") rfl)) fun _ _ _ _ _ _ us hl => match us, hl with | [_, _], _ => rfl
  have F_redone : FunAt K mg "redone" s_redone ["weights", "falls", "begin", "end"] := by
    obtain ⟨fd, F⟩ := c.t.d.def_ 3 (d := dd_redone) rfl
    exact funAt_mk F (He.glo_ok X G (c.t.d.fact 3 (f := .glo "redone") rfl)) fun _ _ _ _ _ _ us hl => match us, hl with | [_, _, _, _], _ => rfl
  have F_cost : FunAt K mg "cost" s_cost ["weights", "falls", "price", "marks"] := by
    obtain ⟨fd, F⟩ := c.t.d.def_ 4 (d := dd_cost) rfl
    exact funAt_mk F (He.glo_ok X G (c.t.d.fact 4 (f := .glo "cost") rfl)) fun _ _ _ _ _ _ us hl => match us, hl with | [_, _, _, _], _ => rfl
  have F_best : FunAt K mg "best" s_best ["weights", "falls", "price"] := by
    obtain ⟨fd, F⟩ := c.t.d.def_ 5 (d := dd_best) rfl
    exact funAt_mk F (He.glo_ok X G (c.t.d.fact 5 (f := .glo "best") rfl)) fun _ _ _ _ _ _ us hl => match us, hl with | [_, _, _], _ => rfl
  have F__law_dice : FunAt K mg "_law_dice" s__law_dice ["_law_script"] := by
    obtain ⟨fd, F⟩ := c.t.d.def_ 6 (d := dd__law_dice) rfl
    exact funAt_mk F (He.glo_ok X G (c.t.d.fact 6 (f := .glo "_law_dice") rfl)) fun _ _ _ _ _ _ us hl => match us, hl with | [_], _ => rfl
  have F__law_next : FunAt K mg "_law_next" s__law_next ["_law_dice_here", "_law_many"] := by
    obtain ⟨fd, F⟩ := c.t.d.def_ 7 (d := dd__law_next) rfl
    exact funAt_mk F (He.glo_ok X G (c.t.d.fact 7 (f := .glo "_law_next") rfl)) fun _ _ _ _ _ _ us hl => match us, hl with | [_, _], _ => rfl
  have F__law_like : FunAt K mg "_law_like" s__law_like ["_law_found", "_law_due"] := by
    obtain ⟨fd, F⟩ := c.t.d.def_ 8 (d := dd__law_like) rfl
    exact funAt_mk F (He.glo_ok X G (c.t.d.fact 8 (f := .glo "_law_like") rfl)) fun _ _ _ _ _ _ us hl => match us, hl with | [_, _], _ => rfl
  have F__law_told_by : FunAt K mg "_law_told_by" s__law_told_by ["_law_work"] := by
    obtain ⟨fd, F⟩ := c.t.d.def_ 9 (d := dd__law_told_by) rfl
    exact funAt_mk F (He.glo_ok X G (c.t.d.fact 9 (f := .glo "_law_told_by") rfl)) fun _ _ _ _ _ _ us hl => match us, hl with | [_], _ => rfl
  have F__law_plan : FunAt K mg "_law_plan" s__law_plan ["_law_d", "_law_most"] := by
    obtain ⟨fd, F⟩ := c.t.d.def_ 10 (d := dd__law_plan) rfl
    exact funAt_mk F (He.glo_ok X G (c.t.d.fact 10 (f := .glo "_law_plan") rfl)) fun _ _ _ _ _ _ us hl => match us, hl with | [_, _], _ => rfl
  have F__law_is_refused : FunAt K mg "_law_is_refused" s__law_is_refused ["_law_works", "_law_due"] := by
    obtain ⟨fd, F⟩ := c.t.d.def_ 11 (d := dd__law_is_refused) rfl
    exact funAt_mk F (He.glo_ok X G (c.t.d.fact 11 (f := .glo "_law_is_refused") rfl)) fun _ _ _ _ _ _ us hl => match us, hl with | [_, _], _ => rfl
  have F__law_bad_weights : FunAt K mg "_law_bad_weights" s__law_bad_weights ["_law_d", "_law_weights", "_law_far"] := by
    obtain ⟨fd, F⟩ := c.t.d.def_ 12 (d := dd__law_bad_weights) rfl
    exact funAt_mk F (He.glo_ok X G (c.t.d.fact 12 (f := .glo "_law_bad_weights") rfl)) fun _ _ _ _ _ _ us hl => match us, hl with | [_, _, _], _ => rfl
  have F__law_bad_falls : FunAt K mg "_law_bad_falls" s__law_bad_falls ["_law_d", "_law_falls", "_law_many", "_law_far"] := by
    obtain ⟨fd, F⟩ := c.t.d.def_ 13 (d := dd__law_bad_falls) rfl
    exact funAt_mk F (He.glo_ok X G (c.t.d.fact 13 (f := .glo "_law_bad_falls") rfl)) fun _ _ _ _ _ _ us hl => match us, hl with | [_, _, _, _], _ => rfl
  have F__law_bad_marks : FunAt K mg "_law_bad_marks" s__law_bad_marks ["_law_d", "_law_many", "_law_far"] := by
    obtain ⟨fd, F⟩ := c.t.d.def_ 14 (d := dd__law_bad_marks) rfl
    exact funAt_mk F (He.glo_ok X G (c.t.d.fact 14 (f := .glo "_law_bad_marks") rfl)) fun _ _ _ _ _ _ us hl => match us, hl with | [_, _, _], _ => rfl
  have F_law : FunAt K mg "law" s_law ["_law_script"] := by
    obtain ⟨fd, F⟩ := c.t.d.def_ 15 (d := dd_law) rfl
    exact funAt_mk F (He.glo_ok X G (c.t.d.fact 15 (f := .glo "law") rfl)) fun _ _ _ _ _ _ us hl => match us, hl with | [_], _ => rfl
  have B : Blt mg := ⟨He.free_ok X G (c.t.d.fact 16 (f := .free "len") rfl), He.free_ok X G (c.t.d.fact 17 (f := .free "range") rfl), He.free_ok X G (c.t.d.fact 18 (f := .free "int") rfl), He.free_ok X G (c.t.d.fact 19 (f := .free "sum") rfl), He.free_ok X G (c.t.d.fact 20 (f := .free "max") rfl), He.free_ok X G (c.t.d.fact 21 (f := .free "min") rfl), He.free_ok X G (c.t.d.fact 22 (f := .free "sorted") rfl), He.free_ok X G (c.t.d.fact 23 (f := .free "list") rfl), He.free_ok X G (c.t.d.fact 24 (f := .free "tuple") rfl), He.free_ok X G (c.t.d.fact 25 (f := .free "isinstance") rfl), He.free_ok X G (c.t.d.fact 26 (f := .free "enumerate") rfl), He.free_ok X G (c.t.d.fact 27 (f := .free "str") rfl), He.free_ok X G (c.t.d.fact 28 (f := .free "bool") rfl), He.free_ok X G (c.t.d.fact 29 (f := .free "zip") rfl), He.free_ok X G (c.t.d.fact 30 (f := .free "set") rfl), He.free_ok X G (c.t.d.fact 31 (f := .free "dict") rfl)⟩
  obtain ⟨t_MOST_WEIGHTS, c_MOST_WEIGHTS⟩ := He.int_ok X G (c.t.d.fact 32 (f := .int "MOST_WEIGHTS" (60)) rfl)
  obtain ⟨t_MOST_WEIGHT, c_MOST_WEIGHT⟩ := He.int_ok X G (c.t.d.fact 33 (f := .int "MOST_WEIGHT" (99)) rfl)
  obtain ⟨t_MOST_FALLS, c_MOST_FALLS⟩ := He.int_ok X G (c.t.d.fact 34 (f := .int "MOST_FALLS" (20)) rfl)
  obtain ⟨t_MOST_PRICE, c_MOST_PRICE⟩ := He.int_ok X G (c.t.d.fact 35 (f := .int "MOST_PRICE" (999)) rfl)
  have ex0 : ex K = true := c.more
  unfold ex at ex0
  obtain ⟨x_kn, ex1⟩ := He.ba ex0
  obtain ⟨x_bas, ex2⟩ := He.ba ex1
  obtain ⟨x_oe_BadWeights, ex3⟩ := He.ba ex2
  obtain ⟨x_oe_BadFalls, ex4⟩ := He.ba ex3
  have x_oe_BadMarks := ex4
  have G_BadProgram : mg "BadProgram" = some (.ref (He.ga K "BadProgram")) := He.glo_ok X G (c.t.d.fact 36 (f := .glo "BadProgram") rfl)
  have G_BadHanded : mg "BadHanded" = some (.ref (He.ga K "BadHanded")) := He.glo_ok X G (c.t.d.fact 37 (f := .glo "BadHanded") rfl)
  have G_BadWay : mg "BadWay" = some (.ref (He.ga K "BadWay")) := He.glo_ok X G (c.t.d.fact 38 (f := .glo "BadWay") rfl)
  have G_BadOften : mg "BadOften" = some (.ref (He.ga K "BadOften")) := He.glo_ok X G (c.t.d.fact 39 (f := .glo "BadOften") rfl)
  have G_BadLog : mg "BadLog" = some (.ref (He.ga K "BadLog")) := He.glo_ok X G (c.t.d.fact 40 (f := .glo "BadLog") rfl)
  have G_BadWeights : mg "BadWeights" = some (.ref (He.ga K "BadWeights")) := He.glo_ok X G (c.t.d.fact 41 (f := .glo "BadWeights") rfl)
  have G_BadFalls : mg "BadFalls" = some (.ref (He.ga K "BadFalls")) := He.glo_ok X G (c.t.d.fact 42 (f := .glo "BadFalls") rfl)
  have G_BadPrice : mg "BadPrice" = some (.ref (He.ga K "BadPrice")) := He.glo_ok X G (c.t.d.fact 43 (f := .glo "BadPrice") rfl)
  have G_BadMarks : mg "BadMarks" = some (.ref (He.ga K "BadMarks")) := He.glo_ok X G (c.t.d.fact 44 (f := .glo "BadMarks") rfl)
  have G_BadText : mg "BadText" = some (.ref (He.ga K "BadText")) := He.glo_ok X G (c.t.d.fact 45 (f := .glo "BadText") rfl)
  have G_WorkError : mg "WorkError" = some (.ref (He.ga K "WorkError")) := He.glo_ok X G (c.t.d.fact 46 (f := .glo "WorkError") rfl)
  have Z_ValueError : mg "ValueError" = none := He.free_ok X G (c.t.d.fact 47 (f := .free "ValueError") rfl)
  have kx := knB_ok x_kn
  have kn : Kn10 K mg (csOf K) (He.ga K "WorkError") := ⟨G_BadProgram, G_BadHanded, G_BadWay, G_BadOften, G_BadLog, G_BadWeights, G_BadFalls, G_BadPrice, G_BadMarks, G_BadText, G_WorkError, Z_ValueError, fun i j hi hj => (kx i hi).kit j hj, fun i hi => (kx i hi).ve, fun i hi => (kx i hi).exm, fun i hi => (kx i hi).ec, fun i hi => (kx i hi).xf, fun i hi => (kx i hi).nn, fun i hi => (kx i hi).ny, fun i hi => (kx i hi).nr⟩
  have Q_BadPrice := He.exc_ok (c.t.d.fact 51 (f := .exc "BadPrice") rfl)
  have E_BadWeights : ∀ base : Heap, MkE P w K mg base "BadWeights" (He.ga K "BadWeights") (spI1 K (He.ga K "BadWeights") "number") 1 := fun base => by
    obtain ⟨fd, F⟩ := c.t.d.def_ 16 (d := dd_BadWeights___init__) rfl
    exact mkE_mk (st := s_BadWeights___init__) (qual := "BadWeights.__init__") (ps := ["self", "number"]) F (He.meth_ok (c.t.d.fact 48 (f := .meth "BadWeights" "__init__") rfl)) G_BadWeights (oexB_ok x_oe_BadWeights) (fun _ _ _ _ _ _ us hl => match us, hl with | [_, _], _ => rfl) fun Fu => ok_BadWeights_init Fu (oexB_ok x_oe_BadWeights) (basB_ok x_bas) G_WorkError (kx 5 (by decide)).nn
  have E_BadFalls : ∀ base : Heap, MkE P w K mg base "BadFalls" (He.ga K "BadFalls") (spI1 K (He.ga K "BadFalls") "number") 1 := fun base => by
    obtain ⟨fd, F⟩ := c.t.d.def_ 17 (d := dd_BadFalls___init__) rfl
    exact mkE_mk (st := s_BadFalls___init__) (qual := "BadFalls.__init__") (ps := ["self", "number"]) F (He.meth_ok (c.t.d.fact 49 (f := .meth "BadFalls" "__init__") rfl)) G_BadFalls (oexB_ok x_oe_BadFalls) (fun _ _ _ _ _ _ us hl => match us, hl with | [_, _], _ => rfl) fun Fu => ok_BadFalls_init Fu (oexB_ok x_oe_BadFalls) (basB_ok x_bas) G_WorkError (kx 6 (by decide)).nn
  have E_BadMarks : ∀ base : Heap, MkE P w K mg base "BadMarks" (He.ga K "BadMarks") (spI1 K (He.ga K "BadMarks") "number") 1 := fun base => by
    obtain ⟨fd, F⟩ := c.t.d.def_ 18 (d := dd_BadMarks___init__) rfl
    exact mkE_mk (st := s_BadMarks___init__) (qual := "BadMarks.__init__") (ps := ["self", "number"]) F (He.meth_ok (c.t.d.fact 50 (f := .meth "BadMarks" "__init__") rfl)) G_BadMarks (oexB_ok x_oe_BadMarks) (fun _ _ _ _ _ _ us hl => match us, hl with | [_, _], _ => rfl) fun Fu => ok_BadMarks_init Fu (oexB_ok x_oe_BadMarks) (basB_ok x_bas) G_WorkError (kx 8 (by decide)).nn
  obtain ⟨fd, Fd⟩ := c.t.d.def_ 15 (d := dd_law) rfl
  have e := hfa.symm.trans (He.glo_ok X G (c.t.d.fact 15 (f := .glo "law") rfl))
  cases e
  have Fu : Fun K "law" "law" s_law (He.ga K "law") fd := fun_mk (st := s_law) Fd
  obtain ⟨hc, hC⟩ := own_tab (x := "law") X Fu (c.hd _ (List.mem_singleton.mpr rfl))
  refine ⟨fd, fun s v => FunD.bindsA (ps := ["_law_script"]) Fd (fun _ _ _ _ _ _ us hl => match us, hl with | [_], _ => rfl) s [v] rfl, hC, fun base _ _ TB => ?_⟩
  obtain ⟨q1, q2, q3, q4⟩ := Q_BadPrice
  have D_num : Def P w K mg base "is_number" 1 3 spIsNumber := ok_is_number F_is_number B
  have D_next : Def P w K mg base "_law_next" 1 2 spNext := ok_next F__law_next B
  have D_need : Def P w K mg base "need_plan" 2 3 spNeedPlan := ok_need_plan F_need_plan B D_num c_MOST_WEIGHTS c_MOST_WEIGHT c_MOST_FALLS c_MOST_PRICE
  have D_re : Def P w K mg base "redone" 1 4 spRedone := ok_redone F_redone B
  have D_best : Def P w K mg base "best" 3 3 spBestD := best_frz (ok_best F_best B D_need D_re)
  have D_nm : Def P w K mg base "need_marks" 2 2 spNeedMarks := ok_need_marks F_need_marks B D_num
  have D_cost : Def P w K mg base "cost" 3 4 spCostP := ok_costP F_cost B D_need D_nm D_re
  have X_need : DefX P w K mg base "need_plan" 3 3 (spNeedPlanX (csOf K)) := ok_need_planX (k := 0) F_need_plan B D_num (E_BadWeights base) (E_BadFalls base) q1 G_BadPrice q2 q3 q4 c_MOST_WEIGHTS c_MOST_WEIGHT c_MOST_FALLS c_MOST_PRICE
  have X_nm : DefX P w K mg base "need_marks" 3 2 (spNeedMarksX (csOf K)) := ok_need_marksX (k := 0) F_need_marks B D_num (E_BadMarks base)
  exact ok_law (k := 0) Fu hc B (ok_dice F__law_dice B) D_next (ok_plan F__law_plan B D_next) D_best D_cost (ok_costX (k := 0) F_cost B X_need X_nm D_re) (ok_bestX (k := 0) F_best B X_need D_re) (ok_bad_weights F__law_bad_weights B D_next) (ok_bad_falls F__law_bad_falls B D_next) (ok_bad_marks F__law_bad_marks B D_next) (fun _ => ok_like F__law_like B 3) F__law_is_refused kn TB F__law_told_by
end K16
open PySem PySem.W PySem.Calls PyProof.Rows
set_option maxRecDepth 100000 in
set_option maxHeartbeats 0 in
theorem PySem.Challenge.cw_longwork_k16_plans_refused_holds : PySem.Challenge.rw_longwork_k16_plans_refused.Holds := by
  w_on; o_law
  refine HandSHeadRun.head_any (r := OpenLaw.row PySem.Challenge.rw_longwork_k16_plans_refused) (q := view (OpenLaw.row PySem.Challenge.rw_longwork_k16_plans_refused).prog [34]) (H := K16.hk) (ob := K16.ob) (M := 6000) (loose := K16.loose) (d := HandSHeadRun.topDef (OpenLaw.row PySem.Challenge.rw_longwork_k16_plans_refused).prog 34) (kwd := []) K16.ob_eq
    (by kernel_rfl) (fun s => by kernel_rfl) K16.run (by kernel_rfl) (by kernel_rfl) (by kernel_rfl) (by rfl) (by first | assumption | decide +kernel) (by decide +kernel) ⟨rfl, rfl, rfl, rfl, rfl, by decide +kernel⟩ ?hw ?hc
  case hw => w_witness2
  case hc =>
    refine LamX.walk_ofTsE (l := PySem.Challenge.rw_longwork_k16_plans_refused) (n := 63) (k := 13) (x := "_law_script") (CX := fun _ => L2.CX0) rfl (by decide) (by kernel_rfl) ⟨rfl, by decide, by decide⟩ ?F (fun _ _ _ _ _ z => z)
    intro w mg fa h Y G hmg0
    obtain ⟨K, KX, c⟩ := Y
    have hmg : mg ("law" : PySem.Str) = some (.ref fa) := by
      have e : (HandSHeadRun.topDef (OpenLaw.row PySem.Challenge.rw_longwork_k16_plans_refused).prog 34).name = ("law" : PySem.Str) := by kernel_rfl
      rw [← e]
      exact hmg0
    obtain ⟨fd, hb, hC, hF⟩ := K16.facts (P := (PySem.Challenge.rw_longwork_k16_plans_refused).prog) (w := w) KX G hmg c
    have hm : (("law", none) : He.Defn) ∈ [(("law", none) : He.Defn)] := List.mem_singleton.mpr rfl
    have h1 := c.empty _ hm
    have h2 := c.out _ hm
    exact ⟨K, KX, fd, [He.cT K ("law", none)], DL.toSp K 1 (K16.spLawT (He.cT K ("law", none)).2), fun p hp => by rw [List.mem_singleton.mp hp]; exact h1, fun p hp => by rw [List.mem_singleton.mp hp]; exact h2, fun p hp => by rw [List.mem_singleton.mp hp]; exact hC, hb,
      fun H a ns hl hbits hT hS => DL.law_spT hl (hT _ List.mem_cons_self) hS (DL.tab_ne (hT _ List.mem_cons_self) h2 hS) fun C hC => ⟨ns, rfl, hl, rfl, hC⟩, fun base k1 k2 k3 => hF base k1 k2 (k3 _ List.mem_cons_self)⟩
