import PyProof.Rows.All
import Wide.All
import OpenK.AllK
import Wide.FinOn
import HandS.ForMost
import HandS.ForExc
import HandS.Nested
import HandS.ExcInit
import HandS.ExcField
import HandS.CallSlots
import HandS.TryMany
import HandS.Lambda
import HandS.Defaults
import HandS.IsInst
import KE.KMathGC
import PyProof.StrLawsRepr
import HandS.TupAny
import KE.KDictPairs
import KE.SortData
import KE.SortKeyHeap
import KE.KDictSum
import HandS.EndTab
import HandS.HeadEnd
import HandS.Head0
import HandS.Head1
import HandS.Head2
import HandS.Head3
import HandS.HeadHook1
import HandS.HeadHook2
import HandS.HeadHook3
import HandS.HeadHook4
import HandS.NoneIn
import PySem.Challenge.RW_raresteps_k58_whole_crowds
set_option Elab.async false
set_option linter.all false
set_option maxRecDepth 100000
section
/-! L3: data-level rules over the hand layer: states without a heap. -/
namespace L3
open PySem PySem.Spec PyProof.Rows L2

/-- a lambda without captured names -/
structure Lam where
  q : Str
  params : Arguments
  body : Expr
  scope : Scope
/-- pure data: what never changes any more; raw: any value of the hand layer (a function, a class, an address of an own cell) -/
inductive D where
  | non | bl (b : Bool) | int (i : Int) | str (x : Str)
  | tup (xs : List D) | lst (xs : List D)
  | dK (kvs : List (Key × D)) | dT (kvs : List (List Key × D))
  | lam (L : Lam)
  | raw (v : V)
/-- what may still change, at an address that is owned -/
inductive Cell where
  | lst (xs : List D) | dK (kvs : List (Key × D)) | dT (kvs : List (List Key × D)) | obj (o : HO)
abbrev Gm := Addr → Option Cell
abbrev St3 := List (Option D)
def gset (G : Gm) (a : Addr) (c : Cell) : Gm := fun b => if b = a then some c else G b
def gdel (G : Gm) (a : Addr) : Gm := fun b => if b = a then none else G b
theorem gset_same {G : Gm} {a : Addr} {c : Cell} : gset G a c a = some c := if_pos rfl
theorem gset_ne {G : Gm} {a b : Addr} {c : Cell} (h : b ≠ a) : gset G a c b = G b := if_neg h
theorem gdel_same {G : Gm} {a : Addr} : gdel G a a = none := if_pos rfl
theorem gdel_ne {G : Gm} {a b : Addr} (h : b ≠ a) : gdel G a b = G b := if_neg h
theorem gset_gset {G : Gm} {a : Addr} {c d : Cell} : gset (gset G a c) a d = gset G a d := by
  funext b; unfold gset; split <;> rfl
theorem gdel_gset {G : Gm} {a : Addr} {c : Cell} (h : G a = none) : gdel (gset G a c) a = G := by
  funext b; unfold gset gdel
  by_cases e : b = a
  · simp [e, h]
  · simp [e]
theorem gset_comm {G : Gm} {a b : Addr} {c d : Cell} (h : a ≠ b) : gset (gset G a c) b d = gset (gset G b d) a c := by
  funext x; unfold gset
  by_cases h1 : x = b <;> by_cases h2 : x = a
  · exact absurd (h2.symm.trans h1) h
  · rw [if_pos h1, if_neg h2, if_pos h1]
  · rw [if_neg h1, if_pos h2, if_pos h2]
  · rw [if_neg h1, if_neg h2, if_neg h2, if_neg h1]
theorem gset_id {G : Gm} {a : Addr} {c : Cell} (h : G a = some c) : gset G a c = G := by
  funext b; unfold gset; split
  · rename_i e; rw [e, h]
  · rfl

def hE : Hp := fun _ => none
/-- the function object of a lambda -/
def LamO (a : Addr) (L : Lam) (c : Addr) : HO := .ext fun h => ∃ pm ctv, h.get? a = some (PySem.W.kla_obj "<lambda>" L.q L.params L.body L.scope [] pm c ctv)
def Tu (G : Gm) (H : Hp) (a : Addr) (vs : List V) : Prop := G a = none ∧ H a = some (.tup vs)
def Li (K : PySem.W.Frag) (G : Gm) (H : Hp) (a : Addr) (vs : List V) : Prop := (G a = none ∧ Rd H a (.lst vs)) ∨ SqL K hE a vs
theorem rd_hE {a : Addr} {u : HO} (h : Rd hE a u) : False := by
  rcases h with h | ⟨o, h⟩ <;> exact nomatch h
theorem Tu.sq {K : PySem.W.Frag} {G : Gm} {H : Hp} {a : Addr} {vs : List V} (h : Tu G H a vs) : SqT K H a vs := .inl (.inl h.2)
theorem Li.sq {K : PySem.W.Frag} {G : Gm} {H : Hp} {a : Addr} {vs : List V} (h : Li K G H a vs) : SqL K H a vs := by
  rcases h with ⟨_, h⟩ | h | h
  · exact .inl h
  · exact (rd_hE h).elim
  · exact .inr h
def core : HO → HO
  | .frz _ u => u
  | u => u
mutual
/-- v stands for the data d -/
inductive DV (K : PySem.W.Frag) (G : Gm) (H : Hp) : V → D → Prop
  | non : DV K G H .non .non
  | bl (b : Bool) : DV K G H (.bl b) (.bl b)
  | int (i : Int) : DV K G H (.int i) (.int i)
  | str (x : Str) : DV K G H (.str x) (.str x)
  | tup {a : Addr} {vs : List V} {ds : List D} : Tu G H a vs → DVs K G H vs ds → DV K G H (.ref a) (.tup ds)
  | lst {a : Addr} {vs : List V} {ds : List D} : Li K G H a vs → DVs K G H vs ds → DV K G H (.ref a) (.lst ds)
  | dK {a : Addr} {ws : List (Key × V)} {kvs : List (Key × D)} : G a = none → Rd H a (.dK ws) → DVk K G H ws kvs → DV K G H (.ref a) (.dK kvs)
  | dT {a : Addr} {ws : List (List Key × V)} {kvs : List (List Key × D)} : G a = none → Rd H a (.dT ws) → DVt K G H ws kvs → DV K G H (.ref a) (.dT kvs)
  | lam {a c : Addr} {L : Lam} : G a = none → H a = some (LamO a L c) → G c = none → H c = some (LamX.CodeO c L.q) → DV K G H (.ref a) (.lam L)
  | raw (v : V) : DV K G H v (.raw v)
inductive DVs (K : PySem.W.Frag) (G : Gm) (H : Hp) : List V → List D → Prop
  | nil : DVs K G H [] []
  | cons {v : V} {vs : List V} {d : D} {ds : List D} : DV K G H v d → DVs K G H vs ds → DVs K G H (v :: vs) (d :: ds)
inductive DVk (K : PySem.W.Frag) (G : Gm) (H : Hp) : List (Key × V) → List (Key × D) → Prop
  | nil : DVk K G H [] []
  | cons {k : Key} {v : V} {vs : List (Key × V)} {d : D} {ds : List (Key × D)} : DV K G H v d → DVk K G H vs ds → DVk K G H ((k, v) :: vs) ((k, d) :: ds)
inductive DVt (K : PySem.W.Frag) (G : Gm) (H : Hp) : List (List Key × V) → List (List Key × D) → Prop
  | nil : DVt K G H [] []
  | cons {k : List Key} {v : V} {vs : List (List Key × V)} {d : D} {ds : List (List Key × D)} : DV K G H v d → DVt K G H vs ds → DVt K G H ((k, v) :: vs) ((k, d) :: ds)
end
def DVo (K : PySem.W.Frag) (G : Gm) (H : Hp) : List (Option V) → St3 → Prop
  | [], [] => True
  | v :: vs, d :: ds => (∀ x, d = some x → ∃ u, v = some u ∧ DV K G H u x) ∧ DVo K G H vs ds
  | _, _ => False

def CellOk (K : PySem.W.Frag) (G : Gm) (H : Hp) (a : Addr) : Cell → Prop
  | .lst ds => ∃ vs, H a = some (.lst vs) ∧ DVs K G H vs ds
  | .dK kvs => ∃ ws, H a = some (.dK ws) ∧ DVk K G H ws kvs
  | .dT kvs => ∃ ws, H a = some (.dT ws) ∧ DVt K G H ws kvs
  | .obj o => H a = some o ∧ (∀ vs, o ≠ .tup vs) ∧ (∀ ps, o ≠ .tbl ps) ∧ ∀ φ, o ≠ .ext φ
structure R3 (K : PySem.W.Frag) (T : List (Addr × Str)) (G : Gm) (H : Hp) : Prop where
  cell : ∀ a c, G a = some c → CellOk K G H a c
  tabs : LamX.Tabs T H
/-- the same, or a dict that is locked by now -/
def Lk (o o' : HO) : Prop := o' = o ∨ (((∃ k, o = .dK k) ∨ ∃ k, o = .dT k) ∧ ∃ od, o' = .frz od o)
theorem Lk.trans {a b c : HO} (h : Lk a b) (h' : Lk b c) : Lk a c := by
  rcases h with rfl | ⟨d, od, rfl⟩
  · exact h'
  · rcases h' with rfl | ⟨d', _⟩
    · exact .inr ⟨d, od, rfl⟩
    · rcases d' with ⟨k, d'⟩ | ⟨k, d'⟩ <;> cases d'
theorem Lk.tbl {a b : HO} (h : Lk a b) (n : ∀ ps, a ≠ .tbl ps) : ∀ ps, b ≠ .tbl ps := by
  rcases h with rfl | ⟨d, od, rfl⟩
  · exact n
  · rintro ps z; cases z
/-- what is not owned stays (a dict may be locked) -/
def Keep (G : Gm) (H : Hp) (G' : Gm) (H' : Hp) : Prop := ∀ a o, G a = none → H a = some o → (∀ ps, o ≠ .tbl ps) → (∃ o', H' a = some o' ∧ Lk o o') ∧ G' a = none
theorem Keep.refl (G : Gm) (H : Hp) : Keep G H G H := fun _ _ g h n => ⟨⟨_, h, .inl rfl⟩, g⟩
theorem Keep.trans {G G1 G2 : Gm} {H H1 H2 : Hp} (a : Keep G H G1 H1) (b : Keep G1 H1 G2 H2) : Keep G H G2 H2 := fun x o g h n => by
  obtain ⟨⟨o1, h1, c1⟩, g1⟩ := a x o g h n
  obtain ⟨⟨o2, h2, c2⟩, g2⟩ := b x o1 g1 h1 (c1.tbl n)
  exact ⟨⟨o2, h2, c1.trans c2⟩, g2⟩
theorem Keep.tup {G G' : Gm} {H H' : Hp} (k : Keep G H G' H') {a : Addr} {vs : List V} (g : G a = none) (h : H a = some (.tup vs)) : H' a = some (.tup vs) ∧ G' a = none := by
  obtain ⟨⟨o', h1, l⟩, g1⟩ := k a _ g h (fun _ z => by cases z)
  rcases l with rfl | ⟨d, _⟩
  · exact ⟨h1, g1⟩
  · rcases d with ⟨k, d⟩ | ⟨k, d⟩ <;> cases d
theorem Keep.frz {G G' : Gm} {H H' : Hp} (k : Keep G H G' H') {a : Addr} {od : Obj} {u : HO} (g : G a = none) (h : H a = some (.frz od u)) : H' a = some (.frz od u) ∧ G' a = none := by
  obtain ⟨⟨o', h1, l⟩, g1⟩ := k a _ g h (fun _ z => by cases z)
  rcases l with rfl | ⟨d, _⟩
  · exact ⟨h1, g1⟩
  · rcases d with ⟨k, d⟩ | ⟨k, d⟩ <;> cases d
theorem Keep.rd {G G' : Gm} {H H' : Hp} (k : Keep G H G' H') {a : Addr} {u : HO} (g : G a = none) (h : Rd H a u) (hu : core u = u) (n : ∀ ps, u ≠ .tbl ps) : Rd H' a u ∧ G' a = none := by
  rcases h with h | ⟨o, h⟩
  · obtain ⟨⟨o', h1, l⟩, g1⟩ := k a _ g h n
    refine ⟨?_, g1⟩
    rcases l with rfl | ⟨_, od, rfl⟩
    · exact .inl h1
    · exact .inr ⟨od, h1⟩
  · obtain ⟨h1, g1⟩ := k.frz g h
    exact ⟨.inr ⟨_, h1⟩, g1⟩
theorem R3.tup_free {K : PySem.W.Frag} {T : List (Addr × Str)} {G : Gm} {H : Hp} {p : Addr} {vs : List V} (r : R3 K T G H) (h : H p = some (.tup vs)) : G p = none := by
  cases e : G p with
  | none => rfl
  | some c =>
    have q := r.cell p c e
    cases c with
    | lst ds => obtain ⟨_, z, _⟩ := q; rw [h] at z; cases z
    | dK ds => obtain ⟨_, z, _⟩ := q; rw [h] at z; cases z
    | dT ds => obtain ⟨_, z, _⟩ := q; rw [h] at z; cases z
    | obj o => have z : H p = some o := q.1; rw [h] at z; cases z; exact absurd rfl (q.2.1 vs)
theorem R3.ext_free {K : PySem.W.Frag} {T : List (Addr × Str)} {G : Gm} {H : Hp} {p : Addr} {φ : Heap → Prop} (r : R3 K T G H) (h : H p = some (.ext φ)) : G p = none := by
  cases e : G p with
  | none => rfl
  | some c =>
    have q := r.cell p c e
    cases c with
    | lst ds => obtain ⟨_, z, _⟩ := q; rw [h] at z; cases z
    | dK ds => obtain ⟨_, z, _⟩ := q; rw [h] at z; cases z
    | dT ds => obtain ⟨_, z, _⟩ := q; rw [h] at z; cases z
    | obj o => have z : H p = some o := q.1; rw [h] at z; cases z; exact absurd rfl (q.2.2.2 φ)
theorem R3.free {K : PySem.W.Frag} {T : List (Addr × Str)} {G : Gm} {H : Hp} {p : Addr} (r : R3 K T G H) (h : H p = none) : G p = none := by
  cases e : G p with
  | none => rfl
  | some c =>
    have q := r.cell p c e
    cases c with
    | lst ds => obtain ⟨_, z, _⟩ := q; rw [h] at z; cases z
    | dK ds => obtain ⟨_, z, _⟩ := q; rw [h] at z; cases z
    | dT ds => obtain ⟨_, z, _⟩ := q; rw [h] at z; cases z
    | obj o => have z : H p = some o := q.1; rw [h] at z; cases z

section
variable {K : PySem.W.Frag} {G G' : Gm} {H H' : Hp}
/-- what DV needs of a step -/
structure Kp (G : Gm) (H : Hp) (G' : Gm) (H' : Hp) : Prop where
  tup : ∀ a vs, G a = none → H a = some (.tup vs) → H' a = some (.tup vs) ∧ G' a = none
  rd : ∀ a u, G a = none → Rd H a u → ((∃ k, u = .lst k) ∨ (∃ k, u = .dK k) ∨ ∃ k, u = .dT k) → Rd H' a u ∧ G' a = none
  ext : ∀ a φ, G a = none → H a = some (.ext φ) → H' a = some (.ext φ) ∧ G' a = none
theorem Keep.ext (k : Keep G H G' H') {a : Addr} {φ : Heap → Prop} (g : G a = none) (h : H a = some (.ext φ)) : H' a = some (.ext φ) ∧ G' a = none := by
  obtain ⟨⟨o', h1, l⟩, g1⟩ := k a _ g h (fun _ z => by cases z)
  rcases l with rfl | ⟨d, _⟩
  · exact ⟨h1, g1⟩
  · rcases d with ⟨k, d⟩ | ⟨k, d⟩ <;> cases d
theorem Keep.kp (k : Keep G H G' H') : Kp G H G' H' := ⟨fun a vs g h => k.tup g h, fun a u g h hu => k.rd g h (by rcases hu with ⟨k, rfl⟩ | ⟨k, rfl⟩ | ⟨k, rfl⟩ <;> rfl) (by rcases hu with ⟨k, rfl⟩ | ⟨k, rfl⟩ | ⟨k, rfl⟩ <;> exact fun _ z => by cases z), fun a φ g h => k.ext g h⟩
theorem Tu.mono' (k : Kp G H G' H') {a : Addr} {vs : List V} (h : Tu G H a vs) : Tu G' H' a vs := ⟨(k.tup _ _ h.1 h.2).2, (k.tup _ _ h.1 h.2).1⟩
theorem Li.mono' (k : Kp G H G' H') {a : Addr} {vs : List V} (h : Li K G H a vs) : Li K G' H' a vs := by
  rcases h with ⟨g, h⟩ | h
  · obtain ⟨h1, g1⟩ := k.rd _ _ g h (by first | exact .inl ⟨_, rfl⟩ | exact .inr (.inl ⟨_, rfl⟩) | exact .inr (.inr ⟨_, rfl⟩))
    exact .inl ⟨g1, h1⟩
  · exact .inr h
mutual
theorem DV.mono' (k : Kp G H G' H') : ∀ {v : V} {d : D}, DV K G H v d → DV K G' H' v d
  | _, _, .non => .non
  | _, _, .bl b => .bl b
  | _, _, .int i => .int i
  | _, _, .str x => .str x
  | _, _, .tup t ds => .tup (t.mono' k) (DVs.mono' k ds)
  | _, _, .lst t ds => .lst (t.mono' k) (DVs.mono' k ds)
  | _, _, .dK g h ds => .dK (k.rd _ _ g h (by first | exact .inl ⟨_, rfl⟩ | exact .inr (.inl ⟨_, rfl⟩) | exact .inr (.inr ⟨_, rfl⟩))).2 (k.rd _ _ g h (by first | exact .inl ⟨_, rfl⟩ | exact .inr (.inl ⟨_, rfl⟩) | exact .inr (.inr ⟨_, rfl⟩))).1 (DVk.mono' k ds)
  | _, _, .dT g h ds => .dT (k.rd _ _ g h (by first | exact .inl ⟨_, rfl⟩ | exact .inr (.inl ⟨_, rfl⟩) | exact .inr (.inr ⟨_, rfl⟩))).2 (k.rd _ _ g h (by first | exact .inl ⟨_, rfl⟩ | exact .inr (.inl ⟨_, rfl⟩) | exact .inr (.inr ⟨_, rfl⟩))).1 (DVt.mono' k ds)
  | _, _, .lam g h g' h' => .lam (k.ext _ _ g h).2 (k.ext _ _ g h).1 (k.ext _ _ g' h').2 (k.ext _ _ g' h').1
  | _, _, .raw v => .raw v
theorem DVs.mono' (k : Kp G H G' H') : ∀ {v : List V} {d : List D}, DVs K G H v d → DVs K G' H' v d
  | _, _, .nil => .nil
  | _, _, .cons a b => .cons (DV.mono' k a) (DVs.mono' k b)
theorem DVk.mono' (k : Kp G H G' H') : ∀ {v : List (Key × V)} {d : List (Key × D)}, DVk K G H v d → DVk K G' H' v d
  | _, _, .nil => .nil
  | _, _, .cons a b => .cons (DV.mono' k a) (DVk.mono' k b)
theorem DVt.mono' (k : Kp G H G' H') : ∀ {v : List (List Key × V)} {d : List (List Key × D)}, DVt K G H v d → DVt K G' H' v d
  | _, _, .nil => .nil
  | _, _, .cons a b => .cons (DV.mono' k a) (DVt.mono' k b)
end
theorem DVo.mono' (k : Kp G H G' H') : ∀ {v : List (Option V)} {d : St3}, DVo K G H v d → DVo K G' H' v d
  | [], [], _ => trivial
  | v :: vs, d :: ds, ⟨a, b⟩ => ⟨fun x e => by obtain ⟨u, e1, q⟩ := a x e; exact ⟨u, e1, q.mono' k⟩, DVo.mono' k b⟩
  | [], _ :: _, h => h.elim
  | _ :: _, [], h => h.elim
theorem Tu.mono (k : Keep G H G' H') {a : Addr} {vs : List V} (h : Tu G H a vs) : Tu G' H' a vs := h.mono' k.kp
theorem Li.mono (k : Keep G H G' H') {a : Addr} {vs : List V} (h : Li K G H a vs) : Li K G' H' a vs := h.mono' k.kp
theorem DV.mono (k : Keep G H G' H') {v : V} {d : D} (h : DV K G H v d) : DV K G' H' v d := h.mono' k.kp
theorem DVs.mono (k : Keep G H G' H') {v : List V} {d : List D} (h : DVs K G H v d) : DVs K G' H' v d := h.mono' k.kp
theorem DVk.mono (k : Keep G H G' H') {v : List (Key × V)} {d : List (Key × D)} (h : DVk K G H v d) : DVk K G' H' v d := h.mono' k.kp
theorem DVt.mono (k : Keep G H G' H') {v : List (List Key × V)} {d : List (List Key × D)} (h : DVt K G H v d) : DVt K G' H' v d := h.mono' k.kp
theorem DVo.mono (k : Keep G H G' H') {v : List (Option V)} {d : St3} (h : DVo K G H v d) : DVo K G' H' v d := h.mono' k.kp
theorem CellOk.mono' (k : Kp G H G' H') {a : Addr} {c : Cell} (e : H' a = H a) (h : CellOk K G H a c) : CellOk K G' H' a c := by
  cases c with
  | lst ds => obtain ⟨vs, h1, h2⟩ := h; exact ⟨vs, e.trans h1, h2.mono' k⟩
  | dK ds => obtain ⟨vs, h1, h2⟩ := h; exact ⟨vs, e.trans h1, h2.mono' k⟩
  | dT ds => obtain ⟨vs, h1, h2⟩ := h; exact ⟨vs, e.trans h1, h2.mono' k⟩
  | obj o => exact ⟨e.trans h.1, h.2⟩
theorem CellOk.mono (k : Keep G H G' H') {a : Addr} {c : Cell} (e : H' a = H a) (h : CellOk K G H a c) : CellOk K G' H' a c := h.mono' k.kp e
theorem DVs.length {vs : List V} {ds : List D} (h : DVs K G H vs ds) : vs.length = ds.length := by
  induction ds generalizing vs with
  | nil => cases h; rfl
  | cons d ds ih => cases h with | cons a b => simp [ih b]
theorem DVs.get {vs : List V} {ds : List D} (h : DVs K G H vs ds) {i : Nat} {d : D} (e : ds[i]? = some d) : ∃ v, vs[i]? = some v ∧ DV K G H v d := by
  induction ds generalizing vs i with
  | nil => simp at e
  | cons d0 ds ih =>
    cases h with
    | cons a b =>
      cases i with
      | zero => simp at e; subst e; exact ⟨_, rfl, a⟩
      | succ i => simpa using ih b (by simpa using e)
theorem DVs.get' {vs : List V} {ds : List D} (h : DVs K G H vs ds) {i : Nat} {v : V} (e : vs[i]? = some v) : ∃ d, ds[i]? = some d ∧ DV K G H v d := by
  induction ds generalizing vs i with
  | nil => cases h; simp at e
  | cons d0 ds ih =>
    cases h with
    | cons a b =>
      cases i with
      | zero => simp at e; subst e; exact ⟨_, rfl, a⟩
      | succ i => simpa using ih b (by simpa using e)
theorem DVs.append {vs us : List V} {ds es : List D} (h : DVs K G H vs ds) (h' : DVs K G H us es) : DVs K G H (vs ++ us) (ds ++ es) := by
  induction ds generalizing vs with
  | nil => cases h; exact h'
  | cons d ds ih => cases h with | cons a b => exact .cons a (ih b)
theorem DVs.drop {vs : List V} {ds : List D} (h : DVs K G H vs ds) (n : Nat) : DVs K G H (vs.drop n) (ds.drop n) := by
  induction n generalizing vs ds with
  | zero => exact h
  | succ n ih => cases h with
    | nil => exact .nil
    | cons a b => exact ih b
theorem DVs.take {vs : List V} {ds : List D} (h : DVs K G H vs ds) (n : Nat) : DVs K G H (vs.take n) (ds.take n) := by
  induction n generalizing vs ds with
  | zero => exact .nil
  | succ n ih => cases h with
    | nil => exact .nil
    | cons a b => exact .cons a (ih b)
theorem DVo.get {vs : List (Option V)} {σ : St3} (h : DVo K G H vs σ) {i : Nat} {d : D} (e : σ[i]? = some (some d)) : ∃ v, vs[i]? = some (some v) ∧ DV K G H v d := by
  induction σ generalizing vs i with
  | nil => simp at e
  | cons d0 ds ih =>
    cases vs with
    | nil => exact h.elim
    | cons v vs =>
      cases i with
      | zero => simp at e; obtain ⟨u, e1, q⟩ := h.1 d e; subst e1; exact ⟨u, rfl, q⟩
      | succ i => simpa using ih h.2 (by simpa using e)
theorem DVo.set {vs : List (Option V)} {σ : St3} (h : DVo K G H vs σ) {v : V} {d : D} (q : DV K G H v d) (i : Nat) : DVo K G H (vs.set i (some v)) (σ.set i (some d)) := by
  induction σ generalizing vs i with
  | nil => cases vs with
    | nil => trivial
    | cons _ _ => exact h.elim
  | cons d0 ds ih =>
    cases vs with
    | nil => exact h.elim
    | cons v0 vs =>
      cases i with
      | zero => exact ⟨fun x e => by cases e; exact ⟨v, rfl, q⟩, h.2⟩
      | succ i => exact ⟨h.1, ih h.2 i⟩
theorem DVo.weak {vs : List (Option V)} {σ : St3} (h : DVo K G H vs σ) (i : Nat) : DVo K G H vs (σ.set i none) := by
  induction σ generalizing vs i with
  | nil => exact h
  | cons d0 ds ih =>
    cases vs with
    | nil => exact h.elim
    | cons v0 vs =>
      cases i with
      | zero => exact ⟨fun x e => (by cases e), h.2⟩
      | succ i => exact ⟨h.1, ih h.2 i⟩
end

/-! ### new objects, writes -/
section
variable {K : PySem.W.Frag} {T : List (Addr × Str)} {G : Gm} {H : Hp} {p : Addr}
theorem keep_new {o : HO} (h : H p = none) : Keep G H G (upd H p o) := fun a u g e _ => ⟨⟨u, by rw [upd_ne (ne_of_none e h)]; exact e, .inl rfl⟩, g⟩
theorem keep_own {o : HO} {c : Cell} (h : H p = none) : Keep G H (gset G p c) (upd H p o) := fun a u g e _ => ⟨⟨u, by rw [upd_ne (ne_of_none e h)]; exact e, .inl rfl⟩, by rw [gset_ne (ne_of_none e h)]; exact g⟩
theorem keep_write {o : HO} {c : Cell} (h : G p ≠ none) : Keep G H (gset G p c) (upd H p o) := fun a u g e _ => by
  have n : a ≠ p := fun z => h (by rw [← z]; exact g)
  exact ⟨⟨u, by rw [upd_ne n]; exact e, .inl rfl⟩, by rw [gset_ne n]; exact g⟩
theorem keep_del : Keep G H (gdel G p) H := fun a u g e _ => by
  refine ⟨⟨u, e, .inl rfl⟩, ?_⟩
  unfold gdel
  split
  · rfl
  · exact g
theorem tabs_upd {o : HO} (t : LamX.Tabs T H) (h : ∀ u, H p = some u → (∀ ps, u ≠ .tbl ps) ∧ (∀ φ, u ≠ .ext φ)) : LamX.Tabs T (upd H p o) := fun q hq => by
  obtain ⟨ps, h1, h2, h3⟩ := t q hq
  refine ⟨ps, by rw [upd_ne (fun z => (h (.tbl ps) (by rw [← z]; exact h1)).1 ps rfl)]; exact h1, h2, fun pos cv hc => ?_⟩
  obtain ⟨c, e1, e2⟩ := h3 pos cv hc
  exact ⟨c, e1, by rw [upd_ne (fun z => (h _ (by rw [← z]; exact e2)).2 _ rfl)]; exact e2⟩
theorem R3.new {o : HO} (r : R3 K T G H) (h : H p = none) : R3 K T G (upd H p o) :=
  ⟨fun a c e => (r.cell a c e).mono (keep_new h) (upd_ne (fun z => by subst z; rw [r.free h] at e; cases e)), tabs_upd r.tabs fun u e => by rw [h] at e; cases e⟩
theorem R3.own {o : HO} {c : Cell} (r : R3 K T G H) (h : H p = none) (hc : CellOk K (gset G p c) (upd H p o) p c) : R3 K T (gset G p c) (upd H p o) :=
  ⟨fun a c' e => by
    by_cases z : a = p
    · subst z; rw [gset_same] at e; cases e; exact hc
    · rw [gset_ne z] at e; exact (r.cell a c' e).mono (keep_own h) (upd_ne z), tabs_upd r.tabs fun u e => by rw [h] at e; cases e⟩
theorem R3.write {o : HO} {c : Cell} (r : R3 K T G H) (h : G p ≠ none) (hp : ∀ u, H p = some u → (∀ ps, u ≠ .tbl ps) ∧ (∀ φ, u ≠ .ext φ)) (hc : CellOk K (gset G p c) (upd H p o) p c) : R3 K T (gset G p c) (upd H p o) :=
  ⟨fun a c' e => by
    by_cases z : a = p
    · subst z; rw [gset_same] at e; cases e; exact hc
    · rw [gset_ne z] at e; exact (r.cell a c' e).mono (keep_write h) (upd_ne z), tabs_upd r.tabs hp⟩
theorem R3.del (r : R3 K T G H) : R3 K T (gdel G p) H :=
  ⟨fun a c e => by
    by_cases z : a = p
    · subst z; rw [gdel_same] at e; cases e
    · rw [gdel_ne z] at e; exact (r.cell a c e).mono keep_del rfl, r.tabs⟩
/-! ### a dict locked, unlocked -/
def isDc (u : HO) : Prop := (∃ k, u = .dK k) ∨ ∃ k, u = .dT k
theorem keep_lock {u : HO} {od : Obj} (hu : isDc u) (h : H p = some u) (g : G p = none) : Keep G H G (upd H p (.frz od u)) := fun a o ga e _ => by
  refine ⟨?_, ga⟩
  by_cases z : a = p
  · subst z; rw [h] at e; cases e; exact ⟨_, upd_same, .inr ⟨hu, od, rfl⟩⟩
  · exact ⟨o, by rw [upd_ne z]; exact e, .inl rfl⟩
theorem R3.lock {u : HO} {od : Obj} (r : R3 K T G H) (hu : isDc u) (h : H p = some u) (g : G p = none) : R3 K T G (upd H p (.frz od u)) :=
  ⟨fun a c e => by
    have z : a ≠ p := fun z => by subst z; rw [g] at e; cases e
    exact (r.cell a c e).mono (keep_lock hu h g) (upd_ne z), tabs_upd r.tabs fun v e => by
    rw [h] at e; cases e
    rcases hu with ⟨k, rfl⟩ | ⟨k, rfl⟩ <;> exact ⟨fun _ z => (by cases z), fun _ z => (by cases z)⟩⟩
theorem kp_unlock {u : HO} {od : Obj} (hu : isDc u) (h : H p = some (.frz od u)) : Kp G H G (upd H p u) := by
  refine ⟨fun a vs g e => ⟨?_, g⟩, fun a v g e hv => ⟨?_, g⟩, fun a φ g e => ⟨by
    have z : a ≠ p := fun z => by subst z; rw [h] at e; cases e
    rw [upd_ne z]; exact e, g⟩⟩
  · have z : a ≠ p := fun z => by subst z; rw [h] at e; cases e
    rw [upd_ne z]; exact e
  · by_cases z : a = p
    · subst z
      rcases e with e | ⟨o, e⟩
      · rw [h] at e; cases e
        rcases hv with ⟨k, z⟩ | ⟨k, z⟩ | ⟨k, z⟩ <;> cases z
      · rw [h] at e; cases e; exact .inl upd_same
    · rcases e with e | ⟨o, e⟩
      · exact .inl (by rw [upd_ne z]; exact e)
      · exact .inr ⟨o, by rw [upd_ne z]; exact e⟩
theorem R3.unlock {u : HO} {od : Obj} (r : R3 K T G H) (hu : isDc u) (h : H p = some (.frz od u)) (g : G p = none) : R3 K T G (upd H p u) :=
  ⟨fun a c e => by
    have z : a ≠ p := fun z => by subst z; rw [g] at e; cases e
    exact (r.cell a c e).mono' (kp_unlock hu h) (upd_ne z), tabs_upd r.tabs fun v e => by
    rw [h] at e; cases e
    exact ⟨fun _ z => (by cases z), fun _ z => (by cases z)⟩⟩
theorem keep_through {G' : Gm} {H' : Hp} {u : HO} {od : Obj} (h : H p = some u) (g : G p = none) (k : Keep G (upd H p (.frz od u)) G' H') : Keep G H G' (upd H' p u) := fun a o ga e n => by
  by_cases z : a = p
  · subst z
    rw [h] at e; cases e
    exact ⟨⟨_, upd_same, .inl rfl⟩, (k.frz g upd_same).2⟩
  · obtain ⟨⟨o', h1, l⟩, g1⟩ := k a o ga (by rw [upd_ne z]; exact e) n
    exact ⟨⟨o', by rw [upd_ne z]; exact h1, l⟩, g1⟩
end
end L3
end
section
/-! L3, the judgements and the rules of expressions and statements. -/
namespace L3
open PySem PySem.Spec PyProof.Rows L2

/-! ### canonical readings -/
section
variable (X : Cx)
def wE (e : Expr) : TE := fun σ H Q => ∀ (pins : List (Addr × Obj)) (s : Shared), Inv X pins σ H s → wpAny (model X.prog X.w) X.A (eval e X.env) (EP X pins σ Q) X.xe s
def wT (e : Expr) : TT := fun σ H Q => ∀ (pins : List (Addr × Obj)) (s : Shared), Inv X pins σ H s → wpAny (model X.prog X.w) X.A (isTrue e X.env (eval e X.env)) (TP X pins σ Q) X.xe s
def wW (e : Expr) : TT := fun σ H Q => ∀ (whole : Sem Value) (pins : List (Addr × Obj)) (s : Shared), Inv X pins σ H s → wpAny (model X.prog X.w) X.A (isTrue e X.env whole) (TP X pins σ Q) X.xe s
def wA (es : List Expr) : TA := fun σ H Q => ∀ (pos : Pos) (pins : List (Addr × Obj)) (s : Shared), Inv X pins σ H s → wpAny (model X.prog X.w) X.A (spliced (backTo pos (starEach es X.env))) (AP X pins σ Q) X.xe s
def wS (st : Stmt) : TS := fun D σ H => ∀ (pins : List (Addr × Obj)) (s : Shared), Inv X pins σ H s → wpAny (model X.prog X.w) X.A (exec st X.env) (SP X pins D) X.xe s
def wB (st : List Stmt) : TS := fun D σ H => ∀ (pins : List (Addr × Obj)) (s : Shared), Inv X pins σ H s → wpAny (model X.prog X.w) X.A (execs st X.env) (SP X pins D) X.xe s
def wG (tg : Expr) : TG := fun v σ H Q => ∀ (pins : List (Addr × Obj)) (s : Shared) (u : Value), Inv X pins σ H s → RelV v u → wpAny (model X.prog X.w) X.A (assign tg X.env u) (fun _ s' => ∃ σ' H', Inv X pins σ' H' s' ∧ Q σ' H') X.xe s
def wGs (ts : List Expr) : TGs := fun vs σ H Q => ∀ (pins : List (Addr × Obj)) (s : Shared) (us : List Value), Inv X pins σ H s → Vals vs us → wpAny (model X.prog X.w) X.A (assignInOrder ((assignEach ts X.env).map (·.2)) us) (fun _ s' => ∃ σ' H', Inv X pins σ' H' s' ∧ Q σ' H') X.xe s
def wI (tg iter : Expr) : TI := fun σ H R => ∀ (pins : List (Addr × Obj)) (s : Shared), Inv X pins σ H s →
  wpAny (model X.prog X.w) X.A (eval iter X.env) (fun v s1 => wpAny (model X.prog X.w) X.A (pyIter v) (PIE X pins σ tg R) X.xe s1) X.xe s
end
section
variable {X : Cx} {e : Expr} {es : List Expr} {st : Stmt} {sts : List Stmt}
theorem cE : PE X e (wE X e) := ⟨fun pins s _ _ _ I h => h pins s I⟩
theorem cT : PT X e (wT X e) := ⟨fun pins s _ _ _ I h => h pins s I⟩
theorem cW : PW X e (wW X e) := ⟨fun w pins s _ _ _ I h => h w pins s I⟩
theorem cA : PA X es (wA X es) := ⟨fun pos pins s _ _ _ I h => h pos pins s I⟩
theorem cS : PS X st (wS X st) := ⟨fun pins s _ _ _ I h => h pins s I⟩
theorem cB : PSs X sts (wB X sts) := ⟨fun pins s _ _ _ I h => h pins s I⟩
theorem cG {tg : Expr} : PG X tg (wG X tg) := ⟨fun pins s _ _ _ u _ I r h => h pins s u I r⟩
theorem cGs {tg : List Expr} : PGs X tg (wGs X tg) := ⟨fun pins s _ _ _ u _ I r h => h pins s u I r⟩
theorem cI {tg iter : Expr} : PI X tg iter (wI X tg iter) := ⟨fun pins s _ _ _ I h => h pins s I⟩
variable {σ : L2.St} {H : Hp}
theorem wE.mono {Q Q' : VK} (h : wE X e σ H Q) (k : ∀ v H', Q v H' → Q' v H') : wE X e σ H Q' := fun pins s I =>
  thn (h pins s I) fun u s' ⟨v, H', I', r, q⟩ => ⟨v, H', I', r, k v H' q⟩
theorem wT.mono {Q Q' : Bool → Hp → Prop} (h : wT X e σ H Q) (k : ∀ v H', Q v H' → Q' v H') : wT X e σ H Q' := fun pins s I =>
  thn (h pins s I) fun u s' ⟨H', I', q⟩ => ⟨H', I', k _ H' q⟩
theorem wW.mono {Q Q' : Bool → Hp → Prop} (h : wW X e σ H Q) (k : ∀ v H', Q v H' → Q' v H') : wW X e σ H Q' := fun w pins s I =>
  thn (h w pins s I) fun u s' ⟨H', I', q⟩ => ⟨H', I', k _ H' q⟩
theorem wA.mono {Q Q' : List V → Hp → Prop} (h : wA X es σ H Q) (k : ∀ v H', Q v H' → Q' v H') : wA X es σ H Q' := fun pos pins s I =>
  thn (h pos pins s I) fun u s' ⟨v, H', I', r, q⟩ => ⟨v, H', I', r, k v H' q⟩
structure EndsLe (D D' : Ends) : Prop where
  nx : ∀ σ H, D.nx σ H → D'.nx σ H
  rt : ∀ v H, D.rt v H → D'.rt v H
  bk : ∀ σ H, D.bk σ H → D'.bk σ H
  ct : ∀ σ H, D.ct σ H → D'.ct σ H
theorem SP.le {pins : List (Addr × Obj)} {D D' : Ends} (k : EndsLe D D') {f : Flow} {s' : Shared} (h : SP X pins D f s') : SP X pins D' f s' := by
  cases f with
  | next => obtain ⟨σ', H', I, q⟩ := h; exact ⟨σ', H', I, k.nx _ _ q⟩
  | brk => obtain ⟨σ', H', I, q⟩ := h; exact ⟨σ', H', I, k.bk _ _ q⟩
  | cont => obtain ⟨σ', H', I, q⟩ := h; exact ⟨σ', H', I, k.ct _ _ q⟩
  | ret u => obtain ⟨v, σ', H', I, r, q⟩ := h; exact ⟨v, σ', H', I, r, k.rt _ _ q⟩
theorem wS.mono {D D' : Ends} (h : wS X st D σ H) (k : EndsLe D D') : wS X st D' σ H := fun pins s I => thn (h pins s I) fun u s' q => SP.le k q
theorem wB.mono {D D' : Ends} (h : wB X sts D σ H) (k : EndsLe D D') : wB X sts D' σ H := fun pins s I => thn (h pins s I) fun u s' q => SP.le k q
theorem wG.mono {tg : Expr} {v : V} {Q Q' : L2.St → Hp → Prop} (h : wG X tg v σ H Q) (k : ∀ v H', Q v H' → Q' v H') : wG X tg v σ H Q' := fun pins s u I r =>
  thn (h pins s u I r) fun _ s' ⟨v, H', I', q⟩ => ⟨v, H', I', k v H' q⟩
theorem wGs.mono {tg : List Expr} {v : List V} {Q Q' : L2.St → Hp → Prop} (h : wGs X tg v σ H Q) (k : ∀ v H', Q v H' → Q' v H') : wGs X tg v σ H Q' := fun pins s u I r =>
  thn (h pins s u I r) fun _ s' ⟨v, H', I', q⟩ => ⟨v, H', I', k v H' q⟩
theorem wI.mono {tg iter : Expr} {R R' : It → Hp → Prop} (h : wI X tg iter σ H R) (k : ∀ v H', R v H' → R' v H') : wI X tg iter σ H R' := fun pins s I =>
  thn (h pins s I) fun _ s1 h1 => thn h1 fun _ s2 ⟨it, fp, tn, J, H', a, b, c, d, e, q⟩ => ⟨it, fp, tn, J, H', a, b, c, d, e, k J H' q⟩
theorem wE_of {t : TE} {Q : VK} (h : PE X e t) (q : t σ H Q) : wE X e σ H Q := fun pins s I => h.run pins s σ H Q I q
theorem wT_of {t : TT} {Q : Bool → Hp → Prop} (h : PT X e t) (q : t σ H Q) : wT X e σ H Q := fun pins s I => h.run pins s σ H Q I q
theorem wW_of {t : TT} {Q : Bool → Hp → Prop} (h : PW X e t) (q : t σ H Q) : wW X e σ H Q := fun w pins s I => h.run w pins s σ H Q I q
theorem wA_of {t : TA} {Q : List V → Hp → Prop} (h : PA X es t) (q : t σ H Q) : wA X es σ H Q := fun pos pins s I => h.run pos pins s σ H Q I q
theorem wS_of {t : TS} {D : Ends} (h : PS X st t) (q : t D σ H) : wS X st D σ H := fun pins s I => h.run pins s σ H D I q
theorem wB_of {t : TS} {D : Ends} (h : PSs X sts t) (q : t D σ H) : wB X sts D σ H := fun pins s I => h.run pins s σ H D I q
theorem wG_of {tg : Expr} {t : TG} {v : V} {Q : L2.St → Hp → Prop} (h : PG X tg t) (q : t v σ H Q) : wG X tg v σ H Q := fun pins s u I r => h.run pins s σ H v u Q I r q
theorem wGs_of {tg : List Expr} {t : TGs} {v : List V} {Q : L2.St → Hp → Prop} (h : PGs X tg t) (q : t v σ H Q) : wGs X tg v σ H Q := fun pins s u I r => h.run pins s σ H v u Q I r q
theorem wI_of {tg iter : Expr} {t : TI} {R : It → Hp → Prop} (h : PI X tg iter t) (q : t σ H R) : wI X tg iter σ H R := fun pins s I => h.run pins s σ H R I q
end

/-! ### states without a heap -/
abbrev Org := Gm × Hp
structure Pre (K : PySem.W.Frag) (T : List (Addr × Str)) (O : Org) (σ : St3) (G : Gm) (vs : L2.St) (H : Hp) : Prop where
  r : R3 K T G H
  k : Keep O.1 O.2 G H
  d : DVo K G H vs σ
section
variable (K : PySem.W.Frag) (T : List (Addr × Str)) (G : Gm) (H : Hp)
def upE (Q : D → Gm → Prop) : VK := fun v H' => ∃ d G', R3 K T G' H' ∧ Keep G H G' H' ∧ DV K G' H' v d ∧ Q d G'
def upT (Q : Bool → Gm → Prop) : Bool → Hp → Prop := fun b H' => ∃ G', R3 K T G' H' ∧ Keep G H G' H' ∧ Q b G'
def upA (Q : List D → Gm → Prop) : List V → Hp → Prop := fun vs H' => ∃ ds G', R3 K T G' H' ∧ Keep G H G' H' ∧ DVs K G' H' vs ds ∧ Q ds G'
def upS (Q : St3 → Gm → Prop) : L2.St → Hp → Prop := fun vs H' => ∃ σ' G', R3 K T G' H' ∧ Keep G H G' H' ∧ DVo K G' H' vs σ' ∧ Q σ' G'
/-- what a loop walks: the data ds, as long as C holds of what is owned -/
def Yields (J : It) (G1 : Gm) (H1 : Hp) (ds : List D) (C : Gm → Prop) : Prop := ∀ G' H', C G' → R3 K T G' H' → Keep G1 H1 G' H' →
  (∀ i d, ds[i]? = some d → J.go i H' ∧ ∀ x H'', J.yld i H' x H'' → R3 K T G' H'' ∧ Keep G' H' G' H'' ∧ DV K G' H'' x d) ∧ J.stop ds.length H'
def upI (Q : List D → (Gm → Prop) → Gm → Prop) : It → Hp → Prop := fun J H' => ∃ ds C G', R3 K T G' H' ∧ Keep G H G' H' ∧ Yields K T J G' H' ds C ∧ Q ds C G'
end
structure Ends3 where
  nx : St3 → Gm → Prop
  rt : D → Gm → Prop
  bk : St3 → Gm → Prop := fun _ _ => False
  ct : St3 → Gm → Prop := fun _ _ => False
def down (K : PySem.W.Frag) (T : List (Addr × Str)) (G : Gm) (H : Hp) (D : Ends3) : Ends := ⟨upS K T G H D.nx, upE K T G H D.rt, upS K T G H D.bk, upS K T G H D.ct⟩
section
variable (T : List (Addr × Str)) (O : Org) (X : Cx)
def xE (e : Expr) (σ : St3) (G : Gm) (Q : D → Gm → Prop) : Prop := ∀ vs H, Pre X.K T O σ G vs H → wE X e vs H (upE X.K T G H Q)
def xT (e : Expr) (σ : St3) (G : Gm) (Q : Bool → Gm → Prop) : Prop := ∀ vs H, Pre X.K T O σ G vs H → wT X e vs H (upT X.K T G H Q)
def xW (e : Expr) (σ : St3) (G : Gm) (Q : Bool → Gm → Prop) : Prop := ∀ vs H, Pre X.K T O σ G vs H → wW X e vs H (upT X.K T G H Q)
def xA (es : List Expr) (σ : St3) (G : Gm) (Q : List D → Gm → Prop) : Prop := ∀ vs H, Pre X.K T O σ G vs H → wA X es vs H (upA X.K T G H Q)
def xS (st : Stmt) (D : Ends3) (σ : St3) (G : Gm) : Prop := ∀ vs H, Pre X.K T O σ G vs H → wS X st (down X.K T G H D) vs H
def xB (st : List Stmt) (D : Ends3) (σ : St3) (G : Gm) : Prop := ∀ vs H, Pre X.K T O σ G vs H → wB X st (down X.K T G H D) vs H
def xG (tg : Expr) (d : D) (σ : St3) (G : Gm) (Q : St3 → Gm → Prop) : Prop := ∀ v vs H, Pre X.K T O σ G vs H → DV X.K G H v d → wG X tg v vs H (upS X.K T G H Q)
def xGs (tg : List Expr) (d : List D) (σ : St3) (G : Gm) (Q : St3 → Gm → Prop) : Prop := ∀ v vs H, Pre X.K T O σ G vs H → DVs X.K G H v d → wGs X tg v vs H (upS X.K T G H Q)
def xI (tg iter : Expr) (σ : St3) (G : Gm) (Q : List D → (Gm → Prop) → Gm → Prop) : Prop := ∀ vs H, Pre X.K T O σ G vs H → wI X tg iter vs H (upI X.K T G H Q)
end
section
variable {K : PySem.W.Frag} {T : List (Addr × Str)} {O : Org} {X : Cx} {σ : St3} {G G1 : Gm} {vs : L2.St} {H H1 : Hp}
theorem Pre.step (p : Pre K T O σ G vs H) (r : R3 K T G1 H1) (k : Keep G H G1 H1) : Pre K T O σ G1 vs H1 := ⟨r, p.k.trans k, p.d.mono k⟩
theorem Pre.at (p : Pre K T O σ G vs H) : Pre K T (G, H) σ G vs H := ⟨p.r, .refl _ _, p.d⟩
theorem upE.mk {Q : D → Gm → Prop} {v : V} {d : D} (r : R3 K T G1 H1) (k : Keep G H G1 H1) (dv : DV K G1 H1 v d) (q : Q d G1) : upE K T G H Q v H1 := ⟨d, G1, r, k, dv, q⟩
theorem upE.tr {Q : D → Gm → Prop} {v : V} {H2 : Hp} (k : Keep G H G1 H1) (h : upE K T G1 H1 Q v H2) : upE K T G H Q v H2 := let ⟨d, G', r, k', dv, q⟩ := h; ⟨d, G', r, k.trans k', dv, q⟩
theorem upT.tr {Q : Bool → Gm → Prop} {v : Bool} {H2 : Hp} (k : Keep G H G1 H1) (h : upT K T G1 H1 Q v H2) : upT K T G H Q v H2 := let ⟨G', r, k', q⟩ := h; ⟨G', r, k.trans k', q⟩
theorem upA.tr {Q : List D → Gm → Prop} {v : List V} {H2 : Hp} (k : Keep G H G1 H1) (h : upA K T G1 H1 Q v H2) : upA K T G H Q v H2 := let ⟨d, G', r, k', dv, q⟩ := h; ⟨d, G', r, k.trans k', dv, q⟩
theorem upS.tr {Q : St3 → Gm → Prop} {v : L2.St} {H2 : Hp} (k : Keep G H G1 H1) (h : upS K T G1 H1 Q v H2) : upS K T G H Q v H2 := let ⟨d, G', r, k', dv, q⟩ := h; ⟨d, G', r, k.trans k', dv, q⟩
theorem upI.tr {Q : List D → (Gm → Prop) → Gm → Prop} {v : It} {H2 : Hp} (k : Keep G H G1 H1) (h : upI K T G1 H1 Q v H2) : upI K T G H Q v H2 := let ⟨d, C, G', r, k', y, q⟩ := h; ⟨d, C, G', r, k.trans k', y, q⟩
theorem down.tr {D : Ends3} (k : Keep G H G1 H1) : EndsLe (down K T G1 H1 D) (down K T G H D) := ⟨fun _ _ h => h.tr k, fun _ _ h => h.tr k, fun _ _ h => h.tr k, fun _ _ h => h.tr k⟩

variable {e : Expr} {es : List Expr} {st : Stmt} {sts : List Stmt}
theorem xE.run {R : D → Gm → Prop} (h : xE T O X e σ G R) (p : Pre X.K T O σ G vs H) {Q : VK} (k : ∀ v H1 d G1, Pre X.K T O σ G1 vs H1 → Keep G H G1 H1 → DV X.K G1 H1 v d → R d G1 → Q v H1) : wE X e vs H Q :=
  (h vs H p).mono fun v H1 ⟨d, G1, r, k1, dv, q⟩ => k v H1 d G1 (p.step r k1) k1 dv q
theorem xT.run {R : Bool → Gm → Prop} (h : xT T O X e σ G R) (p : Pre X.K T O σ G vs H) {Q : Bool → Hp → Prop} (k : ∀ b H1 G1, Pre X.K T O σ G1 vs H1 → Keep G H G1 H1 → R b G1 → Q b H1) : wT X e vs H Q :=
  (h vs H p).mono fun v H1 ⟨G1, r, k1, q⟩ => k v H1 G1 (p.step r k1) k1 q
theorem xW.run {R : Bool → Gm → Prop} (h : xW T O X e σ G R) (p : Pre X.K T O σ G vs H) {Q : Bool → Hp → Prop} (k : ∀ b H1 G1, Pre X.K T O σ G1 vs H1 → Keep G H G1 H1 → R b G1 → Q b H1) : wW X e vs H Q :=
  (h vs H p).mono fun v H1 ⟨G1, r, k1, q⟩ => k v H1 G1 (p.step r k1) k1 q
theorem xA.run {R : List D → Gm → Prop} (h : xA T O X es σ G R) (p : Pre X.K T O σ G vs H) {Q : List V → Hp → Prop} (k : ∀ v H1 d G1, Pre X.K T O σ G1 vs H1 → Keep G H G1 H1 → DVs X.K G1 H1 v d → R d G1 → Q v H1) : wA X es vs H Q :=
  (h vs H p).mono fun v H1 ⟨d, G1, r, k1, dv, q⟩ => k v H1 d G1 (p.step r k1) k1 dv q
theorem xG.run {tg : Expr} {x : D} {v : V} {R : St3 → Gm → Prop} (h : xG T O X tg x σ G R) (p : Pre X.K T O σ G vs H) (dv : DV X.K G H v x) {Q : L2.St → Hp → Prop} (k : ∀ us H1 σ1 G1, Pre X.K T O σ1 G1 us H1 → Keep G H G1 H1 → R σ1 G1 → Q us H1) : wG X tg v vs H Q :=
  (h v vs H p dv).mono fun us H1 ⟨d, G1, r, k1, dv, q⟩ => k us H1 d G1 ⟨r, p.k.trans k1, dv⟩ k1 q
theorem xGs.run {tg : List Expr} {x : List D} {v : List V} {R : St3 → Gm → Prop} (h : xGs T O X tg x σ G R) (p : Pre X.K T O σ G vs H) (dv : DVs X.K G H v x) {Q : L2.St → Hp → Prop} (k : ∀ us H1 σ1 G1, Pre X.K T O σ1 G1 us H1 → Keep G H G1 H1 → R σ1 G1 → Q us H1) : wGs X tg v vs H Q :=
  (h v vs H p dv).mono fun us H1 ⟨d, G1, r, k1, dv, q⟩ => k us H1 d G1 ⟨r, p.k.trans k1, dv⟩ k1 q
theorem xE.imp {Q Q' : D → Gm → Prop} (h : xE T O X e σ G Q) (k : ∀ d G', Q d G' → Q' d G') : xE T O X e σ G Q' := fun vs H p => (h vs H p).mono fun _ _ ⟨d, G', a, b, c, q⟩ => ⟨d, G', a, b, c, k d G' q⟩
theorem xT.imp {Q Q' : Bool → Gm → Prop} (h : xT T O X e σ G Q) (k : ∀ d G', Q d G' → Q' d G') : xT T O X e σ G Q' := fun vs H p => (h vs H p).mono fun _ _ ⟨G', a, b, q⟩ => ⟨G', a, b, k _ G' q⟩
theorem xA.imp {Q Q' : List D → Gm → Prop} (h : xA T O X es σ G Q) (k : ∀ d G', Q d G' → Q' d G') : xA T O X es σ G Q' := fun vs H p => (h vs H p).mono fun _ _ ⟨d, G', a, b, c, q⟩ => ⟨d, G', a, b, c, k d G' q⟩
structure Le3 (D D' : Ends3) : Prop where
  nx : ∀ σ G, D.nx σ G → D'.nx σ G
  rt : ∀ v G, D.rt v G → D'.rt v G
  bk : ∀ σ G, D.bk σ G → D'.bk σ G
  ct : ∀ σ G, D.ct σ G → D'.ct σ G
theorem down.le {D D' : Ends3} (k : Le3 D D') : EndsLe (down K T G H D) (down K T G H D') :=
  ⟨fun _ _ ⟨d, G', a, b, c, q⟩ => ⟨d, G', a, b, c, k.nx _ _ q⟩, fun _ _ ⟨d, G', a, b, c, q⟩ => ⟨d, G', a, b, c, k.rt _ _ q⟩, fun _ _ ⟨d, G', a, b, c, q⟩ => ⟨d, G', a, b, c, k.bk _ _ q⟩, fun _ _ ⟨d, G', a, b, c, q⟩ => ⟨d, G', a, b, c, k.ct _ _ q⟩⟩
theorem xS.imp {D D' : Ends3} (h : xS T O X st D σ G) (k : Le3 D D') : xS T O X st D' σ G := fun vs H p => (h vs H p).mono (down.le k)
theorem xB.imp {D D' : Ends3} (h : xB T O X sts D σ G) (k : Le3 D D') : xB T O X sts D' σ G := fun vs H p => (h vs H p).mono (down.le k)

/-! ### leaves: operations on values -/
/-- what follows a value, at any state that keeps what is known -/
def Then3 (K : PySem.W.Frag) (T : List (Addr × Str)) (G : Gm) (H : Hp) (Q : D → Gm → Prop) (Qv : VK) : Prop := ∀ v H' d G', R3 K T G' H' → Keep G H G' H' → DV K G' H' v d → Q d G' → Qv v H'
def O3 (K : PySem.W.Frag) (T : List (Addr × Str)) (r : R2) (x y : D) (G : Gm) (Q : D → Gm → Prop) : Prop := ∀ vx vy H (Qv : VK), R3 K T G H → DV K G H vx x → DV K G H vy y → Then3 K T G H Q Qv → r vx vy H Qv
def U3 (K : PySem.W.Frag) (T : List (Addr × Str)) (r : V → Hp → VK → Prop) (x : D) (G : Gm) (Q : D → Gm → Prop) : Prop := ∀ vx H (Qv : VK), R3 K T G H → DV K G H vx x → Then3 K T G H Q Qv → r vx H Qv
def C3 (K : PySem.W.Frag) (T : List (Addr × Str)) (r : List V → Hp → VK → Prop) (x : List D) (G : Gm) (Q : D → Gm → Prop) : Prop := ∀ vx H (Qv : VK), R3 K T G H → DVs K G H vx x → Then3 K T G H Q Qv → r vx H Qv
def M3 (K : PySem.W.Frag) (T : List (Addr × Str)) (r : V → List V → Hp → VK → Prop) (x : D) (xs : List D) (G : Gm) (Q : D → Gm → Prop) : Prop := ∀ v vx H (Qv : VK), R3 K T G H → DV K G H v x → DVs K G H vx xs → Then3 K T G H Q Qv → r v vx H Qv
theorem then3 {Q : D → Gm → Prop} (k : Keep G H G1 H1) : Then3 K T G1 H1 Q (upE K T G H Q) := fun v H' d G' r k' dv q => ⟨d, G', r, k.trans k', dv, q⟩
theorem then3B {Q : Bool → Gm → Prop} (k : Keep G H G1 H1) : Then3 K T G1 H1 (fun d G' => ∃ b, d = .bl b ∧ Q b G') (fun x H' => ∃ b, x = .bl b ∧ upT K T G H Q b H') := fun v H' d G' r k' dv ⟨b, e, q⟩ => by
  subst e
  cases dv
  exact ⟨b, rfl, G', r, k.trans k', q⟩
end
end L3
end
section
/-! L3, rules: expressions. -/
namespace L3
open PySem PySem.Spec PyProof.Rows L2
section
variable {T : List (Addr × Str)} {O : Org} {X : Cx} {σ : St3} {G : Gm} {a b c e : Expr} {es : List Expr} {pos : Pos} {Q : D → Gm → Prop}

/-! ### names and constants -/
theorem r_var (i : Nat) {x : Str} {d : D} (hN : X.N[i]? = some x ∧ (x == ("__debug__" : Str)) = false ∧ (x == ("__classdict__" : Str)) = false) (hv : Vis X.env.scope x) (hσ : σ[i]? = some (some d)) (q : Q d G) : xE T O X (.Name x pos) σ G Q := fun vs H p => by
  obtain ⟨v, e, dv⟩ := p.d.get hσ
  exact wE_of (pe_var hN.1 hv hN.2.1 hN.2.2) ⟨v, e, d, G, p.r, .refl _ _, dv, q⟩
theorem r_int {i j} (q : Q (.int i) G) : xE T O X (.Constant (.int i) j pos) σ G Q := fun vs H p => wE_of pe_int (show upE X.K T G H Q _ H from ⟨_, G, p.r, .refl _ _, .int i, q⟩)
theorem r_bl {i j} (q : Q (.bl i) G) : xE T O X (.Constant (.bool i) j pos) σ G Q := fun vs H p => wE_of pe_bl (show upE X.K T G H Q _ H from ⟨_, G, p.r, .refl _ _, .bl i, q⟩)
theorem r_non {j} (q : Q .non G) : xE T O X (.Constant .none j pos) σ G Q := fun vs H p => wE_of pe_non (show upE X.K T G H Q _ H from ⟨_, G, p.r, .refl _ _, .non, q⟩)
theorem r_str {i j} (q : Q (.str i) G) : xE T O X (.Constant (.str i) j pos) σ G Q := fun vs H p => wE_of pe_str (show upE X.K T G H Q _ H from ⟨_, G, p.r, .refl _ _, .str i, q⟩)
theorem r_glob {x : Str} {v : V} {u : Value} (hg : Gl X x) (hm : X.mg x = some u) (r : RelV v u) (q : Q (.raw v) G) (hd : (x == ("__debug__" : Str)) = false := by decide) : xE T O X (.Name x pos) σ G Q := fun vs H p =>
  wE_of (pe_glob hg hm r hd) (show upE X.K T G H Q _ H from ⟨_, G, p.r, .refl _ _, .raw v, q⟩)
theorem r_bltn {x : Str} {v : V} {u : Value} (hg : Gl X x) (hm : X.mg x = none) (hv : bootBuiltins x = some u) (r : RelV v u) (q : Q (.raw v) G) (hn : x ≠ "__name__" := by decide) (hd : (x == ("__debug__" : Str)) = false := by decide) : xE T O X (.Name x pos) σ G Q := fun vs H p =>
  wE_of (pe_bltn hg hm hv r hn hd) (show upE X.K T G H Q _ H from ⟨_, G, p.r, .refl _ _, .raw v, q⟩)

/-! ### operators -/
theorem r_op {op : Operator} {r : R2} (ho : OpR X (binaryOp op) r) (h : xE T O X a σ G fun x G1 => xE T O X b σ G1 fun y G2 => O3 X.K T r x y G2 Q) : xE T O X (.BinOp a op b pos) σ G Q := fun vs H p => by
  refine wE_of (pe_op ho cE cE) ?_
  refine h.run p fun x H1 d G1 p1 k1 dx h1 => ?_
  refine h1.run p1 fun y H2 d2 G2 p2 k2 dy h2 => ?_
  exact h2 _ _ _ _ p2.r (dx.mono k2) dy (then3 (k1.trans k2))
theorem r_cmp {op : CmpOp} {r : R2} (ho : OpR X (compareOp op) r) (hm : behindInMarks op b = false) (h : xE T O X a σ G fun x G1 => xE T O X b σ G1 fun y G2 => O3 X.K T r x y G2 Q) : xE T O X (.Compare a [op] [b] pos) σ G Q := fun vs H p => by
  refine wE_of (pe_cmpR ho cE cE hm) ?_
  refine h.run p fun x H1 d G1 p1 k1 dx h1 => ?_
  refine h1.run p1 fun y H2 d2 G2 p2 k2 dy h2 => ?_
  exact h2 _ _ _ _ p2.r (dx.mono k2) dy (then3 (k1.trans k2))
theorem r_un {op : UnaryOp} {r : V → Hp → VK → Prop} (ho : UnR X (unaryOp op) r) (h : xE T O X a σ G fun x G1 => U3 X.K T r x G1 Q) : xE T O X (.UnaryOp op a pos) σ G Q := fun vs H p => by
  refine wE_of (pe_un ho cE) ?_
  exact h.run p fun x H1 d G1 p1 k1 dx h1 => h1 _ _ _ p1.r dx (then3 k1)
/-- a < b < c -/
theorem r_chain {op op' : CmpOp} {r r' : R2} (ho : OpR X (compareOp op) r) (ho' : OpR X (compareOp op') r') (h : xE T O X a σ G fun x G1 => xE T O X b σ G1 fun y G2 => O3 X.K T r x y G2 fun d G3 => ∃ k, d = .bl k ∧ (k = true → xE T O X c σ G3 fun z G4 => O3 X.K T r' y z G4 Q) ∧ (k = false → Q (.bl false) G3))
    (hl : lastMarks [op, op'] [b, c] = false := by rfl) : xE T O X (.Compare a [op, op'] [b, c] pos) σ G Q := fun vs H p => by
  refine wE_of (pe_chain ho ho' cE cE cE hl) ?_
  refine h.run p fun x H1 d G1 p1 k1 dx h1 => ?_
  refine h1.run p1 fun y H2 d2 G2 p2 k2 dy h2 => ?_
  refine h2 _ _ _ _ p2.r (dx.mono k2) dy fun v H3 d3 G3 r3 k3 dv q3 => ?_
  obtain ⟨k, e, q1, q2⟩ := q3
  subst e
  cases dv
  refine ⟨k, rfl, ?_⟩
  cases k with
  | true =>
    refine iteT ?_
    refine (q1 rfl).run (p2.step r3 k3) fun z H4 d4 G4 p4 k4 dz h4 => ?_
    exact h4 _ _ _ _ p4.r ((dy.mono k3).mono k4) dz (then3 (((k1.trans k2).trans k3).trans k4))
  | false => exact iteF ⟨_, G3, r3, (k1.trans k2).trans k3, .bl _, q2 rfl⟩

/-! ### tests -/
section
variable {Q : Bool → Gm → Prop}
theorem t_cmp {op : CmpOp} {r : R2} (ho : OpR X (compareOp op) r) (hm : behindInMarks op b = false) (h : xE T O X a σ G fun x G1 => xE T O X b σ G1 fun y G2 => O3 X.K T r x y G2 fun d G3 => ∃ k, d = .bl k ∧ Q k G3) : xT T O X (.Compare a [op] [b] pos) σ G Q := fun vs H p => by
  refine wT_of (pt_cmpR ho cE cE hm) ?_
  refine h.run p fun x H1 d G1 p1 k1 dx h1 => ?_
  refine h1.run p1 fun y H2 d2 G2 p2 k2 dy h2 => ?_
  exact h2 _ _ _ _ p2.r (dx.mono k2) dy (then3B (k1.trans k2))
theorem t_chain {op op' : CmpOp} {r r' : R2} (ho : OpR X (compareOp op) r) (ho' : OpR X (compareOp op') r') (h : xE T O X a σ G fun x G1 => xE T O X b σ G1 fun y G2 => O3 X.K T r x y G2 fun d G3 => ∃ k, d = .bl k ∧ (k = true → xE T O X c σ G3 fun z G4 => O3 X.K T r' y z G4 fun d G5 => ∃ k, d = .bl k ∧ Q k G5) ∧ (k = false → Q false G3))
    (hl : lastMarks [op, op'] [b, c] = false := by rfl) : xT T O X (.Compare a [op, op'] [b, c] pos) σ G Q := fun vs H p => by
  refine wT_of (pt_chain ho ho' cE cE cE hl) ?_
  refine h.run p fun x H1 d G1 p1 k1 dx h1 => ?_
  refine h1.run p1 fun y H2 d2 G2 p2 k2 dy h2 => ?_
  refine h2 _ _ _ _ p2.r (dx.mono k2) dy fun v H3 d3 G3 r3 k3 dv q3 => ?_
  obtain ⟨k, e, q1, q2⟩ := q3
  subst e
  cases dv
  refine ⟨k, rfl, ?_⟩
  cases k with
  | true =>
    refine iteT ?_
    refine (q1 rfl).run (p2.step r3 k3) fun z H4 d4 G4 p4 k4 dz h4 => ?_
    exact h4 _ _ _ _ p4.r ((dy.mono k3).mono k4) dz (then3B (((k1.trans k2).trans k3).trans k4))
  | false => exact iteF ⟨false, rfl, G3, r3, (k1.trans k2).trans k3, q2 rfl⟩
/-- an expression that gives True or False -/
theorem t_val (h : xE T O X e σ G fun d G1 => ∃ k, d = .bl k ∧ Q k G1) (he : ∀ whole, isTrue e X.env whole = (do let v ← whole; standAt e.pos; holding [v] (truthy v)) := by intro _; rfl) : xT T O X e σ G Q := fun vs H p => by
  refine wT_of (pt_val cE he) ?_
  refine h.run p fun x H1 d G1 p1 k1 dx ⟨k, e, q⟩ => ?_
  subst e
  cases dx
  exact ⟨k, rfl, G1, p1.r, k1, q⟩
/-- truth of data -/
def truD (G : Gm) : D → Bool → Prop
  | .non, k => k = false
  | .bl b, k => k = b
  | .int i, k => k = (i != 0)
  | .str x, k => x.length ≤ sizeLine ∧ k = ((x.length : Int) != 0)
  | .tup ds, k => k = !ds.isEmpty
  | .lst ds, k => k = !ds.isEmpty
  | .raw (.ref p), k => ∃ ds, G p = some (.lst ds) ∧ k = !ds.isEmpty
  | _, _ => False
theorem DVs.isEmpty {K : PySem.W.Frag} {H : Hp} {vs : List V} {ds : List D} (h : DVs K G H vs ds) : vs.isEmpty = ds.isEmpty := by cases h <;> rfl
theorem t_truth (h : xE T O X e σ G fun d G1 => ∃ k, truD G1 d k ∧ Q k G1) (he : ∀ whole, isTrue e X.env whole = (do let v ← whole; standAt e.pos; holding [v] (truthy v)) := by intro _; rfl) : xT T O X e σ G Q := fun vs H p => by
  refine wT_of (pt_truth cE he) ?_
  refine h.run p fun x H1 d G1 p1 k1 dx ⟨k, t, q⟩ => ?_
  refine ⟨k, ?_, G1, p1.r, k1, q⟩
  cases dx with
  | non => exact t
  | bl b => exact t
  | int i => exact t
  | str x => exact t
  | tup tu ds => exact .inr (.inl ⟨_, tu.sq, t.trans (by rw [ds.isEmpty])⟩)
  | lst tu ds => exact .inl ⟨_, tu.sq, t.trans (by rw [ds.isEmpty])⟩
  | dK _ _ _ => exact t.elim
  | dT _ _ _ => exact t.elim
  | lam _ _ _ _ => exact t.elim
  | raw v =>
    cases x with
    | ref p =>
      obtain ⟨ds, e, t⟩ := t
      obtain ⟨ws, h1, h2⟩ := p1.r.cell p _ e
      exact .inl ⟨ws, .inl (.inl h1), t.trans (by rw [h2.isEmpty])⟩
    | _ => exact t.elim
theorem t_not (h : xT T O X a σ G fun k G1 => Q (!k) G1) : xT T O X (.UnaryOp .Not a pos) σ G Q := fun vs H p =>
  wT_of (pt_not cT) (h.run p fun b H1 G1 p1 k1 q => ⟨G1, p1.r, k1, q⟩)
theorem t_and {rest : List Expr} (h : xT T O X a σ G fun k G1 => (k = true → xW T O X (.BoolOp .And (b :: rest) pos) σ G1 Q) ∧ (k = false → Q false G1)) : xW T O X (.BoolOp .And (a :: b :: rest) pos) σ G Q := fun vs H p => by
  refine wW_of (pw_and cT cW) ?_
  refine h.run p fun k H1 G1 p1 k1 q => ?_
  cases k with
  | true => exact iteT ((q.1 rfl).run p1 fun k2 H2 G2 p2 k2' q2 => ⟨G2, p2.r, k1.trans k2', q2⟩)
  | false => exact iteF ⟨G1, p1.r, k1, q.2 rfl⟩
theorem t_or {rest : List Expr} (h : xT T O X a σ G fun k G1 => (k = false → xW T O X (.BoolOp .Or (b :: rest) pos) σ G1 Q) ∧ (k = true → Q true G1)) : xW T O X (.BoolOp .Or (a :: b :: rest) pos) σ G Q := fun vs H p => by
  refine wW_of (pw_or cT cW) ?_
  refine h.run p fun k H1 G1 p1 k1 q => ?_
  cases k with
  | false => exact iteF ((q.1 rfl).run p1 fun k2 H2 G2 p2 k2' q2 => ⟨G2, p2.r, k1.trans k2', q2⟩)
  | true => exact iteT ⟨G1, p1.r, k1, q.2 rfl⟩
theorem t_and1 (h : xT T O X a σ G Q) : xW T O X (.BoolOp .And [a] pos) σ G Q := fun vs H p => wW_of (pw_and1 cT) (h vs H p)
theorem t_or1 (h : xT T O X a σ G Q) : xW T O X (.BoolOp .Or [a] pos) σ G Q := fun vs H p => wW_of (pw_or1 cT) (h vs H p)
theorem t_w (h : xW T O X e σ G Q) : xT T O X e σ G Q := fun vs H p => fun pins s I => h vs H p _ pins s I
end

/-! ### bool operators as values -/
theorem r_and {rest : List Expr} (h : xE T O X a σ G fun d G1 => ∃ k, d = .bl k ∧ (k = true → xE T O X (.BoolOp .And (b :: rest) pos) σ G1 Q) ∧ (k = false → Q (.bl false) G1)) : xE T O X (.BoolOp .And (a :: b :: rest) pos) σ G Q := fun vs H p => by
  refine wE_of (pe_and cE cE) ?_
  refine h.run p fun x H1 d G1 p1 k1 dx ⟨k, e, q1, q2⟩ => ?_
  subst e
  cases dx
  refine ⟨k, rfl, ?_⟩
  cases k with
  | true => exact iteT ((q1 rfl).run p1 fun y H2 d2 G2 p2 k2 dy q => ⟨d2, G2, p2.r, k1.trans k2, dy, q⟩)
  | false => exact iteF ⟨_, G1, p1.r, k1, .bl _, q2 rfl⟩
theorem r_or {rest : List Expr} (h : xE T O X a σ G fun d G1 => ∃ k, d = .bl k ∧ (k = false → xE T O X (.BoolOp .Or (b :: rest) pos) σ G1 Q) ∧ (k = true → Q (.bl true) G1)) : xE T O X (.BoolOp .Or (a :: b :: rest) pos) σ G Q := fun vs H p => by
  refine wE_of (pe_or cE cE) ?_
  refine h.run p fun x H1 d G1 p1 k1 dx ⟨k, e, q1, q2⟩ => ?_
  subst e
  cases dx
  refine ⟨k, rfl, ?_⟩
  cases k with
  | false => exact iteF ((q1 rfl).run p1 fun y H2 d2 G2 p2 k2 dy q => ⟨d2, G2, p2.r, k1.trans k2, dy, q⟩)
  | true => exact iteT ⟨_, G1, p1.r, k1, .bl _, q2 rfl⟩
theorem r_one {op} (h : xE T O X a σ G Q) : xE T O X (.BoolOp op [a] pos) σ G Q := fun vs H p => wE_of (pe_one cE) (h vs H p)
theorem r_not (h : xE T O X a σ G fun d G1 => ∃ k, d = .bl k ∧ Q (.bl (!k)) G1) : xE T O X (.UnaryOp .Not a pos) σ G Q := fun vs H p => by
  refine wE_of (pe_not cE) ?_
  refine h.run p fun x H1 d G1 p1 k1 dx ⟨k, e, q⟩ => ?_
  subst e
  cases dx
  exact ⟨k, rfl, _, G1, p1.r, k1, .bl _, q⟩
theorem r_if (h : xT T O X c σ G fun k G1 => (k = true → xE T O X a σ G1 Q) ∧ (k = false → xE T O X b σ G1 Q)) : xE T O X (.IfExp c a b pos) σ G Q := fun vs H p => by
  refine wE_of (pe_ifExp cT cE cE) ?_
  refine h.run p fun k H1 G1 p1 k1 q => ?_
  cases k with
  | true => exact iteT ((q.1 rfl).run p1 fun y H2 d2 G2 p2 k2 dy q => ⟨d2, G2, p2.r, k1.trans k2, dy, q⟩)
  | false => exact iteF ((q.2 rfl).run p1 fun y H2 d2 G2 p2 k2 dy q => ⟨d2, G2, p2.r, k1.trans k2, dy, q⟩)

/-! ### argument lists, tuples, lists -/
theorem a_nil {Q : List D → Gm → Prop} (q : Q [] G) : xA T O X [] σ G Q := fun vs H p => wA_of pa_nil (show upA X.K T G H Q [] H from ⟨[], G, p.r, .refl _ _, .nil, q⟩)
theorem a_cons {Q : List D → Gm → Prop} (h : xE T O X e σ G fun d G1 => xA T O X es σ G1 fun ds G2 => Q (d :: ds) G2) (hs : starEach (e :: es) X.env = (false, eval e X.env) :: starEach es X.env := by rfl) : xA T O X (e :: es) σ G Q := fun vs H p => by
  refine wA_of (pa_cons cE cA hs) ?_
  refine h.run p fun x H1 d G1 p1 k1 dx h1 => ?_
  exact h1.run p1 fun xs H2 ds G2 p2 k2 dxs q => ⟨d :: ds, G2, p2.r, k1.trans k2, .cons (dx.mono k2) dxs, q⟩
theorem r_tup {x1} (h : xA T O X es σ G fun ds G1 => ds.length ≤ sizeLine ∧ Q (.tup ds) G1) : xE T O X (.Tuple es x1 pos) σ G Q := fun vs H p => by
  refine wE_of (pe_tup cA) ?_
  refine h.run p fun xs H1 ds G1 p1 k1 dxs ⟨hl, q⟩ => ⟨by rw [dxs.length]; exact hl, fun a ha => ?_⟩
  have k2 := keep_new (G := G1) (o := .tup xs) ha
  exact ⟨.tup ds, G1, p1.r.new ha, k1.trans k2, .tup ⟨p1.r.free ha, upd_same⟩ (dxs.mono k2), q⟩
/-- a list that is not changed any more -/
theorem r_lst (h : xA T O X es σ G fun ds G1 => ds.length ≤ sizeLine ∧ Q (.lst ds) G1) : xE T O X (.List es pos) σ G Q := fun vs H p => by
  refine wE_of (pe_lst cA) ?_
  refine h.run p fun xs H1 ds G1 p1 k1 dxs ⟨hl, q⟩ => ⟨by rw [dxs.length]; exact hl, fun a ha => ?_⟩
  have k2 := keep_new (G := G1) (o := .lst xs) ha
  exact ⟨.lst ds, G1, p1.r.new ha, k1.trans k2, .lst (.inl ⟨p1.r.free ha, .inl upd_same⟩) (dxs.mono k2), q⟩
/-- a list that is owned -/
theorem r_lstO (h : xA T O X es σ G fun ds G1 => ds.length ≤ sizeLine ∧ ∀ a, G1 a = none → Q (.raw (.ref a)) (gset G1 a (.lst ds))) : xE T O X (.List es pos) σ G Q := fun vs H p => by
  refine wE_of (pe_lst cA) ?_
  refine h.run p fun xs H1 ds G1 p1 k1 dxs ⟨hl, q⟩ => ⟨by rw [dxs.length]; exact hl, fun a ha => ?_⟩
  have k2 := keep_own (G := G1) (o := .lst xs) (c := .lst ds) ha
  exact ⟨_, _, p1.r.own (c := .lst ds) ha ⟨xs, upd_same, dxs.mono k2⟩, k1.trans k2, .raw _, q a (p1.r.free ha)⟩

/-! ### calls of built-ins, methods -/
theorem r_callB {x : Str} {id : String} {r : List V → Hp → VK → Prop} {p : Pos} (hc : CallR X (.builtin id) r) (hg : Gl X x) (hm : X.mg x = none) (hv : bootBuiltins x = some (.builtin id)) (h : xA T O X (e :: es) σ G fun ds G1 => C3 X.K T r ds G1 Q)
    (hn : x ≠ "__name__" := by decide) (hdb : (x == ("__debug__" : Str)) = false := by decide) (he : starEach (e :: es) X.env = (false, eval e X.env) :: starEach es X.env := by rfl) (hpl : (backTo pos (starEach es X.env)).any (·.1) = false := by rfl) :
    xE T O X (.Call (.Name x p) (e :: es) [] pos) σ G Q := fun vs H pr => by
  refine wE_of (pe_callB hc hg hm hv cA hn hdb he hpl) ?_
  exact h.run pr fun xs H1 ds G1 p1 k1 dxs q => q _ _ _ p1.r dxs (then3 k1)
theorem r_callTy {x : Str} {id : String} {r : List V → Hp → VK → Prop} {p : Pos} (hc : CallR X (.type id) r) (hg : Gl X x) (hm : X.mg x = none) (hv : bootBuiltins x = some (.type id)) (h : xA T O X (e :: es) σ G fun ds G1 => C3 X.K T r ds G1 Q)
    (hn : x ≠ "__name__" := by decide) (hdb : (x == ("__debug__" : Str)) = false := by decide) (he : starEach (e :: es) X.env = (false, eval e X.env) :: starEach es X.env := by rfl) (hpl : (backTo pos (starEach es X.env)).any (·.1) = false := by rfl) :
    xE T O X (.Call (.Name x p) (e :: es) [] pos) σ G Q := fun vs H pr => by
  refine wE_of (pe_callTy hc hg hm hv cA hn hdb he hpl) ?_
  exact h.run pr fun xs H1 ds G1 p1 k1 dxs q => q _ _ _ p1.r dxs (then3 k1)

/-! ### subscripts -/
theorem r_ix {r : R2} (hr : IxR X r) (hs : PlainIx b) (h : xE T O X a σ G fun x G1 => xE T O X b σ G1 fun y G2 => O3 X.K T r x y G2 Q) : xE T O X (.Subscript a b pos) σ G Q := fun vs H p => by
  refine wE_of (pe_ix hr cE cE hs) ?_
  refine h.run p fun x H1 d G1 p1 k1 dx h1 => ?_
  refine h1.run p1 fun y H2 d2 G2 p2 k2 dy h2 => ?_
  exact h2 _ _ _ _ p2.r (dx.mono k2) dy (then3 (k1.trans k2))
end
end L3
end
section
/-! L3, rules: leaves, subscripts, dicts. -/
namespace L3
open PySem PySem.Spec PyProof.Rows L2
section
variable {T : List (Addr × Str)} {O : Org} {X : Cx} {σ : St3} {G : Gm} {Q : D → Gm → Prop} {K : PySem.W.Frag}
/-! ### ints -/
theorem o_int0 {g : Int → Int → Int} {i j : Int} (q : Q (.int (g i j)) G) : O3 K T (rI0 fun i j => .int (g i j)) (.int i) (.int j) G Q := fun vx vy H Qv r dx dy k => by
  cases dx; cases dy
  exact ⟨i, j, rfl, rfl, k _ _ _ _ r (.refl _ _) (.int _) q⟩
theorem o_int {C : Int → Int → Prop} {g : Int → Int → Int} {i j : Int} (q : Q (.int (g i j)) G) (hc : C i j) : O3 K T (rI C fun i j => .int (g i j)) (.int i) (.int j) G Q := fun vx vy H Qv r dx dy k => by
  cases dx; cases dy
  exact ⟨i, j, rfl, rfl, hc, k _ _ _ _ r (.refl _ _) (.int _) q⟩
theorem o_bl0 {g : Int → Int → Bool} {i j : Int} (q : Q (.bl (g i j)) G) : O3 K T (rI0 fun i j => .bl (g i j)) (.int i) (.int j) G Q := fun vx vy H Qv r dx dy k => by
  cases dx; cases dy
  exact ⟨i, j, rfl, rfl, k _ _ _ _ r (.refl _ _) (.bl _) q⟩
theorem u_int {g : Int → Int} {i : Int} (q : Q (.int (g i)) G) : U3 K T (rU fun i => .int (g i)) (.int i) G Q := fun vx H Qv r dx k => by
  cases dx
  exact ⟨i, rfl, k _ _ _ _ r (.refl _ _) (.int _) q⟩
/-- flat values compared -/
def flatD : D → Option V
  | .non => some .non
  | .bl b => some (.bl b)
  | .int i => some (.int i)
  | .str x => some (.str x)
  | _ => none
theorem flat_dv {H : Hp} {x : D} {u v : V} (e : flatD x = some u) (dv : DV K G H v x) : v = u := by
  cases x <;> first | (cases e; cases dv; rfl) | cases e
theorem o_eq {x y : D} {u v : V} (hx : flatD x = some u) (hy : flatD y = some v) (q : Q (.bl (decide (u = v))) G) (hs : scal u v = true) : O3 K T rEq x y G Q := fun vx vy H Qv r dx dy k => by
  rw [flat_dv hx dx, flat_dv hy dy]
  exact ⟨hs, k _ _ _ _ r (.refl _ _) (.bl _) q⟩
theorem o_ne {x y : D} {u v : V} (hx : flatD x = some u) (hy : flatD y = some v) (q : Q (.bl (!decide (u = v))) G) (hs : scal u v = true) : O3 K T rNe x y G Q := fun vx vy H Qv r dx dy k => by
  rw [flat_dv hx dx, flat_dv hy dy]
  exact ⟨hs, k _ _ _ _ r (.refl _ _) (.bl _) q⟩
def rIsN : R2 := fun x y H Q => y = .non ∧ Q (.bl (decide (x = .non))) H
def rNotN : R2 := fun x y H Q => y = .non ∧ Q (.bl (!decide (x = .non))) H
theorem op_isN1 {X : Cx} : OpR X (compareOp .Is) rIsN := op_isN
theorem op_notN1 {X : Cx} : OpR X (compareOp .IsNot) rNotN := op_notN
def isNonD : D → Bool
  | .non => true
  | .raw .non => true
  | _ => false
theorem isNon_dv {H : Hp} {x : D} {v : V} (dv : DV K G H v x) : decide (v = .non) = isNonD x := by
  cases dv with
  | raw v => cases v <;> rfl
  | _ => rfl
theorem o_isN {x : D} (q : Q (.bl (isNonD x)) G) : O3 K T rIsN x .non G Q := fun vx vy H Qv r dx dy k => by
  cases dy
  exact ⟨rfl, by rw [isNon_dv dx]; exact k _ _ _ _ r (.refl _ _) (.bl _) q⟩
theorem o_notN {x : D} (q : Q (.bl (!isNonD x)) G) : O3 K T rNotN x .non G Q := fun vx vy H Qv r dx dy k => by
  cases dy
  exact ⟨rfl, by rw [isNon_dv dx]; exact k _ _ _ _ r (.refl _ _) (.bl _) q⟩
/-! ### texts -/
def rAddS3 : R2 := fun x y H Q => ∃ i j, x = .str i ∧ y = .str j ∧ i.length + j.length ≤ sizeLine ∧ Q (.str (i ++ j)) H
theorem op_addS {X : Cx} : OpR X (binaryOp .Add) rAddS3 := op_add_str
theorem o_addS {x y : Str} (q : Q (.str (x ++ y)) G) (h : x.length + y.length ≤ sizeLine) : O3 K T rAddS3 (.str x) (.str y) G Q := fun vx vy H Qv r dx dy k => by
  cases dx; cases dy
  exact ⟨x, y, rfl, rfl, h, k _ _ _ _ r (.refl _ _) (.str _) q⟩
/-! ### tuples and lists added -/
theorem o_catT {xs ys : List D} (q : Q (.tup (xs ++ ys)) G) (h : xs.length + ys.length ≤ sizeLine) (hx : xs ≠ []) : O3 K T (rCatT K) (.tup xs) (.tup ys) G Q := fun vx vy H Qv r dx dy k => by
  cases dx with
  | tup tx dxs =>
    cases dy with
    | tup ty dys =>
      refine ⟨_, _, _, _, rfl, rfl, tx.sq, ty.sq, ?_, by rw [dxs.length, dys.length]; exact h, fun e => ?_, fun _ p hp => ?_⟩
      · intro e; subst e; cases dxs; exact hx rfl
      · subst e; cases dys
        exact k _ _ _ _ r (.refl _ _) (by rw [List.append_nil]; exact .tup tx dxs) q
      · exact k _ _ _ _ (r.new hp) (keep_new hp) (.tup ⟨r.free hp, upd_same⟩ ((dxs.append dys).mono (keep_new hp))) q

/-! ### keys -/
/-- data as a key -/
def keyD : D → Option Key
  | .int i => some (.inl i)
  | .str x => some (.inr x)
  | _ => none
def keysD : List D → Option (List Key)
  | [] => some []
  | d :: ds => match keyD d, keysD ds with
    | some k, some ks => some (k :: ks)
    | _, _ => none
def dK1 : Key → D
  | .inl i => .int i
  | .inr x => .str x
theorem key_dv {H : Hp} {x : D} {k : Key} {v : V} (e : keyD x = some k) (dv : DV K G H v x) : v = kV k := by
  cases x <;> first | (cases e; cases dv; rfl) | cases e
theorem keys_dv {H : Hp} : ∀ {x : List D} {k : List Key} {v : List V}, keysD x = some k → DVs K G H v x → v = k.map kV
  | [], _, _, e, dv => by cases e; cases dv; rfl
  | d :: ds, k, v, e, dv => by
    cases dv with
    | cons a b =>
      unfold keysD at e
      split at e
      · rename_i k1 ks e1 e2
        cases e
        rw [key_dv e1 a, keys_dv e2 b]
        rfl
      · cases e
def lookD {κ : Type} [DecidableEq κ] (kvs : List (κ × D)) (k : κ) : Option D := (kvs.find? fun kv => decide (kv.1 = k)).map (·.2)
theorem dvk_look {H : Hp} {ws : List (Key × V)} {kvs : List (Key × D)} (h : DVk K G H ws kvs) (k : Key) : (∃ v d, valV ws k = some v ∧ lookD kvs k = some d ∧ DV K G H v d) ∨ (valV ws k = none ∧ lookD kvs k = none) := by
  induction kvs generalizing ws with
  | nil => cases h; exact .inr ⟨rfl, rfl⟩
  | cons d ds ih =>
    cases h with
    | @cons k' v vs d' ds' a b =>
      by_cases e : k' = k
      · refine .inl ⟨v, d', ?_, ?_, a⟩
        · unfold valV; simp [e]
        · unfold lookD; simp [e]
      · rcases ih b with ⟨v2, d2, h1, h2, h3⟩ | ⟨h1, h2⟩
        · refine .inl ⟨v2, d2, ?_, ?_, h3⟩
          · unfold valV at h1 ⊢; simpa [e] using h1
          · unfold lookD at h2 ⊢; simpa [e] using h2
        · refine .inr ⟨?_, ?_⟩
          · unfold valV at h1 ⊢; simpa [e] using h1
          · unfold lookD at h2 ⊢; simpa [e] using h2
theorem dvt_look {H : Hp} {ws : List (List Key × V)} {kvs : List (List Key × D)} (h : DVt K G H ws kvs) (k : List Key) : (∃ v d, valV ws k = some v ∧ lookD kvs k = some d ∧ DV K G H v d) ∨ (valV ws k = none ∧ lookD kvs k = none) := by
  induction kvs generalizing ws with
  | nil => cases h; exact .inr ⟨rfl, rfl⟩
  | cons d ds ih =>
    cases h with
    | @cons k' v vs d' ds' a b =>
      by_cases e : k' = k
      · refine .inl ⟨v, d', ?_, ?_, a⟩
        · unfold valV; simp [e]
        · unfold lookD; simp [e]
      · rcases ih b with ⟨v2, d2, h1, h2, h3⟩ | ⟨h1, h2⟩
        · refine .inl ⟨v2, d2, ?_, ?_, h3⟩
          · unfold valV at h1 ⊢; simpa [e] using h1
          · unfold lookD at h2 ⊢; simpa [e] using h2
        · refine .inr ⟨?_, ?_⟩
          · unfold valV at h1 ⊢; simpa [e] using h1
          · unfold lookD at h2 ⊢; simpa [e] using h2
def putD {κ : Type} [DecidableEq κ] (l : List (κ × D)) (k : κ) (d : D) : List (κ × D) :=
  if (l.any fun p => decide (p.1 = k)) = true then l.map (fun p => if p.1 = k then (p.1, d) else p) else l ++ [(k, d)]
theorem dvk_any {H : Hp} {ws : List (Key × V)} {l : List (Key × D)} (h : DVk K G H ws l) (k : Key) : (ws.any fun p => decide (p.1 = k)) = (l.any fun p => decide (p.1 = k)) := by
  induction l generalizing ws with
  | nil => cases h; rfl
  | cons d ds ih => cases h with | cons a b => simp [ih b]
theorem dvt_any {H : Hp} {ws : List (List Key × V)} {l : List (List Key × D)} (h : DVt K G H ws l) (k : List Key) : (ws.any fun p => decide (p.1 = k)) = (l.any fun p => decide (p.1 = k)) := by
  induction l generalizing ws with
  | nil => cases h; rfl
  | cons d ds ih => cases h with | cons a b => simp [ih b]
theorem DVk.append {H : Hp} {ws us : List (Key × V)} {l m : List (Key × D)} (h : DVk K G H ws l) (h' : DVk K G H us m) : DVk K G H (ws ++ us) (l ++ m) := by
  induction l generalizing ws with
  | nil => cases h; exact h'
  | cons d ds ih => cases h with | cons a b => exact .cons a (ih b)
theorem DVt.append {H : Hp} {ws us : List (List Key × V)} {l m : List (List Key × D)} (h : DVt K G H ws l) (h' : DVt K G H us m) : DVt K G H (ws ++ us) (l ++ m) := by
  induction l generalizing ws with
  | nil => cases h; exact h'
  | cons d ds ih => cases h with | cons a b => exact .cons a (ih b)
theorem DVk.mapPut {H : Hp} {ws : List (Key × V)} {l : List (Key × D)} (h : DVk K G H ws l) {v : V} {d : D} (dv : DV K G H v d) (k : Key) : DVk K G H (ws.map (fun p => if p.1 = k then (p.1, v) else p)) (l.map (fun p => if p.1 = k then (p.1, d) else p)) := by
  induction l generalizing ws with
  | nil => cases h; exact .nil
  | cons e ds ih =>
    cases h with
    | @cons k' v' vs d' ds' a b =>
      simp only [List.map_cons]
      by_cases q : k' = k
      · rw [if_pos q, if_pos q]; exact .cons dv (ih b)
      · rw [if_neg q, if_neg q]; exact .cons a (ih b)
theorem DVk.put {H : Hp} {ws : List (Key × V)} {l : List (Key × D)} (h : DVk K G H ws l) {v : V} {d : D} (dv : DV K G H v d) (k : Key) : DVk K G H (putK ws k v) (putD l k d) := by
  unfold putK putD
  rw [dvk_any h k]
  split
  · exact h.mapPut dv k
  · exact h.append (.cons dv .nil)
theorem DVt.mapPut {H : Hp} {ws : List (List Key × V)} {l : List (List Key × D)} (h : DVt K G H ws l) {v : V} {d : D} (dv : DV K G H v d) (k : List Key) : DVt K G H (ws.map (fun p => if p.1 = k then (p.1, v) else p)) (l.map (fun p => if p.1 = k then (p.1, d) else p)) := by
  induction l generalizing ws with
  | nil => cases h; exact .nil
  | cons e ds ih =>
    cases h with
    | @cons k' v' vs d' ds' a b =>
      simp only [List.map_cons]
      by_cases q : k' = k
      · rw [if_pos q, if_pos q]; exact .cons dv (ih b)
      · rw [if_neg q, if_neg q]; exact .cons a (ih b)
theorem DVt.put {H : Hp} {ws : List (List Key × V)} {l : List (List Key × D)} (h : DVt K G H ws l) {v : V} {d : D} (dv : DV K G H v d) (k : List Key) : DVt K G H (putK ws k v) (putD l k d) := by
  unfold putK putD
  rw [dvt_any h k]
  split
  · exact h.mapPut dv k
  · exact h.append (.cons dv .nil)
theorem DVk.length {H : Hp} {ws : List (Key × V)} {l : List (Key × D)} (h : DVk K G H ws l) : ws.length = l.length := by
  induction l generalizing ws with
  | nil => cases h; rfl
  | cons d ds ih => cases h with | cons a b => simp [ih b]
theorem DVt.length {H : Hp} {ws : List (List Key × V)} {l : List (List Key × D)} (h : DVt K G H ws l) : ws.length = l.length := by
  induction l generalizing ws with
  | nil => cases h; rfl
  | cons d ds ih => cases h with | cons a b => simp [ih b]

/-! ### what a dict holds -/
/-- the entry of x in the dict d: k the data found -/
def GetD (G : Gm) (d x : D) (o : Option D) : Prop :=
  (∃ kvs k, (d = .dK kvs ∨ ∃ p, d = .raw (.ref p) ∧ G p = some (.dK kvs)) ∧ keyD x = some k ∧ o = lookD kvs k) ∨
  (∃ kvs k ds, (d = .dT kvs ∨ ∃ p, d = .raw (.ref p) ∧ G p = some (.dT kvs)) ∧ x = .tup ds ∧ keysD ds = some k ∧ o = lookD kvs k)
theorem getD_dv {H : Hp} {d x : D} {o : Option D} {vd vx : V} (r : R3 K T G H) (g : GetD G d x o) (dd : DV K G H vd d) (dx : DV K G H vx x) :
    ∃ a ov, vd = .ref a ∧ DGet H a vx ov ∧ ((∃ v d, ov = some v ∧ o = some d ∧ DV K G H v d) ∨ (ov = none ∧ o = none)) := by
  have fin : ∀ {ov : Option V} {o : Option D}, ((∃ v d, ov = some v ∧ o = some d ∧ DV K G H v d) ∨ (ov = none ∧ o = none)) → ((∃ v d, ov = some v ∧ o = some d ∧ DV K G H v d) ∨ (ov = none ∧ o = none)) := fun h => h
  rcases g with ⟨kvs, k, hd, hk, rfl⟩ | ⟨kvs, k, ds, hd, rfl, hk, rfl⟩
  · have ex := key_dv hk dx
    subst ex
    rcases hd with rfl | ⟨p, rfl, hp⟩
    · cases dd with
      | dK g hr h => exact ⟨_, _, rfl, .inl ⟨_, k, hr, rfl, rfl⟩, dvk_look h k⟩
    · cases dd
      obtain ⟨ws, h1, h2⟩ := r.cell p _ hp
      exact ⟨_, _, rfl, .inl ⟨_, k, .inl h1, rfl, rfl⟩, dvk_look h2 k⟩
  · cases dx with
    | tup tu dxs =>
      have ex := keys_dv hk dxs
      subst ex
      rcases hd with rfl | ⟨p, rfl, hp⟩
      · cases dd with
        | dT g hr h => exact ⟨_, _, rfl, .inr ⟨_, k, _, hr, rfl, tu.2, rfl⟩, dvt_look h k⟩
      · cases dd
        obtain ⟨ws, h1, h2⟩ := r.cell p _ hp
        exact ⟨_, _, rfl, .inr ⟨_, k, _, .inl h1, rfl, tu.2, rfl⟩, dvt_look h2 k⟩
end

/-! ### subscripts: a list, a tuple, a text, a dict -/
def rDG : R2 := fun x y H Q => ∃ a v, x = .ref a ∧ DGet H a y (some v) ∧ Q v H
theorem ix_dict {X : Cx} (hu : X.A.units + 1 < cLine) : IxR X rDG := by
  intro value slice pins s σ H x y v u Q I rx ry h hs
  obtain ⟨a, w, rfl, g, q⟩ := h
  obtain rfl : v = Value.ref a := rx
  have hT := dict_typeIs I g
  unfold subscriptTail
  refine wpAny_bind ?_
  rw [getitemInPython_of_ne hT.not_modules]
  refine wpAny_bind (wpAny_specialOf hT PySem.F.slot_dict_getitem.lookup ?_)
  have fin : wpAny (model X.prog X.w) X.A (subscripted slice false (.ref a) u) (fun r s₃ => wpAny (model X.prog X.w) X.A (letTemporaryGo value (.ref a) r >>= fun _ => pure r) (EP X pins σ Q) X.xe s₃) X.xe s := by
    rw [hs]
    exact wpAny_operating (wpAny_mono (d_getItem hu I g ry fun w' s3 I3 rw' => (⟨w, H, I3, rw', q⟩ : EP X pins σ Q w' s3)) (fun r s₃ h₃ => wpAny_bind (wpAny_letTemporaryGo (wpAny_pure h₃))) fun _ _ x => x)
  first
    | exact wpAny_pure (wpAny_bind fin)
    | exact wpAny_bind (wpAny_pure (wpAny_bind fin))
def rSub (K : PySem.W.Frag) : R2 := fun x y H Q => rIx K x y H Q ∨ rDG x y H Q
theorem ix_any {X : Cx} (hu : X.A.units + 1 < cLine) : IxR X (rSub X.K) := IxR.or ix_seq (ix_dict hu)
section
variable {T : List (Addr × Str)} {O : Org} {X : Cx} {σ : St3} {G : Gm} {Q : D → Gm → Prop} {K : PySem.W.Frag}
/-- the item of data at i -/
def ixD (G : Gm) (x y : D) (d : D) : Prop :=
  (∃ ds i, (x = .tup ds ∨ x = .lst ds ∨ ∃ p, x = .raw (.ref p) ∧ G p = some (.lst ds)) ∧ y = .int i ∧ atI ds i = some d) ∨
  (∃ z i c, x = .str z ∧ y = .int i ∧ z.length ≤ sizeLine ∧ atI z.cps.toList i = some c ∧ d = .str ⟨#[c]⟩) ∨ GetD G x y (some d)
theorem dvs_atI {H : Hp} {vs : List V} {ds : List D} (h : DVs K G H vs ds) {i : Int} {d : D} (e : atI ds i = some d) : ∃ v, atI vs i = some v ∧ DV K G H v d := by
  unfold atI at e ⊢
  rw [h.length]
  cases q : ixN ds.length i with
  | none => rw [q] at e; cases e
  | some j =>
    rw [q] at e
    exact h.get e
theorem o_sub {x y d : D} (h : ixD G x y d) (q : Q d G) : O3 K T (rSub K) x y G Q := fun vx vy H Qv r dx dy k => by
  rcases h with ⟨ds, i, hx, rfl, ha⟩ | ⟨z, i, c, rfl, rfl, hz, ha, rfl⟩ | g
  · cases dy
    rcases hx with rfl | rfl | ⟨p, rfl, hp⟩
    · cases dx with
      | tup tu dxs =>
        obtain ⟨v, hv, dv⟩ := dvs_atI dxs ha
        exact .inl (.inr (.inl ⟨_, _, i, v, rfl, rfl, tu.sq, hv, k _ _ _ _ r (.refl _ _) dv q⟩))
    · cases dx with
      | lst tu dxs =>
        obtain ⟨v, hv, dv⟩ := dvs_atI dxs ha
        exact .inl (.inl ⟨_, _, i, v, rfl, rfl, tu.sq, hv, k _ _ _ _ r (.refl _ _) dv q⟩)
    · cases dx
      obtain ⟨ws, h1, h2⟩ := r.cell p _ hp
      obtain ⟨v, hv, dv⟩ := dvs_atI h2 ha
      exact .inl (.inl ⟨_, _, i, v, rfl, rfl, .inl (.inl h1), hv, k _ _ _ _ r (.refl _ _) dv q⟩)
  · cases dx; cases dy
    exact .inl (.inr (.inr ⟨z, i, c, rfl, rfl, hz, ha, k _ _ _ _ r (.refl _ _) (.str _) q⟩))
  · obtain ⟨a, ov, e, g, h⟩ := getD_dv r g dx dy
    rcases h with ⟨v, d', rfl, e2, dv⟩ | ⟨_, e2⟩
    · cases e2
      exact .inr ⟨a, v, e, g, k _ _ _ _ r (.refl _ _) dv q⟩
    · cases e2
theorem r_sub {a b : Expr} {pos : Pos} (hu : X.A.units + 1 < cLine) (h : xE T O X a σ G fun x G1 => xE T O X b σ G1 fun y G2 => ∃ d, ixD G2 x y d ∧ Q d G2) (hs : PlainIx b := by intro _ _; rfl) : xE T O X (.Subscript a b pos) σ G Q :=
  r_ix (ix_any hu) hs (h.imp fun x G1 h1 => h1.imp fun y G2 ⟨d, hd, q⟩ => o_sub hd q)
/-! items, told -/
theorem ix_t {R : D → Prop} {ds : List D} {i : Int} {d : D} (h : atI ds i = some d) (q : R d) : ∃ d, ixD G (.tup ds) (.int i) d ∧ R d := ⟨d, .inl ⟨ds, i, .inl rfl, rfl, h⟩, q⟩
theorem ix_l {R : D → Prop} {ds : List D} {i : Int} {d : D} (h : atI ds i = some d) (q : R d) : ∃ d, ixD G (.lst ds) (.int i) d ∧ R d := ⟨d, .inl ⟨ds, i, .inr (.inl rfl), rfl, h⟩, q⟩
theorem ix_o {R : D → Prop} {ds : List D} {i : Int} {d : D} {p : Addr} (hp : G p = some (.lst ds)) (h : atI ds i = some d) (q : R d) : ∃ d, ixD G (.raw (.ref p)) (.int i) d ∧ R d := ⟨d, .inl ⟨ds, i, .inr (.inr ⟨p, rfl, hp⟩), rfl, h⟩, q⟩
theorem ix_s {R : D → Prop} {z : Str} {i : Int} {c : Nat} (q : R (.str ⟨#[c]⟩)) (hz : z.length ≤ sizeLine) (h : atI z.cps.toList i = some c) : ∃ d, ixD G (.str z) (.int i) d ∧ R d := ⟨_, .inr (.inl ⟨z, i, c, rfl, rfl, hz, h, rfl⟩), q⟩
theorem ix_k {R : D → Prop} {x d : D} {k : Key} {kvs : List (Key × D)} (hk : keyD x = some k) (h : lookD kvs k = some d) (q : R d) : ∃ d, ixD G (.dK kvs) x d ∧ R d := ⟨d, .inr (.inr (.inl ⟨kvs, k, .inl rfl, hk, h.symm⟩)), q⟩
theorem ix_ko {R : D → Prop} {x d : D} {k : Key} {kvs : List (Key × D)} {p : Addr} (hp : G p = some (.dK kvs)) (hk : keyD x = some k) (h : lookD kvs k = some d) (q : R d) : ∃ d, ixD G (.raw (.ref p)) x d ∧ R d := ⟨d, .inr (.inr (.inl ⟨kvs, k, .inr ⟨p, rfl, hp⟩, hk, h.symm⟩)), q⟩
theorem ix_d {R : D → Prop} {ks : List D} {d : D} {k : List Key} {kvs : List (List Key × D)} (hk : keysD ks = some k) (h : lookD kvs k = some d) (q : R d) : ∃ d, ixD G (.dT kvs) (.tup ks) d ∧ R d := ⟨d, .inr (.inr (.inr ⟨kvs, k, ks, .inl rfl, rfl, hk, h.symm⟩)), q⟩
theorem ix_do {R : D → Prop} {ks : List D} {d : D} {k : List Key} {kvs : List (List Key × D)} {p : Addr} (hp : G p = some (.dT kvs)) (hk : keysD ks = some k) (h : lookD kvs k = some d) (q : R d) : ∃ d, ixD G (.raw (.ref p)) (.tup ks) d ∧ R d := ⟨d, .inr (.inr (.inr ⟨kvs, k, ks, .inr ⟨p, rfl, hp⟩, rfl, hk, h.symm⟩)), q⟩
end
end L3
end
section
/-! L3, rules: statements, targets, loops. -/
namespace L3
open PySem PySem.Spec PyProof.Rows L2
section
variable {T : List (Addr × Str)} {O : Org} {X : Cx} {σ : St3} {G : Gm} {a b c e : Expr} {es : List Expr} {pos : Pos} {K : PySem.W.Frag}

/-! ### targets -/
theorem g_name (i : Nat) {x : Str} {d : D} {Q : St3 → Gm → Prop} (hN : X.N.Nodup) (hi : X.N[i]? = some x) (hx : Loc X.env.scope x) (q : Q (σ.set i (some d)) G) (hf : X.fn x = true ∨ X.env.scope.names.lookup x = some .local := by first | exact .inl rfl | exact .inr rfl | assumption) : xG T O X (.Name x pos) d σ G Q := fun v vs H p dv =>
  wG_of (pg_name hN hi hx hf) ⟨_, G, p.r, .refl _ _, p.d.set dv i, q⟩
theorem gs_nil {Q : St3 → Gm → Prop} (q : Q σ G) : xGs T O X [] [] σ G Q := fun v vs H p dv => by
  cases dv
  exact wGs_of pgs_nil ⟨rfl, σ, G, p.r, .refl _ _, p.d, q⟩
theorem gs_cons {tg : Expr} {tgs : List Expr} {d : D} {ds : List D} {Q : St3 → Gm → Prop} (h : xG T O X tg d σ G fun σ1 G1 => xGs T O X tgs ds σ1 G1 Q)
    (hs : (assignEach (tg :: tgs) X.env).map (·.2) = assign tg X.env :: (assignEach tgs X.env).map (·.2) := by rfl) : xGs T O X (tg :: tgs) (d :: ds) σ G Q := fun v vs H p dv => by
  cases dv with
  | cons a b =>
    refine wGs_of (pgs_cons cG cGs hs) ⟨_, _, rfl, ?_⟩
    refine h.run p a fun us H1 σ1 G1 p1 k1 q => ?_
    exact q.run p1 (b.mono k1) fun us2 H2 σ2 G2 p2 k2 q2 => ⟨σ2, G2, p2.r, k1.trans k2, p2.d, q2⟩
/-- (a, b) = .. of a tuple -/
theorem g_tup {tgs : List Expr} {k : Nat} {tpos : Pos} {ds : List D} {Q : St3 → Gm → Prop} (hc : X.calm = true) (h : xGs T O X tgs ds σ G Q) (hn : (assignEach tgs X.env).length = ds.length := by rfl)
    (hst : (assignEach tgs X.env).findIdx? (·.1) = none := by rfl) : xG T O X (.Tuple tgs k tpos) (.tup ds) σ G Q := fun v vs H p dv => by
  cases dv with
  | tup tu dvs =>
    refine wG_of (pg_tup (n := ds.length) hc cGs hn hst) ⟨_, _, rfl, tu.sq, dvs.length, ?_⟩
    exact h _ vs H p dvs
/-- .. of a list -/
def rSetD : TSet := fun o i v H Q => ∃ a H4, o = .ref a ∧ DPut H a i v H4 ∧ Q H4
theorem set_dict (hu : X.A.units + 1 < cLine) : PSet X rSetD := fun pins s σ H o i v ov iv u Q I ro ri rv h => by
  obtain ⟨a, H4, eo, g, q⟩ := h
  subst eo
  obtain rfl : ov = Value.ref a := ro
  exact d_setItem hu I g ri rv fun s4 I4 => ⟨H4, I4, q⟩
def rSetA : TSet := fun o i v H Q => rSetL o i v H Q ∨ rSetD o i v H Q
theorem set_any (hu : X.A.units + 1 < cLine) : PSet X rSetA := fun pins s σ H o i v ov iv u Q I ro ri rv h =>
  h.elim (set_list pins s σ H o i v ov iv u Q I ro ri rv) (set_dict hu pins s σ H o i v ov iv u Q I ro ri rv)
/-- o[i] = d -/
def Put3 (x y d : D) (G : Gm) (Q : Gm → Prop) : Prop := ∃ p, x = .raw (.ref p) ∧
  ((∃ ds k j, G p = some (.lst ds) ∧ y = .int k ∧ ixN ds.length k = some j ∧ Q (gset G p (.lst (ds.set j d)))) ∨
   (∃ kvs k, G p = some (.dK kvs) ∧ keyD y = some k ∧ kvs.length < sizeLine ∧ Q (gset G p (.dK (putD kvs k d)))) ∨
   (∃ kvs ks k, G p = some (.dT kvs) ∧ y = .tup ks ∧ keysD ks = some k ∧ kvs.length < sizeLine ∧ Q (gset G p (.dT (putD kvs k d)))))
theorem DVs.set {H : Hp} {vs : List V} {ds : List D} (h : DVs K G H vs ds) {v : V} {d : D} (q : DV K G H v d) (i : Nat) : DVs K G H (vs.set i v) (ds.set i d) := by
  induction ds generalizing vs i with
  | nil => cases h; exact .nil
  | cons d0 ds ih =>
    cases h with
    | cons a b =>
      cases i with
      | zero => exact .cons q b
      | succ i => exact .cons a (ih b i)
theorem put3_at {x y d : D} {Q : Gm → Prop} {vx vy vd : V} {H : Hp} (h : Put3 x y d G Q) (r : R3 K T G H) (dx : DV K G H vx x) (dy : DV K G H vy y) (dd : DV K G H vd d) (R : Hp → Prop)
    (k : ∀ H' G', R3 K T G' H' → Keep G H G' H' → Q G' → R H') : rSetA vx vy vd H R := by
  obtain ⟨p, rfl, h⟩ := h
  cases dx
  rcases h with ⟨ds, i, j, hp, rfl, hi, q⟩ | ⟨kvs, i, hp, hk, hl, q⟩ | ⟨kvs, ks, i, hp, rfl, hk, hl, q⟩
  · cases dy
    obtain ⟨ws, h1, h2⟩ := r.cell p _ hp
    have hne : G p ≠ none := by rw [hp]; simp
    have kw := keep_write (H := H) (o := .lst (ws.set j vd)) (c := .lst (ds.set j d)) hne
    exact .inl ⟨p, ws, i, j, rfl, rfl, h1, by rw [h2.length]; exact hi, k _ _ (r.write (c := .lst (ds.set j d)) hne (fun u e => by rw [h1] at e; cases e; exact ⟨fun _ z => (by cases z), fun _ z => (by cases z)⟩) ⟨_, upd_same, (h2.set dd j).mono kw⟩) kw q⟩
  · have ey := key_dv hk dy
    subst ey
    obtain ⟨ws, h1, h2⟩ := r.cell p _ hp
    have hne : G p ≠ none := by rw [hp]; simp
    have kw := keep_write (H := H) (o := .dK (putK ws i vd)) (c := .dK (putD kvs i d)) hne
    exact .inr ⟨p, _, rfl, DPut.k h1 (by rw [h2.length]; exact hl), k _ _ (r.write (c := .dK (putD kvs i d)) hne (fun u e => by rw [h1] at e; cases e; exact ⟨fun _ z => (by cases z), fun _ z => (by cases z)⟩) ⟨_, upd_same, (h2.put dd i).mono kw⟩) kw q⟩
  · cases dy with
    | tup tu dks =>
      have ey := keys_dv hk dks
      subst ey
      obtain ⟨ws, h1, h2⟩ := r.cell p _ hp
      have hne : G p ≠ none := by rw [hp]; simp
      have kw := keep_write (H := H) (o := .dT (putK ws i vd)) (c := .dT (putD kvs i d)) hne
      exact .inr ⟨p, _, rfl, DPut.t h1 tu.2 (by rw [h2.length]; exact hl), k _ _ (r.write (c := .dT (putD kvs i d)) hne (fun u e => by rw [h1] at e; cases e; exact ⟨fun _ z => (by cases z), fun _ z => (by cases z)⟩) ⟨_, upd_same, (h2.put dd i).mono kw⟩) kw q⟩
theorem g_sub {d : D} {Q : St3 → Gm → Prop} (hu : X.A.units + 1 < cLine) (h : xE T O X a σ G fun x G1 => xE T O X b σ G1 fun y G2 => Put3 x y d G2 fun G3 => Q σ G3)
    (ha : ∀ v, assign (.Subscript a b pos) X.env v = (do
      let ov ← holding [v] (eval a X.env)
      let iv ← holding [v, ov] (eval b X.env)
      standAt pos
      holding [v, ov, iv] (setItem ov iv v)
      release [v, ov, iv] []) := by intro _; rfl) : xG T O X (.Subscript a b pos) d σ G Q := fun v vs H p dv => by
  refine wG_of (pg_sub cE cE (set_any hu) ha) ?_
  refine h.run p fun x H1 d1 G1 p1 k1 dx h1 => ?_
  refine h1.run p1 fun y H2 d2 G2 p2 k2 dy h2 => ?_
  exact put3_at h2 p2.r (dx.mono k2) dy ((dv.mono k1).mono k2) _ fun H' G' r k q => ⟨σ, G', r, (k1.trans k2).trans k, p2.d.mono k, q⟩

/-! ### statements -/
variable {D3 : Ends3} {st : Stmt} {sts : List Stmt}
theorem b_nil (q : D3.nx σ G) : xB T O X [] D3 σ G := fun vs H p => wB_of pss_nil ⟨σ, G, p.r, .refl _ _, p.d, q⟩
theorem b_cons (h : xS T O X st { D3 with nx := fun σ1 G1 => xB T O X sts D3 σ1 G1 } σ G) : xB T O X (st :: sts) D3 σ G := fun vs H p => by
  refine wB_of (pss_cons cS cB) ?_
  refine (h vs H p).mono ⟨fun us H1 h1 => ?_, fun _ _ q => q, fun _ _ q => q, fun _ _ q => q⟩
  obtain ⟨σ1, G1, r1, k1, d1, q⟩ := h1
  exact (q us H1 ⟨r1, p.k.trans k1, d1⟩).mono (down.tr k1)
theorem b_one (h : xS T O X st D3 σ G) : xB T O X [st] D3 σ G := fun vs H p => wB_of (pss_one cS) (h vs H p)
theorem s_pass (q : D3.nx σ G) : xS T O X (.Pass pos) D3 σ G := fun vs H p => wS_of ps_pass ⟨σ, G, p.r, .refl _ _, p.d, q⟩
theorem s_break (q : D3.bk σ G) : xS T O X (.Break pos) D3 σ G := fun vs H p => wS_of ps_break ⟨σ, G, p.r, .refl _ _, p.d, q⟩
theorem s_cont (q : D3.ct σ G) : xS T O X (.Continue pos) D3 σ G := fun vs H p => wS_of ps_continue ⟨σ, G, p.r, .refl _ _, p.d, q⟩
theorem s_expr (h : xE T O X e σ G fun _ G1 => D3.nx σ G1) (hs : swapsWith e none pos.line X.env = pure false := by rfl) : xS T O X (.Expr e pos) D3 σ G := fun vs H p => by
  refine wS_of (ps_expr cE hs) ?_
  exact h.run p fun v H1 d G1 p1 k1 dv q => ⟨σ, G1, p1.r, k1, p1.d, q⟩
theorem s_ret (h : xE T O X e σ G D3.rt) : xS T O X (.Return (some e) pos) D3 σ G := fun vs H p => by
  refine wS_of (ps_ret cE) ?_
  exact h vs H p
theorem s_retN (q : D3.rt .non G) : xS T O X (.Return none pos) D3 σ G := fun vs H p => wS_of ps_retN ⟨.non, G, p.r, .refl _ _, .non, q⟩
theorem s_if {sa sb : List Stmt} (h : xT T O X c σ G fun k G1 => (k = true → xB T O X sa D3 σ G1) ∧ (k = false → xB T O X sb D3 σ G1)) : xS T O X (.If c sa sb pos) D3 σ G := fun vs H p => by
  refine wS_of (ps_if cT cB cB) ?_
  refine h.run p fun k H1 G1 p1 k1 q => ?_
  cases k with
  | true => exact iteT ((q.1 rfl vs H1 p1).mono (down.tr k1))
  | false => exact iteF ((q.2 rfl vs H1 p1).mono (down.tr k1))
theorem s_asg {tg : Expr} (h : xE T O X e σ G fun d G1 => xG T O X tg d σ G1 D3.nx) (hs : swapsWithSole [tg] e pos.line X.env = pure false := by rfl) (hw : swappedStores [tg] e X.env = pure none := by rfl)
    (h1 : (assignEach [tg] X.env).map (·.2) = [assign tg X.env] := by rfl) : xS T O X (.Assign [tg] e pos) D3 σ G := fun vs H p => by
  refine wS_of (ps_asg cE cG hs hw h1) ?_
  refine h.run p fun v H1 d G1 p1 k1 dv q => ?_
  exact q.run p1 dv fun us H2 σ2 G2 p2 k2 q2 => ⟨σ2, G2, p2.r, k1.trans k2, p2.d, q2⟩
theorem s_par (i j : Nat) {x y : Str} {px py pt : Pos} {kt k2 pt2} (hc : X.calm = true) (hN : X.N.Nodup) (hi : X.N[i]? = some x) (hj : X.N[j]? = some y) (hij : i ≠ j)
    (hx : X.env.scope.names.lookup x = some .local) (hy : X.env.scope.names.lookup y = some .local) (h : xE T O X a σ G fun d G1 => xE T O X b σ G1 fun d2 G2 => D3.nx ((σ.set i (some d)).set j (some d2)) G2)
    (hw : swappedStores [.Tuple [.Name x px, .Name y py] kt pt] (.Tuple [a, b] k2 pt2) X.env = pure (some [x, y]) := by rfl)
    (hs : swapsWithSole [.Tuple [.Name x px, .Name y py] kt pt] (.Tuple [a, b] k2 pt2) pos.line X.env = pure false := by rfl)
    (he1 : starEach [a, b] X.env = (false, eval a X.env) :: starEach [b] X.env := by rfl) (he2 : starEach [b] X.env = (false, eval b X.env) :: starEach [] X.env := by rfl) :
    xS T O X (.Assign [.Tuple [.Name x px, .Name y py] kt pt] (.Tuple [a, b] k2 pt2) pos) D3 σ G := fun vs H p => by
  refine wS_of (ps_par hc hN hi hj hij hx hy cA hw hs) ?_
  have ha : xA T O X [a, b] σ G fun ds G1 => ∃ d d2, ds = [d, d2] ∧ D3.nx ((σ.set i (some d)).set j (some d2)) G1 :=
    a_cons (h.imp fun d G1 h1 => a_cons (h1.imp fun d2 G2 h2 => a_nil ⟨d, d2, rfl, h2⟩) he2) he1
  refine ha.run p fun us H1 ds G1 p1 k1 dus hd => ?_
  obtain ⟨d, d2, rfl, q⟩ := hd
  cases dus with
  | cons a1 b1 =>
    cases b1 with
    | cons a2 b2 =>
      cases b2
      exact ⟨_, _, rfl, _, G1, p1.r, k1, (p1.d.set a1 i).set a2 j, q⟩
/-- name op= e -/
theorem s_aug (i : Nat) {x : Str} {op : Operator} {ti : TIp} {pos' : Pos} {d : D} (hN : X.N.Nodup) (hi : X.N[i]? = some x) (hx : Loc X.env.scope x) (ho : PIp X op ti) (hσ : σ[i]? = some (some d)) (h : xE T O X e σ G fun d2 G1 => O3 X.K T ti d d2 G1 fun d3 G2 => D3.nx (σ.set i (some d3)) G2)
    (hf : X.fn x = true ∨ X.env.scope.names.lookup x = some .local := by first | exact .inl rfl | exact .inr rfl | assumption) : xS T O X (.AugAssign (.Name x pos') op e pos) D3 σ G := fun vs H p => by
  refine wS_of (ps_aug hN hi hx cE ho hf) ?_
  obtain ⟨v, ev, dv⟩ := p.d.get hσ
  refine ⟨v, ev, ?_⟩
  refine h.run p fun v2 H1 d2 G1 p1 k1 dv2 q => ?_
  exact q _ _ _ _ p1.r (dv.mono k1) dv2 fun v3 H2 d3 G2 r2 k2 dv3 q3 => ⟨_, G2, r2, k1.trans k2, ((p1.d.mono k2).set dv3 i), q3⟩
/-- the owned list at p, in the slot i, is not changed any more -/
theorem b_freeze (i : Nat) {p : Addr} {ds : List D} (hσ : σ[i]? = some (some (.raw (.ref p)))) (h : G p = some (.lst ds)) (k : xB T O X sts D3 (σ.set i (some (.lst ds))) (gdel G p)) : xB T O X sts D3 σ G := fun vs H pr => by
  obtain ⟨ws, h1, h2⟩ := pr.r.cell p _ h
  obtain ⟨v, ev, dv⟩ := pr.d.get hσ
  cases dv
  have kd := keep_del (G := G) (H := H) (p := p)
  have hi : i < vs.length := (List.getElem?_eq_some_iff.mp ev).1
  have hs : vs.set i (some (V.ref p)) = vs := by
    apply List.ext_getElem?
    intro j
    by_cases hj : j = i
    · subst hj; rw [List.getElem?_set_self hi, ev]
    · rw [List.getElem?_set_ne (Ne.symm hj)]
  have d2 : DVo X.K (gdel G p) H vs (σ.set i (some (.lst ds))) := by
    have := (pr.d.mono kd).set (v := V.ref p) (d := .lst ds) (.lst (.inl ⟨gdel_same, .inl h1⟩) (h2.mono kd)) i
    rw [hs] at this
    exact this
  exact (k vs H ⟨pr.r.del, pr.k.trans kd, d2⟩).mono (down.tr kd)
theorem b_freezeK (i : Nat) {p : Addr} {ds : List (Key × D)} (hσ : σ[i]? = some (some (.raw (.ref p)))) (h : G p = some (.dK ds)) (k : xB T O X sts D3 (σ.set i (some (.dK ds))) (gdel G p)) : xB T O X sts D3 σ G := fun vs H pr => by
  obtain ⟨ws, h1, h2⟩ := pr.r.cell p _ h
  obtain ⟨v, ev, dv⟩ := pr.d.get hσ
  cases dv
  have kd := keep_del (G := G) (H := H) (p := p)
  have hi : i < vs.length := (List.getElem?_eq_some_iff.mp ev).1
  have hs : vs.set i (some (V.ref p)) = vs := by
    apply List.ext_getElem?
    intro j
    by_cases hj : j = i
    · subst hj; rw [List.getElem?_set_self hi, ev]
    · rw [List.getElem?_set_ne (Ne.symm hj)]
  have d2 : DVo X.K (gdel G p) H vs (σ.set i (some (.dK ds))) := by
    have := (pr.d.mono kd).set (v := V.ref p) (d := .dK ds) (.dK gdel_same (.inl h1) (h2.mono kd)) i
    rw [hs] at this
    exact this
  exact (k vs H ⟨pr.r.del, pr.k.trans kd, d2⟩).mono (down.tr kd)
theorem b_freezeT (i : Nat) {p : Addr} {ds : List (List Key × D)} (hσ : σ[i]? = some (some (.raw (.ref p)))) (h : G p = some (.dT ds)) (k : xB T O X sts D3 (σ.set i (some (.dT ds))) (gdel G p)) : xB T O X sts D3 σ G := fun vs H pr => by
  obtain ⟨ws, h1, h2⟩ := pr.r.cell p _ h
  obtain ⟨v, ev, dv⟩ := pr.d.get hσ
  cases dv
  have kd := keep_del (G := G) (H := H) (p := p)
  have hi : i < vs.length := (List.getElem?_eq_some_iff.mp ev).1
  have hs : vs.set i (some (V.ref p)) = vs := by
    apply List.ext_getElem?
    intro j
    by_cases hj : j = i
    · subst hj; rw [List.getElem?_set_self hi, ev]
    · rw [List.getElem?_set_ne (Ne.symm hj)]
  have d2 : DVo X.K (gdel G p) H vs (σ.set i (some (.dT ds))) := by
    have := (pr.d.mono kd).set (v := V.ref p) (d := .dT ds) (.dT gdel_same (.inl h1) (h2.mono kd)) i
    rw [hs] at this
    exact this
  exact (k vs H ⟨pr.r.del, pr.k.trans kd, d2⟩).mono (down.tr kd)
/-- what is known of a state may be forgotten -/
theorem b_imp {σ' : St3} {G' : Gm} (k : ∀ vs H, Pre X.K T O σ G vs H → R3 X.K T G' H ∧ Keep G H G' H ∧ DVo X.K G' H vs σ') (h : xB T O X sts D3 σ' G') : xB T O X sts D3 σ G := fun vs H p => by
  obtain ⟨r, k1, d⟩ := k vs H p
  exact (h vs H ⟨r, p.k.trans k1, d⟩).mono (down.tr k1)

/-! ### what a loop walks -/
variable {tg iter l : Expr}
def isLst (G : Gm) (d : D) (ds : List D) (C : Gm → Prop) : Prop := (d = .lst ds ∧ C = fun _ => True) ∨ ∃ p, d = .raw (.ref p) ∧ G p = some (.lst ds) ∧ C = fun G' => G' p = some (.lst ds)
theorem yields_list {H : Hp} {d : D} {ds : List D} {C : Gm → Prop} {v : V} (hd : isLst G d ds C) (r : R3 K T G H) (dv : DV K G H v d) : ∃ a, v = .ref a ∧ (∃ xs, SqL K H a xs) ∧ Yields K T (Itl K a) G H ds C := by
  rcases hd with ⟨rfl, rfl⟩ | ⟨p, rfl, hp, rfl⟩
  · cases dv with
    | @lst a vs _ li dvs =>
      refine ⟨a, rfl, ⟨vs, li.sq⟩, fun G' H' _ r' k' => ⟨fun i d hd => ?_, vs, (li.mono k').sq, Nat.le_of_eq dvs.length⟩⟩
      obtain ⟨v, hv, dv⟩ := (dvs.mono k').get hd
      refine ⟨⟨vs, v, (li.mono k').sq, hv⟩, fun x H'' y => ?_⟩
      obtain ⟨e, y⟩ := y
      subst e
      have e2 := y vs (li.mono k').sq
      rw [hv] at e2
      cases e2
      exact ⟨r', .refl _ _, dv⟩
  · cases dv
    obtain ⟨ws, h1, h2⟩ := r.cell p _ hp
    refine ⟨p, rfl, ⟨ws, .inl (.inl h1)⟩, fun G' H' hC r' k' => ?_⟩
    obtain ⟨ws', h1', h2'⟩ := r'.cell p _ hC
    refine ⟨fun i d hd => ?_, ws', .inl (.inl h1'), Nat.le_of_eq h2'.length⟩
    obtain ⟨v, hv, dv⟩ := h2'.get hd
    refine ⟨⟨ws', v, .inl (.inl h1'), hv⟩, fun x H'' y => ?_⟩
    obtain ⟨e, y⟩ := y
    subst e
    have e2 := y ws' (.inl (.inl h1'))
    rw [hv] at e2
    cases e2
    exact ⟨r', .refl _ _, dv⟩
theorem i_list {Q : List D → (Gm → Prop) → Gm → Prop} (h : xE T O X l σ G fun d G1 => ∃ ds C, isLst G1 d ds C ∧ Q ds C G1) : xI T O X tg l σ G Q := fun vs H p => by
  refine wI_of (pi_list cE) ?_
  refine h.run p fun v H1 d G1 p1 k1 dv q => ?_
  obtain ⟨ds, C, hd, q⟩ := q
  obtain ⟨a, ev, hx, y⟩ := yields_list hd p1.r dv
  exact ⟨a, ev, hx, ds, C, G1, p1.r, k1, y, q⟩
theorem i_tup {Q : List D → (Gm → Prop) → Gm → Prop} (h : xE T O X l σ G fun d G1 => ∃ ds, d = .tup ds ∧ Q ds (fun _ => True) G1) : xI T O X tg l σ G Q := fun vs H p => by
  refine wI_of (pi_tup cE) ?_
  refine h.run p fun v H1 d G1 p1 k1 dv q => ?_
  obtain ⟨ds, rfl, q⟩ := q
  cases dv with
  | @tup a vs' _ tu dvs =>
    refine ⟨a, rfl, ⟨vs', tu.sq⟩, ds, _, G1, p1.r, k1, fun G' H' _ r' k' => ⟨fun i d hd => ?_, vs', (tu.mono k').sq, Nat.le_of_eq dvs.length⟩, q⟩
    obtain ⟨v, hv, dv⟩ := (dvs.mono k').get hd
    refine ⟨⟨vs', v, (tu.mono k').sq, hv⟩, fun x H'' y => ?_⟩
    obtain ⟨e, y⟩ := y
    subst e
    have e2 := y vs' (tu.mono k').sq
    rw [hv] at e2
    cases e2
    exact ⟨r', .refl _ _, dv⟩
/-- lo, lo + 1, .. -/
def rangeD (lo : Int) (n : Nat) : List D := (List.range n).map fun i => .int (lo + (i : Nat))
theorem rangeD_length (lo : Int) (n : Nat) : (rangeD lo n).length = n := by unfold rangeD; simp
theorem rangeD_get {lo : Int} {n i : Nat} {d : D} (h : (rangeD lo n)[i]? = some d) : i < n ∧ d = .int (lo + i) := by
  unfold rangeD at h
  rw [List.getElem?_map] at h
  cases e : (List.range n)[i]? with
  | none => rw [e] at h; cases h
  | some j =>
    rw [e] at h
    obtain ⟨h1, h2⟩ := List.getElem?_eq_some_iff.mp e
    rw [List.getElem_range] at h2
    rw [List.length_range] at h1
    subst h2
    cases h
    exact ⟨h1, rfl⟩
theorem yields_range {H : Hp} (lo : Int) (n : Nat) : Yields K T (Itr lo n) G H (rangeD lo n) (fun _ => True) := fun G' H' _ r' k' => by
  refine ⟨fun i d hd => ?_, Nat.le_of_eq (rangeD_length lo n).symm⟩
  obtain ⟨hi, rfl⟩ := rangeD_get hd
  refine ⟨hi, fun x H'' y => ?_⟩
  obtain ⟨e, y⟩ := y
  subst e y
  exact ⟨r', .refl _ _, .int _⟩
theorem i_range1 {p : Pos} {Q : List D → (Gm → Prop) → Gm → Prop} (hg : Gl X "range") (hm : X.mg "range" = none) (h : xE T O X a σ G fun d G1 => ∃ j : Int, d = .int j ∧ -(2 ^ 62) ≤ j ∧ j < 2 ^ 62 ∧ Q (rangeD 0 j.toNat) (fun _ => True) G1)
    (hs : starEach [a] X.env = [(false, eval a X.env)] := by rfl) : xI T O X tg (.Call (.Name "range" p) [a] [] pos) σ G Q := fun vs H pr => by
  refine wI_of (pi_range1 hg hm cA hs) ?_
  refine (a_cons (Q := fun ds G2 => ∃ j : Int, ds = [.int j] ∧ -(2 ^ 62) ≤ j ∧ j < 2 ^ 62 ∧ Q (rangeD 0 j.toNat) (fun _ => True) G2) (h.imp fun d G1 h1 => a_nil ?_) hs).run pr fun us H1 ds G1 p1 k1 dus q => ?_
  · obtain ⟨j, rfl, q⟩ := h1
    exact ⟨j, rfl, q⟩
  · obtain ⟨j, rfl, h1, h2, q⟩ := q
    cases dus with
    | cons a b =>
      cases a; cases b
      exact ⟨j, rfl, h1, h2, _, _, G1, p1.r, k1, yields_range 0 _, q⟩
theorem i_range2 {p : Pos} {Q : List D → (Gm → Prop) → Gm → Prop} (hg : Gl X "range") (hm : X.mg "range" = none) (h : xE T O X a σ G fun d G1 => xE T O X b σ G1 fun d2 G2 => ∃ i j : Int, d = .int i ∧ d2 = .int j ∧ (-(2 ^ 62) ≤ i ∧ i < 2 ^ 62 ∧ -(2 ^ 62) ≤ j ∧ j < 2 ^ 62) ∧ Q (rangeD i (j - i).toNat) (fun _ => True) G2)
    (hs : starEach [a, b] X.env = [(false, eval a X.env), (false, eval b X.env)] := by rfl) (hs2 : starEach [b] X.env = [(false, eval b X.env)] := by rfl) : xI T O X tg (.Call (.Name "range" p) [a, b] [] pos) σ G Q := fun vs H pr => by
  refine wI_of (pi_range2 hg hm cA hs hs2) ?_
  refine (a_cons (Q := fun ds G2 => ∃ i j : Int, ds = [.int i, .int j] ∧ (-(2 ^ 62) ≤ i ∧ i < 2 ^ 62 ∧ -(2 ^ 62) ≤ j ∧ j < 2 ^ 62) ∧ Q (rangeD i (j - i).toNat) (fun _ => True) G2) (h.imp fun d G1 h1 => a_cons (h1.imp fun d2 G2 h2 => a_nil ?_) hs2) (hs.trans (by rw [hs2]))).run pr fun us H1 ds G1 p1 k1 dus q => ?_
  · obtain ⟨i, j, rfl, rfl, q⟩ := h2
    exact ⟨i, j, rfl, q⟩
  · obtain ⟨i, j, rfl, h1, q⟩ := q
    cases dus with
    | cons a b =>
      cases b with
      | cons b c =>
        cases a; cases b; cases c
        exact ⟨i, j, rfl, h1, _, _, G1, p1.r, k1, yields_range _ _, q⟩
/-- the signs of a text -/
def signsD (z : Str) : List D := z.cps.toList.map fun c => .str ⟨#[c]⟩
theorem i_str {Q : List D → (Gm → Prop) → Gm → Prop} (h : xE T O X l σ G fun d G1 => ∃ z, d = .str z ∧ Q (signsD z) (fun _ => True) G1) : xI T O X tg l σ G Q := fun vs H p => by
  refine wI_of (pi_str cE) ?_
  refine h.run p fun v H1 d G1 p1 k1 dv q => ?_
  obtain ⟨z, rfl, q⟩ := q
  cases dv
  refine ⟨z, rfl, _, _, G1, p1.r, k1, fun G' H' _ r' k' => ⟨fun i d hd => ?_, by show z.cps.size ≤ _; unfold signsD; simp⟩, q⟩
  unfold signsD at hd
  rw [List.getElem?_map] at hd
  cases e : z.cps.toList[i]? with
  | none => rw [e] at hd; cases hd
  | some c =>
    rw [e] at hd
    cases hd
    have hz : z.cps[i]? = some c := by rw [← Array.getElem?_toList]; exact e
    refine ⟨(Array.getElem?_eq_some_iff.mp hz).1, fun x H'' y => ?_⟩
    obtain ⟨e1, c', hc', ex⟩ := y
    subst e1 ex
    rw [hz] at hc'
    cases hc'
    exact ⟨r', .refl _ _, .str _⟩

/-! ### for, while -/
theorem for_core {body : List Stmt} (hp : PassesOwn (model X.prog X.w) X.A X.env X.xe) (hc : X.calm = true)
    {vs : L2.St} {H : Hp} (p : Pre X.K T O σ G vs H) (h : wI X tg iter vs H (upI X.K T G H (fun ds C G1 => ∃ P : Nat → St3 → Gm → Prop, P 0 σ G1 ∧ (∀ i σ' G', i ≤ ds.length → P i σ' G' → C G') ∧
      (∀ i d σ' G', ds[i]? = some d → P i σ' G' → xG T O X tg d σ' G' fun σ2 G2 => xB T O X body { D3 with nx := P (i + 1), ct := P (i + 1), bk := D3.nx } σ2 G2) ∧ (∀ σ' G', P ds.length σ' G' → D3.nx σ' G'))))
    (hs : ∀ x, foldedSetIterable iter X.env x = pure x := by intro _; rfl) : wS X (.For tg iter body [] pos) (down X.K T G H D3) vs H := by
  refine wS_of (ps_for hp hc cI cG cB hs) ?_
  refine h.mono fun J H1 h1 => ?_
  obtain ⟨ds, C, G1, r1, k1, y, P, h0, hC, hb, hd⟩ := h1
  refine ⟨fun i m us H2 => m = ds.length - i ∧ i ≤ ds.length ∧ ∃ σ2 G2, R3 X.K T G2 H2 ∧ Keep G1 H1 G2 H2 ∧ DVo X.K G2 H2 us σ2 ∧ P i σ2 G2, ⟨_, rfl, Nat.zero_le _, σ, G1, r1, .refl _ _, p.d.mono k1, h0⟩, ?_⟩
  rintro i m us H2 ⟨rfl, hi, σ2, G2, r2, k2, d2, q2⟩
  have ko2 : Keep O.1 O.2 G2 H2 := (p.k.trans k1).trans k2
  obtain ⟨y1, y2⟩ := y G2 H2 (hC i σ2 G2 hi q2) r2 k2
  by_cases hlt : i < ds.length
  · obtain ⟨d, hd'⟩ : ∃ d, ds[i]? = some d := ⟨ds[i], by simp [hlt]⟩
    obtain ⟨go, yl⟩ := y1 i d hd'
    refine .inr ⟨go, fun us' H' => i + 1 ≤ ds.length ∧ ∃ σ3 G3, R3 X.K T G3 H' ∧ Keep G1 H1 G3 H' ∧ DVo X.K G3 H' us' σ3 ∧ P (i + 1) σ3 G3, fun us' H' ⟨hl, q⟩ => ⟨ds.length - (i + 1), by omega, rfl, hl, q⟩, fun x H' hy => ?_⟩
    obtain ⟨r3, k3, dx⟩ := yl x H' hy
    have h3 := hb i d σ2 G2 hd' q2
    refine h3.run (p := (⟨r3, ko2.trans k3, d2.mono k3⟩ : Pre X.K T O σ2 G2 us H')) dx fun us4 H4 σ4 G4 p4 k4 q4 => ?_
    refine (q4 us4 H4 p4).mono ⟨fun us5 H5 h5 => ?_, fun v5 H5 h5 => ?_, fun us5 H5 h5 => ?_, fun us5 H5 h5 => ?_⟩
    · obtain ⟨σ5, G5, r5, k5, d5, q5⟩ := h5
      exact ⟨hlt, σ5, G5, r5, ((k2.trans k3).trans k4).trans k5, d5, q5⟩
    · exact h5.tr (((k1.trans k2).trans k3).trans k4)
    · exact h5.tr (((k1.trans k2).trans k3).trans k4)
    · obtain ⟨σ5, G5, r5, k5, d5, q5⟩ := h5
      exact ⟨hlt, σ5, G5, r5, ((k2.trans k3).trans k4).trans k5, d5, q5⟩
  · have e : i = ds.length := by omega
    subst e
    exact .inl ⟨y2, σ2, G2, r2, k1.trans k2, d2, hd _ _ q2⟩
theorem s_for {body : List Stmt} (hp : PassesOwn (model X.prog X.w) X.A X.env X.xe) (hc : X.calm = true)
    (h : xI T O X tg iter σ G fun ds C G1 => ∃ P : Nat → St3 → Gm → Prop, P 0 σ G1 ∧ (∀ i σ' G', i ≤ ds.length → P i σ' G' → C G') ∧
      (∀ i d σ' G', ds[i]? = some d → P i σ' G' → xG T O X tg d σ' G' fun σ2 G2 => xB T O X body { D3 with nx := P (i + 1), ct := P (i + 1), bk := D3.nx } σ2 G2) ∧ (∀ σ' G', P ds.length σ' G' → D3.nx σ' G'))
    (hs : ∀ x, foldedSetIterable iter X.env x = pure x := by intro _; rfl) : xS T O X (.For tg iter body [] pos) D3 σ G := fun vs H p => for_core hp hc p (h vs H p) hs
theorem s_while {body : List Stmt} (hp : PassesOwn (model X.prog X.w) X.A X.env X.xe) (P : Nat → St3 → Gm → Prop) (n : Nat) (h0 : P n σ G)
    (h : ∀ n σ' G', P n σ' G' → xT T O X c σ' G' fun k G1 => (k = true → xB T O X body { D3 with nx := fun σ2 G2 => ∃ m, m < n ∧ P m σ2 G2, ct := fun σ2 G2 => ∃ m, m < n ∧ P m σ2 G2, bk := D3.nx } σ' G1) ∧ (k = false → D3.nx σ' G1)) : xS T O X (.While c body [] pos) D3 σ G := fun vs H p => by
  refine wS_of (ps_while hp cT cB) ?_
  refine ⟨fun m us H2 => ∃ σ2 G2, R3 X.K T G2 H2 ∧ Keep G H G2 H2 ∧ DVo X.K G2 H2 us σ2 ∧ P m σ2 G2, ⟨n, σ, G, p.r, .refl _ _, p.d, h0⟩, ?_⟩
  rintro m us H2 ⟨σ2, G2, r2, k2, d2, q2⟩
  refine (h m σ2 G2 q2).run (p := (⟨r2, p.k.trans k2, d2⟩ : Pre X.K T O σ2 G2 us H2)) fun k H3 G3 p3 k3 q3 => ?_
  cases k with
  | true =>
    refine iteT ⟨fun us' H' => ∃ m', m' < m ∧ ∃ σ3 G3, R3 X.K T G3 H' ∧ Keep G H G3 H' ∧ DVo X.K G3 H' us' σ3 ∧ P m' σ3 G3, fun us' H' q => q, ?_⟩
    refine (q3.1 rfl us H3 p3).mono ⟨fun us5 H5 h5 => ?_, fun v5 H5 h5 => h5.tr (k2.trans k3), fun us5 H5 h5 => h5.tr (k2.trans k3), fun us5 H5 h5 => ?_⟩
    · obtain ⟨σ5, G5, r5, k5, d5, m', hm, q5⟩ := h5
      exact ⟨m', hm, σ5, G5, r5, (k2.trans k3).trans k5, d5, q5⟩
    · obtain ⟨σ5, G5, r5, k5, d5, m', hm, q5⟩ := h5
      exact ⟨m', hm, σ5, G5, r5, (k2.trans k3).trans k5, d5, q5⟩
  | false => exact iteF ⟨σ2, G3, p3.r, k2.trans k3, p3.d, q3.2 rfl⟩
end
end L3
end
section
/-! L3, rules: comprehensions. -/
namespace L3
open PySem PySem.Spec PyProof.Rows L2
/-! ### targets of comprehensions -/
/-- what a target does to a state without a heap -/
structure TgD (K : PySem.W.Frag) (g : TG) (vs : List Nat) (f : D → St3 → Option St3) : Prop where
  run : ∀ (G : Gm) (H : Hp) (v : V) (d : D) (us : L2.St) (σ σ2 : St3) (Q : L2.St → Hp → Prop), f d σ = some σ2 → DV K G H v d → DVo K G H us σ → (∀ u2, DVo K G H u2 σ2 → wipe u2 vs = wipe us vs → Q u2 H) → g v us H Q
theorem wipe_get {us : L2.St} {j : Nat} : ∀ {vs : List Nat}, (wipe us vs)[j]? = if j ∈ vs ∧ j < us.length then some none else us[j]?
  | [] => by simp [wipe]
  | v :: vs => by
    unfold wipe
    by_cases h : j = v
    · subst h
      by_cases hl : j < us.length
      · rw [List.getElem?_set_self (by rw [wipe_length]; exact hl), if_pos ⟨List.mem_cons_self .., hl⟩]
      · have e : us.length ≤ j := Nat.le_of_not_lt hl
        rw [List.getElem?_eq_none (by rw [List.length_set, wipe_length]; exact e), if_neg (fun z => hl z.2), List.getElem?_eq_none e]
    · rw [List.getElem?_set_ne (Ne.symm h), wipe_get]
      by_cases hm : j ∈ vs
      · by_cases hl : j < us.length
        · rw [if_pos ⟨hm, hl⟩, if_pos ⟨List.mem_cons_of_mem _ hm, hl⟩]
        · rw [if_neg (fun z => hl z.2), if_neg (fun z => hl z.2)]
      · rw [if_neg (fun z => hm z.1), if_neg (fun z => hm ((List.mem_cons.mp z.1).resolve_left h))]
theorem wipe_set {us : L2.St} {v : Option V} {i : Nat} {vs : List Nat} (h : i ∈ vs) : wipe (us.set i v) vs = wipe us vs := by
  apply List.ext_getElem?
  intro j
  rw [wipe_get, wipe_get, List.length_set]
  by_cases hj : j ∈ vs ∧ j < us.length
  · rw [if_pos hj, if_pos hj]
  · rw [if_neg hj, if_neg hj]
    by_cases e : j = i
    · subst e
      have hl : us.length ≤ j := Nat.le_of_not_lt fun z => hj ⟨h, z⟩
      rw [List.getElem?_eq_none (by rw [List.length_set]; exact hl), List.getElem?_eq_none hl]
    · rw [List.getElem?_set_ne (Ne.symm e)]
section
variable {K : PySem.W.Frag} {vs : List Nat}
theorem tg_name (i : Nat) (h : i ∈ vs) : TgD K (gName i) vs (fun d σ => some (σ.set i (some d))) := ⟨fun G H v d us σ σ2 Q e dv dus k => by
  cases e
  exact k _ (dus.set dv i) (wipe_set h)⟩
/-- names in a row -/
def gNames : List Nat → TGs
  | [] => gNil
  | i :: is => gCons (gName i) (gNames is)
def setAll {α : Type} : List Nat → List α → List (Option α) → Option (List (Option α))
  | [], [], σ => some σ
  | i :: is, d :: ds, σ => setAll is ds (σ.set i (some d))
  | _, _, _ => none
theorem gNames_run {G : Gm} {H : Hp} : ∀ (is : List Nat) (hs : ∀ i ∈ is, i ∈ vs) (ws : List V) (ds : List D) (us : L2.St) (σ σ2 : St3) (Q : L2.St → Hp → Prop), setAll is ds σ = some σ2 → DVs K G H ws ds → DVo K G H us σ → (∀ u2, DVo K G H u2 σ2 → wipe u2 vs = wipe us vs → Q u2 H) → gNames is ws us H Q
  | [], _, _, [], us, σ, σ2, Q, e, dw, du, k => by
    cases dw; cases e
    exact ⟨rfl, k _ du rfl⟩
  | [], _, _, _ :: _, us, σ, σ2, Q, e, dw, du, k => by cases e
  | i :: is, _, _, [], us, σ, σ2, Q, e, dw, du, k => by cases e
  | i :: is, hs, _, d :: ds, us, σ, σ2, Q, e, dw, du, k => by
    cases dw with
    | @cons w ws _ _ a b =>
      refine ⟨w, ws, rfl, ?_⟩
      exact gNames_run is (fun j hj => hs j (List.mem_cons_of_mem _ hj)) ws ds (us.set i (some w)) (σ.set i (some d)) σ2 Q e b (du.set a i) fun u2 d2 e2 => k u2 d2 (e2.trans (wipe_set (hs i (List.mem_cons_self ..))))
theorem tg_tup (is : List Nat) (h : ∀ i ∈ is, i ∈ vs) : TgD K (gTup K is.length (gNames is)) vs (fun d σ => match d with | .tup ds => if ds.length = is.length then setAll is ds σ else none | _ => none) := ⟨fun G H v d us σ σ2 Q e dv dus k => by
  cases dv with
  | @tup a ws ds tu dws =>
    have e' : (if ds.length = is.length then setAll is ds σ else none) = some σ2 := e
    split at e'
    · rename_i hl
      exact ⟨a, ws, rfl, tu.sq, dws.length.trans hl, gNames_run is h ws ds us σ σ2 Q e' dws dus k⟩
    · cases e'
  | _ => cases e⟩
end
/-! ### tests of a comprehension -/
def wTs (X : Cx) : List Expr → TT
  | [] => tYes
  | [c] => wT X c
  | _ => fun _ _ _ => False
theorem cTs {X : Cx} : ∀ {ifs : List Expr}, PTs X ifs (wTs X ifs)
  | [] => pts_nil
  | [_] => pts_one cT
  | _ :: _ :: _ => ⟨fun _ _ _ _ _ _ h => False.elim h⟩
def xTs (T : List (Addr × Str)) (O : Org) (X : Cx) (ifs : List Expr) (σ : St3) (G : Gm) (Q : Bool → Gm → Prop) : Prop := match ifs with
  | [] => Q true G
  | [c] => xT T O X c σ G Q
  | _ => False
def wipe3 (σ : St3) : List Nat → St3
  | [] => σ
  | v :: vs => (wipe3 σ vs).set v none
theorem DVo.wipe {K : PySem.W.Frag} {G : Gm} {H : Hp} {us : L2.St} {σ : St3} (h : DVo K G H us σ) : ∀ vs : List Nat, DVo K G H (L2.wipe us vs) (wipe3 σ vs)
  | [] => h
  | v :: vs => by
    have ih := h.wipe vs
    unfold L2.wipe wipe3
    revert ih
    generalize L2.wipe us vs = a
    generalize wipe3 σ vs = b
    clear h
    intro ih
    induction b generalizing a v with
    | nil => cases a with
      | nil => trivial
      | cons _ _ => exact ih.elim
    | cons d0 ds ih2 =>
      cases a with
      | nil => exact ih.elim
      | cons v0 a =>
        cases v with
        | zero => exact ⟨fun x e => (by cases e), ih.2⟩
        | succ v => exact ⟨ih.1, ih2 v a ih.2⟩
section
variable {T : List (Addr × Str)} {O : Org} {X : Cx} {σ : St3} {G : Gm} {elt tg iter : Expr} {ifs : List Expr} {scope : Scope} {own : List (Str × Nat)} {pos : Pos}
/-- the block of a comprehension of X -/
abbrev bX (X : Cx) (scope : Scope) (s : Shared) (H : Hp) (Cc : Addr) (cl : List (Str × Addr)) (fp : List Addr) : Cx := X.blk s H scope (compEnvC scope cl Cc X.env) fp
/-- what a turn of the block wants -/
def Turn3 (T : List (Addr × Str)) (O : Org) (X : Cx) (scope : Scope) (ifs : List Expr) (elt : Expr) (σ : St3) (G : Gm) (A : Addr) (h : Cell) (P : Option D → Gm → Prop) : Prop :=
  ∀ s H Cc cl fp, xTs T O (bX X scope s H Cc cl fp) ifs σ (gset G A h) fun b G3 => (b = true → ∀ s H Cc cl fp, xE T O (bX X scope s H Cc cl fp) elt σ G3 fun y G4 => ∃ G5, G4 = gset G5 A h ∧ G5 A = none ∧ P (some y) G5) ∧ (b = false → ∃ G5, G3 = gset G5 A h ∧ G5 A = none ∧ P none G5)
def snoc (acc : List D) : Option D → List D
  | none => acc
  | some y => acc ++ [y]
def LcBody (T : List (Addr × Str)) (O : Org) (X : Cx) (scope : Scope) (own : List (Str × Nat)) (f : D → St3 → Option St3) (ifs : List Expr) (elt : Expr) (σ : St3) (Q : List D → Gm → Prop) (ds : List D) (C : Gm → Prop) (G1 : Gm) : Prop :=
  ds.length < sizeLine ∧ ∃ P : Nat → List D → Gm → Prop, P 0 [] G1 ∧ (∀ i acc G' A h, i ≤ ds.length → P i acc G' → G' A = none → C (gset G' A h)) ∧
    (∀ i d acc G', ds[i]? = some d → P i acc G' → ∃ σ2, f d (wipe3 σ (own.map (·.2))) = some σ2 ∧ ∀ A h, G' A = none → Turn3 T O X scope ifs elt σ2 G' A h fun y G5 => P (i + 1) (snoc acc y) G5) ∧
    ∀ acc G', P ds.length acc G' → Q acc G'
theorem R3.ownObj {K : PySem.W.Frag} {H : Hp} {p : Addr} {o : HO} (r : R3 K T G H) (h : H p = none) (ho : (∀ vs, o ≠ .tup vs) ∧ (∀ ps, o ≠ .tbl ps) ∧ ∀ φ, o ≠ .ext φ) : R3 K T (gset G p (.obj o)) (upd H p o) := r.own h ⟨upd_same, ho⟩
theorem keep_unown {H H2 : Hp} {G2 : Gm} {A : Addr} {c : Cell} (k : Keep G H (gset G2 A c) H2) (g : G2 A = none) : Keep G H G2 H2 := fun a o e h n => by
  obtain ⟨h1, g1⟩ := k a o e h n
  refine ⟨h1, ?_⟩
  have ne : a ≠ A := fun z => by rw [z, gset_same] at g1; cases g1
  rw [gset_ne ne] at g1
  exact g1
theorem lc_all {g : TG} {f : D → St3 → Option St3} (hc : X.calm = true) (hN : X.N.Nodup) (ok : BlkOk X.N X.env.scope scope own) (hgd : TgD X.K g (own.map (·.2)) f)
    (hg : ∀ (s : Shared) (H : Hp) (C : Addr) (cl : List (Str × Addr)) (fp : List Addr), PG (bX X scope s H C cl fp) tg g)
    {Q : List D → Gm → Prop} (h : xI T O X tg iter σ G (LcBody T O X scope own f ifs elt σ Q)) {vs : L2.St} {H : Hp} (p : Pre X.K T O σ G vs H) (Qv : VK)
    (hq : ∀ A H' acc ws G', R3 X.K T (gset G' A (.obj (.lst ws))) H' → H' A = some (.lst ws) → G' A = none → Keep G H (gset G' A (.obj (.lst ws))) H' → DVs X.K (gset G' A (.obj (.lst ws))) H' ws acc → DVo X.K (gset G' A (.obj (.lst ws))) H' vs σ → Q acc G' → Qv (.ref A) H') :
    tLc (wI X tg iter) g (fun σ H Q => ∀ s H0 Cc cl fp, wTs (bX X scope s H0 Cc cl fp) ifs σ H Q) (fun σ H Q => ∀ s H0 Cc cl fp, wE (bX X scope s H0 Cc cl fp) elt σ H Q) (own.map (·.2)) vs H Qv := by
  refine (h vs H p).mono fun J H1 h1 A hA => ?_
  obtain ⟨ds, C, G1, r1, k1, y, hsz, P, h0, hC, hb, hd⟩ := h1
  have gA := r1.free hA
  -- the state within: the list at A is owned; W by the turn
  refine ⟨fun i m H2 => m = ds.length - i ∧ i ≤ ds.length ∧ ∃ G2 ws acc, R3 X.K T (gset G2 A (.obj (.lst ws))) H2 ∧ H2 A = some (.lst ws) ∧ G2 A = none ∧ Keep G1 H1 (gset G2 A (.obj (.lst ws))) H2 ∧ DVs X.K (gset G2 A (.obj (.lst ws))) H2 ws acc ∧ ws.length ≤ i ∧ P i acc G2,
    ⟨_, rfl, Nat.zero_le _, G1, [], [], r1.ownObj hA ⟨fun _ z => (by cases z), fun _ z => (by cases z), fun _ z => (by cases z)⟩, upd_same, gA, keep_own hA, .nil, Nat.le_refl _, h0⟩, ?_⟩
  rintro i m H2 ⟨rfl, hi, G2, ws, acc, r2, hA2, gA2, k2, dacc, hl, q2⟩
  obtain ⟨y1, y2⟩ := y _ H2 (hC i acc G2 A (.obj (.lst ws)) hi q2 gA2) r2 k2
  by_cases hlt : i < ds.length
  · obtain ⟨d, hd'⟩ : ∃ d, ds[i]? = some d := ⟨ds[i], by simp [hlt]⟩
    obtain ⟨go, yl⟩ := y1 i d hd'
    refine .inr ⟨go, fun H' => i + 1 ≤ ds.length ∧ ∃ G2 ws acc, R3 X.K T (gset G2 A (.obj (.lst ws))) H' ∧ H' A = some (.lst ws) ∧ G2 A = none ∧ Keep G1 H1 (gset G2 A (.obj (.lst ws))) H' ∧ DVs X.K (gset G2 A (.obj (.lst ws))) H' ws acc ∧ ws.length ≤ i + 1 ∧ P (i + 1) acc G2, fun H' ⟨hl, q⟩ => ⟨ds.length - (i + 1), by omega, rfl, hl, q⟩, fun x H' hy => ?_⟩
    obtain ⟨r3, k3, dx⟩ := yl x H' hy
    obtain ⟨σ2, hf, hturn⟩ := hb i d acc G2 hd' q2
    have hturn := hturn A (.obj (.lst ws)) gA2
    have hA3 : H' A = some (.lst ws) := (r3.cell A _ gset_same).1
    have dvs3 : DVo X.K (gset G2 A (.obj (.lst ws))) H' vs σ := ((p.d.mono k1).mono k2).mono k3
    refine hgd.run _ H' x d _ _ σ2 _ hf dx (dvs3.wipe _) fun u2 du2 ew => ⟨?_, ?_⟩
    · rw [ew]
      apply List.ext_getElem?
      intro j
      rw [wipe_get, wipe_get, wipe_length]
      by_cases hj : j ∈ own.map (·.2) ∧ j < vs.length
      · rw [if_pos hj, if_pos hj]
      · rw [if_neg hj, if_neg hj]
    · have p3 : Pre X.K T O σ2 (gset G2 A (.obj (.lst ws))) u2 H' := ⟨r3, ((p.k.trans k1).trans k2).trans k3, du2⟩
      have k13 : Keep G1 H1 (gset G2 A (.obj (.lst ws))) H' := k2.trans k3
      -- the end of a turn that adds
      have fin : ∀ (yv : V) (yd : D) (H4 : Hp) (G5 : Gm), R3 X.K T (gset G5 A (.obj (.lst ws))) H4 → Keep (gset G2 A (.obj (.lst ws))) H' (gset G5 A (.obj (.lst ws))) H4 → DV X.K (gset G5 A (.obj (.lst ws))) H4 yv yd → G5 A = none → P (i + 1) (acc ++ [yd]) G5 →
          ∃ acc, H4 A = some (.lst acc) ∧ acc.length < sizeLine ∧ (i + 1 ≤ ds.length ∧ ∃ G2 ws acc', R3 X.K T (gset G2 A (.obj (.lst ws))) (upd H4 A (.lst (acc ++ [yv]))) ∧ (upd H4 A (.lst (acc ++ [yv]))) A = some (.lst ws) ∧ G2 A = none ∧ Keep G1 H1 (gset G2 A (.obj (.lst ws))) (upd H4 A (.lst (acc ++ [yv]))) ∧ DVs X.K (gset G2 A (.obj (.lst ws))) (upd H4 A (.lst (acc ++ [yv]))) ws acc' ∧ ws.length ≤ i + 1 ∧ P (i + 1) acc' G2) := by
        intro yv yd H4 G5 r4 k4 dy g5 q5
        have hA4 : H4 A = some (.lst ws) := (r4.cell A _ gset_same).1
        refine ⟨ws, hA4, by omega, hlt, G5, ws ++ [yv], acc ++ [yd], ?_, upd_same, g5, ?_, ?_, by rw [List.length_append]; exact Nat.add_le_add_right hl 1, q5⟩
        · have := R3.write (c := .obj (.lst (ws ++ [yv]))) (o := .lst (ws ++ [yv])) r4 (p := A) (by rw [gset_same]; simp) (fun u e => by rw [hA4] at e; cases e; exact ⟨fun _ z => (by cases z), fun _ z => (by cases z)⟩) ⟨upd_same, fun _ z => (by cases z), fun _ z => (by cases z), fun _ z => (by cases z)⟩
          rw [gset_gset] at this
          exact this
        · have := keep_write (G := gset G5 A (.obj (.lst ws))) (H := H4) (p := A) (o := .lst (ws ++ [yv])) (c := .obj (.lst (ws ++ [yv]))) (by rw [gset_same]; simp)
          rw [gset_gset] at this
          exact (k13.trans k4).trans this
        · have kw := keep_write (G := gset G5 A (.obj (.lst ws))) (H := H4) (p := A) (o := .lst (ws ++ [yv])) (c := .obj (.lst (ws ++ [yv]))) (by rw [gset_same]; simp)
          rw [gset_gset] at kw
          exact ((dacc.mono k3).mono k4 |>.mono kw).append (.cons (dy.mono kw) .nil)
      have finN : ∀ (H4 : Hp) (G5 : Gm), R3 X.K T (gset G5 A (.obj (.lst ws))) H4 → Keep (gset G2 A (.obj (.lst ws))) H' (gset G5 A (.obj (.lst ws))) H4 → G5 A = none → P (i + 1) acc G5 →
          (i + 1 ≤ ds.length ∧ ∃ G2 ws acc', R3 X.K T (gset G2 A (.obj (.lst ws))) H4 ∧ H4 A = some (.lst ws) ∧ G2 A = none ∧ Keep G1 H1 (gset G2 A (.obj (.lst ws))) H4 ∧ DVs X.K (gset G2 A (.obj (.lst ws))) H4 ws acc' ∧ ws.length ≤ i + 1 ∧ P (i + 1) acc' G2) := by
        intro H4 G5 r4 k4 g5 q5
        exact ⟨hlt, G5, ws, acc, r4, (r4.cell A _ gset_same).1, g5, k13.trans k4, (dacc.mono k3).mono k4, by omega, q5⟩
      -- the tests
      cases ifs with
      | nil =>
        intro s H0 Cc cl fp
        rw [show wTs (bX X scope s H0 Cc cl fp) [] = tYes from rfl]
        unfold tYes
        refine iteT ?_
        intro s H0 Cc cl fp
        have ht := (hturn s H0 Cc cl fp).1 rfl s H0 Cc cl fp
        refine xE.run (X := bX X scope s H0 Cc cl fp) ht p3 fun yv H4 yd G4 p4 k4 dy q4 => ?_
        obtain ⟨G5, e5, g5, q5⟩ := q4
        subst e5
        exact fin yv yd H4 G5 p4.r k4 dy g5 q5
      | cons c rest =>
        cases rest with
        | nil =>
          intro s0 H0 Cc cl fp
          refine xT.run (X := bX X scope s0 H0 Cc cl fp) (hturn s0 H0 Cc cl fp) p3 fun b H3 G3 p4 k4 q4 => ?_
          cases b with
          | true =>
            refine iteT ?_
            intro s5 H5 C5 cl5 fp5
            refine xE.run (X := bX X scope s5 H5 C5 cl5 fp5) (q4.1 rfl s5 H5 C5 cl5 fp5) p4 fun yv H6 yd G6 p6 k6 dy q6 => ?_
            obtain ⟨G5, e5, g5, q5⟩ := q6
            subst e5
            exact fin yv yd H6 G5 p6.r (k4.trans k6) dy g5 q5
          | false =>
            obtain ⟨G5, e5, g5, q5⟩ := q4.2 rfl
            subst e5
            exact iteF (finN H3 G5 p4.r k4 g5 q5)
        | cons _ _ =>
          exact False.elim (show False from hturn ({} : Shared) H1 0 [] [])
  · have e : i = ds.length := by omega
    subst e
    exact .inl ⟨y2, hq A H2 acc ws G2 r2 hA2 gA2 (k1.trans k2) dacc ((p.d.mono k1).mono k2) (hd _ _ q2)⟩
/-- the end of a comprehension: the list is frozen -/
theorem lc_frozen {K : PySem.W.Frag} {H' : Hp} {A : Addr} {acc : List D} {ws : List V} {G' : Gm} (r : R3 K T (gset G' A (.obj (.lst ws))) H') (hA : H' A = some (.lst ws)) (g : G' A = none) (d : DVs K (gset G' A (.obj (.lst ws))) H' ws acc) : R3 K T G' H' ∧ DV K G' H' (.ref A) (.lst acc) := by
  have kd := keep_del (G := gset G' A (.obj (.lst ws))) (H := H') (p := A)
  have rd := r.del (p := A)
  rw [gdel_gset g] at kd rd
  exact ⟨rd, .lst (.inl ⟨g, .inl hA⟩) (d.mono kd)⟩
/-- .. or owned -/
theorem lc_owned {K : PySem.W.Frag} {H' : Hp} {A : Addr} {acc : List D} {ws : List V} {G' : Gm} (r : R3 K T (gset G' A (.obj (.lst ws))) H') (hA : H' A = some (.lst ws)) (g : G' A = none) (d : DVs K (gset G' A (.obj (.lst ws))) H' ws acc) : R3 K T (gset G' A (.lst acc)) H' ∧ Keep (gset G' A (.obj (.lst ws))) H' (gset G' A (.lst acc)) H' := by
  have kp : Keep (gset G' A (.obj (.lst ws))) H' (gset G' A (.lst acc)) H' := fun a o e h _ => by
    have ne : a ≠ A := fun z => by rw [z, gset_same] at e; cases e
    rw [gset_ne ne] at e
    exact ⟨⟨o, h, .inl rfl⟩, by rw [gset_ne ne]; exact e⟩
  refine ⟨⟨fun a c e => ?_, r.tabs⟩, kp⟩
  by_cases z : a = A
  · subst z; rw [gset_same] at e; cases e; exact ⟨ws, hA, d.mono kp⟩
  · rw [gset_ne z] at e
    exact (r.cell a c (by rw [gset_ne z]; exact e)).mono kp rfl
variable {g : TG} {f : D → St3 → Option St3}
/-- [elt for tg in iter if ..]: a list that is not changed any more -/
theorem r_lc (hc : X.calm = true) (hN : X.N.Nodup) (ok : BlkOk X.N X.env.scope scope own) (hgd : TgD X.K g (own.map (·.2)) f)
    (hg : ∀ (s : Shared) (H : Hp) (C : Addr) (cl : List (Str × Addr)) (fp : List Addr), PG (bX X scope s H C cl fp) tg g)
    {Q : D → Gm → Prop} (h : xI T O X tg iter σ G (LcBody T O X scope own f ifs elt σ fun acc G' => Q (.lst acc) G')) (hs : ∀ x, foldedSetIterable iter X.env x = pure x := by intro _; rfl) : xE T O X (.ListComp elt [⟨tg, iter, ifs, 0⟩] scope pos) σ G Q := fun vs H p =>
  wE_of (pe_lc hc hN cI ok hg (fun s H C cl fp => ⟨fun pins s' σ' H' Q' I hh => cTs.run pins s' σ' H' Q' I (hh s H C cl fp)⟩) (fun s H C cl fp => ⟨fun pins s' σ' H' Q' I hh => cE.run pins s' σ' H' Q' I (hh s H C cl fp)⟩) hs)
    (lc_all hc hN ok hgd hg h p _ fun A H' acc ws G' r hA gA k d _ q => by
      obtain ⟨r1, dv⟩ := lc_frozen r hA gA d
      exact ⟨_, G', r1, keep_unown k gA, dv, q⟩)
theorem r_lcO (hc : X.calm = true) (hN : X.N.Nodup) (ok : BlkOk X.N X.env.scope scope own) (hgd : TgD X.K g (own.map (·.2)) f)
    (hg : ∀ (s : Shared) (H : Hp) (C : Addr) (cl : List (Str × Addr)) (fp : List Addr), PG (bX X scope s H C cl fp) tg g)
    {Q : D → Gm → Prop} (h : xI T O X tg iter σ G (LcBody T O X scope own f ifs elt σ fun acc G' => ∀ A, G' A = none → Q (.raw (.ref A)) (gset G' A (.lst acc)))) (hs : ∀ x, foldedSetIterable iter X.env x = pure x := by intro _; rfl) : xE T O X (.ListComp elt [⟨tg, iter, ifs, 0⟩] scope pos) σ G Q := fun vs H p =>
  wE_of (pe_lc hc hN cI ok hg (fun s H C cl fp => ⟨fun pins s' σ' H' Q' I hh => cTs.run pins s' σ' H' Q' I (hh s H C cl fp)⟩) (fun s H C cl fp => ⟨fun pins s' σ' H' Q' I hh => cE.run pins s' σ' H' Q' I (hh s H C cl fp)⟩) hs)
    (lc_all hc hN ok hgd hg h p _ fun A H' acc ws G' r hA gA k d _ q => by
      obtain ⟨r1, k1⟩ := lc_owned r hA gA d
      exact ⟨_, _, r1, k.trans k1, .raw _, q A gA⟩)
/-- name = [..] -/
theorem s_lc (i : Nat) {y : Str} {py spos : Pos} {D3 : Ends3} (hc : X.calm = true) (hN : X.N.Nodup) (hy : X.N[i]? = some y) (hyl : X.env.scope.names.lookup y = some .local)
    (hsw : swapsWith (.ListComp elt [⟨tg, iter, ifs, 0⟩] scope pos) (some (.Name y py)) spos.line X.env = pure true) (ok : BlkOk X.N X.env.scope scope own) (hgd : TgD X.K g (own.map (·.2)) f)
    (hg : ∀ (s : Shared) (H : Hp) (C : Addr) (cl : List (Str × Addr)) (fp : List Addr), PG (bX X scope s H C cl fp) tg g)
    (h : xI T O X tg iter σ G (LcBody T O X scope own f ifs elt σ fun acc G' => D3.nx (σ.set i (some (.lst acc))) G')) (hs : ∀ x, foldedSetIterable iter X.env x = pure x := by intro _; rfl) :
    xS T O X (.Assign [.Name y py] (.ListComp elt [⟨tg, iter, ifs, 0⟩] scope pos) spos) D3 σ G := fun vs H p =>
  wS_of (ps_setLc hc hN hy hyl hsw cI ok hg (fun s H C cl fp => ⟨fun pins s' σ' H' Q' I hh => cTs.run pins s' σ' H' Q' I (hh s H C cl fp)⟩) (fun s H C cl fp => ⟨fun pins s' σ' H' Q' I hh => cE.run pins s' σ' H' Q' I (hh s H C cl fp)⟩) hs)
    (lc_all hc hN ok hgd hg h p (fun x H1 => gName i x vs H1 _) fun A H' acc ws G' r hA gA k d dvs q => by
      obtain ⟨r1, dv⟩ := lc_frozen r hA gA d
      exact ⟨_, G', r1, keep_unown k gA, (p.d.mono (keep_unown k gA)).set dv i, q⟩)
end
end L3
end
section
/-! L3: defs, calls, what they raise. -/
namespace L3
open PySem PySem.Spec PyProof.Rows L2
/-! ### what is wished of an exception -/
abbrev W3T := Value → List (Str × D) → St3 → Gm → Prop
def ExD (K : PySem.W.Frag) (G : Gm) (H : Hp) (d : Option Addr) (fs : List (Str × D)) : Prop :=
  (d = none ∧ fs = []) ∨ ∃ a ws, d = some a ∧ G a = none ∧ H a = some (.xd ws) ∧ Paired (fun (p : Str × V) (q : Str × D) => p.1 = q.1 ∧ DV K G H p.2 q.2) ws fs
theorem ExD.mono {K : PySem.W.Frag} {G G' : Gm} {H H' : Hp} (k : Keep G H G' H') {d : Option Addr} {fs : List (Str × D)} (h : ExD K G H d fs) : ExD K G' H' d fs := by
  rcases h with h | ⟨a, ws, e, g, hx, p⟩
  · exact .inl h
  · obtain ⟨⟨o', h1, l⟩, g1⟩ := k a _ g hx (fun _ z => by cases z)
    rcases l with rfl | ⟨d, _⟩
    · exact .inr ⟨a, ws, e, g1, h1, L2.Paired.mapP p fun x y z => ⟨z.1, z.2.mono k⟩⟩
    · rcases d with ⟨k, d⟩ | ⟨k, d⟩ <;> cases d
def low (K : PySem.W.Frag) (T : List (Addr × Str)) (O : Org) (W : W3T) : WX := fun cls d vs H => ∃ fs σ G, R3 K T G H ∧ Keep O.1 O.2 G H ∧ DVo K G H vs σ ∧ ExD K G H d fs ∧ W cls fs σ G
abbrev noW : W3T := fun _ _ _ _ => False
theorem low_no {K : PySem.W.Frag} {T : List (Addr × Str)} {O : Org} {X : Cx} : Takes X (low K T O noW) := fun u s' x => by
  obtain ⟨_, _, _, _, _, _, _, _, _, _, _, _, _, _, _, _, z⟩ := x
  obtain ⟨_, _, _, _, _, _, _, z⟩ := z
  exact z.elim
/-- what a body may lean on -/
structure Ctx (T : List (Addr × Str)) (O : Org) (X : Cx) (k : Nat) (g : Bool) (W : W3T) : Prop where
  calm : X.calm = true
  nd : X.N.Nodup
  rm : Room k X.A
  gd : g = true → X.A.guards = some []
  po : PassesOwn (model X.prog X.w) X.A X.env X.xe
  tk : Takes X (low X.K T O W)
theorem Ctx.blk {T : List (Addr × Str)} {O : Org} {X : Cx} {k : Nat} {g : Bool} {W : W3T} (c : Ctx T O X k g W) (scope : Scope) (s : Shared) (H : Hp) (Cc : Addr) (cl : List (Str × Addr)) (fp : List Addr) : Ctx T O (bX X scope s H Cc cl fp) k g noW :=
  ⟨c.calm, c.nd, c.rm, c.gd, .never, low_no⟩
theorem Ctx.hu {T : List (Addr × Str)} {O : Org} {X : Cx} {k : Nat} {g : Bool} {W : W3T} (c : Ctx T O X k g W) : X.A.units + 1 < cLine := hu_of c.rm

/-! ### promises -/
abbrev Sp3 := List D → Gm → (D → Gm → Prop) → (Value → List (Str × D) → Gm → Prop) → Prop
def lift (K : PySem.W.Frag) (T : List (Addr × Str)) (sp : Sp3) : Sp := fun vs H Q E => ∃ ds G Q3 E3, R3 K T G H ∧ DVs K G H vs ds ∧ sp ds G Q3 E3 ∧ (∀ v d G' H', Q3 d G' → R3 K T G' H' → Keep G H G' H' → DV K G' H' v d → Q v H') ∧
  ∀ cls fs dd G' H', E3 cls fs G' → R3 K T G' H' → Keep G H G' H' → ExD K G' H' dd fs → E cls dd H'
/-- as FnOk, where no repr is under way around the call -/
structure FnG (P : Program) (w : World) (K : PySem.W.Frag) (mg : Str → Option Value) (base : Heap) (k : Nat) (g : Bool) (f : Addr) (fd : FuncData) (ps : List Str) (sp : Sp) : Prop where
  len : ∀ vs H Q E, sp vs H Q E → vs.length = ps.length
  run : ∀ (A : Around) (outer : List Env) (s : Shared) (H : Hp) (args : Args) (us : List Value) (vs : List V) (Q : VK) (E : XK), Room k A → (g = true → A.guards = some []) → Env0 P w K mg base A outer s H → BindsTo s fd args (ps.zip us) → Vals vs us → sp vs H Q E →
    codeAny (model P w) A (.call (.ref f) args) (CR (L2.CX P w) outer P w H s Q E) s
structure Def3 (P : Program) (w : World) (K : PySem.W.Frag) (mg : Str → Option Value) (base : Heap) (T : List (Addr × Str)) (k : Nat) (g : Bool) (x : Str) (ps : List Str) (sp : Sp3) : Prop where
  ex : ∃ f fd, FnG P w K mg base k g f fd ps (lift K T sp) ∧ mg x = some (.ref f) ∧ PySem.W.keepIn K (.ref f) = true ∧ Binds K fd ps []
section
variable {T : List (Addr × Str)} {O : Org} {X : Cx} {σ : St3} {G : Gm} {e : Expr} {es : List Expr} {pos p : Pos} {k j : Nat} {g g' : Bool} {W : W3T} {x : Str} {ps : List Str} {sp : Sp3} {Q : D → Gm → Prop}
theorem runG {pins : List (Addr × Obj)} {vs : L2.St} {H H0 : Hp} {s : Shared} {us : List Value} {xs : List V} {ds : List D} {f : Addr} {fd : FuncData} {G0 : Gm} (c : Ctx T O X k g W) (F : FnG X.prog X.w X.K X.mg X.base j g' f fd ps (lift X.K T sp)) (hj : j ≤ k) (hgg : g' = true → g = true) (hb : Binds X.K fd ps [])
    (I : Inv X pins vs H s) (pr : Pre X.K T O σ G vs H) (r : Vals xs us) (dv : DVs X.K G H xs ds) (k0 : Keep G0 H0 G H) (h : sp ds G Q (fun cls fs G2 => W cls fs σ G2)) : wpAny (model X.prog X.w) X.A (call (.ref f) us) (EP X pins vs (upE X.K T G0 H0 Q)) X.xe s := by
  have hsp : lift X.K T sp xs H (upE X.K T G0 H0 Q) (fun cls d H' => low X.K T O W cls d vs H') := ⟨ds, G, Q, _, pr.r, dv, h, fun v d G' H' q r' k' dv' => ⟨d, G', r', k0.trans k', dv', q⟩,
    fun cls fs dd G' H' q r' k' ex => ⟨fs, σ, G', r', pr.k.trans k', pr.d.mono k', ex, q⟩⟩
  have hl : us.length = ps.length := by rw [← r.length]; exact F.len _ _ _ _ hsp
  have b := hb s us I.kIn (by rw [List.append_nil]; exact hl)
  rw [List.append_nil] at b
  refine wpAny_call (codeAny_mono (F.run X.A X.stack s H ⟨us, []⟩ us xs _ _ (c.rm.mono hj) (fun z => c.gd (hgg z)) I.env0 b r hsp) fun r' s' hq => ?_)
  cases r' with
  | error er => exact passAt c.tk vs pins H s er s' I hq
  | ok fl =>
    cases fl with
    | ret u => exact I.after hq
    | next => exact False.elim hq
    | brk => exact False.elim hq
    | cont => exact False.elim hq
/-- f(e, ..) -/
theorem r_call (c : Ctx T O X k g W) (F : Def3 X.prog X.w X.K X.mg X.base T j g' x ps sp) (hj : j ≤ k) (hgg : g' = true → g = true) (hg : Gl X x) (h : xA T O X (e :: es) σ G fun ds G1 => sp ds G1 Q (fun cls fs G2 => W cls fs σ G2))
    (hdb : (x == ("__debug__" : Str)) = false := by decide) (he : starEach (e :: es) X.env = (false, eval e X.env) :: starEach es X.env := by rfl) (hpl : (backTo pos (starEach es X.env)).any (·.1) = false := by rfl) :
    xE T O X (.Call (.Name x p) (e :: es) [] pos) σ G Q := fun vs H pr pins s I => by
  obtain ⟨f, fd, F, hm, hk, hb⟩ := F.ex
  refine wpAny_Call_Name_kw (ld_glob I hg hm ?_ hdb)
  refine PySem.W.callWith_K (h₀ := X.base) I.ok.mod.kin hk (thn (h.run pr (Q := fun xs H1 => ∃ ds G1, Pre X.K T O σ G1 vs H1 ∧ Keep G H G1 H1 ∧ DVs X.K G1 H1 xs ds ∧ sp ds G1 Q (fun cls fs G2 => W cls fs σ G2)) (fun v H1 d G1 p1 k1 dv q => ⟨d, G1, p1, k1, dv, q⟩) pos pins s I) fun us s1 h1 => ?_) he hpl
  obtain ⟨xs, H1, I1, r1, ds, G1, p1, k1, dv, q⟩ := h1
  exact ⟨I1.kIn, runG c F hj hgg hb I1 p1 r1 dv k1 q⟩
theorem r_call0 (c : Ctx T O X k g W) (F : Def3 X.prog X.w X.K X.mg X.base T j g' x ps sp) (hj : j ≤ k) (hgg : g' = true → g = true) (hg : Gl X x) (h : sp [] G Q (fun cls fs G2 => W cls fs σ G2))
    (hdb : (x == ("__debug__" : Str)) = false := by decide) : xE T O X (.Call (.Name x p) [] [] pos) σ G Q := fun vs H pr pins s I => by
  obtain ⟨f, fd, F, hm, hk, hb⟩ := F.ex
  refine wpAny_Call_Name_kw (ld_glob I hg hm ?_ hdb)
  exact PySem.W.callWith_K0 I.kIn hk (runG (us := []) c F hj hgg hb I pr .nil .nil (.refl _ _) h)
end

/-! ### a def by its body -/
def start3 (N : List Str) (ds : List D) : St3 := ds.map some ++ List.replicate (N.length - ds.length) none
theorem dvo_some {K : PySem.W.Frag} {G : Gm} {H : Hp} : ∀ {vs : List V} {ds : List D}, DVs K G H vs ds → DVo K G H (vs.map some) (ds.map some)
  | _, _, .nil => trivial
  | _, _, .cons a b => ⟨fun x e => by cases e; exact ⟨_, rfl, a⟩, dvo_some b⟩
theorem dvo_none {K : PySem.W.Frag} {G : Gm} {H : Hp} : ∀ n : Nat, DVo K G H (List.replicate n none) (List.replicate n none)
  | 0 => trivial
  | n + 1 => ⟨fun x e => (by cases e), dvo_none n⟩
theorem dvo_append {K : PySem.W.Frag} {G : Gm} {H : Hp} : ∀ {a : L2.St} {b : St3} {c : L2.St} {d : St3}, DVo K G H a b → DVo K G H c d → DVo K G H (a ++ c) (b ++ d)
  | [], [], _, _, _, h => h
  | _ :: _, _ :: _, _, _, h, h' => ⟨h.1, dvo_append h.2 h'⟩
  | [], _ :: _, _, _, h, _ => h.elim
  | _ :: _, [], _, _, h, _ => h.elim
theorem start_dv {K : PySem.W.Frag} {G : Gm} {H : Hp} {N : List Str} {vs : List V} {ds : List D} (h : DVs K G H vs ds) : DVo K G H (L2.start N vs) (start3 N ds) := by
  unfold L2.start start3
  rw [h.length]
  exact dvo_append (dvo_some h) (dvo_none _)
theorem guards_in {A : Around} {qual : Str} {scope : Scope} {L f : Addr} {cd : Value} (h : A.guards = some []) : (A.deeper (envOfC qual scope L f cd)).guards = some [] := by
  first | exact h | simpa [Around.deeper, Around.under, pushGuards] using h
section
variable {P : Program} {w : World} {K : PySem.W.Frag} {mg : Str → Option Value} {base : Heap} {T : List (Addr × Str)}
theorem fnG_of {k : Nat} {g : Bool} {f : Addr} {name qual : Str} {params : Arguments} {body : List Stmt} {scope : Scope} {dV kV doc pm cdv ct oc : Value} {an od : Option Addr} {osl : Array (Option Value)} {N ps : List Str} {sp : Sp}
    (lk : K.lookup f = some ⟨oc, od, .func (PySem.W.fnOf name qual params body scope dV kV doc pm an cdv ct), osl⟩) (hcd : PySem.W.codeIn K cdv qual = true) (S : FnScope N ps scope) (len : ∀ vs H Q E, sp vs H Q E → vs.length = ps.length)
    (hbody : ∀ (A : Around) (outer : List Env) (s : Shared) (H : Hp) (vs : List V) (Q : VK) (E : XK), Room k (A.deeper (envOfC qual scope s.heap.objs.size f cdv)) → (g = true → A.guards = some []) → sp vs H Q E →
      wB (cxOf (L2.CX P w) P w K mg base N qual scope f cdv A outer s H E) body { nx := fun _ H' => Q .non H', rt := Q } (L2.start N vs) H) :
    FnG P w K mg base (k + 1) g f (PySem.W.fnOf name qual params body scope dV kV doc pm an cdv ct) ps sp :=
  ⟨len, fun A outer s H args us vs Q E hr hgd e0 hb r hsp => LamX.run_ofS lk hcd S hr e0 hb r (len _ _ _ _ hsp) fun hr' => ⟨_, cB, hbody A outer s H vs Q E hr' hgd hsp⟩⟩
/-- a def as it stands behind the top, its code object told -/
structure Fun1 (K : PySem.W.Frag) (x qual : Str) (st : Stmt) (f : Addr) (fd : FuncData) (cdv : Value) (ps : List Str) : Prop where
  ex : ∃ (oc : Value) (od : Option Addr) (dV kV doc pm : Value) (an : Option Addr) (ct : Value) (osl : Array (Option Value)),
    fd = PySem.W.fnOf x qual (defArgs st) (defBody st) (defScope st) dV kV doc pm an cdv ct ∧ K.lookup f = some ⟨oc, od, .func fd, osl⟩
  cd : PySem.W.codeIn K cdv qual = true
  kp : PySem.W.keepIn K (.ref f) = true
  bd : Binds K fd ps []
theorem def_okG {x qual : Str} {st : Stmt} {f : Addr} {fd : FuncData} {cdv : Value} {N ps : List Str} {k : Nat} {g : Bool} {sp : Sp3} (F : Fun1 K x qual st f fd cdv ps) (S : FnScope N ps (defScope st)) (len : ∀ ds G Q E, sp ds G Q E → ds.length = ps.length)
    (hbody : ∀ (A : Around) (outer : List Env) (s : Shared) (H : Hp) (E : XK) (O : Org) (ds : List D) (G : Gm) (Q3 : D → Gm → Prop) (E3 : Value → List (Str × D) → Gm → Prop),
      Ctx T O (cxOf (L2.CX P w) P w K mg base N qual (defScope st) f cdv A outer s H E) k g (fun cls fs _ G' => E3 cls fs G') → sp ds G Q3 E3 →
      xB T O (cxOf (L2.CX P w) P w K mg base N qual (defScope st) f cdv A outer s H E) (defBody st) { nx := fun _ G' => Q3 .non G', rt := Q3 } (start3 N ds) G) : FnG P w K mg base (k + 1) g f fd ps (lift K T sp) := by
  obtain ⟨oc, od, dV, kV, doc, pm, an, ct, osl, rfl, lk⟩ := F.ex
  refine fnG_of lk F.cd S (fun vs H Q E h => ?_) fun A outer s H vs Q E hr hgd hsp => ?_
  · obtain ⟨ds, G, Q3, E3, _, dv, h, _⟩ := h
    rw [dv.length]
    exact len _ _ _ _ h
  · obtain ⟨ds, G, Q3, E3, r, dv, h, hQ, hE⟩ := hsp
    have cx : Ctx T (G, H) (cxOf (L2.CX P w) P w K mg base N qual (defScope st) f cdv A outer s H E) k g (fun cls fs _ G' => E3 cls fs G') :=
      ⟨rfl, S.nd, hr, fun z => guards_in (hgd z), passes_of (K := fun e s'' => L2.CX P w outer H s E e s'') rfl, (takes_of (E := E) rfl rfl rfl rfl).imp fun cls d vs' H' h' => by
        obtain ⟨fs, σ', G', r', k', _, ex, q⟩ := h'
        exact hE cls fs d G' H' q r' k' ex⟩
    have b := hbody A outer s H E (G, H) ds G Q3 E3 cx h (L2.start N vs) H ⟨r, .refl _ _, start_dv dv⟩
    refine b.mono ⟨fun us H' h' => ?_, fun v H' h' => ?_, fun us H' h' => ?_, fun us H' h' => ?_⟩
    · obtain ⟨σ', G', r', k', _, q⟩ := h'
      exact hQ .non .non G' H' q r' k' .non
    · obtain ⟨d, G', r', k', dv', q⟩ := h'
      exact hQ v d G' H' q r' k' dv'
    · obtain ⟨_, _, _, _, _, q⟩ := h'
      exact q
    · obtain ⟨_, _, _, _, _, q⟩ := h'
      exact q
theorem def_ok {x qual : Str} {st : Stmt} {f : Addr} {fd : FuncData} {cdv : Value} {N ps : List Str} {k : Nat} {g : Bool} {sp : Sp3} (F : Fun1 K x qual st f fd cdv ps) (S : FnScope N ps (defScope st)) (gm : mg x = some (.ref f)) (len : ∀ ds G Q E, sp ds G Q E → ds.length = ps.length)
    (hbody : ∀ (A : Around) (outer : List Env) (s : Shared) (H : Hp) (E : XK) (O : Org) (ds : List D) (G : Gm) (Q3 : D → Gm → Prop) (E3 : Value → List (Str × D) → Gm → Prop),
      Ctx T O (cxOf (L2.CX P w) P w K mg base N qual (defScope st) f cdv A outer s H E) k g (fun cls fs _ G' => E3 cls fs G') → sp ds G Q3 E3 →
      xB T O (cxOf (L2.CX P w) P w K mg base N qual (defScope st) f cdv A outer s H E) (defBody st) { nx := fun _ G' => Q3 .non G', rt := Q3 } (start3 N ds) G) : Def3 P w K mg base T (k + 1) g x ps sp :=
  ⟨f, fd, def_okG F S len hbody, gm, F.kp, F.bd⟩
end
end L3
end
section
/-! L3: own exceptions made and raised; several clauses «except X as n». -/
namespace L3
open PySem PySem.Spec PyProof.Rows L2
/-! ### several clauses with the one name n, in the slot i -/
def wClauses (K : PySem.W.Frag) (i : Nat) (Wout : WX) (D : Ends) : List (Value × (Addr → Value → Option Addr → TS)) → WX
  | [] => Wout
  | (c, ts) :: r => fun cls d σ H => ∃ b, PySem.W.exmOne K cls c = some b ∧
      (b = true → ∀ a, H a = none → ts a cls d { nx := fun u Z => D.nx (u.set i none) Z, rt := D.rt, bk := fun u Z => D.bk (u.set i none) Z, ct := fun u Z => D.ct (u.set i none) Z } (σ.set i (some (.ref a))) H) ∧
      (b = false → wClauses K i Wout D r cls d σ H)
inductive ClausesOk (X : Cx) (n : Str) : List ExceptHandler → List (Value × (Addr → Value → Option Addr → TS)) → Prop
  | nil : ClausesOk X n [] []
  | cons {x : Str} {c : Value} {ts : Addr → Value → Option Addr → TS} {st : Stmt} {sts : List Stmt} {q1 q2 : Pos} {cl : List ExceptHandler} {l : List (Value × (Addr → Value → Option Addr → TS))} (hc : Names X x c)
      (hs : ∀ (a : Addr) (oe : Obj) (cls : Value) (d : Option Addr) (pn : List (Addr × Obj)), Zc cls d oe → (∃ fs, oe.data = .fields fs) → PSs (X.suite a ((a, oe) :: pn)) (st :: sts) (ts a cls d)) (r : ClausesOk X n cl l) :
      ClausesOk X n (.ExceptHandler (some (.Name x q1)) (some n) (st :: sts) q2 :: cl) ((c, ts) :: l)
section
variable {X : Cx} {n : Str} {i : Nat} {bdy : List Stmt} {k₀ : ExceptHandler} {cl : List ExceptHandler} {l : List (Value × (Addr → Value → Option Addr → TS))} {pos : Pos} {rd : WX → TS} {Wo : WX}
/-- an exception that no clause takes goes on -/
theorem goes_on {pins : List (Addr × Obj)} {D : Ends} {a : Addr} {B h3 : Heap} {sI s' : Shared} {σ' : L2.St} {H' : Hp} {cls : Value} {d : Option Addr} (hs : X.stack = X.env :: X.outer) (hf : X.env.frame = some X.env.locals) (tk : Takes X Wo)
    (J : Inv X pins σ' H' sI) (nb : ∀ b o, sI.heap.get? b = some o → b ∉ frs X.stack → B.get? b = some o) (up : sI.heap.UpToSlots s'.heap) (up3 : s'.heap.UpToSlots h3) (fl : HandSPX.FlyingZ B (X.env :: X.outer) a (Zc cls d) h3)
    (na : H' a = none) (os : s'.os = sI.os) (ag : AllBare s'.gens) (w : Wo cls d σ' H') : wpAny (model X.prog X.w) X.A (handleBy (.ref a) X.env []) (SP X pins D) X.xe { s' with heap := h3 } := by
  refine wpAny_handleBy_nil ?_
  obtain ⟨k1, k2, k3, oe, vs, T, oT, ts', he, hz, hd, h1, hr⟩ := id fl
  unfold PySem.passOn
  refine wpAny_bind (wpAny_field he hd h1 ?_)
  rw [if_neg (show ¬ ((Value.ref T == Value.none) = true) from by simp)]
  have fin : wpAny (model X.prog X.w) X.A (setFlight (.ref a) X.env.frame) (fun _ s4 => wpAny (model X.prog X.w) X.A (throw (.ref a) : Sem Flow) (SP X pins D) X.xe s4) X.xe { s' with heap := h3 } := by
    rw [hf]
    refine HandSPX.setFlight_upZ fl fun h4 hh4 up4 => wpAny_throw (tk _ _ ?_)
    exact ⟨a, B, sI, pins, σ', H', cls, d, rfl, J, nb, (up.trans up3).trans up4, .inr (.inr (by rw [hs]; exact hh4)), na, os, ag, w⟩
  first
    | exact wpAny_bind fin
    | exact wpAny_bind (wpAny_pure (wpAny_bind fin))
theorem try_clauses (hs : X.stack = X.env :: X.outer) (hf : X.env.frame = some X.env.locals) (hN : X.N.Nodup) (hi : X.N[i]? = some n) (hln : X.env.kindOf n = some .local) (tk : Takes X Wo)
    (hb : ∀ (W : WX) (pn : List (Addr × Obj)) (xe : Value → Shared → Prop), Takes (X.tr pn xe) W → PassesOwn (model X.prog X.w) X.A X.env xe → PSs (X.tr pn xe) bdy (rd W))
    (hh : ClausesOk X n (k₀ :: cl) l) : PS X (.Try bdy (k₀ :: cl) [] [] pos) (fun D σ H => rd (wClauses X.K i Wo D l) D σ H) := by
  refine ⟨fun pins s σ H D I h => ?_⟩
  have iok := I.ok
  have frs0 : X.A.frames = some (X.env :: X.outer) := by rw [iok.frames, hs]
  refine wpAny_Try_except ?_
  refine wpAny_mono ((hb (wClauses X.K i Wo D l) (X.pn ++ pins) (fun e z1 => wpAny (model X.prog X.w) X.A (noteFrame e X.env) (fun _ z2 => wpAny (model X.prog X.w) X.A (setFlight e none) (fun _ z3 =>
    wpAny (model X.prog X.w) X.A (handleBy e X.env (k₀ :: cl)) (SP X pins D) X.xe z3) X.xe z2) X.xe z1) (fun u z y => ?_) PassesOwn.looking).run [] s σ H D (I.toTry _) h) (fun f z1 hq => ?_) (fun _ _ q => q)
  · obtain ⟨a, B, sI, pins', σ', H', cls, d, rfl, J', nb, up, sky, na, os, ag, w⟩ := y
    have J : Inv X pins σ' H' sI := J'.ofTry iok
    have skyX : Sky B (X.env :: X.outer) a (Zc cls d) X.env.locals z.heap := hs ▸ sky
    show wpAny (model X.prog X.w) X.A (noteFrame (.ref a) X.env) _ _ _
    refine Sky.land Zc.steady frs0 hf skyX fun h3 fl3 up3 => ?_
    have J3 : Inv X pins σ' H' { z with heap := h3 } := J.landed nb fl3.1 (up.trans up3) os ag
    obtain ⟨ob3, fs3, g3, z3, dt3⟩ := fl3.there
    have off : a ∉ frs (X.env :: X.outer) := fun hm => by
      obtain ⟨_, o2, g2, no⟩ := fl3.2.2.1.mem hm
      rw [g3] at g2
      cases g2
      exact no _ dt3
    have offL : a ≠ X.env.locals := fun q => off (List.mem_filterMap.mpr ⟨X.env, List.mem_cons_self, by rw [hf, q]⟩)
    have offF : a ∉ X.fs := fun hm => by
      obtain ⟨e, he, q⟩ := List.mem_filterMap.mp hm
      exact off (List.mem_filterMap.mpr ⟨e, List.mem_cons_of_mem _ he, q⟩)
    have S3 := J3.suite g3 dt3 na offL offF
    have walk : ∀ {ks : List ExceptHandler} {m : List (Value × (Addr → Value → Option Addr → TS))}, ClausesOk X n ks m → wClauses X.K i Wo D m cls d σ' H' →
        wpAny (model X.prog X.w) X.A (handleBy (.ref a) X.env ks) (SP X pins D) X.xe { z with heap := h3 } := by
      intro ks m ck
      induction ck with
      | nil => exact fun w => goes_on (pins := pins) hs hf tk J nb up up3 fl3 na os ag w
      | @cons x c ts st sts q1 q2 ks2 m2 hc hsu r ih =>
        intro w
        obtain ⟨b, hb1, yes, no⟩ := w
        refine wpAny_handleBy_cons (codeAny_handlers_test ?_) (by intro q; cases q)
        have ty : PySem.W.Looks (model X.prog X.w) h3 (typeOf (.ref a)) cls := fun A Q E s k q => wpAny_typeOf_ref (k _ _ g3) (by rw [z3.1]; exact q)
        have mt := PySem.W.exm_one (M := model X.prog X.w) (J3.kIn) ty hb1
        have read : ∀ {Q : Value → Shared → Prop} {E : Value → Shared → Prop}, Q c { z with heap := h3 } → wpAny (model X.prog X.w) (X.A.mark (some (.ref a))) (eval (.Name x q1) X.env) Q E { z with heap := h3 } := fun {Q E} q => by
          obtain ⟨hg, hd0, hm | ⟨hm, hv, hn0⟩⟩ := hc
          · exact ld_glob (X := X.suite a ((a, ob3) :: (X.pn ++ pins))) S3 hg hm q hd0
          · exact ld_blt (X := X.suite a ((a, ob3) :: (X.pn ++ pins))) S3 hg hm hv q hn0 hd0
        refine read (mt.here ?_)
        cases b with
        | false =>
          show wpAny _ X.A (handleBy (.ref a) X.env ks2) _ _ _
          exact ih (no rfl)
        | true =>
          refine codeAny_handlers_suite_as ?_
          refine HandSPX.lands_againZ fl3 fun h4 fl4 up4 => ?_
          have J4 : Inv X pins σ' H' { z with heap := h4 } := J.landed nb fl4.1 ((up.trans up3).trans up4) os ag
          obtain ⟨ob4, fs4, g4, z4, dt4⟩ := fl4.there
          have S4 := J4.suite g4 dt4 na offL offF
          refine store_ok (X := X.suite a ((a, ob4) :: (X.pn ++ pins))) (v := .ref a) S4 hN hi (.inl hln) rfl (fun s5 S5 => ?_) (.inr hln)
          refine wpAny_mono ((hsu a ob4 cls d (X.pn ++ pins) z4 ⟨_, dt4⟩).run [] s5 _ H' _ S5 (yes rfl a na)) (fun f s6 hq => ?_) (fun _ _ q => False.elim q)
          have over : ∀ {σ6 : L2.St} {H6 : Hp} {Q : Shared → Prop}, Inv (X.suite a ((a, ob4) :: (X.pn ++ pins))) [] σ6 H6 s6 → (∀ s7, Inv X pins (σ6.set i none) H6 s7 → Q s7) →
              wpAny (model X.prog X.w) X.A (do bindName X.env n .none; unbindBehindTheSuite X.env n q2) (fun _ s7 => Q s7) X.xe s6 := fun {σ6 H6 Q} S6 q => gone_ok (S6.unsuite iok) hN hi hln q
          cases f with
          | next => obtain ⟨σ6, H6, S6, q6⟩ := hq; exact over S6 fun s7 J7 => ⟨_, _, J7, q6⟩
          | brk => obtain ⟨σ6, H6, S6, q6⟩ := hq; exact over S6 fun s7 J7 => ⟨_, _, J7, q6⟩
          | cont => obtain ⟨σ6, H6, S6, q6⟩ := hq; exact over S6 fun s7 J7 => ⟨_, _, J7, q6⟩
          | ret u => obtain ⟨v6, σ6, H6, S6, r6, q6⟩ := hq; exact over S6 fun s7 J7 => ⟨_, _, _, J7, r6, q6⟩
    exact walk hh w
  · cases f with
    | next => obtain ⟨σ', H', J', q⟩ := hq; exact wpAny_execs_nil ⟨σ', H', J'.ofTry iok, q⟩
    | brk => obtain ⟨σ', H', J', q⟩ := hq; exact ⟨σ', H', J'.ofTry iok, q⟩
    | cont => obtain ⟨σ', H', J', q⟩ := hq; exact ⟨σ', H', J'.ofTry iok, q⟩
    | ret u => obtain ⟨v, σ', H', J', r, q⟩ := hq; exact ⟨v, σ', H', J'.ofTry iok, r, q⟩
end

/-! ### an exception's own __init__: self.f = f, self.g = g -/
/-- the promise of __init__: the fields' values in the own dict, the last one ahead -/
def spInit (C : Addr) (fs : List Str) : Sp := fun vs H Q _ => ∃ (a : Addr) (ws : List V), vs = .ref a :: ws ∧ ws.length = fs.length ∧ H a = some (exo a C none) ∧
  ∀ d H', H d = none → d ≠ a → H' a = some (exo a C (some d)) → H' d = some (exd d (fs.zip ws).reverse) → (∀ b, b ≠ a → b ≠ d → H' b = H b) → Q .non H'
section
variable {P : Program} {w : World} {K : PySem.W.Frag} {mg : Str → Option Value} {base : Heap} {st : Stmt} {fI C : Addr} {fd : FuncData} {qual : Str}
theorem init_one {f1 : Str} {q1 q2 q3 q4 : Pos} (F : FunD K "__init__" qual (defArgs st) (defBody st) (defScope st) [] [] fI fd) (S : FnScope ["self", f1] ["self", f1] (defScope st)) (OC : OexC K C) (no1 : PySem.W.findIn K (.ref C) f1 = some none)
    (hst : defBody st = [.Assign [.Attribute (.Name "self" q1) f1 q2] (.Name f1 q3) q4]) (v0 : Vis (defScope st) "self") (v1 : Vis (defScope st) f1) (d1 : (f1 == ("__debug__" : Str)) = false) (c1 : (f1 == ("__classdict__" : Str)) = false) :
    FnOk P w K mg base CX0 1 fI fd ["self", f1] (spInit C [f1]) := by
  refine F.ok S (fun vs H Q E h => ?_) (fun cdvI A outer s H vs Q E hr h => ?_)
  · obtain ⟨a, ws, rfl, hl, _⟩ := h
    simpa using hl
  · obtain ⟨a, ws, rfl, hl, ha, k⟩ := h
    match ws, hl with
    | [y], _ =>
      rw [hst]
      refine ⟨_, PSs.nox (pss_one (ps_ost (pv 0 (hv := v0)) (pv 1 (hv := v1) (hd := d1) (hcd := c1)) (by rfl))), ?_⟩
      refine ⟨_, rfl, _, rfl, a, C, rfl, OC, no1, .inl ⟨ha, fun dx hd ne => ?_⟩⟩
      refine k dx _ hd ne upd_same ((upd_ne ne).trans upd_same) fun b h1 h2 => ?_
      rw [upd_ne h1, upd_ne h2]
theorem init_two {f1 f2 : Str} {q1 q2 q3 q4 q5 q6 q7 q8 : Pos} (F : FunD K "__init__" qual (defArgs st) (defBody st) (defScope st) [] [] fI fd) (S : FnScope ["self", f1, f2] ["self", f1, f2] (defScope st)) (OC : OexC K C) (no1 : PySem.W.findIn K (.ref C) f1 = some none) (no2 : PySem.W.findIn K (.ref C) f2 = some none)
    (hst : defBody st = [.Assign [.Attribute (.Name "self" q1) f1 q2] (.Name f1 q3) q4, .Assign [.Attribute (.Name "self" q5) f2 q6] (.Name f2 q7) q8]) (v0 : Vis (defScope st) "self") (v1 : Vis (defScope st) f1) (v2 : Vis (defScope st) f2)
    (d1 : (f1 == ("__debug__" : Str)) = false) (c1 : (f1 == ("__classdict__" : Str)) = false) (d2 : (f2 == ("__debug__" : Str)) = false) (c2 : (f2 == ("__classdict__" : Str)) = false) :
    FnOk P w K mg base CX0 1 fI fd ["self", f1, f2] (spInit C [f1, f2]) := by
  refine F.ok S (fun vs H Q E h => ?_) (fun cdvI A outer s H vs Q E hr h => ?_)
  · obtain ⟨a, ws, rfl, hl, _⟩ := h
    simpa using hl
  · obtain ⟨a, ws, rfl, hl, ha, k⟩ := h
    match ws, hl with
    | [y, z], _ =>
      rw [hst]
      refine ⟨_, PSs.nox (pss_cons (ps_ost (pv 0 (hv := v0)) (pv 1 (hv := v1) (hd := d1) (hcd := c1)) (by rfl)) (pss_one (ps_ost (pv 0 (hv := v0)) (pv 2 (hv := v2) (hd := d2) (hcd := c2)) (by rfl)))), ?_⟩
      refine ⟨_, rfl, _, rfl, a, C, rfl, OC, no1, .inl ⟨ha, fun dx hd ne => ?_⟩⟩
      refine ⟨_, rfl, _, rfl, a, C, rfl, OC, no2, .inr ⟨dx, _, upd_same, (upd_ne ne).trans upd_same, (by show 1 ≤ 900; decide), ?_⟩⟩
      refine k dx _ hd ne ((upd_ne (Ne.symm ne)).trans upd_same) upd_same fun b h1 h2 => ?_
      rw [upd_ne h2, upd_ne h1, upd_ne h2]
end
/-- an own exception class at C -/
structure Exc3 (P : Program) (w : World) (K : PySem.W.Frag) (mg : Str → Option Value) (base : Heap) (x : Str) (C : Addr) (fs : List Str) : Prop where
  oc : OexC K C
  xf : XfC K C
  no : ∀ f ∈ fs, PySem.W.findIn K (.ref C) f = some none
  gm : mg x = some (.ref C)
  ini : ∃ fI fd, PySem.W.findIn K (.ref C) "__init__" = some (some (.ref fI)) ∧ PySem.W.typeIn K (.ref fI) = some (.type "function") ∧ FnOk P w K mg base CX0 1 fI fd ("self" :: fs) (spInit C fs) ∧ Binds K fd ("self" :: fs) []
section
variable {T : List (Addr × Str)} {O : Org} {X : Cx} {σ : St3} {G : Gm} {e : Expr} {es : List Expr} {pos pos2 p : Pos} {k : Nat} {g : Bool} {W : W3T} {x : Str} {C : Addr} {fs : List Str} {D3 : Ends3}
theorem paired_zip {K : PySem.W.Frag} {H : Hp} : ∀ {fs : List Str} {vs : List V} {ds : List D}, DVs K G H vs ds → Paired (fun (p : Str × V) (q : Str × D) => p.1 = q.1 ∧ DV K G H p.2 q.2) (fs.zip vs) (fs.zip ds)
  | [], _, _, _ => .nil
  | _ :: _, _, _, .nil => .nil
  | _ :: _, _, _, .cons a b => .cons ⟨rfl, a⟩ (paired_zip b)
theorem paired_append {α β : Type} {F : α → β → Prop} : ∀ {a : List α} {b : List β} {c : List α} {d : List β}, Paired F a b → Paired F c d → Paired F (a ++ c) (b ++ d)
  | _, _, _, _, .nil, h => h
  | _, _, _, _, .cons r t, h => .cons r (paired_append t h)
theorem paired_rev {α β : Type} {F : α → β → Prop} : ∀ {a : List α} {b : List β}, Paired F a b → Paired F a.reverse b.reverse
  | _, _, .nil => .nil
  | _, _, .cons r t => by rw [List.reverse_cons, List.reverse_cons]; exact paired_append (paired_rev t) (.cons r .nil)
/-- raise C(e, ..) -/
theorem s_raise (c : Ctx T O X k g W) (hk : 2 ≤ k) (E : Exc3 X.prog X.w X.K X.mg X.base x C fs) (hg : Gl X x) (h : xA T O X (e :: es) σ G fun ds G1 => ds.length = fs.length ∧ fs.length ≤ 900 ∧ W (.ref C) (fs.zip ds).reverse σ G1)
    (hdb : (x == ("__debug__" : Str)) = false := by decide) (he : starEach (e :: es) X.env = (false, eval e X.env) :: starEach es X.env := by rfl) (hpl : (backTo pos (starEach es X.env)).any (·.1) = false := by rfl) :
    xS T O X (.Raise (some (.Call (.Name x p) (e :: es) [] pos)) none pos2) D3 σ G := fun vs H pr => by
  obtain ⟨fI, fd, iC, tI, F1, hb⟩ := E.ini
  refine wS_of (ps_raise c.calm c.tk (pmk_oex (dvs := []) (ds := []) E.oc iC tI F1 (c.rm.mono hk) hb .nil pass0 hg E.gm cA hdb he hpl)) ?_
  refine h.run pr fun xs H1 ds G1 p1 k1 dxs q => ?_
  obtain ⟨hl, h9, q⟩ := q
  have hxl : xs.length = fs.length := dxs.length.trans hl
  refine ⟨by omega, fun a ha => ?_⟩
  rw [List.append_nil]
  refine ⟨a, xs, rfl, hxl, upd_same, fun d H2 hd ne h1 h2 h3 => ⟨rfl, d, _, h1, h2, ?_, ?_⟩⟩
  · have := hd
    rw [upd_ne ne] at this
    exact this
  · have hd1 : H1 d = none := by
      have := hd
      rw [upd_ne ne] at this
      exact this
    have eH : upd (del H2 a) d (.xd (fs.zip xs).reverse) = upd H1 d (.xd (fs.zip xs).reverse) := by
      funext b
      by_cases z : b = d
      · rw [z, upd_same, upd_same]
      · rw [upd_ne z, upd_ne z]
        by_cases y : b = a
        · rw [y, del_same, ha]
        · rw [del_ne y, h3 b y z, upd_ne y]
    rw [eH]
    have kn := keep_new (G := G1) (o := .xd (fs.zip xs).reverse) hd1
    exact ⟨_, σ, G1, p1.r.new hd1, p1.k.trans kn, p1.d.mono kn, .inr ⟨d, _, rfl, p1.r.free hd1, upd_same, L2.Paired.mapP (paired_rev (paired_zip dxs)) fun u v z => ⟨z.1, z.2.mono kn⟩⟩, q⟩
end
end L3
end
section
/-! L3, rules: built-in functions. -/
namespace L3
open PySem PySem.Spec PyProof.Rows L2
/-! ### data as the model's data; repr -/
mutual
def py : D → PyData
  | .non => .none
  | .bl b => .bool b
  | .int i => .int i
  | .str x => .str x
  | .tup xs => .tuple (pys xs)
  | .lst xs => .list (pys xs)
  | _ => .none
def pys : List D → List PyData
  | [] => []
  | x :: xs => py x :: pys xs
end
mutual
/-- data that repr shows, below a bound -/
def okD : D → Bool
  | .non => true
  | .bl _ => true
  | .int i => decide (i.natAbs.log2 < 1920)
  | .str x => x.cps.toList.all fun c => decide (c < 16 ^ 8)
  | .tup xs => oksD xs
  | .lst xs => oksD xs
  | _ => false
def oksD : List D → Bool
  | [] => true
  | x :: xs => okD x && oksD xs
end
mutual
def wsz : D → Nat
  | .non => 4
  | .bl _ => 5
  | .int i => i.natAbs.log2 + 3
  | .str x => 10 * x.length + 2
  | .tup xs => wszs xs + 3
  | .lst xs => wszs xs + 3
  | _ => 0
def wszs : List D → Nat
  | [] => 0
  | x :: xs => wsz x + 2 + wszs xs
end
mutual
def dpD : D → Nat
  | .tup xs => dpsD xs + 1
  | .lst xs => dpsD xs + 1
  | _ => 0
def dpsD : List D → Nat
  | [] => 0
  | x :: xs => max (dpD x) (dpsD xs)
end
theorem core10_len : ∀ (k fuel n : Nat) (ds : List Char), 1 ≤ k → n < 10 ^ k → (Nat.toDigitsCore 10 fuel n ds).length ≤ ds.length + k
  | k, 0, n, ds, hk, hn => by simp [Nat.toDigitsCore]
  | k, fuel + 1, n, ds, hk, hn => by
    unfold Nat.toDigitsCore
    by_cases h : n / 10 = 0
    · simp only [h, if_true]
      rw [List.length_cons]; omega
    · simp only [h, if_false]
      match k, hk with
      | 1, _ => exact absurd (Nat.div_eq_of_lt (by simpa using hn)) h
      | k + 2, _ =>
        have q := core10_len (k + 1) fuel (n / 10) (Nat.digitChar (n % 10) :: ds) (by omega) (by rw [Nat.div_lt_iff_lt_mul (by decide)]; rw [Nat.pow_succ] at hn; exact hn)
        rw [List.length_cons] at q
        omega
theorem strInt_len (i : Int) : (Str.ofString (toString i)).length ≤ i.natAbs.log2 + 3 := by
  have nat : ∀ n : Nat, (Nat.repr n).length ≤ n.log2 + 1 := fun n => by
    have h : n < 10 ^ (n.log2 + 1) := Nat.lt_of_lt_of_le (Nat.lt_log2_self) (Nat.pow_le_pow_left (by decide) _)
    have q := core10_len (n.log2 + 1) (n + 1) n [] (by omega) h
    have e : (Nat.repr n).length = (Nat.toDigits 10 n).length := by
      unfold Nat.repr
      rw [String.length_ofList]
    rw [e]
    simpa [Nat.toDigits] using q
  have conv : ∀ s : String, (Str.ofString s).length = s.length := fun s => PySem.ofString_length s
  rw [conv]
  cases i with
  | ofNat n =>
    have := nat n
    show (Nat.repr n).length ≤ n.log2 + 3
    omega
  | negSucc n =>
    have := nat (n + 1)
    show ("-" ++ Nat.repr (n + 1)).length ≤ (n + 1).log2 + 3
    rw [String.length_append]
    have e : ("-" : String).length = 1 := by decide
    omega
theorem textFrom_le : ∀ (ts : List Str) (k : Nat) (acc : Str), (textFrom k acc ts).length ≤ acc.length + (ts.map fun t => t.length + 2).sum
  | [], k, acc => by simp [textFrom]
  | t :: ts, k, acc => by
    unfold textFrom
    refine Nat.le_trans (textFrom_le ts (k + 1) _) ?_
    rw [strLen_append, strLen_append, List.map_cons, List.sum_cons]
    have : (((if k > 0 then ", " else "" : String)) : Str).length ≤ 2 := by split <;> decide
    omega
theorem listText_le (ts : List Str) : (listText ts).length ≤ (ts.map fun t => t.length + 2).sum + 3 := by
  unfold listText
  rw [strLen_append]
  have := textFrom_le ts 0 "["
  have e1 : (("[" : String) : Str).length = 1 := rfl
  have e2 : (("]" : String) : Str).length = 1 := rfl
  omega
theorem joinText_le : ∀ ts : List Str, (Str.join ", " ts).length ≤ (ts.map fun t => t.length + 2).sum
  | [] => by show (0 : Nat) ≤ _; exact Nat.zero_le _
  | [x] => by show x.length ≤ _; simp
  | x :: y :: r => by
    have ih := joinText_le (y :: r)
    show (x ++ ", " ++ Str.join ", " (y :: r)).length ≤ _
    have e2 : ((", " : String) : Str).length = 2 := rfl
    rw [strLen_append, strLen_append, e2, List.map_cons, List.sum_cons]
    omega
theorem tupText_le (ts : List Str) : (tupleText ts).length ≤ (ts.map fun t => t.length + 2).sum + 3 := by
  unfold tupleText
  rw [strLen_append, strLen_append]
  have := joinText_le ts
  have e1 : (("(" : String) : Str).length = 1 := rfl
  have e2 : (((if ts.length == 1 then ",)" else ")" : String)) : Str).length ≤ 2 := by split <;> decide
  omega
mutual
theorem shown_le : ∀ x : D, okD x = true → (py x).shown.length ≤ wsz x
  | .non, _ => by show (("None" : String) : Str).length ≤ 4; decide
  | .bl b, _ => by cases b <;> (show (_ : Nat) ≤ 5; decide)
  | .int i, _ => strInt_len i
  | .str x, h => by
    show (reprText x).length ≤ _
    refine StrLaws.reprText_len x fun c hc => ?_
    have h' : (x.cps.toList.all fun c => decide (c < 16 ^ 8)) = true := h
    exact of_decide_eq_true (List.all_eq_true.mp h' c hc)
  | .tup xs, h => by
    show (tupleText (PyData.shownAll (pys xs))).length ≤ wszs xs + 3
    have := tupText_le (PyData.shownAll (pys xs))
    have := showns_le xs h
    omega
  | .lst xs, h => by
    show (listText (PyData.shownAll (pys xs))).length ≤ wszs xs + 3
    have := listText_le (PyData.shownAll (pys xs))
    have := showns_le xs h
    omega
  | .dK _, h => by cases h
  | .dT _, h => by cases h
  | .raw _, h => by cases h
  | .lam _, h => by cases h
theorem showns_le : ∀ xs : List D, oksD xs = true → ((PyData.shownAll (pys xs)).map fun t => t.length + 2).sum ≤ wszs xs
  | [], _ => Nat.le_refl _
  | x :: xs, h => by
    obtain ⟨h1, h2⟩ := Bool.and_eq_true_iff.mp (show (okD x && oksD xs) = true from h)
    have a := shown_le x h1
    have b := showns_le xs h2
    show ((PyData.shown (py x) :: PyData.shownAll (pys xs)).map fun t => t.length + 2).sum ≤ wsz x + 2 + wszs xs
    rw [List.map_cons, List.sum_cons]
    omega
end
mutual
theorem py_ok : ∀ x : D, okD x = true → (py x).showable = true ∧ (py x).hasDict = false ∧ (py x).depth = dpD x
  | .non, _ => ⟨rfl, rfl, rfl⟩
  | .bl _, _ => ⟨rfl, rfl, rfl⟩
  | .int i, h => ⟨h, rfl, rfl⟩
  | .str _, _ => ⟨rfl, rfl, rfl⟩
  | .tup xs, h => by obtain ⟨a, b, c⟩ := pys_ok xs h; exact ⟨a, b, congrArg (· + 1) c⟩
  | .lst xs, h => by obtain ⟨a, b, c⟩ := pys_ok xs h; exact ⟨a, b, congrArg (· + 1) c⟩
  | .dK _, h => by cases h
  | .dT _, h => by cases h
  | .raw _, h => by cases h
  | .lam _, h => by cases h
theorem pys_ok : ∀ xs : List D, oksD xs = true → PyData.showableAll (pys xs) = true ∧ PyData.hasDictAll (pys xs) = false ∧ PyData.depthAll (pys xs) = dpsD xs
  | [], _ => ⟨rfl, rfl, rfl⟩
  | x :: xs, h => by
    obtain ⟨h1, h2⟩ := Bool.and_eq_true_iff.mp (show (okD x && oksD xs) = true from h)
    obtain ⟨a, b, c⟩ := py_ok x h1
    obtain ⟨a', b', c'⟩ := pys_ok xs h2
    refine ⟨?_, ?_, ?_⟩
    · show ((py x).showable && PyData.showableAll (pys xs)) = true
      rw [a, a']; rfl
    · show ((py x).hasDict || PyData.hasDictAll (pys xs)) = false
      rw [b, b']; rfl
    · show max (py x).depth (PyData.depthAll (pys xs)) = max (dpD x) (dpsD xs)
      rw [c, c']
end
section
variable {T : List (Addr × Str)} {O : Org} {X : Cx} {σ : St3} {G : Gm} {Q : D → Gm → Prop} {K : PySem.W.Frag}
mutual
theorem dp_of {H : Hp} : ∀ (x : D) (v : V), okD x = true → DV K G H v x → Dp K H v (py x)
  | .non, _, _, d => by cases d; exact .non
  | .bl b, _, _, d => by cases d; exact .bl b
  | .int i, _, _, d => by cases d; exact .int i
  | .str x, _, _, d => by cases d; exact .str x
  | .tup xs, _, h, d => by cases d with | tup t ds => exact .tup t.sq (dps_of xs _ h ds)
  | .lst xs, _, h, d => by cases d with | lst t ds => exact .lst t.sq (dps_of xs _ h ds)
  | .dK _, _, h, _ => by cases h
  | .dT _, _, h, _ => by cases h
  | .raw _, _, h, _ => by cases h
  | .lam _, _, h, _ => by cases h
theorem dps_of {H : Hp} : ∀ (xs : List D) (vs : List V), oksD xs = true → DVs K G H vs xs → DpAll K H vs (pys xs)
  | [], _, _, d => by cases d; exact .nil
  | x :: xs, _, h, d => by
    obtain ⟨h1, h2⟩ := Bool.and_eq_true_iff.mp (show (okD x && oksD xs) = true from h)
    cases d with | cons a b => exact .cons (dp_of x _ h1 a) (dps_of xs _ h2 b)
end
/-- repr(x) -/
def rRepr (K : PySem.W.Frag) : List V → Hp → VK → Prop := fun vs H Q => ∃ v d, vs = [v] ∧ Dp K H v d ∧ d.showable = true ∧ d.hasDict = false ∧ d.depth ≤ 100 ∧ d.shown.length ≤ sizeLine ∧ Q (.str d.shown) H
theorem call_reprD (hg : X.A.guards = some []) (hu : X.A.units + 200 < cLine) : CallR X (.builtin "repr") (rRepr X.K) := by
  intro pins s σ H xs us Q I r h
  obtain ⟨v, d, rfl, dp, h1, h2, h3, h4, q⟩ := h
  obtain ⟨u, rfl, ru⟩ := vals1 r
  obtain ⟨as, rd⟩ := Dp.reads I d v u dp ru
  cases rd with
  | none => exact PySem.P.repr_of_none ⟨.str _, H, I.tok _, ⟨_, rfl⟩, q⟩
  | bool b => exact PySem.P.repr_of_bool ⟨.str _, H, I.tok _, ⟨_, rfl⟩, (by cases b <;> exact q)⟩
  | int i t => exact PySem.P.repr_of_int (of_decide_eq_true h1) ⟨.str _, H, I.tok _, ⟨_, rfl⟩, q⟩
  | str x t => exact PySem.P.repr_of_str (x := x) ⟨.str _, H, I.tok _, ⟨_, rfl⟩, q⟩ h4
  | list a b c e => exact repr_of_reads' (.list a b c e) h1 (PyData.noDict_hsm h2) hg (by omega) (fun _ _ z => z) (fun h' u tk hk => ⟨.str _, H, I.kept hk, ⟨_, rfl⟩, q⟩) h4
  | tuple a b c e => exact repr_of_reads' (.tuple a b c e) h1 (PyData.noDict_hsm h2) hg (by omega) (fun _ _ z => z) (fun h' u tk hk => ⟨.str _, H, I.kept hk, ⟨_, rfl⟩, q⟩) h4
  | dict a b c d e => cases h2
theorem c_repr {x : D} (q : Q (.str (py x).shown) G) (h : okD x = true) (hw : wsz x ≤ 16000000) (hd : dpD x ≤ 100) : C3 K T (rRepr K) [x] G Q := fun vs H Qv r dv k => by
  cases dv with
  | cons a b =>
    cases b
    obtain ⟨h1, h2, h3⟩ := py_ok x h
    refine ⟨_, py x, rfl, dp_of x _ h a, h1, h2, by rw [h3]; exact hd, ?_, k _ _ _ _ r (.refl _ _) (.str _) q⟩
    exact Nat.le_trans (shown_le x h) (Nat.le_trans hw (by rw [sizeLine_eq]; decide))
/-! ### isinstance -/
def tyD (G : Gm) : D → Option String
  | .non => some "NoneType"
  | .bl _ => some "bool"
  | .int _ => some "int"
  | .str _ => some "str"
  | .tup _ => some "tuple"
  | .lst _ => some "list"
  | .dK _ => some "dict"
  | .dT _ => none
  | .raw (.ref p) => match G p with
    | some (.lst _) => some "list"
    | some (.dK _) => some "dict"
    | some (.dT _) => some "dict"
    | _ => none
  | _ => none
theorem ty_dv {H : Hp} {x : D} {v : V} {t : String} (r : R3 K T G H) (h : tyD G x = some t) (d : DV K G H v x) : TyX K H v (.type t) := by
  cases d with
  | non => cases h; exact .base .non
  | bl b => cases h; exact .base (.bl b)
  | int i => cases h; exact .base (.int i)
  | str z => cases h; exact .base (.str z)
  | tup t _ => cases h; exact .base (.tup t.2)
  | lst t _ =>
    cases h
    rcases t with ⟨_, e | ⟨o, e⟩⟩ | e | ⟨o, its, n, e1, e2, _⟩
    · exact .base (.lst e)
    · exact .base (.frz e)
    · exact (rd_hE e).elim
    · exact .kList e1 e2
  | dK _ e _ =>
    cases h
    rcases e with e | ⟨o, e⟩
    · exact .base (.dK e)
    · exact .fDict e
  | dT _ e _ => cases h
  | lam _ _ _ _ => cases h
  | raw v =>
    cases v with
    | ref p =>
      have h' : (match G p with
        | some (.lst _) => some "list"
        | some (.dK _) => some "dict"
        | some (.dT _) => some "dict"
        | _ => none) = some t := h
      split at h'
      · rename_i e; cases h'; obtain ⟨ws, z, _⟩ := r.cell p _ e; exact .base (.lst z)
      · rename_i e; cases h'; obtain ⟨ws, z, _⟩ := r.cell p _ e; exact .base (.dK z)
      · rename_i e; cases h'; obtain ⟨ws, z, _⟩ := r.cell p _ e; exact .base (.dT z)
      · cases h'
    | _ => cases h
theorem c_isi {x : D} {t n : String} {b : Bool} (ht : tyD G x = some t) (hk : kitB t n = some b) (q : Q (.bl b) G) : C3 K T (rIsi K) [x, .raw (.ty n)] G Q := fun vs H Qv r dv k => by
  cases dv with
  | cons a c =>
    cases c with
    | cons c z =>
      cases c; cases z
      exact ⟨_, _, _, _, b, rfl, .ty n, ty_dv r ht a, kit_ty hk, k _ _ _ _ r (.refl _ _) (.bl _) q⟩
/-! ### len -/
def rLenA (K : PySem.W.Frag) : List V → Hp → VK → Prop := fun xs H Q => (∃ x n, xs = [x] ∧ LenV K x H n ∧ Q (.int n) H) ∨ ∃ a kvs, xs = [V.ref a] ∧ H a = some (.dK kvs) ∧ Q (.int kvs.length) H
theorem call_lenA : CallR X (.builtin "len") (rLenA X.K) := CallR.or call_len call_lenD
def lenD (G : Gm) : D → Option Nat
  | .str x => if x.length ≤ sizeLine then some x.length else none
  | .tup xs => some xs.length
  | .lst xs => some xs.length
  | .raw (.ref p) => match G p with
    | some (.lst xs) => some xs.length
    | some (.dK xs) => some xs.length
    | _ => none
  | _ => none
theorem c_len {x : D} {n : Nat} (h : lenD G x = some n) (q : Q (.int n) G) : C3 K T (rLenA K) [x] G Q := fun vs H Qv r dv k => by
  cases dv with
  | cons a c =>
    cases c
    cases a with
    | str z =>
      have h' : (if z.length ≤ sizeLine then some z.length else none) = some n := h
      split at h'
      · rename_i hz; cases h'; exact .inl ⟨_, _, rfl, ⟨hz, rfl⟩, k _ _ _ _ r (.refl _ _) (.int _) q⟩
      · cases h'
    | tup t ds => cases h; exact .inl ⟨_, _, rfl, .inr ⟨_, t.sq, rfl⟩, by rw [ds.length]; exact k _ _ _ _ r (.refl _ _) (.int _) q⟩
    | lst t ds => cases h; exact .inl ⟨_, _, rfl, .inl ⟨_, t.sq, rfl⟩, by rw [ds.length]; exact k _ _ _ _ r (.refl _ _) (.int _) q⟩
    | raw =>
      rename_i v
      cases v with
      | ref p =>
        have h' : (match G p with
          | some (.lst xs) => some xs.length
          | some (.dK xs) => some xs.length
          | _ => none) = some n := h
        split at h'
        · rename_i e; cases h'; obtain ⟨ws, z, ds⟩ := r.cell p _ e
          exact .inl ⟨_, _, rfl, .inl ⟨ws, .inl (.inl z), rfl⟩, by rw [ds.length]; exact k _ _ _ _ r (.refl _ _) (.int _) q⟩
        · rename_i e; cases h'; obtain ⟨ws, z, ds⟩ := r.cell p _ e
          exact .inr ⟨p, ws, rfl, z, by rw [ds.length]; exact k _ _ _ _ r (.refl _ _) (.int _) q⟩
        · cases h'
      | _ => cases h
    | _ => cases h
theorem len_t {ds : List D} (q : Q (.int ds.length) G) : C3 K T (rLenA K) [.tup ds] G Q := c_len rfl q
theorem len_l {ds : List D} (q : Q (.int ds.length) G) : C3 K T (rLenA K) [.lst ds] G Q := c_len rfl q
theorem len_o {ds : List D} {p : Addr} (hp : G p = some (.lst ds)) (q : Q (.int ds.length) G) : C3 K T (rLenA K) [.raw (.ref p)] G Q := c_len (by simp only [lenD, hp]) q
theorem len_d {ds : List (Key × D)} {p : Addr} (hp : G p = some (.dK ds)) (q : Q (.int ds.length) G) : C3 K T (rLenA K) [.raw (.ref p)] G Q := c_len (by simp only [lenD, hp]) q
theorem len_s {z : Str} (q : Q (.int z.length) G) (hz : z.length ≤ sizeLine) : C3 K T (rLenA K) [.str z] G Q := c_len (by simp only [lenD, if_pos hz]) q

/-! ### ints -/
theorem c_abs {i : Int} (q : Q (.int (if i < 0 then -i else i)) G) : C3 K T (fun xs H Q => ∃ i, xs = [.int i] ∧ Q (.int (if i < 0 then -i else i)) H) [.int i] G Q := fun vs H Qv r dv k => by
  cases dv with | cons a c => cases a; cases c; exact ⟨i, rfl, k _ _ _ _ r (.refl _ _) (.int _) q⟩
def rInt1 : List V → Hp → VK → Prop := fun xs H Q => (∃ i, xs = [.int i] ∧ Q (.int i) H) ∨ ∃ k, xs = [.bl k] ∧ Q (.int (if k then 1 else 0)) H
theorem call_int : CallR X (.type "int") rInt1 := call_int1
theorem c_int {i : Int} (q : Q (.int i) G) : C3 K T rInt1 [.int i] G Q := fun vs H Qv r dv k => by
  cases dv with | cons a c => cases a; cases c; exact .inl ⟨i, rfl, k _ _ _ _ r (.refl _ _) (.int _) q⟩
theorem c_intB {b : Bool} (q : Q (.int (if b then 1 else 0)) G) : C3 K T rInt1 [.bl b] G Q := fun vs H Qv r dv k => by
  cases dv with | cons a c => cases a; cases c; exact .inr ⟨b, rfl, k _ _ _ _ r (.refl _ _) (.int _) q⟩
def rStrI : List V → Hp → VK → Prop := fun xs H Q => ∃ i, xs = [.int i] ∧ i.natAbs.log2 < 1920 ∧ Q (.str (toString i)) H
theorem call_strI : CallR X (.type "str") rStrI := call_str_int
theorem c_str {i : Int} (q : Q (.str (toString i)) G) (h : i.natAbs.log2 < 1920) : C3 K T rStrI [.int i] G Q := fun vs H Qv r dv k => by
  cases dv with | cons a c => cases a; cases c; exact ⟨i, rfl, h, k _ _ _ _ r (.refl _ _) (.str _) q⟩
/-- max, min of two, of one list -/
theorem dvs_ints {H : Hp} : ∀ {ns : List Int} {vs : List V}, DVs K G H vs (ns.map D.int) → vs = ns.map V.int
  | [], _, d => by cases d; rfl
  | n :: ns, _, d => by cases d with | cons a b => cases a; rw [dvs_ints b]; rfl
theorem dvs_bls {H : Hp} : ∀ {ns : List Bool} {vs : List V}, DVs K G H vs (ns.map D.bl) → vs = ns.map V.bl
  | [], _, d => by cases d; rfl
  | n :: ns, _, d => by cases d with | cons a b => cases a; rw [dvs_bls b]; rfl
theorem dvs_strs {H : Hp} : ∀ {ns : List Str} {vs : List V}, DVs K G H vs (ns.map D.str) → vs = ns.map V.str
  | [], _, d => by cases d; rfl
  | n :: ns, _, d => by cases d with | cons a b => cases a; rw [dvs_strs b]; rfl
def rMinA (K : PySem.W.Frag) : List V → Hp → VK → Prop := fun xs H Q => (∃ i j, xs = [.int i, .int j] ∧ Q (.int (if j < i then j else i)) H) ∨ rMin K xs H Q
def rMaxA (K : PySem.W.Frag) : List V → Hp → VK → Prop := fun xs H Q => (∃ i j, xs = [.int i, .int j] ∧ Q (.int (if j > i then j else i)) H) ∨ rMax K xs H Q
theorem call_minA (hc : X.calm = true) : CallR X (.builtin "min") (rMinA X.K) := CallR.or (call_min2 hc) (cr_min hc)
theorem call_maxA (hc : X.calm = true) : CallR X (.builtin "max") (rMaxA X.K) := CallR.or (call_max2 hc) (cr_max hc)
theorem c_min2 {i j : Int} (q : Q (.int (if j < i then j else i)) G) : C3 K T (rMinA K) [.int i, .int j] G Q := fun vs H Qv r dv k => by
  cases dv with | cons a c => cases a; cases c with | cons a c => cases a; cases c; exact .inl ⟨i, j, rfl, k _ _ _ _ r (.refl _ _) (.int _) q⟩
theorem c_max2 {i j : Int} (q : Q (.int (if j > i then j else i)) G) : C3 K T (rMaxA K) [.int i, .int j] G Q := fun vs H Qv r dv k => by
  cases dv with | cons a c => cases a; cases c with | cons a c => cases a; cases c; exact .inl ⟨i, j, rfl, k _ _ _ _ r (.refl _ _) (.int _) q⟩
/-- a list of data, frozen or owned -/
def seqL (G : Gm) (d : D) (ds : List D) : Prop := d = .lst ds ∨ ∃ p, d = .raw (.ref p) ∧ G p = some (.lst ds)
theorem seqL_dv {H : Hp} {d : D} {ds : List D} {v : V} (r : R3 K T G H) (h : seqL G d ds) (dv : DV K G H v d) : ∃ a ws, v = .ref a ∧ SqL K H a ws ∧ DVs K G H ws ds := by
  rcases h with rfl | ⟨p, rfl, hp⟩
  · cases dv with | lst t ds => exact ⟨_, _, rfl, t.sq, ds⟩
  · cases dv
    obtain ⟨ws, h1, h2⟩ := r.cell p _ hp
    exact ⟨p, ws, rfl, .inl (.inl h1), h2⟩
theorem c_minL {d : D} {ns : List Int} (h : seqL G d (ns.map D.int)) (hn : 0 < ns.length) (q : ∀ m, m ∈ ns → (∀ y, y ∈ ns → m ≤ y) → Q (.int m) G) : C3 K T (rMinA K) [d] G Q := fun vs H Qv r dv k => by
  cases dv with
  | cons a c =>
    cases c
    obtain ⟨p, ws, rfl, hs, dws⟩ := seqL_dv r h a
    rw [dvs_ints dws] at hs
    exact .inr ⟨p, ns, rfl, hs, hn, fun m h1 h2 => k _ _ _ _ r (.refl _ _) (.int _) (q m h1 h2)⟩
theorem c_maxL {d : D} {ns : List Int} (h : seqL G d (ns.map D.int)) (hn : 0 < ns.length) (q : ∀ m, m ∈ ns → (∀ y, y ∈ ns → y ≤ m) → Q (.int m) G) : C3 K T (rMaxA K) [d] G Q := fun vs H Qv r dv k => by
  cases dv with
  | cons a c =>
    cases c
    obtain ⟨p, ws, rfl, hs, dws⟩ := seqL_dv r h a
    rw [dvs_ints dws] at hs
    exact .inr ⟨p, ns, rfl, hs, hn, fun m h1 h2 => k _ _ _ _ r (.refl _ _) (.int _) (q m h1 h2)⟩
theorem c_all {d : D} {bs : List Bool} (h : seqL G d (bs.map D.bl)) (q : Q (.bl (bs.all id)) G) : C3 K T (rAll K) [d] G Q := fun vs H Qv r dv k => by
  cases dv with
  | cons a c =>
    cases c
    obtain ⟨p, ws, rfl, hs, dws⟩ := seqL_dv r h a
    rw [dvs_bls dws] at hs
    exact ⟨p, bs, rfl, hs, k _ _ _ _ r (.refl _ _) (.bl _) q⟩
theorem c_any {d : D} {bs : List Bool} (h : seqL G d (bs.map D.bl)) (q : Q (.bl (bs.any id)) G) : C3 K T (rAny K) [d] G Q := fun vs H Qv r dv k => by
  cases dv with
  | cons a c =>
    cases c
    obtain ⟨p, ws, rfl, hs, dws⟩ := seqL_dv r h a
    rw [dvs_bls dws] at hs
    exact ⟨p, bs, rfl, hs, k _ _ _ _ r (.refl _ _) (.bl _) q⟩
theorem c_sumL {d : D} {ns : List Int} (h : seqL G d (ns.map D.int)) (q : Q (.int ns.sum) G) : C3 K T (rSum K) [d] G Q := fun vs H Qv r dv k => by
  cases dv with
  | cons a c =>
    cases c
    obtain ⟨p, ws, rfl, hs, dws⟩ := seqL_dv r h a
    rw [dvs_ints dws] at hs
    exact ⟨p, ns, rfl, hs, k _ _ _ _ r (.refl _ _) (.int _) q⟩
/-! ### list(x), tuple(x) -/
def seqA (G : Gm) (d : D) (ds : List D) : Prop := d = .tup ds ∨ seqL G d ds
def rListOf (K : PySem.W.Frag) : List V → Hp → VK → Prop := fun xs H Q => ∃ p ys, xs = [.ref p] ∧ (SqL K H p ys ∨ SqT K H p ys) ∧ ∀ l, H l = none → Q (.ref l) (upd H l (.lst ys))
theorem call_listOf : CallR X (.type "list") (rListOf X.K) := call_list_of
def rTupOf (K : PySem.W.Frag) : List V → Hp → VK → Prop := fun xs H Q => ∃ p ys, xs = [.ref p] ∧ ((SqL K H p ys ∧ ∀ l, H l = none → Q (.ref l) (upd H l (.tup ys))) ∨ (SqT K H p ys ∧ Q (.ref p) H))
theorem call_tupOf : CallR X (.type "tuple") (rTupOf X.K) := call_tuple_of
theorem seqA_dv {H : Hp} {d : D} {ds : List D} {v : V} (r : R3 K T G H) (h : seqA G d ds) (dv : DV K G H v d) : ∃ a ws, v = .ref a ∧ (SqL K H a ws ∨ SqT K H a ws) ∧ DVs K G H ws ds := by
  rcases h with rfl | h
  · cases dv with | tup t ds => exact ⟨_, _, rfl, .inr t.sq, ds⟩
  · obtain ⟨a, ws, e, s, d⟩ := seqL_dv r h dv
    exact ⟨a, ws, e, .inl s, d⟩
theorem c_list {d : D} {ds : List D} (h : seqA G d ds) (q : Q (.lst ds) G) : C3 K T (rListOf K) [d] G Q := fun vs H Qv r dv k => by
  cases dv with
  | cons a c =>
    cases c
    obtain ⟨p, ws, rfl, hs, dws⟩ := seqA_dv r h a
    exact ⟨p, ws, rfl, hs, fun l hl => k _ _ _ _ (r.new hl) (keep_new hl) (.lst (.inl ⟨r.free hl, .inl upd_same⟩) (dws.mono (keep_new hl))) q⟩
theorem c_listO {d : D} {ds : List D} (h : seqA G d ds) (q : ∀ l, G l = none → Q (.raw (.ref l)) (gset G l (.lst ds))) : C3 K T (rListOf K) [d] G Q := fun vs H Qv r dv k => by
  cases dv with
  | cons a c =>
    cases c
    obtain ⟨p, ws, rfl, hs, dws⟩ := seqA_dv r h a
    exact ⟨p, ws, rfl, hs, fun l hl => k _ _ _ _ (r.own (c := .lst ds) hl ⟨ws, upd_same, dws.mono (keep_own hl)⟩) (keep_own hl) (.raw _) (q l (r.free hl))⟩
theorem c_tuple {d : D} {ds : List D} (h : seqA G d ds) (q : Q (.tup ds) G) : C3 K T (rTupOf K) [d] G Q := fun vs H Qv r dv k => by
  cases dv with
  | cons a c =>
    cases c
    rcases h with rfl | h
    · cases a with | tup t dws => exact ⟨_, _, rfl, .inr ⟨t.sq, k _ _ _ _ r (.refl _ _) (.tup t dws) q⟩⟩
    · obtain ⟨p, ws, rfl, hs, dws⟩ := seqL_dv r h a
      exact ⟨p, ws, rfl, .inl ⟨hs, fun l hl => k _ _ _ _ (r.new hl) (keep_new hl) (.tup ⟨r.free hl, upd_same⟩ (dws.mono (keep_new hl))) q⟩⟩
/-! ### math.comb, a built-in that the top has imported -/
theorem r_callGB {x : Str} {id : String} {e : Expr} {es : List Expr} {pos p : Pos} {r : List V → Hp → VK → Prop} (hc : CallR X (.builtin id) r) (hg : Gl X x) (hm : X.mg x = some (.builtin id)) (h : xA T O X (e :: es) σ G fun ds G1 => C3 X.K T r ds G1 Q)
    (hdb : (x == ("__debug__" : Str)) = false := by decide) (he : starEach (e :: es) X.env = (false, eval e X.env) :: starEach es X.env := by rfl) (hpl : (backTo pos (starEach es X.env)).any (·.1) = false := by rfl) :
    xE T O X (.Call (.Name x p) (e :: es) [] pos) σ G Q := fun vs H pr => by
  refine wE_of (t := tCB r (wA X (e :: es))) ⟨fun pins s σ' H' Q' I hq => ?_⟩ (h.run pr fun xs H1 ds G1 p1 k1 dxs q => q _ _ _ p1.r dxs (then3 k1))
  refine wpAny_Call_Name_kw (ld_glob I hg hm ?_ hdb)
  exact PyProof.Rows.callWith_builtin1 (thn (hq pos pins s I) fun us s1 ⟨vs', H1, I1, r1, q1⟩ => hc pins s1 σ' H1 vs' us Q' I1 r1 q1) he hpl
def rComb : List V → Hp → VK → Prop := fun xs H Q => ∃ a b : Int, xs = [.int a, .int b] ∧ 0 ≤ a ∧ 0 ≤ b ∧ a < 2 ^ 64 ∧ (b ≤ 9000 ∨ a ≤ 18000) ∧ (PySem.W.McComb a b (PySem.W.mcComb a b) → Q (.int (PySem.W.mcComb a b)) H)
theorem call_comb : CallR X (.builtin "math.comb") rComb := by
  intro pins s σ H xs us Q I r h
  obtain ⟨a, b, rfl, h1, h2, h3, h4, q⟩ := h
  cases r with
  | cons r1 r2 =>
    cases r2 with
    | cons r2 r3 =>
      cases r3
      obtain ⟨t1, rfl⟩ := r1
      obtain ⟨t2, rfl⟩ := r2
      exact PySem.W.mc_comb h1 h2 h3 h4 fun z => ⟨.int _, H, I.tok _, ⟨_, rfl⟩, q z⟩
theorem c_comb {a b : Int} (h1 : 0 ≤ a) (h2 : 0 ≤ b) (h3 : a ≤ 18000) (q : PySem.W.McComb a b (PySem.W.mcComb a b) → Q (.int (PySem.W.mcComb a b)) G) : C3 K T rComb [.int a, .int b] G Q := fun vs H Qv r dv k => by
  cases dv with | cons x c => cases x; cases c with | cons y c => cases y; cases c; exact ⟨a, b, rfl, h1, h2, by omega, .inr h3, fun z => k _ _ _ _ r (.refl _ _) (.int _) (q z)⟩
end
end L3
end
section
/-! L3, rules: methods, slices, displays, sums of lists, data compared. -/
namespace L3
open PySem PySem.Spec PyProof.Rows L2
section
variable {T : List (Addr × Str)} {O : Org} {X : Cx} {σ : St3} {G : Gm} {a b c e o : Expr} {es : List Expr} {pos : Pos} {Q : D → Gm → Prop} {K : PySem.W.Frag}
/-! ### methods of built-in things -/
def tyM (G : Gm) : D → String → Prop
  | .str _, t => t = "str"
  | .int _, t => t = "int"
  | .lst _, t => t = "list"
  | .raw (.ref p), t => (t = "list" ∧ ∃ xs, G p = some (.lst xs)) ∨ (t = "dict" ∧ ((∃ xs, G p = some (.dK xs)) ∨ ∃ xs, G p = some (.dT xs)))
  | _, _ => False
theorem tyM_v {H : Hp} {x : D} {v : V} {t : String} (r : R3 K T G H) (h : tyM G x t) (d : DV K G H v x) : tyV K t v H := by
  cases d with
  | str z => exact h
  | int z => exact h
  | lst tu _ => cases (show t = "list" from h); exact .inl ⟨rfl, _, tu.sq⟩
  | raw =>
    cases v with
    | ref p =>
      rcases h with ⟨rfl, xs, h⟩ | ⟨rfl, ⟨xs, h⟩ | ⟨xs, h⟩⟩
      · obtain ⟨ws, h1, _⟩ := r.cell p _ h; exact .inl ⟨rfl, ws, .inl (.inl h1)⟩
      · obtain ⟨ws, h1, _⟩ := r.cell p _ h; exact .inr (.inr (.inl ⟨rfl, .inl ⟨ws, h1⟩⟩))
      · obtain ⟨ws, h1, _⟩ := r.cell p _ h; exact .inr (.inr (.inl ⟨rfl, .inr ⟨ws, h1⟩⟩))
    | _ => exact h.elim
  | _ => exact h.elim
theorem r_bm {name : Str} {apos : Pos} {t id : String} {r : V → List V → Hp → VK → Prop} (pa : PlainAttrs t) (slot : Slot t name id) (hty : typeOf (.builtin id) = pure (.type "method_descriptor")) (hm : MtR X id r)
    (h : xE T O X o σ G fun x G1 => tyM G1 x t ∧ xA T O X (e :: es) σ G1 fun ds G2 => M3 X.K T r x ds G2 Q)
    (hbase : attributeBase o name X.env (eval o X.env) = eval o X.env := by rfl)
    (hfew : ((backTo pos (starEach (e :: es) X.env)).all (fun x => !x.1) && (backToKw pos (keywordEach [] X.env)).all (fun x => x.1.isSome)
      && decide ((e :: es).length + ([] : List Keyword).length + (if ([] : List Keyword).isEmpty then 0 else 1) < 30)) = true := by rfl)
    (hline : (apos.endLine == pos.line) = true := by rfl) (hs : starEach (e :: es) X.env = (false, eval e X.env) :: starEach es X.env := by rfl) (hplain : (backTo pos (starEach es X.env)).any (·.1) = false := by rfl) :
    xE T O X (.Call (.Attribute o name apos) (e :: es) [] pos) σ G Q := fun vs H p => by
  refine wE_of (pe_bm pa slot hty hm cE cA hbase hfew hline hs hplain) ?_
  refine h.run p fun x H1 d G1 p1 k1 dx ⟨ty, h1⟩ => ⟨tyM_v p1.r ty dx, ?_⟩
  exact h1.run p1 fun xs H2 ds G2 p2 k2 dxs q => q _ _ _ _ p2.r (dx.mono k2) dxs (then3 (k1.trans k2))
theorem r_bm0 {name : Str} {apos : Pos} {t id : String} {r : V → List V → Hp → VK → Prop} (pa : PlainAttrs t) (slot : Slot t name id) (hty : typeOf (.builtin id) = pure (.type "method_descriptor")) (hm : MtR X id r)
    (h : xE T O X o σ G fun x G1 => tyM G1 x t ∧ M3 X.K T r x [] G1 Q)
    (hbase : attributeBase o name X.env (eval o X.env) = eval o X.env := by rfl) (hline : (apos.endLine == pos.line) = true := by rfl) :
    xE T O X (.Call (.Attribute o name apos) [] [] pos) σ G Q := fun vs H p => by
  refine wE_of (pe_bm0 pa slot hty hm cE hbase hline) ?_
  exact h.run p fun x H1 d G1 p1 k1 dx ⟨ty, h1⟩ => ⟨tyM_v p1.r ty dx, h1 _ _ _ _ p1.r dx .nil (then3 k1)⟩
theorem nz {G : Gm} {p : Addr} {c : Cell} (h : G p = some c) : G p ≠ none := by rw [h]; exact nofun
theorem hp_lst {H : Hp} {p : Addr} {vs : List V} (h : H p = some (.lst vs)) : ∀ u, H p = some u → (∀ ps, u ≠ .tbl ps) ∧ (∀ φ, u ≠ .ext φ) := fun u e => by
  rw [h] at e; cases e; exact ⟨fun _ z => (by cases z), fun _ z => (by cases z)⟩
theorem hp_dK {H : Hp} {p : Addr} {vs : List (Key × V)} (h : H p = some (.dK vs)) : ∀ u, H p = some u → (∀ ps, u ≠ .tbl ps) ∧ (∀ φ, u ≠ .ext φ) := fun u e => by
  rw [h] at e; cases e; exact ⟨fun _ z => (by cases z), fun _ z => (by cases z)⟩
/-- the owned list at p becomes ds' -/
theorem R3.wlst {H : Hp} {p : Addr} {ds ds' : List D} {vs : List V} (r : R3 K T G H) (hp : G p = some (.lst ds)) (hH : H p = some (.lst vs)) {vs' : List V} (dv : DVs K G H vs' ds') :
    R3 K T (gset G p (.lst ds')) (upd H p (.lst vs')) ∧ Keep G H (gset G p (.lst ds')) (upd H p (.lst vs')) :=
  have k := keep_write (G := G) (H := H) (o := .lst vs') (c := .lst ds') (nz hp)
  ⟨r.write (nz hp) (hp_lst hH) ⟨vs', upd_same, dv.mono k⟩, k⟩
theorem m_append {p : Addr} {ds : List D} {d : D} (hp : G p = some (.lst ds)) (q : Q .non (gset G p (.lst (ds ++ [d])))) (hl : ds.length < sizeLine) : M3 K T rAppend (.raw (.ref p)) [d] G Q := fun v vx H Qv r dv dvs k => by
  cases dv
  cases dvs with
  | cons da dn =>
    cases dn
    obtain ⟨ws, h1, h2⟩ := r.cell p _ hp
    obtain ⟨r', k'⟩ := r.wlst hp h1 (h2.append (.cons da .nil))
    exact ⟨p, ws, _, rfl, rfl, h1, by rw [h2.length]; exact hl, k _ _ _ _ r' k' .non q⟩
theorem DVs.dropLast {H : Hp} {vs : List V} {ds : List D} (h : DVs K G H vs ds) : DVs K G H vs.dropLast ds.dropLast := by
  rw [List.dropLast_eq_take, List.dropLast_eq_take, h.length]; exact h.take _
theorem DVs.eraseIdx {H : Hp} {vs : List V} {ds : List D} (h : DVs K G H vs ds) (i : Nat) : DVs K G H (vs.eraseIdx i) (ds.eraseIdx i) := by
  rw [List.eraseIdx_eq_take_drop_succ, List.eraseIdx_eq_take_drop_succ]; exact (h.take _).append (h.drop _)
def rPopA : V → List V → Hp → VK → Prop := fun x vs H Q => rPop x vs H Q ∨ rPopAt x vs H Q
theorem mt_popA : MtR X "list.pop" rPopA := MtR.or mt_pop mt_popAt
theorem m_pop {p : Addr} {ds : List D} {d : D} (hp : G p = some (.lst ds)) (hd : ds[ds.length - 1]? = some d) (q : Q d (gset G p (.lst ds.dropLast))) : M3 K T rPop (.raw (.ref p)) [] G Q := fun v vx H Qv r dv dvs k => by
  cases dv; cases dvs
  obtain ⟨ws, h1, h2⟩ := r.cell p _ hp
  obtain ⟨r', k'⟩ := r.wlst hp h1 h2.dropLast
  obtain ⟨u, e, du⟩ := h2.get hd
  exact ⟨p, ws, u, rfl, rfl, h1, by rw [h2.length]; exact e, k _ _ _ _ r' k' (du.mono k') q⟩
theorem m_popAt {p : Addr} {ds : List D} {d : D} {i : Int} {j : Nat} (hp : G p = some (.lst ds)) (hj : seqIndex? i ds.length = some j) (hd : ds[j]? = some d) (q : Q d (gset G p (.lst (ds.eraseIdx j)))) (h1 : -(2 ^ 63) ≤ i) (h2 : i < 2 ^ 63) : M3 K T rPopAt (.raw (.ref p)) [.int i] G Q := fun v vx H Qv r dv dvs k => by
  cases dv
  cases dvs with
  | cons da dn =>
    cases da; cases dn
    obtain ⟨ws, g1, g2⟩ := r.cell p _ hp
    obtain ⟨r', k'⟩ := r.wlst hp g1 (g2.eraseIdx j)
    obtain ⟨u, e, du⟩ := g2.get hd
    exact ⟨p, ws, i, j, u, rfl, rfl, g1, h1, h2, by rw [g2.length]; exact hj, e, k _ _ _ _ r' k' (du.mono k') q⟩

/-! ### list + list -/
def rCatL (K : PySem.W.Frag) : R2 := fun x y H Q => ∃ l b xs zs, x = .ref l ∧ y = .ref b ∧ SqL K H l xs ∧ SqL K H b zs ∧ xs.length + zs.length ≤ sizeLine ∧ ∀ p, H p = none → Q (.ref p) (upd H p (.lst (xs ++ zs)))
theorem op_catL : OpR X (binaryOp .Add) (rCatL X.K) := by
  intro pins s σ H x y v u Q I rx ry h
  obtain ⟨l, b, xs, zs, rfl, rfl, hH, hB, hz, q⟩ := h
  cases rx
  cases ry
  obtain ⟨its, r, ⟨o1, n1, ho1, hc1, hd1, ht1⟩, z1⟩ := I.list hH
  obtain ⟨its2, r2, ⟨o2, n2, ho2, hc2, hd2, ht2⟩, z2⟩ := I.list hB
  obtain ⟨cls, dd, data, sl⟩ := o1
  obtain ⟨cls2, dd2, data2, sl2⟩ := o2
  simp only at hc1 ht1 hc2 ht2
  subst hc1 ht1 hc2 ht2
  have e1 := r.length
  have e2 := r2.length
  refine concat_meets ⟨_, ho1, rfl⟩ ⟨_, ho2, rfl⟩ noFill_list_add seq_list_add PySem.F.slot_list_add PySem.F.entry_list_add (PySem.F.args_list_add_2 _ _) (PyProof.Rows.list_addW l b its.toArray its2.toArray n1 n2 dd dd2 sl sl2 (by rw [List.size_toArray, List.size_toArray]; omega)) ⟨ho1, ho2, ?_⟩
  have ea : its.toArray ++ its2.toArray = (its ++ its2).toArray := by simp
  rw [ea]
  exact ⟨.ref _, _, I.lnew (t' := s.toks) (r.append r2) (by rw [List.length_append]; omega), rfl, q _ I.fresh⟩
/-- a + b of ints, texts, tuples, lists -/
def rAddA (K : PySem.W.Frag) : R2 := fun x y H Q => rI0 (fun i j => .int (i + j)) x y H Q ∨ rAddS3 x y H Q ∨ rCatA K x y H Q ∨ rCatL K x y H Q
theorem op_addA : OpR X (binaryOp .Add) (rAddA X.K) := OpR.or op_add (OpR.or op_addS (OpR.or op_catA op_catL))
theorem p_int {i j : Int} (q : Q (.int (i + j)) G) : O3 K T (rAddA K) (.int i) (.int j) G Q := fun vx vy H Qv r dx dy k => .inl (o_int0 (g := fun i j => i + j) q vx vy H Qv r dx dy k)
theorem p_str {x y : Str} (q : Q (.str (x ++ y)) G) (h : x.length + y.length ≤ sizeLine) : O3 K T (rAddA K) (.str x) (.str y) G Q := fun vx vy H Qv r dx dy k => .inr (.inl (o_addS q h vx vy H Qv r dx dy k))
theorem p_tup {xs ys : List D} (q : Q (.tup (xs ++ ys)) G) (h : xs.length + ys.length ≤ sizeLine) : O3 K T (rAddA K) (.tup xs) (.tup ys) G Q := fun vx vy H Qv r dx dy k => by
  cases dx with
  | tup tx dxs =>
    cases dy with
    | tup ty dys =>
      refine .inr (.inr (.inl ⟨_, _, _, _, rfl, rfl, tx.sq, ty.sq, by rw [dxs.length, dys.length]; exact h, fun e => ?_, fun _ e => ?_, fun _ _ p hp => ?_⟩))
      · subst e; cases dxs
        exact k _ _ _ _ r (.refl _ _) (.tup ty dys) q
      · subst e; cases dys
        exact k _ _ _ _ r (.refl _ _) (by rw [List.append_nil]; exact .tup tx dxs) q
      · exact k _ _ _ _ (r.new hp) (keep_new hp) (.tup ⟨r.free hp, upd_same⟩ ((dxs.append dys).mono (keep_new hp))) q
theorem p_lst {x y : D} {xs ys : List D} (hx : seqL G x xs) (hy : seqL G y ys) (q : Q (.lst (xs ++ ys)) G) (h : xs.length + ys.length ≤ sizeLine) : O3 K T (rAddA K) x y G Q := fun vx vy H Qv r dx dy k => by
  obtain ⟨a1, w1, rfl, s1, d1⟩ := seqL_dv r hx dx
  obtain ⟨a2, w2, rfl, s2, d2⟩ := seqL_dv r hy dy
  exact .inr (.inr (.inr ⟨a1, a2, w1, w2, rfl, rfl, s1, s2, by rw [d1.length, d2.length]; exact h, fun p hp =>
    k _ _ _ _ (r.new hp) (keep_new hp) (.lst (.inl ⟨r.free hp, .inl upd_same⟩) ((d1.append d2).mono (keep_new hp))) q⟩))
theorem p_lstO {x y : D} {xs ys : List D} (hx : seqL G x xs) (hy : seqL G y ys) (q : ∀ p, G p = none → Q (.raw (.ref p)) (gset G p (.lst (xs ++ ys)))) (h : xs.length + ys.length ≤ sizeLine) : O3 K T (rAddA K) x y G Q := fun vx vy H Qv r dx dy k => by
  obtain ⟨a1, w1, rfl, s1, d1⟩ := seqL_dv r hx dx
  obtain ⟨a2, w2, rfl, s2, d2⟩ := seqL_dv r hy dy
  exact .inr (.inr (.inr ⟨a1, a2, w1, w2, rfl, rfl, s1, s2, by rw [d1.length, d2.length]; exact h, fun p hp =>
    k _ _ _ _ (r.own (c := .lst (xs ++ ys)) hp ⟨_, upd_same, (d1.append d2).mono (keep_own hp)⟩) (keep_own hp) (.raw _) (q p (r.free hp))⟩))

/-! ### data compared -/
mutual
/-- plain data -/
def okP : D → Bool
  | .non => true
  | .bl _ => true
  | .int _ => true
  | .str _ => true
  | .tup xs => oksP xs
  | .lst xs => oksP xs
  | _ => false
def oksP : List D → Bool
  | [] => true
  | x :: xs => okP x && oksP xs
end
mutual
theorem dp_ofP {H : Hp} : ∀ (x : D) (v : V), okP x = true → DV K G H v x → Dp K H v (py x)
  | .non, _, _, d => by cases d; exact .non
  | .bl b, _, _, d => by cases d; exact .bl b
  | .int i, _, _, d => by cases d; exact .int i
  | .str x, _, _, d => by cases d; exact .str x
  | .tup xs, _, h, d => by cases d with | tup t ds => exact .tup t.sq (dps_ofP xs _ h ds)
  | .lst xs, _, h, d => by cases d with | lst t ds => exact .lst t.sq (dps_ofP xs _ h ds)
  | .dK _, _, h, _ => by cases h
  | .dT _, _, h, _ => by cases h
  | .raw _, _, h, _ => by cases h
  | .lam _, _, h, _ => by cases h
theorem dps_ofP {H : Hp} : ∀ (xs : List D) (vs : List V), oksP xs = true → DVs K G H vs xs → DpAll K H vs (pys xs)
  | [], _, _, d => by cases d; exact .nil
  | x :: xs, _, h, d => by
    obtain ⟨h1, h2⟩ := Bool.and_eq_true_iff.mp (show (okP x && oksP xs) = true from h)
    cases d with | cons a b => exact .cons (dp_ofP x _ h1 a) (dps_ofP xs _ h2 b)
end
/-- data, or an owned list of data -/
def datD (G : Gm) (x : D) (y : D) : Prop := okP y = true ∧ (x = y ∨ ∃ p ds, x = .raw (.ref p) ∧ G p = some (.lst ds) ∧ y = .lst ds)
theorem dat_dv {H : Hp} {x y : D} {v : V} (r : R3 K T G H) (h : datD G x y) (dv : DV K G H v x) : Dp K H v (py y) := by
  obtain ⟨ok, rfl | ⟨p, ds, rfl, hp, rfl⟩⟩ := h
  · exact dp_ofP _ _ ok dv
  · cases dv
    obtain ⟨ws, h1, h2⟩ := r.cell p _ hp
    exact .lst (.inl (.inl h1)) (dps_ofP ds _ ok h2)
def rEqB (K : PySem.W.Frag) : R2 := fun x y H Q => rEq x y H Q ∨ rEqD K x y H Q
def rNeB (K : PySem.W.Frag) : R2 := fun x y H Q => rNe x y H Q ∨ rNeD K x y H Q
theorem op_eqB (hu : X.A.units + 64 < cLine) : OpR X (compareOp .Eq) (rEqB X.K) := OpR.or op_eq (op_eqD hu)
theorem op_neB (hu : X.A.units + 64 < cLine) : OpR X (compareOp .NotEq) (rNeB X.K) := OpR.or op_ne (op_neD hu)
theorem e_flat {x y : D} {u v : V} (hx : flatD x = some u) (hy : flatD y = some v) (q : Q (.bl (decide (u = v))) G) (hs : scal u v = true) : O3 K T (rEqB K) x y G Q := fun vx vy H Qv r dx dy k => .inl (o_eq hx hy q hs vx vy H Qv r dx dy k)
theorem n_flat {x y : D} {u v : V} (hx : flatD x = some u) (hy : flatD y = some v) (q : Q (.bl (!decide (u = v))) G) (hs : scal u v = true) : O3 K T (rNeB K) x y G Q := fun vx vy H Qv r dx dy k => .inl (o_ne hx hy q hs vx vy H Qv r dx dy k)
theorem e_data {x y x' y' : D} (hx : datD G x x') (hy : datD G y y') (sx : SeqAt.shaped (py x') = true) (sy : SeqAt.shaped (py y') = true) (q : Q (.bl (PyData.eqv (py x') (py y'))) G) : O3 K T (rEqB K) x y G Q := fun vx vy H Qv r dx dy k =>
  .inr ⟨_, _, dat_dv r hx dx, dat_dv r hy dy, sx, sy, k _ _ _ _ r (.refl _ _) (.bl _) q⟩
theorem n_data {x y x' y' : D} (hx : datD G x x') (hy : datD G y y') (sx : SeqAt.shaped (py x') = true) (sy : SeqAt.shaped (py y') = true) (q : Q (.bl (!PyData.eqv (py x') (py y'))) G) : O3 K T (rNeB K) x y G Q := fun vx vy H Qv r dx dy k =>
  .inr ⟨_, _, dat_dv r hx dx, dat_dv r hy dy, sx, sy, k _ _ _ _ r (.refl _ _) (.bl _) q⟩
/-- texts compared (the flat way, told in texts) -/
theorem e_str {x y : Str} (q : Q (.bl (decide (x = y))) G) : O3 K T (rEqB K) (.str x) (.str y) G Q := e_flat (u := .str x) (v := .str y) rfl rfl (by
  have e : decide (V.str x = V.str y) = decide (x = y) := by by_cases h : x = y <;> simp [h]
  rw [e]; exact q) rfl
theorem n_str {x y : Str} (q : Q (.bl (!decide (x = y))) G) : O3 K T (rNeB K) (.str x) (.str y) G Q := n_flat (u := .str x) (v := .str y) rfl rfl (by
  have e : decide (V.str x = V.str y) = decide (x = y) := by by_cases h : x = y <;> simp [h]
  rw [e]; exact q) rfl
theorem e_int {x y : Int} (q : Q (.bl (decide (x = y))) G) : O3 K T (rEqB K) (.int x) (.int y) G Q := e_flat (u := .int x) (v := .int y) rfl rfl (by
  have e : decide (V.int x = V.int y) = decide (x = y) := by by_cases h : x = y <;> simp [h]
  rw [e]; exact q) rfl
theorem n_int {x y : Int} (q : Q (.bl (!decide (x = y))) G) : O3 K T (rNeB K) (.int x) (.int y) G Q := n_flat (u := .int x) (v := .int y) rfl rfl (by
  have e : decide (V.int x = V.int y) = decide (x = y) := by by_cases h : x = y <;> simp [h]
  rw [e]; exact q) rfl

/-! ### slices -/
def xP (T : List (Addr × Str)) (O : Org) (X : Cx) (e : Option Expr) (σ : St3) (G : Gm) (Q : Option Int → Gm → Prop) : Prop := match e with
  | none => Q none G
  | some e => xE T O X e σ G fun d G1 => ∃ i, d = .int i ∧ Q (some i) G1
def S3 (K : PySem.W.Frag) (T : List (Addr × Str)) (r : V → Option Int → Option Int → Hp → VK → Prop) (x : D) (lo hi : Option Int) (G : Gm) (Q : D → Gm → Prop) : Prop := ∀ vx H (Qv : VK), R3 K T G H → DV K G H vx x → Then3 K T G H Q Qv → r vx lo hi H Qv
def rSlAll (K : PySem.W.Frag) : V → Option Int → Option Int → Hp → VK → Prop := fun x lo hi H Q => rSlL K x lo hi H Q ∨ rSlA K x lo hi H Q ∨ rSlS x lo hi H Q
theorem sl_all : SlR X (rSlAll X.K) := SlR.or sl_list (SlR.or sl_tupA sl_str)
theorem r_slice {lo hi : Option Expr} {p2 : Pos} (h : xE T O X e σ G fun x G1 => xP T O X lo σ G1 fun l G2 => xP T O X hi σ G2 fun u G3 => S3 X.K T (rSlAll X.K) x l u G3 Q) : xE T O X (.Subscript e (.Slice lo hi none p2) pos) σ G Q := fun vs H p => by
  have fin : ∀ (tl th : TO), PO X lo tl → PO X hi th → (∀ (x : V) H1 G1 (Qv : Option Int → Hp → Prop) (R : Option Int → Gm → Prop), Pre X.K T O σ G1 vs H1 → xP T O X lo σ G1 R → (∀ l H2 G2, Pre X.K T O σ G2 vs H2 → Keep G1 H1 G2 H2 → R l G2 → Qv l H2) → tl vs H1 Qv) →
      (∀ (x : V) H1 G1 (Qv : Option Int → Hp → Prop) (R : Option Int → Gm → Prop), Pre X.K T O σ G1 vs H1 → xP T O X hi σ G1 R → (∀ l H2 G2, Pre X.K T O σ G2 vs H2 → Keep G1 H1 G2 H2 → R l G2 → Qv l H2) → th vs H1 Qv) →
      wE X (.Subscript e (.Slice lo hi none p2) pos) vs H (upE X.K T G H Q) := by
    intro tl th pl ph wl wh
    refine wE_of (pe_slice sl_all cE pl ph) ?_
    refine h.run p fun x H1 d G1 p1 k1 dx h1 => ?_
    refine wl x H1 G1 _ _ p1 h1 fun l H2 G2 p2 k2 h2 => ?_
    refine wh x H2 G2 _ _ p2 h2 fun u H3 G3 p3 k3 h3 => ?_
    exact h3 _ _ _ p3.r ((dx.mono k2).mono k3) (then3 ((k1.trans k2).trans k3))
  have wn : ∀ (x : V) H1 G1 (Qv : Option Int → Hp → Prop) (R : Option Int → Gm → Prop), Pre X.K T O σ G1 vs H1 → xP T O X none σ G1 R → (∀ l H2 G2, Pre X.K T O σ G2 vs H2 → Keep G1 H1 G2 H2 → R l G2 → Qv l H2) → tNoPart vs H1 Qv :=
    fun x H1 G1 Qv R p1 h q => q none H1 G1 p1 (.refl _ _) h
  have ws : ∀ (e : Expr) (x : V) H1 G1 (Qv : Option Int → Hp → Prop) (R : Option Int → Gm → Prop), Pre X.K T O σ G1 vs H1 → xP T O X (some e) σ G1 R → (∀ l H2 G2, Pre X.K T O σ G2 vs H2 → Keep G1 H1 G2 H2 → R l G2 → Qv l H2) → tPart (wE X e) vs H1 Qv :=
    fun e x H1 G1 Qv R p1 h q => xE.run h p1 fun v H2 d G2 p2 k2 dv ⟨i, ei, hr⟩ => by subst ei; cases dv; exact ⟨i, rfl, q _ _ _ p2 k2 hr⟩
  cases lo with
  | none => cases hi with
    | none => exact fin _ _ po_none po_none wn wn
    | some b => exact fin _ _ po_none (po_some cE) wn (ws b)
  | some a => cases hi with
    | none => exact fin _ _ (po_some cE) po_none (ws a) wn
    | some b => exact fin _ _ (po_some cE) (po_some cE) (ws a) (ws b)
theorem x_no {Q : Option Int → Gm → Prop} (q : Q none G) : xP T O X none σ G Q := q
theorem x_some {Q : Option Int → Gm → Prop} (h : xE T O X e σ G fun d G1 => ∃ i, d = .int i ∧ Q (some i) G1) : xP T O X (some e) σ G Q := h
def cutD (xs : List D) (lo hi : Option Int) : List D := (xs.drop (HT.sIx xs.length 0 lo)).take (HT.sIx xs.length xs.length hi - HT.sIx xs.length 0 lo)
theorem DVs.cut {H : Hp} {vs : List V} {ds : List D} (h : DVs K G H vs ds) (lo hi : Option Int) : DVs K G H (cutV vs lo hi) (cutD ds lo hi) := by
  unfold cutV cutD; rw [h.length]; exact (h.drop _).take _
theorem s_l {d : D} {ds : List D} {lo hi : Option Int} (h : seqL G d ds) (q : Q (.lst (cutD ds lo hi)) G) : S3 K T (rSlAll K) d lo hi G Q := fun vx H Qv r dv k => by
  obtain ⟨a, ws, rfl, s, dw⟩ := seqL_dv r h dv
  exact .inl ⟨a, ws, rfl, s, fun p hp => k _ _ _ _ (r.new hp) (keep_new hp) (.lst (.inl ⟨r.free hp, .inl upd_same⟩) ((dw.cut lo hi).mono (keep_new hp))) q⟩
theorem s_lO {d : D} {ds : List D} {lo hi : Option Int} (h : seqL G d ds) (q : ∀ p, G p = none → Q (.raw (.ref p)) (gset G p (.lst (cutD ds lo hi)))) : S3 K T (rSlAll K) d lo hi G Q := fun vx H Qv r dv k => by
  obtain ⟨a, ws, rfl, s, dw⟩ := seqL_dv r h dv
  exact .inl ⟨a, ws, rfl, s, fun p hp => k _ _ _ _ (r.own (c := .lst (cutD ds lo hi)) hp ⟨_, upd_same, (dw.cut lo hi).mono (keep_own hp)⟩) (keep_own hp) (.raw _) (q p (r.free hp))⟩
theorem s_t {ds : List D} {lo hi : Option Int} (q : Q (.tup (cutD ds lo hi)) G) : S3 K T (rSlAll K) (.tup ds) lo hi G Q := fun vx H Qv r dv k => by
  cases dv with
  | tup tu dw =>
    refine .inr (.inl ⟨_, _, rfl, tu.sq, fun hw => ?_, fun _ p hp => ?_⟩)
    · have e : cutD ds lo hi = ds := by
        rw [dw.length] at hw
        unfold cutD
        rw [hw.1, hw.2]; simp
      rw [e] at q
      exact k _ _ _ _ r (.refl _ _) (.tup tu dw) q
    · exact k _ _ _ _ (r.new hp) (keep_new hp) (.tup ⟨r.free hp, upd_same⟩ ((dw.cut lo hi).mono (keep_new hp))) q
theorem s_s {z : Str} {lo hi : Option Int} (q : Q (.str (cutS z lo hi)) G) (hz : z.length ≤ sizeLine) : S3 K T (rSlAll K) (.str z) lo hi G Q := fun vx H Qv r dv k => by
  cases dv
  exact .inr (.inr ⟨z, rfl, hz, k _ _ _ _ r (.refl _ _) (.str _) q⟩)
end
end L3
end
section
/-! L3, rules: dicts: made, walked, asked; sorted. -/
namespace L3
open PySem PySem.Spec PyProof.Rows L2
/-! ### dict(pairs), the keys tuples -/
section
def mergeG {κ : Type} [DecidableEq κ] (kvs more : List (κ × V)) : List (κ × V) := more.foldl (fun acc kv => putK acc kv.1 kv.2) kvs
theorem mergeG_length {κ : Type} [DecidableEq κ] : ∀ (more kvs : List (κ × V)), (mergeG kvs more).length ≤ kvs.length + more.length
  | [], kvs => by show kvs.length ≤ kvs.length + 0; omega
  | p :: r, kvs => by
    have h1 := mergeG_length r (putK kvs p.1 p.2)
    have h2 := length_putK kvs p.1 p.2
    show (mergeG (putK kvs p.1 p.2) r).length ≤ _
    rw [List.length_cons]; omega
theorem kt_mergeG {H : Hp} : ∀ {more : List (List Key × V)} {rs : List (List Key × Addr × Value)} {kvs : List (List Key × V)} {xs : List (List Key × Addr × Value)}, KT H more rs → KT H kvs xs → KT H (L3.mergeG kvs more) (storedAllH xs rs)
  | [], _, _, _, r, q => by cases r; exact q
  | p :: more, _, kvs, xs, r, q => by
    cases r with
    | @cons _ b _ bs h t =>
      obtain ⟨h1, h2, h3⟩ := h
      have q' : KT H (putK kvs p.1 p.2) (storedH xs b.1 b.2.1 b.2.2) := by
        rw [← h1]; exact KT.put q p.1 h2 h3
      have z := kt_mergeG (more := more) (rs := bs) t q'
      exact z
variable {X : Cx}
def rDictT (K : PySem.W.Frag) : List V → Hp → VK → Prop := fun xs H Q => ∃ (a : Addr) (ps : List Addr) (es : List (Addr × List Key × V)), xs = [.ref a] ∧ SqL K H a (ps.map V.ref) ∧
  Paired (fun p (e : Addr × List Key × V) => SqT K H p [.ref e.1, e.2.2] ∧ H e.1 = some (.tup (e.2.1.map kV))) ps es ∧ ∀ p, H p = none → Q (.ref p) (upd H p (.dT (L3.mergeG [] (es.map (·.2)))))
theorem tpairs_of {pins : List (Addr × Obj)} {σ : L2.St} {H : Hp} {s : Shared} (I : Inv X pins σ H s) : ∀ {ps : List Addr} {es : List (Addr × List Key × V)}, Paired (fun p (e : Addr × List Key × V) => SqT X.K H p [.ref e.1, e.2.2] ∧ H e.1 = some (.tup (e.2.1.map kV))) ps es →
    ∃ prs : List (List Key × Addr × Value), KT H (es.map (·.2)) prs ∧ prs.length = ps.length ∧ (∀ x ∈ prs, H x.2.1 = some (.tup (x.1.map kV))) ∧ ∀ (j : Nat) (q : List Key × Addr × Value), prs[j]? = some q → ∃ b : Addr, ps[j]? = some b ∧ IsTup s.heap b #[.ref q.2.1, q.2.2]
  | _, _, .nil => ⟨[], .nil, rfl, fun _ h => (by cases h), fun j q e => by simp at e⟩
  | _, _, .cons (a := p) (b := e) h t => by
    obtain ⟨prs, r, hl, hm, hp⟩ := tpairs_of I t
    obtain ⟨h, hk⟩ := h
    obtain ⟨its, rv, ht, _⟩ := I.tuple h
    obtain ⟨u, y, ei, ru, ry⟩ := vals2 rv
    subst ei
    cases ru
    refine ⟨(e.2.1, e.1, y) :: prs, .cons ⟨rfl, hk, ry⟩ r, by rw [List.length_cons, List.length_cons, hl], fun x hx => ?_, fun j q ej => ?_⟩
    · rcases List.mem_cons.mp hx with rfl | hx
      · exact hk
      · exact hm x hx
    · cases j with
      | zero =>
        have e' : (e.2.1, e.1, y) = q := Option.some.inj ej
        subst e'
        exact ⟨p, rfl, ht⟩
      | succ j =>
        obtain ⟨b, e1, e2⟩ := hp j q (by simpa using ej)
        exact ⟨b, by simpa using e1, e2⟩
theorem call_dictT (hc : X.calm = true) (hu : X.A.units + 3 < cLine) : CallR X (.type "dict") (rDictT X.K) := by
  intro pins s σ H xs us Q I r q
  obtain ⟨a, ps, es, ex, hq, hp, q⟩ := q
  subst ex
  obtain ⟨u, eu, rx⟩ := vals1 r
  subst eu
  cases rx
  obtain ⟨its, rv, ⟨o, n, ho, hcl, hd, hdat⟩, hz⟩ := I.list hq
  have ei := refs_at rv
  subst ei
  rw [List.length_map] at hz
  obtain ⟨prs, rel, hl, hm, hpr⟩ := tpairs_of I hp
  have pi : PairItems s.heap (ps.map Value.ref).toArray (fun j => ps.getD j 0) (prs.map fun x => (Value.ref x.2.1, x.2.2)) := by
    refine ⟨by rw [List.size_toArray, List.length_map, List.length_map, hl], fun j k v hj => ?_⟩
    rw [List.getElem?_map] at hj
    cases e : prs[j]? with
    | none => rw [e] at hj; cases hj
    | some y =>
      rw [e] at hj
      cases hj
      obtain ⟨b, e1, e2⟩ := hpr j y e
      have eg : ps.getD j 0 = b := by rw [List.getD_eq_getElem?_getD, e1]; rfl
      show _ = some (Value.ref (ps.getD j 0)) ∧ PairAt s.heap (ps.getD j 0) _ _
      rw [eg]
      obtain ⟨ot, hot, hct, m, hdt⟩ := e2
      exact ⟨by rw [List.getElem?_toArray, List.getElem?_map, e1]; rfl, .inl ⟨ot, hot, hct, m, hdt⟩⟩
  refine PySem.call_dict_pairsH (knd := tupleKind (mixKind X.prog X.w)) (ps := prs) (PairArg.list a _ _ _) (I.ok.hd hc) (show X.A.in1.in1.units < cLine from ?_) ⟨⟨o, n, ho, hcl, hd, hdat⟩, pi⟩ ⟨by rw [List.length_map], fun i key v hj => ?_⟩ (fun h' hk x hx => ?_) (by rw [List.length_map, hl]; exact hz) fun h' tk hd' k => ?_
  · show X.A.units + 1 + 1 < cLine; omega
  · have hj : (prs.map fun x => (Value.ref x.2.1, x.2.2))[i]? = some (key, v) := hj
    rw [List.getElem?_map] at hj
    cases e : prs[i]? with
    | none => rw [e] at hj; cases hj
    | some y => rw [e] at hj; cases hj; exact ⟨y.1, y.2.1, rfl, rfl⟩
  · have hok := key_of I.hok (hm x hx)
    obtain ⟨ot, its, m, h1, h2, h3, h4⟩ := hok
    exact ⟨ot, its, m, hk _ _ (Nat.ne_of_lt (Heap.lt_size h1)) (by simp) h1, h2, h3, h4⟩
  · have k : ∀ b o, s.heap.get? b = some o → h'.get? b = some o := fun b o e => k b o (by simp) e
    have hsm : (s.heap.objs.size == sysModules) = false := beq_eq_false_iff_ne.mpr (Nat.ne_of_gt I.big)
    have hlen : (L3.mergeG [] (es.map (·.2))).length ≤ sizeLine := by
      refine Nat.le_trans (mergeG_length _ []) ?_
      rw [List.length_nil, Nat.zero_add, List.length_map, ← Paired.length hp]
      exact hz
    obtain ⟨od, ees, ep, hq1, h2, h3, h4, _, h5⟩ := hd'
    have hfr := I.hok.fresh (Nat.le_refl s.heap.objs.size)
    refine ⟨.ref s.heap.objs.size, upd H s.heap.objs.size (.dT (L3.mergeG [] (es.map (·.2)))), I.laid (t' := tk) k (Nat.le_refl _) ⟨hlen, hsm, _, (kt_mergeG rel .nil).keeps fun c ys ec => ?_, od, ees, ep, hq1, h2, h3, h4, h5⟩, rfl, q _ hfr⟩
    rw [upd_ne (ne_of_none ec hfr)]
    exact ec
end
end L3
end
section
/-! L3, rules: dicts: made, walked, asked. -/
namespace L3
open PySem PySem.Spec PyProof.Rows L2
def keyT (k : List Key) : D := .tup (k.map dK1)
section
variable {T : List (Addr × Str)} {O : Org} {X : Cx} {σ : St3} {G : Gm} {a b c e o : Expr} {es : List Expr} {pos : Pos} {Q : D → Gm → Prop} {K : PySem.W.Frag}
theorem dv_key {H : Hp} (k : Key) : DV K G H (kV k) (dK1 k) := by cases k <;> constructor
theorem dvs_keys {H : Hp} : ∀ k : List Key, DVs K G H (k.map kV) (k.map dK1)
  | [] => .nil
  | k :: ks => .cons (dv_key k) (dvs_keys ks)
theorem keyD_dK1 (k : Key) : keyD (dK1 k) = some k := by cases k <;> rfl
theorem keysD_dK1 : ∀ k : List Key, keysD (k.map dK1) = some k
  | [] => rfl
  | k :: ks => by simp [keysD, keyD_dK1, keysD_dK1 ks]
theorem DVk.keys {H : Hp} {ws : List (Key × V)} {kvs : List (Key × D)} (h : DVk K G H ws kvs) : ws.map (·.1) = kvs.map (·.1) := by
  induction kvs generalizing ws with
  | nil => cases h; rfl
  | cons d ds ih => cases h with | cons a b => simp [ih b]
theorem DVt.keys {H : Hp} {ws : List (List Key × V)} {kvs : List (List Key × D)} (h : DVt K G H ws kvs) : ws.map (·.1) = kvs.map (·.1) := by
  induction kvs generalizing ws with
  | nil => cases h; rfl
  | cons d ds ih => cases h with | cons a b => simp [ih b]
theorem keys_get {κ α β : Type} {ws : List (κ × α)} {kvs : List (κ × β)} (h : ws.map (·.1) = kvs.map (·.1)) {i : Nat} {k : κ} {v : α} (e : ws[i]? = some (k, v)) : ∃ d, kvs[i]? = some (k, d) := by
  have e2 : (ws.map (·.1))[i]? = some k := by rw [List.getElem?_map, e]; rfl
  rw [h, List.getElem?_map] at e2
  cases q : kvs[i]? with
  | none => rw [q] at e2; cases e2
  | some p => rw [q] at e2; cases e2; exact ⟨p.2, rfl⟩

/-! ### for k in d -/
/-- the keys of the dict d -/
def keysOf : D → Option (List D)
  | .dK kvs => some (kvs.map fun p => dK1 p.1)
  | .dT kvs => some (kvs.map fun p => keyT p.1)
  | _ => none
theorem wI_keys {tg : Expr} {x : Str} {i : Nat} {vs : L2.St} {H : Hp} {p : Addr} {od : Obj} {u : HO} {d : D} {ds : List D} {Q : List D → (Gm → Prop) → Gm → Prop} (pr : Pre X.K T O σ G vs H) (hN : X.N[i]? = some x ∧ (x == ("__debug__" : Str)) = false ∧ (x == ("__classdict__" : Str)) = false) (hv : Vis X.env.scope x)
    (e : vs[i]? = some (some (.ref p))) (hl : H p = some (.frz od u)) (g : G p = none) (hu : (∃ ws kvs, u = .dK ws ∧ d = .dK kvs ∧ DVk X.K G H ws kvs) ∨ ∃ ws kvs, u = .dT ws ∧ d = .dT kvs ∧ DVt X.K G H ws kvs) (hk : keysOf d = some ds)
    (q : Q ds (fun _ => True) G) : wI X tg (.Name x pos) vs H (upI X.K T G H Q) := by
  refine wI_of (pi_keys (pe_var hN.1 hv hN.2.1 hN.2.2)) ⟨.ref p, e, p, od, rfl, ?_⟩
  rcases hu with ⟨ws, kvs, rfl, rfl, dv⟩ | ⟨ws, kvs, rfl, rfl, dv⟩
  · cases hk
    refine .inl ⟨ws, hl, _, _, G, pr.r, .refl _ _, fun G' H' _ r' k' => ?_, q⟩
    have hl' := (k'.frz g hl).1
    have hlen : ws.length = kvs.length := dv.length
    refine ⟨fun i d hd => ?_, ⟨hl', by rw [List.length_map, hlen]; exact Nat.le_refl _⟩⟩
    have hi : i < ws.length := by
      have := (List.getElem?_eq_some_iff.mp hd).1
      rw [List.length_map] at this; omega
    refine ⟨⟨hl', hi⟩, fun x H'' ⟨e1, k, v, e2, e3⟩ => ?_⟩
    subst e1 e3
    obtain ⟨d', e4⟩ := keys_get dv.keys e2
    rw [List.getElem?_map, e4] at hd
    cases hd
    exact ⟨r', .refl _ _, dv_key k⟩
  · cases hk
    refine .inr ⟨ws, hl, _, _, G, pr.r, .refl _ _, fun G' H' _ r' k' => ?_, q⟩
    have hl' := (k'.frz g hl).1
    have hlen : ws.length = kvs.length := dv.length
    refine ⟨fun i d hd => ?_, ⟨hl', by rw [List.length_map, hlen]; exact Nat.le_refl _⟩⟩
    have hi : i < ws.length := by
      have := (List.getElem?_eq_some_iff.mp hd).1
      rw [List.length_map] at this; omega
    refine ⟨⟨hl', hi⟩, fun x H'' ⟨e1, k, v, q, e2, e3, e4⟩ => ?_⟩
    subst e1 e3
    obtain ⟨d', e5⟩ := keys_get dv.keys e2
    rw [List.getElem?_map, e5] at hd
    cases hd
    exact ⟨r', .refl _ _, .tup ⟨r'.tup_free e4, e4⟩ (dvs_keys k)⟩
/-- for t in d: d a name that holds a dict -/
theorem s_forK {tg : Expr} {x : Str} (i : Nat) {body : List Stmt} {d : D} {ds : List D} {p2 : Pos} {D3 : Ends3} (hp : PassesOwn (model X.prog X.w) X.A X.env X.xe) (hc : X.calm = true) (hN : X.N[i]? = some x ∧ (x == ("__debug__" : Str)) = false ∧ (x == ("__classdict__" : Str)) = false) (hv : Vis X.env.scope x)
    (hσ : σ[i]? = some (some d)) (hk : keysOf d = some ds) (P : Nat → St3 → Gm → Prop) (h0 : P 0 σ G)
    (hb : ∀ i d σ' G', ds[i]? = some d → P i σ' G' → xG T O X tg d σ' G' fun σ2 G2 => xB T O X body { D3 with nx := P (i + 1), ct := P (i + 1), bk := D3.nx } σ2 G2) (hd : ∀ σ' G', P ds.length σ' G' → D3.nx σ' G') : xS T O X (.For tg (.Name x p2) body [] pos) D3 σ G := fun vs H p => by
  have hs : ∀ z, foldedSetIterable (.Name x p2) X.env z = pure z := by intro _; rfl
  obtain ⟨v, e, dv⟩ := p.d.get hσ
  have fin : ∀ (a : Addr) (u : HO), v = .ref a → G a = none → Rd H a u → isDc u → (∀ G' H', Kp G H G' H' → (∃ ws kvs, u = .dK ws ∧ d = .dK kvs ∧ DVk X.K G' H' ws kvs) ∨ ∃ ws kvs, u = .dT ws ∧ d = .dT kvs ∧ DVt X.K G' H' ws kvs) →
      wS X (.For tg (.Name x p2) body [] pos) (down X.K T G H D3) vs H := by
    intro a u ev g hr hu hdv
    subst ev
    rcases hr with hH | ⟨od, hH⟩
    · refine wS_of (ps_lock cS) ⟨a, u, hH, by rcases hu with ⟨k, rfl⟩ | ⟨k, rfl⟩ <;> trivial, fun od => ?_⟩
      have kl := keep_lock (od := od) hu hH g
      have pl : Pre X.K T O σ G vs (upd H a (.frz od u)) := p.step (p.r.lock hu hH g) kl
      refine wS.mono (for_core hp hc pl (wI_keys pl hN hv e upd_same g (hdv _ _ kl.kp) hk ⟨P, h0, fun _ _ _ _ _ => trivial, hb, hd⟩) hs) ⟨fun us H5 h5 => ?_, fun v5 H5 h5 => ?_, fun us H5 h5 => ?_, fun us H5 h5 => ?_⟩
      · obtain ⟨σ5, G5, r5, k5, d5, q5⟩ := h5
        have f := k5.frz g upd_same
        exact ⟨f.1, σ5, G5, r5.unlock hu f.1 f.2, keep_through hH g k5, d5.mono' (kp_unlock hu f.1), q5⟩
      · obtain ⟨σ5, G5, r5, k5, d5, q5⟩ := h5
        have f := k5.frz g upd_same
        exact ⟨f.1, σ5, G5, r5.unlock hu f.1 f.2, keep_through hH g k5, d5.mono' (kp_unlock hu f.1), q5⟩
      · obtain ⟨σ5, G5, r5, k5, d5, q5⟩ := h5
        have f := k5.frz g upd_same
        exact ⟨f.1, σ5, G5, r5.unlock hu f.1 f.2, keep_through hH g k5, d5.mono' (kp_unlock hu f.1), q5⟩
      · obtain ⟨σ5, G5, r5, k5, d5, q5⟩ := h5
        have f := k5.frz g upd_same
        exact ⟨f.1, σ5, G5, r5.unlock hu f.1 f.2, keep_through hH g k5, d5.mono' (kp_unlock hu f.1), q5⟩
    · exact for_core hp hc p (wI_keys p hN hv e hH g (hdv _ _ (Keep.refl G H).kp) hk ⟨P, h0, fun _ _ _ _ _ => trivial, hb, hd⟩) hs
  cases dv with
  | @dK a ws kvs g hr dk => exact fin a (.dK ws) rfl g hr (.inl ⟨_, rfl⟩) fun G' H' k => .inl ⟨ws, kvs, rfl, rfl, dk.mono' k⟩
  | @dT a ws kvs g hr dk => exact fin a (.dT ws) rfl g hr (.inr ⟨_, rfl⟩) fun G' H' k => .inr ⟨ws, kvs, rfl, rfl, dk.mono' k⟩
  | _ => cases hk

/-! ### {}, {k: v, ..}, dict(pairs) -/
theorem r_newK (q : ∀ a, G a = none → Q (.raw (.ref a)) (gset G a (.dK []))) : xE T O X (.Dict [] [] pos) σ G Q := fun vs H p =>
  wE_of pe_dnewK fun a ha => ⟨_, _, p.r.own (c := .dK []) ha ⟨[], upd_same, .nil⟩, keep_own ha, .raw _, q a (p.r.free ha)⟩
theorem r_newT (q : ∀ a, G a = none → Q (.raw (.ref a)) (gset G a (.dT []))) : xE T O X (.Dict [] [] pos) σ G Q := fun vs H p =>
  wE_of pe_dnewT fun a ha => ⟨_, _, p.r.own (c := .dT []) ha ⟨[], upd_same, .nil⟩, keep_own ha, .raw _, q a (p.r.free ha)⟩
def xPs (T : List (Addr × Str)) (O : Org) (X : Cx) (σ : St3) : List (Option Expr) → List Expr → Gm → (List (Key × D) → Gm → Prop) → Prop
  | [], [], G, Q => Q [] G
  | some k :: ks, v :: vs, G, Q => xE T O X k σ G fun x G1 => ∃ key, keyD x = some key ∧ xE T O X v σ G1 fun d G2 => xPs T O X σ ks vs G2 fun r G3 => Q ((key, d) :: r) G3
  | _, _, _, _ => False
def mergeD {κ : Type} [DecidableEq κ] (l m : List (κ × D)) : List (κ × D) := m.foldl (fun acc kv => putD acc kv.1 kv.2) l
theorem DVk.merge {H : Hp} : ∀ {m : List (Key × D)} {us : List (Key × V)} {l : List (Key × D)} {ws : List (Key × V)}, DVk K G H us m → DVk K G H ws l → DVk K G H (mergeK ws us) (mergeD l m)
  | [], _, _, _, h, h' => by cases h; exact h'
  | x :: m, _, l, ws, h, h' => by
    cases h with
    | @cons k v us d _ a b =>
      have z := DVk.merge (m := m) b (h'.put a k)
      exact z
theorem DVt.merge {H : Hp} : ∀ {m : List (List Key × D)} {us : List (List Key × V)} {l : List (List Key × D)} {ws : List (List Key × V)}, DVt K G H us m → DVt K G H ws l → DVt K G H (mergeG ws us) (mergeD l m)
  | [], _, _, _, h, h' => by cases h; exact h'
  | x :: m, _, l, ws, h, h' => by
    cases h with
    | @cons k v us d _ a b =>
      have z := DVt.merge (m := m) b (h'.put a k)
      exact z
def trsOf (X : Cx) : List (Option Expr) → List Expr → List (TE × TE)
  | some k :: ks, v :: vs => (wE X k, wE X v) :: trsOf X ks vs
  | _, _ => []
def okPs : List (Option Expr) → List Expr → Bool
  | [], [] => true
  | some _ :: ks, _ :: vs => okPs ks vs
  | _, _ => false
theorem pps_of : ∀ (ks : List (Option Expr)) (vs : List Expr), okPs ks vs = true → PPs X pos ks vs (trsOf X ks vs)
  | [], [], _ => pps_nil
  | some k :: ks, v :: vs, h => pps_cons cE cE (pps_of ks vs h)
  | [], _ :: _, h => (nomatch h)
  | none :: _, _, h => by cases ‹List Expr› <;> cases h
  | some _ :: _, [], h => (nomatch h)
theorem xPs.run : ∀ {ks : List (Option Expr)} {es : List Expr} {G : Gm} {R : List (Key × D) → Gm → Prop} {vs : L2.St} {H : Hp} (h : xPs T O X σ ks es G R) (p : Pre X.K T O σ G vs H) {Qv : List (V × V) → Hp → Prop}
    (k : ∀ ws H1 kds G1, Pre X.K T O σ G1 vs H1 → Keep G H G1 H1 → DVk X.K G1 H1 ws kds → R kds G1 → Qv (ws.map fun kv => (kV kv.1, kv.2)) H1), tPairs (trsOf X ks es) vs H Qv
  | [], [], G, R, vs, H, h, p, Qv, k => k [] H [] G p (.refl _ _) .nil h
  | some ke :: ks, e :: es, G, R, vs, H, h, p, Qv, k => by
    have h : xE T O X ke σ G fun x G1 => ∃ key, keyD x = some key ∧ xE T O X e σ G1 fun d G2 => xPs T O X σ ks es G2 fun r G3 => R ((key, d) :: r) G3 := h
    refine h.run p fun x H1 d G1 p1 k1 dx ⟨key, hk, h1⟩ => ?_
    have ex := key_dv hk dx
    subst ex
    refine h1.run p1 fun y H2 d2 G2 p2 k2 dy h2 => ?_
    refine xPs.run h2 p2 fun ws H3 kds G3 p3 k3 dk r => ?_
    exact k ((key, y) :: ws) H3 ((key, d2) :: kds) G3 p3 ((k1.trans k2).trans k3) (.cons (dy.mono k3) dk) r
  | [], _ :: _, _, _, _, _, h, _, _, _ => h.elim
  | none :: _, _, _, _, _, _, h, _, _, _ => by cases ‹List Expr› <;> exact h.elim
  | some _ :: _, [], _, _, _, _, h, _, _, _ => h.elim
/-- {k: v, ..}: an owned dict -/
theorem r_disp {ks : List (Option Expr)} {es : List Expr} (h : ∀ A, G A = none → xPs T O X σ ks es (gset G A (.dK [])) fun kds G2 => G2 A = some (.dK []) ∧ kds.length ≤ 15 ∧ Q (.raw (.ref A)) (gset G2 A (.dK (mergeD [] kds))))
    (hok : okPs ks es = true := by rfl) (hall : ks.all (·.isSome) = true := by rfl) (hl : ks.length = es.length := by rfl) (h0 : ks ≠ [] := by exact fun z => by cases z) (h15 : ks.length ≤ 15 := by decide) : xE T O X (.Dict ks es pos) σ G Q := fun vs H p => by
  refine wE_of (pe_disp (pps_of ks es hok) hall hl h0 h15) fun a ha => ?_
  have ka := keep_own (G := G) (o := .dK []) (c := .dK []) ha
  have pa : Pre X.K T O σ (gset G a (.dK [])) vs (upd H a (.dK [])) := p.step (p.r.own (c := .dK []) ha ⟨[], upd_same, .nil⟩) ka
  refine xPs.run (h a (p.r.free ha)) pa fun ws H1 kds G1 p1 k1 dk ⟨hA, hlen, q⟩ => ?_
  obtain ⟨ws0, e0, d0⟩ := p1.r.cell a _ hA
  cases d0
  refine ⟨e0, ws, rfl, by rw [dk.length]; exact hlen, ?_⟩
  have kw := keep_write (G := G1) (H := H1) (o := .dK (mergeK [] ws)) (c := .dK (mergeD [] kds)) (nz hA)
  exact ⟨_, _, p1.r.write (c := .dK (mergeD [] kds)) (nz hA) (hp_dK e0) ⟨_, upd_same, (DVk.merge dk .nil).mono kw⟩, (ka.trans k1).trans kw, .raw _, q⟩
theorem ps_nil {Q : List (Key × D) → Gm → Prop} (q : Q [] G) : xPs T O X σ [] [] G Q := q
theorem ps_cons {ke : Expr} {ks : List (Option Expr)} {Q : List (Key × D) → Gm → Prop} (h : xE T O X ke σ G fun x G1 => ∃ key, keyD x = some key ∧ xE T O X e σ G1 fun d G2 => xPs T O X σ ks es G2 fun r G3 => Q ((key, d) :: r) G3) : xPs T O X σ (some ke :: ks) (e :: es) G Q := h
def rDictP (K : PySem.W.Frag) : List V → Hp → VK → Prop := fun xs H Q => ∃ (a : Addr) (ps : List Addr) (kvs : List (Key × V)), xs = [.ref a] ∧ SqL K H a (ps.map V.ref) ∧ Paired (fun p kv => SqT K H p [kV kv.1, kv.2]) ps kvs ∧
    ∀ p, H p = none → Q (.ref p) (upd H p (.dK (mergeK [] kvs)))
def rDictA (K : PySem.W.Frag) : List V → Hp → VK → Prop := fun xs H Q => rDictP K xs H Q ∨ rDictT K xs H Q
theorem call_dictA (hc : X.calm = true) (hu : X.A.units + 3 < cLine) : CallR X (.type "dict") (rDictA X.K) := CallR.or (call_dictP hc) (call_dictT hc hu)
theorem pairs_at {H : Hp} : ∀ {es : List (Key × D)} {ws : List V}, DVs K G H ws (es.map fun e => .tup [dK1 e.1, e.2]) → ∃ (ps : List Addr) (kvs : List (Key × V)), ws = ps.map V.ref ∧ Paired (fun p (kv : Key × V) => SqT K H p [kV kv.1, kv.2]) ps kvs ∧ DVk K G H kvs es
  | [], _, h => by cases h; exact ⟨[], [], rfl, .nil, .nil⟩
  | e :: es, _, h => by
    cases h with
    | cons a b =>
      obtain ⟨ps, kvs, rfl, hp, hd⟩ := pairs_at b
      cases a with
      | @tup p vs _ tu dvs =>
        cases dvs with
        | cons d1 d2 =>
          cases d2 with
          | cons d2 d3 =>
            cases d3
            have e1 := key_dv (keyD_dK1 e.1) d1
            subst e1
            exact ⟨p :: ps, (e.1, _) :: kvs, rfl, .cons tu.sq hp, .cons d2 hd⟩
theorem tpairs_at {H : Hp} : ∀ {es : List (List Key × D)} {ws : List V}, DVs K G H ws (es.map fun e => .tup [keyT e.1, e.2]) → ∃ (ps : List Addr) (kvs : List (Addr × List Key × V)), ws = ps.map V.ref ∧ Paired (fun p (e : Addr × List Key × V) => SqT K H p [.ref e.1, e.2.2] ∧ H e.1 = some (.tup (e.2.1.map kV))) ps kvs ∧ DVt K G H (kvs.map (·.2)) es
  | [], _, h => by cases h; exact ⟨[], [], rfl, .nil, .nil⟩
  | e :: es, _, h => by
    cases h with
    | cons a b =>
      obtain ⟨ps, kvs, rfl, hp, hd⟩ := tpairs_at b
      cases a with
      | @tup p vs _ tu dvs =>
        cases dvs with
        | cons d1 d2 =>
          cases d2 with
          | cons d2 d3 =>
            cases d3
            cases d1 with
            | @tup q vq _ tq dq =>
              have e1 := keys_dv (keysD_dK1 e.1) dq
              subst e1
              exact ⟨p :: ps, (q, e.1, _) :: kvs, rfl, .cons ⟨tu.sq, tq.2⟩ hp, .cons d2 hd⟩
theorem c_dictK {d : D} {es : List (Key × D)} (h : seqL G d (es.map fun e => .tup [dK1 e.1, e.2])) (q : Q (.dK (mergeD [] es)) G) : C3 K T (rDictA K) [d] G Q := fun vx H Qv r dv k => by
  cases dv with
  | cons a c =>
    cases c
    obtain ⟨l, ws, rfl, s, dw⟩ := seqL_dv r h a
    obtain ⟨ps, kvs, rfl, hp, hd⟩ := pairs_at dw
    exact .inl ⟨l, ps, kvs, rfl, s, hp, fun p hp => k _ _ _ _ (r.new hp) (keep_new hp) (.dK (r.free hp) (.inl upd_same) ((DVk.merge hd .nil).mono (keep_new hp))) q⟩
theorem c_dictT {d : D} {es : List (List Key × D)} (h : seqL G d (es.map fun e => .tup [keyT e.1, e.2])) (q : Q (.dT (mergeD [] es)) G) : C3 K T (rDictA K) [d] G Q := fun vx H Qv r dv k => by
  cases dv with
  | cons a c =>
    cases c
    obtain ⟨l, ws, rfl, s, dw⟩ := seqL_dv r h a
    obtain ⟨ps, kvs, rfl, hp, hd⟩ := tpairs_at dw
    exact .inr ⟨l, ps, kvs, rfl, s, hp, fun p hp => k _ _ _ _ (r.new hp) (keep_new hp) (.dT (r.free hp) (.inl upd_same) ((DVt.merge hd .nil).mono (keep_new hp))) q⟩
/-! ### k in d -/
def rDIn (neg : Bool) : R2 := fun x y H Q => ∃ a o, y = .ref a ∧ DGet H a x o ∧ Q (.bl (if neg then !o.isSome else o.isSome)) H
theorem op_inDict (hu : X.A.units + 1 < cLine) : OpR X (compareOp .In) (rDIn false) := by
  intro pins s σ H x y v u Q I rx ry h
  obtain ⟨a, o, rfl, g, q⟩ := h
  cases ry
  exact d_in hu I g rx fun s3 I3 => ⟨.bl o.isSome, H, I3, rfl, q⟩
theorem op_notInDict (hu : X.A.units + 1 < cLine) : OpR X (compareOp .NotIn) (rDIn true) := by
  intro pins s σ H x y v u Q I rx ry h
  obtain ⟨a, o, rfl, g, q⟩ := h
  cases ry
  exact d_notIn hu I g rx fun s3 I3 => ⟨.bl (!o.isSome), H, I3, rfl, q⟩
theorem o_inD {neg : Bool} {x y : D} {o : Option D} (g : GetD G y x o) (q : Q (.bl (if neg then !o.isSome else o.isSome)) G) : O3 K T (rDIn neg) x y G Q := fun vx vy H Qv r dx dy k => by
  obtain ⟨a, ov, e, g, h⟩ := getD_dv r g dy dx
  refine ⟨a, ov, e, g, ?_⟩
  have es : ov.isSome = o.isSome := by
    rcases h with ⟨v, d, rfl, rfl, _⟩ | ⟨rfl, rfl⟩ <;> rfl
  rw [es]
  exact k _ _ _ _ r (.refl _ _) (.bl _) q
end
end L3
end
section
/-! L3, rules: comprehensions with two clauses; sorted. -/
namespace L3
open PySem PySem.Spec PyProof.Rows L2
section
variable {T : List (Addr × Str)} {O : Org} {X : Cx} {σ : St3} {G : Gm} {elt tg iter tg1 iter1 : Expr} {ifs1 : List Expr} {scope : Scope} {own : List (Str × Nat)} {vs1 : List Nat} {pos : Pos}
def Lc2Body (T : List (Addr × Str)) (O : Org) (X : Cx) (scope : Scope) (own : List (Str × Nat)) (vs1 : List Nat) (f f1 : D → St3 → Option St3) (tg1 iter1 : Expr) (ifs1 : List Expr) (elt : Expr) (σ : St3) (Q : List D → Gm → Prop) (ds : List D) (C : Gm → Prop) (G1 : Gm) : Prop :=
  ∃ P : Nat → List D → Gm → Prop, P 0 [] G1 ∧ (∀ i acc G' A h, i ≤ ds.length → P i acc G' → G' A = none → C (gset G' A h)) ∧
    (∀ i d acc G', ds[i]? = some d → P i acc G' → ∃ σ2, f d (wipe3 σ (own.map (·.2))) = some σ2 ∧ ∀ A h, G' A = none → ∀ s H Cc cl fp, xI T O (bX X scope s H Cc cl fp) tg1 iter1 σ2 (gset G' A h) fun ds1 C1 G3 => ∃ G4, G3 = gset G4 A h ∧ G4 A = none ∧
      ∃ P1 : Nat → List D → Gm → Prop, P1 0 acc G4 ∧ (∀ j acc1 G' h', j ≤ ds1.length → P1 j acc1 G' → G' A = none → C1 (gset G' A h')) ∧
        (∀ j d1 acc1 G5, ds1[j]? = some d1 → P1 j acc1 G5 → acc1.length < sizeLine ∧ ∃ σ3, f1 d1 (wipe3 σ2 vs1) = some σ3 ∧ ∀ h', G5 A = none → Turn3 T O X scope ifs1 elt σ3 G5 A h' fun y G6 => P1 (j + 1) (snoc acc1 y) G6) ∧
        ∀ acc1 G5, P1 ds1.length acc1 G5 → P (i + 1) acc1 G5) ∧
    ∀ acc G', P ds.length acc G' → Q acc G'
theorem wipe_eq {us u2 : L2.St} {vs : List Nat} (h : wipe u2 vs = wipe (wipe us vs) vs) : wipe u2 vs = wipe us vs := by
  rw [h]
  apply List.ext_getElem?
  intro j
  rw [wipe_get, wipe_get, wipe_length]
  by_cases hj : j ∈ vs ∧ j < us.length
  · rw [if_pos hj, if_pos hj]
  · rw [if_neg hj, if_neg hj]
theorem lc2_all {g g1 : TG} {f f1 : D → St3 → Option St3} (hgd : TgD X.K g (own.map (·.2)) f) (hgd1 : TgD X.K g1 vs1 f1)
    {Q : List D → Gm → Prop} (h : xI T O X tg iter σ G (Lc2Body T O X scope own vs1 f f1 tg1 iter1 ifs1 elt σ Q)) {vs : L2.St} {H : Hp} (p : Pre X.K T O σ G vs H) (Qv : VK)
    (hq : ∀ A H' acc ws G', R3 X.K T (gset G' A (.obj (.lst ws))) H' → H' A = some (.lst ws) → G' A = none → Keep G H (gset G' A (.obj (.lst ws))) H' → DVs X.K (gset G' A (.obj (.lst ws))) H' ws acc → DVo X.K (gset G' A (.obj (.lst ws))) H' vs σ → Q acc G' → Qv (.ref A) H') :
    tLc2 (wI X tg iter) g tYes (fun σ H Q => ∀ s H0 Cc cl fp, wI (bX X scope s H0 Cc cl fp) tg1 iter1 σ H Q) g1 (fun σ H Q => ∀ s H0 Cc cl fp, wTs (bX X scope s H0 Cc cl fp) ifs1 σ H Q) (fun σ H Q => ∀ s H0 Cc cl fp, wE (bX X scope s H0 Cc cl fp) elt σ H Q) (own.map (·.2)) vs1 vs H Qv := by
  refine (h vs H p).mono fun J H1 h1 A hA => ?_
  obtain ⟨ds, C, G1, r1, k1, y, P, h0, hC, hb, hd⟩ := h1
  have gA := r1.free hA
  refine ⟨fun i m H2 => m = ds.length - i ∧ i ≤ ds.length ∧ ∃ G2 ws acc, R3 X.K T (gset G2 A (.obj (.lst ws))) H2 ∧ H2 A = some (.lst ws) ∧ G2 A = none ∧ Keep G1 H1 (gset G2 A (.obj (.lst ws))) H2 ∧ DVs X.K (gset G2 A (.obj (.lst ws))) H2 ws acc ∧ P i acc G2,
    ⟨_, rfl, Nat.zero_le _, G1, [], [], r1.ownObj hA ⟨fun _ z => (by cases z), fun _ z => (by cases z), fun _ z => (by cases z)⟩, upd_same, gA, keep_own hA, .nil, h0⟩, ?_⟩
  rintro i m H2 ⟨rfl, hi, G2, ws, acc, r2, hA2, gA2, k2, dacc, q2⟩
  obtain ⟨y1, y2⟩ := y _ H2 (hC i acc G2 A (.obj (.lst ws)) hi q2 gA2) r2 k2
  by_cases hlt : i < ds.length
  · obtain ⟨d, hd'⟩ : ∃ d, ds[i]? = some d := ⟨ds[i], by simp [hlt]⟩
    obtain ⟨go, yl⟩ := y1 i d hd'
    refine .inr ⟨go, fun H' => i + 1 ≤ ds.length ∧ ∃ G2 ws acc, R3 X.K T (gset G2 A (.obj (.lst ws))) H' ∧ H' A = some (.lst ws) ∧ G2 A = none ∧ Keep G1 H1 (gset G2 A (.obj (.lst ws))) H' ∧ DVs X.K (gset G2 A (.obj (.lst ws))) H' ws acc ∧ P (i + 1) acc G2, fun H' ⟨hl, q⟩ => ⟨ds.length - (i + 1), by omega, rfl, hl, q⟩, fun x H' hy => ?_⟩
    obtain ⟨r3, k3, dx⟩ := yl x H' hy
    obtain ⟨σ2, hf, hturn⟩ := hb i d acc G2 hd' q2
    have hturn := hturn A (.obj (.lst ws)) gA2
    have dvs3 : DVo X.K (gset G2 A (.obj (.lst ws))) H' vs σ := ((p.d.mono k1).mono k2).mono k3
    refine hgd.run _ H' x d _ _ σ2 _ hf dx (dvs3.wipe _) fun u2 du2 ew => ⟨wipe_eq ew, ?_⟩
    have p3 : Pre X.K T O σ2 (gset G2 A (.obj (.lst ws))) u2 H' := ⟨r3, ((p.k.trans k1).trans k2).trans k3, du2⟩
    have k13 : Keep G1 H1 (gset G2 A (.obj (.lst ws))) H' := k2.trans k3
    unfold tYes
    refine iteT ?_
    intro s0 H0 Cc cl fp
    refine (hturn s0 H0 Cc cl fp u2 H' p3).mono fun J1 H4 h4 => ?_
    obtain ⟨ds1, C1, G3, r4, k4, yy, G4, e4, g4, P1, h10, hC1, hb1, hd1⟩ := h4
    subst e4
    refine ⟨fun j k H5 => k = ds1.length - j ∧ j ≤ ds1.length ∧ ∃ G5 ws acc, R3 X.K T (gset G5 A (.obj (.lst ws))) H5 ∧ H5 A = some (.lst ws) ∧ G5 A = none ∧ Keep (gset G4 A (.obj (.lst ws))) H4 (gset G5 A (.obj (.lst ws))) H5 ∧ DVs X.K (gset G5 A (.obj (.lst ws))) H5 ws acc ∧ P1 j acc G5,
      ⟨_, rfl, Nat.zero_le _, G4, ws, acc, r4, (r4.cell A _ gset_same).1, g4, .refl _ _, (dacc.mono k3).mono k4, h10⟩, ?_⟩
    rintro j k H5 ⟨rfl, hj, G5, ws5, acc5, r5, hA5, gA5, k5, dacc5, q5⟩
    have k45 : Keep (gset G4 A (.obj (.lst ws))) H4 (gset G5 A (.obj (.lst ws5))) H5 := fun a o e h n => by
      by_cases z : a = A
      · subst z; rw [gset_same] at e; cases e
      · rw [gset_ne z] at e
        have := k5 a o (by rw [gset_ne z]; exact e) h n
        exact ⟨this.1, by have t := this.2; rw [gset_ne z] at t ⊢; exact t⟩
    obtain ⟨yy1, yy2⟩ := yy _ H5 (hC1 j acc5 G5 (.obj (.lst ws5)) hj q5 gA5) r5 k45
    by_cases hlt1 : j < ds1.length
    · obtain ⟨d1, hd1'⟩ : ∃ d, ds1[j]? = some d := ⟨ds1[j], by simp [hlt1]⟩
      obtain ⟨go1, yl1⟩ := yy1 j d1 hd1'
      refine .inr ⟨go1, fun H5 => j + 1 ≤ ds1.length ∧ ∃ G5 ws acc, R3 X.K T (gset G5 A (.obj (.lst ws))) H5 ∧ H5 A = some (.lst ws) ∧ G5 A = none ∧ Keep (gset G4 A (.obj (.lst ws))) H4 (gset G5 A (.obj (.lst ws))) H5 ∧ DVs X.K (gset G5 A (.obj (.lst ws))) H5 ws acc ∧ P1 (j + 1) acc G5, fun H' ⟨hl, q⟩ => ⟨ds1.length - (j + 1), by omega, rfl, hl, q⟩, fun x1 H6 hy1 => ?_⟩
      obtain ⟨r6, k6, dx1⟩ := yl1 x1 H6 hy1
      obtain ⟨hacc, σ3, hf1, hturn1⟩ := hb1 j d1 acc5 G5 hd1' q5
      have hturn1 := hturn1 (.obj (.lst ws5)) gA5
      have du6 : DVo X.K (gset G5 A (.obj (.lst ws5))) H6 u2 σ2 := ((du2.mono k4).mono k45).mono k6
      have k3O : Keep O.1 O.2 (gset G5 A (.obj (.lst ws5))) H6 := ((p3.k.trans k4).trans k45).trans k6
      refine hgd1.run _ H6 x1 d1 _ _ σ3 _ hf1 dx1 (du6.wipe _) fun u3 du3 ew3 => ⟨wipe_eq ew3, ?_⟩
      have p6 : Pre X.K T O σ3 (gset G5 A (.obj (.lst ws5))) u3 H6 := ⟨r6, k3O, du3⟩
      have kk {c c' : Cell} {G7 : Gm} {H7 : Hp} (k7 : Keep (gset G5 A (.obj (.lst ws5))) H6 (gset G7 A c) H7) : Keep (gset G4 A c') H4 (gset G7 A c) H7 := fun a o e h n => by
        by_cases z : a = A
        · subst z; rw [gset_same] at e; cases e
        · rw [gset_ne z] at e
          exact ((k45.trans k6).trans k7) a o (by rw [gset_ne z]; exact e) h n
      have fin : ∀ (yv : V) (yd : D) (H7 : Hp) (G7 : Gm), R3 X.K T (gset G7 A (.obj (.lst ws5))) H7 → Keep (gset G5 A (.obj (.lst ws5))) H6 (gset G7 A (.obj (.lst ws5))) H7 → DV X.K (gset G7 A (.obj (.lst ws5))) H7 yv yd → G7 A = none → P1 (j + 1) (acc5 ++ [yd]) G7 →
          ∃ acc, H7 A = some (.lst acc) ∧ acc.length < sizeLine ∧ (j + 1 ≤ ds1.length ∧ ∃ G5 ws acc', R3 X.K T (gset G5 A (.obj (.lst ws))) (upd H7 A (.lst (acc ++ [yv]))) ∧ (upd H7 A (.lst (acc ++ [yv]))) A = some (.lst ws) ∧ G5 A = none ∧ Keep (gset G4 A (.obj (.lst ws))) H4 (gset G5 A (.obj (.lst ws))) (upd H7 A (.lst (acc ++ [yv]))) ∧ DVs X.K (gset G5 A (.obj (.lst ws))) (upd H7 A (.lst (acc ++ [yv]))) ws acc' ∧ P1 (j + 1) acc' G5) := by
        intro yv yd H7 G7 r7 k7 dy g7 q7
        have hA7 : H7 A = some (.lst ws5) := (r7.cell A _ gset_same).1
        have kw := keep_write (G := gset G7 A (.obj (.lst ws5))) (H := H7) (p := A) (o := .lst (ws5 ++ [yv])) (c := .obj (.lst (ws5 ++ [yv]))) (by rw [gset_same]; simp)
        rw [gset_gset] at kw
        refine ⟨ws5, hA7, by rw [dacc5.length]; exact hacc, hlt1, G7, ws5 ++ [yv], acc5 ++ [yd], ?_, upd_same, g7, ?_, ?_, q7⟩
        · have := R3.write (c := .obj (.lst (ws5 ++ [yv]))) (o := .lst (ws5 ++ [yv])) r7 (p := A) (by rw [gset_same]; simp) (fun u e => by rw [hA7] at e; cases e; exact ⟨fun _ z => (by cases z), fun _ z => (by cases z)⟩) ⟨upd_same, fun _ z => (by cases z), fun _ z => (by cases z), fun _ z => (by cases z)⟩
          rw [gset_gset] at this
          exact this
        · exact kk (k7.trans kw)
        · exact ((dacc5.mono k6).mono k7 |>.mono kw).append (.cons (dy.mono kw) .nil)
      have finN : ∀ (H7 : Hp) (G7 : Gm), R3 X.K T (gset G7 A (.obj (.lst ws5))) H7 → Keep (gset G5 A (.obj (.lst ws5))) H6 (gset G7 A (.obj (.lst ws5))) H7 → G7 A = none → P1 (j + 1) acc5 G7 →
          (j + 1 ≤ ds1.length ∧ ∃ G5 ws acc', R3 X.K T (gset G5 A (.obj (.lst ws))) H7 ∧ H7 A = some (.lst ws) ∧ G5 A = none ∧ Keep (gset G4 A (.obj (.lst ws))) H4 (gset G5 A (.obj (.lst ws))) H7 ∧ DVs X.K (gset G5 A (.obj (.lst ws))) H7 ws acc' ∧ P1 (j + 1) acc' G5) := by
        intro H7 G7 r7 k7 g7 q7
        exact ⟨hlt1, G7, ws5, acc5, r7, (r7.cell A _ gset_same).1, g7, kk k7, (dacc5.mono k6).mono k7, q7⟩
      cases ifs1 with
      | nil =>
        intro s H0 Cc cl fp
        rw [show wTs (bX X scope s H0 Cc cl fp) [] = tYes from rfl]
        unfold tYes
        refine iteT ?_
        intro s H0 Cc cl fp
        refine xE.run (X := bX X scope s H0 Cc cl fp) ((hturn1 s H0 Cc cl fp).1 rfl s H0 Cc cl fp) p6 fun yv H7 yd G7 p7 k7 dy q7 => ?_
        obtain ⟨G8, e8, g8, q8⟩ := q7
        subst e8
        exact fin yv yd H7 G8 p7.r k7 dy g8 q8
      | cons c rest =>
        cases rest with
        | nil =>
          intro s0 H0 Cc cl fp
          refine xT.run (X := bX X scope s0 H0 Cc cl fp) (hturn1 s0 H0 Cc cl fp) p6 fun b H7 G7 p7 k7 q7 => ?_
          cases b with
          | true =>
            refine iteT ?_
            intro s5 H5 C5 cl5 fp5
            refine xE.run (X := bX X scope s5 H5 C5 cl5 fp5) (q7.1 rfl s5 H5 C5 cl5 fp5) p7 fun yv H8 yd G8 p8 k8 dy q8 => ?_
            obtain ⟨G9, e9, g9, q9⟩ := q8
            subst e9
            exact fin yv yd H8 G9 p8.r (k7.trans k8) dy g9 q9
          | false =>
            obtain ⟨G9, e9, g9, q9⟩ := q7.2 rfl
            subst e9
            exact iteF (finN H7 G9 p7.r k7 g9 q9)
        | cons _ _ => exact False.elim (show False from hturn1 ({} : Shared) H1 0 [] [])
    · have e : j = ds1.length := by omega
      subst e
      refine .inl ⟨yy2, hlt, G5, ws5, acc5, r5, hA5, gA5, ?_, dacc5, hd1 _ _ q5⟩
      exact (k13.trans k4).trans k45
  · have e : i = ds.length := by omega
    subst e
    exact .inl ⟨y2, hq A H2 acc ws G2 r2 hA2 gA2 (k1.trans k2) dacc ((p.d.mono k1).mono k2) (hd _ _ q2)⟩
/-- [elt for tg in iter for tg1 in iter1 if ..] -/
theorem r_lc2 {g g1 : TG} {f f1 : D → St3 → Option St3} (hc : X.calm = true) (hN : X.N.Nodup) (ok : BlkOk X.N X.env.scope scope own) (hv : ∀ i ∈ vs1, i ∈ own.map (·.2)) (hgd : TgD X.K g (own.map (·.2)) f) (hgd1 : TgD X.K g1 vs1 f1)
    (hg : ∀ (s : Shared) (H : Hp) (C : Addr) (cl : List (Str × Addr)) (fp : List Addr), PG (bX X scope s H C cl fp) tg g)
    (hg1 : ∀ (s : Shared) (H : Hp) (C : Addr) (cl : List (Str × Addr)) (fp : List Addr), PG (bX X scope s H C cl fp) tg1 g1)
    {Q : D → Gm → Prop} (h : xI T O X tg iter σ G (Lc2Body T O X scope own vs1 f f1 tg1 iter1 ifs1 elt σ fun acc G' => Q (.lst acc) G')) (hs : ∀ x, foldedSetIterable iter X.env x = pure x := by intro _; rfl) (hs1 : ∀ env x, foldedSetIterable iter1 env x = pure x := by intro _ _; rfl) :
    xE T O X (.ListComp elt [⟨tg, iter, [], 0⟩, ⟨tg1, iter1, ifs1, 0⟩] scope pos) σ G Q := fun vs H p =>
  wE_of (pe_lc2 hc hN cI ok hv hg (fun s H C cl fp => pts_nil) (fun s H C cl fp => ⟨fun pins s' σ' H' Q' I hh => cI.run pins s' σ' H' Q' I (hh s H C cl fp)⟩) hg1 (fun s H C cl fp => ⟨fun pins s' σ' H' Q' I hh => cTs.run pins s' σ' H' Q' I (hh s H C cl fp)⟩) (fun s H C cl fp => ⟨fun pins s' σ' H' Q' I hh => cE.run pins s' σ' H' Q' I (hh s H C cl fp)⟩) hs hs1)
    (lc2_all hgd hgd1 h p _ fun A H' acc ws G' r hA gA k d _ q => by
      obtain ⟨r1, dv⟩ := lc_frozen r hA gA d
      exact ⟨_, G', r1, keep_unown k gA, dv, q⟩)
end
end L3
end
section
/-! L3, rules: sorted. -/
namespace L3
open PySem PySem.Spec PyProof.Rows L2
section
variable {prog : Program} {w : World} {A : Around} {E : Value → Shared → Prop} {s : Shared} {d : Addr} {o : Obj} {es : Array DictEntry} {ep : Nat}
/-- the keys of a dict, walked -/
theorem kdl_raw (hs : (d == sysModules) = false) (hx : o.ExactDict) (hdt : o.data = .dict es ep) : PySem.W.KdlSrc prog w "dict" d d es.size (fun i v => ∃ en, es[i]? = some en ∧ v = en.key) (fun h => h.get? d = some o) where
  type := fun _ hm => ⟨o, hm, hx.1⟩
  there := fun _ hm => ⟨Heap.lt_size hm, Heap.lt_size hm⟩
  keep := fun _ _ hm hk => hk d (.inl rfl) o hm
  notList := by decide
  notTuple := by decide
  hint := fun _ _ s _ hm hq => PySem.W.kdl_hint_dict ⟨o, hm, hx.1⟩ hq
  iter := fun A s hh hm => by
    refine ⟨_, fun i h => h.IsKeyIter s.heap.objs.size d i es.size ep ∧ h.get? d = some o, fun E Q hq => L2.iter_keys hs hm hx hdt hq, ?_, ⟨⟨_, Heap.get?_push_size _ rfl, rfl, rfl⟩, Heap.get?_push_of_some _ hm⟩⟩
    have hne : d ≠ s.heap.objs.size := Nat.ne_of_lt (Heap.lt_size hm)
    exact {
      sub := fun b hb => by simp at hb; simp [hb]
      frame := fun _ _ _ st hk => ⟨st.1.at fun o e => hk _ (by simp) o e, hk d (by simp) _ st.2⟩
      item := fun i s' Q E hi st hQ => by
        obtain ⟨en, hen⟩ : ∃ en, es[i]? = some en := ⟨es[i], by simp [hi]⟩
        refine L2.next_key_item st.1 st.2 hdt rfl hen fun h' hit' sb => ?_
        exact hQ en.key h' s'.toks ⟨en, hen, rfl⟩ ⟨hit', sb.extBut d o hne st.2⟩ fun b ob hb e => sb.extBut b ob (fun z => hb (by simp [z])) e
      done := fun s' Q E st hQ => L2.next_key_end hh st.1 st.2 hdt rfl (Nat.le_refl _) fun h' he' => hQ h' s'.toks fun b ob hb e => he' b ob (fun z => hb (by simp [z])) e
      self := fun _ _ _ _ st hQ => wpAny_pyIter_keyiter st.1 hQ }
theorem items_list {acc : Array Value} (h : ItemsOf (fun i v => ∃ en, es[i]? = some en ∧ v = en.key) acc es.size) : acc.toList = es.toList.map (·.key) := by
  apply List.ext_getElem?
  intro j
  rw [List.getElem?_map, Array.getElem?_toList, Array.getElem?_toList]
  cases e : acc[j]? with
  | some v =>
    obtain ⟨en, e1, e2⟩ := h.2 j v e
    rw [e1, e2]; rfl
  | none =>
    have hj : acc.size ≤ j := Array.getElem?_eq_none_iff.mp e
    rw [h.1] at hj
    rw [Array.getElem?_eq_none hj]; rfl
/-- sorted(d), by the keys' data -/
theorem sorted_raw {β : Type} {Q : Value → Shared → Prop} {R : Value → β → Prop} {enc : β → PyData} {bs : List β} (hs : (d == sysModules) = false) (hm : s.heap.get? d = some o) (hx : o.ExactDict) (hdt : o.data = .dict es ep) (hh : A.handled = none) (hn : es.size ≤ sizeLine)
    (e : PySem.W.EachIs R (es.toList.map (·.key)) bs) (er : PySem.W.EachIs (fun v b => ∃ as, Reads s.heap v (enc b) as) (es.toList.map (·.key)) bs) (hal : PySem.W.AllAlike (bs.map enc)) (hk : PySem.W.Sortable (bs.map enc))
    (hu : ∀ b, b ∈ bs → A.units + 2 + (enc b).depth < cLine)
    (h : ∀ (out : List Value) (h1 h' : Heap) (tk : Nat) (p : Addr) (n : Nat), (∀ b ob, s.heap.get? b = some ob → h1.get? b = some ob) → h1.objs.size ≤ p → (∀ b ob, h1.get? b = some ob → h'.get? b = some ob) → h'.get? p = some (seqObj "list" out.toArray n) → out.length = bs.length → PySem.W.EachIs R out (bs.mergeSort (PySem.W.dataLe false enc)) →
      Q (.ref p) { s with heap := h', toks := tk }) : wpAny (model prog w) A (call (.builtin "sorted") [.ref d]) Q E s := by
  refine Calls.call_function_entry kind_sorted plain_sorted entry_sorted (args_sorted1 _) ?_
  unfold Builtin.«sorted»
  refine wpAny_bind (m := checkCount "sorted" 1 1 _) (wpAny_pure ?_)
  refine wpAny_bind (PySem.W.kdu_collect (A := A.in1) (kdl_raw hs hx hdt) hh hm hn fun h' tk acc hkp hacc => ?_)
  have ea := items_list hacc
  have hlen : acc.toList.length = bs.length := by rw [ea]; exact e.length
  have hsz : acc.toList.length ≤ sizeLine := by rw [ea, List.length_map, Array.length_toList]; exact hn
  refine wpAny_bind (wpAny_newList ?_ hsz)
  have hoL : (h'.push (seqObj "list" acc.toList.toArray 0)).get? h'.objs.size = some (seqObj "list" acc.toList.toArray 0) := Heap.get?_push_size _ rfl
  show wpAny _ _ _ _ _ { s with heap := h'.push (seqObj "list" acc.toList.toArray 0), toks := tk }
  have up : ∀ b ob, s.heap.get? b = some ob → (PySem.W.sortingHeap (h'.push (seqObj "list" acc.toList.toArray 0)) h'.objs.size acc.toList).get? b = some ob := fun b ob q => by
    have hb := Heap.lt_size (hkp b ob q)
    exact PySem.W.sortingHeap_old (Nat.ne_of_lt hb) (Heap.get?_push_of_some _ (hkp b ob q))
  have er' : PySem.W.EachIs (fun v b => ∃ as, Reads (PySem.W.sortingHeap (h'.push (seqObj "list" acc.toList.toArray 0)) h'.objs.size acc.toList) v (enc b) as) acc.toList bs := by
    rw [ea]
    exact er.mono fun _ _ ⟨as, r⟩ => ⟨as, PyProof.Rows.Reads.keeps (fun b ob q => by have := up b ob q; rw [ea] at this; exact this) r⟩
  have hu' : ∀ dd, dd ∈ bs.map enc → A.in1.in1.units + dd.depth < cLine := fun dd hd => by
    obtain ⟨b, hb, rfl⟩ := List.mem_map.mp hd
    exact hu b hb
  refine wpAny_bind (wpAny_holding (wpAny_call_entry slot_list_sort ⟨_, hoL, rfl⟩ entry_list_sort
    (PySem.W.list_sort_vals (κ := PySem.W.dataKind (PySem.W.sortingHeap (h'.push (seqObj "list" acc.toList.toArray 0)) h'.objs.size acc.toList) (bs.map enc)) (s := { s with heap := h'.push (seqObj "list" acc.toList.toArray 0), toks := tk }) hoL
      (PySem.W.SortsAt.data (s := { s with heap := PySem.W.sortingHeap (h'.push (seqObj "list" acc.toList.toArray 0)) h'.objs.size acc.toList, toks := tk }) (PySem.W.each_map (R := fun v d => ∃ as, Reads (PySem.W.sortingHeap (h'.push (seqObj "list" acc.toList.toArray 0)) h'.objs.size acc.toList) v d as) enc er') hal hk hu') hsz
      ⟨_, rfl, ?_⟩)
    (args_list_sort _)))
  obtain ⟨n, he'⟩ := sortedHeap_at (vs := acc.toList) (out := (PySem.W.sortVals (PySem.W.dataKind (PySem.W.sortingHeap (h'.push (seqObj "list" acc.toList.toArray 0)) h'.objs.size acc.toList) (bs.map enc)) false acc.toList acc.toList).toArray) hoL
  refine wpAny_pure ⟨_, rfl, h _ h' _ tk h'.objs.size n hkp (Nat.le_refl _) (fun b ob q => ?_) he' (by rw [PySem.W.sortVals_length false rfl]; exact hlen) (PySem.W.sortVals_data false (by rw [ea]; exact e) er' hal)⟩
  have hb := Heap.lt_size q
  rw [sortedHeap_old (Nat.ne_of_lt hb) (by rw [size_push']; exact Nat.lt_succ_of_lt hb)]
  exact Heap.get?_push_of_some _ q
end
section
variable {X : Cx}
/-- sorted(xs): xs a list -/
def rSrtL (K : PySem.W.Frag) : List V → Hp → VK → Prop := fun vs H Q => ∃ (β : Type) (F : V → β → Prop) (enc : β → PyData) (a : Addr) (xs : List V) (bs : List β), vs = [.ref a] ∧ SqL K H a xs ∧ Paired F xs bs ∧ (∀ x b, F x b → Dp K H x (enc b)) ∧
  PySem.W.AllAlike (bs.map enc) ∧ PySem.W.Sortable (bs.map enc) ∧ (∀ b ∈ bs, (enc b).depth ≤ 60) ∧ ∀ ys p, Paired F ys (bs.mergeSort (PySem.W.dataLe false enc)) → H p = none → Q (.ref p) (upd H p (.lst ys))
theorem each_of {β : Type} {F : V → β → Prop} : ∀ {xs : List V} {us : List Value} {bs : List β}, Vals xs us → Paired F xs bs → PySem.W.EachIs (fun u b => ∃ x, RelV x u ∧ F x b) us bs
  | [], _, _, r, p => by cases r; cases p; exact .nil
  | x :: xs, _, _, r, p => by
    cases r with
    | cons r rs => cases p with | cons q ps => exact .cons ⟨x, r, q⟩ (each_of rs ps)
theorem of_each {β : Type} {F : V → β → Prop} : ∀ {us : List Value} {bs : List β}, PySem.W.EachIs (fun u b => ∃ x, RelV x u ∧ F x b) us bs → ∃ xs, Vals xs us ∧ Paired F xs bs
  | _, _, .nil => ⟨[], .nil, .nil⟩
  | _, _, .cons h t => by
    obtain ⟨x, r, q⟩ := h
    obtain ⟨xs, rs, qs⟩ := of_each t
    exact ⟨x :: xs, .cons r rs, .cons q qs⟩
theorem cr_srtL (hu : X.A.units + 64 < cLine) : CallR X (.builtin "sorted") (rSrtL X.K) := by
  intro pins s σ H vs us Q I r h
  obtain ⟨β, F, enc, a, xs, bs, rfl, hs, hF, hD, hal, hk, hdp, q⟩ := h
  obtain ⟨u, eu, rx⟩ := vals1 r
  subst eu
  cases rx
  obtain ⟨its, rv, hl, hz⟩ := I.list hs
  have e := each_of rv hF
  have el : its.length = bs.length := e.length
  refine PySem.W.sorted_data (R := fun u b => ∃ x, RelV x u ∧ F x b) (enc := enc) hl.isList e (e.mono fun u b ⟨x, r, f⟩ => Dp.reads I _ x u (hD x b f) r) hal hk (by rw [← el, ← rv.length]; exact hz) (fun b hb => ?_) fun out ho hout => ?_
  · have := hdp b hb
    omega
  · obtain ⟨ys, ry, py⟩ := of_each hout
    obtain ⟨n, he'⟩ := sortedAll_at s.heap its (List.toArray out)
    have hlen : ys.length ≤ sizeLine := by rw [ry.length, ho, ← el, ← rv.length]; exact hz
    exact ⟨.ref _, upd H (s.heap.objs.size + 1) (.lst ys), I.laid (t' := s.toks) (fun _ _ => sortedAll_old) (Nat.le_succ _) ⟨hlen, out, n, ry, he'⟩, rfl, q _ _ py (I.hok.fresh (Nat.le_succ _))⟩
/-- sorted(d): d a dict with tuple keys, with keys ints or texts -/
def rSrtT : List V → Hp → VK → Prop := fun vs H Q => ∃ (a : Addr) (kvs : List (List Key × V)), vs = [.ref a] ∧ Rd H a (.dT kvs) ∧ PySem.W.AllAlike ((kvs.map (·.1)).map fun k => py (keyT k)) ∧ PySem.W.Sortable ((kvs.map (·.1)).map fun k => py (keyT k)) ∧
  ∀ ys p, Paired (fun x k => ∃ q, x = V.ref q ∧ H q = some (.tup (k.map kV))) ys ((kvs.map (·.1)).mergeSort (PySem.W.dataLe false fun k => py (keyT k))) → H p = none → Q (.ref p) (upd H p (.lst ys))
theorem dp_key {K : PySem.W.Frag} {H : Hp} : ∀ k : Key, Dp K H (kV k) (py (dK1 k))
  | .inl _ => .int _
  | .inr _ => .str _
theorem dps_key {K : PySem.W.Frag} {H : Hp} : ∀ k : List Key, DpAll K H (k.map kV) (pys (k.map dK1))
  | [] => .nil
  | k :: ks => .cons (dp_key k) (dps_key ks)
theorem depth_key (k : Key) : (py (dK1 k)).depth = 0 := by cases k <;> rfl
theorem depths_key : ∀ k : List Key, PyData.depthAll (pys (k.map dK1)) = 0
  | [] => rfl
  | k :: ks => by show max (py (dK1 k)).depth (PyData.depthAll (pys (ks.map dK1))) = 0; rw [depth_key, depths_key ks]; rfl
theorem each_at {α β : Type} {R : α → β → Prop} : ∀ {as : List α} {bs : List β}, as.length = bs.length → (∀ (i : Nat) (b : β), bs[i]? = some b → ∃ a, as[i]? = some a ∧ R a b) → PySem.W.EachIs R as bs
  | [], [], _, _ => .nil
  | a :: as, b :: bs, hl, h => by
    obtain ⟨a', e, r⟩ := h 0 b rfl
    cases e
    exact .cons r (each_at (by simpa using hl) fun i b hb => by obtain ⟨a', e, r⟩ := h (i + 1) b (by simpa using hb); exact ⟨a', by simpa using e, r⟩)
  | [], _ :: _, hl, _ => by simp at hl
  | _ :: _, [], hl, _ => by simp at hl
theorem cr_srtT (hc : X.calm = true) (hu : X.A.units + 64 < cLine) : CallR X (.builtin "sorted") rSrtT := by
  intro pins s σ H vs us Q I r h
  obtain ⟨a, kvs, rfl, hr, hal, hk, q⟩ := h
  obtain ⟨u, eu, rx⟩ := vals1 r
  subst eu
  cases rx
  obtain ⟨z, hs, xs, kt, o, es, ep, hm, hx, hdt, he, _⟩ := (show ObjOk X.prog X.w H s.heap a (.dT kvs) from rd_of I.hok hr)
  have hlx : kvs.length = xs.length := Paired.length kt
  have hsz : es.size = xs.length := size_of_entries he
  have ent : ∀ (i : Nat) (k : List Key), (kvs.map (·.1))[i]? = some k → ∃ v, (es.toList.map (·.key))[i]? = some v ∧ ∃ x, RelV x v ∧ ∃ q, x = V.ref q ∧ H q = some (.tup (k.map kV)) := fun i k e => by
    rw [List.getElem?_map] at e
    cases e1 : kvs[i]? with
    | none => rw [e1] at e; cases e
    | some p =>
      rw [e1] at e; cases e
      obtain ⟨b, hb, e3, e4, _⟩ := L2.paired_get kt e1
      have qe := entry_at he i
      rw [hb] at qe
      refine ⟨.ref b.2.1, ?_, .ref b.2.1, rfl, b.2.1, rfl, e4⟩
      rw [List.getElem?_map, Array.getElem?_toList, qe]; rfl
  have hlen : (es.toList.map (·.key)).length = (kvs.map (·.1)).length := by rw [List.length_map, List.length_map, Array.length_toList, hsz, hlx]
  have e := each_at hlen ent
  have er : PySem.W.EachIs (fun v b => ∃ as, Reads s.heap v (py (keyT b)) as) (es.toList.map (·.key)) (kvs.map (·.1)) := e.mono fun v k ⟨x, rx, q, ex, hq⟩ => by
    subst ex
    exact Dp.reads I _ _ v (show Dp X.K H (.ref q) (.tuple (pys (k.map dK1))) from .tup (.inl (.inl hq)) (dps_key k)) rx
  have hu' : ∀ b, b ∈ kvs.map (·.1) → X.A.units + 2 + (py (keyT b)).depth < cLine := fun b _ => by
    have : (py (keyT b)).depth = 1 := by show PyData.depthAll (pys (b.map dK1)) + 1 = 1; rw [depths_key]
    omega
  refine sorted_raw (R := fun v k => ∃ x, RelV x v ∧ ∃ q, x = V.ref q ∧ H q = some (.tup (k.map kV))) (enc := fun k => py (keyT k)) hs hm hx hdt (I.ok.hd hc) (by omega) e er hal hk hu' fun out h1 h' tk p n hkp hp hkp' hd' ho hout => ?_
  obtain ⟨ys, ry, py'⟩ := of_each hout
  have hl2 : ys.length ≤ sizeLine := by rw [ry.length, ho, List.length_map]; exact z
  have I1 : Inv X pins σ H { s with heap := h1, toks := tk } := I.kept hkp
  exact ⟨.ref p, upd H p (.lst ys), I1.laid (t' := tk) hkp' hp ⟨hl2, out, n, ry, hd'⟩, rfl, q _ _ py' (I1.hok.fresh hp)⟩
def rSrtK : List V → Hp → VK → Prop := fun vs H Q => ∃ (a : Addr) (kvs : List (Key × V)), vs = [.ref a] ∧ Rd H a (.dK kvs) ∧ PySem.W.AllAlike ((kvs.map (·.1)).map fun k => py (dK1 k)) ∧
  ∀ p, H p = none → Q (.ref p) (upd H p (.lst (((kvs.map (·.1)).mergeSort (PySem.W.dataLe false fun k => py (dK1 k))).map kV)))
theorem paired_keys : ∀ {ys : List V} {ks : List Key}, Paired (fun x k => x = kV k) ys ks → ys = ks.map kV
  | _, _, .nil => rfl
  | _, _, .cons h t => by rw [h, paired_keys t]; rfl
theorem cr_srtK (hc : X.calm = true) (hu : X.A.units + 64 < cLine) : CallR X (.builtin "sorted") rSrtK := by
  intro pins s σ H vs us Q I r h
  obtain ⟨a, kvs, rfl, hr, hal, q⟩ := h
  obtain ⟨u, eu, rx⟩ := vals1 r
  subst eu
  cases rx
  obtain ⟨z, hs, ws, kv, o, es, ep, hm, hx, hdt, he⟩ := (show ObjOk X.prog X.w H s.heap a (.dK kvs) from rd_of I.hok hr)
  have hk : PySem.W.Sortable ((kvs.map (·.1)).map fun k => py (dK1 k)) := PySem.W.Sortable.others fun k => by cases k <;> exact ⟨nofun, nofun⟩
  have hlx : kvs.length = ws.length := Paired.length kv
  have hpr : Pairs (mixKind X.prog X.w) es.toList ws := he.2.1
  have hsz : es.size = ws.length := by have := hpr.length; rw [Array.length_toList] at this; exact this
  have ent : ∀ (i : Nat) (k : Key), (kvs.map (·.1))[i]? = some k → ∃ v, (es.toList.map (·.key))[i]? = some v ∧ ∃ x, RelV x v ∧ x = kV k := fun i k e => by
    rw [List.getElem?_map] at e
    cases e1 : kvs[i]? with
    | none => rw [e1] at e; cases e
    | some p =>
      rw [e1] at e; cases e
      obtain ⟨u, hu, _⟩ := L2.kv_get kv (k := p.1) (v := p.2) e1
      have hi : i < es.toList.length := by
        have l1 := hpr.length
        have := (List.getElem?_eq_some_iff.mp hu).1
        omega
      obtain ⟨en, hen⟩ : ∃ en, es.toList[i]? = some en := ⟨es.toList[i], List.getElem?_eq_getElem hi⟩
      have r1 := (hpr.get? hen hu).1
      exact ⟨en.key, by rw [List.getElem?_map, hen]; rfl, kV p.1, L2.relV_key r1, rfl⟩
  have hlen : (es.toList.map (·.key)).length = (kvs.map (·.1)).length := by rw [List.length_map, List.length_map, Array.length_toList, hsz, hlx]
  have e := each_at hlen ent
  have er : PySem.W.EachIs (fun v b => ∃ as, Reads s.heap v (py (dK1 b)) as) (es.toList.map (·.key)) (kvs.map (·.1)) := e.mono fun v k ⟨x, rx, ex⟩ => by
    subst ex
    exact Dp.reads I _ _ v (dp_key k) rx
  have hu' : ∀ b, b ∈ kvs.map (·.1) → X.A.units + 2 + (py (dK1 b)).depth < cLine := fun b _ => by
    rw [depth_key]; omega
  refine sorted_raw (R := fun v k => ∃ x, RelV x v ∧ x = kV k) (enc := fun k => py (dK1 k)) hs hm hx hdt (I.ok.hd hc) (by omega) e er hal hk hu' fun out h1 h' tk p n hkp hp hkp' hd' ho hout => ?_
  obtain ⟨ys, ry, py'⟩ := of_each hout
  have ey := paired_keys py'
  subst ey
  have hl2 : (((kvs.map (·.1)).mergeSort (PySem.W.dataLe false fun k => py (dK1 k))).map kV).length ≤ sizeLine := by rw [ry.length, ho, List.length_map]; exact z
  have I1 : Inv X pins σ H { s with heap := h1, toks := tk } := I.kept hkp
  exact ⟨.ref p, upd H p (.lst _), I1.laid (t' := tk) hkp' hp ⟨hl2, out, n, ry, hd'⟩, rfl, q _ (I1.hok.fresh hp)⟩
def rSrtA (K : PySem.W.Frag) : List V → Hp → VK → Prop := fun vs H Q => rSrtL K vs H Q ∨ rSrtT vs H Q ∨ rSrtK vs H Q
theorem cr_srtA (hc : X.calm = true) (hu : X.A.units + 64 < cLine) : CallR X (.builtin "sorted") (rSrtA X.K) := CallR.or (cr_srtL hu) (CallR.or (cr_srtT hc hu) (cr_srtK hc hu))
end
/-- sorted data -/
def leD (x y : D) : Bool := PySem.W.dataLe false py x y
def sortD (ds : List D) : List D := ds.mergeSort leD
section
variable {T : List (Addr × Str)} {G : Gm} {Q : D → Gm → Prop} {K : PySem.W.Frag}
theorem paired_dvs {H : Hp} : ∀ {xs : List V} {ds : List D}, DVs K G H xs ds → Paired (fun x d => DV K G H x d) xs ds
  | _, _, .nil => .nil
  | _, _, .cons a b => .cons a (paired_dvs b)
theorem dvs_paired {H : Hp} : ∀ {xs : List V} {ds : List D}, Paired (fun x d => DV K G H x d) xs ds → DVs K G H xs ds
  | _, _, .nil => .nil
  | _, _, .cons a b => .cons a (dvs_paired b)
theorem c_srtL {d : D} {ds : List D} (h : seqL G d ds) (ok : oksP ds = true) (hal : PySem.W.AllAlike (ds.map py)) (hk : PySem.W.Sortable (ds.map py)) (hdp : ∀ b ∈ ds, (py b).depth ≤ 60) (q : Q (.lst (sortD ds)) G) : C3 K T (rSrtA K) [d] G Q := fun vs H Qv r dv k => by
  cases dv with
  | cons a c =>
    cases c
    obtain ⟨p, ws, rfl, hs, dws⟩ := seqL_dv r h a
    have hm : ∀ b ∈ ds, okP b = true := by
      clear dws hs a h hal hk hdp q
      induction ds with
      | nil => intro b hb; cases hb
      | cons x xs ih =>
        obtain ⟨h1, h2⟩ := Bool.and_eq_true_iff.mp (show (okP x && oksP xs) = true from ok)
        intro b hb
        rcases List.mem_cons.mp hb with rfl | hb
        · exact h1
        · exact ih h2 b hb
    refine .inl ⟨D, fun x d => DV K G H x d ∧ d ∈ ds, py, p, ws, ds, rfl, hs, ?_, fun x b hb => dp_ofP b x (hm b hb.2) hb.1, hal, hk, hdp, fun ys p' hy hp => ?_⟩
    · have z := paired_dvs dws
      clear hs a h hal hk hdp q hm ok
      have gen : ∀ {xs : List V} {es : List D}, Paired (fun x d => DV K G H x d) xs es → (∀ e ∈ es, e ∈ ds) → Paired (fun x d => DV K G H x d ∧ d ∈ ds) xs es := by
        intro xs es z
        induction z with
        | nil => intro _; exact .nil
        | cons a b ih => intro hm; exact .cons ⟨a, hm _ (List.mem_cons_self ..)⟩ (ih fun e he => hm e (List.mem_cons_of_mem _ he))
      exact gen z fun e he => he
    · have dy : DVs K G H ys (sortD ds) := dvs_paired (L2.Paired.mapP hy fun _ _ z => z.1)
      exact k _ _ _ _ (r.new hp) (keep_new hp) (.lst (.inl ⟨r.free hp, .inl upd_same⟩) (dy.mono (keep_new hp))) q
/-- the dict d, or an owned one -/
def dTof (G : Gm) (d : D) (kvs : List (List Key × D)) : Prop := d = .dT kvs ∨ ∃ p, d = .raw (.ref p) ∧ G p = some (.dT kvs)
def dKof (G : Gm) (d : D) (kvs : List (Key × D)) : Prop := d = .dK kvs ∨ ∃ p, d = .raw (.ref p) ∧ G p = some (.dK kvs)
theorem dTof_dv {H : Hp} {d : D} {kvs : List (List Key × D)} {v : V} (r : R3 K T G H) (h : dTof G d kvs) (dv : DV K G H v d) : ∃ a ws, v = .ref a ∧ Rd H a (.dT ws) ∧ DVt K G H ws kvs := by
  rcases h with rfl | ⟨p, rfl, hp⟩
  · cases dv with | dT g h ds => exact ⟨_, _, rfl, h, ds⟩
  · cases dv
    obtain ⟨ws, h1, h2⟩ := r.cell p _ hp
    exact ⟨p, ws, rfl, .inl h1, h2⟩
theorem dKof_dv {H : Hp} {d : D} {kvs : List (Key × D)} {v : V} (r : R3 K T G H) (h : dKof G d kvs) (dv : DV K G H v d) : ∃ a ws, v = .ref a ∧ Rd H a (.dK ws) ∧ DVk K G H ws kvs := by
  rcases h with rfl | ⟨p, rfl, hp⟩
  · cases dv with | dK g h ds => exact ⟨_, _, rfl, h, ds⟩
  · cases dv
    obtain ⟨ws, h1, h2⟩ := r.cell p _ hp
    exact ⟨p, ws, rfl, .inl h1, h2⟩
theorem c_srtT {d : D} {kvs : List (List Key × D)} (h : dTof G d kvs) (hal : PySem.W.AllAlike ((kvs.map (·.1)).map fun k => py (keyT k))) (hk : PySem.W.Sortable ((kvs.map (·.1)).map fun k => py (keyT k))) (q : Q (.lst (sortD (kvs.map fun e => keyT e.1))) G) : C3 K T (rSrtA K) [d] G Q := fun vs H Qv r dv k => by
  cases dv with
  | cons a c =>
    cases c
    obtain ⟨p, ws, rfl, hr, dw⟩ := dTof_dv r h a
    have e := dw.keys
    refine .inr (.inl ⟨p, ws, rfl, hr, by rw [e]; exact hal, by rw [e]; exact hk, fun ys p' hy hp => ?_⟩)
    have es : ((kvs.map (·.1)).mergeSort (PySem.W.dataLe false fun k => py (keyT k))).map keyT = sortD (kvs.map fun e => keyT e.1) := by
      refine (PySem.W.sort_maps (r := PySem.W.dataLe false fun k => py (keyT k)) (s := leD) keyT (fun _ _ _ _ => rfl)).trans ?_
      rw [List.map_map]; rfl
    rw [e] at hy
    have dy : ∀ {ys : List V} {ks : List (List Key)}, Paired (fun x k => ∃ q, x = V.ref q ∧ H q = some (.tup (k.map kV))) ys ks → DVs K G H ys (ks.map keyT) := by
      intro ys ks z
      induction z with
      | nil => exact .nil
      | cons a b ih =>
        obtain ⟨q, rfl, hq⟩ := a
        exact .cons (.tup ⟨r.tup_free hq, hq⟩ (dvs_keys _)) ih
    have dy := dy hy
    rw [es] at dy
    exact k _ _ _ _ (r.new hp) (keep_new hp) (.lst (.inl ⟨r.free hp, .inl upd_same⟩) (dy.mono (keep_new hp))) q
theorem c_srtK {d : D} {kvs : List (Key × D)} (h : dKof G d kvs) (hal : PySem.W.AllAlike ((kvs.map (·.1)).map fun k => py (dK1 k))) (q : Q (.lst (sortD (kvs.map fun e => dK1 e.1))) G) : C3 K T (rSrtA K) [d] G Q := fun vs H Qv r dv k => by
  cases dv with
  | cons a c =>
    cases c
    obtain ⟨p, ws, rfl, hr, dw⟩ := dKof_dv r h a
    have e := dw.keys
    refine .inr (.inr ⟨p, ws, rfl, hr, by rw [e]; exact hal, fun p' hp => ?_⟩)
    have es : ((kvs.map (·.1)).mergeSort (PySem.W.dataLe false fun k => py (dK1 k))).map dK1 = sortD (kvs.map fun e => dK1 e.1) := by
      refine (PySem.W.sort_maps (r := PySem.W.dataLe false fun k => py (dK1 k)) (s := leD) dK1 (fun _ _ _ _ => rfl)).trans ?_
      rw [List.map_map]; rfl
    rw [e]
    have dy : ∀ ks : List Key, DVs K G H (ks.map kV) (ks.map dK1) := dvs_keys
    have dy := dy ((kvs.map (·.1)).mergeSort (PySem.W.dataLe false fun k => py (dK1 k)))
    rw [es] at dy
    exact k _ _ _ _ (r.new hp) (keep_new hp) (.lst (.inl ⟨r.free hp, .inl upd_same⟩) (dy.mono (keep_new hp))) q
end
end L3
end
section
/-! L3, rules: met(lambda: ..): a def that calls what it got and tells the own exceptions. -/
namespace L3
open PySem PySem.Spec PyProof.Rows L2
/-! ### the clauses «except C as e: return (label, e.f, ..)» -/
abbrev MetC := Addr × Str × List Str
def metL (K : PySem.W.Frag) : List MetC → Value → Option Addr → Hp → VK → Prop
  | [], _, _, _, _ => False
  | (C, lab, ns) :: r, cls, d, H, Q => ∃ b, PySem.W.exmOne K cls (.ref C) = some b ∧ (b = true → cls = .ref C ∧ ∃ dd fs vs, d = some dd ∧ H dd = some (.xd fs) ∧ ns.map (fun n => fs.lookup n) = vs.map some ∧ ∀ p, H p = none → Q (.ref p) (upd H p (.tup (.str lab :: vs)))) ∧
      (b = false → metL K r cls d H Q)
/-- the clauses' readings -/
def metTs (ns : List Str) (lab : Str) (C : Addr) : Addr → Value → Option Addr → TS := fun a cls d D σ H => σ[1]? = some (some (.ref a)) ∧ cls = .ref C ∧ ∃ dd fs vs, d = some dd ∧ H dd = some (.xd fs) ∧ ns.map (fun n => fs.lookup n) = vs.map some ∧ ∀ p, H p = none → D.rt (.ref p) (upd H p (.tup (.str lab :: vs)))
def metTL : List MetC → List (Value × (Addr → Value → Option Addr → TS))
  | [] => []
  | (C, lab, ns) :: r => (.ref C, metTs ns lab C) :: metTL r
section
variable {X : Cx} {e x lab f1 f2 : Str} {C : Addr} {hs : List ExceptHandler} {r : List MetC} {q1 q2 q3 q4 q5 q6 q7 q8 q9 : Pos} {j k : Nat}
theorem met_one (hr : ClausesOk X e hs (metTL r)) (hc : Names X x (.ref C)) (T : XfC X.K C) (n1 : PySem.W.findIn X.K (.ref C) f1 = some none) (hN : X.N[1]? = some e) (hv : Vis X.env.scope e) (hd : (e == ("__debug__" : Str)) = false) (hcd : (e == ("__classdict__" : Str)) = false) :
    ClausesOk X e (.ExceptHandler (some (.Name x q1)) (some e) [.Return (some (.Tuple [.Constant (.str lab) j q3, .Attribute (.Name e q4) f1 q5] k q8)) q9] q2 :: hs) (metTL ((C, lab, [f1]) :: r)) := by
  refine .cons hc (fun a oe cls d pn hz hf => ⟨fun pins s σ H D I h => ?_⟩) hr
  obtain ⟨h1, rfl, dd, fs, vs, rfl, hdd, hl, hq⟩ := h
  have hlen : vs.length = 1 := by have := congrArg List.length hl; simpa using this.symm
  obtain ⟨v1, rfl⟩ : ∃ v1, vs = [v1] := List.length_eq_one_iff.mp hlen
  · have l1 : fs.lookup f1 = some v1 := by simpa using hl
    refine (pss_one (ps_ret (pe_tup (pa_cons pe_str (pa_cons (pe_xf T n1 hz hf (pe_var (X := X.suite a ((a, oe) :: pn)) (i := 1) hN hv hd hcd)) pa_nil))))).run pins s σ H D I ?_
    refine ⟨.ref a, h1, rfl, rfl, dd, fs, v1, rfl, hdd, l1, ?_⟩
    exact ⟨by show 2 ≤ sizeLine; rw [sizeLine_eq]; omega, hq⟩
theorem met_two (hr : ClausesOk X e hs (metTL r)) (hc : Names X x (.ref C)) (T : XfC X.K C) (n1 : PySem.W.findIn X.K (.ref C) f1 = some none) (n2 : PySem.W.findIn X.K (.ref C) f2 = some none) (hN : X.N[1]? = some e) (hv : Vis X.env.scope e) (hd : (e == ("__debug__" : Str)) = false) (hcd : (e == ("__classdict__" : Str)) = false) :
    ClausesOk X e (.ExceptHandler (some (.Name x q1)) (some e) [.Return (some (.Tuple [.Constant (.str lab) j q3, .Attribute (.Name e q4) f1 q5, .Attribute (.Name e q6) f2 q7] k q8)) q9] q2 :: hs) (metTL ((C, lab, [f1, f2]) :: r)) := by
  refine .cons hc (fun a oe cls d pn hz hf => ⟨fun pins s σ H D I h => ?_⟩) hr
  obtain ⟨h1, rfl, dd, fs, vs, rfl, hdd, hl, hq⟩ := h
  have hlen : vs.length = 2 := by have := congrArg List.length hl; simpa using this.symm
  obtain ⟨v1, v2, rfl⟩ : ∃ v1 v2, vs = [v1, v2] := by
    match vs, hlen with
    | [a, b], _ => exact ⟨a, b, rfl⟩
  · have l1 : fs.lookup f1 = some v1 ∧ fs.lookup f2 = some v2 := by simpa using hl
    refine (pss_one (ps_ret (pe_tup (pa_cons pe_str (pa_cons (pe_xf T n1 hz hf (pe_var (X := X.suite a ((a, oe) :: pn)) (i := 1) hN hv hd hcd)) (pa_cons (pe_xf T n2 hz hf (pe_var (X := X.suite a ((a, oe) :: pn)) (i := 1) hN hv hd hcd)) pa_nil)))))).run pins s σ H D I ?_
    refine ⟨.ref a, h1, rfl, rfl, dd, fs, v1, rfl, hdd, l1.1, .ref a, h1, rfl, rfl, dd, fs, v2, rfl, hdd, l1.2, ?_⟩
    exact ⟨by show 3 ≤ sizeLine; rw [sizeLine_eq]; omega, hq⟩
theorem met_nil : ClausesOk X e [] (metTL []) := .nil
/-- told: the lambda's value, or what its exception's clause tells -/
def TMet (K : PySem.W.Frag) (CL : List MetC) : (XK → Hp → VK → Prop) → Hp → VK → Prop := fun tl H Q => ∃ Ech : XK, tl Ech H Q ∧ ∀ cls d H', Ech cls d H' → metL K CL cls d H' Q
theorem metL_w {K : PySem.W.Frag} {D : Ends} {σ : L2.St} {H : Hp} (hl : 1 < σ.length) : ∀ {r : List MetC} {cls : Value} {d : Option Addr}, metL K r cls d H D.rt → wClauses K 1 (fun _ _ _ _ => False) D (metTL r) cls d σ H
  | [], _, _, h => h
  | (C, lab, ns) :: r, cls, d, h => by
    obtain ⟨b, e1, h1, h2⟩ := h
    refine ⟨b, e1, fun hb a ha => ?_, fun hb => metL_w hl (h2 hb)⟩
    obtain ⟨rfl, dd, fs, vs, hd, hdd, hls, hq⟩ := h1 hb
    exact ⟨by rw [List.getElem?_set_self hl], rfl, dd, fs, vs, hd, hdd, hls, hq⟩
theorem takes_len {X : Cx} {W : WX} (h : Takes X W) : Takes X (fun cls d σ H => σ.length = X.N.length → W cls d σ H) := fun u s' x => by
  obtain ⟨a, B, sI, pins, σ, H, cls, d, e, I, nb, up, sky, na, os, ag, w⟩ := x
  exact h u s' ⟨a, B, sI, pins, σ, H, cls, d, e, I, nb, up, sky, na, os, ag, w I.len⟩
/-- the def: try: return a() / except .. -/
theorem met_gives {x a q : Str} {Ng : List Str} {sg : Scope} {g : Addr} {cdg : Value} {p1 p2 p3 p8 : Pos} {h0 : ExceptHandler} {hs : List ExceptHandler} {CL : List MetC} (hNg : Ng = [a, e]) (hnd : Ng.Nodup) (hloc : sg.names.lookup e = some .local)
    (hok : ∀ (s : Shared) (H : Hp), ClausesOk (cxOf C8.CX0 X.prog X.w X.K X.mg X.base Ng x sg g cdg X.A X.stack s H C8.E0).nox e (h0 :: hs) (metTL CL)) :
    LamX.GivesTo X Ng x sg g cdg [.Try [.Return (some (.Call (.Name a p1) [] [] p2)) p3] (h0 :: hs) [] [] p8] a q (TMet X.K CL) := by
  intro f c' s H Q tl act hc h
  obtain ⟨Ech, ht, hE⟩ := h
  subst hNg
  refine ⟨_, pss_one (try_clauses (X := (cxOf C8.CX0 X.prog X.w X.K X.mg X.base [a, e] x sg g cdg X.A X.stack s H C8.E0).nox) (i := 1) (n := e) (Wo := fun _ _ _ _ => False)
    (rd := fun W D σ H => ∃ Ech : XK, (∀ cls d σ' H', Ech cls d H' → σ'.length = 2 → W cls d σ' H') ∧ σ[0]? = some (some (.ref f)) ∧ H c' = some (LamX.CodeO c' q) ∧ tl Ech H D.rt) rfl rfl hnd rfl hloc LamX.takes0 (fun W pn xe tk _ => ?_) (hok s H)), ?_⟩
  · refine ⟨fun pins s' σ H' D I h' => ?_⟩
    obtain ⟨Ech, hW, h1, h2, h3⟩ := h'
    have hp := act _ pn xe Ech p1 p2 (takes_len tk) hW
    exact (pss_one (ps_ret (pos := p3) hp)).run pins s' σ H' D I ⟨h1, h2, h3⟩
  · exact ⟨Ech, fun cls d σ' H' hm hl => metL_w (by rw [hl]; decide) (hE cls d H' hm), rfl, hc, ht⟩
/-- told of data -/
def metW (K : PySem.W.Frag) : List MetC → Value → List (Str × D) → (D → Prop) → Prop
  | [], _, _, _ => False
  | (C, lab, ns) :: r, cls, fs, R => ∃ b, PySem.W.exmOne K cls (.ref C) = some b ∧ (b = true → cls = .ref C ∧ ns ≠ [] ∧ ∃ ds, ns.map (fun n => fs.lookup n) = ds.map some ∧ R (.tup (.str lab :: ds))) ∧ (b = false → metW K r cls fs R)
theorem paired_look {K : PySem.W.Frag} {G : Gm} {H : Hp} {ws : List (Str × V)} {fs : List (Str × D)} (h : Paired (fun (p : Str × V) (q : Str × D) => p.1 = q.1 ∧ DV K G H p.2 q.2) ws fs) {n : Str} {d : D} (e : fs.lookup n = some d) : ∃ v, ws.lookup n = some v ∧ DV K G H v d := by
  induction h with
  | nil => cases e
  | @cons a b as bs r t ih =>
    obtain ⟨r1, r2⟩ := r
    obtain ⟨n1, v1⟩ := a
    obtain ⟨n2, d2⟩ := b
    simp only at r1
    subst r1
    rw [List.lookup_cons] at e
    by_cases z : (n == n1) = true
    · rw [z] at e
      cases e
      exact ⟨v1, by rw [List.lookup_cons, z], r2⟩
    · have z' : (n == n1) = false := by simpa using z
      rw [z'] at e
      obtain ⟨v, e1, e2⟩ := ih e
      exact ⟨v, by rw [List.lookup_cons, z']; exact e1, e2⟩
theorem paired_looks {K : PySem.W.Frag} {G : Gm} {H : Hp} {ws : List (Str × V)} {fs : List (Str × D)} (h : Paired (fun (p : Str × V) (q : Str × D) => p.1 = q.1 ∧ DV K G H p.2 q.2) ws fs) : ∀ {ns : List Str} {ds : List D}, ns.map (fun n => fs.lookup n) = ds.map some → ∃ vs, ns.map (fun n => ws.lookup n) = vs.map some ∧ DVs K G H vs ds
  | [], ds, e => by
    cases ds with
    | nil => exact ⟨[], rfl, .nil⟩
    | cons _ _ => cases e
  | n :: ns, ds, e => by
    cases ds with
    | nil => cases e
    | cons d ds =>
      rw [List.map_cons, List.map_cons, List.cons.injEq] at e
      obtain ⟨v, e1, d1⟩ := paired_look h e.1
      obtain ⟨vs, e2, d2⟩ := paired_looks h e.2
      exact ⟨v :: vs, by rw [List.map_cons, List.map_cons, e1, e2], .cons d1 d2⟩
theorem metW_l {K : PySem.W.Frag} {T : List (Addr × Str)} {G G' : Gm} {H H' : Hp} {Q : D → Gm → Prop} {d : Option Addr} {fs : List (Str × D)} (r' : R3 K T G' H') (k' : Keep G H G' H') (ex : ExD K G' H' d fs) : ∀ {CL : List MetC} {cls : Value}, metW K CL cls fs (fun d => Q d G') → metL K CL cls d H' (upE K T G H Q)
  | [], _, h => h
  | (C, lab, ns) :: r, cls, h => by
    obtain ⟨b, e1, h1, h2⟩ := h
    refine ⟨b, e1, fun hb => ?_, fun hb => metW_l r' k' ex (h2 hb)⟩
    obtain ⟨ec, hne, ds, hl, q⟩ := h1 hb
    refine ⟨ec, ?_⟩
    rcases ex with ⟨rfl, rfl⟩ | ⟨a, ws, rfl, ga, ha, hp⟩
    · cases ns with
      | nil => exact absurd rfl hne
      | cons n ns =>
        cases ds with
        | nil => cases hl
        | cons d0 ds => rw [List.map_cons, List.map_cons, List.cons.injEq] at hl; cases hl.1
    · obtain ⟨vs, e2, dv⟩ := paired_looks hp hl
      exact ⟨a, ws, vs, rfl, ha, e2, fun p hp' => ⟨_, G', r'.new hp', k'.trans (keep_new hp'), .tup ⟨r'.free hp', upd_same⟩ (.cons (.str lab) (dv.mono (keep_new hp'))), q⟩⟩
end
section
variable {T : List (Addr × Str)} {O : Org} {X : Cx} {σ : St3} {G : Gm} {W : W3T} {Q : D → Gm → Prop}
theorem r_met {CL : List MetC} {x a e : Str} {g cc P : Addr} {cdv : Value} {stm : Stmt} {k : Nat} {gg : Bool} {params : Arguments} {body : Expr} {scope : Scope} {p lpos pos : Pos} {fdm : FuncData} (F : Fun1 X.K x x stm g fdm cdv [a]) (gm : X.mg x = some (.ref g)) (Sg : FnScope [a, e] [a] (defScope stm)) (hva : Vis (defScope stm) a)
    (hG : LamX.GivesTo X [a, e] x (defScope stm) g cdv (defBody stm) a (X.env.qual ++ "<lambda>") (TMet X.K CL)) (c : Ctx T O X (k + 2) gg W) (hg : Gl X x) (TB : LamX.TabB X.base X.mg cc P) (hcode : X.env.code = .ref cc) (hmT : (P, X.env.qual ++ "<lambda>") ∈ T) (hu : ∀ p ∈ T, p.1 = P → p.2 = X.env.qual ++ "<lambda>")
    (L : LamX.LamS X.env.scope scope) (hdef : defaultsOf params X.env = ([], [])) (hbind : ∀ (q : Str) (cl : List (Str × Addr)) (pm cv ctv : Value), bindArgs (PySem.W.kla_fn "<lambda>" q params body scope cl pm cv ctv) ⟨[], []⟩ = pure [])
    (h : ∀ (A : Around) (outer : List Env) (s : Shared) (H0 : Hp) (E : XK) (f c' : Addr) (O' : Org), Ctx T O' (LamX.lamCx X A outer s H0 E scope f c') k false (fun cls fs _ G' => metW X.K CL cls fs (fun d => Q d G')) → xE T O' (LamX.lamCx X A outer s H0 E scope f c') body σ G Q)
    (hdb : (x == ("__debug__" : Str)) = false := by decide) (hd : (a == ("__debug__" : Str)) = false := by decide) (hcd : (a == ("__classdict__" : Str)) = false := by decide) :
    xE T O X (.Call (.Name x p) [.Lambda params body scope lpos] [] pos) σ G Q := fun vs H pr => by
  obtain ⟨oc, od, dV, kV, doc, pm, an, ct, osl, rfl, lk⟩ := F.ex
  have bd := F.bd
  refine wE_of (LamX.pe_lamcall (T := T) (t := fun E σ H Q => ∀ (A : Around) (outer : List Env) (s : Shared) (H0 : Hp) (f c' : Addr), Room k (A.deeper (LamX.lamEnv X scope s.heap.objs.size f c')) → wE (LamX.lamCx X A outer s H0 E scope f c') body σ H Q) hg gm F.kp lk F.cd bd Sg rfl hva hG TB hcode hmT hu c.rm L hdef hbind
    (fun A outer s H0 E f c' hr => ⟨fun pins s' σ' H' Q' I hh => cE.run pins s' σ' H' Q' I (hh A outer s H0 f c' hr)⟩) hdb hd hcd) ⟨pr.r.tabs, fun H1 eN T1 => ?_⟩
  have k1 : Keep G H G H1 := fun b o gb eb n => ⟨⟨o, eN b o eb n, .inl rfl⟩, gb⟩
  have r1 : R3 X.K T G H1 := ⟨fun b cl eb => (pr.r.cell b cl eb).mono k1 (by
    have z := pr.r.cell b cl eb
    cases cl with
    | lst ds => obtain ⟨ws, z, _⟩ := z; rw [z]; exact eN b _ z (fun _ y => by cases y)
    | dK ds => obtain ⟨ws, z, _⟩ := z; rw [z]; exact eN b _ z (fun _ y => by cases y)
    | dT ds => obtain ⟨ws, z, _⟩ := z; rw [z]; exact eN b _ z (fun _ y => by cases y)
    | obj o => rw [z.1]; exact eN b _ z.1 z.2.2.1), T1⟩
  refine ⟨fun cls d H' => ∃ fs G', R3 X.K T G' H' ∧ Keep G H G' H' ∧ ExD X.K G' H' d fs ∧ metW X.K CL cls fs (fun d => Q d G'), fun A outer s H0 f c' hr => ?_, fun cls d H' ⟨fs, G', r', k', ex, hm⟩ => metW_l r' k' ex hm⟩
  have cx : Ctx T (G, H1) (LamX.lamCx X A outer s H0 (fun cls d H' => ∃ fs G', R3 X.K T G' H' ∧ Keep G H G' H' ∧ ExD X.K G' H' d fs ∧ metW X.K CL cls fs (fun d => Q d G')) scope f c') k false (fun cls fs _ G' => metW X.K CL cls fs (fun d => Q d G')) :=
    ⟨rfl, c.nd, hr, (fun z => by cases z), passes_of (K := fun e s'' => L2.CX X.prog X.w outer H0 s _ e s'') rfl, (takes_of rfl rfl rfl rfl).imp fun cls d vs' H' h' => by
      obtain ⟨fs, σ', G', r', k', _, ex, q⟩ := h'
      exact ⟨fs, G', r', k1.trans k', ex, q⟩⟩
  exact (h A outer s H0 _ f c' (G, H1) cx vs H1 ⟨r1, .refl _ _, pr.d.mono k1⟩).mono fun v H' q => q.tr k1
end
end L3
end
section
/-! L3, rules: lambdas without captured names: made, called, as a key of sorted. -/
namespace L3
open PySem PySem.Spec PyProof.Rows L2
theorem clo_none {cells : List (Str × Addr)} : ∀ {names : List (Str × NameKind)}, (∀ y ∈ names, y.2 ≠ .free) → cloFrom cells names [] = []
  | [], _ => rfl
  | y :: ys, h => by
    obtain ⟨n, k⟩ := y
    have ih := clo_none (cells := cells) (names := ys) fun z hz => h z (List.mem_cons_of_mem _ hz)
    have hk : k ≠ .free := h (n, k) (List.mem_cons_self ..)
    rw [cloFrom, if_neg (by simpa using hk)]
    exact ih
section
variable {X : Cx} {pins : List (Addr × Obj)} {σ : L2.St} {H : Hp} {s : Shared}
/-- the lambda is made and tracked; its code object is new, or found in the table -/
theorem lam_made {Tb : List (Addr × Str)} {cc P : Addr} {params : Arguments} {body : Expr} {scope : Scope} {pos : Pos} {E : Value → Shared → Prop} {Q : Value → Shared → Prop} (I : Inv X pins σ H s) (TB : LamX.TabB X.base X.mg cc P) (hcode : X.env.code = .ref cc)
    (hm : (P, X.env.qual ++ "<lambda>") ∈ Tb) (hu : ∀ p ∈ Tb, p.1 = P → p.2 = X.env.qual ++ "<lambda>") (hT : LamX.Tabs Tb H) (hdef : defaultsOf params X.env = ([], [])) (hfree : ∀ y ∈ scope.names, y.2 ≠ .free)
    (h : ∀ (f d : Addr) (H1 : Hp) (s' : Shared), Inv X pins σ H1 s' → LamX.ExtN H H1 → LamX.Tabs Tb H1 → H f = none → H1 f = some (LamO f ⟨X.env.qual ++ "<lambda>", params, body, scope⟩ d) → H1 d = some (LamX.CodeO d (X.env.qual ++ "<lambda>")) → Q (.ref f) s') :
    wpAny (model X.prog X.w) X.A (eval (.Lambda params body scope pos) X.env) Q E s := by
  obtain ⟨ps, hP, ht, ha⟩ := hT _ hm
  have hcl : closureFor scope X.env = pure [] := by
    have z := closure_ok (env := X.env) (scope := scope) fun y hy e => absurd e (hfree y hy)
    rw [clo_none hfree] at z
    exact z
  refine PySem.W.kla_eval hdef ?_
  have bP : s.heap.BuiltinsAt X.mg P := TB.bm.keeps I.bk
  have hP' : s.heap.get? P = some { cls := .none, data := .fields ps } := I.hok P _ hP
  -- what is laid last: the function object
  have lay : ∀ (g : Heap) (tk tk' : Nat) (d : Addr) (cv pm : Value) (H0 : Hp), cv = .ref d → Inv X pins σ H0 { s with heap := g, toks := tk } → LamX.ExtN H H0 → LamX.Tabs Tb H0 → H0 d = some (LamX.CodeO d (X.env.qual ++ "<lambda>")) → s.heap.objs.size ≤ g.objs.size → ∀ ctv,
      Q (.ref g.objs.size) { s with heap := g.push { cls := .type "function", data := .func (PySem.W.kla_fn "<lambda>" (X.env.qual ++ "<lambda>") params body scope [] pm cv ctv) }, toks := tk' } := by
    intro g tk tk' d cv pm H0 ecv I0 e0 t0 hd hsz ctv
    subst ecv
    have hn := I0.hok.fresh (Nat.le_refl g.objs.size)
    have hat : (g.push (PySem.W.kla_obj "<lambda>" (X.env.qual ++ "<lambda>") params body scope [] pm d ctv)).get? g.objs.size = some (PySem.W.kla_obj "<lambda>" (X.env.qual ++ "<lambda>") params body scope [] pm d ctv) := Heap.get?_push_size _ rfl
    have I2 := I0.laid (a := g.objs.size) (o := LamO g.objs.size ⟨X.env.qual ++ "<lambda>", params, body, scope⟩ d) (h' := g.push (PySem.W.kla_obj "<lambda>" (X.env.qual ++ "<lambda>") params body scope [] pm d ctv)) (t' := tk') (fun _ _ q => Heap.get?_push_of_some _ q) (Nat.le_refl _)
      ⟨⟨pm, ctv, hat⟩, ⟨_, hat⟩, fun h1 h2 ⟨pm, ctv, e⟩ st => ⟨pm, ctv, st _ e⟩⟩
    have hne : H g.objs.size = none := I.hok.fresh hsz
    have up : ∀ b o, H0 b = some o → upd H0 g.objs.size (LamO g.objs.size ⟨X.env.qual ++ "<lambda>", params, body, scope⟩ d) b = some o := fun b o e => by rw [upd_ne (ne_of_none e hn)]; exact e
    exact h g.objs.size d _ _ I2 (fun b o e n => up b o (e0 b o e n)) (t0.ext up) hne upd_same (up d _ hd)
  cases hc : codeAmong pos ps.toList with
  | none =>
    refine PySem.W.kla_makeFunction (mg := X.mg) (c := cc) (P := P) (ps := ps) hcl I.ok.glob (I.mod.glob.keeps I.bk) hcode (TB.code.keeps I.bk) hP' ht hc TB.gP bP fun d ctv g tk hx hge hlt hrec htb => ?_
    obtain ⟨d2, oc, vs, t, e2, hoc, hdt, hv⟩ := hrec
    cases e2
    have nC : H d = none := I.hok.fresh hge
    have I1 := LamX.inv_table (t' := tk) (more := #[rawInt pos.line, rawInt pos.col, .ref d]) (h' := g) (q := X.env.qual ++ "<lambda>") I hP hx htb hge ⟨oc, vs, t, hoc, hdt, hv⟩
    have hE : LamX.ExtN H (upd (upd H P (.tbl (ps ++ #[rawInt pos.line, rawInt pos.col, .ref d]))) d (LamX.CodeO d (X.env.qual ++ "<lambda>"))) := fun b o e n => by
      rw [upd_ne (ne_of_none e nC), upd_ne (fun z => n ps (Option.some.inj (e.symm.trans (by rw [z]; exact hP))))]
      exact e
    have eL : (ps ++ #[rawInt pos.line, rawInt pos.col, .ref d]).toList = ps.toList ++ [rawInt pos.line, rawInt pos.col, .ref d] := by simp
    refine lay g tk tk d _ _ _ rfl I1 hE (fun p hp => ?_) upd_same (Nat.le_trans hge (Nat.le_of_lt hlt)) ctv
    by_cases hb : p.1 = P
    · rw [hu p hp hb, hb]
      refine ⟨_, by rw [upd_ne (ne_of_none hP nC), upd_same], by rw [eL]; exact PySem.TriplesOk_snoc _ _ _ _ ht, fun p' cv hcv => ?_⟩
      rw [eL] at hcv
      rcases LamX.among_app _ ht hcv with z | z
      · obtain ⟨c0, e1, e2⟩ := ha p' cv z
        exact ⟨c0, e1, hE _ _ e2 LamX.codeO_ne⟩
      · exact ⟨d, z, upd_same⟩
    · obtain ⟨ps', a1, a2, a3⟩ := hT p hp
      refine ⟨ps', by rw [upd_ne (ne_of_none a1 nC), upd_ne hb]; exact a1, a2, fun p' cv hcv => ?_⟩
      obtain ⟨c0, e1, e2⟩ := a3 p' cv hcv
      exact ⟨c0, e1, hE _ _ e2 LamX.codeO_ne⟩
  | some cv =>
    obtain ⟨d, e, hco⟩ := ha pos cv hc
    refine PySem.W.kla_makeFunctionHit (mg := X.mg) (c := cc) (P := P) (ps := ps) hcl I.ok.glob (I.mod.glob.keeps I.bk) hcode (TB.code.keeps I.bk) hP' ht hc bP fun ctv g tk hx hsz => ?_
    exact lay g tk tk d cv _ H e (I.kept hx) (LamX.ExtN.refl H) hT hco hsz ctv
end
section
variable {T : List (Addr × Str)} {O : Org} {X : Cx} {σ : St3} {G : Gm} {W : W3T} {Q : D → Gm → Prop}
/-- a step that writes the tables alone -/
theorem r3_extN {K : PySem.W.Frag} {H H1 : Hp} (r : R3 K T G H) (eN : LamX.ExtN H H1) (T1 : LamX.Tabs T H1) : R3 K T G H1 ∧ Keep G H G H1 := by
  have k1 : Keep G H G H1 := fun b o gb eb n => ⟨⟨o, eN b o eb n, .inl rfl⟩, gb⟩
  refine ⟨⟨fun b cl eb => (r.cell b cl eb).mono k1 ?_, T1⟩, k1⟩
  have z := r.cell b cl eb
  cases cl with
  | lst ds => obtain ⟨ws, z, _⟩ := z; rw [z]; exact eN b _ z (fun _ y => by cases y)
  | dK ds => obtain ⟨ws, z, _⟩ := z; rw [z]; exact eN b _ z (fun _ y => by cases y)
  | dT ds => obtain ⟨ws, z, _⟩ := z; rw [z]; exact eN b _ z (fun _ y => by cases y)
  | obj o => rw [z.1]; exact eN b _ z.1 z.2.2.1
/-- lambda ..: no captured names -/
theorem r_lam {cc P : Addr} {params : Arguments} {body : Expr} {scope : Scope} {pos : Pos} (TB : LamX.TabB X.base X.mg cc P) (hcode : X.env.code = .ref cc) (hm : (P, X.env.qual ++ "<lambda>") ∈ T) (hu : ∀ p ∈ T, p.1 = P → p.2 = X.env.qual ++ "<lambda>")
    (hdef : defaultsOf params X.env = ([], [])) (hfree : ∀ y ∈ scope.names, y.2 ≠ .free) (q : Q (.lam ⟨X.env.qual ++ "<lambda>", params, body, scope⟩) G) : xE T O X (.Lambda params body scope pos) σ G Q := fun vs H pr pins s I =>
  lam_made I TB hcode hm hu pr.r.tabs hdef hfree fun f d H1 s' I1 eN T1 hf hf1 hd => by
    obtain ⟨r1, k1⟩ := r3_extN pr.r eN T1
    exact ⟨.ref f, H1, I1, rfl, _, G, r1, k1, .lam (r1.ext_free hf1) hf1 (r1.ext_free hd) hd, q⟩
/-! ### its call -/
/-- a call of the lambda at f by its values, by its body -/
theorem run_lam {P : Program} {w : World} {K : PySem.W.Frag} {mg : Str → Option Value} {base : Heap} {k : Nat} {f d : Addr} {L : Lam} {N ps : List Str} (S : FnScope N ps L.scope) (hb : ∀ (pm cv ctv : Value) (us : List Value), us.length = ps.length → bindArgs (PySem.W.kla_fn "<lambda>" L.q L.params L.body L.scope [] pm cv ctv) ⟨us, []⟩ = pure (ps.zip us))
    {A : Around} {outer : List Env} {s : Shared} {H : Hp} {us : List Value} {vs : List V} {Qv : VK} {E : XK} (hr : Room (k + 1) A) (e0 : Env0 P w K mg base A outer s H) (r : Vals vs us) (hl : vs.length = ps.length) (hf : H f = some (LamO f L d)) (hd : H d = some (LamX.CodeO d L.q))
    (hbody : Room k (A.deeper (envOfC L.q L.scope s.heap.objs.size f (.ref d))) → wE (cxOf (L2.CX P w) P w K mg base N L.q L.scope f (.ref d) A outer s H E) L.body (L2.start N vs) H Qv) :
    codeAny (model P w) A (.call (.ref f) ⟨us, []⟩) (CR (L2.CX P w) outer P w H s Qv E) s := by
  have lim : s.heap.NoLimit := e0.mod.nolimit.keeps fun b o e => (e0.bs b o e).1
  obtain ⟨⟨pm, ctv, of1⟩, _, _⟩ := e0.hok f _ hf
  obtain ⟨⟨oc, ws, t, hoc, hdc, hvc⟩, _, _⟩ := e0.hok d _ hd
  have hkind : ∀ y ∈ ps.zip us, L.scope.names.lookup y.1 = some .local ∨ (L.scope.names.lookup y.1 = some .cell ∧ ((cellsFrom (s.heap.objs.size + 1) L.scope.names []).lookup y.1).isSome = true) := fun ⟨n, v⟩ hy => by
    rcases S.par n (List.of_mem_zip hy).1 with q | q
    · exact .inl q
    · exact .inr ⟨q, PySem.W.cellsFrom_some _ _ _ (.inl q)⟩
  refine PySem.W.kla_callFunE hr.depth of1 rfl S.co S.gen rfl ⟨d, oc, ws, t, rfl, hoc, hdc, hvc⟩ ?_
  rw [hb _ _ _ _ (by rw [← r.length]; exact hl)]
  refine wpAny_pure (wpAny_newFunctionEnv_cells S.kind hkind fun env he s1 x => ?_)
  subst he
  refine ⟨lim.keeps x.toInCall.keep, PySem.W.kla_codeExpr ?_⟩
  have J : Inv (cxOf (L2.CX P w) P w K mg base N L.q L.scope f (.ref d) A outer s H E) [] (L2.start N vs) H s1 := inv_start S hr.hd e0 hl r x
  refine wpAny_mono (hbody (hr.deeper _) [] s1 J) (fun v s' hq => ?_) fun e s' hq => hq
  obtain ⟨v', H', J', rv, q⟩ := hq
  exact ⟨v', H', J'.os, J'.bare, J'.base, J'.hok, rv, q⟩
/-- x(e, ..), x a name that holds a lambda -/
theorem r_callLam {x : Str} {e : Expr} {es : List Expr} {pos p : Pos} {k : Nat} {g : Bool} {L : Lam} {N ps : List Str} (i : Nat) (c : Ctx T O X (k + 1) g W) (S : FnScope N ps L.scope) (hb : ∀ (pm cv ctv : Value) (us : List Value), us.length = ps.length → bindArgs (PySem.W.kla_fn "<lambda>" L.q L.params L.body L.scope [] pm cv ctv) ⟨us, []⟩ = pure (ps.zip us))
    (hN : X.N[i]? = some x ∧ (x == ("__debug__" : Str)) = false ∧ (x == ("__classdict__" : Str)) = false) (hv : Vis X.env.scope x) (hσ : σ[i]? = some (some (.lam L)))
    (h : xA T O X (e :: es) σ G fun ds G1 => ds.length = ps.length ∧ ∀ (f d : Addr) (A : Around) (outer : List Env) (s : Shared) (H : Hp) (E : XK) (O' : Org),
      Ctx T O' (cxOf (L2.CX X.prog X.w) X.prog X.w X.K X.mg X.base N L.q L.scope f (.ref d) A outer s H E) k false (fun cls fs _ G' => W cls fs σ G') → xE T O' (cxOf (L2.CX X.prog X.w) X.prog X.w X.K X.mg X.base N L.q L.scope f (.ref d) A outer s H E) L.body (start3 N ds) G1 Q)
    (he : starEach (e :: es) X.env = (false, eval e X.env) :: starEach es X.env := by rfl) (hpl : (backTo pos (starEach es X.env)).any (·.1) = false := by rfl) :
    xE T O X (.Call (.Name x p) (e :: es) [] pos) σ G Q := fun vs H pr pins s I => by
  obtain ⟨v, ev, dv⟩ := pr.d.get hσ
  refine wpAny_Call_Name_kw (thn ((pe_var (pos := p) (i := i) hN.1 hv hN.2.1 hN.2.2).run pins s vs H (fun u H1 => u = v ∧ H1 = H) I ⟨v, ev, rfl, rfl⟩) fun u s1 ⟨v1, H1, I1, r1, q1⟩ => ?_)
  obtain ⟨e1, e2⟩ := q1
  subst e1
  rw [e2] at I1
  cases dv with
  | @lam f d _ gf hf gd hd =>
    obtain rfl : u = Value.ref f := r1
    have of1 : PySem.W.FnAt f s1.heap := by
      obtain ⟨⟨pm, ctv, q⟩, _, _⟩ := I1.hok f _ hf
      exact ⟨_, _, _, _, q⟩
    refine PySem.W.callWith_F of1 (thn (h.run pr (Q := fun xs H2 => ∃ ds G1, Pre X.K T O σ G1 vs H2 ∧ Keep G H G1 H2 ∧ DVs X.K G1 H2 xs ds ∧ (ds.length = ps.length ∧ ∀ (f d : Addr) (A : Around) (outer : List Env) (s : Shared) (H : Hp) (E : XK) (O' : Org),
      Ctx T O' (cxOf (L2.CX X.prog X.w) X.prog X.w X.K X.mg X.base N L.q L.scope f (.ref d) A outer s H E) k false (fun cls fs _ G' => W cls fs σ G') → xE T O' (cxOf (L2.CX X.prog X.w) X.prog X.w X.K X.mg X.base N L.q L.scope f (.ref d) A outer s H E) L.body (start3 N ds) G1 Q)) (fun v H1 d G1 p1 k1 dv q => ⟨d, G1, p1, k1, dv, q⟩) pos pins s1 I1) fun us s2 h2 => ?_) he hpl
    obtain ⟨xs, H2, I2, r2, ds, G1, p2, k2, dvs, hl, hq⟩ := h2
    obtain ⟨hf2, gf2⟩ := k2.ext gf hf
    obtain ⟨hd2, gd2⟩ := k2.ext gd hd
    refine ⟨by
      obtain ⟨⟨pm, ctv, q⟩, _, _⟩ := I2.hok f _ hf2
      exact ⟨_, _, _, _, q⟩, ?_⟩
    rw [List.nil_append]
    refine wpAny_call (codeAny_mono (run_lam S hb c.rm I2.env0 r2 (dvs.length.trans hl) hf2 hd2 (Qv := upE X.K T G H Q) (E := fun cls d H' => low X.K T O W cls d vs H') fun hr' => ?_) fun r' s' hq' => ?_)
    · have cx : Ctx T (G1, H2) (cxOf (L2.CX X.prog X.w) X.prog X.w X.K X.mg X.base N L.q L.scope f (.ref d) X.A X.stack s2 H2 (fun cls d H' => low X.K T O W cls d vs H')) k false (fun cls fs _ G' => W cls fs σ G') :=
        ⟨rfl, S.nd, hr', (fun z => by cases z), passes_of (K := fun e s'' => L2.CX X.prog X.w X.stack H2 s2 _ e s'') rfl, (takes_of rfl rfl rfl rfl).imp fun cls d vs' H' h' => by
          obtain ⟨fs, σ', G', r', k', _, ex, q⟩ := h'
          exact ⟨fs, σ, G', r', p2.k.trans k', p2.d.mono k', ex, q⟩⟩
      exact (hq f d X.A X.stack s2 H2 _ (G1, H2) cx (L2.start N xs) H2 ⟨p2.r, .refl _ _, start_dv dvs⟩).mono fun v H' q => q.tr k2
    · cases r' with
      | error er => exact passAt c.tk vs pins H2 s2 er s' I2 hq'
      | ok fl =>
        cases fl with
        | ret u => exact I2.after hq'
        | next => exact False.elim hq'
        | brk => exact False.elim hq'
        | cont => exact False.elim hq'
end
end L3
end
section
/-! L3, rules: a key of sorted that is a lambda of one parameter. -/
namespace L3
open PySem PySem.Spec PyProof.Rows L2
/-- an expression that writes nothing that was there -/
structure PurE (P : Program) (w : World) (A : Around) (env : Env) (OK : Heap → Prop) (e : Expr) (R : Heap → Value → Prop) : Prop where
  run : ∀ (s : Shared) (Q : Value → Shared → Prop) (E : Value → Shared → Prop), OK s.heap → (∀ u h' tk, (∀ b o, s.heap.get? b = some o → h'.get? b = some o) → R h' u → Q u { s with heap := h', toks := tk }) → wpAny (model P w) A (eval e env) Q E s
def Stay (R : Heap → Prop) : Prop := ∀ h h' : Heap, (∀ b o, h.get? b = some o → h'.get? b = some o) → R h → R h'
section
variable {P : Program} {w : World} {A : Around} {env : Env} {OK : Heap → Prop} {e e1 e2 : Expr} {R R1 R2 : Heap → Value → Prop}
theorem pu_name {x : Str} {pos : Pos} {m : Str → Option Value} {u : Value} (hk : env.scope.kind = .function) (hl : env.kindOf x = some .local) (hn : ∀ h, OK h → h.Ns env.locals m) (hm : m x = some u) (hd : (x == ("__debug__" : Str)) = false) : PurE P w A env OK (.Name x pos) (fun _ v => v = u) :=
  ⟨fun s Q E ok q => wpAny_Name (wpAny_loadName_local hk hl (hn _ ok) hm (q u s.heap s.toks (fun _ _ z => z) rfl)) hd⟩
theorem pu_ix {i : Nat} {j : Nat} {p2 pos : Pos} {u : Value} (he : PurE P w A env OK e R) (h : ∀ g v, R g v → ∃ (p : Addr) (its : Array Value), v = .ref p ∧ IsTup g p its ∧ its[i]? = some u ∧ its.size < 2 ^ 62) : PurE P w A env OK (.Subscript e (.Constant (.int i) j p2) pos) (fun _ v => v = u) :=
  ⟨fun s Q E ok q => by
    refine Subscript_ (he.run s _ E ok fun v g tk k r => wpAny_Constant_int ?_)
    obtain ⟨p, its, rfl, ht, hi, hz⟩ := h g v r
    have hlt : i < its.size := (Array.getElem?_eq_some_iff.mp hi).1
    refine subscriptTail_builtinR (x := u) (T := "tuple") ht.typeIs slot_tuple_getitem.lookup (getItem_tuple (j := i) (Q := fun r s' => r = u ∧ Q r s') ht (by omega) (by omega) ?_ hi ⟨rfl, q u g (tk + 1) k rfl⟩) (by with_unfolding_all rfl)
    rw [seqIndex_of (by omega) (by omega)]; simp⟩
theorem pu_tup2 {k : Nat} {pos : Pos} (h1 : PurE P w A env OK e1 R1) (h2 : PurE P w A env OK e2 R2) (ok : Stay OK) (s1 : ∀ u, Stay fun h => R1 h u) (s2 : ∀ u, Stay fun h => R2 h u) (hst : starEach [e1, e2] env = [(false, eval e1 env), (false, eval e2 env)] := by rfl) :
    PurE P w A env OK (.Tuple [e1, e2] k pos) (fun h v => ∃ p u1 u2, v = .ref p ∧ IsTup h p #[u1, u2] ∧ R1 h u1 ∧ R2 h u2) :=
  ⟨fun s Q E o q => by
    refine wpAny_Tuple_spliced ?_
    rw [hst]
    refine Calls.spliced_cons (h1.run s _ E o fun u1 g1 t1 k1 r1 => ?_)
    refine Calls.spliced_cons (h2.run _ _ E (ok _ _ k1 o) fun u2 g2 t2 k2 r2 => ?_)
    refine Calls.spliced_nil ⟨by show 2 ≤ sizeLine; rw [sizeLine_eq]; omega, ?_⟩
    have k3 : ∀ b o, g2.get? b = some o → (g2.push { cls := .type "tuple", data := .seq [u1, u2].toArray }).get? b = some o := fun b o z => Heap.get?_push_of_some _ z
    exact q _ _ t2 (fun b o z => k3 b o (k2 b o (k1 b o z))) ⟨_, u1, u2, rfl, IsTup.new _ _, s1 _ _ _ k3 (s1 _ _ _ k2 r1), s2 _ _ _ k3 r2⟩⟩
end
/-- a call of the lambda by one value -/
theorem lam_pure {P : Program} {w : World} {A : Around} {s : Shared} {f d : Addr} {L : Lam} {x : Str} {v : Value} {pm ctv : Value} {R : Heap → Value → Prop} {k : PyData} (hr : A.depth < recursionLimit) (hf : s.heap.get? f = some (PySem.W.kla_obj "<lambda>" L.q L.params L.body L.scope [] pm d ctv)) (hc : s.heap.CodeRec (.ref d) L.q) (hlim : s.heap.NoLimit)
    (hb : ∀ (pm cv ctv : Value) (us : List Value), us.length = 1 → bindArgs (PySem.W.kla_fn "<lambda>" L.q L.params L.body L.scope [] pm cv ctv) ⟨us, []⟩ = pure ([x].zip us)) (hk : L.scope.kind = .function) (hco : L.scope.isCoroutine = false) (hge : L.scope.isGenerator = false) (hx : L.scope.names.lookup x = some .local) (hnc : ∀ y ∈ L.scope.names, y.2 ≠ .cell)
    (hbody : ∀ (env : Env) (A' : Around), env.scope = L.scope → PurE P w A' env (fun h => (∀ b o, s.heap.get? b = some o → h.get? b = some o) ∧ h.Ns env.locals fun y => [(x, v)].lookup y) L.body R) (hR : ∀ h u, (∀ b o, s.heap.get? b = some o → h.get? b = some o) → R h u → Reads h u k []) :
    wpAny (model P w) A (call (.ref f) [v]) (PySem.W.KeyPure k s) (fun _ _ => False) s := by
  refine wpAny_call ?_
  refine PySem.W.kla_callFunE hr hf rfl hco hge rfl hc ?_
  rw [hb _ _ _ [v] rfl]
  refine wpAny_pure (wpAny_newFunctionEnv hnc (fun y hy => ?_) (fun h₁ hns hsb => ⟨?_, PySem.W.kla_codeExpr ?_⟩) hk)
  · have : y = (x, v) := by simpa using hy
    rw [this]; exact hx
  · exact hlim.fresh _ hsb
  · have kp : ∀ b o, s.heap.get? b = some o → h₁.get? b = some o := fun b o e => hsb.extBut b o (Nat.ne_of_lt (Heap.lt_size e)) (Heap.get?_push_of_some _ e)
    refine (hbody _ _ rfl).run _ _ _ ⟨kp, hns⟩ fun u h' tk k' r => ?_
    have kk : ∀ b o, s.heap.get? b = some o → h'.get? b = some o := fun b o z => k' b o (kp b o z)
    exact ⟨h', tk, rfl, kk, hR h' u kk r⟩
/-- the key (d[i], d[j]) of a tuple of data -/
def keyIJ (i j : Nat) : D → PyData
  | .tup es => .tuple [py (es.getD i .non), py (es.getD j .non)]
  | _ => .none
def atomD : D → Bool
  | .int _ => true
  | .str _ => true
  | _ => false
theorem reads_atom {K : PySem.W.Frag} {G : Gm} {H : Hp} {h : Heap} {d : D} {v : V} {u : Value} (a : atomD d = true) (dv : DV K G H v d) (r : RelV v u) : Reads h u (py d) [] := by
  cases dv with
  | int i => obtain ⟨t, rfl⟩ := r; exact .int i t
  | str x => obtain ⟨t, rfl⟩ := r; exact .str x t
  | _ => cases a
section
variable {T : List (Addr × Str)} {O : Org} {X : Cx} {σ : St3} {G : Gm} {W : W3T} {Q : D → Gm → Prop}
/-- sorted(e, key=lambda x: (x[i], x[j])) -/
theorem r_sortIJ {e : Expr} {x : Str} {i j : Nat} {cc Pt : Addr} {params : Arguments} {scope : Scope} {k : Nat} {g : Bool} {j1 j2 kk : Nat} {p lpos kpos pos q1 q2 q3 q4 q5 q6 q7 : Pos} (c : Ctx T O X (k + 1) g W) (TB : LamX.TabB X.base X.mg cc Pt) (hcode : X.env.code = .ref cc) (hm : (Pt, X.env.qual ++ "<lambda>") ∈ T) (hu : ∀ p ∈ T, p.1 = Pt → p.2 = X.env.qual ++ "<lambda>")
    (hg : Gl X "sorted") (hmg : X.mg "sorted" = none) (hdef : defaultsOf params X.env = ([], [])) (hfree : ∀ y ∈ scope.names, y.2 ≠ .free) (hnc : ∀ y ∈ scope.names, y.2 ≠ .cell) (hk : scope.kind = .function) (hco : scope.isCoroutine = false) (hge : scope.isGenerator = false) (hx : scope.names.lookup x = some .local) (hxd : (x == ("__debug__" : Str)) = false)
    (hb : ∀ (q : Str) (pm cv ctv : Value) (us : List Value), us.length = 1 → bindArgs (PySem.W.kla_fn "<lambda>" q params (.Tuple [.Subscript (.Name x q1) (.Constant (.int i) j1 q2) q3, .Subscript (.Name x q4) (.Constant (.int j) j2 q5) q6] kk q7) scope [] pm cv ctv) ⟨us, []⟩ = pure ([x].zip us))
    (h : xE T O X e σ G fun d G1 => ∃ ds, seqL G1 d ds ∧ (∀ y ∈ ds, ∃ es a b, y = .tup es ∧ es[i]? = some a ∧ es[j]? = some b ∧ atomD a = true ∧ atomD b = true) ∧ PySem.W.AllAlike (ds.map (keyIJ i j)) ∧ Q (.lst (ds.mergeSort (PySem.W.dataLe false (keyIJ i j)))) G1)
    (hst : starEach [e] X.env = (false, eval e X.env) :: starEach [] X.env := by rfl) (he : backTo pos (starEach [e] X.env) = (false, eval e X.env) :: backTo pos (starEach [] X.env) := by rfl) (hpl : (backTo pos (starEach [e] X.env)).any (·.1) = false := by rfl) :
    xE T O X (.Call (.Name "sorted" p) [e] [⟨some "key", .Lambda params (.Tuple [.Subscript (.Name x q1) (.Constant (.int i) j1 q2) q3, .Subscript (.Name x q4) (.Constant (.int j) j2 q5) q6] kk q7) scope lpos, kpos⟩] pos) σ G Q := fun vs H pr pins s I => by
  refine wpAny_Call_Name_kw (ld_blt I hg hmg (u := .builtin "sorted") (by decide +kernel) ?_ (by decide) (by decide))
  have ha : xA T O X [e] σ G fun ds1 G1 => ∃ d, ds1 = [d] ∧ ∃ ds, seqL G1 d ds ∧ (∀ y ∈ ds, ∃ es a b, y = .tup es ∧ es[i]? = some a ∧ es[j]? = some b ∧ atomD a = true ∧ atomD b = true) ∧ PySem.W.AllAlike (ds.map (keyIJ i j)) ∧ Q (.lst (ds.mergeSort (PySem.W.dataLe false (keyIJ i j)))) G1 :=
    a_cons (h.imp fun d G1 q => a_nil ⟨d, rfl, q⟩) hst
  refine PyProof.Rows.callWith_kw (thn (ha.run pr (Q := fun xs H1 => ∃ d G1, Pre X.K T O σ G1 vs H1 ∧ Keep G H G1 H1 ∧ DVs X.K G1 H1 xs [d] ∧ ∃ ds, seqL G1 d ds ∧ (∀ y ∈ ds, ∃ es a b, y = .tup es ∧ es[i]? = some a ∧ es[j]? = some b ∧ atomD a = true ∧ atomD b = true) ∧ PySem.W.AllAlike (ds.map (keyIJ i j)) ∧ Q (.lst (ds.mergeSort (PySem.W.dataLe false (keyIJ i j)))) G1)
    (fun v H1 d1 G1 p1 k1 dv ⟨d, e1, q⟩ => by subst e1; exact ⟨d, G1, p1, k1, dv, q⟩) pos pins s I) fun us s1 h1 => ?_) he hpl
  obtain ⟨xs, H1, I1, r1, d, G1, p1, k1, dvs, ds, hsq, hit, hal, q⟩ := h1
  show wpAny _ _ (evalAll [(do let v ← eval (.Lambda params _ scope lpos) X.env; standAt pos; pure v)]) _ _ _
  refine wpAny_evalAll_cons (wpAny_bind (lam_made I1 TB hcode hm hu p1.r.tabs hdef hfree fun f dd H2 s2 I2 eN T2 hf0 hf2 hd2 => wpAny_bind (wpAny_standAt (wpAny_pure ?_))))
  refine wpAny_evalAll_nil ?_
  show wpAny _ _ (call (.builtin "sorted") us [(Str.ofString "key", .ref f)]) _ _ _
  obtain ⟨r2, k2⟩ := r3_extN p1.r eN T2
  have dvs2 := dvs.mono k2
  cases dvs2 with
  | cons dv0 dn =>
    cases dn
    obtain ⟨u0, eu, ru0⟩ := vals1 r1
    subst eu
    obtain ⟨l, ws, rfl, hs, dws⟩ := seqL_dv r2 (by
      rcases hsq with z | ⟨p, z1, z2⟩
      · exact .inl z
      · exact .inr ⟨p, z1, z2⟩) dv0
    cases ru0
    obtain ⟨its, rv, hl, hz⟩ := I2.list hs
    have hF : Paired (fun y d => DV X.K G1 H2 y d ∧ d ∈ ds) ws ds := by
      have z := paired_dvs dws
      clear hl hz rv hs dv0 dvs q hal hit hsq dws
      have gen : ∀ {xs : List V} {es : List D}, Paired (fun x d => DV X.K G1 H2 x d) xs es → (∀ e ∈ es, e ∈ ds) → Paired (fun x d => DV X.K G1 H2 x d ∧ d ∈ ds) xs es := by
        intro xs es z
        induction z with
        | nil => intro _; exact .nil
        | cons a b ih => intro hm; exact .cons ⟨a, hm _ (List.mem_cons_self ..)⟩ (ih fun e he => hm e (List.mem_cons_of_mem _ he))
      exact gen z fun e he => he
    have ee := each_of rv hF
    have el : its.length = ds.length := ee.length
    have hdp : ∀ y ∈ ds, (keyIJ i j y).depth = 1 := fun y hy => by
      obtain ⟨es, a, b, rfl, ha, hb, aa, ab⟩ := hit y hy
      have ga : es.getD i .non = a := by rw [List.getD_eq_getElem?_getD, ha]; rfl
      have gb : es.getD j .non = b := by rw [List.getD_eq_getElem?_getD, hb]; rfl
      have da : (py a).depth = 0 := by cases a <;> first | rfl | cases aa
      have db : (py b).depth = 0 := by cases b <;> first | rfl | cases ab
      show (max (py (es.getD i .non)).depth (max (py (es.getD j .non)).depth 0)) + 1 = 1
      rw [ga, gb, da, db]; rfl
    have rm2 : X.A.units + 64 < cLine := c.rm.units
    refine PySem.W.sorted_key_data (R := fun u d => ∃ y, RelV y u ∧ DV X.K G1 H2 y d ∧ d ∈ ds) (b := false) (keyIJ i j) hl.isList ee hal ?_ (by rw [← el, ← rv.length]; exact hz) (fun y hy => by rw [hdp y hy]; omega) (PyProof.Rows.ksk_s1 _ _) (fun _ => PyProof.Rows.ksk_l1 _ _) (fun _ => PyProof.Rows.ksk_t1 _ _) (fun v y ⟨yv, ry, dy, my⟩ _ hh tk kh => ?_) fun out cn h' tk kh hn hat ho hout => ?_
    · refine .inl fun dk hd => ?_
      obtain ⟨y, hy, rfl⟩ := List.mem_map.mp hd
      obtain ⟨es, a, b, rfl, _⟩ := hit y hy
      exact ⟨_, _, rfl⟩
    · -- a turn
      have I3 : Inv X pins vs H2 { s2 with heap := hh, toks := tk } := I2.kept kh
      obtain ⟨⟨pm, ctv, of3⟩, _, _⟩ := I3.hok f _ hf2
      obtain ⟨⟨oc, cvs, t, hoc, hdc, hvc⟩, _, _⟩ := I3.hok dd _ hd2
      obtain ⟨es, a, b, rfl, ha, hb', aa, ab⟩ := hit y my
      have ga : es.getD i .non = a := by rw [List.getD_eq_getElem?_getD, ha]; rfl
      have gb : es.getD j .non = b := by rw [List.getD_eq_getElem?_getD, hb']; rfl
      cases dy with
      | @tup ap wv _ tu dwv =>
        cases ry
        obtain ⟨itv, riv, htv, hzv⟩ := I3.tuple tu.sq
        obtain ⟨va, eva, dva⟩ := dwv.get ha
        obtain ⟨vb, evb, dvb⟩ := dwv.get hb'
        obtain ⟨ua, eua, rua⟩ := riv.get eva
        obtain ⟨ub, eub, rub⟩ := riv.get evb
        have rd : X.A.in1.in1.depth < recursionLimit := by have := c.rm.dp; show X.A.depth < _; omega
        have hzl : itv.toArray.size < 2 ^ 62 := by rw [List.size_toArray, ← riv.length]; have := hzv; rw [sizeLine_eq] at this; omega
        refine lam_pure (x := x) (L := ⟨X.env.qual ++ "<lambda>", params, _, scope⟩) (R := fun h v => ∃ p u1 u2, v = .ref p ∧ IsTup h p #[u1, u2] ∧ u1 = ua ∧ u2 = ub) rd of3 ⟨dd, oc, cvs, t, rfl, hoc, hdc, hvc⟩ I3.nolimit (fun pm cv ctv us hus => hb _ pm cv ctv us hus) hk hco hge hx hnc (fun env A' henv => ?_) fun h u kk ⟨p, u1, u2, e1, e2, e3, e4⟩ => ?_
        · have st : Stay fun h : Heap => (∀ b o, hh.get? b = some o → h.get? b = some o) ∧ h.Ns env.locals fun y => [(x, Value.ref ap)].lookup y := fun g g' kg ⟨z1, z2⟩ => ⟨fun b o e => kg b o (z1 b o e), z2.keeps kg⟩
          have nm : ∀ pos, PurE X.prog X.w A' env (fun h => (∀ b o, hh.get? b = some o → h.get? b = some o) ∧ h.Ns env.locals fun y => [(x, Value.ref ap)].lookup y) (.Name x pos) (fun h v => v = Value.ref ap) := fun pos =>
            pu_name (by rw [henv]; exact hk) (by show env.scope.names.lookup x = _; rw [henv]; exact hx) (fun h z => z.2) (by simp [List.lookup]) hxd
          have nm2 : ∀ pos, PurE X.prog X.w A' env (fun h => (∀ b o, hh.get? b = some o → h.get? b = some o) ∧ h.Ns env.locals fun y => [(x, Value.ref ap)].lookup y) (.Name x pos) (fun h v => v = Value.ref ap ∧ ∀ b o, hh.get? b = some o → h.get? b = some o) := fun pos =>
            ⟨fun s' Q' E' ok' q' => (nm pos).run s' Q' E' ok' fun u h' tk' k' r' => q' u h' tk' k' ⟨r', fun b o e => k' b o (ok'.1 b o e)⟩⟩
          have sub : ∀ (n : Nat) (un : Value) (jj : Nat) (pp1 pp2 pp3 : Pos), itv[n]? = some un → PurE X.prog X.w A' env (fun h => (∀ b o, hh.get? b = some o → h.get? b = some o) ∧ h.Ns env.locals fun y => [(x, Value.ref ap)].lookup y) (.Subscript (.Name x pp1) (.Constant (.int n) jj pp2) pp3) (fun h v => v = un) := fun n un jj pp1 pp2 pp3 hn =>
            pu_ix (nm2 pp1) fun g v ⟨ev, kg⟩ => ⟨ap, itv.toArray, ev, IsTup.keeps htv kg, by simpa using hn, hzl⟩
          exact pu_tup2 (sub i ua _ _ _ _ eua) (sub j ub _ _ _ _ eub) st (fun u g g' _ z => z) (fun u g g' _ z => z)
        · subst e1 e3 e4
          obtain ⟨o, ho, hoc, n, hod⟩ := e2
          show Reads h (.ref p) (.tuple [py (es.getD i .non), py (es.getD j .non)]) []
          rw [ga, gb]
          exact .tuple ho hoc hod (.cons (reads_atom aa dva rua) (.cons (reads_atom ab dvb rub) .nil))
    · obtain ⟨ys, ry, hy⟩ := of_each hout
      have hlen : ys.length ≤ sizeLine := by rw [ry.length, ho, ← el, ← rv.length]; exact hz
      have hfr := I2.hok.fresh (Nat.le_succ s2.heap.objs.size)
      have I4 : Inv X pins vs (upd H2 (s2.heap.objs.size + 1) (.lst ys)) { s2 with heap := h', toks := tk } := I2.laid (t' := tk) kh (Nat.le_succ _) ⟨hlen, out, cn, ry, hat⟩
      have kn := keep_new (G := G1) (o := .lst ys) hfr
      exact ⟨.ref _, _, I4, rfl, _, G1, r2.new hfr, (k1.trans k2).trans kn, .lst (.inl ⟨r2.free hfr, .inl upd_same⟩) ((dvs_paired (L2.Paired.mapP hy fun _ _ z => z.1)).mono kn), q⟩
end
end L3
end
section
set_option maxHeartbeats 2000000
/-! L3: the end of a law. -/
namespace L3
open PySem PySem.Spec PyProof.Rows L2
/-- law_call with tables: cs, the code objects and their tables -/
theorem law_call3 {P : Program} {w : World} {K : PySem.W.Frag} {mg mb : Str → Option Value} {k : Nat} {fa a : Addr} {cs : List (Addr × Addr)} {fd : FuncData} {x : Str} {sp : Sp} {s₁ : Shared} {vs : List Value} {ns : List Int}
    (KX : K.In s₁.heap) (hns : s₁.heap.Ns mainGlobals mg) (hb : s₁.heap.Ns builtinsNs mb) (hbb : ∀ x : Str, x ≠ "__name__" → mb x = bootBuiltins x) (hLim : s₁.heap.NoLimit) (hg : s₁.gens = #[])
    (gT : ∀ p ∈ cs, s₁.heap.get? p.2 = some { cls := .none, data := .fields #[] }) (gN : ∀ p ∈ cs, K.lookup p.2 = none) (C : ∀ p ∈ cs, PySem.W.CodeHd s₁.heap p.1 p.2)
    (hbM : ∃ (bm : Addr) (ob : Obj), mg "__builtins__" = some (.ref bm) ∧ bm ≠ builtinsNs ∧ s₁.heap.get? bm = some ob ∧ ob.cls = .type "module" ∧ ob.dict = some builtinsNs ∧ ob.data = .plain)
    (ha : s₁.heap.get? a = some { cls := .type "list", data := .seq vs.toArray }) (hi : IntsAre vs ns) (hl : ns.length ≤ sizeLine) (hRm : Room k callerA)
    (F : ∀ base : Heap, K.In base → base.Ns mainGlobals mg → (∀ p ∈ cs, LamX.TabB base mg p.1 p.2) → FnG P w K mg base k true fa fd [x] sp) (hBind : ∀ (s : Shared) (u : Value), BindsTo s fd ⟨[u], []⟩ [(x, u)])
    (hSp : ∀ H : Hp, (∀ p ∈ cs, H p.2 = some (.tbl #[])) → SqL K H a (ns.map V.int) → sp [.ref a] H (fun v _ => v = .bl true) fun _ _ _ => False)
    (hcx : ∀ H e s', L2.CX P w [] H s₁ (fun _ _ _ => False) e s' → False) :
    codeAny (model P w) callerA (.call (.ref fa) ⟨[.ref a], []⟩) (fun r s' => r = .ok (.ret (.bool true)) ∧ OldK s₁.heap s'.heap ∧ s'.os = s₁.os ∧ AllBare s'.gens) s₁ := by
  have rvv := vals_ints hi
  have lnV := hi.length
  have isTb : ∀ b : Addr, b ∈ cs.map (·.2) → s₁.heap.get? b = some { cls := .none, data := .fields #[] } := fun b hb => by
    obtain ⟨p, hp, e⟩ := List.mem_map.mp hb
    rw [← e]
    exact gT p hp
  have aTb : a ∉ cs.map (·.2) := fun z => by
    have q := isTb a z
    rw [ha] at q
    have z' : Data.seq vs.toArray _ = Data.fields #[] := congrArg Obj.data (Option.some.inj q)
    cases z'
  have mTb : ∀ p ∈ cs, p.2 ∈ cs.map (·.2) := fun p hp => List.mem_map.mpr ⟨p, hp, rfl⟩
  -- from an abstract heap in which nothing but the script and the tables may be tracked
  have corE : ∀ H : Hp, (∀ p ∈ cs, H p.2 = some (.tbl #[])) → (∀ b, H b = none ∨ b ∈ cs.map (·.2) ∨ ∃ o xs, H b = some (.frz o (.lst xs))) → SqL K H a (ns.map V.int) → HOk P w H s₁.heap → (∀ b, H b ≠ none → b = a ∨ b ∈ cs.map (·.2)) → (H a ≠ none → K.lookup a = none) →
      codeAny (model P w) callerA (.call (.ref fa) ⟨[.ref a], []⟩) (fun r s' => r = .ok (.ret (.bool true)) ∧ OldK s₁.heap s'.heap ∧ s'.os = s₁.os ∧ AllBare s'.gens) s₁ := by
    intro H hHH hOO hSS hhk hAA hKK
    have bse : ∀ {b : Addr} {o : Obj}, s₁.heap.get? b = some o → H b = none → (hidT s₁.heap H).get? b = some o := fun e n => hidT_get e n
    have nD2 : ∀ {b : Addr} {o : Obj}, s₁.heap.get? b = some o → (∀ vs n, o.data ≠ .seq vs n) → o.data ≠ .fields #[] → H b = none := fun {b o} e h1 h2 => by
      cases q : H b with
      | none => rfl
      | some u =>
        rcases hAA b (by rw [q]; simp) with e' | e'
        · rw [e', ha] at e
          cases e
          exact (h1 _ _ rfl).elim
        · rw [isTb b e'] at e
          cases e
          exact (h2 rfl).elim
    have nA2 : ∀ {b : Addr} {o : Obj} {es : Array DictEntry} {ep : Nat}, s₁.heap.get? b = some o → o.data = .dict es ep → H b = none := fun {b o es ep} e d => by
      refine nD2 e (fun vs n z => ?_) fun z => ?_
      · rw [d] at z
        cases z
      · rw [d] at z
        cases z
    have nSK : ∀ {b : Addr} {m : Str → Option Value}, s₁.heap.Ns b m → (hidT s₁.heap H).Ns b m := fun {b m} ⟨o, es, ep, e, d, r⟩ => ⟨o, es, ep, bse e (nA2 e d), d, r⟩
    have hKB : K.In (hidT s₁.heap H) := fun b o e => bse (KX b o e) (by
      cases q : H b with
      | none => rfl
      | some u =>
        rcases hAA b (by rw [q]; simp) with e' | e'
        · rw [e'] at e q
          rw [hKK (by rw [q]; simp)] at e
          cases e
        · obtain ⟨p, hp, ep⟩ := List.mem_map.mp e'
          rw [← ep, gN p hp] at e
          cases e)
    have hMM : L2.Mod K mg (hidT s₁.heap H) := ⟨hKB, nSK hns, ⟨mb, nSK hb, hbb⟩, let ⟨mc, h1, h2⟩ := hLim; ⟨mc, nSK h1, h2⟩⟩
    have TBS : ∀ p ∈ cs, LamX.TabB (hidT s₁.heap H) mg p.1 p.2 := fun p hp => by
      have hTp := gT p hp
      refine ⟨?_, ?_, fun z => ?_⟩
      · obtain ⟨o, us, file, tf, flags, tg, inF, text, tt, e1, r1, r2, r3, r4, r5, r6, r7, r8, hne⟩ := C p hp
        refine ⟨o, us, file, tf, flags, tg, inF, text, tt, bse e1 (nD2 e1 (fun vs n z => ?_) fun z => ?_), r1, r2, r3, r4, r5, r6, r7, r8, hne⟩
        · rw [r2] at z
          cases z
        · rw [r2] at z
          cases z
          simp at r3
      · obtain ⟨bm, ob, b1, b2, b3, b4, b5, b6⟩ := hbM
        have nG : bm ≠ mainGlobals := fun q => by
          obtain ⟨o, es, ep, e, hd, _⟩ := hns
          rw [q, e] at b3
          cases b3
          rw [hd] at b6
          cases b6
        have nP : bm ≠ p.2 := fun q => by
          rw [q, hTp] at b3
          cases b3
          cases b6
        refine ⟨bm, ob, b1, b2, nG, nP, bse b3 (nD2 b3 (fun vs n z => ?_) fun z => ?_), b4, b5, b6⟩
        · rw [b6] at z
          cases z
        · rw [b6] at z
          cases z
      · obtain ⟨o, es, ep, e, hd, _⟩ := hns
        rw [z, hTp] at e
        cases e
        cases hd
    have env0 : Env0 P w K mg (hidT s₁.heap H) callerA [] s₁ H := ⟨rfl, hMM, fun b o e => of_hidT e, Nat.le_of_eq (hidT_size _ _), trivial, fun b hb => absurd (show b ∈ ([] : List Addr) from hb) (by simp), hhk, .of_eq hg⟩
    refine codeAny_mono ((F _ hKB (nSK hns) TBS).run callerA [] s₁ H ⟨[.ref a], []⟩ [.ref a] [.ref a] _ _ hRm (fun _ => rfl) env0 (hBind s₁ (.ref a)) (.cons rfl .nil) (hSp H hHH hSS)) fun r s' h => ?_
    cases r with
    | error e => exact (hcx H e s' h).elim
    | ok fl =>
      cases fl with
      | next => exact False.elim h
      | brk => exact False.elim h
      | cont => exact False.elim h
      | ret u =>
        obtain ⟨v, H', oss, bre, unn, hok', r', q⟩ := h
        have q' : v = .bl true := q
        subst q'
        obtain rfl : u = Value.bool true := r'
        have kept : ∀ b o, b ∉ cs.map (·.2) → s₁.heap.get? b = some o → s'.heap.get? b = some o := fun b o nb e => by
          cases q : H b with
          | none => exact unn.keep b o e q (by intro z; exact absurd (show b ∈ ([] : List Addr) from z) (by simp)) (by simp)
          | some u =>
            rcases hOO b with z | z | ⟨ob, xs, z⟩
            · rw [q] at z; cases z
            · exact absurd z nb
            · have z2 := unn.frzs b ob _ z
              obtain ⟨e1, _⟩ := hhk b _ z
              obtain ⟨e2, _⟩ := hok' b _ z2
              rw [e] at e1; cases e1
              exact e2
        have grew : ∀ p ∈ cs, ∃ more : Array Value, s'.heap.get? p.2 = some { cls := .none, data := .fields more } := fun p hp => by
          obtain ⟨more, z⟩ := unn.tbls p.2 #[] (hHH p hp)
          exact ⟨_, hok' p.2 _ z⟩
        refine ⟨rfl, ⟨fun b o e => ?_, fun b o e => ?_⟩, oss, bre⟩
        · by_cases hb : b ∈ cs.map (·.2)
          · obtain ⟨p, hp, ep⟩ := List.mem_map.mp hb
            obtain ⟨more, hm⟩ := grew p hp
            rw [← ep] at e ⊢
            rw [gT p hp] at e
            cases e
            exact .inr (.inl ⟨((C p hp).tab (gT p hp)).isCodeTable, rfl, #[], more, rfl, by rw [Array.empty_append]; exact hm⟩)
          · exact .inl (kept b o hb e)
        · by_cases hb : b ∈ cs.map (·.2)
          · obtain ⟨p, hp, ep⟩ := List.mem_map.mp hb
            obtain ⟨more, hm⟩ := grew p hp
            rw [← ep]
            exact ⟨_, hm⟩
          · exact ⟨o, kept b o hb e⟩
  cases hk : K.lookup a with
  | some o =>
    have e := KX a o hk
    rw [ha] at e
    cases e
    refine corE (fun b => if b ∈ cs.map (·.2) then some (.tbl #[]) else none) (fun p hp => if_pos (mTb p hp)) (fun b => ?_) (.inr ⟨_, vs.toArray, _, hk, rfl, rfl, rfl, by rw [List.size_toArray, lnV]; exact hl, by simpa using rvv⟩) (fun b u z => ?_) (fun b z => ?_) fun z => absurd (show (if a ∈ cs.map (·.2) then some (HO.tbl #[]) else none) = none from if_neg aTb) z
    · by_cases hb : b ∈ cs.map (·.2)
      · exact .inr (.inl hb)
      · exact .inl (if_neg hb)
    · by_cases hb : b ∈ cs.map (·.2)
      · have z' := (if_pos hb).symm.trans z
        cases z'
        exact isTb b hb
      · have z' := (if_neg hb).symm.trans z
        cases z'
    · by_cases hb : b ∈ cs.map (·.2)
      · exact .inr hb
      · exact absurd (if_neg hb) z
  | none =>
    refine corE (fun b => if b = a then some (.frz { cls := .type "list", data := .seq vs.toArray } (.lst (ns.map V.int))) else if b ∈ cs.map (·.2) then some (.tbl #[]) else none) (fun p hp => (if_neg (show ¬ p.2 = a from fun z => aTb (by rw [← z]; exact mTb p hp))).trans (if_pos (mTb p hp))) (fun b => ?_)
      (.inl (.inr ⟨{ cls := .type "list", data := .seq vs.toArray }, if_pos rfl⟩)) (fun b u z => ?_) (fun b z => ?_) fun _ => hk
    · by_cases hb : b = a
      · exact .inr (.inr ⟨_, _, if_pos hb⟩)
      · by_cases hb2 : b ∈ cs.map (·.2)
        · exact .inr (.inl hb2)
        · exact .inl ((if_neg hb).trans (if_neg hb2))
    · by_cases hb : b = a
      · have z' := (if_pos hb).symm.trans z
        cases z'
        rw [hb]
        exact ⟨ha, by rw [List.length_map]; exact hl, vs, _, rvv, ha⟩
      · have z1 := (if_neg hb).symm.trans z
        by_cases hb2 : b ∈ cs.map (·.2)
        · have z' := (if_pos hb2).symm.trans z1
          cases z'
          exact isTb b hb2
        · have z' := (if_neg hb2).symm.trans z1
          cases z'
    · by_cases hb : b = a
      · exact .inl hb
      · by_cases hb2 : b ∈ cs.map (·.2)
        · exact .inr hb2
        · exact absurd ((if_neg hb).trans (if_neg hb2)) z
/-! ### defs by the head's facts -/
theorem fun1_of {K : PySem.W.Frag} {x : Str} {st : Stmt} {fd : FuncData} {ps : List Str} (F : FunD K x x (defArgs st) (defBody st) (defScope st) [] [] (He.fAd K (x, none)) fd)
    (h : ∀ (kV doc pm : Value) (an : Option Addr) (cdv ct : Value) (us : List Value), us.length = ps.length → bindArgs (PySem.W.fnOf x x (defArgs st) (defBody st) (defScope st) .none kV doc pm an cdv ct) ⟨us, []⟩ = pure (ps.zip us)) :
    Fun1 K x x st (He.ga K x) fd (.ref (He.codeOf K (x, none))) ps := by
  have bd := F.bindsN h
  obtain ⟨oc, od, dV, kV, doc, pm, an, cdv, ct, osl, e, lk, hcd, hD, hK⟩ := id F.ex
  obtain ⟨c, ec⟩ := He.codeIn_ref hcd
  have ef : fd.code = .ref c := by rw [e, ec] <;> rfl
  have eq := He.codeOf_eq lk ef
  rw [eq, ← ec]
  exact ⟨⟨oc, od, dV, kV, doc, pm, an, ct, osl, e, lk⟩, hcd, F.kp, bd⟩
/-! ### own exceptions by the head's facts -/
def ocB (K : PySem.W.Frag) (C : Addr) : Bool := match K.lookup C with
  | some ⟨.type "type", _, .cls cd, sl⟩ => (match cd.mro, sl.toList with
    | .ref C' :: bm, [_, _, _, _, some (.builtin n), _] => C' == C && (n == "ValueError.__new__" && (!cd.hasDel && (cd.hasDict && PySem.HandSPX.refsVE bm)))
    | _, _ => false)
  | _ => false
theorem ocB_ok {K : PySem.W.Frag} {C : Addr} (h : ocB K C = true) : ∃ nm q N bs bm sn sub ab col dd k0 k1 k2 k3 k5, K.lookup C = some (excClassObj nm q C N bs bm true sn sub ab col dd k0 k1 k2 k3 k5 "ValueError.__new__") ∧ PySem.HandSPX.refsVE bm = true := by
  unfold ocB at h
  split at h
  · rename_i dd cd sl ho
    split at h
    · rename_i C' bm k0 k1 k2 k3 n k5 hm hs
      simp only [Bool.and_eq_true, beq_iff_eq, Bool.not_eq_true'] at h
      obtain ⟨e1, e2, hdel, hdct, ht⟩ := h
      subst e1 e2
      obtain ⟨nm, bs, mro, ns, qn, hd, sn, sub, ab, col, del⟩ := cd
      dsimp only at hm hdel hdct
      subst hm hdel hdct
      have hsl : sl = #[k0, k1, k2, k3, some (.builtin "ValueError.__new__"), k5] := by
        obtain ⟨l⟩ := sl
        simp only at hs
        rw [hs]
      subst hsl
      exact ⟨nm, qn, ns, bs, bm, sn, sub, ab, col, dd, k0, k1, k2, k3, k5, ho, ht⟩
    · cases h
  · cases h
def excB (K : PySem.W.Frag) (x : Str) (fs : List Str) : Bool := ocB K (He.ga K x) && (He.eqO (PySem.W.findIn K (.ref (He.ga K x)) "__setattr__") (some (some (.builtin "object.__setattr__"))) && (decide (PySem.W.subIn K (.ref (He.ga K x)) (.type "BaseException") = some true) &&
  (decide (PySem.W.typeIn K (.ref (He.ga K x)) = some (.type "type")) && (PySem.W.keepIn K (.ref (He.ga K x)) && (xfB K (He.ga K x) && ((fs.all fun f => He.eqO (PySem.W.findIn K (.ref (He.ga K x)) f) (some none)) &&
  (He.eqO (PySem.W.findIn K (.ref (He.ga K x)) "__init__") (some (some (.ref (He.ma K (He.ga K x) "__init__")))) && decide (PySem.W.typeIn K (.ref (He.ma K (He.ga K x) "__init__")) = some (.type "function")))))))))
theorem excB_ok {P : Program} {w : World} {K : PySem.W.Frag} {mg : Str → Option Value} {base : Heap} {x : Str} {fs : List Str} {fd : FuncData} (h : excB K x fs = true) (gm : mg x = some (.ref (He.ga K x)))
    (F : FnOk P w K mg base L2.CX0 1 (He.ma K (He.ga K x) "__init__") fd ("self" :: fs) (spInit (He.ga K x) fs)) (bd : Binds K fd ("self" :: fs) []) : Exc3 P w K mg base x (He.ga K x) fs := by
  obtain ⟨h1, h⟩ := He.ba h
  obtain ⟨h2, h⟩ := He.ba h
  obtain ⟨h3, h⟩ := He.ba h
  obtain ⟨h4, h⟩ := He.ba h
  obtain ⟨h5, h⟩ := He.ba h
  obtain ⟨h6, h⟩ := He.ba h
  obtain ⟨h7, h⟩ := He.ba h
  obtain ⟨h8, h9⟩ := He.ba h
  exact ⟨⟨ocB_ok h1, He.eqO_ok h2, of_decide_eq_true h3, of_decide_eq_true h4, h5⟩, xfB_ok h6, fun f hf => He.eqO_ok (List.all_eq_true.mp h7 f hf), gm, ⟨_, fd, He.eqO_ok h8, of_decide_eq_true h9, F, bd⟩⟩
theorem excB_no {K : PySem.W.Frag} {x : Str} {fs : List Str} (h : excB K x fs = true) : (∀ f ∈ fs, PySem.W.findIn K (.ref (He.ga K x)) f = some none) ∧ XfC K (He.ga K x) := by
  obtain ⟨h1, h⟩ := He.ba h
  obtain ⟨h2, h⟩ := He.ba h
  obtain ⟨h3, h⟩ := He.ba h
  obtain ⟨h4, h⟩ := He.ba h
  obtain ⟨h5, h⟩ := He.ba h
  obtain ⟨h6, h⟩ := He.ba h
  obtain ⟨h7, h⟩ := He.ba h
  exact ⟨fun f hf => He.eqO_ok (List.all_eq_true.mp h7 f hf), xfB_ok h6⟩
/-! ### the law -/
def spLaw3 : Sp3 := fun ds G Q _ => ∃ ns : List Int, ds = [.lst (ns.map D.int)] ∧ ns.length ≤ 63 ∧ (∀ z ∈ ns, Builtin.Int.intBits z ≤ 1048576) ∧ Q (.bl true) G
def lamQ (x : Str) : Str := (x ++ ".<locals>.") ++ "<lambda>"
def tabsOf (K : PySem.W.Frag) (tf : List He.Defn) : List (Addr × Str) := tf.map fun p => ((He.cT K p).2, lamQ p.1)
theorem dvs_of_ints {K : PySem.W.Frag} {G : Gm} {H : Hp} : ∀ ns : List Int, DVs K G H (ns.map V.int) (ns.map D.int)
  | [] => .nil
  | n :: ns => .cons (.int n) (dvs_of_ints ns)
theorem walk3 {l : PySem.W.OpenLaw} {k n : Nat} {q : Program} {loose : List Str} {XP : (Str → Option Value) → Heap → Prop} {d : DefRec} {fa : List He.Fa} {fn : List He.DefD} {tf : List He.Defn} {ex : PySem.W.Frag → Bool}
    (hn : l.most = some 63) (hdf : d.params.defaults = []) (hr : Room k callerA) (hnm : d.name = "law")
    (F : ∀ (w : World) (K : PySem.W.Frag) (h : Heap) (mg : Str → Option Value), K.In h → h.Ns mainGlobals mg → He.SaysX fa fn [] tf ex w h K → ∃ fd : FuncData, mg "law" = some (.ref (He.ga K "law")) ∧ (∀ (s : Shared) (u : Value), BindsTo s fd ⟨[u], []⟩ [("script", u)]) ∧
      ∀ base : Heap, K.In base → base.Ns mainGlobals mg → (∀ p ∈ tf, LamX.TabB base mg (He.cT K p).1 (He.cT K p).2) → FnG l.prog w K mg base k true (He.ga K "law") fd ["script"] (lift K (tabsOf K tf) spLaw3)) :
    PySem.W.WalkO q loose XP (He.hookX n fa fn [] tf ex).says l.row.toRowW d [] (fun f vs => PySem.call f vs) := by
  refine Att.attach_callB hn hdf fun w s₀ s₁ mg mb f0 o pm cd doc a vs ns G Y ho hd hcd hmg hobj hints hlen hbits hg => ?_
  obtain ⟨K, KX, c⟩ := Y
  obtain ⟨fd, hl, hb, hF⟩ := F w K _ mg KX G.T.g c
  rw [hnm] at hmg
  have e := hmg.symm.trans hl
  cases e
  refine law_call3 (cs := tf.map (He.cT K)) (k := k) (x := "script") (sp := lift K (tabsOf K tf) spLaw3) KX G.T.g G.T.b G.T.builtins G.T.nolimit hg (fun p hp => ?_) (fun p hp => ?_) (fun p hp => ?_) G.T.bmain hobj hints (by rw [sizeLine_eq]; omega) hr (fun base h1 h2 h3 => hF base h1 h2 fun p hp => h3 _ (List.mem_map.mpr ⟨p, hp, rfl⟩)) hb (fun H hH hS => ?_) fun H e s' z => ?_
  · obtain ⟨p, hp', rfl⟩ := List.mem_map.mp hp
    exact c.empty p hp'
  · obtain ⟨p, hp', rfl⟩ := List.mem_map.mp hp
    exact c.out p hp'
  · obtain ⟨p, hp', rfl⟩ := List.mem_map.mp hp
    exact PySem.W.codeHd_of_K KX (c.hd p hp')
  · refine ⟨[.lst (ns.map D.int)], fun _ => none, fun d _ => d = .bl true, fun _ _ _ => False, ⟨fun a c z => (by cases z), fun p hp => ?_⟩, .cons (.lst ?_ (dvs_of_ints ns)) .nil, ⟨ns, rfl, hlen, hbits, rfl⟩, fun v d G' H' q _ _ dv => ?_, fun _ _ _ _ _ z => z.elim⟩
    · obtain ⟨p, hp', rfl⟩ := List.mem_map.mp hp
      exact LamX.TabS.nil (hH _ (List.mem_map.mpr ⟨p, hp', rfl⟩))
    · rcases hS with z | z
      · exact .inl ⟨rfl, z⟩
      · exact .inr (.inr z)
    · subst q
      cases dv
      rfl
  · obtain ⟨_, _, _, _, _, _, _, _, _, _, _, _, z⟩ := z
    exact z
end L3
end
section
/-! L3: the rules applied by what stands there. -/
namespace L3
open PySem PySem.Spec PyProof.Rows L2
theorem Ctx.hu64 {T : List (Addr × Str)} {O : Org} {X : Cx} {k : Nat} {g : Bool} {W : W3T} (c : Ctx T O X k g W) : X.A.units + 64 < cLine := c.rm.units
theorem Ctx.hu3 {T : List (Addr × Str)} {O : Org} {X : Cx} {k : Nat} {g : Bool} {W : W3T} (c : Ctx T O X k g W) : X.A.units + 3 < cLine := by have := c.rm.units; omega
theorem Ctx.ru {T : List (Addr × Str)} {O : Org} {X : Cx} {k : Nat} {g : Bool} {W : W3T} (c : Ctx T O X k g W) : X.A.units + 200 < cLine := by have := c.rm.un; omega
theorem bt_len : bootBuiltins "len" = some (.builtin "len") := by decide +kernel
theorem bt_abs : bootBuiltins "abs" = some (.builtin "abs") := by decide +kernel
theorem bt_repr : bootBuiltins "repr" = some (.builtin "repr") := by decide +kernel
theorem bt_isinstance : bootBuiltins "isinstance" = some (.builtin "isinstance") := by decide +kernel
theorem bt_all : bootBuiltins "all" = some (.builtin "all") := by decide +kernel
theorem bt_any : bootBuiltins "any" = some (.builtin "any") := by decide +kernel
theorem bt_sum : bootBuiltins "sum" = some (.builtin "sum") := by decide +kernel
theorem bt_min : bootBuiltins "min" = some (.builtin "min") := by decide +kernel
theorem bt_max : bootBuiltins "max" = some (.builtin "max") := by decide +kernel
theorem bt_sorted : bootBuiltins "sorted" = some (.builtin "sorted") := by decide +kernel
theorem bt_int : bootBuiltins "int" = some (.type "int") := by decide +kernel
theorem bt_str : bootBuiltins "str" = some (.type "str") := by decide +kernel
theorem bt_list : bootBuiltins "list" = some (.type "list") := by decide +kernel
theorem bt_tuple : bootBuiltins "tuple" = some (.type "tuple") := by decide +kernel
theorem bt_dict : bootBuiltins "dict" = some (.type "dict") := by decide +kernel
theorem bt_bool : bootBuiltins "bool" = some (.type "bool") := by decide +kernel
/-! ### small numbers, short texts -/
theorem lgN {n : Nat} (h : n < 2 ^ 64) : n.log2 < 64 := by
  by_cases z : n = 0
  · subst z; decide
  · exact (Nat.log2_lt z).mpr h
theorem lg {i : Int} (h : i.natAbs < 2 ^ 64) : i.natAbs.log2 < 1920 := by
  have := lgN h
  omega
theorem len_str {i : Int} (h : i.natAbs < 2 ^ 64) : (Str.ofString (toString i)).length ≤ 66 := by
  have a := strInt_len i
  have := lgN h
  omega
theorem szl : sizeLine = 16777216 := sizeLine_eq
/-! ### comprehensions that leave all as it is -/
section
variable {T : List (Addr × Str)} {O : Org} {X : Cx} {σ : St3} {G : Gm} {scope : Scope} {own : List (Str × Nat)} {f : D → St3 → Option St3} {elt c : Expr} {Q : List D → Gm → Prop} {ds : List D} {C : Gm → Prop}
theorem lc_map (f' : D → D) (hsz : ds.length < sizeLine) (hC : ∀ A h, G A = none → C (gset G A h))
    (ht : ∀ (i : Nat) (d : D), ds[i]? = some d → ∃ σ2, f d (wipe3 σ (own.map (·.2))) = some σ2 ∧ ∀ A h, G A = none → ∀ s H Cc cl fp, xE T O (bX X scope s H Cc cl fp) elt σ2 (gset G A h) fun y G4 => y = f' d ∧ G4 = gset G A h) (q : Q (ds.map f') G) :
    LcBody T O X scope own f [] elt σ Q ds C G := by
  refine ⟨hsz, fun i acc G' => G' = G ∧ acc = (ds.take i).map f', ⟨rfl, by simp⟩, fun i acc G' A h _ e g => ?_, fun i d acc G' hd e => ?_, fun acc G' e => ?_⟩
  · obtain ⟨rfl, _⟩ := e
    exact hC A h g
  · obtain ⟨rfl, rfl⟩ := e
    obtain ⟨σ2, e2, h2⟩ := ht i d hd
    refine ⟨σ2, e2, fun A h g s H Cc cl fp => ⟨fun _ s H Cc cl fp => (h2 A h g s H Cc cl fp).imp fun y G4 ⟨e3, e4⟩ => ⟨_, e4, g, rfl, ?_⟩, fun z => by cases z⟩⟩
    subst e3
    rw [List.take_add_one, hd, List.map_append]
    rfl
  · obtain ⟨rfl, rfl⟩ := e
    rw [List.take_length]
    exact q
theorem lc_filt (p : D → Bool) (f' : D → D) (hsz : ds.length < sizeLine) (hC : ∀ A h, G A = none → C (gset G A h))
    (ht : ∀ (i : Nat) (d : D), ds[i]? = some d → ∃ σ2, f d (wipe3 σ (own.map (·.2))) = some σ2 ∧ ∀ A h, G A = none → ∀ s H Cc cl fp, xT T O (bX X scope s H Cc cl fp) c σ2 (gset G A h) fun b G3 => b = p d ∧ G3 = gset G A h ∧
      (p d = true → ∀ s H Cc cl fp, xE T O (bX X scope s H Cc cl fp) elt σ2 (gset G A h) fun y G4 => y = f' d ∧ G4 = gset G A h)) (q : Q ((ds.filter p).map f') G) :
    LcBody T O X scope own f [c] elt σ Q ds C G := by
  refine ⟨hsz, fun i acc G' => G' = G ∧ acc = ((ds.take i).filter p).map f', ⟨rfl, by simp⟩, fun i acc G' A h _ e g => ?_, fun i d acc G' hd e => ?_, fun acc G' e => ?_⟩
  · obtain ⟨rfl, _⟩ := e
    exact hC A h g
  · obtain ⟨rfl, rfl⟩ := e
    obtain ⟨σ2, e2, h2⟩ := ht i d hd
    refine ⟨σ2, e2, fun A h g s H Cc cl fp => ?_⟩
    refine xT.imp (h2 A h g s H Cc cl fp) fun b G3 ⟨e3, e4, e5⟩ => ?_
    subst e3 e4
    refine ⟨fun hb s H Cc cl fp => (e5 hb s H Cc cl fp).imp fun y G4 ⟨e6, e7⟩ => ⟨_, e7, g, rfl, ?_⟩, fun hb => ⟨_, rfl, g, rfl, ?_⟩⟩
    · subst e6
      rw [List.take_add_one, hd, List.filter_append, List.map_append]
      simp [snoc, hb]
    · rw [List.take_add_one, hd, List.filter_append, List.map_append]
      simp [snoc, hb]
  · obtain ⟨rfl, rfl⟩ := e
    rw [List.take_length]
    exact q
end
section
variable {T : List (Addr × Str)} {O : Org} {X : Cx} {σ : St3} {G : Gm} {scope : Scope} {own : List (Str × Nat)} {vs1 : List Nat} {f f1 : D → St3 → Option St3} {elt tg1 iter1 : Expr} {Q : List D → Gm → Prop} {ds : List D} {C : Gm → Prop}
theorem lc2_map (it : D → List D) (f' : D → D → D) (hsz : (ds.flatMap it).length < sizeLine) (hC : ∀ A h, G A = none → C (gset G A h))
    (ht : ∀ (i : Nat) (d : D), ds[i]? = some d → ∃ σ2, f d (wipe3 σ (own.map (·.2))) = some σ2 ∧ ∀ A h, G A = none → ∀ s H Cc cl fp, xI T O (bX X scope s H Cc cl fp) tg1 iter1 σ2 (gset G A h) fun ds1 C1 G3 => ds1 = it d ∧ G3 = gset G A h ∧ (∀ h', C1 (gset G A h')) ∧
      ∀ (j : Nat) (d1 : D), (it d)[j]? = some d1 → ∃ σ3, f1 d1 (wipe3 σ2 vs1) = some σ3 ∧ ∀ h' s H Cc cl fp, xE T O (bX X scope s H Cc cl fp) elt σ3 (gset G A h') fun y G4 => y = f' d d1 ∧ G4 = gset G A h')
    (q : Q (ds.flatMap fun d => (it d).map (f' d)) G) : Lc2Body T O X scope own vs1 f f1 tg1 iter1 [] elt σ Q ds C G := by
  refine ⟨fun i acc G' => G' = G ∧ acc = (ds.take i).flatMap fun d => (it d).map (f' d), ⟨rfl, by simp⟩, fun i acc G' A h _ e g => ?_, fun i d acc G' hd e => ?_, fun acc G' e => ?_⟩
  · obtain ⟨rfl, _⟩ := e
    exact hC A h g
  · obtain ⟨rfl, rfl⟩ := e
    obtain ⟨σ2, e2, h2⟩ := ht i d hd
    refine ⟨σ2, e2, fun A h g s H Cc cl fp vs0 H0 p0 => wI.mono (h2 A h g s H Cc cl fp vs0 H0 p0) fun J H1 h1 => ?_⟩
    obtain ⟨ds1, C1, G3, r1, k1, y1, e3, e4, hC1, hb⟩ := h1
    subst e3 e4
    refine ⟨_, C1, _, r1, k1, y1, _, rfl, g, fun j acc1 G5 => G5 = G' ∧ acc1 = ((ds.take i).flatMap fun d => (it d).map (f' d)) ++ ((it d).take j).map (f' d), ⟨rfl, by simp⟩, fun j acc1 G5 h' _ e _ => ?_, fun j d1 acc1 G5 hd1 e => ?_, fun acc1 G5 e => ?_⟩
    · obtain ⟨rfl, _⟩ := e
      exact hC1 h'
    · obtain ⟨rfl, rfl⟩ := e
      obtain ⟨σ3, e5, h5⟩ := hb j d1 hd1
      refine ⟨?_, σ3, e5, fun h' g' s H Cc cl fp => ⟨fun _ s H Cc cl fp => (h5 h' s H Cc cl fp).imp fun y G4 ⟨e6, e7⟩ => ⟨_, e7, g, rfl, ?_⟩, fun z => by cases z⟩⟩
      · have hi : i < ds.length := (List.getElem?_eq_some_iff.mp hd).1
        have hj : j < (it d).length := (List.getElem?_eq_some_iff.mp hd1).1
        have e8 : (((ds.take i).flatMap fun d => (it d).map (f' d)) ++ ((it d).take j).map (f' d)).length ≤ ((ds.take (i + 1)).flatMap it).length := by
          rw [List.take_add_one, hd, List.flatMap_append, List.length_append, List.length_append, List.length_map, List.length_take]
          have e9 : ((ds.take i).flatMap fun d => (it d).map (f' d)).length = ((ds.take i).flatMap it).length := by
            rw [List.length_flatMap, List.length_flatMap]; simp
          rw [e9]
          have : ((some d).toList.flatMap it).length = (it d).length := by simp
          omega
        have e10 : ((ds.take (i + 1)).flatMap it).length ≤ (ds.flatMap it).length := by
          have z : ds.flatMap it = (ds.take (i + 1)).flatMap it ++ (ds.drop (i + 1)).flatMap it := by rw [← List.flatMap_append, List.take_append_drop]
          rw [z, List.length_append]; omega
        omega
      · subst e6
        rw [List.take_add_one, hd1, List.map_append, ← List.append_assoc]
        rfl
    · obtain ⟨rfl, rfl⟩ := e
      refine ⟨rfl, ?_⟩
      rw [List.take_length, List.take_add_one, hd, List.flatMap_append]
      simp
  · obtain ⟨rfl, rfl⟩ := e
    rw [List.take_length]
    exact q
end
end L3
end
section
/-! L3: own exception classes from the head's facts. -/
namespace L3
open PySem PySem.Spec PyProof.Rows L2
theorem szl16 : 16 ≤ sizeLine := by rw [szl]; decide
theorem len16 {α : Type} {p : Prop} {l : List α} (h : Nat.ble l.length 16 = true) (q : p) : l.length ≤ sizeLine ∧ p := ⟨Nat.le_trans (Nat.le_of_ble_eq_true h) szl16, q⟩
theorem excB_oc {K : PySem.W.Frag} {x : Str} {fs : List Str} (h : excB K x fs = true) : OexC K (He.ga K x) := by
  obtain ⟨h1, h⟩ := He.ba h
  obtain ⟨h2, h⟩ := He.ba h
  obtain ⟨h3, h⟩ := He.ba h
  obtain ⟨h4, h⟩ := He.ba h
  obtain ⟨h5, h⟩ := He.ba h
  exact ⟨ocB_ok h1, He.eqO_ok h2, of_decide_eq_true h3, of_decide_eq_true h4, h5⟩
theorem exc_two {P : Program} {w : World} {K : PySem.W.Frag} {mg : Str → Option Value} {base : Heap} {x f1 f2 qual : Str} {st : Stmt} {fd : FuncData} {q1 q2 q3 q4 q5 q6 q7 q8 : Pos} (h : excB K x [f1, f2] = true) (gm : mg x = some (.ref (He.ga K x)))
    (F : FunD K "__init__" qual (defArgs st) (defBody st) (defScope st) [] [] (He.ma K (He.ga K x) "__init__") fd) (S : FnScope ["self", f1, f2] ["self", f1, f2] (defScope st))
    (hst : defBody st = [.Assign [.Attribute (.Name "self" q1) f1 q2] (.Name f1 q3) q4, .Assign [.Attribute (.Name "self" q5) f2 q6] (.Name f2 q7) q8]) (v0 : Vis (defScope st) "self") (v1 : Vis (defScope st) f1) (v2 : Vis (defScope st) f2)
    (d1 : (f1 == ("__debug__" : Str)) = false) (c1 : (f1 == ("__classdict__" : Str)) = false) (d2 : (f2 == ("__debug__" : Str)) = false) (c2 : (f2 == ("__classdict__" : Str)) = false)
    (bd : Binds K fd ["self", f1, f2] []) : Exc3 P w K mg base x (He.ga K x) [f1, f2] :=
  excB_ok h gm (init_two F S (excB_oc h) ((excB_no h).1 f1 (by simp)) ((excB_no h).1 f2 (by simp)) hst v0 v1 v2 d1 c1 d2 c2) bd
theorem exc_one {P : Program} {w : World} {K : PySem.W.Frag} {mg : Str → Option Value} {base : Heap} {x f1 qual : Str} {st : Stmt} {fd : FuncData} {q1 q2 q3 q4 : Pos} (h : excB K x [f1] = true) (gm : mg x = some (.ref (He.ga K x)))
    (F : FunD K "__init__" qual (defArgs st) (defBody st) (defScope st) [] [] (He.ma K (He.ga K x) "__init__") fd) (S : FnScope ["self", f1] ["self", f1] (defScope st))
    (hst : defBody st = [.Assign [.Attribute (.Name "self" q1) f1 q2] (.Name f1 q3) q4]) (v0 : Vis (defScope st) "self") (v1 : Vis (defScope st) f1)
    (d1 : (f1 == ("__debug__" : Str)) = false) (c1 : (f1 == ("__classdict__" : Str)) = false)
    (bd : Binds K fd ["self", f1] []) : Exc3 P w K mg base x (He.ga K x) [f1] :=
  excB_ok h gm (init_one F S (excB_oc h) ((excB_no h).1 f1 (by simp)) hst v0 v1 d1 c1) bd
section
variable {T : List (Addr × Str)} {O : Org} {X : Cx} {k : Nat} {g : Bool} {W : W3T} {scope : Scope} {own : List (Str × Nat)} {f f1 : D → St3 → Option St3} {elt c tg1 iter1 : Expr} {σ : St3} {Q : List D → Gm → Prop} {ds : List D} {C : Gm → Prop} {G : Gm} {vs1 : List Nat}
theorem lc_mapX (cx : Ctx T O X k g W) (f' : D → D) (hsz : ds.length < sizeLine) (hC : ∀ A h, G A = none → C (gset G A h))
    (ht : ∀ (i : Nat) (d : D), ds[i]? = some d → ∃ σ2, f d (wipe3 σ (own.map (·.2))) = some σ2 ∧ ∀ A h, G A = none → ∀ s H Cc cl fp, Ctx T O (bX X scope s H Cc cl fp) k g noW → xE T O (bX X scope s H Cc cl fp) elt σ2 (gset G A h) fun y G4 => y = f' d ∧ G4 = gset G A h) (q : Q (ds.map f') G) :
    LcBody T O X scope own f [] elt σ Q ds C G :=
  lc_map f' hsz hC (fun i d hd => let ⟨σ2, h1, h2⟩ := ht i d hd; ⟨σ2, h1, fun A h hA s H Cc cl fp => h2 A h hA s H Cc cl fp (cx.blk scope s H Cc cl fp)⟩) q
theorem lc_filtX (cx : Ctx T O X k g W) (p : D → Bool) (f' : D → D) (hsz : ds.length < sizeLine) (hC : ∀ A h, G A = none → C (gset G A h))
    (ht : ∀ (i : Nat) (d : D), ds[i]? = some d → ∃ σ2, f d (wipe3 σ (own.map (·.2))) = some σ2 ∧ ∀ A h, G A = none → ∀ s H Cc cl fp, Ctx T O (bX X scope s H Cc cl fp) k g noW → xT T O (bX X scope s H Cc cl fp) c σ2 (gset G A h) fun b G3 => b = p d ∧ G3 = gset G A h ∧
      (p d = true → ∀ s H Cc cl fp, Ctx T O (bX X scope s H Cc cl fp) k g noW → xE T O (bX X scope s H Cc cl fp) elt σ2 (gset G A h) fun y G4 => y = f' d ∧ G4 = gset G A h)) (q : Q ((ds.filter p).map f') G) :
    LcBody T O X scope own f [c] elt σ Q ds C G :=
  lc_filt p f' hsz hC (fun i d hd => let ⟨σ2, h1, h2⟩ := ht i d hd; ⟨σ2, h1, fun A h hA s H Cc cl fp => (h2 A h hA s H Cc cl fp (cx.blk scope s H Cc cl fp)).imp fun b G3 ⟨e1, e2, e3⟩ => ⟨e1, e2, fun z s H Cc cl fp => e3 z s H Cc cl fp (cx.blk scope s H Cc cl fp)⟩⟩) q
theorem lc2_mapX (cx : Ctx T O X k g W) (it : D → List D) (f' : D → D → D) (hsz : (ds.flatMap it).length < sizeLine) (hC : ∀ A h, G A = none → C (gset G A h))
    (ht : ∀ (i : Nat) (d : D), ds[i]? = some d → ∃ σ2, f d (wipe3 σ (own.map (·.2))) = some σ2 ∧ ∀ A h, G A = none → ∀ s H Cc cl fp, Ctx T O (bX X scope s H Cc cl fp) k g noW → xI T O (bX X scope s H Cc cl fp) tg1 iter1 σ2 (gset G A h) fun ds1 C1 G3 => ds1 = it d ∧ G3 = gset G A h ∧ (∀ h', C1 (gset G A h')) ∧
      ∀ (j : Nat) (d1 : D), (it d)[j]? = some d1 → ∃ σ3, f1 d1 (wipe3 σ2 vs1) = some σ3 ∧ ∀ h' s H Cc cl fp, Ctx T O (bX X scope s H Cc cl fp) k g noW → xE T O (bX X scope s H Cc cl fp) elt σ3 (gset G A h') fun y G4 => y = f' d d1 ∧ G4 = gset G A h')
    (q : Q (ds.flatMap fun d => (it d).map (f' d)) G) : Lc2Body T O X scope own vs1 f f1 tg1 iter1 [] elt σ Q ds C G :=
  lc2_map it f' hsz hC (fun i d hd => let ⟨σ2, h1, h2⟩ := ht i d hd; ⟨σ2, h1, fun A h hA s H Cc cl fp vs0 H0 p0 => wI.mono (h2 A h hA s H Cc cl fp (cx.blk scope s H Cc cl fp) vs0 H0 p0) fun J H1 ⟨ds1, C1, G3, r1, k1, y1, e3, e4, hC1, hb⟩ => ⟨ds1, C1, G3, r1, k1, y1, e3, e4, hC1, fun j d1 hd1 => let ⟨σ3, e5, h5⟩ := hb j d1 hd1; ⟨σ3, e5, fun h' s H Cc cl fp => h5 h' s H Cc cl fp (cx.blk scope s H Cc cl fp)⟩⟩⟩) q
end
end L3
end
section
/-! L3: equality of data; blocks cut behind a statement. -/
namespace L3
open PySem PySem.Spec PyProof.Rows L2
mutual
/-- data whose texts are texts -/
def okL : D → Bool
  | .non => true
  | .bl _ => true
  | .int _ => true
  | .str x => PyData.strOk x
  | .tup xs => oksL xs
  | .lst xs => oksL xs
  | _ => false
def oksL : List D → Bool
  | [] => true
  | x :: xs => okL x && oksL xs
end
mutual
theorem okL_P : ∀ x : D, okL x = true → okP x = true
  | .non, _ => rfl
  | .bl _, _ => rfl
  | .int _, _ => rfl
  | .str _, _ => rfl
  | .tup xs, h => oksL_P xs h
  | .lst xs, h => oksL_P xs h
  | .dK _, h => by cases h
  | .dT _, h => by cases h
  | .lam _, h => by cases h
  | .raw _, h => by cases h
theorem oksL_P : ∀ xs : List D, oksL xs = true → oksP xs = true
  | [], _ => rfl
  | x :: xs, h => by
    obtain ⟨a, b⟩ := Bool.and_eq_true_iff.mp (show (okL x && oksL xs) = true from h)
    show (okP x && oksP xs) = true
    rw [okL_P x a, oksL_P xs b]; rfl
end
mutual
theorem lay_of : ∀ x : D, okL x = true → (py x).canLay0 = true ∧ (py x).depth = dpD x
  | .non, _ => ⟨rfl, rfl⟩
  | .bl _, _ => ⟨rfl, rfl⟩
  | .int _, _ => ⟨rfl, rfl⟩
  | .str _, h => ⟨h, rfl⟩
  | .tup xs, h => by
    obtain ⟨h1, h2⟩ := lays_of xs h
    exact ⟨by show PyData.canLay0 (.tuple _) = true; rw [PyData.canLay0]; exact h1, by show PyData.depth (.tuple _) = _; rw [PyData.depth, h2]; rfl⟩
  | .lst xs, h => by
    obtain ⟨h1, h2⟩ := lays_of xs h
    exact ⟨by show PyData.canLay0 (.list _) = true; rw [PyData.canLay0]; exact h1, by show PyData.depth (.list _) = _; rw [PyData.depth, h2]; rfl⟩
  | .dK _, h => by cases h
  | .dT _, h => by cases h
  | .lam _, h => by cases h
  | .raw _, h => by cases h
theorem lays_of : ∀ xs : List D, oksL xs = true → PyData.canLayAll0 (pys xs) = true ∧ PyData.depthAll (pys xs) = dpsD xs
  | [], _ => ⟨rfl, rfl⟩
  | x :: xs, h => by
    obtain ⟨a, b⟩ := Bool.and_eq_true_iff.mp (show (okL x && oksL xs) = true from h)
    obtain ⟨h1, h2⟩ := lay_of x a
    obtain ⟨h3, h4⟩ := lays_of xs b
    exact ⟨by show PyData.canLayAll0 (_ :: _) = true; rw [PyData.canLayAll0, h1, h3]; rfl, by show PyData.depthAll (_ :: _) = _; rw [PyData.depthAll, h2, h4]; rfl⟩
end
theorem shaped_of {x : D} (h : okL x = true) (hd : dpD x ≤ 64) : SeqAt.shaped (py x) = true := by
  obtain ⟨a, b⟩ := lay_of x h
  unfold SeqAt.shaped
  rw [a, b]
  exact decide_eq_true hd
def eqD (x y : D) : Bool := PyData.eqv (py x) (py y)
theorem eqD_refl {x : D} (h : okL x = true) : eqD x x = true := SeqAt.eqv_refl _ (lay_of x h).1
theorem oksP_append {xs ys : List D} : oksP (xs ++ ys) = (oksP xs && oksP ys) := by
  induction xs with
  | nil => rfl
  | cons x xs ih => show (okP x && oksP (xs ++ ys)) = ((okP x && oksP xs) && oksP ys); rw [ih, Bool.and_assoc]
theorem oksP_of {xs : List D} (h : ∀ x ∈ xs, okP x = true) : oksP xs = true := by
  induction xs with
  | nil => rfl
  | cons x xs ih => show (okP x && oksP xs) = true; rw [h x (List.mem_cons_self ..), ih fun y hy => h y (List.mem_cons_of_mem _ hy)]; rfl
theorem oksP_all : ∀ {ds : List D}, oksP ds = true → ∀ d ∈ ds, okP d = true
  | [], _, _, h => by cases h
  | x :: xs, h, d, hd => by
    obtain ⟨h1, h2⟩ := Bool.and_eq_true_iff.mp (show (okP x && oksP xs) = true from h)
    rcases List.mem_cons.mp hd with rfl | hd
    · exact h1
    · exact oksP_all h2 d hd
theorem oksL_append {xs ys : List D} : oksL (xs ++ ys) = (oksL xs && oksL ys) := by
  induction xs with
  | nil => rfl
  | cons x xs ih => show (okL x && oksL (xs ++ ys)) = ((okL x && oksL xs) && oksL ys); rw [ih, Bool.and_assoc]
theorem oksL_of {xs : List D} (h : ∀ x ∈ xs, okL x = true) : oksL xs = true := by
  induction xs with
  | nil => rfl
  | cons x xs ih => show (okL x && oksL xs) = true; rw [h x (List.mem_cons_self ..), ih fun y hy => h y (List.mem_cons_of_mem _ hy)]; rfl
theorem oksL_all : ∀ {ds : List D}, oksL ds = true → ∀ d ∈ ds, okL d = true
  | [], _, _, h => by cases h
  | x :: xs, h, d, hd => by
    obtain ⟨h1, h2⟩ := Bool.and_eq_true_iff.mp (show (okL x && oksL xs) = true from h)
    rcases List.mem_cons.mp hd with rfl | hd
    · exact h1
    · exact oksL_all h2 d hd
theorem dpsD_le {n : Nat} : ∀ {ds : List D}, (∀ d ∈ ds, dpD d ≤ n) → dpsD ds ≤ n
  | [], _ => Nat.zero_le _
  | x :: xs, h => Nat.max_le.mpr ⟨h x (List.mem_cons_self ..), dpsD_le fun d hd => h d (List.mem_cons_of_mem _ hd)⟩
theorem dps_mem {ds : List D} {d : D} (h : d ∈ ds) : dpD d ≤ dpsD ds := by
  induction ds with
  | nil => cases h
  | cons x xs ih =>
    show _ ≤ max (dpD x) (dpsD xs)
    rcases List.mem_cons.mp h with rfl | h
    · exact Nat.le_max_left ..
    · exact Nat.le_trans (ih h) (Nat.le_max_right ..)
theorem oksP_map {α : Type} {f : α → D} {xs : List α} (h : ∀ x ∈ xs, okP (f x) = true) : oksP (xs.map f) = true := oksP_of fun y hy => by
  obtain ⟨x, hx, rfl⟩ := List.mem_map.mp hy
  exact h x hx
theorem oksL_map {α : Type} {f : α → D} {xs : List α} (h : ∀ x ∈ xs, okL (f x) = true) : oksL (xs.map f) = true := oksL_of fun y hy => by
  obtain ⟨x, hx, rfl⟩ := List.mem_map.mp hy
  exact h x hx
theorem dpsD_map {α : Type} {n : Nat} {f : α → D} {xs : List α} (h : ∀ x ∈ xs, dpD (f x) ≤ n) : dpsD (xs.map f) ≤ n := dpsD_le fun y hy => by
  obtain ⟨x, hx, rfl⟩ := List.mem_map.mp hy
  exact h x hx
def datL (G : Gm) (x : D) (y : D) : Prop := okL y = true ∧ (x = y ∨ ∃ p ds, x = .raw (.ref p) ∧ G p = some (.lst ds) ∧ y = .lst ds)
theorem datL.P {G : Gm} {x y : D} (h : datL G x y) : datD G x y := ⟨okL_P _ h.1, h.2⟩
section
variable {K : PySem.W.Frag} {T : List (Addr × Str)} {G : Gm} {Q : D → Gm → Prop}
theorem e_dat {x y x' y' : D} (q : Q (.bl (eqD x' y')) G) (hx : datL G x x') (hy : datL G y y') (dx : dpD x' ≤ 64) (dy : dpD y' ≤ 64) : O3 K T (rEqB K) x y G Q := e_data hx.P hy.P (shaped_of hx.1 dx) (shaped_of hy.1 dy) q
theorem n_dat {x y x' y' : D} (q : Q (.bl (!eqD x' y')) G) (hx : datL G x x') (hy : datL G y y') (dx : dpD x' ≤ 64) (dy : dpD y' ≤ 64) : O3 K T (rNeB K) x y G Q := n_data hx.P hy.P (shaped_of hx.1 dx) (shaped_of hy.1 dy) q
theorem dat_self {x : D} (h : okL x = true) : datL G x x := ⟨h, .inl rfl⟩
theorem dat_own {p : Addr} {ds : List D} (h : oksL ds = true) (hp : G p = some (.lst ds)) : datL G (.raw (.ref p)) (.lst ds) := ⟨h, .inr ⟨p, ds, rfl, hp, rfl⟩⟩
end
theorem eqD_nil {ds : List D} : eqD (.lst ds) (.lst []) = ds.isEmpty := by
  cases ds with
  | nil => rfl
  | cons x xs => rfl
theorem eqD_nilT {ds : List D} : eqD (.tup ds) (.tup []) = ds.isEmpty := by
  cases ds with
  | nil => rfl
  | cons x xs => rfl
section
variable {T : List (Addr × Str)} {O : Org} {X : Cx} {st : Stmt} {sts : List Stmt} {D3 : Ends3} {σ : St3} {G : Gm}
/-- what R says behind a statement is all that the rest gets -/
theorem b_cut (R : St3 → Gm → Prop) (h : xS T O X st { D3 with nx := R } σ G) (k : ∀ σ1 G1, R σ1 G1 → xB T O X sts D3 σ1 G1) : xB T O X (st :: sts) D3 σ G :=
  b_cons (xS.imp h ⟨k, fun _ _ z => z, fun _ _ z => z, fun _ _ z => z⟩)
theorem x_cut {e : Expr} {Q : D → Gm → Prop} (R : D → Gm → Prop) (h : xE T O X e σ G R) (k : ∀ d G1, R d G1 → Q d G1) : xE T O X e σ G Q := h.imp k
theorem t_cut {e : Expr} {Q : Bool → Gm → Prop} (R : Bool → Gm → Prop) (h : xT T O X e σ G R) (k : ∀ d G1, R d G1 → Q d G1) : xT T O X e σ G Q := h.imp k
end
theorem cmul_fmod {x k y : Int} (h0 : 0 < k) (h1 : k ≤ 2 ^ 64) : CMul (x.fmod k) y := by
  have a := Int.fmod_nonneg_of_pos x h0
  have b := Int.fmod_lt_of_pos x h0
  exact .inl ⟨by omega, by omega⟩
theorem ex_bl {b : Bool} {P : Bool → Prop} (h : P b) : ∃ k, D.bl b = .bl k ∧ P k := ⟨b, rfl, h⟩
theorem ex_int {b : Int} {P : Int → Prop} (h : P b) : ∃ k, D.int b = .int k ∧ P k := ⟨b, rfl, h⟩
theorem ex_str {b : Str} {P : Str → Prop} (h : P b) : ∃ k, D.str b = .str k ∧ P k := ⟨b, rfl, h⟩
theorem ex_tup {b : List D} {P : List D → Prop} (h : P b) : ∃ k, D.tup b = .tup k ∧ P k := ⟨b, rfl, h⟩
theorem br_f {A B : Prop} (h : B) : (false = true → A) ∧ (false = false → B) := ⟨(fun z => nomatch z), fun _ => h⟩
theorem br_t {A B : Prop} (h : A) : (true = true → A) ∧ (true = false → B) := ⟨fun _ => h, fun z => nomatch z⟩
theorem br_f' {A B : Prop} (h : B) : (false = false → B) ∧ (false = true → A) := ⟨fun _ => h, fun z => nomatch z⟩
theorem br_t' {A B : Prop} (h : A) : (true = false → B) ∧ (true = true → A) := ⟨(fun z => nomatch z), fun _ => h⟩
theorem br_nt {A B : Prop} (h : B) : ((!true) = true → A) ∧ ((!true) = false → B) := ⟨(fun z => nomatch z), fun _ => h⟩
theorem br_nf {A B : Prop} (h : A) : ((!false) = true → A) ∧ ((!false) = false → B) := ⟨fun _ => h, (fun z => nomatch z)⟩
/-- a branch by a decided fact -/
theorem br_d {p : Prop} [Decidable p] {A B : Prop} (h : p → A) (k : ¬ p → B) : (decide p = true → A) ∧ (decide p = false → B) := ⟨fun e => h (of_decide_eq_true e), fun e => k (of_decide_eq_false e)⟩
theorem br_d' {p : Prop} [Decidable p] {A B : Prop} (h : p → A) (k : ¬ p → B) : (decide p = false → B) ∧ (decide p = true → A) := ⟨fun e => k (of_decide_eq_false e), fun e => h (of_decide_eq_true e)⟩
theorem br_nd {p : Prop} [Decidable p] {A B : Prop} (h : ¬ p → A) (k : p → B) : ((!decide p) = true → A) ∧ ((!decide p) = false → B) := ⟨fun e => h (of_decide_eq_false (by simpa using e)), fun e => k (of_decide_eq_true (by simpa using e))⟩
end L3
end
section
/-! L3: comprehensions by an invariant; lists unpacked; defs as values, called by a name. -/
namespace L3
open PySem PySem.Spec PyProof.Rows L2
section
variable {T : List (Addr × Str)} {O : Org} {X : Cx} {k : Nat} {g : Bool} {W : W3T} {scope : Scope} {own : List (Str × Nat)} {f : D → St3 → Option St3} {elt c : Expr} {σ : St3} {Q : List D → Gm → Prop} {ds : List D} {C : Gm → Prop} {G : Gm}
/-- a comprehension by an invariant of (turn, items so far, what is owned) -/
theorem lc_invX (cx : Ctx T O X k g W) (P : Nat → List D → Gm → Prop) (hsz : ds.length < sizeLine) (h0 : P 0 [] G) (hC : ∀ i acc G' A h, P i acc G' → G' A = none → C (gset G' A h))
    (ht : ∀ (i : Nat) (d : D) acc G', ds[i]? = some d → P i acc G' → ∃ σ2, f d (wipe3 σ (own.map (·.2))) = some σ2 ∧ ∀ A h, G' A = none → ∀ s H Cc cl fp, Ctx T O (bX X scope s H Cc cl fp) k g noW → xE T O (bX X scope s H Cc cl fp) elt σ2 (gset G' A h) fun y G4 => ∃ G5, G4 = gset G5 A h ∧ G5 A = none ∧ P (i + 1) (acc ++ [y]) G5)
    (q : ∀ acc G', P ds.length acc G' → Q acc G') : LcBody T O X scope own f [] elt σ Q ds C G := by
  refine ⟨hsz, P, h0, fun i acc G' A h _ hp hA => hC i acc G' A h hp hA, fun i d acc G' hd hp => ?_, q⟩
  obtain ⟨σ2, e2, h2⟩ := ht i d acc G' hd hp
  exact ⟨σ2, e2, fun A h hA s H Cc cl fp => ⟨fun _ s H Cc cl fp => h2 A h hA s H Cc cl fp (cx.blk scope s H Cc cl fp), fun z => nomatch z⟩⟩
end
section
variable {T : List (Addr × Str)} {O : Org} {X : Cx} {σ : St3} {G : Gm} {e : Expr} {es : List Expr} {pos p : Pos} {k j : Nat} {g g' : Bool} {W : W3T} {x y : Str} {ps : List Str} {sp : Sp3} {Q : D → Gm → Prop}
/-- (a, b, ..) = a list of that length -/
theorem g_unl {tgs : List Expr} {kk : Nat} {tpos : Pos} {d : D} {ds : List D} {Q : St3 → Gm → Prop} (hc : X.calm = true) (hd : seqL G d ds) (h : xGs T O X tgs ds σ G Q) (hn : (assignEach tgs X.env).length = ds.length := by rfl)
    (hst : (assignEach tgs X.env).findIdx? (·.1) = none := by rfl) : xG T O X (.Tuple tgs kk tpos) d σ G Q := fun v vs H p dv => by
  obtain ⟨a, ws, rfl, hs, dws⟩ := seqL_dv p.r hd dv
  refine wG_of (pg_unl (n := ds.length) hc cGs hn hst) ⟨_, _, rfl, hs, dws.length, ?_⟩
  exact h _ vs H p dws
/-- a def as a value -/
theorem r_defv {f : Addr} (hm : X.mg x = some (.ref f)) (hg : Gl X x) (q : Q (.raw (.ref f)) G) (hd : (x == ("__debug__" : Str)) = false := by decide) : xE T O X (.Name x pos) σ G Q := fun vs H p =>
  wE_of (pe_glob (v := .ref f) hg hm rfl hd) (show upE X.K T G H Q _ H from ⟨_, G, p.r, .refl _ _, .raw _, q⟩)
/-- y(e, ..), y a name that holds the def x -/
theorem r_callV (i : Nat) {f : Addr} (c : Ctx T O X k g W) (F : Def3 X.prog X.w X.K X.mg X.base T j g' x ps sp) (hm : X.mg x = some (.ref f)) (hj : j ≤ k) (hgg : g' = true → g = true)
    (hN : X.N[i]? = some y ∧ (y == ("__debug__" : Str)) = false ∧ (y == ("__classdict__" : Str)) = false) (hv : Vis X.env.scope y) (hσ : σ[i]? = some (some (.raw (.ref f))))
    (h : xA T O X (e :: es) σ G fun ds G1 => sp ds G1 Q (fun cls fs G2 => W cls fs σ G2))
    (he : starEach (e :: es) X.env = (false, eval e X.env) :: starEach es X.env := by rfl) (hpl : (backTo pos (starEach es X.env)).any (·.1) = false := by rfl) :
    xE T O X (.Call (.Name y p) (e :: es) [] pos) σ G Q := fun vs H pr pins s I => by
  obtain ⟨v, ev, dv⟩ := pr.d.get hσ
  refine wpAny_Call_Name_kw (thn ((pe_var (pos := p) (i := i) hN.1 hv hN.2.1 hN.2.2).run pins s vs H (fun u H1 => u = v ∧ H1 = H) I ⟨v, ev, rfl, rfl⟩) fun u s1 ⟨v1, H1, I1, r1, q1⟩ => ?_)
  obtain ⟨e1, e2⟩ := q1
  subst e1
  rw [e2] at I1
  cases dv
  obtain rfl : u = Value.ref f := r1
  obtain ⟨f', fd, F, hm', hk, hb⟩ := F.ex
  have ef : f' = f := by rw [hm'] at hm; cases hm; rfl
  subst ef
  refine PySem.W.callWith_K (h₀ := X.base) I1.ok.mod.kin hk (thn (h.run pr (Q := fun xs H1 => ∃ ds G1, Pre X.K T O σ G1 vs H1 ∧ Keep G H G1 H1 ∧ DVs X.K G1 H1 xs ds ∧ sp ds G1 Q (fun cls fs G2 => W cls fs σ G2)) (fun v H1 d G1 p1 k1 dv q => ⟨d, G1, p1, k1, dv, q⟩) pos pins s1 I1) fun us s2 h2 => ?_) he hpl
  obtain ⟨xs, H2, I2, r2, ds, G1, p2, k2, dvs, q⟩ := h2
  exact ⟨I2.kIn, runG c F hj hgg hb I2 p2 r2 dvs k2 q⟩
end
theorem fresh_ne {G : Gm} {p q : Addr} {c : Cell} (h : gset G p c q = none) : q ≠ p ∧ G q = none := by
  have ne : q ≠ p := fun z => by rw [z, gset_same] at h; cases h
  exact ⟨ne, by rw [gset_ne ne] at h; exact h⟩
theorem nodup_fst {α β : Type} {l : List (α × β)} (h : (l.map (·.1)).Nodup) {a : α} {b : β} (m : (a, b) ∈ l) : ∀ p ∈ l, p.1 = a → p.2 = b := by
  induction l with
  | nil => cases m
  | cons x xs ih =>
    rw [List.map_cons, List.nodup_cons] at h
    intro p hp e
    rcases List.mem_cons.mp m with m1 | m1
    · rcases List.mem_cons.mp hp with hp | hp
      · subst hp; subst m1; rfl
      · exact absurd (show x.1 ∈ xs.map (·.1) from List.mem_map.mpr ⟨p, hp, by rw [e, ← m1]⟩) h.1
    · rcases List.mem_cons.mp hp with hp | hp
      · subst hp
        exact absurd (show p.1 ∈ xs.map (·.1) from List.mem_map.mpr ⟨(a, b), m1, e.symm⟩) h.1
      · exact ih h.2 m1 p hp e
section
variable {κ : Type} [DecidableEq κ]
theorem lookD_mem : ∀ {es : List (κ × D)} {k : κ} {d : D}, (es.map (·.1)).Nodup → (k, d) ∈ es → lookD es k = some d
  | [], _, _, _, h => by cases h
  | x :: xs, k, d, nd, h => by
    rw [List.map_cons, List.nodup_cons] at nd
    unfold lookD
    rw [List.find?_cons]
    rcases List.mem_cons.mp h with h1 | h1
    · subst h1
      rw [show decide ((k, d).1 = k) = true from decide_eq_true rfl]; rfl
    · have ne : x.1 ≠ k := fun z => nd.1 (show x.1 ∈ xs.map (·.1) from List.mem_map.mpr ⟨(k, d), h1, z.symm⟩)
      rw [decide_eq_false ne]
      exact lookD_mem nd.2 h1
theorem lookD_none {es : List (κ × D)} {k : κ} (h : k ∉ es.map (·.1)) : lookD es k = none := by
  unfold lookD
  rw [List.find?_eq_none.mpr]
  · rfl
  · intro x hx
    rw [decide_eq_true_eq]
    exact fun z => h (List.mem_map.mpr ⟨x, hx, z⟩)
theorem putD_new {l : List (κ × D)} {k : κ} {d : D} (h : k ∉ l.map (·.1)) : putD l k d = l ++ [(k, d)] := by
  unfold putD
  rw [if_neg]
  intro z
  obtain ⟨x, hx, q⟩ := List.any_eq_true.mp z
  exact h (List.mem_map.mpr ⟨x, hx, of_decide_eq_true q⟩)
theorem mergeD_app : ∀ {m l : List (κ × D)}, ((l ++ m).map (·.1)).Nodup → mergeD l m = l ++ m
  | [], l, _ => by rw [List.append_nil]; rfl
  | x :: m, l, h => by
    have e : putD l x.1 x.2 = l ++ [x] := putD_new (by
      rw [List.map_append, List.nodup_append] at h
      exact fun z => h.2.2 _ z _ (List.mem_cons_self ..) rfl)
    show mergeD (putD l x.1 x.2) m = _
    rw [e, mergeD_app (by rw [List.append_assoc]; exact h), List.append_assoc]
    rfl
theorem mergeD_nil {m : List (κ × D)} (h : (m.map (·.1)).Nodup) : mergeD [] m = m := mergeD_app (l := []) h
end
theorem nodup_map_on {α β : Type} {f : α → β} {l : List α} (h : ∀ x ∈ l, ∀ y ∈ l, f x = f y → x = y) (hl : l.Nodup) : (l.map f).Nodup :=
  List.pairwise_map.mpr (List.Pairwise.imp_of_mem (fun ha hb ne e => ne (h _ ha _ hb e)) hl)
end L3
end
section
/-! L3: promises weakened; what may be called by a name: a def or a lambda. -/
namespace L3
open PySem PySem.Spec PyProof.Rows L2
section
variable {P : Program} {w : World} {K : PySem.W.Frag} {mg : Str → Option Value} {base : Heap} {T : List (Addr × Str)} {k : Nat} {g : Bool} {x : Str} {ps : List Str} {sp sp' : Sp3}
theorem lift_imp (h : ∀ ds G Q E, sp' ds G Q E → sp ds G Q E) {vs : List V} {H : Hp} {Q : VK} {E : XK} (l : lift K T sp' vs H Q E) : lift K T sp vs H Q E := by
  obtain ⟨ds, G, Q3, E3, r, d, s, q, e⟩ := l
  exact ⟨ds, G, Q3, E3, r, d, h _ _ _ _ s, q, e⟩
theorem Def3.weak (F : Def3 P w K mg base T k g x ps sp) (h : ∀ ds G Q E, sp' ds G Q E → sp ds G Q E) : Def3 P w K mg base T k g x ps sp' := by
  obtain ⟨f, fd, F, a, b, c⟩ := F.ex
  exact ⟨f, fd, ⟨fun vs H Q E l => F.len vs H Q E (lift_imp h l), fun A outer s H args us vs Q E r gd e0 b' v l => F.run A outer s H args us vs Q E r gd e0 b' v (lift_imp h l)⟩, a, b, c⟩
/-- a lambda's promise -/
structure LamOk (P : Program) (w : World) (K : PySem.W.Frag) (mg : Str → Option Value) (base : Heap) (T : List (Addr × Str)) (k : Nat) (L : Lam) (N ps : List Str) (sp : Sp3) : Prop where
  sc : FnScope N ps L.scope
  hb : ∀ (pm cv ctv : Value) (us : List Value), us.length = ps.length → bindArgs (PySem.W.kla_fn "<lambda>" L.q L.params L.body L.scope [] pm cv ctv) ⟨us, []⟩ = pure (ps.zip us)
  len : ∀ ds G Q E, sp ds G Q E → ds.length = ps.length
  run : ∀ ds G Q E, sp ds G Q E → ∀ (f d : Addr) (A : Around) (outer : List Env) (s : Shared) (H : Hp) (Ex : XK) (O' : Org), Ctx T O' (cxOf (L2.CX P w) P w K mg base N L.q L.scope f (.ref d) A outer s H Ex) k false (fun cls fs _ G' => E cls fs G') →
    xE T O' (cxOf (L2.CX P w) P w K mg base N L.q L.scope f (.ref d) A outer s H Ex) L.body (start3 N ds) G Q
/-- a thing that is called so -/
inductive Callee (P : Program) (w : World) (K : PySem.W.Frag) (mg : Str → Option Value) (base : Heap) (T : List (Addr × Str)) (k : Nat) (sp : Sp3) : D → Prop
  | fn {j : Nat} {x : Str} {ps : List Str} {f : Addr} : Def3 P w K mg base T j false x ps sp → mg x = some (.ref f) → j ≤ k → Callee P w K mg base T k sp (.raw (.ref f))
  | lam {j : Nat} {L : Lam} {N ps : List Str} : LamOk P w K mg base T j L N ps sp → j + 1 ≤ k → Callee P w K mg base T k sp (.lam L)
end
section
variable {T : List (Addr × Str)} {O : Org} {X : Cx} {σ : St3} {G : Gm} {e : Expr} {es : List Expr} {pos p : Pos} {k : Nat} {g : Bool} {W : W3T} {y : Str} {sp : Sp3} {d : D} {Q : D → Gm → Prop}
theorem Ctx.less {k j : Nat} (c : Ctx T O X k g W) (h : j ≤ k) : Ctx T O X j g W := { c with rm := c.rm.mono h }
/-- y(e, ..), y a name that holds what may be called -/
theorem r_callD (i : Nat) (c : Ctx T O X k g W) (F : Callee X.prog X.w X.K X.mg X.base T k sp d)
    (hN : X.N[i]? = some y ∧ (y == ("__debug__" : Str)) = false ∧ (y == ("__classdict__" : Str)) = false) (hv : Vis X.env.scope y) (hσ : σ[i]? = some (some d))
    (h : xA T O X (e :: es) σ G fun ds G1 => sp ds G1 Q (fun cls fs G2 => W cls fs σ G2))
    (he : starEach (e :: es) X.env = (false, eval e X.env) :: starEach es X.env := by rfl) (hpl : (backTo pos (starEach es X.env)).any (·.1) = false := by rfl) :
    xE T O X (.Call (.Name y p) (e :: es) [] pos) σ G Q := by
  cases F with
  | fn F hm hj => exact r_callV i c F hm hj (fun z => nomatch z) hN hv hσ h he hpl
  | lam F hj =>
    refine r_callLam i (c.less hj) F.sc F.hb hN hv hσ (h.imp fun ds G1 q => ⟨F.len _ _ _ _ q, fun f d A outer s H E O' cx => ?_⟩) he hpl
    exact F.run ds G1 Q _ q f d A outer s H E O' cx
end
/-! ### what repr shows -/
theorem oksD_of {xs : List D} (h : ∀ x ∈ xs, okD x = true) : oksD xs = true := by
  induction xs with
  | nil => rfl
  | cons x xs ih => show (okD x && oksD xs) = true; rw [h x (List.mem_cons_self ..), ih fun y hy => h y (List.mem_cons_of_mem _ hy)]; rfl
theorem wszs_le {m : Nat} {xs : List D} (h : ∀ x ∈ xs, wsz x ≤ m) : wszs xs ≤ xs.length * (m + 2) := by
  induction xs with
  | nil => exact Nat.zero_le _
  | cons x xs ih =>
    have a := h x (List.mem_cons_self ..)
    have b := ih fun y hy => h y (List.mem_cons_of_mem _ hy)
    show wsz x + 2 + wszs xs ≤ (xs.length + 1) * (m + 2)
    rw [Nat.add_mul]
    omega
/-- x is shown by repr in at most so many signs, so deep -/
structure Rep (m k : Nat) (x : D) : Prop where
  ok : okD x = true
  sz : wsz x ≤ m
  dp : dpD x ≤ k
theorem Rep.mono {m k m' k' : Nat} {x : D} (h : Rep m k x) (a : m ≤ m') (b : k ≤ k') : Rep m' k' x := ⟨h.ok, Nat.le_trans h.sz a, Nat.le_trans h.dp b⟩
theorem Rep.tup {m k M : Nat} {xs : List D} (h : ∀ x ∈ xs, Rep m k x) (hM : xs.length * (m + 2) + 3 ≤ M) : Rep M (k + 1) (.tup xs) :=
  ⟨oksD_of fun x hx => (h x hx).ok, Nat.le_trans (Nat.add_le_add_right (wszs_le fun x hx => (h x hx).sz) 3) hM, Nat.succ_le_succ (dpsD_le fun x hx => (h x hx).dp)⟩
theorem Rep.lst {m k M : Nat} {xs : List D} (h : ∀ x ∈ xs, Rep m k x) (hM : xs.length * (m + 2) + 3 ≤ M) : Rep M (k + 1) (.lst xs) :=
  ⟨oksD_of fun x hx => (h x hx).ok, Nat.le_trans (Nat.add_le_add_right (wszs_le fun x hx => (h x hx).sz) 3) hM, Nat.succ_le_succ (dpsD_le fun x hx => (h x hx).dp)⟩
theorem Rep.int {i : Int} {m : Nat} (h : i.natAbs < 2 ^ m) (hm : m ≤ 1900) : Rep (m + 3) 0 (.int i) := by
  have l : i.natAbs.log2 ≤ m := by
    by_cases z : i.natAbs = 0
    · rw [z]; exact Nat.zero_le _
    · exact Nat.le_of_lt ((Nat.log2_lt z).mpr h)
  exact ⟨decide_eq_true (by omega), by show i.natAbs.log2 + 3 ≤ _; omega, Nat.le_refl _⟩
theorem Rep.str {x : Str} {m : Nat} (h : okD (.str x) = true) (hm : x.length ≤ m) : Rep (10 * m + 2) 0 (.str x) := ⟨h, by show 10 * x.length + 2 ≤ _; omega, Nat.le_refl _⟩
theorem Rep.bl {b : Bool} : Rep 5 0 (.bl b) := ⟨rfl, Nat.le_refl 5, Nat.le_refl _⟩
theorem Rep.non : Rep 4 0 .non := ⟨rfl, Nat.le_refl 4, Nat.le_refl _⟩
theorem rep_nil {m k : Nat} : ∀ x ∈ ([] : List D), Rep m k x := fun _ h => nomatch h
theorem rep_cons {m k : Nat} {x : D} {xs : List D} (h : Rep m k x) (hs : ∀ y ∈ xs, Rep m k y) : ∀ y ∈ x :: xs, Rep m k y := fun y hy => by
  rcases List.mem_cons.mp hy with rfl | hy
  · exact h
  · exact hs y hy
theorem rep_map {α : Type} {m k : Nat} {f : α → D} {xs : List α} (h : ∀ x ∈ xs, Rep m k (f x)) : ∀ y ∈ xs.map f, Rep m k y := fun y hy => by
  obtain ⟨x, hx, rfl⟩ := List.mem_map.mp hy
  exact h x hx
theorem c_rep {K : PySem.W.Frag} {T : List (Addr × Str)} {G : Gm} {Q : D → Gm → Prop} {x : D} {m k : Nat} (h : Rep m k x) (q : Q (.str (py x).shown) G) (hm : m ≤ 16000000 := by decide) (hk : k ≤ 100 := by decide) : C3 K T (rRepr K) [x] G Q :=
  c_repr q h.ok (Nat.le_trans h.sz hm) (Nat.le_trans h.dp hk)
end L3
end
section
set_option maxHeartbeats 0
namespace K58
open PySem PySem.Spec PyProof.Rows L2 L3
def top (i : Nat) : Stmt := PySem.Challenge.pw_raresteps_k58_whole_crowds.main.body.getD i (.Pass ⟨0, 0, 0, 0⟩)
abbrev s_is_whole : Stmt := top 5
abbrev s_is_count : Stmt := top 6
abbrev s_web_in : Stmt := top 8
abbrev s_need_crowd : Stmt := top 10
abbrev s_gain_in : Stmt := top 11
abbrev s_gain : Stmt := top 12
abbrev s_numbered : Stmt := top 13
abbrev s_crowd : Stmt := top 14
abbrev s_crowd_levels : Stmt := top 15
abbrev s_crowd_heights : Stmt := top 16
abbrev s_crowd_shares : Stmt := top 17
abbrev s_against : Stmt := top 18
abbrev s_conventions : Stmt := top 19
abbrev s__law_pen : Stmt := top 21
abbrev s__law_draw : Stmt := top 22
abbrev s__law_pick : Stmt := top 23
abbrev s__law_met : Stmt := top 24
abbrev s__law_gain : Stmt := top 25
abbrev s__law_state : Stmt := top 26
abbrev s__law_due : Stmt := top 27
abbrev s__law_is_balanced : Stmt := top 28
abbrev s__law_pay : Stmt := top 29
abbrev s__law_refused_right : Stmt := top 30
abbrev s_law : Stmt := top 31
abbrev i_BadNumber : Stmt := inClass (top 3) 0
abbrev i_NotKept : Stmt := inClass (top 4) 0
theorem sc_is_whole : FnScope ["value"] ["value"] (defScope s_is_whole) := ⟨rfl, rfl, rfl, by decide +kernel, rfl, by decide +kernel, by decide +kernel⟩
theorem sc_is_count : FnScope ["value"] ["value"] (defScope s_is_count) := ⟨rfl, rfl, rfl, by decide +kernel, rfl, by decide +kernel, by decide +kernel⟩
theorem sc_web_in : FnScope ["names", "rates", "pairs", "pair"] ["names", "rates"] (defScope s_web_in) := ⟨rfl, rfl, rfl, by decide +kernel, rfl, by decide +kernel, by decide +kernel⟩
theorem sc_need_crowd : FnScope ["pay", "many", "row", "item"] ["pay", "many"] (defScope s_need_crowd) := ⟨rfl, rfl, rfl, by decide +kernel, rfl, by decide +kernel, by decide +kernel⟩
theorem sc_gain_in : FnScope ["pay", "many", "m"] ["pay", "many", "m"] (defScope s_gain_in) := ⟨rfl, rfl, rfl, by decide +kernel, rfl, by decide +kernel, by decide +kernel⟩
theorem sc_gain : FnScope ["pay", "many", "m"] ["pay", "many", "m"] (defScope s_gain) := ⟨rfl, rfl, rfl, by decide +kernel, rfl, by decide +kernel, by decide +kernel⟩
theorem sc_numbered : FnScope ["n"] ["n"] (defScope s_numbered) := ⟨rfl, rfl, rfl, by decide +kernel, rfl, by decide +kernel, by decide +kernel⟩
theorem sc_crowd : FnScope ["pay", "many", "rates", "n", "here"] ["pay", "many"] (defScope s_crowd) := ⟨rfl, rfl, rfl, by decide +kernel, rfl, by decide +kernel, by decide +kernel⟩
theorem sc_crowd_levels : FnScope ["pay", "many", "found", "n", "here", "least", "height"] ["pay", "many"] (defScope s_crowd_levels) := ⟨rfl, rfl, rfl, by decide +kernel, rfl, by decide +kernel, by decide +kernel⟩
theorem sc_crowd_heights : FnScope ["pay", "many"] ["pay", "many"] (defScope s_crowd_heights) := ⟨rfl, rfl, rfl, by decide +kernel, rfl, by decide +kernel, by decide +kernel⟩
theorem sc_crowd_shares : FnScope ["pay", "many", "levels", "n"] ["pay", "many"] (defScope s_crowd_shares) := ⟨rfl, rfl, rfl, by decide +kernel, rfl, by decide +kernel, by decide +kernel⟩
theorem sc_against : FnScope ["pay", "many", "gains", "m", "here"] ["pay", "many"] (defScope s_against) := ⟨rfl, rfl, rfl, by decide +kernel, rfl, by decide +kernel, by decide +kernel⟩
theorem sc_conventions : FnScope ["pay", "many", "levels", "n"] ["pay", "many"] (defScope s_conventions) := ⟨rfl, rfl, rfl, by decide +kernel, rfl, by decide +kernel, by decide +kernel⟩
theorem sc__law_pen : FnScope ["script"] ["script"] (defScope s__law_pen) := ⟨rfl, rfl, rfl, by decide +kernel, rfl, by decide +kernel, by decide +kernel⟩
theorem sc__law_draw : FnScope ["pen", "many", "digit", "at", "cell", "mixed"] ["pen", "many"] (defScope s__law_draw) := ⟨rfl, rfl, rfl, by decide +kernel, rfl, by decide +kernel, by decide +kernel⟩
theorem sc__law_pick : FnScope ["pen", "items"] ["pen", "items"] (defScope s__law_pick) := ⟨rfl, rfl, rfl, by decide +kernel, rfl, by decide +kernel, by decide +kernel⟩
theorem sc__law_met : FnScope ["call", "e"] ["call"] (defScope s__law_met) := ⟨rfl, rfl, rfl, by decide +kernel, rfl, by decide +kernel, by decide +kernel⟩
theorem sc__law_gain : FnScope ["pay", "many", "m", "mine"] ["pay", "many", "m"] (defScope s__law_gain) := ⟨rfl, rfl, rfl, by decide +kernel, rfl, by decide +kernel, by decide +kernel⟩
theorem sc__law_state : FnScope ["n"] ["n"] (defScope s__law_state) := ⟨rfl, rfl, rfl, by decide +kernel, rfl, by decide +kernel, by decide +kernel⟩
theorem sc__law_due : FnScope ["pay", "many", "heights", "steps", "ways", "worths", "n", "here", "up", "down", "least", "height"] ["pay", "many"] (defScope s__law_due) := ⟨rfl, rfl, rfl, by decide +kernel, rfl, by decide +kernel, by decide +kernel⟩
theorem sc__law_is_balanced : FnScope ["steps", "worths", "held", "rates", "step", "one", "two", "here", "there", "go", "back"] ["steps", "worths"] (defScope s__law_is_balanced) := ⟨rfl, rfl, rfl, by decide +kernel, rfl, by decide +kernel, by decide +kernel⟩
theorem sc__law_pay : FnScope ["pen", "wide", "a", "b", "c", "d", "lap"] ["pen"] (defScope s__law_pay) := ⟨rfl, rfl, rfl, by decide +kernel, rfl, by decide +kernel, by decide +kernel⟩
theorem sc__law_refused_right : FnScope ["pen", "pay", "many", "calls", "a", "b", "low", "odds", "call", "odd"] ["pen", "pay", "many"] (defScope s__law_refused_right) := ⟨rfl, rfl, rfl, by decide +kernel, rfl, by decide +kernel, by decide +kernel⟩
theorem sc_law : FnScope ["script", "pen", "turn", "pay", "many", "heights", "steps", "worths", "gains", "m", "names", "n", "less", "more", "here", "still"] ["script"] (defScope s_law) := ⟨rfl, rfl, rfl, by decide +kernel, rfl, by decide +kernel, by decide +kernel⟩
theorem si_BadNumber : FnScope ["self", "what", "number"] ["self", "what", "number"] (defScope i_BadNumber) := ⟨rfl, rfl, rfl, by decide +kernel, rfl, by decide +kernel, by decide +kernel⟩
theorem si_NotKept : FnScope ["self", "promise", "witness"] ["self", "promise", "witness"] (defScope i_NotKept) := ⟨rfl, rfl, rfl, by decide +kernel, rfl, by decide +kernel, by decide +kernel⟩
def tfs : List He.Defn := [("_law_due", none), ("_law_refused_right", none)]
/-- what the top leaves -/
structure Tx (K : PySem.W.Frag) (mg : Str → Option Value) : Prop where
  z_ValueError : mg "ValueError" = none
  z_abs : mg "abs" = none
  z_all : mg "all" = none
  z_bool : mg "bool" = none
  z_dict : mg "dict" = none
  z_int : mg "int" = none
  z_isinstance : mg "isinstance" = none
  z_len : mg "len" = none
  z_list : mg "list" = none
  z_max : mg "max" = none
  z_min : mg "min" = none
  z_range : mg "range" = none
  z_repr : mg "repr" = none
  z_sorted : mg "sorted" = none
  z_str : mg "str" = none
  z_tuple : mg "tuple" = none
  g_is_whole : mg "is_whole" = some (.ref (He.ga K "is_whole"))
  f_is_whole : ∃ fd, Fun1 K "is_whole" "is_whole" s_is_whole (He.ga K "is_whole") fd (.ref (He.codeOf K ("is_whole", none))) ["value"]
  g_is_count : mg "is_count" = some (.ref (He.ga K "is_count"))
  f_is_count : ∃ fd, Fun1 K "is_count" "is_count" s_is_count (He.ga K "is_count") fd (.ref (He.codeOf K ("is_count", none))) ["value"]
  g_web_in : mg "web_in" = some (.ref (He.ga K "web_in"))
  f_web_in : ∃ fd, Fun1 K "web_in" "web_in" s_web_in (He.ga K "web_in") fd (.ref (He.codeOf K ("web_in", none))) ["names", "rates"]
  g_need_crowd : mg "need_crowd" = some (.ref (He.ga K "need_crowd"))
  f_need_crowd : ∃ fd, Fun1 K "need_crowd" "need_crowd" s_need_crowd (He.ga K "need_crowd") fd (.ref (He.codeOf K ("need_crowd", none))) ["pay", "many"]
  g_gain_in : mg "gain_in" = some (.ref (He.ga K "gain_in"))
  f_gain_in : ∃ fd, Fun1 K "gain_in" "gain_in" s_gain_in (He.ga K "gain_in") fd (.ref (He.codeOf K ("gain_in", none))) ["pay", "many", "m"]
  g_gain : mg "gain" = some (.ref (He.ga K "gain"))
  f_gain : ∃ fd, Fun1 K "gain" "gain" s_gain (He.ga K "gain") fd (.ref (He.codeOf K ("gain", none))) ["pay", "many", "m"]
  g_numbered : mg "numbered" = some (.ref (He.ga K "numbered"))
  f_numbered : ∃ fd, Fun1 K "numbered" "numbered" s_numbered (He.ga K "numbered") fd (.ref (He.codeOf K ("numbered", none))) ["n"]
  g_crowd : mg "crowd" = some (.ref (He.ga K "crowd"))
  f_crowd : ∃ fd, Fun1 K "crowd" "crowd" s_crowd (He.ga K "crowd") fd (.ref (He.codeOf K ("crowd", none))) ["pay", "many"]
  g_crowd_levels : mg "crowd_levels" = some (.ref (He.ga K "crowd_levels"))
  f_crowd_levels : ∃ fd, Fun1 K "crowd_levels" "crowd_levels" s_crowd_levels (He.ga K "crowd_levels") fd (.ref (He.codeOf K ("crowd_levels", none))) ["pay", "many"]
  g_crowd_heights : mg "crowd_heights" = some (.ref (He.ga K "crowd_heights"))
  f_crowd_heights : ∃ fd, Fun1 K "crowd_heights" "crowd_heights" s_crowd_heights (He.ga K "crowd_heights") fd (.ref (He.codeOf K ("crowd_heights", none))) ["pay", "many"]
  g_crowd_shares : mg "crowd_shares" = some (.ref (He.ga K "crowd_shares"))
  f_crowd_shares : ∃ fd, Fun1 K "crowd_shares" "crowd_shares" s_crowd_shares (He.ga K "crowd_shares") fd (.ref (He.codeOf K ("crowd_shares", none))) ["pay", "many"]
  g_against : mg "against" = some (.ref (He.ga K "against"))
  f_against : ∃ fd, Fun1 K "against" "against" s_against (He.ga K "against") fd (.ref (He.codeOf K ("against", none))) ["pay", "many"]
  g_conventions : mg "conventions" = some (.ref (He.ga K "conventions"))
  f_conventions : ∃ fd, Fun1 K "conventions" "conventions" s_conventions (He.ga K "conventions") fd (.ref (He.codeOf K ("conventions", none))) ["pay", "many"]
  g__law_pen : mg "_law_pen" = some (.ref (He.ga K "_law_pen"))
  f__law_pen : ∃ fd, Fun1 K "_law_pen" "_law_pen" s__law_pen (He.ga K "_law_pen") fd (.ref (He.codeOf K ("_law_pen", none))) ["script"]
  g__law_draw : mg "_law_draw" = some (.ref (He.ga K "_law_draw"))
  f__law_draw : ∃ fd, Fun1 K "_law_draw" "_law_draw" s__law_draw (He.ga K "_law_draw") fd (.ref (He.codeOf K ("_law_draw", none))) ["pen", "many"]
  g__law_pick : mg "_law_pick" = some (.ref (He.ga K "_law_pick"))
  f__law_pick : ∃ fd, Fun1 K "_law_pick" "_law_pick" s__law_pick (He.ga K "_law_pick") fd (.ref (He.codeOf K ("_law_pick", none))) ["pen", "items"]
  g__law_met : mg "_law_met" = some (.ref (He.ga K "_law_met"))
  f__law_met : ∃ fd, Fun1 K "_law_met" "_law_met" s__law_met (He.ga K "_law_met") fd (.ref (He.codeOf K ("_law_met", none))) ["call"]
  g__law_gain : mg "_law_gain" = some (.ref (He.ga K "_law_gain"))
  f__law_gain : ∃ fd, Fun1 K "_law_gain" "_law_gain" s__law_gain (He.ga K "_law_gain") fd (.ref (He.codeOf K ("_law_gain", none))) ["pay", "many", "m"]
  g__law_state : mg "_law_state" = some (.ref (He.ga K "_law_state"))
  f__law_state : ∃ fd, Fun1 K "_law_state" "_law_state" s__law_state (He.ga K "_law_state") fd (.ref (He.codeOf K ("_law_state", none))) ["n"]
  g__law_due : mg "_law_due" = some (.ref (He.ga K "_law_due"))
  f__law_due : ∃ fd, Fun1 K "_law_due" "_law_due" s__law_due (He.ga K "_law_due") fd (.ref (He.codeOf K ("_law_due", none))) ["pay", "many"]
  g__law_is_balanced : mg "_law_is_balanced" = some (.ref (He.ga K "_law_is_balanced"))
  f__law_is_balanced : ∃ fd, Fun1 K "_law_is_balanced" "_law_is_balanced" s__law_is_balanced (He.ga K "_law_is_balanced") fd (.ref (He.codeOf K ("_law_is_balanced", none))) ["steps", "worths"]
  g__law_pay : mg "_law_pay" = some (.ref (He.ga K "_law_pay"))
  f__law_pay : ∃ fd, Fun1 K "_law_pay" "_law_pay" s__law_pay (He.ga K "_law_pay") fd (.ref (He.codeOf K ("_law_pay", none))) ["pen"]
  g__law_refused_right : mg "_law_refused_right" = some (.ref (He.ga K "_law_refused_right"))
  f__law_refused_right : ∃ fd, Fun1 K "_law_refused_right" "_law_refused_right" s__law_refused_right (He.ga K "_law_refused_right") fd (.ref (He.codeOf K ("_law_refused_right", none))) ["pen", "pay", "many"]
  g_law : mg "law" = some (.ref (He.ga K "law"))
  f_law : ∃ fd, Fun1 K "law" "law" s_law (He.ga K "law") fd (.ref (He.codeOf K ("law", none))) ["script"]
  gc_BadNumber : mg "BadNumber" = some (.ref (He.ga K "BadNumber"))
  x_BadNumber : excB K "BadNumber" ["what", "number"] = true
  i_BadNumber : ∃ fd, FunD K "__init__" "BadNumber.__init__" (defArgs i_BadNumber) (defBody i_BadNumber) (defScope i_BadNumber) [] [] (He.ma K (He.ga K "BadNumber") "__init__") fd
  gc_NotKept : mg "NotKept" = some (.ref (He.ga K "NotKept"))
  x_NotKept : excB K "NotKept" ["promise", "witness"] = true
  i_NotKept : ∃ fd, FunD K "__init__" "NotKept.__init__" (defArgs i_NotKept) (defBody i_NotKept) (defScope i_NotKept) [] [] (He.ma K (He.ga K "NotKept") "__init__") fd
  e_BadNumber_BadNumber : PySem.W.exmOne K (.ref (He.ga K "BadNumber")) (.ref (He.ga K "BadNumber")) = some true
  e_BadNumber_NotKept : PySem.W.exmOne K (.ref (He.ga K "BadNumber")) (.ref (He.ga K "NotKept")) = some false
  e_NotKept_BadNumber : PySem.W.exmOne K (.ref (He.ga K "NotKept")) (.ref (He.ga K "BadNumber")) = some false
  e_NotKept_NotKept : PySem.W.exmOne K (.ref (He.ga K "NotKept")) (.ref (He.ga K "NotKept")) = some true
  m_comb : mg "comb" = some (.builtin "math.comb")
  td : ((tabsOf K tfs).map (·.1)).Nodup
def fns : List He.DefD := [
  ⟨("is_whole", none), "is_whole", "is_whole", defArgs s_is_whole, defBody s_is_whole, defScope s_is_whole, [], []⟩,
  ⟨("is_count", none), "is_count", "is_count", defArgs s_is_count, defBody s_is_count, defScope s_is_count, [], []⟩,
  ⟨("web_in", none), "web_in", "web_in", defArgs s_web_in, defBody s_web_in, defScope s_web_in, [], []⟩,
  ⟨("need_crowd", none), "need_crowd", "need_crowd", defArgs s_need_crowd, defBody s_need_crowd, defScope s_need_crowd, [], []⟩,
  ⟨("gain_in", none), "gain_in", "gain_in", defArgs s_gain_in, defBody s_gain_in, defScope s_gain_in, [], []⟩,
  ⟨("gain", none), "gain", "gain", defArgs s_gain, defBody s_gain, defScope s_gain, [], []⟩,
  ⟨("numbered", none), "numbered", "numbered", defArgs s_numbered, defBody s_numbered, defScope s_numbered, [], []⟩,
  ⟨("crowd", none), "crowd", "crowd", defArgs s_crowd, defBody s_crowd, defScope s_crowd, [], []⟩,
  ⟨("crowd_levels", none), "crowd_levels", "crowd_levels", defArgs s_crowd_levels, defBody s_crowd_levels, defScope s_crowd_levels, [], []⟩,
  ⟨("crowd_heights", none), "crowd_heights", "crowd_heights", defArgs s_crowd_heights, defBody s_crowd_heights, defScope s_crowd_heights, [], []⟩,
  ⟨("crowd_shares", none), "crowd_shares", "crowd_shares", defArgs s_crowd_shares, defBody s_crowd_shares, defScope s_crowd_shares, [], []⟩,
  ⟨("against", none), "against", "against", defArgs s_against, defBody s_against, defScope s_against, [], []⟩,
  ⟨("conventions", none), "conventions", "conventions", defArgs s_conventions, defBody s_conventions, defScope s_conventions, [], []⟩,
  ⟨("_law_pen", none), "_law_pen", "_law_pen", defArgs s__law_pen, defBody s__law_pen, defScope s__law_pen, [], []⟩,
  ⟨("_law_draw", none), "_law_draw", "_law_draw", defArgs s__law_draw, defBody s__law_draw, defScope s__law_draw, [], []⟩,
  ⟨("_law_pick", none), "_law_pick", "_law_pick", defArgs s__law_pick, defBody s__law_pick, defScope s__law_pick, [], []⟩,
  ⟨("_law_met", none), "_law_met", "_law_met", defArgs s__law_met, defBody s__law_met, defScope s__law_met, [], []⟩,
  ⟨("_law_gain", none), "_law_gain", "_law_gain", defArgs s__law_gain, defBody s__law_gain, defScope s__law_gain, [], []⟩,
  ⟨("_law_state", none), "_law_state", "_law_state", defArgs s__law_state, defBody s__law_state, defScope s__law_state, [], []⟩,
  ⟨("_law_due", none), "_law_due", "_law_due", defArgs s__law_due, defBody s__law_due, defScope s__law_due, [], []⟩,
  ⟨("_law_is_balanced", none), "_law_is_balanced", "_law_is_balanced", defArgs s__law_is_balanced, defBody s__law_is_balanced, defScope s__law_is_balanced, [], []⟩,
  ⟨("_law_pay", none), "_law_pay", "_law_pay", defArgs s__law_pay, defBody s__law_pay, defScope s__law_pay, [], []⟩,
  ⟨("_law_refused_right", none), "_law_refused_right", "_law_refused_right", defArgs s__law_refused_right, defBody s__law_refused_right, defScope s__law_refused_right, [], []⟩,
  ⟨("law", none), "law", "law", defArgs s_law, defBody s_law, defScope s_law, [], []⟩,
  ⟨("BadNumber", some "__init__"), "__init__", "BadNumber.__init__", defArgs i_BadNumber, defBody i_BadNumber, defScope i_BadNumber, [], []⟩,
  ⟨("NotKept", some "__init__"), "__init__", "NotKept.__init__", defArgs i_NotKept, defBody i_NotKept, defScope i_NotKept, [], []⟩]
def fas : List He.Fa := ([.free "ValueError", .free "abs", .free "all", .free "bool", .free "dict", .free "int", .free "isinstance", .free "len", .free "list", .free "max", .free "min", .free "range", .free "repr", .free "sorted", .free "str", .free "tuple", .glo "is_whole", .glo "is_count", .glo "web_in", .glo "need_crowd", .glo "gain_in", .glo "gain", .glo "numbered", .glo "crowd", .glo "crowd_levels", .glo "crowd_heights", .glo "crowd_shares", .glo "against", .glo "conventions", .glo "_law_pen"] : List He.Fa) ++ ([.glo "_law_draw", .glo "_law_pick", .glo "_law_met", .glo "_law_gain", .glo "_law_state", .glo "_law_due", .glo "_law_is_balanced", .glo "_law_pay", .glo "_law_refused_right", .glo "law", .glo "BadNumber", .glo "NotKept", .exm "BadNumber" "BadNumber" true, .exm "BadNumber" "NotKept" false, .exm "NotKept" "BadNumber" false, .exm "NotKept" "NotKept" true] : List He.Fa)
def exs (K : PySem.W.Frag) : Bool := (excB K "BadNumber" ["what", "number"] && (excB K "NotKept" ["promise", "witness"] && (He.eqO (PySem.W.nsIn K mainGlobals "comb") (some (some (.builtin "math.comb"))) && decide (((tabsOf K tfs).map (·.1)).Nodup))))
theorem tx_of {w : World} {h : Heap} {K : PySem.W.Frag} {mg : Str → Option Value} (X : K.In h) (G : h.Ns mainGlobals mg) (c : He.SaysX fas fns [] tfs exs w h K) : Tx K mg := by
  have cd := c.t.d
  have e0 : exs K = true := c.more
  obtain ⟨x0, e1⟩ := He.ba e0
  obtain ⟨x1, e2⟩ := He.ba e1
  obtain ⟨x2, e3⟩ := He.ba e2
  have x3 := e3
  exact {
    z_ValueError := He.free_ok X G (cd.fact 0 (f := .free "ValueError") rfl),
    z_abs := He.free_ok X G (cd.fact 1 (f := .free "abs") rfl),
    z_all := He.free_ok X G (cd.fact 2 (f := .free "all") rfl),
    z_bool := He.free_ok X G (cd.fact 3 (f := .free "bool") rfl),
    z_dict := He.free_ok X G (cd.fact 4 (f := .free "dict") rfl),
    z_int := He.free_ok X G (cd.fact 5 (f := .free "int") rfl),
    z_isinstance := He.free_ok X G (cd.fact 6 (f := .free "isinstance") rfl),
    z_len := He.free_ok X G (cd.fact 7 (f := .free "len") rfl),
    z_list := He.free_ok X G (cd.fact 8 (f := .free "list") rfl),
    z_max := He.free_ok X G (cd.fact 9 (f := .free "max") rfl),
    z_min := He.free_ok X G (cd.fact 10 (f := .free "min") rfl),
    z_range := He.free_ok X G (cd.fact 11 (f := .free "range") rfl),
    z_repr := He.free_ok X G (cd.fact 12 (f := .free "repr") rfl),
    z_sorted := He.free_ok X G (cd.fact 13 (f := .free "sorted") rfl),
    z_str := He.free_ok X G (cd.fact 14 (f := .free "str") rfl),
    z_tuple := He.free_ok X G (cd.fact 15 (f := .free "tuple") rfl),
    g_is_whole := He.glo_ok X G (cd.fact 16 (f := .glo "is_whole") rfl),
    g_is_count := He.glo_ok X G (cd.fact 17 (f := .glo "is_count") rfl),
    g_web_in := He.glo_ok X G (cd.fact 18 (f := .glo "web_in") rfl),
    g_need_crowd := He.glo_ok X G (cd.fact 19 (f := .glo "need_crowd") rfl),
    g_gain_in := He.glo_ok X G (cd.fact 20 (f := .glo "gain_in") rfl),
    g_gain := He.glo_ok X G (cd.fact 21 (f := .glo "gain") rfl),
    g_numbered := He.glo_ok X G (cd.fact 22 (f := .glo "numbered") rfl),
    g_crowd := He.glo_ok X G (cd.fact 23 (f := .glo "crowd") rfl),
    g_crowd_levels := He.glo_ok X G (cd.fact 24 (f := .glo "crowd_levels") rfl),
    g_crowd_heights := He.glo_ok X G (cd.fact 25 (f := .glo "crowd_heights") rfl),
    g_crowd_shares := He.glo_ok X G (cd.fact 26 (f := .glo "crowd_shares") rfl),
    g_against := He.glo_ok X G (cd.fact 27 (f := .glo "against") rfl),
    g_conventions := He.glo_ok X G (cd.fact 28 (f := .glo "conventions") rfl),
    g__law_pen := He.glo_ok X G (cd.fact 29 (f := .glo "_law_pen") rfl),
    g__law_draw := He.glo_ok X G (cd.fact 30 (f := .glo "_law_draw") rfl),
    g__law_pick := He.glo_ok X G (cd.fact 31 (f := .glo "_law_pick") rfl),
    g__law_met := He.glo_ok X G (cd.fact 32 (f := .glo "_law_met") rfl),
    g__law_gain := He.glo_ok X G (cd.fact 33 (f := .glo "_law_gain") rfl),
    g__law_state := He.glo_ok X G (cd.fact 34 (f := .glo "_law_state") rfl),
    g__law_due := He.glo_ok X G (cd.fact 35 (f := .glo "_law_due") rfl),
    g__law_is_balanced := He.glo_ok X G (cd.fact 36 (f := .glo "_law_is_balanced") rfl),
    g__law_pay := He.glo_ok X G (cd.fact 37 (f := .glo "_law_pay") rfl),
    g__law_refused_right := He.glo_ok X G (cd.fact 38 (f := .glo "_law_refused_right") rfl),
    g_law := He.glo_ok X G (cd.fact 39 (f := .glo "law") rfl),
    gc_BadNumber := He.glo_ok X G (cd.fact 40 (f := .glo "BadNumber") rfl),
    gc_NotKept := He.glo_ok X G (cd.fact 41 (f := .glo "NotKept") rfl),
    e_BadNumber_BadNumber := He.exm_ok (cd.fact 42 (f := .exm "BadNumber" "BadNumber" true) rfl),
    e_BadNumber_NotKept := He.exm_ok (cd.fact 43 (f := .exm "BadNumber" "NotKept" false) rfl),
    e_NotKept_BadNumber := He.exm_ok (cd.fact 44 (f := .exm "NotKept" "BadNumber" false) rfl),
    e_NotKept_NotKept := He.exm_ok (cd.fact 45 (f := .exm "NotKept" "NotKept" true) rfl),
    f_is_whole := by
      obtain ⟨fd, F⟩ := cd.def_ 0 (d := ⟨("is_whole", none), "is_whole", "is_whole", defArgs s_is_whole, defBody s_is_whole, defScope s_is_whole, [], []⟩) rfl
      exact ⟨fd, fun1_of F fun _ _ _ _ _ _ us hl => match us, hl with | [_], _ => rfl⟩,
    f_is_count := by
      obtain ⟨fd, F⟩ := cd.def_ 1 (d := ⟨("is_count", none), "is_count", "is_count", defArgs s_is_count, defBody s_is_count, defScope s_is_count, [], []⟩) rfl
      exact ⟨fd, fun1_of F fun _ _ _ _ _ _ us hl => match us, hl with | [_], _ => rfl⟩,
    f_web_in := by
      obtain ⟨fd, F⟩ := cd.def_ 2 (d := ⟨("web_in", none), "web_in", "web_in", defArgs s_web_in, defBody s_web_in, defScope s_web_in, [], []⟩) rfl
      exact ⟨fd, fun1_of F fun _ _ _ _ _ _ us hl => match us, hl with | [_, _], _ => rfl⟩,
    f_need_crowd := by
      obtain ⟨fd, F⟩ := cd.def_ 3 (d := ⟨("need_crowd", none), "need_crowd", "need_crowd", defArgs s_need_crowd, defBody s_need_crowd, defScope s_need_crowd, [], []⟩) rfl
      exact ⟨fd, fun1_of F fun _ _ _ _ _ _ us hl => match us, hl with | [_, _], _ => rfl⟩,
    f_gain_in := by
      obtain ⟨fd, F⟩ := cd.def_ 4 (d := ⟨("gain_in", none), "gain_in", "gain_in", defArgs s_gain_in, defBody s_gain_in, defScope s_gain_in, [], []⟩) rfl
      exact ⟨fd, fun1_of F fun _ _ _ _ _ _ us hl => match us, hl with | [_, _, _], _ => rfl⟩,
    f_gain := by
      obtain ⟨fd, F⟩ := cd.def_ 5 (d := ⟨("gain", none), "gain", "gain", defArgs s_gain, defBody s_gain, defScope s_gain, [], []⟩) rfl
      exact ⟨fd, fun1_of F fun _ _ _ _ _ _ us hl => match us, hl with | [_, _, _], _ => rfl⟩,
    f_numbered := by
      obtain ⟨fd, F⟩ := cd.def_ 6 (d := ⟨("numbered", none), "numbered", "numbered", defArgs s_numbered, defBody s_numbered, defScope s_numbered, [], []⟩) rfl
      exact ⟨fd, fun1_of F fun _ _ _ _ _ _ us hl => match us, hl with | [_], _ => rfl⟩,
    f_crowd := by
      obtain ⟨fd, F⟩ := cd.def_ 7 (d := ⟨("crowd", none), "crowd", "crowd", defArgs s_crowd, defBody s_crowd, defScope s_crowd, [], []⟩) rfl
      exact ⟨fd, fun1_of F fun _ _ _ _ _ _ us hl => match us, hl with | [_, _], _ => rfl⟩,
    f_crowd_levels := by
      obtain ⟨fd, F⟩ := cd.def_ 8 (d := ⟨("crowd_levels", none), "crowd_levels", "crowd_levels", defArgs s_crowd_levels, defBody s_crowd_levels, defScope s_crowd_levels, [], []⟩) rfl
      exact ⟨fd, fun1_of F fun _ _ _ _ _ _ us hl => match us, hl with | [_, _], _ => rfl⟩,
    f_crowd_heights := by
      obtain ⟨fd, F⟩ := cd.def_ 9 (d := ⟨("crowd_heights", none), "crowd_heights", "crowd_heights", defArgs s_crowd_heights, defBody s_crowd_heights, defScope s_crowd_heights, [], []⟩) rfl
      exact ⟨fd, fun1_of F fun _ _ _ _ _ _ us hl => match us, hl with | [_, _], _ => rfl⟩,
    f_crowd_shares := by
      obtain ⟨fd, F⟩ := cd.def_ 10 (d := ⟨("crowd_shares", none), "crowd_shares", "crowd_shares", defArgs s_crowd_shares, defBody s_crowd_shares, defScope s_crowd_shares, [], []⟩) rfl
      exact ⟨fd, fun1_of F fun _ _ _ _ _ _ us hl => match us, hl with | [_, _], _ => rfl⟩,
    f_against := by
      obtain ⟨fd, F⟩ := cd.def_ 11 (d := ⟨("against", none), "against", "against", defArgs s_against, defBody s_against, defScope s_against, [], []⟩) rfl
      exact ⟨fd, fun1_of F fun _ _ _ _ _ _ us hl => match us, hl with | [_, _], _ => rfl⟩,
    f_conventions := by
      obtain ⟨fd, F⟩ := cd.def_ 12 (d := ⟨("conventions", none), "conventions", "conventions", defArgs s_conventions, defBody s_conventions, defScope s_conventions, [], []⟩) rfl
      exact ⟨fd, fun1_of F fun _ _ _ _ _ _ us hl => match us, hl with | [_, _], _ => rfl⟩,
    f__law_pen := by
      obtain ⟨fd, F⟩ := cd.def_ 13 (d := ⟨("_law_pen", none), "_law_pen", "_law_pen", defArgs s__law_pen, defBody s__law_pen, defScope s__law_pen, [], []⟩) rfl
      exact ⟨fd, fun1_of F fun _ _ _ _ _ _ us hl => match us, hl with | [_], _ => rfl⟩,
    f__law_draw := by
      obtain ⟨fd, F⟩ := cd.def_ 14 (d := ⟨("_law_draw", none), "_law_draw", "_law_draw", defArgs s__law_draw, defBody s__law_draw, defScope s__law_draw, [], []⟩) rfl
      exact ⟨fd, fun1_of F fun _ _ _ _ _ _ us hl => match us, hl with | [_, _], _ => rfl⟩,
    f__law_pick := by
      obtain ⟨fd, F⟩ := cd.def_ 15 (d := ⟨("_law_pick", none), "_law_pick", "_law_pick", defArgs s__law_pick, defBody s__law_pick, defScope s__law_pick, [], []⟩) rfl
      exact ⟨fd, fun1_of F fun _ _ _ _ _ _ us hl => match us, hl with | [_, _], _ => rfl⟩,
    f__law_met := by
      obtain ⟨fd, F⟩ := cd.def_ 16 (d := ⟨("_law_met", none), "_law_met", "_law_met", defArgs s__law_met, defBody s__law_met, defScope s__law_met, [], []⟩) rfl
      exact ⟨fd, fun1_of F fun _ _ _ _ _ _ us hl => match us, hl with | [_], _ => rfl⟩,
    f__law_gain := by
      obtain ⟨fd, F⟩ := cd.def_ 17 (d := ⟨("_law_gain", none), "_law_gain", "_law_gain", defArgs s__law_gain, defBody s__law_gain, defScope s__law_gain, [], []⟩) rfl
      exact ⟨fd, fun1_of F fun _ _ _ _ _ _ us hl => match us, hl with | [_, _, _], _ => rfl⟩,
    f__law_state := by
      obtain ⟨fd, F⟩ := cd.def_ 18 (d := ⟨("_law_state", none), "_law_state", "_law_state", defArgs s__law_state, defBody s__law_state, defScope s__law_state, [], []⟩) rfl
      exact ⟨fd, fun1_of F fun _ _ _ _ _ _ us hl => match us, hl with | [_], _ => rfl⟩,
    f__law_due := by
      obtain ⟨fd, F⟩ := cd.def_ 19 (d := ⟨("_law_due", none), "_law_due", "_law_due", defArgs s__law_due, defBody s__law_due, defScope s__law_due, [], []⟩) rfl
      exact ⟨fd, fun1_of F fun _ _ _ _ _ _ us hl => match us, hl with | [_, _], _ => rfl⟩,
    f__law_is_balanced := by
      obtain ⟨fd, F⟩ := cd.def_ 20 (d := ⟨("_law_is_balanced", none), "_law_is_balanced", "_law_is_balanced", defArgs s__law_is_balanced, defBody s__law_is_balanced, defScope s__law_is_balanced, [], []⟩) rfl
      exact ⟨fd, fun1_of F fun _ _ _ _ _ _ us hl => match us, hl with | [_, _], _ => rfl⟩,
    f__law_pay := by
      obtain ⟨fd, F⟩ := cd.def_ 21 (d := ⟨("_law_pay", none), "_law_pay", "_law_pay", defArgs s__law_pay, defBody s__law_pay, defScope s__law_pay, [], []⟩) rfl
      exact ⟨fd, fun1_of F fun _ _ _ _ _ _ us hl => match us, hl with | [_], _ => rfl⟩,
    f__law_refused_right := by
      obtain ⟨fd, F⟩ := cd.def_ 22 (d := ⟨("_law_refused_right", none), "_law_refused_right", "_law_refused_right", defArgs s__law_refused_right, defBody s__law_refused_right, defScope s__law_refused_right, [], []⟩) rfl
      exact ⟨fd, fun1_of F fun _ _ _ _ _ _ us hl => match us, hl with | [_, _, _], _ => rfl⟩,
    f_law := by
      obtain ⟨fd, F⟩ := cd.def_ 23 (d := ⟨("law", none), "law", "law", defArgs s_law, defBody s_law, defScope s_law, [], []⟩) rfl
      exact ⟨fd, fun1_of F fun _ _ _ _ _ _ us hl => match us, hl with | [_], _ => rfl⟩,
    i_BadNumber := by
      obtain ⟨fd, F⟩ := cd.def_ 24 (d := ⟨("BadNumber", some "__init__"), "__init__", "BadNumber.__init__", defArgs i_BadNumber, defBody i_BadNumber, defScope i_BadNumber, [], []⟩) rfl
      exact ⟨fd, F⟩,
    i_NotKept := by
      obtain ⟨fd, F⟩ := cd.def_ 25 (d := ⟨("NotKept", some "__init__"), "__init__", "NotKept.__init__", defArgs i_NotKept, defBody i_NotKept, defScope i_NotKept, [], []⟩) rfl
      exact ⟨fd, F⟩,
    x_BadNumber := x0,
    x_NotKept := x1,
    m_comb := PySem.W.mg_of X G (He.eqO_ok x2),
    td := of_decide_eq_true x3 }
end K58
end
section
set_option maxHeartbeats 0
namespace K58
open PySem PySem.Spec PyProof.Rows L2 L3
abbrev RW : PySem.W.OpenRow := PySem.W.OpenLaw.row PySem.Challenge.rw_raresteps_k58_whole_crowds
abbrev hkX : PySem.W.Hook := He.hookX 4 fas fns [] tfs exs
def obX (s : PySem.W.SharedT) : He.AlX := He.obsX 4 fas fns [] tfs exs (HandSHeadRun.getT s)
theorem obX_eq (s : PySem.W.SharedT) : obX s = hkX.obs s.abs := He.obsX_eq (HandSHeadRun.getT_eq s)
def loose : List Str := (["is_whole", "is_count", "web_in", "need_crowd", "gain_in", "gain", "numbered", "crowd", "crowd_levels", "crowd_heights", "crowd_shares", "against", "conventions", "_law_pen", "_law_draw", "_law_pick", "_law_met", "_law_gain", "_law_state", "_law_due", "_law_is_balanced", "_law_pay", "_law_refused_right", "RareError", "BadNumber", "NotKept"] : List Str)
theorem runX (w : World) : HandSHeadRun.RunEqI RW (PySem.W.view RW.prog [0, 31]) hkX obX 6000 loose w := by
  unfold HandSHeadRun.RunEqI
  kernel_rfl
end K58
end
section
namespace K58
open PySem PySem.Spec PyProof.Rows L2 L3
local macro_rules | `(tactic| walk_at "sc") => `(tactic| first | omega | exact ⟨by omega, by omega⟩ | exact cmul_fmod (by decide) (by decide) | exact .inl ⟨by omega, by omega⟩ | exact .inr ⟨by omega, by omega⟩ | exact ⟨by omega, by omega, by omega⟩)
local macro_rules | `(tactic| walk_at "vv") => `(tactic| first | exact Or.inl rfl | exact Or.inr (Or.inl rfl) | exact Or.inr (Or.inr rfl))
local macro_rules | `(tactic| walk_at "ll") => `(tactic| first | exact Or.inl rfl | exact Or.inr rfl)
set_option hygiene false in
local macro_rules | `(tactic| walk_at "A") => `(tactic| first
  | ((with_reducible refine' a_cons ?_ ?hs); (case hs => exact rfl))
  | (with_reducible refine' a_nil ?_))
set_option hygiene false in
local macro_rules | `(tactic| walk_at "Con") => `(tactic| first
  | (with_reducible refine' r_int ?_)
  | (with_reducible refine' r_str ?_)
  | (with_reducible refine' r_non ?_)
  | (with_reducible refine' r_bl ?_))
set_option hygiene false in
local macro_rules | `(tactic| walk_at "Bin") => `(tactic| first
  | ((with_reducible show xE _ _ _ (.BinOp _ .Add _ _) _ _ _); (with_reducible refine' r_op op_addA ?_))
  | ((with_reducible show xE _ _ _ (.BinOp _ .Sub _ _) _ _ _); (with_reducible refine' r_op op_sub ?_))
  | ((with_reducible show xE _ _ _ (.BinOp _ .Mult _ _) _ _ _); (with_reducible refine' r_op op_mul ?_))
  | ((with_reducible show xE _ _ _ (.BinOp _ .FloorDiv _ _) _ _ _); (with_reducible refine' r_op op_fdivN ?_))
  | ((with_reducible show xE _ _ _ (.BinOp _ .Mod _ _) _ _ _); (with_reducible refine' r_op op_modN ?_))
  | ((with_reducible show xE _ _ _ (.BinOp _ .Pow _ _) _ _ _); (with_reducible refine' r_op op_pow ?_)))
set_option hygiene false in
local macro_rules | `(tactic| walk_at "Cmp") => `(tactic| first
  | ((with_reducible show xE _ _ _ (.Compare _ [.Lt] _ _) _ _ _); (with_reducible refine' r_cmp op_lt ?hm ?_); (case hm => exact rfl))
  | ((with_reducible show xE _ _ _ (.Compare _ [.LtE] _ _) _ _ _); (with_reducible refine' r_cmp op_le ?hm ?_); (case hm => exact rfl))
  | ((with_reducible show xE _ _ _ (.Compare _ [.Gt] _ _) _ _ _); (with_reducible refine' r_cmp op_gt ?hm ?_); (case hm => exact rfl))
  | ((with_reducible show xE _ _ _ (.Compare _ [.GtE] _ _) _ _ _); (with_reducible refine' r_cmp op_ge ?hm ?_); (case hm => exact rfl))
  | ((with_reducible show xE _ _ _ (.Compare _ [.Eq] _ _) _ _ _); (with_reducible refine' r_cmp (op_eqB cx.hu64) ?hm ?_); (case hm => exact rfl))
  | ((with_reducible show xE _ _ _ (.Compare _ [.NotEq] _ _) _ _ _); (with_reducible refine' r_cmp (op_neB cx.hu64) ?hm ?_); (case hm => exact rfl))
  | ((with_reducible show xE _ _ _ (.Compare _ [.Is] _ _) _ _ _); (with_reducible refine' r_cmp op_isN1 ?hm ?_); (case hm => exact rfl))
  | ((with_reducible show xE _ _ _ (.Compare _ [.IsNot] _ _) _ _ _); (with_reducible refine' r_cmp op_notN1 ?hm ?_); (case hm => exact rfl)))
set_option hygiene false in
local macro_rules | `(tactic| walk_at "TCmp") => `(tactic| first
  | ((with_reducible show xT _ _ _ (.Compare _ [.Lt] _ _) _ _ _); (with_reducible refine' t_cmp op_lt ?hm ?_); (case hm => exact rfl))
  | ((with_reducible show xT _ _ _ (.Compare _ [.LtE] _ _) _ _ _); (with_reducible refine' t_cmp op_le ?hm ?_); (case hm => exact rfl))
  | ((with_reducible show xT _ _ _ (.Compare _ [.Gt] _ _) _ _ _); (with_reducible refine' t_cmp op_gt ?hm ?_); (case hm => exact rfl))
  | ((with_reducible show xT _ _ _ (.Compare _ [.GtE] _ _) _ _ _); (with_reducible refine' t_cmp op_ge ?hm ?_); (case hm => exact rfl))
  | ((with_reducible show xT _ _ _ (.Compare _ [.Eq] _ _) _ _ _); (with_reducible refine' t_cmp (op_eqB cx.hu64) ?hm ?_); (case hm => exact rfl))
  | ((with_reducible show xT _ _ _ (.Compare _ [.NotEq] _ _) _ _ _); (with_reducible refine' t_cmp (op_neB cx.hu64) ?hm ?_); (case hm => exact rfl))
  | ((with_reducible show xT _ _ _ (.Compare _ [.Is] _ _) _ _ _); (with_reducible refine' t_cmp op_isN1 ?hm ?_); (case hm => exact rfl))
  | ((with_reducible show xT _ _ _ (.Compare _ [.IsNot] _ _) _ _ _); (with_reducible refine' t_cmp op_notN1 ?hm ?_); (case hm => exact rfl))
  | ((with_reducible show xT _ _ _ (.Compare _ [.LtE, .LtE] _ _) _ _ _); (with_reducible refine' t_chain op_le op_le ?_ ?hl); (case hl => exact rfl))
  | ((with_reducible show xT _ _ _ (.Compare _ [.Lt, .Lt] _ _) _ _ _); (with_reducible refine' t_chain op_lt op_lt ?_ ?hl); (case hl => exact rfl))
  | ((with_reducible show xT _ _ _ (.Compare _ [.LtE, .Lt] _ _) _ _ _); (with_reducible refine' t_chain op_le op_lt ?_ ?hl); (case hl => exact rfl))
  | ((with_reducible show xT _ _ _ (.Compare _ [.Lt, .LtE] _ _) _ _ _); (with_reducible refine' t_chain op_lt op_le ?_ ?hl); (case hl => exact rfl)))
set_option hygiene false in
local macro_rules | `(tactic| walk_at "E") => `(tactic| first
  | ((with_reducible show xE _ _ _ (.Name _ _) _ _ _); walk_at "Nam")
  | ((with_reducible show xE _ _ _ (.Constant _ _ _) _ _ _); walk_at "Con")
  | ((with_reducible show xE _ _ _ (.BinOp _ _ _ _) _ _ _); walk_at "Bin")
  | ((with_reducible show xE _ _ _ (.Call _ _ _ _) _ _ _); walk_at "Cal")
  | ((with_reducible show xE _ _ _ (.Tuple _ _ _) _ _ _); (with_reducible refine' r_tup ?_))
  | ((with_reducible show xE _ _ _ (.Subscript _ (.Slice _ _ _ _) _) _ _ _); (with_reducible refine' r_slice ?_))
  | ((with_reducible show xE _ _ _ (.Subscript _ _ _) _ _ _); (refine r_sub cx.hu ?_))
  | ((with_reducible show xE _ _ _ (.Compare _ _ _ _) _ _ _); walk_at "Cmp")
  | ((with_reducible show xE _ _ _ (.IfExp _ _ _ _) _ _ _); (with_reducible refine' r_if ?_))
  | ((with_reducible show xE _ _ _ (.UnaryOp .USub _ _) _ _ _); (with_reducible refine' r_un un_neg ?_))
  | ((with_reducible show xE _ _ _ (.UnaryOp .Not _ _) _ _ _); (with_reducible refine' r_not ?_))
  | ((with_reducible show xE _ _ _ (.BoolOp .And (_ :: _ :: _) _) _ _ _); (with_reducible refine' r_and ?_))
  | ((with_reducible show xE _ _ _ (.BoolOp .Or (_ :: _ :: _) _) _ _ _); (with_reducible refine' r_or ?_))
  | ((with_reducible show xE _ _ _ (.BoolOp _ [_] _) _ _ _); (with_reducible refine' r_one ?_)))
set_option hygiene false in
local macro_rules | `(tactic| walk_at "T") => `(tactic| first
  | ((with_reducible show xT _ _ _ (.Compare _ _ _ _) _ _ _); walk_at "TCmp")
  | ((with_reducible show xT _ _ _ (.UnaryOp .Not _ _) _ _ _); (with_reducible refine' t_not ?_))
  | ((with_reducible show xT _ _ _ (.BoolOp .And _ _) _ _ _); (with_reducible refine' t_w (t_and ?_)))
  | ((with_reducible show xT _ _ _ (.BoolOp .Or _ _) _ _ _); (with_reducible refine' t_w (t_or ?_)))
  | ((with_reducible show xT _ _ _ (.Call _ _ _ _) _ _ _); (with_reducible refine' t_val ?_ ?he); (case he => intro _; rfl))
  | ((with_reducible show xT _ _ _ (.ListComp _ _ _ _) _ _ _); fail)
  | ((with_reducible show xT _ _ _ (.Name _ _) _ _ _); fail)
  | ((with_reducible refine' t_val ?_ ?he); (case he => intro _; rfl)))
set_option hygiene false in
local macro_rules | `(tactic| walk_at "W") => `(tactic| first
  | (with_reducible refine' t_and ?_)
  | (with_reducible refine' t_or ?_)
  | (with_reducible refine' t_and1 ?_)
  | (with_reducible refine' t_or1 ?_))
set_option hygiene false in
local macro_rules | `(tactic| walk_at "S") => `(tactic| first
  | ((with_reducible show xS _ _ _ (.If _ _ _ _) _ _ _); (with_reducible refine' s_if ?_))
  | ((with_reducible show xS _ _ _ (.Assign [.Tuple [.Name _ _, .Name _ _] _ _] (.Tuple [_, _] _ _) _) _ _ _); walk_at "Par")
  | ((with_reducible show xS _ _ _ (.Assign _ _ _) _ _ _); (with_reducible refine' s_asg ?_ ?hs ?hw ?h1); (case hs => exact rfl); (case hw => exact rfl); (case h1 => exact rfl))
  | ((with_reducible show xS _ _ _ (.Return (some _) _) _ _ _); (with_reducible refine' s_ret ?_))
  | ((with_reducible show xS _ _ _ (.Expr _ _) _ _ _); (with_reducible refine' s_expr ?_ ?hs); (case hs => exact rfl))
  | ((with_reducible show xS _ _ _ (.For _ _ _ _ _) _ _ _); (with_reducible refine' s_for cx.po cx.calm ?_ ?hs); (case hs => exact fun _ => rfl))
  | ((with_reducible show xS _ _ _ (.Raise _ _ _) _ _ _); walk_at "Rai")
  | ((with_reducible show xS _ _ _ (.AugAssign _ _ _ _) _ _ _); walk_at "Aug")
  | (with_reducible refine' s_pass ?_)
  | (with_reducible refine' s_break ?_)
  | (with_reducible refine' s_cont ?_)
  | (with_reducible refine' s_retN ?_))
set_option hygiene false in
local macro_rules | `(tactic| walk_at "G") => `(tactic| first
  | ((with_reducible show xG _ _ _ (.Name _ _) _ _ _ _); walk_at "gv")
  | ((with_reducible show xG _ _ _ (.Tuple _ _ _) _ _ _ _); (with_reducible refine' g_tup cx.calm ?_ ?hn ?hst); (case hn => exact rfl); (case hst => exact rfl))
  | ((with_reducible show xG _ _ _ (.Subscript _ _ _) _ _ _ _); (refine g_sub cx.hu ?_)))
set_option hygiene false in
local macro_rules | `(tactic| walk_at "Gs") => `(tactic| first
  | ((with_reducible refine' gs_cons ?_ ?hs); (case hs => exact rfl))
  | (with_reducible refine' gs_nil ?_))
set_option hygiene false in
local macro_rules | `(tactic| walk_at "O") => `(tactic| first
  | (with_reducible refine' p_int ?_)
  | (with_reducible refine' o_int0 ?_)
  | (with_reducible refine' o_bl0 ?_)
  | ((with_reducible refine' o_int ?_ ?hc); (case hc => walk_at "sc"))
  | (with_reducible refine' o_int ?_ ?_)
  | (with_reducible refine' e_int ?_)
  | (with_reducible refine' n_int ?_)
  | (with_reducible refine' e_str ?_)
  | (with_reducible refine' n_str ?_)
  | (with_reducible refine' o_isN ?_)
  | (with_reducible refine' o_notN ?_)
  | (with_reducible refine' p_str ?_ ?_))
set_option hygiene false in
local macro_rules | `(tactic| walk_at "C") => `(tactic| first
  | (with_reducible refine' len_t ?_)
  | (with_reducible refine' len_l ?_)
  | (with_reducible refine' c_abs ?_)
  | (with_reducible refine' c_int ?_)
  | (with_reducible refine' c_intB ?_)
  | (with_reducible refine' c_min2 ?_)
  | (with_reducible refine' c_max2 ?_)
  | (with_reducible refine' c_str ?_ ?_))
set_option hygiene false in
local macro_rules | `(tactic| walk_at "S3") => `(tactic| first
  | (with_reducible refine' s_t ?_)
  | (with_reducible refine' s_s ?_ ?_))
set_option hygiene false in
local macro_rules | `(tactic| walk_at "bb") => `(tactic| first
  | (with_reducible refine b_cons ?_)
  | (with_reducible refine b_one ?_)
  | (with_reducible refine b_nil ?_)
  | (refine b_cons ?_)
  | (refine b_one ?_)
  | (refine b_nil ?_))
set_option hygiene false in
local macro_rules | `(tactic| walk_at "I") => `(tactic| first
  | ((with_reducible refine' i_range1 ?hg ?hm ?_ ?hs); (case hg => exact rfl); (case hm => exact Z.z_range); (case hs => exact rfl))
  | ((with_reducible refine' i_range2 ?hg ?hm ?_ ?hs ?hs2); (case hg => exact rfl); (case hm => exact Z.z_range); (case hs => exact rfl); (case hs2 => exact rfl)))
local macro_rules | `(tactic| walk_at "be") => `(tactic| first
  | (with_reducible refine b_cons ?_)
  | (with_reducible refine b_one ?_)
  | (with_reducible refine b_nil ?_))
set_option hygiene false in
local macro_rules | `(tactic| walk_at "xx") => `(tactic| first
  | ((with_reducible show xE _ _ _ _ _ _ _); walk_at "E")
  | ((with_reducible show xA _ _ _ _ _ _ _); walk_at "A")
  | ((with_reducible show O3 _ _ _ _ _ _ _); walk_at "O")
  | ((with_reducible show C3 _ _ _ _ _ _); walk_at "C")
  | ((with_reducible show xS _ _ _ _ _ _ _); walk_at "S")
  | ((with_reducible show xB _ _ _ _ _ _ _); walk_at "be")
  | ((with_reducible show xT _ _ _ _ _ _ _); walk_at "T")
  | ((with_reducible show xW _ _ _ _ _ _ _); walk_at "W")
  | ((with_reducible show xG _ _ _ _ _ _ _ _); walk_at "G")
  | ((with_reducible show xGs _ _ _ _ _ _ _ _); walk_at "Gs")
  | ((with_reducible show U3 _ _ _ _ _ _); (with_reducible refine' u_int ?_))
  | ((with_reducible show S3 _ _ _ _ _ _ _ _); walk_at "S3")
  | ((with_reducible show xI _ _ _ _ _ _ _ _); walk_at "I")
  | ((with_reducible show _ ≤ sizeLine ∧ _); (with_reducible refine' len16 ?hL ?_); (case hL => exact rfl)))
local macro_rules | `(tactic| walk_at "sd") => `(tactic| first | decide | omega | exact ⟨by decide, by decide⟩ | exact .inl ⟨by omega, by omega⟩ | exact .inr ⟨by omega, by omega⟩)
local macro_rules | `(tactic| walk_at "xn") => `(tactic| ((fail_if_success (with_reducible show xB _ _ _ (.If _ _ _ _ :: _ :: _) _ _ _)); walk_at "xx"))
variable {P : Program} {w : World} {K : PySem.W.Frag} {mg : Str → Option Value} {base : Heap} {T : List (Addr × Str)}
/-! ### is_whole, is_count -/
def wholeD : D → Option Bool
  | .int _ => some true
  | .non => some false
  | .bl _ => some false
  | .str _ => some false
  | .tup _ => some false
  | .lst _ => some false
  | _ => none
theorem whole_ty {x : D} {b : Bool} (h : wholeD x = some b) (G : Gm) : ∃ t bi bb, tyD G x = some t ∧ kitB t "int" = some bi ∧ (bi = false → b = false) ∧ (bi = true → kitB t "bool" = some bb ∧ b = !bb) := by
  cases x with
  | int i => cases h; exact ⟨"int", true, false, rfl, by decide +kernel, nofun, fun _ => ⟨by decide +kernel, rfl⟩⟩
  | non => cases h; exact ⟨"NoneType", false, false, rfl, by decide +kernel, fun _ => rfl, nofun⟩
  | bl i => cases h; exact ⟨"bool", true, true, rfl, by decide +kernel, nofun, fun _ => ⟨by decide +kernel, rfl⟩⟩
  | str i => cases h; exact ⟨"str", false, false, rfl, by decide +kernel, fun _ => rfl, nofun⟩
  | tup i => cases h; exact ⟨"tuple", false, false, rfl, by decide +kernel, fun _ => rfl, nofun⟩
  | lst i => cases h; exact ⟨"list", false, false, rfl, by decide +kernel, fun _ => rfl, nofun⟩
  | _ => cases h
def sp_is_whole : Sp3 := fun ds G Q _ => ∃ x b, ds = [x] ∧ wholeD x = some b ∧ Q (.bl b) G
section
set_option hygiene false in
local macro_rules | `(tactic| walk_at "Par") => `(tactic| first
  | fail)
set_option hygiene false in
local macro_rules | `(tactic| walk_at "Nam") => `(tactic| first
  | ((with_reducible refine' r_var 0 (x := "value") ?hN ?hv ?hs ?_); (case hN => exact ⟨rfl, by decide, by decide⟩); (case hv => walk_at "vv"); (case hs => exact rfl))
  | ((with_reducible refine' r_bltn (x := "int") (v := .ty "int") ?hg ?hm bt_int ?hr ?_ ?hn ?hd); (case hg => exact rfl); (case hm => exact Z.z_int); (case hr => exact rfl); (case hn => decide); (case hd => decide))
  | ((with_reducible refine' r_bltn (x := "bool") (v := .ty "bool") ?hg ?hm bt_bool ?hr ?_ ?hn ?hd); (case hg => exact rfl); (case hm => exact Z.z_bool); (case hr => exact rfl); (case hn => decide); (case hd => decide)))
set_option hygiene false in
local macro_rules | `(tactic| walk_at "Cal") => `(tactic| first
  | ((with_reducible refine' r_callB (x := "isinstance") (id := "isinstance") call_isi ?hg ?hm bt_isinstance ?_ ?hn ?hd ?he ?hp); (case hg => exact rfl); (case hm => exact Z.z_isinstance); (case hn => decide); (case hd => decide); (case he => exact rfl); (case hp => exact rfl)))
set_option hygiene false in
local macro_rules | `(tactic| walk_at "Rai") => `(tactic| first
  | fail)
set_option hygiene false in
local macro_rules | `(tactic| walk_at "Aug") => `(tactic| first
  | fail)
set_option hygiene false in
local macro_rules | `(tactic| walk_at "gv") => `(tactic| first
  | ((with_reducible refine' g_name 0 (x := "value") cx.nd ?hi ?hx ?_ ?hf); (case hi => exact rfl); (case hx => walk_at "ll"); (case hf => first | exact .inl rfl | exact .inr rfl)))

theorem d_is_whole (Z : Tx K mg) : Def3 P w K mg base T 1 false "is_whole" ["value"] sp_is_whole := by
  obtain ⟨fd, F⟩ := Z.f_is_whole
  refine def_ok F sc_is_whole Z.g_is_whole (fun ds G Q E h => ?_) fun A outer s H E O ds G Q3 E3 cx h => ?_
  · obtain ⟨x, b, rfl, _⟩ := h; rfl
  · obtain ⟨x, b, rfl, hb, q⟩ := h
    obtain ⟨t, bi, bb, ht, h1, h2, h3⟩ := whole_ty hb G
    walk_at "bb"
    walk_at "xx"
    refine r_and ?_
    repeat (walk_at "xx")
    refine c_isi ht h1 ⟨bi, rfl, fun e => ?_, fun e => ?_⟩
    · obtain ⟨h4, rfl⟩ := h3 e
      refine r_one (r_not ?_)
      repeat (walk_at "xx")
      exact c_isi ht h4 ⟨bb, rfl, q⟩
    · rw [h2 e] at q
      exact q
end
/-- is_count -/
def countD : D → Option Bool
  | .int i => some (decide (0 ≤ i))
  | x => wholeD x
theorem count_whole {x : D} {b : Bool} (h : countD x = some b) : ∃ c, wholeD x = some c ∧ (c = false → b = false) ∧ (c = true → ∃ i, x = .int i ∧ b = decide (0 ≤ i)) := by
  cases x with
  | int i => cases h; exact ⟨true, rfl, nofun, fun _ => ⟨i, rfl, rfl⟩⟩
  | _ => first | (cases h; exact ⟨false, rfl, fun _ => rfl, nofun⟩) | cases h
def sp_is_count : Sp3 := fun ds G Q _ => ∃ x b, ds = [x] ∧ countD x = some b ∧ Q (.bl b) G
section
set_option hygiene false in
local macro_rules | `(tactic| walk_at "Par") => `(tactic| first
  | fail)
set_option hygiene false in
local macro_rules | `(tactic| walk_at "Nam") => `(tactic| first
  | ((with_reducible refine' r_var 0 (x := "value") ?hN ?hv ?hs ?_); (case hN => exact ⟨rfl, by decide, by decide⟩); (case hv => walk_at "vv"); (case hs => exact rfl))
  | ((with_reducible refine' r_defv (x := "is_whole") (Z.g_is_whole) ?hk ?hg ?_ ?hd); (case hk => exact (d_is_whole Z)); (case hg => first | exact (fun z => z) | exact rfl); (case hd => decide)))
set_option hygiene false in
local macro_rules | `(tactic| walk_at "Cal") => `(tactic| first
  | ((with_reducible refine' r_call (x := "is_whole") cx ?hF ?hk ?hg ?hm ?_ ?hd ?he ?hp); (case hF => exact d_is_whole Z); (case hk => decide); (case hg => first | exact (fun z => z) | exact (fun z => nomatch z)); (case hm => exact rfl); (case hd => decide); (case he => exact rfl); (case hp => exact rfl)))
set_option hygiene false in
local macro_rules | `(tactic| walk_at "Rai") => `(tactic| first
  | fail)
set_option hygiene false in
local macro_rules | `(tactic| walk_at "Aug") => `(tactic| first
  | fail)
set_option hygiene false in
local macro_rules | `(tactic| walk_at "gv") => `(tactic| first
  | ((with_reducible refine' g_name 0 (x := "value") cx.nd ?hi ?hx ?_ ?hf); (case hi => exact rfl); (case hx => walk_at "ll"); (case hf => first | exact .inl rfl | exact .inr rfl)))

theorem d_is_count (Z : Tx K mg) : Def3 P w K mg base T 2 false "is_count" ["value"] sp_is_count := by
  obtain ⟨fd, F⟩ := Z.f_is_count
  refine def_ok F sc_is_count Z.g_is_count (fun ds G Q E h => ?_) fun A outer s H E O ds G Q3 E3 cx h => ?_
  · obtain ⟨x, b, rfl, _⟩ := h; rfl
  · obtain ⟨x, b, rfl, hb, q⟩ := h
    obtain ⟨c, hc, h1, h2⟩ := count_whole hb
    walk_at "bb"
    walk_at "xx"
    refine r_and ?_
    refine r_call cx (d_is_whole Z) (Nat.le_refl _) (fun z => z) rfl ?_
    repeat (walk_at "xx")
    refine ⟨x, c, rfl, hc, c, rfl, fun e => ?_, fun e => ?_⟩
    · obtain ⟨i, rfl, rfl⟩ := h2 e
      refine r_one ?_
      repeat (walk_at "xx")
      exact q
    · rw [h1 e] at q
      exact q
end
/-! ### the sums -/
abbrev payD (a b c d : Int) : D := .tup [.tup [.int a, .int b], .tup [.int c, .int d]]
def gainI (a b c d many m : Int) : Int := m * (d - b) + (many - 1 - m) * (c - a)
def sp_gain_in : Sp3 := fun ds G Q _ => ∃ a b c d many m : Int, ds = [payD a b c d, .int many, .int m] ∧ (0 ≤ m ∧ m < 1000) ∧ (0 ≤ many ∧ many ≤ 1000) ∧ Q (.int (gainI a b c d many m)) G
section
set_option hygiene false in
local macro_rules | `(tactic| walk_at "Par") => `(tactic| first
  | fail)
set_option hygiene false in
local macro_rules | `(tactic| walk_at "Nam") => `(tactic| first
  | ((with_reducible refine' r_var 0 (x := "pay") ?hN ?hv ?hs ?_); (case hN => exact ⟨rfl, by decide, by decide⟩); (case hv => walk_at "vv"); (case hs => exact rfl))
  | ((with_reducible refine' r_var 1 (x := "many") ?hN ?hv ?hs ?_); (case hN => exact ⟨rfl, by decide, by decide⟩); (case hv => walk_at "vv"); (case hs => exact rfl))
  | ((with_reducible refine' r_var 2 (x := "m") ?hN ?hv ?hs ?_); (case hN => exact ⟨rfl, by decide, by decide⟩); (case hv => walk_at "vv"); (case hs => exact rfl)))
set_option hygiene false in
local macro_rules | `(tactic| walk_at "Cal") => `(tactic| first
  | fail)
set_option hygiene false in
local macro_rules | `(tactic| walk_at "Rai") => `(tactic| first
  | fail)
set_option hygiene false in
local macro_rules | `(tactic| walk_at "Aug") => `(tactic| first
  | fail)
set_option hygiene false in
local macro_rules | `(tactic| walk_at "gv") => `(tactic| first
  | ((with_reducible refine' g_name 0 (x := "pay") cx.nd ?hi ?hx ?_ ?hf); (case hi => exact rfl); (case hx => walk_at "ll"); (case hf => first | exact .inl rfl | exact .inr rfl))
  | ((with_reducible refine' g_name 1 (x := "many") cx.nd ?hi ?hx ?_ ?hf); (case hi => exact rfl); (case hx => walk_at "ll"); (case hf => first | exact .inl rfl | exact .inr rfl))
  | ((with_reducible refine' g_name 2 (x := "m") cx.nd ?hi ?hx ?_ ?hf); (case hi => exact rfl); (case hx => walk_at "ll"); (case hf => first | exact .inl rfl | exact .inr rfl)))

theorem d_gain_in (Z : Tx K mg) : Def3 P w K mg base T 1 false "gain_in" ["pay", "many", "m"] sp_gain_in := by
  obtain ⟨fd, F⟩ := Z.f_gain_in
  refine def_ok F sc_gain_in Z.g_gain_in (fun ds G Q E h => ?_) fun A outer s H E O ds G Q3 E3 cx h => ?_
  · obtain ⟨a, b, c, d, many, m, rfl, _⟩ := h; rfl
  · obtain ⟨a, b, c, d, many, m, rfl, hm, hn, q⟩ := h
    walk_at "bb"
    repeat (first | walk_at "xx" | refine ix_t rfl ?_)
    exact q
    all_goals walk_at "sd"
end
def numS (n : Int) : Str := ("n" : Str) ++ Str.ofString (toString (n.fdiv 10)) ++ Str.ofString (toString (n.fmod 10))
def sp_numbered : Sp3 := fun ds G Q _ => ∃ n : Int, ds = [.int n] ∧ (0 ≤ n ∧ n < 1000) ∧ Q (.str (numS n)) G
section
set_option hygiene false in
local macro_rules | `(tactic| walk_at "Par") => `(tactic| first
  | fail)
set_option hygiene false in
local macro_rules | `(tactic| walk_at "Nam") => `(tactic| first
  | ((with_reducible refine' r_var 0 (x := "n") ?hN ?hv ?hs ?_); (case hN => exact ⟨rfl, by decide, by decide⟩); (case hv => walk_at "vv"); (case hs => exact rfl))
  | ((with_reducible refine' r_bltn (x := "str") (v := .ty "str") ?hg ?hm bt_str ?hr ?_ ?hn ?hd); (case hg => exact rfl); (case hm => exact Z.z_str); (case hr => exact rfl); (case hn => decide); (case hd => decide)))
set_option hygiene false in
local macro_rules | `(tactic| walk_at "Cal") => `(tactic| first
  | ((with_reducible refine' r_callTy (x := "str") (id := "str") call_strI ?hg ?hm bt_str ?_ ?hn ?hd ?he ?hp); (case hg => exact rfl); (case hm => exact Z.z_str); (case hn => decide); (case hd => decide); (case he => exact rfl); (case hp => exact rfl)))
set_option hygiene false in
local macro_rules | `(tactic| walk_at "Rai") => `(tactic| first
  | fail)
set_option hygiene false in
local macro_rules | `(tactic| walk_at "Aug") => `(tactic| first
  | fail)
set_option hygiene false in
local macro_rules | `(tactic| walk_at "gv") => `(tactic| first
  | ((with_reducible refine' g_name 0 (x := "n") cx.nd ?hi ?hx ?_ ?hf); (case hi => exact rfl); (case hx => walk_at "ll"); (case hf => first | exact .inl rfl | exact .inr rfl)))

theorem d_numbered (Z : Tx K mg) : Def3 P w K mg base T 1 false "numbered" ["n"] sp_numbered := by
  obtain ⟨fd, F⟩ := Z.f_numbered
  refine def_ok F sc_numbered Z.g_numbered (fun ds G Q E h => ?_) fun A outer s H E O ds G Q3 E3 cx h => ?_
  · obtain ⟨n, rfl, _⟩ := h; rfl
  · obtain ⟨n, rfl, hn, q⟩ := h
    have e1 : n.fdiv 10 = n / 10 := by rw [Int.fdiv_eq_ediv_of_nonneg _ (by decide)]
    have e2 : n.fmod 10 = n % 10 := by rw [Int.fmod_eq_emod_of_nonneg _ (by decide)]
    have h1 : (n.fdiv 10).natAbs < 2 ^ 64 := by rw [e1]; omega
    have h2 : (n.fmod 10).natAbs < 2 ^ 64 := by rw [e2]; omega
    have l1 := len_str h1
    have l2 := len_str h2
    have ln : (Str.ofString "n").length = 1 := rfl
    walk_at "bb"
    repeat (first | walk_at "xx")
    exact q
    · rw [strLen_append, ln, szl]; omega
    · exact lg h2
    · rw [ln, szl]; omega
    · exact lg h1
end
end K58
end
section
set_option maxHeartbeats 4000000
namespace K58
open PySem PySem.Spec PyProof.Rows L2 L3
local macro_rules | `(tactic| walk_at "sc") => `(tactic| first | omega | exact ⟨by omega, by omega⟩ | exact cmul_fmod (by decide) (by decide) | exact .inl ⟨by omega, by omega⟩ | exact .inr ⟨by omega, by omega⟩ | exact ⟨by omega, by omega, by omega⟩)
local macro_rules | `(tactic| walk_at "vv") => `(tactic| first | exact Or.inl rfl | exact Or.inr (Or.inl rfl) | exact Or.inr (Or.inr rfl))
local macro_rules | `(tactic| walk_at "ll") => `(tactic| first | exact Or.inl rfl | exact Or.inr rfl)
set_option hygiene false in
local macro_rules | `(tactic| walk_at "A") => `(tactic| first
  | ((with_reducible refine' a_cons ?_ ?hs); (case hs => exact rfl))
  | (with_reducible refine' a_nil ?_))
set_option hygiene false in
local macro_rules | `(tactic| walk_at "Con") => `(tactic| first
  | (with_reducible refine' r_int ?_)
  | (with_reducible refine' r_str ?_)
  | (with_reducible refine' r_non ?_)
  | (with_reducible refine' r_bl ?_))
set_option hygiene false in
local macro_rules | `(tactic| walk_at "Bin") => `(tactic| first
  | ((with_reducible show xE _ _ _ (.BinOp _ .Add _ _) _ _ _); (with_reducible refine' r_op op_addA ?_))
  | ((with_reducible show xE _ _ _ (.BinOp _ .Sub _ _) _ _ _); (with_reducible refine' r_op op_sub ?_))
  | ((with_reducible show xE _ _ _ (.BinOp _ .Mult _ _) _ _ _); (with_reducible refine' r_op op_mul ?_))
  | ((with_reducible show xE _ _ _ (.BinOp _ .FloorDiv _ _) _ _ _); (with_reducible refine' r_op op_fdivN ?_))
  | ((with_reducible show xE _ _ _ (.BinOp _ .Mod _ _) _ _ _); (with_reducible refine' r_op op_modN ?_))
  | ((with_reducible show xE _ _ _ (.BinOp _ .Pow _ _) _ _ _); (with_reducible refine' r_op op_pow ?_)))
set_option hygiene false in
local macro_rules | `(tactic| walk_at "Cmp") => `(tactic| first
  | ((with_reducible show xE _ _ _ (.Compare _ [.Lt] _ _) _ _ _); (with_reducible refine' r_cmp op_lt ?hm ?_); (case hm => exact rfl))
  | ((with_reducible show xE _ _ _ (.Compare _ [.LtE] _ _) _ _ _); (with_reducible refine' r_cmp op_le ?hm ?_); (case hm => exact rfl))
  | ((with_reducible show xE _ _ _ (.Compare _ [.Gt] _ _) _ _ _); (with_reducible refine' r_cmp op_gt ?hm ?_); (case hm => exact rfl))
  | ((with_reducible show xE _ _ _ (.Compare _ [.GtE] _ _) _ _ _); (with_reducible refine' r_cmp op_ge ?hm ?_); (case hm => exact rfl))
  | ((with_reducible show xE _ _ _ (.Compare _ [.Eq] _ _) _ _ _); (with_reducible refine' r_cmp (op_eqB cx.hu64) ?hm ?_); (case hm => exact rfl))
  | ((with_reducible show xE _ _ _ (.Compare _ [.NotEq] _ _) _ _ _); (with_reducible refine' r_cmp (op_neB cx.hu64) ?hm ?_); (case hm => exact rfl))
  | ((with_reducible show xE _ _ _ (.Compare _ [.Is] _ _) _ _ _); (with_reducible refine' r_cmp op_isN1 ?hm ?_); (case hm => exact rfl))
  | ((with_reducible show xE _ _ _ (.Compare _ [.IsNot] _ _) _ _ _); (with_reducible refine' r_cmp op_notN1 ?hm ?_); (case hm => exact rfl)))
set_option hygiene false in
local macro_rules | `(tactic| walk_at "TCmp") => `(tactic| first
  | ((with_reducible show xT _ _ _ (.Compare _ [.Lt] _ _) _ _ _); (with_reducible refine' t_cmp op_lt ?hm ?_); (case hm => exact rfl))
  | ((with_reducible show xT _ _ _ (.Compare _ [.LtE] _ _) _ _ _); (with_reducible refine' t_cmp op_le ?hm ?_); (case hm => exact rfl))
  | ((with_reducible show xT _ _ _ (.Compare _ [.Gt] _ _) _ _ _); (with_reducible refine' t_cmp op_gt ?hm ?_); (case hm => exact rfl))
  | ((with_reducible show xT _ _ _ (.Compare _ [.GtE] _ _) _ _ _); (with_reducible refine' t_cmp op_ge ?hm ?_); (case hm => exact rfl))
  | ((with_reducible show xT _ _ _ (.Compare _ [.Eq] _ _) _ _ _); (with_reducible refine' t_cmp (op_eqB cx.hu64) ?hm ?_); (case hm => exact rfl))
  | ((with_reducible show xT _ _ _ (.Compare _ [.NotEq] _ _) _ _ _); (with_reducible refine' t_cmp (op_neB cx.hu64) ?hm ?_); (case hm => exact rfl))
  | ((with_reducible show xT _ _ _ (.Compare _ [.Is] _ _) _ _ _); (with_reducible refine' t_cmp op_isN1 ?hm ?_); (case hm => exact rfl))
  | ((with_reducible show xT _ _ _ (.Compare _ [.IsNot] _ _) _ _ _); (with_reducible refine' t_cmp op_notN1 ?hm ?_); (case hm => exact rfl))
  | ((with_reducible show xT _ _ _ (.Compare _ [.LtE, .LtE] _ _) _ _ _); (with_reducible refine' t_chain op_le op_le ?_ ?hl); (case hl => exact rfl))
  | ((with_reducible show xT _ _ _ (.Compare _ [.Lt, .Lt] _ _) _ _ _); (with_reducible refine' t_chain op_lt op_lt ?_ ?hl); (case hl => exact rfl))
  | ((with_reducible show xT _ _ _ (.Compare _ [.LtE, .Lt] _ _) _ _ _); (with_reducible refine' t_chain op_le op_lt ?_ ?hl); (case hl => exact rfl))
  | ((with_reducible show xT _ _ _ (.Compare _ [.Lt, .LtE] _ _) _ _ _); (with_reducible refine' t_chain op_lt op_le ?_ ?hl); (case hl => exact rfl)))
set_option hygiene false in
local macro_rules | `(tactic| walk_at "E") => `(tactic| first
  | ((with_reducible show xE _ _ _ (.Name _ _) _ _ _); walk_at "Nam")
  | ((with_reducible show xE _ _ _ (.Constant _ _ _) _ _ _); walk_at "Con")
  | ((with_reducible show xE _ _ _ (.BinOp _ _ _ _) _ _ _); walk_at "Bin")
  | ((with_reducible show xE _ _ _ (.Call _ _ _ _) _ _ _); walk_at "Cal")
  | ((with_reducible show xE _ _ _ (.Tuple _ _ _) _ _ _); (with_reducible refine' r_tup ?_))
  | ((with_reducible show xE _ _ _ (.Subscript _ (.Slice _ _ _ _) _) _ _ _); (with_reducible refine' r_slice ?_))
  | ((with_reducible show xE _ _ _ (.Subscript _ _ _) _ _ _); (refine r_sub cx.hu ?_))
  | ((with_reducible show xE _ _ _ (.Compare _ _ _ _) _ _ _); walk_at "Cmp")
  | ((with_reducible show xE _ _ _ (.IfExp _ _ _ _) _ _ _); (with_reducible refine' r_if ?_))
  | ((with_reducible show xE _ _ _ (.UnaryOp .USub _ _) _ _ _); (with_reducible refine' r_un un_neg ?_))
  | ((with_reducible show xE _ _ _ (.UnaryOp .Not _ _) _ _ _); (with_reducible refine' r_not ?_))
  | ((with_reducible show xE _ _ _ (.BoolOp .And (_ :: _ :: _) _) _ _ _); (with_reducible refine' r_and ?_))
  | ((with_reducible show xE _ _ _ (.BoolOp .Or (_ :: _ :: _) _) _ _ _); (with_reducible refine' r_or ?_))
  | ((with_reducible show xE _ _ _ (.BoolOp _ [_] _) _ _ _); (with_reducible refine' r_one ?_)))
set_option hygiene false in
local macro_rules | `(tactic| walk_at "T") => `(tactic| first
  | ((with_reducible show xT _ _ _ (.Compare _ _ _ _) _ _ _); walk_at "TCmp")
  | ((with_reducible show xT _ _ _ (.UnaryOp .Not _ _) _ _ _); (with_reducible refine' t_not ?_))
  | ((with_reducible show xT _ _ _ (.BoolOp .And _ _) _ _ _); (with_reducible refine' t_w (t_and ?_)))
  | ((with_reducible show xT _ _ _ (.BoolOp .Or _ _) _ _ _); (with_reducible refine' t_w (t_or ?_)))
  | ((with_reducible show xT _ _ _ (.Call _ _ _ _) _ _ _); (with_reducible refine' t_val ?_ ?he); (case he => intro _; rfl))
  | ((with_reducible show xT _ _ _ (.ListComp _ _ _ _) _ _ _); fail)
  | ((with_reducible show xT _ _ _ (.Name _ _) _ _ _); fail)
  | ((with_reducible refine' t_val ?_ ?he); (case he => intro _; rfl)))
set_option hygiene false in
local macro_rules | `(tactic| walk_at "W") => `(tactic| first
  | (with_reducible refine' t_and ?_)
  | (with_reducible refine' t_or ?_)
  | (with_reducible refine' t_and1 ?_)
  | (with_reducible refine' t_or1 ?_))
set_option hygiene false in
local macro_rules | `(tactic| walk_at "S") => `(tactic| first
  | ((with_reducible show xS _ _ _ (.If _ _ _ _) _ _ _); (with_reducible refine' s_if ?_))
  | ((with_reducible show xS _ _ _ (.Assign [.Tuple [.Name _ _, .Name _ _] _ _] (.Tuple [_, _] _ _) _) _ _ _); walk_at "Par")
  | ((with_reducible show xS _ _ _ (.Assign _ _ _) _ _ _); (with_reducible refine' s_asg ?_ ?hs ?hw ?h1); (case hs => exact rfl); (case hw => exact rfl); (case h1 => exact rfl))
  | ((with_reducible show xS _ _ _ (.Return (some _) _) _ _ _); (with_reducible refine' s_ret ?_))
  | ((with_reducible show xS _ _ _ (.Expr _ _) _ _ _); (with_reducible refine' s_expr ?_ ?hs); (case hs => exact rfl))
  | ((with_reducible show xS _ _ _ (.For _ _ _ _ _) _ _ _); (with_reducible refine' s_for cx.po cx.calm ?_ ?hs); (case hs => exact fun _ => rfl))
  | ((with_reducible show xS _ _ _ (.Raise _ _ _) _ _ _); walk_at "Rai")
  | ((with_reducible show xS _ _ _ (.AugAssign _ _ _ _) _ _ _); walk_at "Aug")
  | (with_reducible refine' s_pass ?_)
  | (with_reducible refine' s_break ?_)
  | (with_reducible refine' s_cont ?_)
  | (with_reducible refine' s_retN ?_))
set_option hygiene false in
local macro_rules | `(tactic| walk_at "G") => `(tactic| first
  | ((with_reducible show xG _ _ _ (.Name _ _) _ _ _ _); walk_at "gv")
  | ((with_reducible show xG _ _ _ (.Tuple _ _ _) _ _ _ _); (with_reducible refine' g_tup cx.calm ?_ ?hn ?hst); (case hn => exact rfl); (case hst => exact rfl))
  | ((with_reducible show xG _ _ _ (.Subscript _ _ _) _ _ _ _); (refine g_sub cx.hu ?_)))
set_option hygiene false in
local macro_rules | `(tactic| walk_at "Gs") => `(tactic| first
  | ((with_reducible refine' gs_cons ?_ ?hs); (case hs => exact rfl))
  | (with_reducible refine' gs_nil ?_))
set_option hygiene false in
local macro_rules | `(tactic| walk_at "O") => `(tactic| first
  | (with_reducible refine' p_int ?_)
  | (with_reducible refine' o_int0 ?_)
  | (with_reducible refine' o_bl0 ?_)
  | ((with_reducible refine' o_int ?_ ?hc); (case hc => walk_at "sc"))
  | (with_reducible refine' o_int ?_ ?_)
  | (with_reducible refine' e_int ?_)
  | (with_reducible refine' n_int ?_)
  | (with_reducible refine' e_str ?_)
  | (with_reducible refine' n_str ?_)
  | (with_reducible refine' o_isN ?_)
  | (with_reducible refine' o_notN ?_)
  | (with_reducible refine' p_str ?_ ?_))
set_option hygiene false in
local macro_rules | `(tactic| walk_at "C") => `(tactic| first
  | (with_reducible refine' len_t ?_)
  | (with_reducible refine' len_l ?_)
  | (with_reducible refine' c_abs ?_)
  | (with_reducible refine' c_int ?_)
  | (with_reducible refine' c_intB ?_)
  | (with_reducible refine' c_min2 ?_)
  | (with_reducible refine' c_max2 ?_)
  | (with_reducible refine' c_str ?_ ?_))
set_option hygiene false in
local macro_rules | `(tactic| walk_at "S3") => `(tactic| first
  | (with_reducible refine' s_t ?_)
  | (with_reducible refine' s_s ?_ ?_))
set_option hygiene false in
local macro_rules | `(tactic| walk_at "bb") => `(tactic| first
  | (with_reducible refine b_cons ?_)
  | (with_reducible refine b_one ?_)
  | (with_reducible refine b_nil ?_)
  | (refine b_cons ?_)
  | (refine b_one ?_)
  | (refine b_nil ?_))
set_option hygiene false in
local macro_rules | `(tactic| walk_at "I") => `(tactic| first
  | ((with_reducible refine' i_range1 ?hg ?hm ?_ ?hs); (case hg => exact rfl); (case hm => exact Z.z_range); (case hs => exact rfl))
  | ((with_reducible refine' i_range2 ?hg ?hm ?_ ?hs ?hs2); (case hg => exact rfl); (case hm => exact Z.z_range); (case hs => exact rfl); (case hs2 => exact rfl)))
local macro_rules | `(tactic| walk_at "be") => `(tactic| first
  | (with_reducible refine b_cons ?_)
  | (with_reducible refine b_one ?_)
  | (with_reducible refine b_nil ?_))
set_option hygiene false in
local macro_rules | `(tactic| walk_at "xx") => `(tactic| first
  | ((with_reducible show xE _ _ _ _ _ _ _); walk_at "E")
  | ((with_reducible show xA _ _ _ _ _ _ _); walk_at "A")
  | ((with_reducible show O3 _ _ _ _ _ _ _); walk_at "O")
  | ((with_reducible show C3 _ _ _ _ _ _); walk_at "C")
  | ((with_reducible show xS _ _ _ _ _ _ _); walk_at "S")
  | ((with_reducible show xB _ _ _ _ _ _ _); walk_at "be")
  | ((with_reducible show xT _ _ _ _ _ _ _); walk_at "T")
  | ((with_reducible show xW _ _ _ _ _ _ _); walk_at "W")
  | ((with_reducible show xG _ _ _ _ _ _ _ _); walk_at "G")
  | ((with_reducible show xGs _ _ _ _ _ _ _ _); walk_at "Gs")
  | ((with_reducible show U3 _ _ _ _ _ _); (with_reducible refine' u_int ?_))
  | ((with_reducible show S3 _ _ _ _ _ _ _ _); walk_at "S3")
  | ((with_reducible show xI _ _ _ _ _ _ _ _); walk_at "I")
  | ((with_reducible show _ ≤ sizeLine ∧ _); (with_reducible refine' len16 ?hL ?_); (case hL => exact rfl)))
local macro_rules | `(tactic| walk_at "sd") => `(tactic| first | decide | omega | exact ⟨by decide, by decide⟩ | exact .inl ⟨by omega, by omega⟩ | exact .inr ⟨by omega, by omega⟩)
local macro_rules | `(tactic| walk_at "xn") => `(tactic| ((fail_if_success (with_reducible show xB _ _ _ (.If _ _ _ _ :: _ :: _) _ _ _)); walk_at "xx"))
variable {P : Program} {w : World} {K : PySem.W.Frag} {mg : Str → Option Value} {base : Heap} {T : List (Addr × Str)}
theorem okP_ty {x : D} (h : okP x = true) (G : Gm) : ∃ t b, tyD G x = some t ∧ kitB t "tuple" = some b ∧ (b = true → ∃ es, x = .tup es) ∧ (b = false → ∀ es, x ≠ .tup es) := by
  cases x with
  | int i => exact ⟨"int", false, rfl, by decide +kernel, nofun, fun _ _ z => by cases z⟩
  | non => exact ⟨"NoneType", false, rfl, by decide +kernel, nofun, fun _ _ z => by cases z⟩
  | bl i => exact ⟨"bool", false, rfl, by decide +kernel, nofun, fun _ _ z => by cases z⟩
  | str i => exact ⟨"str", false, rfl, by decide +kernel, nofun, fun _ _ z => by cases z⟩
  | tup i => exact ⟨"tuple", true, rfl, by decide +kernel, fun _ => ⟨i, rfl⟩, nofun⟩
  | lst i => exact ⟨"list", false, rfl, by decide +kernel, nofun, fun _ _ z => by cases z⟩
  | _ => cases h
theorem okP_whole {x : D} (h : okP x = true) : ∃ b, wholeD x = some b := by
  cases x <;> first | exact ⟨_, rfl⟩ | cases h
def wh (x : D) : Bool := (wholeD x).getD false
theorem wh_of {x : D} (h : okP x = true) : wholeD x = some (wh x) := by
  obtain ⟨b, e⟩ := okP_whole h
  unfold wh; rw [e]; rfl
theorem oksP_mem : ∀ {ds : List D}, oksP ds = true → ∀ d ∈ ds, okP d = true
  | [], _, _, h => by cases h
  | x :: xs, h, d, hd => by
    obtain ⟨h1, h2⟩ := Bool.and_eq_true_iff.mp (show (okP x && oksP xs) = true from h)
    rcases List.mem_cons.mp hd with rfl | hd
    · exact h1
    · exact oksP_mem h2 d hd
def rowOk : D → Bool
  | .tup es => decide (es.length = 2)
  | _ => false
def itemsD : D → List D
  | .tup es => es
  | _ => []
def payOk : D → Bool
  | .tup es => decide (es.length = 2) && (es.all rowOk && (es.flatMap itemsD).all wh)
  | _ => false
def manyOk : D → Bool
  | .int m => decide (1 ≤ m) && decide (m ≤ 99)
  | _ => false
def eKept (K : PySem.W.Frag) (pay : D) (E : Value → List (Str × D) → Gm → Prop) (G : Gm) : Prop := E (.ref (He.ga K "NotKept")) [("witness", pay), ("promise", .str "pay")] G
def eNum (K : PySem.W.Frag) (what : Str) (x : D) (E : Value → List (Str × D) → Gm → Prop) (G : Gm) : Prop := E (.ref (He.ga K "BadNumber")) [("number", x), ("what", .str what)] G
/-- what is asked of (pay, many), then R -/
def spNeed (K : PySem.W.Frag) (pay many : D) (G : Gm) (E : Value → List (Str × D) → Gm → Prop) (R : Prop) : Prop := okP pay = true ∧ okP many = true ∧ (payOk pay = false → eKept K pay E G) ∧ (payOk pay = true → manyOk many = false → eNum K "many" many E G) ∧ (payOk pay = true → manyOk many = true → R)
def sp_need_crowd (K : PySem.W.Frag) : Sp3 := fun ds G Q E => ∃ pay many, ds = [pay, many] ∧ spNeed K pay many G E (Q .non G)
theorem wh_int {x : D} (h : wh x = true) : ∃ m, x = .int m := by
  cases x <;> first | exact ⟨_, rfl⟩ | cases h
theorem rows4 {es : List D} (el : es.length = 2) (h : es.all rowOk = true) : (es.flatMap itemsD).length = 4 := by
  match es, el with
  | [a, b], _ =>
    obtain ⟨h1, h2⟩ := Bool.and_eq_true_iff.mp (show (rowOk a && (rowOk b && true)) = true from h)
    rw [Bool.and_true] at h2
    cases a <;> first | cases h1 | skip
    cases b <;> first | cases h2 | skip
    simp only [rowOk, decide_eq_true_eq] at h1 h2
    simp [itemsD, h1, h2]
theorem exc_NotKept (Z : Tx K mg) : Exc3 P w K mg base "NotKept" (He.ga K "NotKept") ["promise", "witness"] := by
  obtain ⟨fd, F⟩ := Z.i_NotKept
  exact exc_two Z.x_NotKept Z.gc_NotKept F si_NotKept rfl (by walk_at "vv") (by walk_at "vv") (by walk_at "vv") (by decide) (by decide) (by decide) (by decide) (F.bindsN fun _ _ _ _ _ _ us hl => match us, hl with | [_, _, _], _ => rfl)
theorem exc_BadNumber (Z : Tx K mg) : Exc3 P w K mg base "BadNumber" (He.ga K "BadNumber") ["what", "number"] := by
  obtain ⟨fd, F⟩ := Z.i_BadNumber
  exact exc_two Z.x_BadNumber Z.gc_BadNumber F si_BadNumber rfl (by walk_at "vv") (by walk_at "vv") (by walk_at "vv") (by decide) (by decide) (by decide) (by decide) (F.bindsN fun _ _ _ _ _ _ us hl => match us, hl with | [_, _, _], _ => rfl)
section
set_option hygiene false in
local macro_rules | `(tactic| walk_at "Par") => `(tactic| first
  | fail)
set_option hygiene false in
local macro_rules | `(tactic| walk_at "Nam") => `(tactic| first
  | ((with_reducible refine' r_var 0 (x := "pay") ?hN ?hv ?hs ?_); (case hN => exact ⟨rfl, by decide, by decide⟩); (case hv => walk_at "vv"); (case hs => exact rfl))
  | ((with_reducible refine' r_var 1 (x := "many") ?hN ?hv ?hs ?_); (case hN => exact ⟨rfl, by decide, by decide⟩); (case hv => walk_at "vv"); (case hs => exact rfl))
  | ((with_reducible refine' r_var 2 (x := "row") ?hN ?hv ?hs ?_); (case hN => exact ⟨rfl, by decide, by decide⟩); (case hv => walk_at "vv"); (case hs => exact rfl))
  | ((with_reducible refine' r_var 3 (x := "item") ?hN ?hv ?hs ?_); (case hN => exact ⟨rfl, by decide, by decide⟩); (case hv => walk_at "vv"); (case hs => exact rfl))
  | ((with_reducible refine' r_bltn (x := "tuple") (v := .ty "tuple") ?hg ?hm bt_tuple ?hr ?_ ?hn ?hd); (case hg => exact rfl); (case hm => exact Z.z_tuple); (case hr => exact rfl); (case hn => decide); (case hd => decide))
  | ((with_reducible refine' r_defv (x := "is_whole") (Z.g_is_whole) ?hk ?hg ?_ ?hd); (case hk => exact (d_is_whole Z)); (case hg => first | exact (fun z => z) | exact rfl); (case hd => decide)))
set_option hygiene false in
local macro_rules | `(tactic| walk_at "Cal") => `(tactic| first
  | ((with_reducible refine' r_callB (x := "all") (id := "all") (cr_all cx.calm) ?hg ?hm bt_all ?_ ?hn ?hd ?he ?hp); (case hg => exact rfl); (case hm => exact Z.z_all); (case hn => decide); (case hd => decide); (case he => exact rfl); (case hp => exact rfl))
  | ((with_reducible refine' r_callB (x := "isinstance") (id := "isinstance") call_isi ?hg ?hm bt_isinstance ?_ ?hn ?hd ?he ?hp); (case hg => exact rfl); (case hm => exact Z.z_isinstance); (case hn => decide); (case hd => decide); (case he => exact rfl); (case hp => exact rfl))
  | ((with_reducible refine' r_callB (x := "len") (id := "len") call_lenA ?hg ?hm bt_len ?_ ?hn ?hd ?he ?hp); (case hg => exact rfl); (case hm => exact Z.z_len); (case hn => decide); (case hd => decide); (case he => exact rfl); (case hp => exact rfl))
  | ((with_reducible refine' r_call (x := "is_whole") cx ?hF ?hk ?hg ?hm ?_ ?hd ?he ?hp); (case hF => exact d_is_whole Z); (case hk => decide); (case hg => first | exact (fun z => z) | exact (fun z => nomatch z)); (case hm => exact rfl); (case hd => decide); (case he => exact rfl); (case hp => exact rfl)))
set_option hygiene false in
local macro_rules | `(tactic| walk_at "Rai") => `(tactic| first
  | ((with_reducible refine' s_raise (x := "NotKept") cx ?hk ?hF ?hg ?_ ?hd ?he ?hp); (case hk => decide); (case hF => exact exc_NotKept Z); (case hg => exact rfl); (case hd => decide); (case he => exact rfl); (case hp => exact rfl))
  | ((with_reducible refine' s_raise (x := "BadNumber") cx ?hk ?hF ?hg ?_ ?hd ?he ?hp); (case hk => decide); (case hF => exact exc_BadNumber Z); (case hg => exact rfl); (case hd => decide); (case he => exact rfl); (case hp => exact rfl)))
set_option hygiene false in
local macro_rules | `(tactic| walk_at "Aug") => `(tactic| first
  | fail)
set_option hygiene false in
local macro_rules | `(tactic| walk_at "gv") => `(tactic| first
  | ((with_reducible refine' g_name 0 (x := "pay") cx.nd ?hi ?hx ?_ ?hf); (case hi => exact rfl); (case hx => walk_at "ll"); (case hf => first | exact .inl rfl | exact .inr rfl))
  | ((with_reducible refine' g_name 1 (x := "many") cx.nd ?hi ?hx ?_ ?hf); (case hi => exact rfl); (case hx => walk_at "ll"); (case hf => first | exact .inl rfl | exact .inr rfl))
  | ((with_reducible refine' g_name 2 (x := "row") cx.nd ?hi ?hx ?_ ?hf); (case hi => exact rfl); (case hx => walk_at "ll"); (case hf => first | exact .inl rfl | exact .inr rfl))
  | ((with_reducible refine' g_name 3 (x := "item") cx.nd ?hi ?hx ?_ ?hf); (case hi => exact rfl); (case hx => walk_at "ll"); (case hf => first | exact .inl rfl | exact .inr rfl)))
set_option hygiene false in
local macro_rules | `(tactic| walk_at "cv") => `(tactic| first
  | ((with_reducible refine' r_lc (own := [("row", 2)]) (tg := .Name "row" _) cx.calm cx.nd ?hok (tg_name 2 (by decide)) ?hg ?_ ?hs); (case hok => exact blkOk_by (N := ["pay", "many", "row", "item"]) (sc := defScope s_need_crowd) (by decide +kernel)); (case hg => exact fun _ _ _ _ _ => pg_name (i := 2) cx.nd rfl (Or.inl rfl)); (case hs => exact fun _ => rfl)))
set_option hygiene false in
local macro_rules | `(tactic| walk_at "cvO") => `(tactic| first
  | ((with_reducible refine' r_lcO (own := [("row", 2)]) (tg := .Name "row" _) cx.calm cx.nd ?hok (tg_name 2 (by decide)) ?hg ?_ ?hs); (case hok => exact blkOk_by (N := ["pay", "many", "row", "item"]) (sc := defScope s_need_crowd) (by decide +kernel)); (case hg => exact fun _ _ _ _ _ => pg_name (i := 2) cx.nd rfl (Or.inl rfl)); (case hs => exact fun _ => rfl)))
set_option hygiene false in
local macro_rules | `(tactic| walk_at "cv2") => `(tactic| first
  | ((with_reducible refine' r_lc2 (own := [("row", 2), ("item", 3)]) (vs1 := [3]) (tg := .Name "row" _) (tg1 := .Name "item" _) cx.calm cx.nd ?hok ?hv (tg_name 2 (by decide)) (tg_name 3 (by decide)) ?hg ?hg1 ?_ ?hs ?hs1); (case hok => exact blkOk_by (N := ["pay", "many", "row", "item"]) (sc := defScope s_need_crowd) (by decide +kernel)); (case hv => decide); (case hg => exact fun _ _ _ _ _ => pg_name (i := 2) cx.nd rfl (Or.inl rfl)); (case hg1 => exact fun _ _ _ _ _ => pg_name (i := 3) cx.nd rfl (Or.inl rfl)); (case hs => exact fun _ => rfl); (case hs1 => exact fun _ _ => rfl)))

theorem d_need_crowd (Z : Tx K mg) : Def3 P w K mg base T 3 false "need_crowd" ["pay", "many"] (sp_need_crowd K) := by
  obtain ⟨fd, F⟩ := Z.f_need_crowd
  refine def_ok F sc_need_crowd Z.g_need_crowd (fun ds G Q E h => ?_) fun A outer s H E O ds G Q3 E3 cx h => ?_
  · obtain ⟨pay, many, rfl, _⟩ := h; rfl
  · obtain ⟨pay, many, rfl, okp, okm, k1, k2, k3⟩ := h
    obtain ⟨t, b, ht, hb, hy, hn⟩ := okP_ty okp G
    walk_at "bb"
    repeat (walk_at "xx")
    refine c_isi ht hb ?_
    refine ⟨b, rfl, fun e => ?_, fun e => ?_⟩
    · obtain ⟨es, rfl⟩ := hy (by simpa using e)
      repeat (walk_at "xx")
      refine ⟨_, rfl, fun e2 => ?_, fun e2 => ?_⟩
      · walk_at "bb"
        repeat (walk_at "xx")
        refine ⟨rfl, by decide, k1 ?_⟩
        have e3 : ¬ es.length = 2 := by intro z; simp [z] at e2
        simp [payOk, e3]
      · have el : es.length = 2 := by simp at e2; omega
        walk_at "bb"
        repeat (walk_at "xx")
        walk_at "cv"
        repeat (first | walk_at "xx" | refine i_tup ?_)
        refine ⟨es, rfl, ?_⟩
        refine lc_mapX cx (fun d => .bl (rowOk d)) (by rw [el]; decide) (fun _ _ _ => trivial) (fun i d hd => ?_) ?_
        · have okd := oksP_mem (show oksP es = true from okp) d (List.mem_of_getElem? hd)
          refine ⟨_, rfl, fun A1 h1 g1 s1 H1 Cc cl fp cx => ?_⟩
          obtain ⟨t1, b1, ht1, hb1, hy1, hn1⟩ := okP_ty okd (gset G A1 h1)
          refine r_and ?_
          repeat (walk_at "xx")
          refine c_isi ht1 hb1 ?_
          refine ⟨b1, rfl, fun e => ?_, fun e => ?_⟩
          · obtain ⟨es1, rfl⟩ := hy1 e
            refine r_one ?_
            repeat (walk_at "xx")
            refine ⟨?_, rfl⟩
            simp [rowOk]
            omega
          · refine ⟨?_, rfl⟩
            have e3 := hn1 e
            cases d <;> first | rfl | exact absurd rfl (e3 _)
        · repeat (walk_at "xx")
          refine c_all (bs := es.map rowOk) (by rw [List.map_map]; exact .inl rfl) ?_
          rw [List.all_map]
          refine ⟨_, rfl, fun e3 => ?_, fun e3 => ?_⟩
          · repeat (walk_at "xx")
            refine ⟨rfl, by decide, k1 ?_⟩
            simp only [Bool.not_eq_true'] at e3
            show (decide (es.length = 2) && (es.all rowOk && _)) = false
            rw [show es.all rowOk = false from e3]
            simp
          · have e3 : es.all rowOk = true := by simpa using e3
            repeat (walk_at "xx")
            walk_at "cv2"
            repeat (first | walk_at "xx" | refine i_tup ?_)
            refine ⟨es, rfl, ?_⟩
            refine lc2_mapX cx itemsD (fun _ x => .bl (wh x)) ?_ (fun _ _ _ => trivial) (fun i d hd => ?_) ?_
            · rw [rows4 el e3, szl]; decide
            · have okd := oksP_mem (show oksP es = true from okp) d (List.mem_of_getElem? hd)
              have rod := List.all_eq_true.mp e3 d (List.mem_of_getElem? hd)
              cases d with
              | tup ws =>
                refine ⟨_, rfl, fun A1 h1 g1 s1 H1 Cc cl fp cx => ?_⟩
                repeat (first | walk_at "xx" | refine i_tup ?_)
                refine ⟨ws, rfl, rfl, rfl, fun _ => trivial, fun j d1 hd1 => ?_⟩
                have okx := oksP_mem (show oksP ws = true from okd) d1 (List.mem_of_getElem? hd1)
                refine ⟨_, rfl, fun h2 s1 H1 Cc cl fp cx => ?_⟩
                repeat (walk_at "xx")
                exact ⟨d1, _, rfl, wh_of okx, rfl, rfl⟩
              | _ => cases rod
            · repeat (walk_at "xx")
              refine c_all (bs := (es.flatMap itemsD).map wh) (by rw [List.map_flatMap, List.map_flatMap]; simp only [List.map_map]; exact .inl rfl) ?_
              have pe : payOk (.tup es) = (es.flatMap itemsD).all wh := by
                show (decide (es.length = 2) && (es.all rowOk && _)) = _
                rw [el, e3]; rfl
              rw [List.all_map]
              refine ⟨_, rfl, fun e4 => ?_, fun e4 => ?_⟩
              · repeat (walk_at "xx")
                refine ⟨rfl, by decide, k1 ?_⟩
                rw [pe]
                simpa using e4
              · have e4 : payOk (.tup es) = true := by rw [pe]; simpa using e4
                repeat (walk_at "xx")
                refine ⟨many, _, rfl, wh_of okm, _, rfl, fun e5 => ?_, fun e5 => ?_⟩
                · obtain ⟨m, rfl⟩ := wh_int (by simpa using e5)
                  repeat (walk_at "xx")
                  refine ⟨_, rfl, fun e6 => ?_, fun e6 => ?_⟩
                  · repeat (walk_at "xx")
                    refine ⟨_, rfl, fun e7 => ?_, fun e7 => ?_⟩
                    · repeat (walk_at "xx")
                      refine ⟨rfl, by decide, k2 e4 ?_⟩
                      have e7 : ¬ m ≤ 99 := by simpa using e7
                      simp [manyOk, e7]
                    · repeat (walk_at "xx")
                      have e7 : m ≤ 99 := by simpa using e7
                      have e6 : 1 ≤ m := by simpa using e6
                      exact k3 e4 (by simp [manyOk, e6, e7])
                  · refine ⟨fun _ => ?_, fun z => by cases z⟩
                    repeat (walk_at "xx")
                    refine ⟨rfl, by decide, k2 e4 ?_⟩
                    have e6 : ¬ 1 ≤ m := by simpa using e6
                    simp [manyOk, e6]
                · refine ⟨fun _ => ?_, fun z => by cases z⟩
                  repeat (walk_at "xx")
                  refine ⟨rfl, by decide, k2 e4 ?_⟩
                  have e5 : wh many = false := by simpa using e5
                  cases many <;> first | rfl | (cases e5)
    · rw [Bool.not_eq_true'] at e
      subst e
      refine ⟨fun _ => ?_, fun z => by cases z⟩
      walk_at "bb"
      repeat (walk_at "xx")
      refine ⟨rfl, by decide, k1 ?_⟩
      have e3 := hn rfl
      cases pay <;> first | rfl | exact absurd rfl (e3 _)
end
end K58
end
section
set_option maxHeartbeats 4000000
namespace K58
open PySem PySem.Spec PyProof.Rows L2 L3
local macro_rules | `(tactic| walk_at "sc") => `(tactic| first | omega | exact ⟨by omega, by omega⟩ | exact cmul_fmod (by decide) (by decide) | exact .inl ⟨by omega, by omega⟩ | exact .inr ⟨by omega, by omega⟩ | exact ⟨by omega, by omega, by omega⟩)
local macro_rules | `(tactic| walk_at "vv") => `(tactic| first | exact Or.inl rfl | exact Or.inr (Or.inl rfl) | exact Or.inr (Or.inr rfl))
local macro_rules | `(tactic| walk_at "ll") => `(tactic| first | exact Or.inl rfl | exact Or.inr rfl)
set_option hygiene false in
local macro_rules | `(tactic| walk_at "A") => `(tactic| first
  | ((with_reducible refine' a_cons ?_ ?hs); (case hs => exact rfl))
  | (with_reducible refine' a_nil ?_))
set_option hygiene false in
local macro_rules | `(tactic| walk_at "Con") => `(tactic| first
  | (with_reducible refine' r_int ?_)
  | (with_reducible refine' r_str ?_)
  | (with_reducible refine' r_non ?_)
  | (with_reducible refine' r_bl ?_))
set_option hygiene false in
local macro_rules | `(tactic| walk_at "Bin") => `(tactic| first
  | ((with_reducible show xE _ _ _ (.BinOp _ .Add _ _) _ _ _); (with_reducible refine' r_op op_addA ?_))
  | ((with_reducible show xE _ _ _ (.BinOp _ .Sub _ _) _ _ _); (with_reducible refine' r_op op_sub ?_))
  | ((with_reducible show xE _ _ _ (.BinOp _ .Mult _ _) _ _ _); (with_reducible refine' r_op op_mul ?_))
  | ((with_reducible show xE _ _ _ (.BinOp _ .FloorDiv _ _) _ _ _); (with_reducible refine' r_op op_fdivN ?_))
  | ((with_reducible show xE _ _ _ (.BinOp _ .Mod _ _) _ _ _); (with_reducible refine' r_op op_modN ?_))
  | ((with_reducible show xE _ _ _ (.BinOp _ .Pow _ _) _ _ _); (with_reducible refine' r_op op_pow ?_)))
set_option hygiene false in
local macro_rules | `(tactic| walk_at "Cmp") => `(tactic| first
  | ((with_reducible show xE _ _ _ (.Compare _ [.Lt] _ _) _ _ _); (with_reducible refine' r_cmp op_lt ?hm ?_); (case hm => exact rfl))
  | ((with_reducible show xE _ _ _ (.Compare _ [.LtE] _ _) _ _ _); (with_reducible refine' r_cmp op_le ?hm ?_); (case hm => exact rfl))
  | ((with_reducible show xE _ _ _ (.Compare _ [.Gt] _ _) _ _ _); (with_reducible refine' r_cmp op_gt ?hm ?_); (case hm => exact rfl))
  | ((with_reducible show xE _ _ _ (.Compare _ [.GtE] _ _) _ _ _); (with_reducible refine' r_cmp op_ge ?hm ?_); (case hm => exact rfl))
  | ((with_reducible show xE _ _ _ (.Compare _ [.Eq] _ _) _ _ _); (with_reducible refine' r_cmp (op_eqB cx.hu64) ?hm ?_); (case hm => exact rfl))
  | ((with_reducible show xE _ _ _ (.Compare _ [.NotEq] _ _) _ _ _); (with_reducible refine' r_cmp (op_neB cx.hu64) ?hm ?_); (case hm => exact rfl))
  | ((with_reducible show xE _ _ _ (.Compare _ [.Is] _ _) _ _ _); (with_reducible refine' r_cmp op_isN1 ?hm ?_); (case hm => exact rfl))
  | ((with_reducible show xE _ _ _ (.Compare _ [.IsNot] _ _) _ _ _); (with_reducible refine' r_cmp op_notN1 ?hm ?_); (case hm => exact rfl)))
set_option hygiene false in
local macro_rules | `(tactic| walk_at "TCmp") => `(tactic| first
  | ((with_reducible show xT _ _ _ (.Compare _ [.Lt] _ _) _ _ _); (with_reducible refine' t_cmp op_lt ?hm ?_); (case hm => exact rfl))
  | ((with_reducible show xT _ _ _ (.Compare _ [.LtE] _ _) _ _ _); (with_reducible refine' t_cmp op_le ?hm ?_); (case hm => exact rfl))
  | ((with_reducible show xT _ _ _ (.Compare _ [.Gt] _ _) _ _ _); (with_reducible refine' t_cmp op_gt ?hm ?_); (case hm => exact rfl))
  | ((with_reducible show xT _ _ _ (.Compare _ [.GtE] _ _) _ _ _); (with_reducible refine' t_cmp op_ge ?hm ?_); (case hm => exact rfl))
  | ((with_reducible show xT _ _ _ (.Compare _ [.Eq] _ _) _ _ _); (with_reducible refine' t_cmp (op_eqB cx.hu64) ?hm ?_); (case hm => exact rfl))
  | ((with_reducible show xT _ _ _ (.Compare _ [.NotEq] _ _) _ _ _); (with_reducible refine' t_cmp (op_neB cx.hu64) ?hm ?_); (case hm => exact rfl))
  | ((with_reducible show xT _ _ _ (.Compare _ [.Is] _ _) _ _ _); (with_reducible refine' t_cmp op_isN1 ?hm ?_); (case hm => exact rfl))
  | ((with_reducible show xT _ _ _ (.Compare _ [.IsNot] _ _) _ _ _); (with_reducible refine' t_cmp op_notN1 ?hm ?_); (case hm => exact rfl))
  | ((with_reducible show xT _ _ _ (.Compare _ [.LtE, .LtE] _ _) _ _ _); (with_reducible refine' t_chain op_le op_le ?_ ?hl); (case hl => exact rfl))
  | ((with_reducible show xT _ _ _ (.Compare _ [.Lt, .Lt] _ _) _ _ _); (with_reducible refine' t_chain op_lt op_lt ?_ ?hl); (case hl => exact rfl))
  | ((with_reducible show xT _ _ _ (.Compare _ [.LtE, .Lt] _ _) _ _ _); (with_reducible refine' t_chain op_le op_lt ?_ ?hl); (case hl => exact rfl))
  | ((with_reducible show xT _ _ _ (.Compare _ [.Lt, .LtE] _ _) _ _ _); (with_reducible refine' t_chain op_lt op_le ?_ ?hl); (case hl => exact rfl)))
set_option hygiene false in
local macro_rules | `(tactic| walk_at "E") => `(tactic| first
  | ((with_reducible show xE _ _ _ (.Name _ _) _ _ _); walk_at "Nam")
  | ((with_reducible show xE _ _ _ (.Constant _ _ _) _ _ _); walk_at "Con")
  | ((with_reducible show xE _ _ _ (.BinOp _ _ _ _) _ _ _); walk_at "Bin")
  | ((with_reducible show xE _ _ _ (.Call _ _ _ _) _ _ _); walk_at "Cal")
  | ((with_reducible show xE _ _ _ (.Tuple _ _ _) _ _ _); (with_reducible refine' r_tup ?_))
  | ((with_reducible show xE _ _ _ (.Subscript _ (.Slice _ _ _ _) _) _ _ _); (with_reducible refine' r_slice ?_))
  | ((with_reducible show xE _ _ _ (.Subscript _ _ _) _ _ _); (refine r_sub cx.hu ?_))
  | ((with_reducible show xE _ _ _ (.Compare _ _ _ _) _ _ _); walk_at "Cmp")
  | ((with_reducible show xE _ _ _ (.IfExp _ _ _ _) _ _ _); (with_reducible refine' r_if ?_))
  | ((with_reducible show xE _ _ _ (.UnaryOp .USub _ _) _ _ _); (with_reducible refine' r_un un_neg ?_))
  | ((with_reducible show xE _ _ _ (.UnaryOp .Not _ _) _ _ _); (with_reducible refine' r_not ?_))
  | ((with_reducible show xE _ _ _ (.BoolOp .And (_ :: _ :: _) _) _ _ _); (with_reducible refine' r_and ?_))
  | ((with_reducible show xE _ _ _ (.BoolOp .Or (_ :: _ :: _) _) _ _ _); (with_reducible refine' r_or ?_))
  | ((with_reducible show xE _ _ _ (.BoolOp _ [_] _) _ _ _); (with_reducible refine' r_one ?_)))
set_option hygiene false in
local macro_rules | `(tactic| walk_at "T") => `(tactic| first
  | ((with_reducible show xT _ _ _ (.Compare _ _ _ _) _ _ _); walk_at "TCmp")
  | ((with_reducible show xT _ _ _ (.UnaryOp .Not _ _) _ _ _); (with_reducible refine' t_not ?_))
  | ((with_reducible show xT _ _ _ (.BoolOp .And _ _) _ _ _); (with_reducible refine' t_w (t_and ?_)))
  | ((with_reducible show xT _ _ _ (.BoolOp .Or _ _) _ _ _); (with_reducible refine' t_w (t_or ?_)))
  | ((with_reducible show xT _ _ _ (.Call _ _ _ _) _ _ _); (with_reducible refine' t_val ?_ ?he); (case he => intro _; rfl))
  | ((with_reducible show xT _ _ _ (.ListComp _ _ _ _) _ _ _); fail)
  | ((with_reducible show xT _ _ _ (.Name _ _) _ _ _); fail)
  | ((with_reducible refine' t_val ?_ ?he); (case he => intro _; rfl)))
set_option hygiene false in
local macro_rules | `(tactic| walk_at "W") => `(tactic| first
  | (with_reducible refine' t_and ?_)
  | (with_reducible refine' t_or ?_)
  | (with_reducible refine' t_and1 ?_)
  | (with_reducible refine' t_or1 ?_))
set_option hygiene false in
local macro_rules | `(tactic| walk_at "S") => `(tactic| first
  | ((with_reducible show xS _ _ _ (.If _ _ _ _) _ _ _); (with_reducible refine' s_if ?_))
  | ((with_reducible show xS _ _ _ (.Assign [.Tuple [.Name _ _, .Name _ _] _ _] (.Tuple [_, _] _ _) _) _ _ _); walk_at "Par")
  | ((with_reducible show xS _ _ _ (.Assign _ _ _) _ _ _); (with_reducible refine' s_asg ?_ ?hs ?hw ?h1); (case hs => exact rfl); (case hw => exact rfl); (case h1 => exact rfl))
  | ((with_reducible show xS _ _ _ (.Return (some _) _) _ _ _); (with_reducible refine' s_ret ?_))
  | ((with_reducible show xS _ _ _ (.Expr _ _) _ _ _); (with_reducible refine' s_expr ?_ ?hs); (case hs => exact rfl))
  | ((with_reducible show xS _ _ _ (.For _ _ _ _ _) _ _ _); (with_reducible refine' s_for cx.po cx.calm ?_ ?hs); (case hs => exact fun _ => rfl))
  | ((with_reducible show xS _ _ _ (.Raise _ _ _) _ _ _); walk_at "Rai")
  | ((with_reducible show xS _ _ _ (.AugAssign _ _ _ _) _ _ _); walk_at "Aug")
  | (with_reducible refine' s_pass ?_)
  | (with_reducible refine' s_break ?_)
  | (with_reducible refine' s_cont ?_)
  | (with_reducible refine' s_retN ?_))
set_option hygiene false in
local macro_rules | `(tactic| walk_at "G") => `(tactic| first
  | ((with_reducible show xG _ _ _ (.Name _ _) _ _ _ _); walk_at "gv")
  | ((with_reducible show xG _ _ _ (.Tuple _ _ _) _ _ _ _); (with_reducible refine' g_tup cx.calm ?_ ?hn ?hst); (case hn => exact rfl); (case hst => exact rfl))
  | ((with_reducible show xG _ _ _ (.Subscript _ _ _) _ _ _ _); (refine g_sub cx.hu ?_)))
set_option hygiene false in
local macro_rules | `(tactic| walk_at "Gs") => `(tactic| first
  | ((with_reducible refine' gs_cons ?_ ?hs); (case hs => exact rfl))
  | (with_reducible refine' gs_nil ?_))
set_option hygiene false in
local macro_rules | `(tactic| walk_at "O") => `(tactic| first
  | (with_reducible refine' p_int ?_)
  | (with_reducible refine' o_int0 ?_)
  | (with_reducible refine' o_bl0 ?_)
  | ((with_reducible refine' o_int ?_ ?hc); (case hc => walk_at "sc"))
  | (with_reducible refine' o_int ?_ ?_)
  | (with_reducible refine' e_int ?_)
  | (with_reducible refine' n_int ?_)
  | (with_reducible refine' e_str ?_)
  | (with_reducible refine' n_str ?_)
  | (with_reducible refine' o_isN ?_)
  | (with_reducible refine' o_notN ?_)
  | (with_reducible refine' p_str ?_ ?_))
set_option hygiene false in
local macro_rules | `(tactic| walk_at "C") => `(tactic| first
  | (with_reducible refine' len_t ?_)
  | (with_reducible refine' len_l ?_)
  | (with_reducible refine' c_abs ?_)
  | (with_reducible refine' c_int ?_)
  | (with_reducible refine' c_intB ?_)
  | (with_reducible refine' c_min2 ?_)
  | (with_reducible refine' c_max2 ?_)
  | (with_reducible refine' c_str ?_ ?_))
set_option hygiene false in
local macro_rules | `(tactic| walk_at "S3") => `(tactic| first
  | (with_reducible refine' s_t ?_)
  | (with_reducible refine' s_s ?_ ?_))
set_option hygiene false in
local macro_rules | `(tactic| walk_at "bb") => `(tactic| first
  | (with_reducible refine b_cons ?_)
  | (with_reducible refine b_one ?_)
  | (with_reducible refine b_nil ?_)
  | (refine b_cons ?_)
  | (refine b_one ?_)
  | (refine b_nil ?_))
set_option hygiene false in
local macro_rules | `(tactic| walk_at "I") => `(tactic| first
  | ((with_reducible refine' i_range1 ?hg ?hm ?_ ?hs); (case hg => exact rfl); (case hm => exact Z.z_range); (case hs => exact rfl))
  | ((with_reducible refine' i_range2 ?hg ?hm ?_ ?hs ?hs2); (case hg => exact rfl); (case hm => exact Z.z_range); (case hs => exact rfl); (case hs2 => exact rfl)))
local macro_rules | `(tactic| walk_at "be") => `(tactic| first
  | (with_reducible refine b_cons ?_)
  | (with_reducible refine b_one ?_)
  | (with_reducible refine b_nil ?_))
set_option hygiene false in
local macro_rules | `(tactic| walk_at "xx") => `(tactic| first
  | ((with_reducible show xE _ _ _ _ _ _ _); walk_at "E")
  | ((with_reducible show xA _ _ _ _ _ _ _); walk_at "A")
  | ((with_reducible show O3 _ _ _ _ _ _ _); walk_at "O")
  | ((with_reducible show C3 _ _ _ _ _ _); walk_at "C")
  | ((with_reducible show xS _ _ _ _ _ _ _); walk_at "S")
  | ((with_reducible show xB _ _ _ _ _ _ _); walk_at "be")
  | ((with_reducible show xT _ _ _ _ _ _ _); walk_at "T")
  | ((with_reducible show xW _ _ _ _ _ _ _); walk_at "W")
  | ((with_reducible show xG _ _ _ _ _ _ _ _); walk_at "G")
  | ((with_reducible show xGs _ _ _ _ _ _ _ _); walk_at "Gs")
  | ((with_reducible show U3 _ _ _ _ _ _); (with_reducible refine' u_int ?_))
  | ((with_reducible show S3 _ _ _ _ _ _ _ _); walk_at "S3")
  | ((with_reducible show xI _ _ _ _ _ _ _ _); walk_at "I")
  | ((with_reducible show _ ≤ sizeLine ∧ _); (with_reducible refine' len16 ?hL ?_); (case hL => exact rfl)))
local macro_rules | `(tactic| walk_at "sd") => `(tactic| first | decide | omega | exact ⟨by decide, by decide⟩ | exact .inl ⟨by omega, by omega⟩ | exact .inr ⟨by omega, by omega⟩)
local macro_rules | `(tactic| walk_at "xn") => `(tactic| ((fail_if_success (with_reducible show xB _ _ _ (.If _ _ _ _ :: _ :: _) _ _ _)); walk_at "xx"))
variable {P : Program} {w : World} {K : PySem.W.Frag} {mg : Str → Option Value} {base : Heap} {T : List (Addr × Str)}
theorem wh_row {x : D} (h : rowOk x = true) (hw : (itemsD x).all wh = true) : ∃ a b, x = .tup [.int a, .int b] := by
  cases x with
  | tup es =>
    simp only [rowOk, decide_eq_true_eq] at h
    match es, h with
    | [u, v], _ =>
      obtain ⟨h1, h2⟩ := Bool.and_eq_true_iff.mp (show (wh u && (wh v && true)) = true from hw)
      rw [Bool.and_true] at h2
      obtain ⟨a, rfl⟩ := wh_int h1
      obtain ⟨b, rfl⟩ := wh_int h2
      exact ⟨a, b, rfl⟩
  | _ => cases h
theorem pay_is {x : D} (h : payOk x = true) : ∃ a b c d, x = payD a b c d := by
  cases x with
  | tup es =>
    obtain ⟨h1, h⟩ := Bool.and_eq_true_iff.mp (show (decide (es.length = 2) && (es.all rowOk && (es.flatMap itemsD).all wh)) = true from h)
    obtain ⟨h2, h3⟩ := Bool.and_eq_true_iff.mp h
    rw [decide_eq_true_eq] at h1
    match es, h1 with
    | [u, v], _ =>
      obtain ⟨r1, r2⟩ := Bool.and_eq_true_iff.mp (show (rowOk u && (rowOk v && true)) = true from h2)
      rw [Bool.and_true] at r2
      rw [show [u, v].flatMap itemsD = itemsD u ++ itemsD v from by simp] at h3
      rw [List.all_append] at h3
      obtain ⟨w1, w2⟩ := Bool.and_eq_true_iff.mp h3
      obtain ⟨a, b, rfl⟩ := wh_row r1 w1
      obtain ⟨c, d, rfl⟩ := wh_row r2 w2
      exact ⟨a, b, c, d, rfl⟩
  | _ => cases h
theorem many_is {x : D} (h : manyOk x = true) : ∃ n, x = .int n ∧ 1 ≤ n ∧ n ≤ 99 := by
  cases x with
  | int n =>
    simp only [manyOk, Bool.and_eq_true, decide_eq_true_eq] at h
    exact ⟨n, rfl, h⟩
  | _ => cases h
/-- after need_crowd: R of the four payments and the number -/
def spC (K : PySem.W.Frag) (pay many : D) (G : Gm) (E : Value → List (Str × D) → Gm → Prop) (R : Int → Int → Int → Int → Int → Prop) : Prop :=
  spNeed K pay many G E (∀ a b c d n, pay = payD a b c d → many = .int n → 1 ≤ n → n ≤ 99 → R a b c d n)
theorem spC_need {pay many : D} {G : Gm} {Q : D → Gm → Prop} {E : Value → List (Str × D) → Gm → Prop} {R : Int → Int → Int → Int → Int → Prop} (h : spC K pay many G E R)
    (q : ∀ a b c d n, pay = payD a b c d → many = .int n → 1 ≤ n → n ≤ 99 → R a b c d n → Q .non G) : sp_need_crowd K [pay, many] G Q E := by
  obtain ⟨h1, h2, h3, h4, h5⟩ := h
  refine ⟨pay, many, rfl, h1, h2, h3, h4, fun p m => ?_⟩
  obtain ⟨a, b, c, d, rfl⟩ := pay_is p
  obtain ⟨n, rfl, n1, n2⟩ := many_is m
  exact q a b c d n rfl rfl n1 n2 (h5 p m a b c d n rfl rfl n1 n2)
theorem cnt_of {x : D} (h : okP x = true) : ∃ b, countD x = some b := by
  cases x <;> first | exact ⟨_, rfl⟩ | cases h
def mOk (m : D) (n : Int) : Bool := match m with
  | .int i => decide (0 ≤ i) && decide (i < n)
  | _ => false
def sp_gain (K : PySem.W.Frag) : Sp3 := fun ds G Q E => ∃ pay many m, ds = [pay, many, m] ∧ okP m = true ∧ spC K pay many G E fun a b c d n => (mOk m n = false → eNum K "m" m E G) ∧ (∀ i, m = .int i → 0 ≤ i → i < n → Q (.int (gainI a b c d n i)) G)
section
set_option hygiene false in
local macro_rules | `(tactic| walk_at "Par") => `(tactic| first
  | fail)
set_option hygiene false in
local macro_rules | `(tactic| walk_at "Nam") => `(tactic| first
  | ((with_reducible refine' r_var 0 (x := "pay") ?hN ?hv ?hs ?_); (case hN => exact ⟨rfl, by decide, by decide⟩); (case hv => walk_at "vv"); (case hs => exact rfl))
  | ((with_reducible refine' r_var 1 (x := "many") ?hN ?hv ?hs ?_); (case hN => exact ⟨rfl, by decide, by decide⟩); (case hv => walk_at "vv"); (case hs => exact rfl))
  | ((with_reducible refine' r_var 2 (x := "m") ?hN ?hv ?hs ?_); (case hN => exact ⟨rfl, by decide, by decide⟩); (case hv => walk_at "vv"); (case hs => exact rfl))
  | ((with_reducible refine' r_defv (x := "need_crowd") (Z.g_need_crowd) ?hk ?hg ?_ ?hd); (case hk => exact (d_need_crowd Z)); (case hg => first | exact (fun z => z) | exact rfl); (case hd => decide))
  | ((with_reducible refine' r_defv (x := "gain_in") (Z.g_gain_in) ?hk ?hg ?_ ?hd); (case hk => exact (d_gain_in Z)); (case hg => first | exact (fun z => z) | exact rfl); (case hd => decide))
  | ((with_reducible refine' r_defv (x := "is_count") (Z.g_is_count) ?hk ?hg ?_ ?hd); (case hk => exact (d_is_count Z)); (case hg => first | exact (fun z => z) | exact rfl); (case hd => decide)))
set_option hygiene false in
local macro_rules | `(tactic| walk_at "Cal") => `(tactic| first
  | ((with_reducible refine' r_call (x := "need_crowd") cx ?hF ?hk ?hg ?hm ?_ ?hd ?he ?hp); (case hF => exact d_need_crowd Z); (case hk => decide); (case hg => first | exact (fun z => z) | exact (fun z => nomatch z)); (case hm => exact rfl); (case hd => decide); (case he => exact rfl); (case hp => exact rfl))
  | ((with_reducible refine' r_call (x := "gain_in") cx ?hF ?hk ?hg ?hm ?_ ?hd ?he ?hp); (case hF => exact d_gain_in Z); (case hk => decide); (case hg => first | exact (fun z => z) | exact (fun z => nomatch z)); (case hm => exact rfl); (case hd => decide); (case he => exact rfl); (case hp => exact rfl))
  | ((with_reducible refine' r_call (x := "is_count") cx ?hF ?hk ?hg ?hm ?_ ?hd ?he ?hp); (case hF => exact d_is_count Z); (case hk => decide); (case hg => first | exact (fun z => z) | exact (fun z => nomatch z)); (case hm => exact rfl); (case hd => decide); (case he => exact rfl); (case hp => exact rfl)))
set_option hygiene false in
local macro_rules | `(tactic| walk_at "Rai") => `(tactic| first
  | ((with_reducible refine' s_raise (x := "BadNumber") cx ?hk ?hF ?hg ?_ ?hd ?he ?hp); (case hk => decide); (case hF => exact exc_BadNumber Z); (case hg => exact rfl); (case hd => decide); (case he => exact rfl); (case hp => exact rfl)))
set_option hygiene false in
local macro_rules | `(tactic| walk_at "Aug") => `(tactic| first
  | fail)
set_option hygiene false in
local macro_rules | `(tactic| walk_at "gv") => `(tactic| first
  | ((with_reducible refine' g_name 0 (x := "pay") cx.nd ?hi ?hx ?_ ?hf); (case hi => exact rfl); (case hx => walk_at "ll"); (case hf => first | exact .inl rfl | exact .inr rfl))
  | ((with_reducible refine' g_name 1 (x := "many") cx.nd ?hi ?hx ?_ ?hf); (case hi => exact rfl); (case hx => walk_at "ll"); (case hf => first | exact .inl rfl | exact .inr rfl))
  | ((with_reducible refine' g_name 2 (x := "m") cx.nd ?hi ?hx ?_ ?hf); (case hi => exact rfl); (case hx => walk_at "ll"); (case hf => first | exact .inl rfl | exact .inr rfl)))

theorem d_gain (Z : Tx K mg) : Def3 P w K mg base T 4 false "gain" ["pay", "many", "m"] (sp_gain K) := by
  obtain ⟨fd, F⟩ := Z.f_gain
  refine def_ok F sc_gain Z.g_gain (fun ds G Q E h => ?_) fun A outer s H E O ds G Q3 E3 cx h => ?_
  · obtain ⟨pay, many, m, rfl, _⟩ := h; rfl
  · obtain ⟨pay, many, m, rfl, okm, h⟩ := h
    walk_at "bb"
    repeat (walk_at "xx")
    refine spC_need h fun a b c d n e1 e2 n1 n2 k => ?_
    subst e1 e2
    obtain ⟨k1, k2⟩ := k
    obtain ⟨b1, hb1⟩ := cnt_of okm
    obtain ⟨c1, hc1, l1, l2⟩ := count_whole hb1
    repeat (walk_at "xx")
    refine ⟨m, b1, rfl, hb1, _, rfl, fun e => ?_, fun e => ?_⟩
    · have eb : b1 = true := by simpa using e
      have ec : c1 = true := by
        cases c1 with
        | true => rfl
        | false => rw [l1 rfl] at eb; cases eb
      obtain ⟨i, rfl, rfl⟩ := l2 ec
      have hi : 0 ≤ i := by simpa using eb
      repeat (walk_at "xx")
      refine ⟨_, rfl, fun e => ?_, fun e => ?_⟩
      · repeat (walk_at "xx")
        refine ⟨rfl, by decide, k1 ?_⟩
        have e : n ≤ i := by simpa using e
        simp [mOk, hi]
        omega
      · have e : i < n := by simpa using e
        repeat (walk_at "xx")
        exact ⟨a, b, c, d, n, i, rfl, by omega, by omega, k2 i rfl hi e⟩
    · have eb : b1 = false := by simpa using e
      refine ⟨fun _ => ?_, fun z => by cases z⟩
      repeat (walk_at "xx")
      refine ⟨rfl, by decide, k1 ?_⟩
      cases m <;> first | rfl | skip
      rename_i i
      cases hb1
      have eb : ¬ 0 ≤ i := by simpa using eb
      simp [mOk, eb]
end
end K58
end
section
set_option maxHeartbeats 4000000
namespace K58
open PySem PySem.Spec PyProof.Rows L2 L3
local macro_rules | `(tactic| walk_at "sc") => `(tactic| first | omega | exact ⟨by omega, by omega⟩ | exact cmul_fmod (by decide) (by decide) | exact .inl ⟨by omega, by omega⟩ | exact .inr ⟨by omega, by omega⟩ | exact ⟨by omega, by omega, by omega⟩)
local macro_rules | `(tactic| walk_at "vv") => `(tactic| first | exact Or.inl rfl | exact Or.inr (Or.inl rfl) | exact Or.inr (Or.inr rfl))
local macro_rules | `(tactic| walk_at "ll") => `(tactic| first | exact Or.inl rfl | exact Or.inr rfl)
set_option hygiene false in
local macro_rules | `(tactic| walk_at "A") => `(tactic| first
  | ((with_reducible refine' a_cons ?_ ?hs); (case hs => exact rfl))
  | (with_reducible refine' a_nil ?_))
set_option hygiene false in
local macro_rules | `(tactic| walk_at "Con") => `(tactic| first
  | (with_reducible refine' r_int ?_)
  | (with_reducible refine' r_str ?_)
  | (with_reducible refine' r_non ?_)
  | (with_reducible refine' r_bl ?_))
set_option hygiene false in
local macro_rules | `(tactic| walk_at "Bin") => `(tactic| first
  | ((with_reducible show xE _ _ _ (.BinOp _ .Add _ _) _ _ _); (with_reducible refine' r_op op_addA ?_))
  | ((with_reducible show xE _ _ _ (.BinOp _ .Sub _ _) _ _ _); (with_reducible refine' r_op op_sub ?_))
  | ((with_reducible show xE _ _ _ (.BinOp _ .Mult _ _) _ _ _); (with_reducible refine' r_op op_mul ?_))
  | ((with_reducible show xE _ _ _ (.BinOp _ .FloorDiv _ _) _ _ _); (with_reducible refine' r_op op_fdivN ?_))
  | ((with_reducible show xE _ _ _ (.BinOp _ .Mod _ _) _ _ _); (with_reducible refine' r_op op_modN ?_))
  | ((with_reducible show xE _ _ _ (.BinOp _ .Pow _ _) _ _ _); (with_reducible refine' r_op op_pow ?_)))
set_option hygiene false in
local macro_rules | `(tactic| walk_at "Cmp") => `(tactic| first
  | ((with_reducible show xE _ _ _ (.Compare _ [.Lt] _ _) _ _ _); (with_reducible refine' r_cmp op_lt ?hm ?_); (case hm => exact rfl))
  | ((with_reducible show xE _ _ _ (.Compare _ [.LtE] _ _) _ _ _); (with_reducible refine' r_cmp op_le ?hm ?_); (case hm => exact rfl))
  | ((with_reducible show xE _ _ _ (.Compare _ [.Gt] _ _) _ _ _); (with_reducible refine' r_cmp op_gt ?hm ?_); (case hm => exact rfl))
  | ((with_reducible show xE _ _ _ (.Compare _ [.GtE] _ _) _ _ _); (with_reducible refine' r_cmp op_ge ?hm ?_); (case hm => exact rfl))
  | ((with_reducible show xE _ _ _ (.Compare _ [.Eq] _ _) _ _ _); (with_reducible refine' r_cmp (op_eqB cx.hu64) ?hm ?_); (case hm => exact rfl))
  | ((with_reducible show xE _ _ _ (.Compare _ [.NotEq] _ _) _ _ _); (with_reducible refine' r_cmp (op_neB cx.hu64) ?hm ?_); (case hm => exact rfl))
  | ((with_reducible show xE _ _ _ (.Compare _ [.Is] _ _) _ _ _); (with_reducible refine' r_cmp op_isN1 ?hm ?_); (case hm => exact rfl))
  | ((with_reducible show xE _ _ _ (.Compare _ [.IsNot] _ _) _ _ _); (with_reducible refine' r_cmp op_notN1 ?hm ?_); (case hm => exact rfl)))
set_option hygiene false in
local macro_rules | `(tactic| walk_at "TCmp") => `(tactic| first
  | ((with_reducible show xT _ _ _ (.Compare _ [.Lt] _ _) _ _ _); (with_reducible refine' t_cmp op_lt ?hm ?_); (case hm => exact rfl))
  | ((with_reducible show xT _ _ _ (.Compare _ [.LtE] _ _) _ _ _); (with_reducible refine' t_cmp op_le ?hm ?_); (case hm => exact rfl))
  | ((with_reducible show xT _ _ _ (.Compare _ [.Gt] _ _) _ _ _); (with_reducible refine' t_cmp op_gt ?hm ?_); (case hm => exact rfl))
  | ((with_reducible show xT _ _ _ (.Compare _ [.GtE] _ _) _ _ _); (with_reducible refine' t_cmp op_ge ?hm ?_); (case hm => exact rfl))
  | ((with_reducible show xT _ _ _ (.Compare _ [.Eq] _ _) _ _ _); (with_reducible refine' t_cmp (op_eqB cx.hu64) ?hm ?_); (case hm => exact rfl))
  | ((with_reducible show xT _ _ _ (.Compare _ [.NotEq] _ _) _ _ _); (with_reducible refine' t_cmp (op_neB cx.hu64) ?hm ?_); (case hm => exact rfl))
  | ((with_reducible show xT _ _ _ (.Compare _ [.Is] _ _) _ _ _); (with_reducible refine' t_cmp op_isN1 ?hm ?_); (case hm => exact rfl))
  | ((with_reducible show xT _ _ _ (.Compare _ [.IsNot] _ _) _ _ _); (with_reducible refine' t_cmp op_notN1 ?hm ?_); (case hm => exact rfl))
  | ((with_reducible show xT _ _ _ (.Compare _ [.LtE, .LtE] _ _) _ _ _); (with_reducible refine' t_chain op_le op_le ?_ ?hl); (case hl => exact rfl))
  | ((with_reducible show xT _ _ _ (.Compare _ [.Lt, .Lt] _ _) _ _ _); (with_reducible refine' t_chain op_lt op_lt ?_ ?hl); (case hl => exact rfl))
  | ((with_reducible show xT _ _ _ (.Compare _ [.LtE, .Lt] _ _) _ _ _); (with_reducible refine' t_chain op_le op_lt ?_ ?hl); (case hl => exact rfl))
  | ((with_reducible show xT _ _ _ (.Compare _ [.Lt, .LtE] _ _) _ _ _); (with_reducible refine' t_chain op_lt op_le ?_ ?hl); (case hl => exact rfl)))
set_option hygiene false in
local macro_rules | `(tactic| walk_at "E") => `(tactic| first
  | ((with_reducible show xE _ _ _ (.Name _ _) _ _ _); walk_at "Nam")
  | ((with_reducible show xE _ _ _ (.Constant _ _ _) _ _ _); walk_at "Con")
  | ((with_reducible show xE _ _ _ (.BinOp _ _ _ _) _ _ _); walk_at "Bin")
  | ((with_reducible show xE _ _ _ (.Call _ _ _ _) _ _ _); walk_at "Cal")
  | ((with_reducible show xE _ _ _ (.Tuple _ _ _) _ _ _); (with_reducible refine' r_tup ?_))
  | ((with_reducible show xE _ _ _ (.Subscript _ (.Slice _ _ _ _) _) _ _ _); (with_reducible refine' r_slice ?_))
  | ((with_reducible show xE _ _ _ (.Subscript _ _ _) _ _ _); (refine r_sub cx.hu ?_))
  | ((with_reducible show xE _ _ _ (.Compare _ _ _ _) _ _ _); walk_at "Cmp")
  | ((with_reducible show xE _ _ _ (.IfExp _ _ _ _) _ _ _); (with_reducible refine' r_if ?_))
  | ((with_reducible show xE _ _ _ (.UnaryOp .USub _ _) _ _ _); (with_reducible refine' r_un un_neg ?_))
  | ((with_reducible show xE _ _ _ (.UnaryOp .Not _ _) _ _ _); (with_reducible refine' r_not ?_))
  | ((with_reducible show xE _ _ _ (.BoolOp .And (_ :: _ :: _) _) _ _ _); (with_reducible refine' r_and ?_))
  | ((with_reducible show xE _ _ _ (.BoolOp .Or (_ :: _ :: _) _) _ _ _); (with_reducible refine' r_or ?_))
  | ((with_reducible show xE _ _ _ (.BoolOp _ [_] _) _ _ _); (with_reducible refine' r_one ?_)))
set_option hygiene false in
local macro_rules | `(tactic| walk_at "T") => `(tactic| first
  | ((with_reducible show xT _ _ _ (.Compare _ _ _ _) _ _ _); walk_at "TCmp")
  | ((with_reducible show xT _ _ _ (.UnaryOp .Not _ _) _ _ _); (with_reducible refine' t_not ?_))
  | ((with_reducible show xT _ _ _ (.BoolOp .And _ _) _ _ _); (with_reducible refine' t_w (t_and ?_)))
  | ((with_reducible show xT _ _ _ (.BoolOp .Or _ _) _ _ _); (with_reducible refine' t_w (t_or ?_)))
  | ((with_reducible show xT _ _ _ (.Call _ _ _ _) _ _ _); (with_reducible refine' t_val ?_ ?he); (case he => intro _; rfl))
  | ((with_reducible show xT _ _ _ (.ListComp _ _ _ _) _ _ _); fail)
  | ((with_reducible show xT _ _ _ (.Name _ _) _ _ _); fail)
  | ((with_reducible refine' t_val ?_ ?he); (case he => intro _; rfl)))
set_option hygiene false in
local macro_rules | `(tactic| walk_at "W") => `(tactic| first
  | (with_reducible refine' t_and ?_)
  | (with_reducible refine' t_or ?_)
  | (with_reducible refine' t_and1 ?_)
  | (with_reducible refine' t_or1 ?_))
set_option hygiene false in
local macro_rules | `(tactic| walk_at "S") => `(tactic| first
  | ((with_reducible show xS _ _ _ (.If _ _ _ _) _ _ _); (with_reducible refine' s_if ?_))
  | ((with_reducible show xS _ _ _ (.Assign [.Tuple [.Name _ _, .Name _ _] _ _] (.Tuple [_, _] _ _) _) _ _ _); walk_at "Par")
  | ((with_reducible show xS _ _ _ (.Assign _ _ _) _ _ _); (with_reducible refine' s_asg ?_ ?hs ?hw ?h1); (case hs => exact rfl); (case hw => exact rfl); (case h1 => exact rfl))
  | ((with_reducible show xS _ _ _ (.Return (some _) _) _ _ _); (with_reducible refine' s_ret ?_))
  | ((with_reducible show xS _ _ _ (.Expr _ _) _ _ _); (with_reducible refine' s_expr ?_ ?hs); (case hs => exact rfl))
  | ((with_reducible show xS _ _ _ (.For _ _ _ _ _) _ _ _); (with_reducible refine' s_for cx.po cx.calm ?_ ?hs); (case hs => exact fun _ => rfl))
  | ((with_reducible show xS _ _ _ (.Raise _ _ _) _ _ _); walk_at "Rai")
  | ((with_reducible show xS _ _ _ (.AugAssign _ _ _ _) _ _ _); walk_at "Aug")
  | (with_reducible refine' s_pass ?_)
  | (with_reducible refine' s_break ?_)
  | (with_reducible refine' s_cont ?_)
  | (with_reducible refine' s_retN ?_))
set_option hygiene false in
local macro_rules | `(tactic| walk_at "G") => `(tactic| first
  | ((with_reducible show xG _ _ _ (.Name _ _) _ _ _ _); walk_at "gv")
  | ((with_reducible show xG _ _ _ (.Tuple _ _ _) _ _ _ _); (with_reducible refine' g_tup cx.calm ?_ ?hn ?hst); (case hn => exact rfl); (case hst => exact rfl))
  | ((with_reducible show xG _ _ _ (.Subscript _ _ _) _ _ _ _); (refine g_sub cx.hu ?_)))
set_option hygiene false in
local macro_rules | `(tactic| walk_at "Gs") => `(tactic| first
  | ((with_reducible refine' gs_cons ?_ ?hs); (case hs => exact rfl))
  | (with_reducible refine' gs_nil ?_))
set_option hygiene false in
local macro_rules | `(tactic| walk_at "O") => `(tactic| first
  | (with_reducible refine' p_int ?_)
  | (with_reducible refine' o_int0 ?_)
  | (with_reducible refine' o_bl0 ?_)
  | ((with_reducible refine' o_int ?_ ?hc); (case hc => walk_at "sc"))
  | (with_reducible refine' o_int ?_ ?_)
  | (with_reducible refine' e_int ?_)
  | (with_reducible refine' n_int ?_)
  | (with_reducible refine' e_str ?_)
  | (with_reducible refine' n_str ?_)
  | (with_reducible refine' o_isN ?_)
  | (with_reducible refine' o_notN ?_)
  | (with_reducible refine' p_str ?_ ?_))
set_option hygiene false in
local macro_rules | `(tactic| walk_at "C") => `(tactic| first
  | (with_reducible refine' len_t ?_)
  | (with_reducible refine' len_l ?_)
  | (with_reducible refine' c_abs ?_)
  | (with_reducible refine' c_int ?_)
  | (with_reducible refine' c_intB ?_)
  | (with_reducible refine' c_min2 ?_)
  | (with_reducible refine' c_max2 ?_)
  | (with_reducible refine' c_str ?_ ?_))
set_option hygiene false in
local macro_rules | `(tactic| walk_at "S3") => `(tactic| first
  | (with_reducible refine' s_t ?_)
  | (with_reducible refine' s_s ?_ ?_))
set_option hygiene false in
local macro_rules | `(tactic| walk_at "bb") => `(tactic| first
  | (with_reducible refine b_cons ?_)
  | (with_reducible refine b_one ?_)
  | (with_reducible refine b_nil ?_)
  | (refine b_cons ?_)
  | (refine b_one ?_)
  | (refine b_nil ?_))
set_option hygiene false in
local macro_rules | `(tactic| walk_at "I") => `(tactic| first
  | ((with_reducible refine' i_range1 ?hg ?hm ?_ ?hs); (case hg => exact rfl); (case hm => exact Z.z_range); (case hs => exact rfl))
  | ((with_reducible refine' i_range2 ?hg ?hm ?_ ?hs ?hs2); (case hg => exact rfl); (case hm => exact Z.z_range); (case hs => exact rfl); (case hs2 => exact rfl)))
local macro_rules | `(tactic| walk_at "be") => `(tactic| first
  | (with_reducible refine b_cons ?_)
  | (with_reducible refine b_one ?_)
  | (with_reducible refine b_nil ?_))
set_option hygiene false in
local macro_rules | `(tactic| walk_at "xx") => `(tactic| first
  | ((with_reducible show xE _ _ _ _ _ _ _); walk_at "E")
  | ((with_reducible show xA _ _ _ _ _ _ _); walk_at "A")
  | ((with_reducible show O3 _ _ _ _ _ _ _); walk_at "O")
  | ((with_reducible show C3 _ _ _ _ _ _); walk_at "C")
  | ((with_reducible show xS _ _ _ _ _ _ _); walk_at "S")
  | ((with_reducible show xB _ _ _ _ _ _ _); walk_at "be")
  | ((with_reducible show xT _ _ _ _ _ _ _); walk_at "T")
  | ((with_reducible show xW _ _ _ _ _ _ _); walk_at "W")
  | ((with_reducible show xG _ _ _ _ _ _ _ _); walk_at "G")
  | ((with_reducible show xGs _ _ _ _ _ _ _ _); walk_at "Gs")
  | ((with_reducible show U3 _ _ _ _ _ _); (with_reducible refine' u_int ?_))
  | ((with_reducible show S3 _ _ _ _ _ _ _ _); walk_at "S3")
  | ((with_reducible show xI _ _ _ _ _ _ _ _); walk_at "I")
  | ((with_reducible show _ ≤ sizeLine ∧ _); (with_reducible refine' len16 ?hL ?_); (case hL => exact rfl)))
local macro_rules | `(tactic| walk_at "sd") => `(tactic| first | decide | omega | exact ⟨by decide, by decide⟩ | exact .inl ⟨by omega, by omega⟩ | exact .inr ⟨by omega, by omega⟩)
local macro_rules | `(tactic| walk_at "xn") => `(tactic| ((fail_if_success (with_reducible show xB _ _ _ (.If _ _ _ _ :: _ :: _) _ _ _)); walk_at "xx"))
variable {P : Program} {w : World} {K : PySem.W.Frag} {mg : Str → Option Value} {base : Heap} {T : List (Addr × Str)}
def neg1 (i : Int) : Int := if i < 0 then 1 else 0
def pos1 (i : Int) : Int := if 0 < i then 1 else 0
def lev (a b c d n : Int) : Nat → Int
  | 0 => 0
  | k + 1 => lev a b c d n k + neg1 (gainI a b c d n k) - pos1 (gainI a b c d n k)
def levs (a b c d n : Int) (k : Nat) : List Int := (List.range k).map (lev a b c d n)
def minI (l : List Int) : Int := l.min?.getD 0
theorem minI_of {l : List Int} {m : Int} (h : m ∈ l) (hm : ∀ y ∈ l, m ≤ y) : minI l = m := by
  unfold minI
  rw [List.min?_eq_some_iff.mpr ⟨h, hm⟩]; rfl
def hts (a b c d n : Int) : List Int := (levs a b c d n (n.toNat + 1)).map (· - minI (levs a b c d n (n.toNat + 1)))
def subD (m : Int) : D → D
  | .int i => .int (i - m)
  | x => x
theorem atI_last {α : Type} (xs : List α) (x : α) : atI (xs ++ [x]) (-1) = some x := by
  unfold atI ixN
  rw [if_neg (by decide), if_pos (by simp; omega)]
  show (xs ++ [x])[(-1 + ((xs ++ [x]).length : Int)).toNat]? = some x
  rw [List.length_append, show (-1 + ((xs.length + [x].length : Nat) : Int)).toNat = xs.length from by simp; omega]
  simp
theorem levs_succ (a b c d n : Int) (k : Nat) : levs a b c d n (k + 1) = levs a b c d n k ++ [lev a b c d n k] := by
  simp [levs, List.range_succ]
theorem levs_last (a b c d n : Int) (k : Nat) : atI ((levs a b c d n (k + 1)).map D.int) (-1) = some (.int (lev a b c d n k)) := by
  rw [levs_succ, List.map_append]
  exact atI_last _ _
theorem levs_step (a b c d n : Int) (i : Nat) (u v : Int) (hu : u = neg1 (gainI a b c d n (0 + i))) (hv : v = pos1 (gainI a b c d n (0 + i))) : (levs a b c d n (i + 1)).map D.int ++ [.int (lev a b c d n i + u - v)] = (levs a b c d n (i + 1 + 1)).map .int := by
  rw [levs_succ a b c d n (i + 1), List.map_append]
  subst hu hv
  rw [Int.zero_add]
  rfl
def sp_levels : Sp3 := fun ds G Q _ => ∃ a b c d n : Int, ds = [payD a b c d, .int n] ∧ (1 ≤ n ∧ n ≤ 99) ∧ Q (.lst ((hts a b c d n).map .int)) G
section
set_option hygiene false in
local macro_rules | `(tactic| walk_at "Par") => `(tactic| first
  | fail)
set_option hygiene false in
local macro_rules | `(tactic| walk_at "Nam") => `(tactic| first
  | ((with_reducible refine' r_var 0 (x := "pay") ?hN ?hv ?hs ?_); (case hN => exact ⟨rfl, by decide, by decide⟩); (case hv => walk_at "vv"); (case hs => exact rfl))
  | ((with_reducible refine' r_var 1 (x := "many") ?hN ?hv ?hs ?_); (case hN => exact ⟨rfl, by decide, by decide⟩); (case hv => walk_at "vv"); (case hs => exact rfl))
  | ((with_reducible refine' r_var 2 (x := "found") ?hN ?hv ?hs ?_); (case hN => exact ⟨rfl, by decide, by decide⟩); (case hv => walk_at "vv"); (case hs => exact rfl))
  | ((with_reducible refine' r_var 3 (x := "n") ?hN ?hv ?hs ?_); (case hN => exact ⟨rfl, by decide, by decide⟩); (case hv => walk_at "vv"); (case hs => exact rfl))
  | ((with_reducible refine' r_var 4 (x := "here") ?hN ?hv ?hs ?_); (case hN => exact ⟨rfl, by decide, by decide⟩); (case hv => walk_at "vv"); (case hs => exact rfl))
  | ((with_reducible refine' r_var 5 (x := "least") ?hN ?hv ?hs ?_); (case hN => exact ⟨rfl, by decide, by decide⟩); (case hv => walk_at "vv"); (case hs => exact rfl))
  | ((with_reducible refine' r_var 6 (x := "height") ?hN ?hv ?hs ?_); (case hN => exact ⟨rfl, by decide, by decide⟩); (case hv => walk_at "vv"); (case hs => exact rfl))
  | ((with_reducible refine' r_defv (x := "gain_in") (Z.g_gain_in) ?hk ?hg ?_ ?hd); (case hk => exact (d_gain_in Z)); (case hg => first | exact (fun z => z) | exact rfl); (case hd => decide)))
set_option hygiene false in
local macro_rules | `(tactic| walk_at "Cal") => `(tactic| first
  | ((with_reducible refine' r_callB (x := "min") (id := "min") (call_minA cx.calm) ?hg ?hm bt_min ?_ ?hn ?hd ?he ?hp); (case hg => exact rfl); (case hm => exact Z.z_min); (case hn => decide); (case hd => decide); (case he => exact rfl); (case hp => exact rfl))
  | ((with_reducible refine' r_call (x := "gain_in") cx ?hF ?hk ?hg ?hm ?_ ?hd ?he ?hp); (case hF => exact d_gain_in Z); (case hk => decide); (case hg => first | exact (fun z => z) | exact (fun z => nomatch z)); (case hm => exact rfl); (case hd => decide); (case he => exact rfl); (case hp => exact rfl))
  | ((with_reducible refine' r_bm (name := "append") (t := "list") (id := "list.append") (r := rAppend) ?pa ?sl ?ty ?mt ?_ ?hb ?hf ?hl ?hs ?hp); (case pa => exact PySem.F.plainAttrs_list); (case sl => exact PySem.F.slot_list_append); (case ty => exact PySem.F.type_list_append); (case mt => exact mt_append); (case hb => exact rfl); (case hf => exact rfl); (case hl => exact rfl); (case hs => exact rfl); (case hp => exact rfl)))
set_option hygiene false in
local macro_rules | `(tactic| walk_at "Rai") => `(tactic| first
  | fail)
set_option hygiene false in
local macro_rules | `(tactic| walk_at "Aug") => `(tactic| first
  | fail)
set_option hygiene false in
local macro_rules | `(tactic| walk_at "gv") => `(tactic| first
  | ((with_reducible refine' g_name 0 (x := "pay") cx.nd ?hi ?hx ?_ ?hf); (case hi => exact rfl); (case hx => walk_at "ll"); (case hf => first | exact .inl rfl | exact .inr rfl))
  | ((with_reducible refine' g_name 1 (x := "many") cx.nd ?hi ?hx ?_ ?hf); (case hi => exact rfl); (case hx => walk_at "ll"); (case hf => first | exact .inl rfl | exact .inr rfl))
  | ((with_reducible refine' g_name 2 (x := "found") cx.nd ?hi ?hx ?_ ?hf); (case hi => exact rfl); (case hx => walk_at "ll"); (case hf => first | exact .inl rfl | exact .inr rfl))
  | ((with_reducible refine' g_name 3 (x := "n") cx.nd ?hi ?hx ?_ ?hf); (case hi => exact rfl); (case hx => walk_at "ll"); (case hf => first | exact .inl rfl | exact .inr rfl))
  | ((with_reducible refine' g_name 4 (x := "here") cx.nd ?hi ?hx ?_ ?hf); (case hi => exact rfl); (case hx => walk_at "ll"); (case hf => first | exact .inl rfl | exact .inr rfl))
  | ((with_reducible refine' g_name 5 (x := "least") cx.nd ?hi ?hx ?_ ?hf); (case hi => exact rfl); (case hx => walk_at "ll"); (case hf => first | exact .inl rfl | exact .inr rfl))
  | ((with_reducible refine' g_name 6 (x := "height") cx.nd ?hi ?hx ?_ ?hf); (case hi => exact rfl); (case hx => walk_at "ll"); (case hf => first | exact .inl rfl | exact .inr rfl)))
set_option hygiene false in
local macro_rules | `(tactic| walk_at "cv") => `(tactic| first
  | ((with_reducible refine' r_lc (own := [("height", 6)]) (tg := .Name "height" _) cx.calm cx.nd ?hok (tg_name 6 (by decide)) ?hg ?_ ?hs); (case hok => exact blkOk_by (N := ["pay", "many", "found", "n", "here", "least", "height"]) (sc := defScope s_crowd_levels) (by decide +kernel)); (case hg => exact fun _ _ _ _ _ => pg_name (i := 6) cx.nd rfl (Or.inl rfl)); (case hs => exact fun _ => rfl)))
set_option hygiene false in
local macro_rules | `(tactic| walk_at "cvO") => `(tactic| first
  | ((with_reducible refine' r_lcO (own := [("height", 6)]) (tg := .Name "height" _) cx.calm cx.nd ?hok (tg_name 6 (by decide)) ?hg ?_ ?hs); (case hok => exact blkOk_by (N := ["pay", "many", "found", "n", "here", "least", "height"]) (sc := defScope s_crowd_levels) (by decide +kernel)); (case hg => exact fun _ _ _ _ _ => pg_name (i := 6) cx.nd rfl (Or.inl rfl)); (case hs => exact fun _ => rfl)))

theorem d_crowd_levels (Z : Tx K mg) : Def3 P w K mg base T 3 false "crowd_levels" ["pay", "many"] sp_levels := by
  obtain ⟨fd, F⟩ := Z.f_crowd_levels
  refine def_ok F sc_crowd_levels Z.g_crowd_levels (fun ds G Q E h => ?_) fun A outer s H E O ds G Q3 E3 cx h => ?_
  · obtain ⟨a, b, c, d, n, rfl, _⟩ := h; rfl
  · obtain ⟨a, b, c, d, n, rfl, hn, q⟩ := h
    walk_at "bb"
    walk_at "xx"
    refine r_lstO ?_
    repeat (walk_at "xx")
    refine fun p gp => ?_
    repeat (walk_at "xx")
    refine ⟨n, rfl, by omega, by omega, ?_⟩
    refine ⟨fun i σ' G' => G' = gset G p (.lst ((levs a b c d n (i + 1)).map .int)) ∧ ∃ o1 o2, σ' = [some (payD a b c d), some (.int n), some (.raw (.ref p)), o1, o2, none, none], ⟨rfl, none, none, rfl⟩, fun _ _ _ _ _ => trivial, fun i x σ' G' hx hi => ?_, fun σ' G' hi => ?_⟩
    · obtain ⟨rfl, o1, o2, rfl⟩ := hi
      obtain ⟨hi, rfl⟩ := rangeD_get hx
      repeat (walk_at "xx")
      refine ⟨a, b, c, d, n, _, rfl, by omega, by omega, ?_⟩
      repeat (walk_at "xx")
      refine ⟨.inl ⟨rfl, _, gset_same⟩, ?_⟩
      repeat (walk_at "xx")
      refine ix_o gset_same (levs_last a b c d n i) ?_
      repeat (walk_at "xx")
      refine ⟨_, rfl, fun e => ?_, fun e => ?_⟩
      all_goals
        repeat (walk_at "xx")
        refine ⟨_, rfl, fun e' => ?_, fun e' => ?_⟩
      all_goals
        repeat (walk_at "xx")
        refine m_append gset_same ?_ ?_
        · repeat (walk_at "xx")
          refine ⟨?_, _, _, rfl⟩
          rw [gset_gset]
          exact congrArg (fun l => gset G p (.lst l)) (levs_step a b c d n i _ _ (by simpa [neg1] using e) (by simpa [pos1] using e'))
        · rw [szl]; simp [levs]; omega
    · obtain ⟨rfl, o1, o2, rfl⟩ := hi
      rw [rangeD_length]
      refine b_freeze 2 rfl gset_same ?_
      rw [gdel_gset gp]
      repeat (walk_at "xx")
      refine c_minL (.inl rfl) (by simp [levs]) fun m hm hm2 => ?_
      repeat (walk_at "xx")
      walk_at "cv"
      refine i_list ?_
      repeat (walk_at "xx")
      refine ⟨_, _, .inl ⟨rfl, rfl⟩, ?_⟩
      refine lc_mapX cx (subD m) (by rw [szl]; simp [levs]; omega) (fun _ _ _ => trivial) (fun i x hx => ?_) ?_
      · rw [List.getElem?_map] at hx
        obtain ⟨j, _, rfl⟩ := Option.map_eq_some_iff.mp hx
        refine ⟨_, rfl, fun A1 h1 g1 s1 H1 Cc cl fp cx => ?_⟩
        repeat (walk_at "xx")
        exact ⟨rfl, rfl⟩
      · show Q3 _ _
        rw [hts, minI_of hm hm2, List.map_map] at q
        rw [List.map_map]
        exact q
end
end K58
end
section
set_option maxHeartbeats 4000000
namespace K58
open PySem PySem.Spec PyProof.Rows L2 L3
local macro_rules | `(tactic| walk_at "sc") => `(tactic| first | omega | exact ⟨by omega, by omega⟩ | exact cmul_fmod (by decide) (by decide) | exact .inl ⟨by omega, by omega⟩ | exact .inr ⟨by omega, by omega⟩ | exact ⟨by omega, by omega, by omega⟩)
local macro_rules | `(tactic| walk_at "vv") => `(tactic| first | exact Or.inl rfl | exact Or.inr (Or.inl rfl) | exact Or.inr (Or.inr rfl))
local macro_rules | `(tactic| walk_at "ll") => `(tactic| first | exact Or.inl rfl | exact Or.inr rfl)
set_option hygiene false in
local macro_rules | `(tactic| walk_at "A") => `(tactic| first
  | ((with_reducible refine' a_cons ?_ ?hs); (case hs => exact rfl))
  | (with_reducible refine' a_nil ?_))
set_option hygiene false in
local macro_rules | `(tactic| walk_at "Con") => `(tactic| first
  | (with_reducible refine' r_int ?_)
  | (with_reducible refine' r_str ?_)
  | (with_reducible refine' r_non ?_)
  | (with_reducible refine' r_bl ?_))
set_option hygiene false in
local macro_rules | `(tactic| walk_at "Bin") => `(tactic| first
  | ((with_reducible show xE _ _ _ (.BinOp _ .Add _ _) _ _ _); (with_reducible refine' r_op op_addA ?_))
  | ((with_reducible show xE _ _ _ (.BinOp _ .Sub _ _) _ _ _); (with_reducible refine' r_op op_sub ?_))
  | ((with_reducible show xE _ _ _ (.BinOp _ .Mult _ _) _ _ _); (with_reducible refine' r_op op_mul ?_))
  | ((with_reducible show xE _ _ _ (.BinOp _ .FloorDiv _ _) _ _ _); (with_reducible refine' r_op op_fdivN ?_))
  | ((with_reducible show xE _ _ _ (.BinOp _ .Mod _ _) _ _ _); (with_reducible refine' r_op op_modN ?_))
  | ((with_reducible show xE _ _ _ (.BinOp _ .Pow _ _) _ _ _); (with_reducible refine' r_op op_pow ?_)))
set_option hygiene false in
local macro_rules | `(tactic| walk_at "Cmp") => `(tactic| first
  | ((with_reducible show xE _ _ _ (.Compare _ [.Lt] _ _) _ _ _); (with_reducible refine' r_cmp op_lt ?hm ?_); (case hm => exact rfl))
  | ((with_reducible show xE _ _ _ (.Compare _ [.LtE] _ _) _ _ _); (with_reducible refine' r_cmp op_le ?hm ?_); (case hm => exact rfl))
  | ((with_reducible show xE _ _ _ (.Compare _ [.Gt] _ _) _ _ _); (with_reducible refine' r_cmp op_gt ?hm ?_); (case hm => exact rfl))
  | ((with_reducible show xE _ _ _ (.Compare _ [.GtE] _ _) _ _ _); (with_reducible refine' r_cmp op_ge ?hm ?_); (case hm => exact rfl))
  | ((with_reducible show xE _ _ _ (.Compare _ [.Eq] _ _) _ _ _); (with_reducible refine' r_cmp (op_eqB cx.hu64) ?hm ?_); (case hm => exact rfl))
  | ((with_reducible show xE _ _ _ (.Compare _ [.NotEq] _ _) _ _ _); (with_reducible refine' r_cmp (op_neB cx.hu64) ?hm ?_); (case hm => exact rfl))
  | ((with_reducible show xE _ _ _ (.Compare _ [.Is] _ _) _ _ _); (with_reducible refine' r_cmp op_isN1 ?hm ?_); (case hm => exact rfl))
  | ((with_reducible show xE _ _ _ (.Compare _ [.IsNot] _ _) _ _ _); (with_reducible refine' r_cmp op_notN1 ?hm ?_); (case hm => exact rfl)))
set_option hygiene false in
local macro_rules | `(tactic| walk_at "TCmp") => `(tactic| first
  | ((with_reducible show xT _ _ _ (.Compare _ [.Lt] _ _) _ _ _); (with_reducible refine' t_cmp op_lt ?hm ?_); (case hm => exact rfl))
  | ((with_reducible show xT _ _ _ (.Compare _ [.LtE] _ _) _ _ _); (with_reducible refine' t_cmp op_le ?hm ?_); (case hm => exact rfl))
  | ((with_reducible show xT _ _ _ (.Compare _ [.Gt] _ _) _ _ _); (with_reducible refine' t_cmp op_gt ?hm ?_); (case hm => exact rfl))
  | ((with_reducible show xT _ _ _ (.Compare _ [.GtE] _ _) _ _ _); (with_reducible refine' t_cmp op_ge ?hm ?_); (case hm => exact rfl))
  | ((with_reducible show xT _ _ _ (.Compare _ [.Eq] _ _) _ _ _); (with_reducible refine' t_cmp (op_eqB cx.hu64) ?hm ?_); (case hm => exact rfl))
  | ((with_reducible show xT _ _ _ (.Compare _ [.NotEq] _ _) _ _ _); (with_reducible refine' t_cmp (op_neB cx.hu64) ?hm ?_); (case hm => exact rfl))
  | ((with_reducible show xT _ _ _ (.Compare _ [.Is] _ _) _ _ _); (with_reducible refine' t_cmp op_isN1 ?hm ?_); (case hm => exact rfl))
  | ((with_reducible show xT _ _ _ (.Compare _ [.IsNot] _ _) _ _ _); (with_reducible refine' t_cmp op_notN1 ?hm ?_); (case hm => exact rfl))
  | ((with_reducible show xT _ _ _ (.Compare _ [.LtE, .LtE] _ _) _ _ _); (with_reducible refine' t_chain op_le op_le ?_ ?hl); (case hl => exact rfl))
  | ((with_reducible show xT _ _ _ (.Compare _ [.Lt, .Lt] _ _) _ _ _); (with_reducible refine' t_chain op_lt op_lt ?_ ?hl); (case hl => exact rfl))
  | ((with_reducible show xT _ _ _ (.Compare _ [.LtE, .Lt] _ _) _ _ _); (with_reducible refine' t_chain op_le op_lt ?_ ?hl); (case hl => exact rfl))
  | ((with_reducible show xT _ _ _ (.Compare _ [.Lt, .LtE] _ _) _ _ _); (with_reducible refine' t_chain op_lt op_le ?_ ?hl); (case hl => exact rfl)))
set_option hygiene false in
local macro_rules | `(tactic| walk_at "E") => `(tactic| first
  | ((with_reducible show xE _ _ _ (.Name _ _) _ _ _); walk_at "Nam")
  | ((with_reducible show xE _ _ _ (.Constant _ _ _) _ _ _); walk_at "Con")
  | ((with_reducible show xE _ _ _ (.BinOp _ _ _ _) _ _ _); walk_at "Bin")
  | ((with_reducible show xE _ _ _ (.Call _ _ _ _) _ _ _); walk_at "Cal")
  | ((with_reducible show xE _ _ _ (.Tuple _ _ _) _ _ _); (with_reducible refine' r_tup ?_))
  | ((with_reducible show xE _ _ _ (.Subscript _ (.Slice _ _ _ _) _) _ _ _); (with_reducible refine' r_slice ?_))
  | ((with_reducible show xE _ _ _ (.Subscript _ _ _) _ _ _); (refine r_sub cx.hu ?_))
  | ((with_reducible show xE _ _ _ (.Compare _ _ _ _) _ _ _); walk_at "Cmp")
  | ((with_reducible show xE _ _ _ (.IfExp _ _ _ _) _ _ _); (with_reducible refine' r_if ?_))
  | ((with_reducible show xE _ _ _ (.UnaryOp .USub _ _) _ _ _); (with_reducible refine' r_un un_neg ?_))
  | ((with_reducible show xE _ _ _ (.UnaryOp .Not _ _) _ _ _); (with_reducible refine' r_not ?_))
  | ((with_reducible show xE _ _ _ (.BoolOp .And (_ :: _ :: _) _) _ _ _); (with_reducible refine' r_and ?_))
  | ((with_reducible show xE _ _ _ (.BoolOp .Or (_ :: _ :: _) _) _ _ _); (with_reducible refine' r_or ?_))
  | ((with_reducible show xE _ _ _ (.BoolOp _ [_] _) _ _ _); (with_reducible refine' r_one ?_)))
set_option hygiene false in
local macro_rules | `(tactic| walk_at "T") => `(tactic| first
  | ((with_reducible show xT _ _ _ (.Compare _ _ _ _) _ _ _); walk_at "TCmp")
  | ((with_reducible show xT _ _ _ (.UnaryOp .Not _ _) _ _ _); (with_reducible refine' t_not ?_))
  | ((with_reducible show xT _ _ _ (.BoolOp .And _ _) _ _ _); (with_reducible refine' t_w (t_and ?_)))
  | ((with_reducible show xT _ _ _ (.BoolOp .Or _ _) _ _ _); (with_reducible refine' t_w (t_or ?_)))
  | ((with_reducible show xT _ _ _ (.Call _ _ _ _) _ _ _); (with_reducible refine' t_val ?_ ?he); (case he => intro _; rfl))
  | ((with_reducible show xT _ _ _ (.ListComp _ _ _ _) _ _ _); fail)
  | ((with_reducible show xT _ _ _ (.Name _ _) _ _ _); fail)
  | ((with_reducible refine' t_val ?_ ?he); (case he => intro _; rfl)))
set_option hygiene false in
local macro_rules | `(tactic| walk_at "W") => `(tactic| first
  | (with_reducible refine' t_and ?_)
  | (with_reducible refine' t_or ?_)
  | (with_reducible refine' t_and1 ?_)
  | (with_reducible refine' t_or1 ?_))
set_option hygiene false in
local macro_rules | `(tactic| walk_at "S") => `(tactic| first
  | ((with_reducible show xS _ _ _ (.If _ _ _ _) _ _ _); (with_reducible refine' s_if ?_))
  | ((with_reducible show xS _ _ _ (.Assign [.Tuple [.Name _ _, .Name _ _] _ _] (.Tuple [_, _] _ _) _) _ _ _); walk_at "Par")
  | ((with_reducible show xS _ _ _ (.Assign _ _ _) _ _ _); (with_reducible refine' s_asg ?_ ?hs ?hw ?h1); (case hs => exact rfl); (case hw => exact rfl); (case h1 => exact rfl))
  | ((with_reducible show xS _ _ _ (.Return (some _) _) _ _ _); (with_reducible refine' s_ret ?_))
  | ((with_reducible show xS _ _ _ (.Expr _ _) _ _ _); (with_reducible refine' s_expr ?_ ?hs); (case hs => exact rfl))
  | ((with_reducible show xS _ _ _ (.For _ _ _ _ _) _ _ _); (with_reducible refine' s_for cx.po cx.calm ?_ ?hs); (case hs => exact fun _ => rfl))
  | ((with_reducible show xS _ _ _ (.Raise _ _ _) _ _ _); walk_at "Rai")
  | ((with_reducible show xS _ _ _ (.AugAssign _ _ _ _) _ _ _); walk_at "Aug")
  | (with_reducible refine' s_pass ?_)
  | (with_reducible refine' s_break ?_)
  | (with_reducible refine' s_cont ?_)
  | (with_reducible refine' s_retN ?_))
set_option hygiene false in
local macro_rules | `(tactic| walk_at "G") => `(tactic| first
  | ((with_reducible show xG _ _ _ (.Name _ _) _ _ _ _); walk_at "gv")
  | ((with_reducible show xG _ _ _ (.Tuple _ _ _) _ _ _ _); (with_reducible refine' g_tup cx.calm ?_ ?hn ?hst); (case hn => exact rfl); (case hst => exact rfl))
  | ((with_reducible show xG _ _ _ (.Subscript _ _ _) _ _ _ _); (refine g_sub cx.hu ?_)))
set_option hygiene false in
local macro_rules | `(tactic| walk_at "Gs") => `(tactic| first
  | ((with_reducible refine' gs_cons ?_ ?hs); (case hs => exact rfl))
  | (with_reducible refine' gs_nil ?_))
set_option hygiene false in
local macro_rules | `(tactic| walk_at "O") => `(tactic| first
  | (with_reducible refine' p_int ?_)
  | (with_reducible refine' o_int0 ?_)
  | (with_reducible refine' o_bl0 ?_)
  | ((with_reducible refine' o_int ?_ ?hc); (case hc => walk_at "sc"))
  | (with_reducible refine' o_int ?_ ?_)
  | (with_reducible refine' e_int ?_)
  | (with_reducible refine' n_int ?_)
  | (with_reducible refine' e_str ?_)
  | (with_reducible refine' n_str ?_)
  | (with_reducible refine' o_isN ?_)
  | (with_reducible refine' o_notN ?_)
  | (with_reducible refine' p_str ?_ ?_))
set_option hygiene false in
local macro_rules | `(tactic| walk_at "C") => `(tactic| first
  | (with_reducible refine' len_t ?_)
  | (with_reducible refine' len_l ?_)
  | (with_reducible refine' c_abs ?_)
  | (with_reducible refine' c_int ?_)
  | (with_reducible refine' c_intB ?_)
  | (with_reducible refine' c_min2 ?_)
  | (with_reducible refine' c_max2 ?_)
  | (with_reducible refine' c_str ?_ ?_))
set_option hygiene false in
local macro_rules | `(tactic| walk_at "S3") => `(tactic| first
  | (with_reducible refine' s_t ?_)
  | (with_reducible refine' s_s ?_ ?_))
set_option hygiene false in
local macro_rules | `(tactic| walk_at "bb") => `(tactic| first
  | (with_reducible refine b_cons ?_)
  | (with_reducible refine b_one ?_)
  | (with_reducible refine b_nil ?_)
  | (refine b_cons ?_)
  | (refine b_one ?_)
  | (refine b_nil ?_))
set_option hygiene false in
local macro_rules | `(tactic| walk_at "I") => `(tactic| first
  | ((with_reducible refine' i_range1 ?hg ?hm ?_ ?hs); (case hg => exact rfl); (case hm => exact Z.z_range); (case hs => exact rfl))
  | ((with_reducible refine' i_range2 ?hg ?hm ?_ ?hs ?hs2); (case hg => exact rfl); (case hm => exact Z.z_range); (case hs => exact rfl); (case hs2 => exact rfl)))
local macro_rules | `(tactic| walk_at "be") => `(tactic| first
  | (with_reducible refine b_cons ?_)
  | (with_reducible refine b_one ?_)
  | (with_reducible refine b_nil ?_))
set_option hygiene false in
local macro_rules | `(tactic| walk_at "xx") => `(tactic| first
  | ((with_reducible show xE _ _ _ _ _ _ _); walk_at "E")
  | ((with_reducible show xA _ _ _ _ _ _ _); walk_at "A")
  | ((with_reducible show O3 _ _ _ _ _ _ _); walk_at "O")
  | ((with_reducible show C3 _ _ _ _ _ _); walk_at "C")
  | ((with_reducible show xS _ _ _ _ _ _ _); walk_at "S")
  | ((with_reducible show xB _ _ _ _ _ _ _); walk_at "be")
  | ((with_reducible show xT _ _ _ _ _ _ _); walk_at "T")
  | ((with_reducible show xW _ _ _ _ _ _ _); walk_at "W")
  | ((with_reducible show xG _ _ _ _ _ _ _ _); walk_at "G")
  | ((with_reducible show xGs _ _ _ _ _ _ _ _); walk_at "Gs")
  | ((with_reducible show U3 _ _ _ _ _ _); (with_reducible refine' u_int ?_))
  | ((with_reducible show S3 _ _ _ _ _ _ _ _); walk_at "S3")
  | ((with_reducible show xI _ _ _ _ _ _ _ _); walk_at "I")
  | ((with_reducible show _ ≤ sizeLine ∧ _); (with_reducible refine' len16 ?hL ?_); (case hL => exact rfl)))
local macro_rules | `(tactic| walk_at "sd") => `(tactic| first | decide | omega | exact ⟨by decide, by decide⟩ | exact .inl ⟨by omega, by omega⟩ | exact .inr ⟨by omega, by omega⟩)
local macro_rules | `(tactic| walk_at "xn") => `(tactic| ((fail_if_success (with_reducible show xB _ _ _ (.If _ _ _ _ :: _ :: _) _ _ _)); walk_at "xx"))
variable {P : Program} {w : World} {K : PySem.W.Frag} {mg : Str → Option Value} {base : Heap} {T : List (Addr × Str)}
theorem hts_len (a b c d n : Int) : (hts a b c d n).length = n.toNat + 1 := by simp [hts, levs]
def sp_heights (K : PySem.W.Frag) : Sp3 := fun ds G Q E => ∃ pay many, ds = [pay, many] ∧ spC K pay many G E fun a b c d n => Q (.tup ((hts a b c d n).map .int)) G
section
set_option hygiene false in
local macro_rules | `(tactic| walk_at "Par") => `(tactic| first
  | fail)
set_option hygiene false in
local macro_rules | `(tactic| walk_at "Nam") => `(tactic| first
  | ((with_reducible refine' r_var 0 (x := "pay") ?hN ?hv ?hs ?_); (case hN => exact ⟨rfl, by decide, by decide⟩); (case hv => walk_at "vv"); (case hs => exact rfl))
  | ((with_reducible refine' r_var 1 (x := "many") ?hN ?hv ?hs ?_); (case hN => exact ⟨rfl, by decide, by decide⟩); (case hv => walk_at "vv"); (case hs => exact rfl))
  | ((with_reducible refine' r_defv (x := "need_crowd") (Z.g_need_crowd) ?hk ?hg ?_ ?hd); (case hk => exact (d_need_crowd Z)); (case hg => first | exact (fun z => z) | exact rfl); (case hd => decide))
  | ((with_reducible refine' r_bltn (x := "tuple") (v := .ty "tuple") ?hg ?hm bt_tuple ?hr ?_ ?hn ?hd); (case hg => exact rfl); (case hm => exact Z.z_tuple); (case hr => exact rfl); (case hn => decide); (case hd => decide))
  | ((with_reducible refine' r_defv (x := "crowd_levels") (Z.g_crowd_levels) ?hk ?hg ?_ ?hd); (case hk => exact (d_crowd_levels Z)); (case hg => first | exact (fun z => z) | exact rfl); (case hd => decide)))
set_option hygiene false in
local macro_rules | `(tactic| walk_at "Cal") => `(tactic| first
  | ((with_reducible refine' r_call (x := "need_crowd") cx ?hF ?hk ?hg ?hm ?_ ?hd ?he ?hp); (case hF => exact d_need_crowd Z); (case hk => decide); (case hg => first | exact (fun z => z) | exact (fun z => nomatch z)); (case hm => exact rfl); (case hd => decide); (case he => exact rfl); (case hp => exact rfl))
  | ((with_reducible refine' r_callTy (x := "tuple") (id := "tuple") call_tupOf ?hg ?hm bt_tuple ?_ ?hn ?hd ?he ?hp); (case hg => exact rfl); (case hm => exact Z.z_tuple); (case hn => decide); (case hd => decide); (case he => exact rfl); (case hp => exact rfl))
  | ((with_reducible refine' r_call (x := "crowd_levels") cx ?hF ?hk ?hg ?hm ?_ ?hd ?he ?hp); (case hF => exact d_crowd_levels Z); (case hk => decide); (case hg => first | exact (fun z => z) | exact (fun z => nomatch z)); (case hm => exact rfl); (case hd => decide); (case he => exact rfl); (case hp => exact rfl)))
set_option hygiene false in
local macro_rules | `(tactic| walk_at "Rai") => `(tactic| first
  | fail)
set_option hygiene false in
local macro_rules | `(tactic| walk_at "Aug") => `(tactic| first
  | fail)
set_option hygiene false in
local macro_rules | `(tactic| walk_at "gv") => `(tactic| first
  | ((with_reducible refine' g_name 0 (x := "pay") cx.nd ?hi ?hx ?_ ?hf); (case hi => exact rfl); (case hx => walk_at "ll"); (case hf => first | exact .inl rfl | exact .inr rfl))
  | ((with_reducible refine' g_name 1 (x := "many") cx.nd ?hi ?hx ?_ ?hf); (case hi => exact rfl); (case hx => walk_at "ll"); (case hf => first | exact .inl rfl | exact .inr rfl)))

theorem d_crowd_heights (Z : Tx K mg) : Def3 P w K mg base T 4 false "crowd_heights" ["pay", "many"] (sp_heights K) := by
  obtain ⟨fd, F⟩ := Z.f_crowd_heights
  refine def_ok F sc_crowd_heights Z.g_crowd_heights (fun ds G Q E h => ?_) fun A outer s H E O ds G Q3 E3 cx h => ?_
  · obtain ⟨pay, many, rfl, _⟩ := h; rfl
  · obtain ⟨pay, many, rfl, h⟩ := h
    walk_at "bb"
    repeat (walk_at "xx")
    refine spC_need h fun a b c d n e1 e2 n1 n2 k => ?_
    subst e1 e2
    repeat (walk_at "xx")
    refine ⟨a, b, c, d, n, rfl, ⟨n1, n2⟩, ?_⟩
    repeat (walk_at "xx")
    exact c_tuple (.inr (.inl rfl)) k
end
theorem atI_nat {l : List Int} {i : Nat} {v : Int} (h : l[i]? = some v) : atI (l.map D.int) (0 + (i : Int)) = some (.int v) := by
  have hl : i < l.length := (List.getElem?_eq_some_iff.mp h).1
  unfold atI ixN
  rw [if_pos (by omega), if_pos (by rw [List.length_map]; omega)]
  show (l.map D.int)[((0 : Int) + i).toNat]? = _
  rw [Int.zero_add, Int.toNat_natCast, List.getElem?_map, h]
  rfl
theorem len_filt {l : List Int} {p : D → Bool} : ((((l.map D.int).filter p).map id).length : Int) = ((l.filter fun i => p (.int i)).length : Nat) := by
  rw [List.length_map, List.filter_map, List.length_map]
  rfl
/-! ### against -/
def gains (a b c d n : Int) : List Int := (List.range n.toNat).map fun i : Nat => gainI a b c d n i
def lessN (a b c d n : Int) : Nat := ((gains a b c d n).filter (· < 0)).length
def moreN (a b c d n : Int) : Nat := ((gains a b c d n).filter (0 < ·)).length
def gainD (a b c d n : Int) : D → D
  | .int m => .int (gainI a b c d n m)
  | x => x
theorem gains_map (a b c d n : Int) : (rangeD 0 n.toNat).map (gainD a b c d n) = (gains a b c d n).map .int := by
  unfold rangeD gains
  rw [List.map_map, List.map_map]
  refine List.map_congr_left fun i _ => ?_
  show D.int (gainI a b c d n (0 + i)) = .int (gainI a b c d n i)
  rw [Int.zero_add]
def ltD : D → Bool
  | .int i => decide (i < 0)
  | _ => false
def gtD : D → Bool
  | .int i => decide (0 < i)
  | _ => false
def sp_against (K : PySem.W.Frag) : Sp3 := fun ds G Q E => ∃ pay many, ds = [pay, many] ∧ spC K pay many G E fun a b c d n => Q (.tup [.int (lessN a b c d n), .int (moreN a b c d n)]) G
section
set_option hygiene false in
local macro_rules | `(tactic| walk_at "Par") => `(tactic| first
  | fail)
set_option hygiene false in
local macro_rules | `(tactic| walk_at "Nam") => `(tactic| first
  | ((with_reducible refine' r_var 0 (x := "pay") ?hN ?hv ?hs ?_); (case hN => exact ⟨rfl, by decide, by decide⟩); (case hv => walk_at "vv"); (case hs => exact rfl))
  | ((with_reducible refine' r_var 1 (x := "many") ?hN ?hv ?hs ?_); (case hN => exact ⟨rfl, by decide, by decide⟩); (case hv => walk_at "vv"); (case hs => exact rfl))
  | ((with_reducible refine' r_var 2 (x := "gains") ?hN ?hv ?hs ?_); (case hN => exact ⟨rfl, by decide, by decide⟩); (case hv => walk_at "vv"); (case hs => exact rfl))
  | ((with_reducible refine' r_var 3 (x := "m") ?hN ?hv ?hs ?_); (case hN => exact ⟨rfl, by decide, by decide⟩); (case hv => walk_at "vv"); (case hs => exact rfl))
  | ((with_reducible refine' r_var 4 (x := "here") ?hN ?hv ?hs ?_); (case hN => exact ⟨rfl, by decide, by decide⟩); (case hv => walk_at "vv"); (case hs => exact rfl))
  | ((with_reducible refine' r_defv (x := "need_crowd") (Z.g_need_crowd) ?hk ?hg ?_ ?hd); (case hk => exact (d_need_crowd Z)); (case hg => first | exact (fun z => z) | exact rfl); (case hd => decide))
  | ((with_reducible refine' r_defv (x := "gain_in") (Z.g_gain_in) ?hk ?hg ?_ ?hd); (case hk => exact (d_gain_in Z)); (case hg => first | exact (fun z => z) | exact rfl); (case hd => decide)))
set_option hygiene false in
local macro_rules | `(tactic| walk_at "Cal") => `(tactic| first
  | ((with_reducible refine' r_call (x := "need_crowd") cx ?hF ?hk ?hg ?hm ?_ ?hd ?he ?hp); (case hF => exact d_need_crowd Z); (case hk => decide); (case hg => first | exact (fun z => z) | exact (fun z => nomatch z)); (case hm => exact rfl); (case hd => decide); (case he => exact rfl); (case hp => exact rfl))
  | ((with_reducible refine' r_call (x := "gain_in") cx ?hF ?hk ?hg ?hm ?_ ?hd ?he ?hp); (case hF => exact d_gain_in Z); (case hk => decide); (case hg => first | exact (fun z => z) | exact (fun z => nomatch z)); (case hm => exact rfl); (case hd => decide); (case he => exact rfl); (case hp => exact rfl))
  | ((with_reducible refine' r_callB (x := "len") (id := "len") call_lenA ?hg ?hm bt_len ?_ ?hn ?hd ?he ?hp); (case hg => exact rfl); (case hm => exact Z.z_len); (case hn => decide); (case hd => decide); (case he => exact rfl); (case hp => exact rfl)))
set_option hygiene false in
local macro_rules | `(tactic| walk_at "Rai") => `(tactic| first
  | fail)
set_option hygiene false in
local macro_rules | `(tactic| walk_at "Aug") => `(tactic| first
  | fail)
set_option hygiene false in
local macro_rules | `(tactic| walk_at "gv") => `(tactic| first
  | ((with_reducible refine' g_name 0 (x := "pay") cx.nd ?hi ?hx ?_ ?hf); (case hi => exact rfl); (case hx => walk_at "ll"); (case hf => first | exact .inl rfl | exact .inr rfl))
  | ((with_reducible refine' g_name 1 (x := "many") cx.nd ?hi ?hx ?_ ?hf); (case hi => exact rfl); (case hx => walk_at "ll"); (case hf => first | exact .inl rfl | exact .inr rfl))
  | ((with_reducible refine' g_name 2 (x := "gains") cx.nd ?hi ?hx ?_ ?hf); (case hi => exact rfl); (case hx => walk_at "ll"); (case hf => first | exact .inl rfl | exact .inr rfl))
  | ((with_reducible refine' g_name 3 (x := "m") cx.nd ?hi ?hx ?_ ?hf); (case hi => exact rfl); (case hx => walk_at "ll"); (case hf => first | exact .inl rfl | exact .inr rfl))
  | ((with_reducible refine' g_name 4 (x := "here") cx.nd ?hi ?hx ?_ ?hf); (case hi => exact rfl); (case hx => walk_at "ll"); (case hf => first | exact .inl rfl | exact .inr rfl)))
set_option hygiene false in
local macro_rules | `(tactic| walk_at "cv") => `(tactic| first
  | ((with_reducible refine' r_lc (own := [("m", 3)]) (tg := .Name "m" _) cx.calm cx.nd ?hok (tg_name 3 (by decide)) ?hg ?_ ?hs); (case hok => exact blkOk_by (N := ["pay", "many", "gains", "m", "here"]) (sc := defScope s_against) (by decide +kernel)); (case hg => exact fun _ _ _ _ _ => pg_name (i := 3) cx.nd rfl (Or.inl rfl)); (case hs => exact fun _ => rfl))
  | ((with_reducible refine' r_lc (own := [("here", 4)]) (tg := .Name "here" _) cx.calm cx.nd ?hok (tg_name 4 (by decide)) ?hg ?_ ?hs); (case hok => exact blkOk_by (N := ["pay", "many", "gains", "m", "here"]) (sc := defScope s_against) (by decide +kernel)); (case hg => exact fun _ _ _ _ _ => pg_name (i := 4) cx.nd rfl (Or.inl rfl)); (case hs => exact fun _ => rfl)))
set_option hygiene false in
local macro_rules | `(tactic| walk_at "cvO") => `(tactic| first
  | ((with_reducible refine' r_lcO (own := [("m", 3)]) (tg := .Name "m" _) cx.calm cx.nd ?hok (tg_name 3 (by decide)) ?hg ?_ ?hs); (case hok => exact blkOk_by (N := ["pay", "many", "gains", "m", "here"]) (sc := defScope s_against) (by decide +kernel)); (case hg => exact fun _ _ _ _ _ => pg_name (i := 3) cx.nd rfl (Or.inl rfl)); (case hs => exact fun _ => rfl))
  | ((with_reducible refine' r_lcO (own := [("here", 4)]) (tg := .Name "here" _) cx.calm cx.nd ?hok (tg_name 4 (by decide)) ?hg ?_ ?hs); (case hok => exact blkOk_by (N := ["pay", "many", "gains", "m", "here"]) (sc := defScope s_against) (by decide +kernel)); (case hg => exact fun _ _ _ _ _ => pg_name (i := 4) cx.nd rfl (Or.inl rfl)); (case hs => exact fun _ => rfl)))
set_option hygiene false in
local macro_rules | `(tactic| walk_at "cs") => `(tactic| first
  | ((with_reducible refine' s_lc 2 (y := "gains") (own := [("m", 3)]) (tg := .Name "m" _) cx.calm cx.nd ?hy ?hyl ?hsw ?hok (tg_name 3 (by decide)) ?hg ?_ ?hs); (case hy => exact rfl); (case hyl => exact rfl); (case hsw => exact rfl); (case hok => exact blkOk_by (N := ["pay", "many", "gains", "m", "here"]) (sc := defScope s_against) (by decide +kernel)); (case hg => exact fun _ _ _ _ _ => pg_name (i := 3) cx.nd rfl (Or.inl rfl)); (case hs => exact fun _ => rfl)))

theorem d_against (Z : Tx K mg) : Def3 P w K mg base T 4 false "against" ["pay", "many"] (sp_against K) := by
  obtain ⟨fd, F⟩ := Z.f_against
  refine def_ok F sc_against Z.g_against (fun ds G Q E h => ?_) fun A outer s H E O ds G Q3 E3 cx h => ?_
  · obtain ⟨pay, many, rfl, _⟩ := h; rfl
  · obtain ⟨pay, many, rfl, h⟩ := h
    walk_at "bb"
    repeat (walk_at "xx")
    refine spC_need h fun a b c d n e1 e2 n1 n2 k => ?_
    subst e1 e2
    repeat (walk_at "xx")
    walk_at "cs"
    repeat (walk_at "xx")
    refine ⟨n, rfl, by omega, by omega, ?_⟩
    refine lc_mapX cx (gainD a b c d n) (by rw [rangeD_length, szl]; omega) (fun _ _ _ => trivial) (fun i x hx => ?_) ?_
    · obtain ⟨hi, rfl⟩ := rangeD_get hx
      refine ⟨_, rfl, fun A1 h1 g1 s1 H1 Cc cl fp cx => ?_⟩
      repeat (walk_at "xx")
      exact ⟨a, b, c, d, n, _, rfl, by omega, by omega, rfl, rfl⟩
    · rw [gains_map]
      repeat (walk_at "xx")
      walk_at "cv"
      refine i_list ?_
      repeat (walk_at "xx")
      refine ⟨_, _, .inl ⟨rfl, rfl⟩, ?_⟩
      refine lc_filtX cx ltD id (by rw [szl]; simp [gains]; omega) (fun _ _ _ => trivial) (fun i x hx => ?_) ?_
      · rw [List.getElem?_map] at hx
        obtain ⟨j, _, rfl⟩ := Option.map_eq_some_iff.mp hx
        refine ⟨_, rfl, fun A1 h1 g1 s1 H1 Cc cl fp cx => ?_⟩
        repeat (walk_at "xx")
        refine ⟨_, rfl, rfl, rfl, fun _ s1 H1 Cc cl fp cx => ?_⟩
        repeat (walk_at "xx")
        exact ⟨rfl, rfl⟩
      · repeat (walk_at "xx")
        walk_at "cv"
        refine i_list ?_
        repeat (walk_at "xx")
        refine ⟨_, _, .inl ⟨rfl, rfl⟩, ?_⟩
        refine lc_filtX cx gtD id (by rw [szl]; simp [gains]; omega) (fun _ _ _ => trivial) (fun i x hx => ?_) ?_
        · rw [List.getElem?_map] at hx
          obtain ⟨j, _, rfl⟩ := Option.map_eq_some_iff.mp hx
          refine ⟨_, rfl, fun A1 h1 g1 s1 H1 Cc cl fp cx => ?_⟩
          repeat (walk_at "xx")
          refine ⟨_, rfl, rfl, rfl, fun _ s1 H1 Cc cl fp cx => ?_⟩
          repeat (walk_at "xx")
          exact ⟨rfl, rfl⟩
        · repeat (walk_at "xx")
          rw [len_filt, len_filt]
          exact k
end
/-! ### conventions -/
def still (a b c d n : Int) : List Int := ((List.range (n.toNat + 1)).map fun i : Nat => (i : Int)).filter fun i => (hts a b c d n)[i.toNat]? == some 0
def sp_conv (K : PySem.W.Frag) : Sp3 := fun ds G Q E => ∃ pay many, ds = [pay, many] ∧ spC K pay many G E fun a b c d n => Q (.tup ((still a b c d n).map .int)) G
def hz (l : List Int) : D → Bool
  | .int i => l[i.toNat]? == some 0
  | _ => false
theorem still_map (a b c d n : Int) (hn : 0 ≤ n) : ((rangeD 0 (n + 1).toNat).filter (hz (hts a b c d n))).map id = (still a b c d n).map .int := by
  have e : rangeD 0 (n + 1).toNat = ((List.range (n.toNat + 1)).map fun i : Nat => (i : Int)).map D.int := by
    unfold rangeD
    rw [List.map_map, show (n + 1).toNat = n.toNat + 1 by omega]
    refine List.map_congr_left fun i _ => ?_
    show D.int (0 + i) = .int i
    rw [Int.zero_add]
  rw [e, List.filter_map, List.map_id]
  rfl
section
set_option hygiene false in
local macro_rules | `(tactic| walk_at "Par") => `(tactic| first
  | fail)
set_option hygiene false in
local macro_rules | `(tactic| walk_at "Nam") => `(tactic| first
  | ((with_reducible refine' r_var 0 (x := "pay") ?hN ?hv ?hs ?_); (case hN => exact ⟨rfl, by decide, by decide⟩); (case hv => walk_at "vv"); (case hs => exact rfl))
  | ((with_reducible refine' r_var 1 (x := "many") ?hN ?hv ?hs ?_); (case hN => exact ⟨rfl, by decide, by decide⟩); (case hv => walk_at "vv"); (case hs => exact rfl))
  | ((with_reducible refine' r_var 2 (x := "levels") ?hN ?hv ?hs ?_); (case hN => exact ⟨rfl, by decide, by decide⟩); (case hv => walk_at "vv"); (case hs => exact rfl))
  | ((with_reducible refine' r_var 3 (x := "n") ?hN ?hv ?hs ?_); (case hN => exact ⟨rfl, by decide, by decide⟩); (case hv => walk_at "vv"); (case hs => exact rfl))
  | ((with_reducible refine' r_defv (x := "need_crowd") (Z.g_need_crowd) ?hk ?hg ?_ ?hd); (case hk => exact (d_need_crowd Z)); (case hg => first | exact (fun z => z) | exact rfl); (case hd => decide))
  | ((with_reducible refine' r_defv (x := "crowd_levels") (Z.g_crowd_levels) ?hk ?hg ?_ ?hd); (case hk => exact (d_crowd_levels Z)); (case hg => first | exact (fun z => z) | exact rfl); (case hd => decide))
  | ((with_reducible refine' r_bltn (x := "tuple") (v := .ty "tuple") ?hg ?hm bt_tuple ?hr ?_ ?hn ?hd); (case hg => exact rfl); (case hm => exact Z.z_tuple); (case hr => exact rfl); (case hn => decide); (case hd => decide)))
set_option hygiene false in
local macro_rules | `(tactic| walk_at "Cal") => `(tactic| first
  | ((with_reducible refine' r_call (x := "need_crowd") cx ?hF ?hk ?hg ?hm ?_ ?hd ?he ?hp); (case hF => exact d_need_crowd Z); (case hk => decide); (case hg => first | exact (fun z => z) | exact (fun z => nomatch z)); (case hm => exact rfl); (case hd => decide); (case he => exact rfl); (case hp => exact rfl))
  | ((with_reducible refine' r_call (x := "crowd_levels") cx ?hF ?hk ?hg ?hm ?_ ?hd ?he ?hp); (case hF => exact d_crowd_levels Z); (case hk => decide); (case hg => first | exact (fun z => z) | exact (fun z => nomatch z)); (case hm => exact rfl); (case hd => decide); (case he => exact rfl); (case hp => exact rfl))
  | ((with_reducible refine' r_callTy (x := "tuple") (id := "tuple") call_tupOf ?hg ?hm bt_tuple ?_ ?hn ?hd ?he ?hp); (case hg => exact rfl); (case hm => exact Z.z_tuple); (case hn => decide); (case hd => decide); (case he => exact rfl); (case hp => exact rfl)))
set_option hygiene false in
local macro_rules | `(tactic| walk_at "Rai") => `(tactic| first
  | fail)
set_option hygiene false in
local macro_rules | `(tactic| walk_at "Aug") => `(tactic| first
  | fail)
set_option hygiene false in
local macro_rules | `(tactic| walk_at "gv") => `(tactic| first
  | ((with_reducible refine' g_name 0 (x := "pay") cx.nd ?hi ?hx ?_ ?hf); (case hi => exact rfl); (case hx => walk_at "ll"); (case hf => first | exact .inl rfl | exact .inr rfl))
  | ((with_reducible refine' g_name 1 (x := "many") cx.nd ?hi ?hx ?_ ?hf); (case hi => exact rfl); (case hx => walk_at "ll"); (case hf => first | exact .inl rfl | exact .inr rfl))
  | ((with_reducible refine' g_name 2 (x := "levels") cx.nd ?hi ?hx ?_ ?hf); (case hi => exact rfl); (case hx => walk_at "ll"); (case hf => first | exact .inl rfl | exact .inr rfl))
  | ((with_reducible refine' g_name 3 (x := "n") cx.nd ?hi ?hx ?_ ?hf); (case hi => exact rfl); (case hx => walk_at "ll"); (case hf => first | exact .inl rfl | exact .inr rfl)))
set_option hygiene false in
local macro_rules | `(tactic| walk_at "cv") => `(tactic| first
  | ((with_reducible refine' r_lc (own := [("n", 3)]) (tg := .Name "n" _) cx.calm cx.nd ?hok (tg_name 3 (by decide)) ?hg ?_ ?hs); (case hok => exact blkOk_by (N := ["pay", "many", "levels", "n"]) (sc := defScope s_conventions) (by decide +kernel)); (case hg => exact fun _ _ _ _ _ => pg_name (i := 3) cx.nd rfl (Or.inl rfl)); (case hs => exact fun _ => rfl)))
set_option hygiene false in
local macro_rules | `(tactic| walk_at "cvO") => `(tactic| first
  | ((with_reducible refine' r_lcO (own := [("n", 3)]) (tg := .Name "n" _) cx.calm cx.nd ?hok (tg_name 3 (by decide)) ?hg ?_ ?hs); (case hok => exact blkOk_by (N := ["pay", "many", "levels", "n"]) (sc := defScope s_conventions) (by decide +kernel)); (case hg => exact fun _ _ _ _ _ => pg_name (i := 3) cx.nd rfl (Or.inl rfl)); (case hs => exact fun _ => rfl)))

theorem d_conventions (Z : Tx K mg) : Def3 P w K mg base T 4 false "conventions" ["pay", "many"] (sp_conv K) := by
  obtain ⟨fd, F⟩ := Z.f_conventions
  refine def_ok F sc_conventions Z.g_conventions (fun ds G Q E h => ?_) fun A outer s H E O ds G Q3 E3 cx h => ?_
  · obtain ⟨pay, many, rfl, _⟩ := h; rfl
  · obtain ⟨pay, many, rfl, h⟩ := h
    walk_at "bb"
    repeat (walk_at "xx")
    refine spC_need h fun a b c d n e1 e2 n1 n2 k => ?_
    subst e1 e2
    repeat (walk_at "xx")
    refine ⟨a, b, c, d, n, rfl, ⟨n1, n2⟩, ?_⟩
    repeat (walk_at "xx")
    walk_at "cv"
    repeat (walk_at "xx")
    refine ⟨_, rfl, by omega, by omega, ?_⟩
    refine lc_filtX cx (hz (hts a b c d n)) id (by rw [rangeD_length, szl]; omega) (fun _ _ _ => trivial) (fun i x hx => ?_) ?_
    · obtain ⟨hi, rfl⟩ := rangeD_get hx
      obtain ⟨v, hv⟩ : ∃ v, (hts a b c d n)[i]? = some v := ⟨_, List.getElem?_eq_getElem (by rw [hts_len]; omega)⟩
      refine ⟨_, rfl, fun A1 h1 g1 s1 H1 Cc cl fp cx => ?_⟩
      repeat (walk_at "xx")
      refine ix_l (d := .int v) (atI_nat hv) ?_
      repeat (walk_at "xx")
      refine ⟨_, rfl, ?_, rfl, fun _ s1 H1 Cc cl fp cx => ?_⟩
      · show _ = ((hts a b c d n)[((0 : Int) + i).toNat]? == some 0)
        rw [Int.zero_add, Int.toNat_natCast, hv]
        by_cases z : v = 0
        · subst z; rfl
        · rw [decide_eq_false z]
          exact (beq_eq_false_iff_ne.mpr fun q => z (Option.some.inj q)).symm
      · repeat (walk_at "xx")
        exact ⟨rfl, rfl⟩
    · rw [still_map a b c d n (by omega)]
      repeat (walk_at "xx")
      exact c_tuple (.inr (.inl rfl)) k
end
end K58
end
section
set_option maxHeartbeats 4000000
namespace K58
open PySem PySem.Spec PyProof.Rows L2 L3
local macro_rules | `(tactic| walk_at "sc") => `(tactic| first | omega | exact ⟨by omega, by omega⟩ | exact cmul_fmod (by decide) (by decide) | exact .inl ⟨by omega, by omega⟩ | exact .inr ⟨by omega, by omega⟩ | exact ⟨by omega, by omega, by omega⟩)
local macro_rules | `(tactic| walk_at "vv") => `(tactic| first | exact Or.inl rfl | exact Or.inr (Or.inl rfl) | exact Or.inr (Or.inr rfl))
local macro_rules | `(tactic| walk_at "ll") => `(tactic| first | exact Or.inl rfl | exact Or.inr rfl)
set_option hygiene false in
local macro_rules | `(tactic| walk_at "A") => `(tactic| first
  | ((with_reducible refine' a_cons ?_ ?hs); (case hs => exact rfl))
  | (with_reducible refine' a_nil ?_))
set_option hygiene false in
local macro_rules | `(tactic| walk_at "Con") => `(tactic| first
  | (with_reducible refine' r_int ?_)
  | (with_reducible refine' r_str ?_)
  | (with_reducible refine' r_non ?_)
  | (with_reducible refine' r_bl ?_))
set_option hygiene false in
local macro_rules | `(tactic| walk_at "Bin") => `(tactic| first
  | ((with_reducible show xE _ _ _ (.BinOp _ .Add _ _) _ _ _); (with_reducible refine' r_op op_addA ?_))
  | ((with_reducible show xE _ _ _ (.BinOp _ .Sub _ _) _ _ _); (with_reducible refine' r_op op_sub ?_))
  | ((with_reducible show xE _ _ _ (.BinOp _ .Mult _ _) _ _ _); (with_reducible refine' r_op op_mul ?_))
  | ((with_reducible show xE _ _ _ (.BinOp _ .FloorDiv _ _) _ _ _); (with_reducible refine' r_op op_fdivN ?_))
  | ((with_reducible show xE _ _ _ (.BinOp _ .Mod _ _) _ _ _); (with_reducible refine' r_op op_modN ?_))
  | ((with_reducible show xE _ _ _ (.BinOp _ .Pow _ _) _ _ _); (with_reducible refine' r_op op_pow ?_)))
set_option hygiene false in
local macro_rules | `(tactic| walk_at "Cmp") => `(tactic| first
  | ((with_reducible show xE _ _ _ (.Compare _ [.Lt] _ _) _ _ _); (with_reducible refine' r_cmp op_lt ?hm ?_); (case hm => exact rfl))
  | ((with_reducible show xE _ _ _ (.Compare _ [.LtE] _ _) _ _ _); (with_reducible refine' r_cmp op_le ?hm ?_); (case hm => exact rfl))
  | ((with_reducible show xE _ _ _ (.Compare _ [.Gt] _ _) _ _ _); (with_reducible refine' r_cmp op_gt ?hm ?_); (case hm => exact rfl))
  | ((with_reducible show xE _ _ _ (.Compare _ [.GtE] _ _) _ _ _); (with_reducible refine' r_cmp op_ge ?hm ?_); (case hm => exact rfl))
  | ((with_reducible show xE _ _ _ (.Compare _ [.Eq] _ _) _ _ _); (with_reducible refine' r_cmp (op_eqB cx.hu64) ?hm ?_); (case hm => exact rfl))
  | ((with_reducible show xE _ _ _ (.Compare _ [.NotEq] _ _) _ _ _); (with_reducible refine' r_cmp (op_neB cx.hu64) ?hm ?_); (case hm => exact rfl))
  | ((with_reducible show xE _ _ _ (.Compare _ [.Is] _ _) _ _ _); (with_reducible refine' r_cmp op_isN1 ?hm ?_); (case hm => exact rfl))
  | ((with_reducible show xE _ _ _ (.Compare _ [.IsNot] _ _) _ _ _); (with_reducible refine' r_cmp op_notN1 ?hm ?_); (case hm => exact rfl)))
set_option hygiene false in
local macro_rules | `(tactic| walk_at "TCmp") => `(tactic| first
  | ((with_reducible show xT _ _ _ (.Compare _ [.Lt] _ _) _ _ _); (with_reducible refine' t_cmp op_lt ?hm ?_); (case hm => exact rfl))
  | ((with_reducible show xT _ _ _ (.Compare _ [.LtE] _ _) _ _ _); (with_reducible refine' t_cmp op_le ?hm ?_); (case hm => exact rfl))
  | ((with_reducible show xT _ _ _ (.Compare _ [.Gt] _ _) _ _ _); (with_reducible refine' t_cmp op_gt ?hm ?_); (case hm => exact rfl))
  | ((with_reducible show xT _ _ _ (.Compare _ [.GtE] _ _) _ _ _); (with_reducible refine' t_cmp op_ge ?hm ?_); (case hm => exact rfl))
  | ((with_reducible show xT _ _ _ (.Compare _ [.Eq] _ _) _ _ _); (with_reducible refine' t_cmp (op_eqB cx.hu64) ?hm ?_); (case hm => exact rfl))
  | ((with_reducible show xT _ _ _ (.Compare _ [.NotEq] _ _) _ _ _); (with_reducible refine' t_cmp (op_neB cx.hu64) ?hm ?_); (case hm => exact rfl))
  | ((with_reducible show xT _ _ _ (.Compare _ [.Is] _ _) _ _ _); (with_reducible refine' t_cmp op_isN1 ?hm ?_); (case hm => exact rfl))
  | ((with_reducible show xT _ _ _ (.Compare _ [.IsNot] _ _) _ _ _); (with_reducible refine' t_cmp op_notN1 ?hm ?_); (case hm => exact rfl))
  | ((with_reducible show xT _ _ _ (.Compare _ [.LtE, .LtE] _ _) _ _ _); (with_reducible refine' t_chain op_le op_le ?_ ?hl); (case hl => exact rfl))
  | ((with_reducible show xT _ _ _ (.Compare _ [.Lt, .Lt] _ _) _ _ _); (with_reducible refine' t_chain op_lt op_lt ?_ ?hl); (case hl => exact rfl))
  | ((with_reducible show xT _ _ _ (.Compare _ [.LtE, .Lt] _ _) _ _ _); (with_reducible refine' t_chain op_le op_lt ?_ ?hl); (case hl => exact rfl))
  | ((with_reducible show xT _ _ _ (.Compare _ [.Lt, .LtE] _ _) _ _ _); (with_reducible refine' t_chain op_lt op_le ?_ ?hl); (case hl => exact rfl)))
set_option hygiene false in
local macro_rules | `(tactic| walk_at "E") => `(tactic| first
  | ((with_reducible show xE _ _ _ (.Name _ _) _ _ _); walk_at "Nam")
  | ((with_reducible show xE _ _ _ (.Constant _ _ _) _ _ _); walk_at "Con")
  | ((with_reducible show xE _ _ _ (.BinOp _ _ _ _) _ _ _); walk_at "Bin")
  | ((with_reducible show xE _ _ _ (.Call _ _ _ _) _ _ _); walk_at "Cal")
  | ((with_reducible show xE _ _ _ (.Tuple _ _ _) _ _ _); (with_reducible refine' r_tup ?_))
  | ((with_reducible show xE _ _ _ (.Subscript _ (.Slice _ _ _ _) _) _ _ _); (with_reducible refine' r_slice ?_))
  | ((with_reducible show xE _ _ _ (.Subscript _ _ _) _ _ _); (refine r_sub cx.hu ?_))
  | ((with_reducible show xE _ _ _ (.Compare _ _ _ _) _ _ _); walk_at "Cmp")
  | ((with_reducible show xE _ _ _ (.IfExp _ _ _ _) _ _ _); (with_reducible refine' r_if ?_))
  | ((with_reducible show xE _ _ _ (.UnaryOp .USub _ _) _ _ _); (with_reducible refine' r_un un_neg ?_))
  | ((with_reducible show xE _ _ _ (.UnaryOp .Not _ _) _ _ _); (with_reducible refine' r_not ?_))
  | ((with_reducible show xE _ _ _ (.BoolOp .And (_ :: _ :: _) _) _ _ _); (with_reducible refine' r_and ?_))
  | ((with_reducible show xE _ _ _ (.BoolOp .Or (_ :: _ :: _) _) _ _ _); (with_reducible refine' r_or ?_))
  | ((with_reducible show xE _ _ _ (.BoolOp _ [_] _) _ _ _); (with_reducible refine' r_one ?_)))
set_option hygiene false in
local macro_rules | `(tactic| walk_at "T") => `(tactic| first
  | ((with_reducible show xT _ _ _ (.Compare _ _ _ _) _ _ _); walk_at "TCmp")
  | ((with_reducible show xT _ _ _ (.UnaryOp .Not _ _) _ _ _); (with_reducible refine' t_not ?_))
  | ((with_reducible show xT _ _ _ (.BoolOp .And _ _) _ _ _); (with_reducible refine' t_w (t_and ?_)))
  | ((with_reducible show xT _ _ _ (.BoolOp .Or _ _) _ _ _); (with_reducible refine' t_w (t_or ?_)))
  | ((with_reducible show xT _ _ _ (.Call _ _ _ _) _ _ _); (with_reducible refine' t_val ?_ ?he); (case he => intro _; rfl))
  | ((with_reducible show xT _ _ _ (.ListComp _ _ _ _) _ _ _); fail)
  | ((with_reducible show xT _ _ _ (.Name _ _) _ _ _); fail)
  | ((with_reducible refine' t_val ?_ ?he); (case he => intro _; rfl)))
set_option hygiene false in
local macro_rules | `(tactic| walk_at "W") => `(tactic| first
  | (with_reducible refine' t_and ?_)
  | (with_reducible refine' t_or ?_)
  | (with_reducible refine' t_and1 ?_)
  | (with_reducible refine' t_or1 ?_))
set_option hygiene false in
local macro_rules | `(tactic| walk_at "S") => `(tactic| first
  | ((with_reducible show xS _ _ _ (.If _ _ _ _) _ _ _); (with_reducible refine' s_if ?_))
  | ((with_reducible show xS _ _ _ (.Assign [.Tuple [.Name _ _, .Name _ _] _ _] (.Tuple [_, _] _ _) _) _ _ _); walk_at "Par")
  | ((with_reducible show xS _ _ _ (.Assign _ _ _) _ _ _); (with_reducible refine' s_asg ?_ ?hs ?hw ?h1); (case hs => exact rfl); (case hw => exact rfl); (case h1 => exact rfl))
  | ((with_reducible show xS _ _ _ (.Return (some _) _) _ _ _); (with_reducible refine' s_ret ?_))
  | ((with_reducible show xS _ _ _ (.Expr _ _) _ _ _); (with_reducible refine' s_expr ?_ ?hs); (case hs => exact rfl))
  | ((with_reducible show xS _ _ _ (.For _ _ _ _ _) _ _ _); (with_reducible refine' s_for cx.po cx.calm ?_ ?hs); (case hs => exact fun _ => rfl))
  | ((with_reducible show xS _ _ _ (.Raise _ _ _) _ _ _); walk_at "Rai")
  | ((with_reducible show xS _ _ _ (.AugAssign _ _ _ _) _ _ _); walk_at "Aug")
  | (with_reducible refine' s_pass ?_)
  | (with_reducible refine' s_break ?_)
  | (with_reducible refine' s_cont ?_)
  | (with_reducible refine' s_retN ?_))
set_option hygiene false in
local macro_rules | `(tactic| walk_at "G") => `(tactic| first
  | ((with_reducible show xG _ _ _ (.Name _ _) _ _ _ _); walk_at "gv")
  | ((with_reducible show xG _ _ _ (.Tuple _ _ _) _ _ _ _); (with_reducible refine' g_tup cx.calm ?_ ?hn ?hst); (case hn => exact rfl); (case hst => exact rfl))
  | ((with_reducible show xG _ _ _ (.Subscript _ _ _) _ _ _ _); (refine g_sub cx.hu ?_)))
set_option hygiene false in
local macro_rules | `(tactic| walk_at "Gs") => `(tactic| first
  | ((with_reducible refine' gs_cons ?_ ?hs); (case hs => exact rfl))
  | (with_reducible refine' gs_nil ?_))
set_option hygiene false in
local macro_rules | `(tactic| walk_at "O") => `(tactic| first
  | (with_reducible refine' p_int ?_)
  | (with_reducible refine' o_int0 ?_)
  | (with_reducible refine' o_bl0 ?_)
  | ((with_reducible refine' o_int ?_ ?hc); (case hc => walk_at "sc"))
  | (with_reducible refine' o_int ?_ ?_)
  | (with_reducible refine' e_int ?_)
  | (with_reducible refine' n_int ?_)
  | (with_reducible refine' e_str ?_)
  | (with_reducible refine' n_str ?_)
  | (with_reducible refine' o_isN ?_)
  | (with_reducible refine' o_notN ?_)
  | (with_reducible refine' p_str ?_ ?_))
set_option hygiene false in
local macro_rules | `(tactic| walk_at "C") => `(tactic| first
  | (with_reducible refine' len_t ?_)
  | (with_reducible refine' len_l ?_)
  | (with_reducible refine' c_abs ?_)
  | (with_reducible refine' c_int ?_)
  | (with_reducible refine' c_intB ?_)
  | (with_reducible refine' c_min2 ?_)
  | (with_reducible refine' c_max2 ?_)
  | (with_reducible refine' c_str ?_ ?_))
set_option hygiene false in
local macro_rules | `(tactic| walk_at "S3") => `(tactic| first
  | (with_reducible refine' s_t ?_)
  | (with_reducible refine' s_s ?_ ?_))
set_option hygiene false in
local macro_rules | `(tactic| walk_at "bb") => `(tactic| first
  | (with_reducible refine b_cons ?_)
  | (with_reducible refine b_one ?_)
  | (with_reducible refine b_nil ?_)
  | (refine b_cons ?_)
  | (refine b_one ?_)
  | (refine b_nil ?_))
set_option hygiene false in
local macro_rules | `(tactic| walk_at "I") => `(tactic| first
  | ((with_reducible refine' i_range1 ?hg ?hm ?_ ?hs); (case hg => exact rfl); (case hm => exact Z.z_range); (case hs => exact rfl))
  | ((with_reducible refine' i_range2 ?hg ?hm ?_ ?hs ?hs2); (case hg => exact rfl); (case hm => exact Z.z_range); (case hs => exact rfl); (case hs2 => exact rfl)))
local macro_rules | `(tactic| walk_at "be") => `(tactic| first
  | (with_reducible refine b_cons ?_)
  | (with_reducible refine b_one ?_)
  | (with_reducible refine b_nil ?_))
set_option hygiene false in
local macro_rules | `(tactic| walk_at "xx") => `(tactic| first
  | ((with_reducible show xE _ _ _ _ _ _ _); walk_at "E")
  | ((with_reducible show xA _ _ _ _ _ _ _); walk_at "A")
  | ((with_reducible show O3 _ _ _ _ _ _ _); walk_at "O")
  | ((with_reducible show C3 _ _ _ _ _ _); walk_at "C")
  | ((with_reducible show xS _ _ _ _ _ _ _); walk_at "S")
  | ((with_reducible show xB _ _ _ _ _ _ _); walk_at "be")
  | ((with_reducible show xT _ _ _ _ _ _ _); walk_at "T")
  | ((with_reducible show xW _ _ _ _ _ _ _); walk_at "W")
  | ((with_reducible show xG _ _ _ _ _ _ _ _); walk_at "G")
  | ((with_reducible show xGs _ _ _ _ _ _ _ _); walk_at "Gs")
  | ((with_reducible show U3 _ _ _ _ _ _); (with_reducible refine' u_int ?_))
  | ((with_reducible show S3 _ _ _ _ _ _ _ _); walk_at "S3")
  | ((with_reducible show xI _ _ _ _ _ _ _ _); walk_at "I")
  | ((with_reducible show _ ≤ sizeLine ∧ _); (with_reducible refine' len16 ?hL ?_); (case hL => exact rfl)))
local macro_rules | `(tactic| walk_at "sd") => `(tactic| first | decide | omega | exact ⟨by decide, by decide⟩ | exact .inl ⟨by omega, by omega⟩ | exact .inr ⟨by omega, by omega⟩)
local macro_rules | `(tactic| walk_at "xn") => `(tactic| ((fail_if_success (with_reducible show xB _ _ _ (.If _ _ _ _ :: _ :: _) _ _ _)); walk_at "xx"))
variable {P : Program} {w : World} {K : PySem.W.Frag} {mg : Str → Option Value} {base : Heap} {T : List (Addr × Str)}
def shareD (a b c d n : Int) : D → D
  | .int i => .tup [.str (numS i), .tup [.tup [.int ((hts a b c d n)[i.toNat]?.getD 0), .int (PySem.W.mcComb n i), .int 1]]]
  | x => x
def sharesL (a b c d n : Int) : List D := (rangeD 0 (n + 1).toNat).map (shareD a b c d n)
def sp_shares (K : PySem.W.Frag) : Sp3 := fun ds G Q E => ∃ pay many, ds = [pay, many] ∧ spC K pay many G E fun a b c d n => Q (.tup (sharesL a b c d n)) G
section
set_option hygiene false in
local macro_rules | `(tactic| walk_at "Par") => `(tactic| first
  | fail)
set_option hygiene false in
local macro_rules | `(tactic| walk_at "Nam") => `(tactic| first
  | ((with_reducible refine' r_var 0 (x := "pay") ?hN ?hv ?hs ?_); (case hN => exact ⟨rfl, by decide, by decide⟩); (case hv => walk_at "vv"); (case hs => exact rfl))
  | ((with_reducible refine' r_var 1 (x := "many") ?hN ?hv ?hs ?_); (case hN => exact ⟨rfl, by decide, by decide⟩); (case hv => walk_at "vv"); (case hs => exact rfl))
  | ((with_reducible refine' r_var 2 (x := "levels") ?hN ?hv ?hs ?_); (case hN => exact ⟨rfl, by decide, by decide⟩); (case hv => walk_at "vv"); (case hs => exact rfl))
  | ((with_reducible refine' r_var 3 (x := "n") ?hN ?hv ?hs ?_); (case hN => exact ⟨rfl, by decide, by decide⟩); (case hv => walk_at "vv"); (case hs => exact rfl))
  | ((with_reducible refine' r_defv (x := "need_crowd") (Z.g_need_crowd) ?hk ?hg ?_ ?hd); (case hk => exact (d_need_crowd Z)); (case hg => first | exact (fun z => z) | exact rfl); (case hd => decide))
  | ((with_reducible refine' r_defv (x := "crowd_levels") (Z.g_crowd_levels) ?hk ?hg ?_ ?hd); (case hk => exact (d_crowd_levels Z)); (case hg => first | exact (fun z => z) | exact rfl); (case hd => decide))
  | ((with_reducible refine' r_bltn (x := "tuple") (v := .ty "tuple") ?hg ?hm bt_tuple ?hr ?_ ?hn ?hd); (case hg => exact rfl); (case hm => exact Z.z_tuple); (case hr => exact rfl); (case hn => decide); (case hd => decide))
  | ((with_reducible refine' r_defv (x := "numbered") (Z.g_numbered) ?hk ?hg ?_ ?hd); (case hk => exact (d_numbered Z)); (case hg => first | exact (fun z => z) | exact rfl); (case hd => decide)))
set_option hygiene false in
local macro_rules | `(tactic| walk_at "Cal") => `(tactic| first
  | ((with_reducible refine' r_call (x := "need_crowd") cx ?hF ?hk ?hg ?hm ?_ ?hd ?he ?hp); (case hF => exact d_need_crowd Z); (case hk => decide); (case hg => first | exact (fun z => z) | exact (fun z => nomatch z)); (case hm => exact rfl); (case hd => decide); (case he => exact rfl); (case hp => exact rfl))
  | ((with_reducible refine' r_call (x := "crowd_levels") cx ?hF ?hk ?hg ?hm ?_ ?hd ?he ?hp); (case hF => exact d_crowd_levels Z); (case hk => decide); (case hg => first | exact (fun z => z) | exact (fun z => nomatch z)); (case hm => exact rfl); (case hd => decide); (case he => exact rfl); (case hp => exact rfl))
  | ((with_reducible refine' r_callTy (x := "tuple") (id := "tuple") call_tupOf ?hg ?hm bt_tuple ?_ ?hn ?hd ?he ?hp); (case hg => exact rfl); (case hm => exact Z.z_tuple); (case hn => decide); (case hd => decide); (case he => exact rfl); (case hp => exact rfl))
  | ((with_reducible refine' r_call (x := "numbered") cx ?hF ?hk ?hg ?hm ?_ ?hd ?he ?hp); (case hF => exact d_numbered Z); (case hk => decide); (case hg => first | exact (fun z => z) | exact (fun z => nomatch z)); (case hm => exact rfl); (case hd => decide); (case he => exact rfl); (case hp => exact rfl))
  | ((with_reducible refine' r_callGB call_comb rfl Z.m_comb ?_)))
set_option hygiene false in
local macro_rules | `(tactic| walk_at "Rai") => `(tactic| first
  | fail)
set_option hygiene false in
local macro_rules | `(tactic| walk_at "Aug") => `(tactic| first
  | fail)
set_option hygiene false in
local macro_rules | `(tactic| walk_at "gv") => `(tactic| first
  | ((with_reducible refine' g_name 0 (x := "pay") cx.nd ?hi ?hx ?_ ?hf); (case hi => exact rfl); (case hx => walk_at "ll"); (case hf => first | exact .inl rfl | exact .inr rfl))
  | ((with_reducible refine' g_name 1 (x := "many") cx.nd ?hi ?hx ?_ ?hf); (case hi => exact rfl); (case hx => walk_at "ll"); (case hf => first | exact .inl rfl | exact .inr rfl))
  | ((with_reducible refine' g_name 2 (x := "levels") cx.nd ?hi ?hx ?_ ?hf); (case hi => exact rfl); (case hx => walk_at "ll"); (case hf => first | exact .inl rfl | exact .inr rfl))
  | ((with_reducible refine' g_name 3 (x := "n") cx.nd ?hi ?hx ?_ ?hf); (case hi => exact rfl); (case hx => walk_at "ll"); (case hf => first | exact .inl rfl | exact .inr rfl)))
set_option hygiene false in
local macro_rules | `(tactic| walk_at "cv") => `(tactic| first
  | ((with_reducible refine' r_lc (own := [("n", 3)]) (tg := .Name "n" _) cx.calm cx.nd ?hok (tg_name 3 (by decide)) ?hg ?_ ?hs); (case hok => exact blkOk_by (N := ["pay", "many", "levels", "n"]) (sc := defScope s_crowd_shares) (by decide +kernel)); (case hg => exact fun _ _ _ _ _ => pg_name (i := 3) cx.nd rfl (Or.inl rfl)); (case hs => exact fun _ => rfl)))
set_option hygiene false in
local macro_rules | `(tactic| walk_at "cvO") => `(tactic| first
  | ((with_reducible refine' r_lcO (own := [("n", 3)]) (tg := .Name "n" _) cx.calm cx.nd ?hok (tg_name 3 (by decide)) ?hg ?_ ?hs); (case hok => exact blkOk_by (N := ["pay", "many", "levels", "n"]) (sc := defScope s_crowd_shares) (by decide +kernel)); (case hg => exact fun _ _ _ _ _ => pg_name (i := 3) cx.nd rfl (Or.inl rfl)); (case hs => exact fun _ => rfl)))

theorem d_crowd_shares (Z : Tx K mg) : Def3 P w K mg base T 4 false "crowd_shares" ["pay", "many"] (sp_shares K) := by
  obtain ⟨fd, F⟩ := Z.f_crowd_shares
  refine def_ok F sc_crowd_shares Z.g_crowd_shares (fun ds G Q E h => ?_) fun A outer s H E O ds G Q3 E3 cx h => ?_
  · obtain ⟨pay, many, rfl, _⟩ := h; rfl
  · obtain ⟨pay, many, rfl, h⟩ := h
    walk_at "bb"
    repeat (walk_at "xx")
    refine spC_need h fun a b c d n e1 e2 n1 n2 k => ?_
    subst e1 e2
    repeat (walk_at "xx")
    refine ⟨a, b, c, d, n, rfl, ⟨n1, n2⟩, ?_⟩
    repeat (walk_at "xx")
    walk_at "cv"
    repeat (walk_at "xx")
    refine ⟨_, rfl, by omega, by omega, ?_⟩
    refine lc_mapX cx (shareD a b c d n) (by rw [rangeD_length, szl]; omega) (fun _ _ _ => trivial) (fun i x hx => ?_) ?_
    · obtain ⟨hi, rfl⟩ := rangeD_get hx
      obtain ⟨v, hv⟩ : ∃ v, (hts a b c d n)[i]? = some v := ⟨_, List.getElem?_eq_getElem (by rw [hts_len]; omega)⟩
      refine ⟨_, rfl, fun A1 h1 g1 s1 H1 Cc cl fp cx => ?_⟩
      repeat (walk_at "xx")
      refine ⟨_, rfl, by omega, ?_⟩
      repeat (walk_at "xx")
      refine ix_l (d := .int v) (atI_nat hv) ?_
      repeat (walk_at "xx")
      refine r_callGB call_comb rfl Z.m_comb ?_
      repeat (walk_at "xx")
      refine c_comb (by omega) (by omega) (by omega) fun _ => ?_
      repeat (walk_at "xx")
      refine ⟨?_, rfl⟩
      show _ = D.tup [.str (numS (0 + i)), .tup [.tup [.int ((hts a b c d n)[((0 : Int) + i).toNat]?.getD 0), .int (PySem.W.mcComb n (0 + i)), .int 1]]]
      rw [show ((0 : Int) + i).toNat = i by omega, hv]
      rfl
    · repeat (walk_at "xx")
      exact c_tuple (.inr (.inl rfl)) k
end
/-! ### web_in, crowd -/
end K58
end
section
set_option maxHeartbeats 4000000
namespace K58
open PySem PySem.Spec PyProof.Rows L2 L3
local macro_rules | `(tactic| walk_at "sc") => `(tactic| first | omega | exact ⟨by omega, by omega⟩ | exact cmul_fmod (by decide) (by decide) | exact .inl ⟨by omega, by omega⟩ | exact .inr ⟨by omega, by omega⟩ | exact ⟨by omega, by omega, by omega⟩)
local macro_rules | `(tactic| walk_at "vv") => `(tactic| first | exact Or.inl rfl | exact Or.inr (Or.inl rfl) | exact Or.inr (Or.inr rfl))
local macro_rules | `(tactic| walk_at "ll") => `(tactic| first | exact Or.inl rfl | exact Or.inr rfl)
set_option hygiene false in
local macro_rules | `(tactic| walk_at "A") => `(tactic| first
  | ((with_reducible refine' a_cons ?_ ?hs); (case hs => exact rfl))
  | (with_reducible refine' a_nil ?_))
set_option hygiene false in
local macro_rules | `(tactic| walk_at "Con") => `(tactic| first
  | (with_reducible refine' r_int ?_)
  | (with_reducible refine' r_str ?_)
  | (with_reducible refine' r_non ?_)
  | (with_reducible refine' r_bl ?_))
set_option hygiene false in
local macro_rules | `(tactic| walk_at "Bin") => `(tactic| first
  | ((with_reducible show xE _ _ _ (.BinOp _ .Add _ _) _ _ _); (with_reducible refine' r_op op_addA ?_))
  | ((with_reducible show xE _ _ _ (.BinOp _ .Sub _ _) _ _ _); (with_reducible refine' r_op op_sub ?_))
  | ((with_reducible show xE _ _ _ (.BinOp _ .Mult _ _) _ _ _); (with_reducible refine' r_op op_mul ?_))
  | ((with_reducible show xE _ _ _ (.BinOp _ .FloorDiv _ _) _ _ _); (with_reducible refine' r_op op_fdivN ?_))
  | ((with_reducible show xE _ _ _ (.BinOp _ .Mod _ _) _ _ _); (with_reducible refine' r_op op_modN ?_))
  | ((with_reducible show xE _ _ _ (.BinOp _ .Pow _ _) _ _ _); (with_reducible refine' r_op op_pow ?_)))
set_option hygiene false in
local macro_rules | `(tactic| walk_at "Cmp") => `(tactic| first
  | ((with_reducible show xE _ _ _ (.Compare _ [.Lt] _ _) _ _ _); (with_reducible refine' r_cmp op_lt ?hm ?_); (case hm => exact rfl))
  | ((with_reducible show xE _ _ _ (.Compare _ [.LtE] _ _) _ _ _); (with_reducible refine' r_cmp op_le ?hm ?_); (case hm => exact rfl))
  | ((with_reducible show xE _ _ _ (.Compare _ [.Gt] _ _) _ _ _); (with_reducible refine' r_cmp op_gt ?hm ?_); (case hm => exact rfl))
  | ((with_reducible show xE _ _ _ (.Compare _ [.GtE] _ _) _ _ _); (with_reducible refine' r_cmp op_ge ?hm ?_); (case hm => exact rfl))
  | ((with_reducible show xE _ _ _ (.Compare _ [.Eq] _ _) _ _ _); (with_reducible refine' r_cmp (op_eqB cx.hu64) ?hm ?_); (case hm => exact rfl))
  | ((with_reducible show xE _ _ _ (.Compare _ [.NotEq] _ _) _ _ _); (with_reducible refine' r_cmp (op_neB cx.hu64) ?hm ?_); (case hm => exact rfl))
  | ((with_reducible show xE _ _ _ (.Compare _ [.Is] _ _) _ _ _); (with_reducible refine' r_cmp op_isN1 ?hm ?_); (case hm => exact rfl))
  | ((with_reducible show xE _ _ _ (.Compare _ [.IsNot] _ _) _ _ _); (with_reducible refine' r_cmp op_notN1 ?hm ?_); (case hm => exact rfl)))
set_option hygiene false in
local macro_rules | `(tactic| walk_at "TCmp") => `(tactic| first
  | ((with_reducible show xT _ _ _ (.Compare _ [.Lt] _ _) _ _ _); (with_reducible refine' t_cmp op_lt ?hm ?_); (case hm => exact rfl))
  | ((with_reducible show xT _ _ _ (.Compare _ [.LtE] _ _) _ _ _); (with_reducible refine' t_cmp op_le ?hm ?_); (case hm => exact rfl))
  | ((with_reducible show xT _ _ _ (.Compare _ [.Gt] _ _) _ _ _); (with_reducible refine' t_cmp op_gt ?hm ?_); (case hm => exact rfl))
  | ((with_reducible show xT _ _ _ (.Compare _ [.GtE] _ _) _ _ _); (with_reducible refine' t_cmp op_ge ?hm ?_); (case hm => exact rfl))
  | ((with_reducible show xT _ _ _ (.Compare _ [.Eq] _ _) _ _ _); (with_reducible refine' t_cmp (op_eqB cx.hu64) ?hm ?_); (case hm => exact rfl))
  | ((with_reducible show xT _ _ _ (.Compare _ [.NotEq] _ _) _ _ _); (with_reducible refine' t_cmp (op_neB cx.hu64) ?hm ?_); (case hm => exact rfl))
  | ((with_reducible show xT _ _ _ (.Compare _ [.Is] _ _) _ _ _); (with_reducible refine' t_cmp op_isN1 ?hm ?_); (case hm => exact rfl))
  | ((with_reducible show xT _ _ _ (.Compare _ [.IsNot] _ _) _ _ _); (with_reducible refine' t_cmp op_notN1 ?hm ?_); (case hm => exact rfl))
  | ((with_reducible show xT _ _ _ (.Compare _ [.LtE, .LtE] _ _) _ _ _); (with_reducible refine' t_chain op_le op_le ?_ ?hl); (case hl => exact rfl))
  | ((with_reducible show xT _ _ _ (.Compare _ [.Lt, .Lt] _ _) _ _ _); (with_reducible refine' t_chain op_lt op_lt ?_ ?hl); (case hl => exact rfl))
  | ((with_reducible show xT _ _ _ (.Compare _ [.LtE, .Lt] _ _) _ _ _); (with_reducible refine' t_chain op_le op_lt ?_ ?hl); (case hl => exact rfl))
  | ((with_reducible show xT _ _ _ (.Compare _ [.Lt, .LtE] _ _) _ _ _); (with_reducible refine' t_chain op_lt op_le ?_ ?hl); (case hl => exact rfl)))
set_option hygiene false in
local macro_rules | `(tactic| walk_at "E") => `(tactic| first
  | ((with_reducible show xE _ _ _ (.Name _ _) _ _ _); walk_at "Nam")
  | ((with_reducible show xE _ _ _ (.Constant _ _ _) _ _ _); walk_at "Con")
  | ((with_reducible show xE _ _ _ (.BinOp _ _ _ _) _ _ _); walk_at "Bin")
  | ((with_reducible show xE _ _ _ (.Call _ _ _ _) _ _ _); walk_at "Cal")
  | ((with_reducible show xE _ _ _ (.Tuple _ _ _) _ _ _); (with_reducible refine' r_tup ?_))
  | ((with_reducible show xE _ _ _ (.Subscript _ (.Slice _ _ _ _) _) _ _ _); (with_reducible refine' r_slice ?_))
  | ((with_reducible show xE _ _ _ (.Subscript _ _ _) _ _ _); (refine r_sub cx.hu ?_))
  | ((with_reducible show xE _ _ _ (.Compare _ _ _ _) _ _ _); walk_at "Cmp")
  | ((with_reducible show xE _ _ _ (.IfExp _ _ _ _) _ _ _); (with_reducible refine' r_if ?_))
  | ((with_reducible show xE _ _ _ (.UnaryOp .USub _ _) _ _ _); (with_reducible refine' r_un un_neg ?_))
  | ((with_reducible show xE _ _ _ (.UnaryOp .Not _ _) _ _ _); (with_reducible refine' r_not ?_))
  | ((with_reducible show xE _ _ _ (.BoolOp .And (_ :: _ :: _) _) _ _ _); (with_reducible refine' r_and ?_))
  | ((with_reducible show xE _ _ _ (.BoolOp .Or (_ :: _ :: _) _) _ _ _); (with_reducible refine' r_or ?_))
  | ((with_reducible show xE _ _ _ (.BoolOp _ [_] _) _ _ _); (with_reducible refine' r_one ?_)))
set_option hygiene false in
local macro_rules | `(tactic| walk_at "T") => `(tactic| first
  | ((with_reducible show xT _ _ _ (.Compare _ _ _ _) _ _ _); walk_at "TCmp")
  | ((with_reducible show xT _ _ _ (.UnaryOp .Not _ _) _ _ _); (with_reducible refine' t_not ?_))
  | ((with_reducible show xT _ _ _ (.BoolOp .And _ _) _ _ _); (with_reducible refine' t_w (t_and ?_)))
  | ((with_reducible show xT _ _ _ (.BoolOp .Or _ _) _ _ _); (with_reducible refine' t_w (t_or ?_)))
  | ((with_reducible show xT _ _ _ (.Call _ _ _ _) _ _ _); (with_reducible refine' t_val ?_ ?he); (case he => intro _; rfl))
  | ((with_reducible show xT _ _ _ (.ListComp _ _ _ _) _ _ _); fail)
  | ((with_reducible show xT _ _ _ (.Name _ _) _ _ _); fail)
  | ((with_reducible refine' t_val ?_ ?he); (case he => intro _; rfl)))
set_option hygiene false in
local macro_rules | `(tactic| walk_at "W") => `(tactic| first
  | (with_reducible refine' t_and ?_)
  | (with_reducible refine' t_or ?_)
  | (with_reducible refine' t_and1 ?_)
  | (with_reducible refine' t_or1 ?_))
set_option hygiene false in
local macro_rules | `(tactic| walk_at "S") => `(tactic| first
  | ((with_reducible show xS _ _ _ (.If _ _ _ _) _ _ _); (with_reducible refine' s_if ?_))
  | ((with_reducible show xS _ _ _ (.Assign [.Tuple [.Name _ _, .Name _ _] _ _] (.Tuple [_, _] _ _) _) _ _ _); walk_at "Par")
  | ((with_reducible show xS _ _ _ (.Assign _ _ _) _ _ _); (with_reducible refine' s_asg ?_ ?hs ?hw ?h1); (case hs => exact rfl); (case hw => exact rfl); (case h1 => exact rfl))
  | ((with_reducible show xS _ _ _ (.Return (some _) _) _ _ _); (with_reducible refine' s_ret ?_))
  | ((with_reducible show xS _ _ _ (.Expr _ _) _ _ _); (with_reducible refine' s_expr ?_ ?hs); (case hs => exact rfl))
  | ((with_reducible show xS _ _ _ (.For _ _ _ _ _) _ _ _); (with_reducible refine' s_for cx.po cx.calm ?_ ?hs); (case hs => exact fun _ => rfl))
  | ((with_reducible show xS _ _ _ (.Raise _ _ _) _ _ _); walk_at "Rai")
  | ((with_reducible show xS _ _ _ (.AugAssign _ _ _ _) _ _ _); walk_at "Aug")
  | (with_reducible refine' s_pass ?_)
  | (with_reducible refine' s_break ?_)
  | (with_reducible refine' s_cont ?_)
  | (with_reducible refine' s_retN ?_))
set_option hygiene false in
local macro_rules | `(tactic| walk_at "G") => `(tactic| first
  | ((with_reducible show xG _ _ _ (.Name _ _) _ _ _ _); walk_at "gv")
  | ((with_reducible show xG _ _ _ (.Tuple _ _ _) _ _ _ _); (with_reducible refine' g_tup cx.calm ?_ ?hn ?hst); (case hn => exact rfl); (case hst => exact rfl))
  | ((with_reducible show xG _ _ _ (.Subscript _ _ _) _ _ _ _); (refine g_sub cx.hu ?_)))
set_option hygiene false in
local macro_rules | `(tactic| walk_at "Gs") => `(tactic| first
  | ((with_reducible refine' gs_cons ?_ ?hs); (case hs => exact rfl))
  | (with_reducible refine' gs_nil ?_))
set_option hygiene false in
local macro_rules | `(tactic| walk_at "O") => `(tactic| first
  | (with_reducible refine' p_int ?_)
  | (with_reducible refine' o_int0 ?_)
  | (with_reducible refine' o_bl0 ?_)
  | ((with_reducible refine' o_int ?_ ?hc); (case hc => walk_at "sc"))
  | (with_reducible refine' o_int ?_ ?_)
  | (with_reducible refine' e_int ?_)
  | (with_reducible refine' n_int ?_)
  | (with_reducible refine' e_str ?_)
  | (with_reducible refine' n_str ?_)
  | (with_reducible refine' o_isN ?_)
  | (with_reducible refine' o_notN ?_)
  | (with_reducible refine' p_str ?_ ?_))
set_option hygiene false in
local macro_rules | `(tactic| walk_at "C") => `(tactic| first
  | (with_reducible refine' len_t ?_)
  | (with_reducible refine' len_l ?_)
  | (with_reducible refine' c_abs ?_)
  | (with_reducible refine' c_int ?_)
  | (with_reducible refine' c_intB ?_)
  | (with_reducible refine' c_min2 ?_)
  | (with_reducible refine' c_max2 ?_)
  | (with_reducible refine' c_str ?_ ?_))
set_option hygiene false in
local macro_rules | `(tactic| walk_at "S3") => `(tactic| first
  | (with_reducible refine' s_t ?_)
  | (with_reducible refine' s_s ?_ ?_))
set_option hygiene false in
local macro_rules | `(tactic| walk_at "bb") => `(tactic| first
  | (with_reducible refine b_cons ?_)
  | (with_reducible refine b_one ?_)
  | (with_reducible refine b_nil ?_)
  | (refine b_cons ?_)
  | (refine b_one ?_)
  | (refine b_nil ?_))
set_option hygiene false in
local macro_rules | `(tactic| walk_at "I") => `(tactic| first
  | ((with_reducible refine' i_range1 ?hg ?hm ?_ ?hs); (case hg => exact rfl); (case hm => exact Z.z_range); (case hs => exact rfl))
  | ((with_reducible refine' i_range2 ?hg ?hm ?_ ?hs ?hs2); (case hg => exact rfl); (case hm => exact Z.z_range); (case hs => exact rfl); (case hs2 => exact rfl)))
local macro_rules | `(tactic| walk_at "be") => `(tactic| first
  | (with_reducible refine b_cons ?_)
  | (with_reducible refine b_one ?_)
  | (with_reducible refine b_nil ?_))
set_option hygiene false in
local macro_rules | `(tactic| walk_at "xx") => `(tactic| first
  | ((with_reducible show xE _ _ _ _ _ _ _); walk_at "E")
  | ((with_reducible show xA _ _ _ _ _ _ _); walk_at "A")
  | ((with_reducible show O3 _ _ _ _ _ _ _); walk_at "O")
  | ((with_reducible show C3 _ _ _ _ _ _); walk_at "C")
  | ((with_reducible show xS _ _ _ _ _ _ _); walk_at "S")
  | ((with_reducible show xB _ _ _ _ _ _ _); walk_at "be")
  | ((with_reducible show xT _ _ _ _ _ _ _); walk_at "T")
  | ((with_reducible show xW _ _ _ _ _ _ _); walk_at "W")
  | ((with_reducible show xG _ _ _ _ _ _ _ _); walk_at "G")
  | ((with_reducible show xGs _ _ _ _ _ _ _ _); walk_at "Gs")
  | ((with_reducible show U3 _ _ _ _ _ _); (with_reducible refine' u_int ?_))
  | ((with_reducible show S3 _ _ _ _ _ _ _ _); walk_at "S3")
  | ((with_reducible show xI _ _ _ _ _ _ _ _); walk_at "I")
  | ((with_reducible show _ ≤ sizeLine ∧ _); (with_reducible refine' len16 ?hL ?_); (case hL => exact rfl)))
local macro_rules | `(tactic| walk_at "sd") => `(tactic| first | decide | omega | exact ⟨by decide, by decide⟩ | exact .inl ⟨by omega, by omega⟩ | exact .inr ⟨by omega, by omega⟩)
local macro_rules | `(tactic| walk_at "xn") => `(tactic| ((fail_if_success (with_reducible show xB _ _ _ (.If _ _ _ _ :: _ :: _) _ _ _)); walk_at "xx"))
variable {P : Program} {w : World} {K : PySem.W.Frag} {mg : Str → Option Value} {base : Heap} {T : List (Addr × Str)}
/-- a step of the web: from, to, height, ways -/
abbrev Step := (Str × Str) × (Int × Int)
def rateD (e : Step) : D := .tup [.tup [.int e.2.1, .int e.2.2, .int 1]]
def stepD (e : Step) : D := .tup [.str e.1.1, rateD e, .str e.1.2]
def keyE (e : Step) : D := .tup [.str e.1.1, .str e.1.2]
def kvE (e : Step) : List Key × D := ([.inr e.1.1, .inr e.1.2], rateD e)
def leE (x y : Step) : Bool := leD (keyE x) (keyE y)
def webD (ns : List D) (es : List Step) : D := .tup [.tup ns, .tup ((es.mergeSort leE).map stepD)]
theorem look_kv : ∀ {es : List Step} {e : Step}, (es.map (·.1)).Nodup → e ∈ es → lookD (es.map kvE) [.inr e.1.1, .inr e.1.2] = some (rateD e)
  | [], _, _, h => by cases h
  | x :: xs, e, nd, h => by
    rw [List.map_cons, List.nodup_cons] at nd
    unfold lookD
    rw [List.map_cons, List.find?_cons]
    rcases List.mem_cons.mp h with rfl | h
    · rw [show decide ((kvE e).1 = [.inr e.1.1, .inr e.1.2]) = true from decide_eq_true rfl]; rfl
    · have ne : x.1 ≠ e.1 := fun z => nd.1 (z ▸ List.mem_map_of_mem h)
      have : decide ((kvE x).1 = [.inr e.1.1, .inr e.1.2]) = false := decide_eq_false fun z => ne (by
        simp only [kvE, List.cons.injEq, Sum.inr.injEq, and_true] at z
        exact Prod.ext z.1 z.2)
      rw [this]
      exact look_kv nd.2 h
theorem keys_kv (es : List Step) : sortD ((es.map kvE).map fun e => keyT e.1) = (es.mergeSort leE).map keyE := by
  have z := PySem.W.sort_maps (r := leE) (s := leD) (l := es) keyE (fun _ _ _ _ => rfl)
  rw [z, List.map_map]
  rfl
def sp_web : Sp3 := fun ds G Q _ => ∃ (ns : List D) (es : List Step), ds = [.lst ns, .dT (es.map kvE)] ∧ (es.map (·.1)).Nodup ∧ ns.length ≤ sizeLine ∧ es.length < sizeLine ∧ Q (webD ns es) G
def toStep (kvs : List (List Key × D)) : D → D
  | .tup [.str s, .str t] => .tup [.str s, (lookD kvs [.inr s, .inr t]).getD .non, .str t]
  | x => x
section
set_option hygiene false in
local macro_rules | `(tactic| walk_at "Par") => `(tactic| first
  | fail)
set_option hygiene false in
local macro_rules | `(tactic| walk_at "Nam") => `(tactic| first
  | ((with_reducible refine' r_var 0 (x := "names") ?hN ?hv ?hs ?_); (case hN => exact ⟨rfl, by decide, by decide⟩); (case hv => walk_at "vv"); (case hs => exact rfl))
  | ((with_reducible refine' r_var 1 (x := "rates") ?hN ?hv ?hs ?_); (case hN => exact ⟨rfl, by decide, by decide⟩); (case hv => walk_at "vv"); (case hs => exact rfl))
  | ((with_reducible refine' r_var 2 (x := "pairs") ?hN ?hv ?hs ?_); (case hN => exact ⟨rfl, by decide, by decide⟩); (case hv => walk_at "vv"); (case hs => exact rfl))
  | ((with_reducible refine' r_var 3 (x := "pair") ?hN ?hv ?hs ?_); (case hN => exact ⟨rfl, by decide, by decide⟩); (case hv => walk_at "vv"); (case hs => exact rfl))
  | ((with_reducible refine' r_bltn (x := "tuple") (v := .ty "tuple") ?hg ?hm bt_tuple ?hr ?_ ?hn ?hd); (case hg => exact rfl); (case hm => exact Z.z_tuple); (case hr => exact rfl); (case hn => decide); (case hd => decide)))
set_option hygiene false in
local macro_rules | `(tactic| walk_at "Cal") => `(tactic| first
  | ((with_reducible refine' r_callTy (x := "tuple") (id := "tuple") call_tupOf ?hg ?hm bt_tuple ?_ ?hn ?hd ?he ?hp); (case hg => exact rfl); (case hm => exact Z.z_tuple); (case hn => decide); (case hd => decide); (case he => exact rfl); (case hp => exact rfl))
  | ((with_reducible refine' r_callB (x := "sorted") (id := "sorted") (cr_srtA cx.calm cx.hu64) ?hg ?hm bt_sorted ?_ ?hn ?hd ?he ?hp); (case hg => exact rfl); (case hm => exact Z.z_sorted); (case hn => decide); (case hd => decide); (case he => exact rfl); (case hp => exact rfl)))
set_option hygiene false in
local macro_rules | `(tactic| walk_at "Rai") => `(tactic| first
  | fail)
set_option hygiene false in
local macro_rules | `(tactic| walk_at "Aug") => `(tactic| first
  | fail)
set_option hygiene false in
local macro_rules | `(tactic| walk_at "gv") => `(tactic| first
  | ((with_reducible refine' g_name 0 (x := "names") cx.nd ?hi ?hx ?_ ?hf); (case hi => exact rfl); (case hx => walk_at "ll"); (case hf => first | exact .inl rfl | exact .inr rfl))
  | ((with_reducible refine' g_name 1 (x := "rates") cx.nd ?hi ?hx ?_ ?hf); (case hi => exact rfl); (case hx => walk_at "ll"); (case hf => first | exact .inl rfl | exact .inr rfl))
  | ((with_reducible refine' g_name 2 (x := "pairs") cx.nd ?hi ?hx ?_ ?hf); (case hi => exact rfl); (case hx => walk_at "ll"); (case hf => first | exact .inl rfl | exact .inr rfl))
  | ((with_reducible refine' g_name 3 (x := "pair") cx.nd ?hi ?hx ?_ ?hf); (case hi => exact rfl); (case hx => walk_at "ll"); (case hf => first | exact .inl rfl | exact .inr rfl)))
set_option hygiene false in
local macro_rules | `(tactic| walk_at "cv") => `(tactic| first
  | ((with_reducible refine' r_lc (own := [("pair", 3)]) (tg := .Name "pair" _) cx.calm cx.nd ?hok (tg_name 3 (by decide)) ?hg ?_ ?hs); (case hok => exact blkOk_by (N := ["names", "rates", "pairs", "pair"]) (sc := defScope s_web_in) (by decide +kernel)); (case hg => exact fun _ _ _ _ _ => pg_name (i := 3) cx.nd rfl (Or.inl rfl)); (case hs => exact fun _ => rfl)))
set_option hygiene false in
local macro_rules | `(tactic| walk_at "cvO") => `(tactic| first
  | ((with_reducible refine' r_lcO (own := [("pair", 3)]) (tg := .Name "pair" _) cx.calm cx.nd ?hok (tg_name 3 (by decide)) ?hg ?_ ?hs); (case hok => exact blkOk_by (N := ["names", "rates", "pairs", "pair"]) (sc := defScope s_web_in) (by decide +kernel)); (case hg => exact fun _ _ _ _ _ => pg_name (i := 3) cx.nd rfl (Or.inl rfl)); (case hs => exact fun _ => rfl)))
set_option hygiene false in
local macro_rules | `(tactic| walk_at "cs") => `(tactic| first
  | ((with_reducible refine' s_lc 2 (y := "pairs") (own := [("pair", 3)]) (tg := .Name "pair" _) cx.calm cx.nd ?hy ?hyl ?hsw ?hok (tg_name 3 (by decide)) ?hg ?_ ?hs); (case hy => exact rfl); (case hyl => exact rfl); (case hsw => exact rfl); (case hok => exact blkOk_by (N := ["names", "rates", "pairs", "pair"]) (sc := defScope s_web_in) (by decide +kernel)); (case hg => exact fun _ _ _ _ _ => pg_name (i := 3) cx.nd rfl (Or.inl rfl)); (case hs => exact fun _ => rfl)))

theorem d_web_in (Z : Tx K mg) : Def3 P w K mg base T 3 false "web_in" ["names", "rates"] sp_web := by
  obtain ⟨fd, F⟩ := Z.f_web_in
  refine def_ok F sc_web_in Z.g_web_in (fun ds G Q E h => ?_) fun A outer s H E O ds G Q3 E3 cx h => ?_
  · obtain ⟨ns, es, rfl, _⟩ := h; rfl
  · obtain ⟨ns, es, rfl, nd, l1, l2, q⟩ := h
    walk_at "bb"
    walk_at "cs"
    refine i_list ?_
    repeat (walk_at "xx")
    refine c_srtT (.inl rfl) ?_ ?_ ?_
    · rw [List.map_map, List.map_map]
      exact PySem.W.AllAlike.of fun b b' => rfl
    · rw [List.map_map, List.map_map]
      exact PySem.W.Sortable.tuples fun b => ⟨_, _, rfl⟩
    · rw [keys_kv]
      refine ⟨_, _, .inl ⟨rfl, rfl⟩, ?_⟩
      refine lc_filtX cx (fun _ => true) id (by rw [List.length_map, List.length_mergeSort]; exact l2) (fun _ _ _ => trivial) (fun i x hx => ?_) ?_
      · rw [List.getElem?_map] at hx
        obtain ⟨e, he, rfl⟩ := Option.map_eq_some_iff.mp hx
        have he : e ∈ es := List.mem_mergeSort.mp (List.mem_of_getElem? he)
        refine ⟨_, rfl, fun A1 h1 g1 s1 H1 Cc cl fp cx => ?_⟩
        repeat (walk_at "xx")
        refine ix_d rfl (look_kv nd he) ?_
        repeat (walk_at "xx")
        refine n_data ⟨rfl, .inl rfl⟩ ⟨rfl, .inl rfl⟩ rfl rfl ?_
        refine ⟨_, rfl, rfl, rfl, fun _ s1 H1 Cc cl fp cx => ?_⟩
        repeat (walk_at "xx")
        exact ⟨rfl, rfl⟩
      · rw [show (((es.mergeSort leE).map keyE).filter fun _ => true).map id = (es.mergeSort leE).map keyE by rw [List.filter_eq_self.mpr (fun _ _ => rfl), List.map_id]]
        repeat (walk_at "xx")
        refine c_tuple (.inr (.inl rfl)) ?_
        repeat (walk_at "xx")
        walk_at "cv"
        refine i_list ?_
        repeat (walk_at "xx")
        refine ⟨_, _, .inl ⟨rfl, rfl⟩, ?_⟩
        refine lc_mapX cx (toStep (es.map kvE)) (by rw [List.length_map, List.length_mergeSort]; exact l2) (fun _ _ _ => trivial) (fun i x hx => ?_) ?_
        · rw [List.getElem?_map] at hx
          obtain ⟨e, he, rfl⟩ := Option.map_eq_some_iff.mp hx
          have he : e ∈ es := List.mem_mergeSort.mp (List.mem_of_getElem? he)
          refine ⟨_, rfl, fun A1 h1 g1 s1 H1 Cc cl fp cx => ?_⟩
          repeat (first | walk_at "xx" | refine ix_t rfl ?_ | refine ix_d rfl (look_kv nd he) ?_)
          refine ⟨?_, rfl⟩
          show _ = D.tup [.str e.1.1, (lookD (es.map kvE) [.inr e.1.1, .inr e.1.2]).getD .non, .str e.1.2]
          rw [look_kv nd he]
          rfl
        · repeat (walk_at "xx")
          refine c_tuple (.inr (.inl rfl)) ?_
          repeat (walk_at "xx")
          have e : ((es.mergeSort leE).map keyE).map (toStep (es.map kvE)) = (es.mergeSort leE).map stepD := by
            rw [List.map_map]
            refine List.map_congr_left fun e he => ?_
            have he : e ∈ es := List.mem_mergeSort.mp he
            show D.tup [.str e.1.1, (lookD (es.map kvE) [.inr e.1.1, .inr e.1.2]).getD .non, .str e.1.2] = _
            rw [look_kv nd he]
            rfl
          rw [e]
          exact q
end
end K58
end
section
set_option maxHeartbeats 4000000
namespace K58
open PySem PySem.Spec PyProof.Rows L2 L3
local macro_rules | `(tactic| walk_at "sc") => `(tactic| first | omega | exact ⟨by omega, by omega⟩ | exact cmul_fmod (by decide) (by decide) | exact .inl ⟨by omega, by omega⟩ | exact .inr ⟨by omega, by omega⟩ | exact ⟨by omega, by omega, by omega⟩)
local macro_rules | `(tactic| walk_at "vv") => `(tactic| first | exact Or.inl rfl | exact Or.inr (Or.inl rfl) | exact Or.inr (Or.inr rfl))
local macro_rules | `(tactic| walk_at "ll") => `(tactic| first | exact Or.inl rfl | exact Or.inr rfl)
set_option hygiene false in
local macro_rules | `(tactic| walk_at "A") => `(tactic| first
  | ((with_reducible refine' a_cons ?_ ?hs); (case hs => exact rfl))
  | (with_reducible refine' a_nil ?_))
set_option hygiene false in
local macro_rules | `(tactic| walk_at "Con") => `(tactic| first
  | (with_reducible refine' r_int ?_)
  | (with_reducible refine' r_str ?_)
  | (with_reducible refine' r_non ?_)
  | (with_reducible refine' r_bl ?_))
set_option hygiene false in
local macro_rules | `(tactic| walk_at "Bin") => `(tactic| first
  | ((with_reducible show xE _ _ _ (.BinOp _ .Add _ _) _ _ _); (with_reducible refine' r_op op_addA ?_))
  | ((with_reducible show xE _ _ _ (.BinOp _ .Sub _ _) _ _ _); (with_reducible refine' r_op op_sub ?_))
  | ((with_reducible show xE _ _ _ (.BinOp _ .Mult _ _) _ _ _); (with_reducible refine' r_op op_mul ?_))
  | ((with_reducible show xE _ _ _ (.BinOp _ .FloorDiv _ _) _ _ _); (with_reducible refine' r_op op_fdivN ?_))
  | ((with_reducible show xE _ _ _ (.BinOp _ .Mod _ _) _ _ _); (with_reducible refine' r_op op_modN ?_))
  | ((with_reducible show xE _ _ _ (.BinOp _ .Pow _ _) _ _ _); (with_reducible refine' r_op op_pow ?_)))
set_option hygiene false in
local macro_rules | `(tactic| walk_at "Cmp") => `(tactic| first
  | ((with_reducible show xE _ _ _ (.Compare _ [.Lt] _ _) _ _ _); (with_reducible refine' r_cmp op_lt ?hm ?_); (case hm => exact rfl))
  | ((with_reducible show xE _ _ _ (.Compare _ [.LtE] _ _) _ _ _); (with_reducible refine' r_cmp op_le ?hm ?_); (case hm => exact rfl))
  | ((with_reducible show xE _ _ _ (.Compare _ [.Gt] _ _) _ _ _); (with_reducible refine' r_cmp op_gt ?hm ?_); (case hm => exact rfl))
  | ((with_reducible show xE _ _ _ (.Compare _ [.GtE] _ _) _ _ _); (with_reducible refine' r_cmp op_ge ?hm ?_); (case hm => exact rfl))
  | ((with_reducible show xE _ _ _ (.Compare _ [.Eq] _ _) _ _ _); (with_reducible refine' r_cmp (op_eqB cx.hu64) ?hm ?_); (case hm => exact rfl))
  | ((with_reducible show xE _ _ _ (.Compare _ [.NotEq] _ _) _ _ _); (with_reducible refine' r_cmp (op_neB cx.hu64) ?hm ?_); (case hm => exact rfl))
  | ((with_reducible show xE _ _ _ (.Compare _ [.Is] _ _) _ _ _); (with_reducible refine' r_cmp op_isN1 ?hm ?_); (case hm => exact rfl))
  | ((with_reducible show xE _ _ _ (.Compare _ [.IsNot] _ _) _ _ _); (with_reducible refine' r_cmp op_notN1 ?hm ?_); (case hm => exact rfl)))
set_option hygiene false in
local macro_rules | `(tactic| walk_at "TCmp") => `(tactic| first
  | ((with_reducible show xT _ _ _ (.Compare _ [.Lt] _ _) _ _ _); (with_reducible refine' t_cmp op_lt ?hm ?_); (case hm => exact rfl))
  | ((with_reducible show xT _ _ _ (.Compare _ [.LtE] _ _) _ _ _); (with_reducible refine' t_cmp op_le ?hm ?_); (case hm => exact rfl))
  | ((with_reducible show xT _ _ _ (.Compare _ [.Gt] _ _) _ _ _); (with_reducible refine' t_cmp op_gt ?hm ?_); (case hm => exact rfl))
  | ((with_reducible show xT _ _ _ (.Compare _ [.GtE] _ _) _ _ _); (with_reducible refine' t_cmp op_ge ?hm ?_); (case hm => exact rfl))
  | ((with_reducible show xT _ _ _ (.Compare _ [.Eq] _ _) _ _ _); (with_reducible refine' t_cmp (op_eqB cx.hu64) ?hm ?_); (case hm => exact rfl))
  | ((with_reducible show xT _ _ _ (.Compare _ [.NotEq] _ _) _ _ _); (with_reducible refine' t_cmp (op_neB cx.hu64) ?hm ?_); (case hm => exact rfl))
  | ((with_reducible show xT _ _ _ (.Compare _ [.Is] _ _) _ _ _); (with_reducible refine' t_cmp op_isN1 ?hm ?_); (case hm => exact rfl))
  | ((with_reducible show xT _ _ _ (.Compare _ [.IsNot] _ _) _ _ _); (with_reducible refine' t_cmp op_notN1 ?hm ?_); (case hm => exact rfl))
  | ((with_reducible show xT _ _ _ (.Compare _ [.LtE, .LtE] _ _) _ _ _); (with_reducible refine' t_chain op_le op_le ?_ ?hl); (case hl => exact rfl))
  | ((with_reducible show xT _ _ _ (.Compare _ [.Lt, .Lt] _ _) _ _ _); (with_reducible refine' t_chain op_lt op_lt ?_ ?hl); (case hl => exact rfl))
  | ((with_reducible show xT _ _ _ (.Compare _ [.LtE, .Lt] _ _) _ _ _); (with_reducible refine' t_chain op_le op_lt ?_ ?hl); (case hl => exact rfl))
  | ((with_reducible show xT _ _ _ (.Compare _ [.Lt, .LtE] _ _) _ _ _); (with_reducible refine' t_chain op_lt op_le ?_ ?hl); (case hl => exact rfl)))
set_option hygiene false in
local macro_rules | `(tactic| walk_at "E") => `(tactic| first
  | ((with_reducible show xE _ _ _ (.Name _ _) _ _ _); walk_at "Nam")
  | ((with_reducible show xE _ _ _ (.Constant _ _ _) _ _ _); walk_at "Con")
  | ((with_reducible show xE _ _ _ (.BinOp _ _ _ _) _ _ _); walk_at "Bin")
  | ((with_reducible show xE _ _ _ (.Call _ _ _ _) _ _ _); walk_at "Cal")
  | ((with_reducible show xE _ _ _ (.Tuple _ _ _) _ _ _); (with_reducible refine' r_tup ?_))
  | ((with_reducible show xE _ _ _ (.Subscript _ (.Slice _ _ _ _) _) _ _ _); (with_reducible refine' r_slice ?_))
  | ((with_reducible show xE _ _ _ (.Subscript _ _ _) _ _ _); (refine r_sub cx.hu ?_))
  | ((with_reducible show xE _ _ _ (.Compare _ _ _ _) _ _ _); walk_at "Cmp")
  | ((with_reducible show xE _ _ _ (.IfExp _ _ _ _) _ _ _); (with_reducible refine' r_if ?_))
  | ((with_reducible show xE _ _ _ (.UnaryOp .USub _ _) _ _ _); (with_reducible refine' r_un un_neg ?_))
  | ((with_reducible show xE _ _ _ (.UnaryOp .Not _ _) _ _ _); (with_reducible refine' r_not ?_))
  | ((with_reducible show xE _ _ _ (.BoolOp .And (_ :: _ :: _) _) _ _ _); (with_reducible refine' r_and ?_))
  | ((with_reducible show xE _ _ _ (.BoolOp .Or (_ :: _ :: _) _) _ _ _); (with_reducible refine' r_or ?_))
  | ((with_reducible show xE _ _ _ (.BoolOp _ [_] _) _ _ _); (with_reducible refine' r_one ?_)))
set_option hygiene false in
local macro_rules | `(tactic| walk_at "T") => `(tactic| first
  | ((with_reducible show xT _ _ _ (.Compare _ _ _ _) _ _ _); walk_at "TCmp")
  | ((with_reducible show xT _ _ _ (.UnaryOp .Not _ _) _ _ _); (with_reducible refine' t_not ?_))
  | ((with_reducible show xT _ _ _ (.BoolOp .And _ _) _ _ _); (with_reducible refine' t_w (t_and ?_)))
  | ((with_reducible show xT _ _ _ (.BoolOp .Or _ _) _ _ _); (with_reducible refine' t_w (t_or ?_)))
  | ((with_reducible show xT _ _ _ (.Call _ _ _ _) _ _ _); (with_reducible refine' t_val ?_ ?he); (case he => intro _; rfl))
  | ((with_reducible show xT _ _ _ (.ListComp _ _ _ _) _ _ _); fail)
  | ((with_reducible show xT _ _ _ (.Name _ _) _ _ _); fail)
  | ((with_reducible refine' t_val ?_ ?he); (case he => intro _; rfl)))
set_option hygiene false in
local macro_rules | `(tactic| walk_at "W") => `(tactic| first
  | (with_reducible refine' t_and ?_)
  | (with_reducible refine' t_or ?_)
  | (with_reducible refine' t_and1 ?_)
  | (with_reducible refine' t_or1 ?_))
set_option hygiene false in
local macro_rules | `(tactic| walk_at "S") => `(tactic| first
  | ((with_reducible show xS _ _ _ (.If _ _ _ _) _ _ _); (with_reducible refine' s_if ?_))
  | ((with_reducible show xS _ _ _ (.Assign [.Tuple [.Name _ _, .Name _ _] _ _] (.Tuple [_, _] _ _) _) _ _ _); walk_at "Par")
  | ((with_reducible show xS _ _ _ (.Assign _ _ _) _ _ _); (with_reducible refine' s_asg ?_ ?hs ?hw ?h1); (case hs => exact rfl); (case hw => exact rfl); (case h1 => exact rfl))
  | ((with_reducible show xS _ _ _ (.Return (some _) _) _ _ _); (with_reducible refine' s_ret ?_))
  | ((with_reducible show xS _ _ _ (.Expr _ _) _ _ _); (with_reducible refine' s_expr ?_ ?hs); (case hs => exact rfl))
  | ((with_reducible show xS _ _ _ (.For _ _ _ _ _) _ _ _); (with_reducible refine' s_for cx.po cx.calm ?_ ?hs); (case hs => exact fun _ => rfl))
  | ((with_reducible show xS _ _ _ (.Raise _ _ _) _ _ _); walk_at "Rai")
  | ((with_reducible show xS _ _ _ (.AugAssign _ _ _ _) _ _ _); walk_at "Aug")
  | (with_reducible refine' s_pass ?_)
  | (with_reducible refine' s_break ?_)
  | (with_reducible refine' s_cont ?_)
  | (with_reducible refine' s_retN ?_))
set_option hygiene false in
local macro_rules | `(tactic| walk_at "G") => `(tactic| first
  | ((with_reducible show xG _ _ _ (.Name _ _) _ _ _ _); walk_at "gv")
  | ((with_reducible show xG _ _ _ (.Tuple _ _ _) _ _ _ _); (with_reducible refine' g_tup cx.calm ?_ ?hn ?hst); (case hn => exact rfl); (case hst => exact rfl))
  | ((with_reducible show xG _ _ _ (.Subscript _ _ _) _ _ _ _); (refine g_sub cx.hu ?_)))
set_option hygiene false in
local macro_rules | `(tactic| walk_at "Gs") => `(tactic| first
  | ((with_reducible refine' gs_cons ?_ ?hs); (case hs => exact rfl))
  | (with_reducible refine' gs_nil ?_))
set_option hygiene false in
local macro_rules | `(tactic| walk_at "O") => `(tactic| first
  | (with_reducible refine' p_int ?_)
  | (with_reducible refine' o_int0 ?_)
  | (with_reducible refine' o_bl0 ?_)
  | ((with_reducible refine' o_int ?_ ?hc); (case hc => walk_at "sc"))
  | (with_reducible refine' o_int ?_ ?_)
  | (with_reducible refine' e_int ?_)
  | (with_reducible refine' n_int ?_)
  | (with_reducible refine' e_str ?_)
  | (with_reducible refine' n_str ?_)
  | (with_reducible refine' o_isN ?_)
  | (with_reducible refine' o_notN ?_)
  | (with_reducible refine' p_str ?_ ?_))
set_option hygiene false in
local macro_rules | `(tactic| walk_at "C") => `(tactic| first
  | (with_reducible refine' len_t ?_)
  | (with_reducible refine' len_l ?_)
  | (with_reducible refine' c_abs ?_)
  | (with_reducible refine' c_int ?_)
  | (with_reducible refine' c_intB ?_)
  | (with_reducible refine' c_min2 ?_)
  | (with_reducible refine' c_max2 ?_)
  | (with_reducible refine' c_str ?_ ?_))
set_option hygiene false in
local macro_rules | `(tactic| walk_at "S3") => `(tactic| first
  | (with_reducible refine' s_t ?_)
  | (with_reducible refine' s_s ?_ ?_))
set_option hygiene false in
local macro_rules | `(tactic| walk_at "bb") => `(tactic| first
  | (with_reducible refine b_cons ?_)
  | (with_reducible refine b_one ?_)
  | (with_reducible refine b_nil ?_)
  | (refine b_cons ?_)
  | (refine b_one ?_)
  | (refine b_nil ?_))
set_option hygiene false in
local macro_rules | `(tactic| walk_at "I") => `(tactic| first
  | ((with_reducible refine' i_range1 ?hg ?hm ?_ ?hs); (case hg => exact rfl); (case hm => exact Z.z_range); (case hs => exact rfl))
  | ((with_reducible refine' i_range2 ?hg ?hm ?_ ?hs ?hs2); (case hg => exact rfl); (case hm => exact Z.z_range); (case hs => exact rfl); (case hs2 => exact rfl)))
local macro_rules | `(tactic| walk_at "be") => `(tactic| first
  | (with_reducible refine b_cons ?_)
  | (with_reducible refine b_one ?_)
  | (with_reducible refine b_nil ?_))
set_option hygiene false in
local macro_rules | `(tactic| walk_at "xx") => `(tactic| first
  | ((with_reducible show xE _ _ _ _ _ _ _); walk_at "E")
  | ((with_reducible show xA _ _ _ _ _ _ _); walk_at "A")
  | ((with_reducible show O3 _ _ _ _ _ _ _); walk_at "O")
  | ((with_reducible show C3 _ _ _ _ _ _); walk_at "C")
  | ((with_reducible show xS _ _ _ _ _ _ _); walk_at "S")
  | ((with_reducible show xB _ _ _ _ _ _ _); walk_at "be")
  | ((with_reducible show xT _ _ _ _ _ _ _); walk_at "T")
  | ((with_reducible show xW _ _ _ _ _ _ _); walk_at "W")
  | ((with_reducible show xG _ _ _ _ _ _ _ _); walk_at "G")
  | ((with_reducible show xGs _ _ _ _ _ _ _ _); walk_at "Gs")
  | ((with_reducible show U3 _ _ _ _ _ _); (with_reducible refine' u_int ?_))
  | ((with_reducible show S3 _ _ _ _ _ _ _ _); walk_at "S3")
  | ((with_reducible show xI _ _ _ _ _ _ _ _); walk_at "I")
  | ((with_reducible show _ ≤ sizeLine ∧ _); (with_reducible refine' len16 ?hL ?_); (case hL => exact rfl)))
local macro_rules | `(tactic| walk_at "sd") => `(tactic| first | decide | omega | exact ⟨by decide, by decide⟩ | exact .inl ⟨by omega, by omega⟩ | exact .inr ⟨by omega, by omega⟩)
local macro_rules | `(tactic| walk_at "xn") => `(tactic| ((fail_if_success (with_reducible show xB _ _ _ (.If _ _ _ _ :: _ :: _) _ _ _)); walk_at "xx"))
variable {P : Program} {w : World} {K : PySem.W.Frag} {mg : Str → Option Value} {base : Heap} {T : List (Addr × Str)}
theorem numS_nodup : ((List.range 101).map fun i : Nat => numS i).Nodup := by decide +kernel
theorem numS_inj {i j : Nat} (hi : i ≤ 100) (hj : j ≤ 100) (h : numS i = numS j) : i = j := by
  have h1 : ((List.range 101).map fun i : Nat => numS i)[i]? = some (numS i) := by rw [List.getElem?_map, List.getElem?_range (by omega)]; rfl
  have h2 : ((List.range 101).map fun i : Nat => numS i)[j]? = some (numS i) := by rw [List.getElem?_map, List.getElem?_range (by omega), h]; rfl
  exact (List.getElem?_inj (by simp only [List.length_map, List.length_range]; exact Nat.lt_succ_of_le hi) numS_nodup).mp (h1.trans h2.symm)
def goS (a b c d n : Int) (i : Nat) : Step := ((numS i, numS ((i : Nat) + 1 : Nat)), (neg1 (gainI a b c d n i), n - i))
def backS (a b c d n : Int) (i : Nat) : Step := ((numS ((i : Nat) + 1 : Nat), numS i), (pos1 (gainI a b c d n i), (i : Int) + 1))
def stepsU (a b c d n : Int) (k : Nat) : List Step := (List.range k).flatMap fun i : Nat => [goS a b c d n i, backS a b c d n i]
theorem stepsU_succ (a b c d n : Int) (k : Nat) : stepsU a b c d n (k + 1) = stepsU a b c d n k ++ [goS a b c d n k, backS a b c d n k] := by
  simp [stepsU, List.range_succ]
def kS (k : Nat) : List (Str × Str) := (List.range k).flatMap fun i : Nat => [(numS i, numS ((i : Nat) + 1 : Nat)), (numS ((i : Nat) + 1 : Nat), numS i)]
theorem stepsU_keys (a b c d n : Int) (k : Nat) : (stepsU a b c d n k).map (·.1) = kS k := by
  unfold stepsU kS
  rw [List.map_flatMap]
  rfl
theorem kS_mem {k : Nat} {x : Str × Str} (h : x ∈ kS k) : ∃ i, i < k ∧ (x = (numS i, numS ((i : Nat) + 1 : Nat)) ∨ x = (numS ((i : Nat) + 1 : Nat), numS i)) := by
  obtain ⟨i, hi, hx⟩ := List.mem_flatMap.mp h
  refine ⟨i, List.mem_range.mp hi, ?_⟩
  simpa using hx
theorem put_new {es : List Step} {e : Step} (h : e.1 ∉ es.map (·.1)) : putD (es.map kvE) (kvE e).1 (rateD e) = (es ++ [e]).map kvE := by
  unfold putD
  rw [if_neg, List.map_append]
  · rfl
  · intro z
    obtain ⟨x, hx, q⟩ := List.any_eq_true.mp z
    obtain ⟨y, hy, rfl⟩ := List.mem_map.mp hx
    have q := of_decide_eq_true q
    simp only [kvE, List.cons.injEq, Sum.inr.injEq, and_true] at q
    exact h (List.mem_map.mpr ⟨y, hy, Prod.ext q.1 q.2⟩)
theorem go_new {k : Nat} (hk : k < 100) : (numS k, numS ((k : Nat) + 1 : Nat)) ∉ kS k := fun h => by
  obtain ⟨i, hi, e | e⟩ := kS_mem h
  · have := numS_inj (by omega) (by omega) (Prod.mk.inj e).1
    omega
  · have := numS_inj (by omega) (by omega) (Prod.mk.inj e).2
    omega
theorem back_new {k : Nat} (hk : k < 100) : (numS ((k : Nat) + 1 : Nat), numS k) ∉ kS k ++ [(numS k, numS ((k : Nat) + 1 : Nat))] := fun h => by
  rcases List.mem_append.mp h with h | h
  · obtain ⟨i, hi, e | e⟩ := kS_mem h
    · have := numS_inj (by omega) (by omega) (Prod.mk.inj e).1
      omega
    · have := numS_inj (by omega) (by omega) (Prod.mk.inj e).1
      omega
  · have e := (Prod.mk.inj (List.mem_singleton.mp h)).1
    have := numS_inj (by omega) (by omega) e
    omega
theorem kS_succ (k : Nat) : kS (k + 1) = kS k ++ [(numS k, numS ((k : Nat) + 1 : Nat)), (numS ((k : Nat) + 1 : Nat), numS k)] := by
  simp [kS, List.range_succ]
theorem kS_nodup : ∀ {k : Nat}, k ≤ 100 → (kS k).Nodup
  | 0, _ => .nil
  | k + 1, h => by
    rw [kS_succ, show kS k ++ [(numS k, numS ((k : Nat) + 1 : Nat)), (numS ((k : Nat) + 1 : Nat), numS k)] = (kS k ++ [(numS k, numS ((k : Nat) + 1 : Nat))]) ++ [(numS ((k : Nat) + 1 : Nat), numS k)] by simp]
    refine List.nodup_append.mpr ⟨List.nodup_append.mpr ⟨kS_nodup (by omega), by simp, fun a ha b hb e => ?_⟩, by simp, fun a ha b hb e => ?_⟩
    · rw [List.mem_singleton] at hb
      subst hb e
      exact go_new (by omega) ha
    · rw [List.mem_singleton] at hb
      subst hb e
      exact back_new (by omega) ha
def nameD : D → D
  | .int i => .str (numS i)
  | x => x
def namesD (n : Int) : List D := (rangeD 0 (n + 1).toNat).map nameD
def sp_crowd (K : PySem.W.Frag) : Sp3 := fun ds G Q E => ∃ pay many, ds = [pay, many] ∧ spC K pay many G E fun a b c d n => Q (webD (namesD n) (stepsU a b c d n n.toNat)) G
theorem put_step {es : List Step} {e : Step} {G : Gm} {p : Addr} {Q : Gm → Prop} {u : Int} (hu : u = e.2.1) (hp : G p = some (.dT (es.map kvE))) (hn : e.1 ∉ es.map (·.1)) (hl : es.length < sizeLine) (q : Q (gset G p (.dT ((es ++ [e]).map kvE)))) : Put3 (.raw (.ref p)) (.tup [.str e.1.1, .str e.1.2]) (.tup [.tup [.int u, .int e.2.2, .int 1]]) G Q := by
  subst hu
  exact ⟨p, rfl, .inr (.inr ⟨_, _, (kvE e).1, hp, rfl, rfl, by rw [List.length_map]; exact hl, by have z := put_new hn; unfold rateD at z; rw [z]; exact q⟩)⟩
theorem kS_len (k : Nat) : (kS k).length = 2 * k := by
  induction k with
  | zero => rfl
  | succ k ih => rw [kS_succ, List.length_append, ih]; rfl
theorem stepsU_len (a b c d n : Int) (k : Nat) : (stepsU a b c d n k).length = 2 * k := by
  have := congrArg List.length (stepsU_keys a b c d n k)
  rw [List.length_map] at this
  rw [this, kS_len]
section
set_option hygiene false in
local macro_rules | `(tactic| walk_at "Par") => `(tactic| first
  | fail)
set_option hygiene false in
local macro_rules | `(tactic| walk_at "Nam") => `(tactic| first
  | ((with_reducible refine' r_var 0 (x := "pay") ?hN ?hv ?hs ?_); (case hN => exact ⟨rfl, by decide, by decide⟩); (case hv => walk_at "vv"); (case hs => exact rfl))
  | ((with_reducible refine' r_var 1 (x := "many") ?hN ?hv ?hs ?_); (case hN => exact ⟨rfl, by decide, by decide⟩); (case hv => walk_at "vv"); (case hs => exact rfl))
  | ((with_reducible refine' r_var 2 (x := "rates") ?hN ?hv ?hs ?_); (case hN => exact ⟨rfl, by decide, by decide⟩); (case hv => walk_at "vv"); (case hs => exact rfl))
  | ((with_reducible refine' r_var 3 (x := "n") ?hN ?hv ?hs ?_); (case hN => exact ⟨rfl, by decide, by decide⟩); (case hv => walk_at "vv"); (case hs => exact rfl))
  | ((with_reducible refine' r_var 4 (x := "here") ?hN ?hv ?hs ?_); (case hN => exact ⟨rfl, by decide, by decide⟩); (case hv => walk_at "vv"); (case hs => exact rfl))
  | ((with_reducible refine' r_defv (x := "need_crowd") (Z.g_need_crowd) ?hk ?hg ?_ ?hd); (case hk => exact (d_need_crowd Z)); (case hg => first | exact (fun z => z) | exact rfl); (case hd => decide))
  | ((with_reducible refine' r_defv (x := "web_in") (Z.g_web_in) ?hk ?hg ?_ ?hd); (case hk => exact (d_web_in Z)); (case hg => first | exact (fun z => z) | exact rfl); (case hd => decide))
  | ((with_reducible refine' r_defv (x := "gain_in") (Z.g_gain_in) ?hk ?hg ?_ ?hd); (case hk => exact (d_gain_in Z)); (case hg => first | exact (fun z => z) | exact rfl); (case hd => decide))
  | ((with_reducible refine' r_defv (x := "numbered") (Z.g_numbered) ?hk ?hg ?_ ?hd); (case hk => exact (d_numbered Z)); (case hg => first | exact (fun z => z) | exact rfl); (case hd => decide)))
set_option hygiene false in
local macro_rules | `(tactic| walk_at "Cal") => `(tactic| first
  | ((with_reducible refine' r_call (x := "need_crowd") cx ?hF ?hk ?hg ?hm ?_ ?hd ?he ?hp); (case hF => exact d_need_crowd Z); (case hk => decide); (case hg => first | exact (fun z => z) | exact (fun z => nomatch z)); (case hm => exact rfl); (case hd => decide); (case he => exact rfl); (case hp => exact rfl))
  | ((with_reducible refine' r_call (x := "web_in") cx ?hF ?hk ?hg ?hm ?_ ?hd ?he ?hp); (case hF => exact d_web_in Z); (case hk => decide); (case hg => first | exact (fun z => z) | exact (fun z => nomatch z)); (case hm => exact rfl); (case hd => decide); (case he => exact rfl); (case hp => exact rfl))
  | ((with_reducible refine' r_call (x := "gain_in") cx ?hF ?hk ?hg ?hm ?_ ?hd ?he ?hp); (case hF => exact d_gain_in Z); (case hk => decide); (case hg => first | exact (fun z => z) | exact (fun z => nomatch z)); (case hm => exact rfl); (case hd => decide); (case he => exact rfl); (case hp => exact rfl))
  | ((with_reducible refine' r_call (x := "numbered") cx ?hF ?hk ?hg ?hm ?_ ?hd ?he ?hp); (case hF => exact d_numbered Z); (case hk => decide); (case hg => first | exact (fun z => z) | exact (fun z => nomatch z)); (case hm => exact rfl); (case hd => decide); (case he => exact rfl); (case hp => exact rfl)))
set_option hygiene false in
local macro_rules | `(tactic| walk_at "Rai") => `(tactic| first
  | fail)
set_option hygiene false in
local macro_rules | `(tactic| walk_at "Aug") => `(tactic| first
  | fail)
set_option hygiene false in
local macro_rules | `(tactic| walk_at "gv") => `(tactic| first
  | ((with_reducible refine' g_name 0 (x := "pay") cx.nd ?hi ?hx ?_ ?hf); (case hi => exact rfl); (case hx => walk_at "ll"); (case hf => first | exact .inl rfl | exact .inr rfl))
  | ((with_reducible refine' g_name 1 (x := "many") cx.nd ?hi ?hx ?_ ?hf); (case hi => exact rfl); (case hx => walk_at "ll"); (case hf => first | exact .inl rfl | exact .inr rfl))
  | ((with_reducible refine' g_name 2 (x := "rates") cx.nd ?hi ?hx ?_ ?hf); (case hi => exact rfl); (case hx => walk_at "ll"); (case hf => first | exact .inl rfl | exact .inr rfl))
  | ((with_reducible refine' g_name 3 (x := "n") cx.nd ?hi ?hx ?_ ?hf); (case hi => exact rfl); (case hx => walk_at "ll"); (case hf => first | exact .inl rfl | exact .inr rfl))
  | ((with_reducible refine' g_name 4 (x := "here") cx.nd ?hi ?hx ?_ ?hf); (case hi => exact rfl); (case hx => walk_at "ll"); (case hf => first | exact .inl rfl | exact .inr rfl)))
set_option hygiene false in
local macro_rules | `(tactic| walk_at "cv") => `(tactic| first
  | ((with_reducible refine' r_lc (own := [("n", 3)]) (tg := .Name "n" _) cx.calm cx.nd ?hok (tg_name 3 (by decide)) ?hg ?_ ?hs); (case hok => exact blkOk_by (N := ["pay", "many", "rates", "n", "here"]) (sc := defScope s_crowd) (by decide +kernel)); (case hg => exact fun _ _ _ _ _ => pg_name (i := 3) cx.nd rfl (Or.inl rfl)); (case hs => exact fun _ => rfl)))
set_option hygiene false in
local macro_rules | `(tactic| walk_at "cvO") => `(tactic| first
  | ((with_reducible refine' r_lcO (own := [("n", 3)]) (tg := .Name "n" _) cx.calm cx.nd ?hok (tg_name 3 (by decide)) ?hg ?_ ?hs); (case hok => exact blkOk_by (N := ["pay", "many", "rates", "n", "here"]) (sc := defScope s_crowd) (by decide +kernel)); (case hg => exact fun _ _ _ _ _ => pg_name (i := 3) cx.nd rfl (Or.inl rfl)); (case hs => exact fun _ => rfl)))

theorem d_crowd (Z : Tx K mg) : Def3 P w K mg base T 4 false "crowd" ["pay", "many"] (sp_crowd K) := by
  obtain ⟨fd, F⟩ := Z.f_crowd
  refine def_ok F sc_crowd Z.g_crowd (fun ds G Q E h => ?_) fun A outer s H E O ds G Q3 E3 cx h => ?_
  · obtain ⟨pay, many, rfl, _⟩ := h; rfl
  · obtain ⟨pay, many, rfl, h⟩ := h
    walk_at "bb"
    repeat (walk_at "xx")
    refine spC_need h fun a b c d n e1 e2 n1 n2 k => ?_
    subst e1 e2
    clear h
    repeat (walk_at "xx")
    refine r_newT fun p gp => ?_
    repeat (walk_at "xx")
    refine ⟨n, rfl, by omega, by omega, ?_⟩
    refine ⟨fun i σ' G' => G' = gset G p (.dT ((stepsU a b c d n i).map kvE)) ∧ ∃ o1 o2, σ' = [some (payD a b c d), some (.int n), some (.raw (.ref p)), o1, o2], ⟨rfl, none, none, rfl⟩, fun _ _ _ _ _ => trivial, fun i x σ' G' hx hi => ?_, fun σ' G' hi => ?_⟩
    · obtain ⟨rfl, o1, o2, rfl⟩ := hi
      obtain ⟨hi, hxe⟩ := rangeD_get hx
      rw [Int.zero_add] at hxe
      subst hxe
      repeat (walk_at "xx")
      refine ⟨a, b, c, d, n, _, rfl, by omega, by omega, ?_⟩
      repeat (walk_at "xx")
      refine ⟨_, rfl, fun e => ?_, fun e => ?_⟩
      all_goals
        repeat (first | walk_at "xx" | refine g_sub cx.hu ?_)
        refine ⟨_, rfl, by omega, ?_⟩
        repeat (walk_at "xx")
        refine ⟨_, rfl, by omega, ?_⟩
        repeat (walk_at "xx")
        refine put_step (e := goS a b c d n i) ?_ gset_same ?_ ?_ ?_
        · simpa [goS, neg1] using e
        · rw [stepsU_keys]; exact go_new (by omega)
        · rw [stepsU_len, szl]; omega
        rw [gset_gset]
        repeat (walk_at "xx")
        refine ⟨_, rfl, fun e' => ?_, fun e' => ?_⟩
      all_goals
        repeat (first | walk_at "xx" | refine g_sub cx.hu ?_)
        refine ⟨_, rfl, by omega, ?_⟩
        repeat (walk_at "xx")
        refine ⟨_, rfl, by omega, ?_⟩
        repeat (walk_at "xx")
        refine put_step (e := backS a b c d n i) ?_ gset_same ?_ ?_ ?_
        · simpa [backS, pos1] using e'
        · rw [List.map_append, stepsU_keys]; exact back_new (by omega)
        · rw [List.length_append, stepsU_len, szl]; show 2 * i + 1 < _; omega
        rw [gset_gset]
        repeat (walk_at "xx")
        refine ⟨?_, _, _, rfl⟩
        rw [stepsU_succ, List.append_assoc]
        rfl
    · obtain ⟨rfl, o1, o2, rfl⟩ := hi
      rw [rangeD_length]
      refine b_freezeT 2 rfl gset_same ?_
      rw [gdel_gset gp]
      repeat (walk_at "xx")
      walk_at "cv"
      repeat (walk_at "xx")
      refine ⟨_, rfl, by omega, by omega, ?_⟩
      refine lc_mapX cx nameD (by rw [rangeD_length, szl]; omega) (fun _ _ _ => trivial) (fun i x hx => ?_) ?_
      · obtain ⟨hi, rfl⟩ := rangeD_get hx
        refine ⟨_, rfl, fun A1 h1 g1 s1 H1 Cc cl fp cx => ?_⟩
        repeat (walk_at "xx")
        exact ⟨_, rfl, by omega, rfl, rfl⟩
      · repeat (walk_at "xx")
        refine ⟨namesD n, stepsU a b c d n n.toNat, rfl, ?_, ?_, ?_, k⟩
        · rw [stepsU_keys]; exact kS_nodup (by omega)
        · rw [namesD, List.length_map, rangeD_length, szl]; omega
        · rw [szl]
          rw [stepsU_len]; omega
end
end K58
end
section
set_option maxHeartbeats 4000000
namespace K58
open PySem PySem.Spec PyProof.Rows L2 L3
local macro_rules | `(tactic| walk_at "sc") => `(tactic| first | omega | exact ⟨by omega, by omega⟩ | exact cmul_fmod (by decide) (by decide) | exact .inl ⟨by omega, by omega⟩ | exact .inr ⟨by omega, by omega⟩ | exact ⟨by omega, by omega, by omega⟩)
local macro_rules | `(tactic| walk_at "vv") => `(tactic| first | exact Or.inl rfl | exact Or.inr (Or.inl rfl) | exact Or.inr (Or.inr rfl))
local macro_rules | `(tactic| walk_at "ll") => `(tactic| first | exact Or.inl rfl | exact Or.inr rfl)
set_option hygiene false in
local macro_rules | `(tactic| walk_at "A") => `(tactic| first
  | ((with_reducible refine' a_cons ?_ ?hs); (case hs => exact rfl))
  | (with_reducible refine' a_nil ?_))
set_option hygiene false in
local macro_rules | `(tactic| walk_at "Con") => `(tactic| first
  | (with_reducible refine' r_int ?_)
  | (with_reducible refine' r_str ?_)
  | (with_reducible refine' r_non ?_)
  | (with_reducible refine' r_bl ?_))
set_option hygiene false in
local macro_rules | `(tactic| walk_at "Bin") => `(tactic| first
  | ((with_reducible show xE _ _ _ (.BinOp _ .Add _ _) _ _ _); (with_reducible refine' r_op op_addA ?_))
  | ((with_reducible show xE _ _ _ (.BinOp _ .Sub _ _) _ _ _); (with_reducible refine' r_op op_sub ?_))
  | ((with_reducible show xE _ _ _ (.BinOp _ .Mult _ _) _ _ _); (with_reducible refine' r_op op_mul ?_))
  | ((with_reducible show xE _ _ _ (.BinOp _ .FloorDiv _ _) _ _ _); (with_reducible refine' r_op op_fdivN ?_))
  | ((with_reducible show xE _ _ _ (.BinOp _ .Mod _ _) _ _ _); (with_reducible refine' r_op op_modN ?_))
  | ((with_reducible show xE _ _ _ (.BinOp _ .Pow _ _) _ _ _); (with_reducible refine' r_op op_pow ?_)))
set_option hygiene false in
local macro_rules | `(tactic| walk_at "Cmp") => `(tactic| first
  | ((with_reducible show xE _ _ _ (.Compare _ [.Lt] _ _) _ _ _); (with_reducible refine' r_cmp op_lt ?hm ?_); (case hm => exact rfl))
  | ((with_reducible show xE _ _ _ (.Compare _ [.LtE] _ _) _ _ _); (with_reducible refine' r_cmp op_le ?hm ?_); (case hm => exact rfl))
  | ((with_reducible show xE _ _ _ (.Compare _ [.Gt] _ _) _ _ _); (with_reducible refine' r_cmp op_gt ?hm ?_); (case hm => exact rfl))
  | ((with_reducible show xE _ _ _ (.Compare _ [.GtE] _ _) _ _ _); (with_reducible refine' r_cmp op_ge ?hm ?_); (case hm => exact rfl))
  | ((with_reducible show xE _ _ _ (.Compare _ [.Eq] _ _) _ _ _); (with_reducible refine' r_cmp (op_eqB cx.hu64) ?hm ?_); (case hm => exact rfl))
  | ((with_reducible show xE _ _ _ (.Compare _ [.NotEq] _ _) _ _ _); (with_reducible refine' r_cmp (op_neB cx.hu64) ?hm ?_); (case hm => exact rfl))
  | ((with_reducible show xE _ _ _ (.Compare _ [.Is] _ _) _ _ _); (with_reducible refine' r_cmp op_isN1 ?hm ?_); (case hm => exact rfl))
  | ((with_reducible show xE _ _ _ (.Compare _ [.IsNot] _ _) _ _ _); (with_reducible refine' r_cmp op_notN1 ?hm ?_); (case hm => exact rfl)))
set_option hygiene false in
local macro_rules | `(tactic| walk_at "TCmp") => `(tactic| first
  | ((with_reducible show xT _ _ _ (.Compare _ [.Lt] _ _) _ _ _); (with_reducible refine' t_cmp op_lt ?hm ?_); (case hm => exact rfl))
  | ((with_reducible show xT _ _ _ (.Compare _ [.LtE] _ _) _ _ _); (with_reducible refine' t_cmp op_le ?hm ?_); (case hm => exact rfl))
  | ((with_reducible show xT _ _ _ (.Compare _ [.Gt] _ _) _ _ _); (with_reducible refine' t_cmp op_gt ?hm ?_); (case hm => exact rfl))
  | ((with_reducible show xT _ _ _ (.Compare _ [.GtE] _ _) _ _ _); (with_reducible refine' t_cmp op_ge ?hm ?_); (case hm => exact rfl))
  | ((with_reducible show xT _ _ _ (.Compare _ [.Eq] _ _) _ _ _); (with_reducible refine' t_cmp (op_eqB cx.hu64) ?hm ?_); (case hm => exact rfl))
  | ((with_reducible show xT _ _ _ (.Compare _ [.NotEq] _ _) _ _ _); (with_reducible refine' t_cmp (op_neB cx.hu64) ?hm ?_); (case hm => exact rfl))
  | ((with_reducible show xT _ _ _ (.Compare _ [.Is] _ _) _ _ _); (with_reducible refine' t_cmp op_isN1 ?hm ?_); (case hm => exact rfl))
  | ((with_reducible show xT _ _ _ (.Compare _ [.IsNot] _ _) _ _ _); (with_reducible refine' t_cmp op_notN1 ?hm ?_); (case hm => exact rfl))
  | ((with_reducible show xT _ _ _ (.Compare _ [.LtE, .LtE] _ _) _ _ _); (with_reducible refine' t_chain op_le op_le ?_ ?hl); (case hl => exact rfl))
  | ((with_reducible show xT _ _ _ (.Compare _ [.Lt, .Lt] _ _) _ _ _); (with_reducible refine' t_chain op_lt op_lt ?_ ?hl); (case hl => exact rfl))
  | ((with_reducible show xT _ _ _ (.Compare _ [.LtE, .Lt] _ _) _ _ _); (with_reducible refine' t_chain op_le op_lt ?_ ?hl); (case hl => exact rfl))
  | ((with_reducible show xT _ _ _ (.Compare _ [.Lt, .LtE] _ _) _ _ _); (with_reducible refine' t_chain op_lt op_le ?_ ?hl); (case hl => exact rfl)))
set_option hygiene false in
local macro_rules | `(tactic| walk_at "E") => `(tactic| first
  | ((with_reducible show xE _ _ _ (.Name _ _) _ _ _); walk_at "Nam")
  | ((with_reducible show xE _ _ _ (.Constant _ _ _) _ _ _); walk_at "Con")
  | ((with_reducible show xE _ _ _ (.BinOp _ _ _ _) _ _ _); walk_at "Bin")
  | ((with_reducible show xE _ _ _ (.Call _ _ _ _) _ _ _); walk_at "Cal")
  | ((with_reducible show xE _ _ _ (.Tuple _ _ _) _ _ _); (with_reducible refine' r_tup ?_))
  | ((with_reducible show xE _ _ _ (.Subscript _ (.Slice _ _ _ _) _) _ _ _); (with_reducible refine' r_slice ?_))
  | ((with_reducible show xE _ _ _ (.Subscript _ _ _) _ _ _); (refine r_sub cx.hu ?_))
  | ((with_reducible show xE _ _ _ (.Compare _ _ _ _) _ _ _); walk_at "Cmp")
  | ((with_reducible show xE _ _ _ (.IfExp _ _ _ _) _ _ _); (with_reducible refine' r_if ?_))
  | ((with_reducible show xE _ _ _ (.UnaryOp .USub _ _) _ _ _); (with_reducible refine' r_un un_neg ?_))
  | ((with_reducible show xE _ _ _ (.UnaryOp .Not _ _) _ _ _); (with_reducible refine' r_not ?_))
  | ((with_reducible show xE _ _ _ (.BoolOp .And (_ :: _ :: _) _) _ _ _); (with_reducible refine' r_and ?_))
  | ((with_reducible show xE _ _ _ (.BoolOp .Or (_ :: _ :: _) _) _ _ _); (with_reducible refine' r_or ?_))
  | ((with_reducible show xE _ _ _ (.BoolOp _ [_] _) _ _ _); (with_reducible refine' r_one ?_)))
set_option hygiene false in
local macro_rules | `(tactic| walk_at "T") => `(tactic| first
  | ((with_reducible show xT _ _ _ (.Compare _ _ _ _) _ _ _); walk_at "TCmp")
  | ((with_reducible show xT _ _ _ (.UnaryOp .Not _ _) _ _ _); (with_reducible refine' t_not ?_))
  | ((with_reducible show xT _ _ _ (.BoolOp .And _ _) _ _ _); (with_reducible refine' t_w (t_and ?_)))
  | ((with_reducible show xT _ _ _ (.BoolOp .Or _ _) _ _ _); (with_reducible refine' t_w (t_or ?_)))
  | ((with_reducible show xT _ _ _ (.Call _ _ _ _) _ _ _); (with_reducible refine' t_val ?_ ?he); (case he => intro _; rfl))
  | ((with_reducible show xT _ _ _ (.ListComp _ _ _ _) _ _ _); fail)
  | ((with_reducible show xT _ _ _ (.Name _ _) _ _ _); fail)
  | ((with_reducible refine' t_val ?_ ?he); (case he => intro _; rfl)))
set_option hygiene false in
local macro_rules | `(tactic| walk_at "W") => `(tactic| first
  | (with_reducible refine' t_and ?_)
  | (with_reducible refine' t_or ?_)
  | (with_reducible refine' t_and1 ?_)
  | (with_reducible refine' t_or1 ?_))
set_option hygiene false in
local macro_rules | `(tactic| walk_at "S") => `(tactic| first
  | ((with_reducible show xS _ _ _ (.If _ _ _ _) _ _ _); (with_reducible refine' s_if ?_))
  | ((with_reducible show xS _ _ _ (.Assign [.Tuple [.Name _ _, .Name _ _] _ _] (.Tuple [_, _] _ _) _) _ _ _); walk_at "Par")
  | ((with_reducible show xS _ _ _ (.Assign _ _ _) _ _ _); (with_reducible refine' s_asg ?_ ?hs ?hw ?h1); (case hs => exact rfl); (case hw => exact rfl); (case h1 => exact rfl))
  | ((with_reducible show xS _ _ _ (.Return (some _) _) _ _ _); (with_reducible refine' s_ret ?_))
  | ((with_reducible show xS _ _ _ (.Expr _ _) _ _ _); (with_reducible refine' s_expr ?_ ?hs); (case hs => exact rfl))
  | ((with_reducible show xS _ _ _ (.For _ _ _ _ _) _ _ _); (with_reducible refine' s_for cx.po cx.calm ?_ ?hs); (case hs => exact fun _ => rfl))
  | ((with_reducible show xS _ _ _ (.Raise _ _ _) _ _ _); walk_at "Rai")
  | ((with_reducible show xS _ _ _ (.AugAssign _ _ _ _) _ _ _); walk_at "Aug")
  | (with_reducible refine' s_pass ?_)
  | (with_reducible refine' s_break ?_)
  | (with_reducible refine' s_cont ?_)
  | (with_reducible refine' s_retN ?_))
set_option hygiene false in
local macro_rules | `(tactic| walk_at "G") => `(tactic| first
  | ((with_reducible show xG _ _ _ (.Name _ _) _ _ _ _); walk_at "gv")
  | ((with_reducible show xG _ _ _ (.Tuple _ _ _) _ _ _ _); (with_reducible refine' g_tup cx.calm ?_ ?hn ?hst); (case hn => exact rfl); (case hst => exact rfl))
  | ((with_reducible show xG _ _ _ (.Subscript _ _ _) _ _ _ _); (refine g_sub cx.hu ?_)))
set_option hygiene false in
local macro_rules | `(tactic| walk_at "Gs") => `(tactic| first
  | ((with_reducible refine' gs_cons ?_ ?hs); (case hs => exact rfl))
  | (with_reducible refine' gs_nil ?_))
set_option hygiene false in
local macro_rules | `(tactic| walk_at "O") => `(tactic| first
  | (with_reducible refine' p_int ?_)
  | (with_reducible refine' o_int0 ?_)
  | (with_reducible refine' o_bl0 ?_)
  | ((with_reducible refine' o_int ?_ ?hc); (case hc => walk_at "sc"))
  | (with_reducible refine' o_int ?_ ?_)
  | (with_reducible refine' e_int ?_)
  | (with_reducible refine' n_int ?_)
  | (with_reducible refine' e_str ?_)
  | (with_reducible refine' n_str ?_)
  | (with_reducible refine' o_isN ?_)
  | (with_reducible refine' o_notN ?_)
  | (with_reducible refine' p_str ?_ ?_))
set_option hygiene false in
local macro_rules | `(tactic| walk_at "C") => `(tactic| first
  | (with_reducible refine' len_t ?_)
  | (with_reducible refine' len_l ?_)
  | (with_reducible refine' c_abs ?_)
  | (with_reducible refine' c_int ?_)
  | (with_reducible refine' c_intB ?_)
  | (with_reducible refine' c_min2 ?_)
  | (with_reducible refine' c_max2 ?_)
  | (with_reducible refine' c_str ?_ ?_))
set_option hygiene false in
local macro_rules | `(tactic| walk_at "S3") => `(tactic| first
  | (with_reducible refine' s_t ?_)
  | (with_reducible refine' s_s ?_ ?_))
set_option hygiene false in
local macro_rules | `(tactic| walk_at "bb") => `(tactic| first
  | (with_reducible refine b_cons ?_)
  | (with_reducible refine b_one ?_)
  | (with_reducible refine b_nil ?_)
  | (refine b_cons ?_)
  | (refine b_one ?_)
  | (refine b_nil ?_))
set_option hygiene false in
local macro_rules | `(tactic| walk_at "I") => `(tactic| first
  | ((with_reducible refine' i_range1 ?hg ?hm ?_ ?hs); (case hg => exact rfl); (case hm => exact Z.z_range); (case hs => exact rfl))
  | ((with_reducible refine' i_range2 ?hg ?hm ?_ ?hs ?hs2); (case hg => exact rfl); (case hm => exact Z.z_range); (case hs => exact rfl); (case hs2 => exact rfl)))
local macro_rules | `(tactic| walk_at "be") => `(tactic| first
  | (with_reducible refine b_cons ?_)
  | (with_reducible refine b_one ?_)
  | (with_reducible refine b_nil ?_))
set_option hygiene false in
local macro_rules | `(tactic| walk_at "xx") => `(tactic| first
  | ((with_reducible show xE _ _ _ _ _ _ _); walk_at "E")
  | ((with_reducible show xA _ _ _ _ _ _ _); walk_at "A")
  | ((with_reducible show O3 _ _ _ _ _ _ _); walk_at "O")
  | ((with_reducible show C3 _ _ _ _ _ _); walk_at "C")
  | ((with_reducible show xS _ _ _ _ _ _ _); walk_at "S")
  | ((with_reducible show xB _ _ _ _ _ _ _); walk_at "be")
  | ((with_reducible show xT _ _ _ _ _ _ _); walk_at "T")
  | ((with_reducible show xW _ _ _ _ _ _ _); walk_at "W")
  | ((with_reducible show xG _ _ _ _ _ _ _ _); walk_at "G")
  | ((with_reducible show xGs _ _ _ _ _ _ _ _); walk_at "Gs")
  | ((with_reducible show U3 _ _ _ _ _ _); (with_reducible refine' u_int ?_))
  | ((with_reducible show S3 _ _ _ _ _ _ _ _); walk_at "S3")
  | ((with_reducible show xI _ _ _ _ _ _ _ _); walk_at "I")
  | ((with_reducible show _ ≤ sizeLine ∧ _); (with_reducible refine' len16 ?hL ?_); (case hL => exact rfl)))
local macro_rules | `(tactic| walk_at "sd") => `(tactic| first | decide | omega | exact ⟨by decide, by decide⟩ | exact .inl ⟨by omega, by omega⟩ | exact .inr ⟨by omega, by omega⟩)
local macro_rules | `(tactic| walk_at "xn") => `(tactic| ((fail_if_success (with_reducible show xB _ _ _ (.If _ _ _ _ :: _ :: _) _ _ _)); walk_at "xx"))
variable {P : Program} {w : World} {K : PySem.W.Frag} {mg : Str → Option Value} {base : Heap} {T : List (Addr × Str)}
/-! ### the law's pen -/
def penD (ns : List Int) (a r : Int) : List (Key × D) := [(.inr "cells", .lst (ns.map .int)), (.inr "at", .int a), (.inr "rest", .int r)]
theorem pen_cells (ns : List Int) (a r : Int) : lookD (penD ns a r) (.inr "cells") = some (.lst (ns.map .int)) := rfl
theorem pen_at (ns : List Int) (a r : Int) : lookD (penD ns a r) (.inr "at") = some (.int a) := rfl
theorem pen_rest (ns : List Int) (a r : Int) : lookD (penD ns a r) (.inr "rest") = some (.int r) := rfl
theorem put_at (ns : List Int) (a r b : Int) : putD (penD ns a r) (.inr "at") (.int b) = penD ns b r := rfl
theorem put_rest (ns : List Int) (a r b : Int) : putD (penD ns a r) (.inr "rest") (.int b) = penD ns a b := rfl
theorem pen_len (ns : List Int) (a r : Int) : (penD ns a r).length < sizeLine := by rw [szl]; show 3 < _; decide
def PenC (n : Nat) (c : Cell) : Prop := ∃ ns a r, c = .dK (penD ns a r) ∧ ns.length ≤ 63 ∧ 0 ≤ a ∧ a ≤ n ∧ 0 ≤ r
def sp_pen : Sp3 := fun ds G Q _ => ∃ ns : List Int, ds = [.lst (ns.map .int)] ∧ ns.length ≤ 63 ∧ ∀ p c, G p = none → PenC 0 c → Q (.raw (.ref p)) (gset G p c)
def sp_draw : Sp3 := fun ds G Q _ => ∃ p m n c, ds = [.raw (.ref p), .int m] ∧ G p = some c ∧ PenC n c ∧ n < 1000000 ∧ 1 ≤ m ∧ m < 1073741824 ∧ ∀ v c', PenC (n + 1) c' → 0 ≤ v → v < m → Q (.int v) (gset G p c')
theorem oksL_ints (ns : List Int) : oksL (ns.map .int) = true := oksL_map fun _ _ => rfl
theorem dps_ints (ns : List Int) : dpsD (ns.map .int) ≤ 0 := dpsD_map fun _ _ => Nat.le_refl _
theorem atI_in {α : Type} (xs : List α) {i : Int} (h0 : 0 ≤ i) (h1 : i < xs.length) : ∃ x ∈ xs, atI xs i = some x := by
  have h : i.toNat < xs.length := by omega
  refine ⟨xs[i.toNat], List.getElem_mem h, ?_⟩
  unfold atI ixN
  rw [if_pos h0, if_pos h1]
  exact List.getElem?_eq_getElem h
theorem atI_mod {ns : List Int} (h : ns ≠ []) (a : Int) : ∃ c : Int, atI (ns.map D.int) (a.fmod ((ns.map D.int).length : Int)) = some (.int c) := by
  have hp : 0 < (ns.map D.int).length := by rw [List.length_map]; exact List.length_pos_iff.mpr h
  obtain ⟨x, hx, e⟩ := atI_in (ns.map D.int) (Int.fmod_nonneg_of_pos a (b := ((ns.map D.int).length : Int)) (by omega)) (Int.fmod_lt_of_pos a (by omega))
  obtain ⟨c, _, rfl⟩ := List.mem_map.mp hx
  exact ⟨c, e⟩
section
set_option hygiene false in
local macro_rules | `(tactic| walk_at "Par") => `(tactic| first
  | fail)
set_option hygiene false in
local macro_rules | `(tactic| walk_at "Nam") => `(tactic| first
  | ((with_reducible refine' r_var 0 (x := "script") ?hN ?hv ?hs ?_); (case hN => exact ⟨rfl, by decide, by decide⟩); (case hv => walk_at "vv"); (case hs => exact rfl))
  | ((with_reducible refine' r_bltn (x := "list") (v := .ty "list") ?hg ?hm bt_list ?hr ?_ ?hn ?hd); (case hg => exact rfl); (case hm => exact Z.z_list); (case hr => exact rfl); (case hn => decide); (case hd => decide)))
set_option hygiene false in
local macro_rules | `(tactic| walk_at "Cal") => `(tactic| first
  | ((with_reducible refine' r_callTy (x := "list") (id := "list") call_listOf ?hg ?hm bt_list ?_ ?hn ?hd ?he ?hp); (case hg => exact rfl); (case hm => exact Z.z_list); (case hn => decide); (case hd => decide); (case he => exact rfl); (case hp => exact rfl)))
set_option hygiene false in
local macro_rules | `(tactic| walk_at "Rai") => `(tactic| first
  | fail)
set_option hygiene false in
local macro_rules | `(tactic| walk_at "Aug") => `(tactic| first
  | fail)
set_option hygiene false in
local macro_rules | `(tactic| walk_at "gv") => `(tactic| first
  | ((with_reducible refine' g_name 0 (x := "script") cx.nd ?hi ?hx ?_ ?hf); (case hi => exact rfl); (case hx => walk_at "ll"); (case hf => first | exact .inl rfl | exact .inr rfl)))

theorem d__law_pen (Z : Tx K mg) : Def3 P w K mg base T 1 false "_law_pen" ["script"] sp_pen := by
  obtain ⟨fd, F⟩ := Z.f__law_pen
  refine def_ok F sc__law_pen Z.g__law_pen (fun ds G Q E h => ?_) fun A outer s H E O ds G Q3 E3 cx h => ?_
  · obtain ⟨ns, rfl, _⟩ := h; rfl
  · obtain ⟨ns, rfl, hl, q⟩ := h
    walk_at "bb"
    walk_at "xx"
    refine r_disp (fun p gp => ?_)
    repeat (first | walk_at "xx" | (refine ps_cons ?_) | (refine ⟨_, rfl, ?_⟩) | refine x_some ?_ | refine x_no ?_)
    refine s_l (.inl rfl) ?_
    repeat (walk_at "xx")
    refine c_list (.inr (.inl rfl)) ?_
    repeat (first | walk_at "xx" | (refine ps_cons ?_) | (refine ⟨_, rfl, ?_⟩))
    refine ps_nil ⟨gset_same, Nat.le_of_ble_eq_true rfl, ?_⟩
    rw [gset_gset]
    refine q p _ gp ⟨ns, 0, 0, ?_, hl, by decide, by decide, by decide⟩
    show Cell.dK [(.inr "cells",   .lst (L3.cutD (ns.map .int) none (some 63))), _, _] = _
    rw [show L3.cutD (ns.map .int) none (some 63) = ns.map D.int from by
      unfold L3.cutD; simp [HT.sIx]; rw [Nat.min_eq_right hl, ← List.length_map (f := D.int), List.take_length]]
    rfl
end
section
set_option hygiene false in
local macro_rules | `(tactic| walk_at "Par") => `(tactic| first
  | fail)
set_option hygiene false in
local macro_rules | `(tactic| walk_at "Nam") => `(tactic| first
  | ((with_reducible refine' r_var 0 (x := "pen") ?hN ?hv ?hs ?_); (case hN => exact ⟨rfl, by decide, by decide⟩); (case hv => walk_at "vv"); (case hs => exact rfl))
  | ((with_reducible refine' r_var 1 (x := "many") ?hN ?hv ?hs ?_); (case hN => exact ⟨rfl, by decide, by decide⟩); (case hv => walk_at "vv"); (case hs => exact rfl))
  | ((with_reducible refine' r_var 2 (x := "digit") ?hN ?hv ?hs ?_); (case hN => exact ⟨rfl, by decide, by decide⟩); (case hv => walk_at "vv"); (case hs => exact rfl))
  | ((with_reducible refine' r_var 3 (x := "at") ?hN ?hv ?hs ?_); (case hN => exact ⟨rfl, by decide, by decide⟩); (case hv => walk_at "vv"); (case hs => exact rfl))
  | ((with_reducible refine' r_var 4 (x := "cell") ?hN ?hv ?hs ?_); (case hN => exact ⟨rfl, by decide, by decide⟩); (case hv => walk_at "vv"); (case hs => exact rfl))
  | ((with_reducible refine' r_var 5 (x := "mixed") ?hN ?hv ?hs ?_); (case hN => exact ⟨rfl, by decide, by decide⟩); (case hv => walk_at "vv"); (case hs => exact rfl))
  | ((with_reducible refine' r_bltn (x := "int") (v := .ty "int") ?hg ?hm bt_int ?hr ?_ ?hn ?hd); (case hg => exact rfl); (case hm => exact Z.z_int); (case hr => exact rfl); (case hn => decide); (case hd => decide)))
set_option hygiene false in
local macro_rules | `(tactic| walk_at "Cal") => `(tactic| first
  | ((with_reducible refine' r_callTy (x := "int") (id := "int") call_int ?hg ?hm bt_int ?_ ?hn ?hd ?he ?hp); (case hg => exact rfl); (case hm => exact Z.z_int); (case hn => decide); (case hd => decide); (case he => exact rfl); (case hp => exact rfl))
  | ((with_reducible refine' r_callB (x := "len") (id := "len") call_lenA ?hg ?hm bt_len ?_ ?hn ?hd ?he ?hp); (case hg => exact rfl); (case hm => exact Z.z_len); (case hn => decide); (case hd => decide); (case he => exact rfl); (case hp => exact rfl))
  | ((with_reducible refine' r_callB (x := "abs") (id := "abs") call_abs ?hg ?hm bt_abs ?_ ?hn ?hd ?he ?hp); (case hg => exact rfl); (case hm => exact Z.z_abs); (case hn => decide); (case hd => decide); (case he => exact rfl); (case hp => exact rfl)))
set_option hygiene false in
local macro_rules | `(tactic| walk_at "Rai") => `(tactic| first
  | fail)
set_option hygiene false in
local macro_rules | `(tactic| walk_at "Aug") => `(tactic| first
  | fail)
set_option hygiene false in
local macro_rules | `(tactic| walk_at "gv") => `(tactic| first
  | ((with_reducible refine' g_name 0 (x := "pen") cx.nd ?hi ?hx ?_ ?hf); (case hi => exact rfl); (case hx => walk_at "ll"); (case hf => first | exact .inl rfl | exact .inr rfl))
  | ((with_reducible refine' g_name 1 (x := "many") cx.nd ?hi ?hx ?_ ?hf); (case hi => exact rfl); (case hx => walk_at "ll"); (case hf => first | exact .inl rfl | exact .inr rfl))
  | ((with_reducible refine' g_name 2 (x := "digit") cx.nd ?hi ?hx ?_ ?hf); (case hi => exact rfl); (case hx => walk_at "ll"); (case hf => first | exact .inl rfl | exact .inr rfl))
  | ((with_reducible refine' g_name 3 (x := "at") cx.nd ?hi ?hx ?_ ?hf); (case hi => exact rfl); (case hx => walk_at "ll"); (case hf => first | exact .inl rfl | exact .inr rfl))
  | ((with_reducible refine' g_name 4 (x := "cell") cx.nd ?hi ?hx ?_ ?hf); (case hi => exact rfl); (case hx => walk_at "ll"); (case hf => first | exact .inl rfl | exact .inr rfl))
  | ((with_reducible refine' g_name 5 (x := "mixed") cx.nd ?hi ?hx ?_ ?hf); (case hi => exact rfl); (case hx => walk_at "ll"); (case hf => first | exact .inl rfl | exact .inr rfl)))

theorem d__law_draw (Z : Tx K mg) : Def3 P w K mg base T 1 false "_law_draw" ["pen", "many"] sp_draw := by
  obtain ⟨fd, F⟩ := Z.f__law_draw
  refine def_ok F sc__law_draw Z.g__law_draw (fun ds G Q E h => ?_) fun A outer s H E O ds G Q3 E3 cx h => ?_
  · obtain ⟨p, m, n, c, rfl, _⟩ := h; rfl
  · obtain ⟨p, m, n, c, rfl, gp, ⟨ns, a, r, rfl, hl, a0, a1, r0⟩, hn, m1, m2, q⟩ := h
    refine b_cut (fun σ1 G1 => σ1 = [some (.raw (.ref p)), some (.int m), none, none, none, none] ∧ G = G1) ?_ ?_
    · repeat (walk_at "xx")
      refine ix_ko gp rfl (pen_rest ..) ?_
      repeat (walk_at "xx")
      refine ⟨_, rfl, fun e => ?_, fun e => ?_⟩
      · repeat (walk_at "xx")
        refine ix_ko gp rfl (pen_rest ..) ?_
        repeat (walk_at "xx")
        refine ix_ko gp rfl (pen_rest ..) ?_
        repeat (walk_at "xx")
        refine ⟨p, rfl, .inr (.inl ⟨_, _, gp, rfl, pen_len .., ?_⟩)⟩
        rw [put_rest]
        repeat (walk_at "xx")
        exact q _ _ ⟨ns, a, _, rfl, hl, a0, by omega, Int.fdiv_nonneg r0 (by omega)⟩ (Int.fmod_nonneg_of_pos _ (by omega)) (Int.fmod_lt_of_pos _ (by omega))
      · repeat (walk_at "xx")
        exact ⟨rfl, rfl⟩
    · rintro _ _ ⟨rfl, rfl⟩
      repeat (walk_at "xx")
      refine ix_ko gp rfl (pen_at ..) ?_
      repeat (walk_at "xx")
      refine ⟨p, rfl, .inr (.inl ⟨_, _, gp, rfl, pen_len .., ?_⟩)⟩
      rw [put_at]
      repeat (walk_at "xn")
      refine b_cut (fun σ1 G1 => ∃ c : Int, σ1 = [some (.raw (.ref p)), some (.int m), none, some (.int a), some (.int c), none] ∧ gset G p (.dK (penD ns (a + 1) r)) = G1) ?_ ?_
      · repeat (walk_at "xx")
        refine ix_ko gset_same rfl (pen_cells ..) ?_
        repeat (walk_at "xx")
        refine r_lst ?_
        repeat (walk_at "xx")
        refine n_dat ?_ (dat_self (oksL_ints ns)) (dat_self rfl) (by show _ + 1 ≤ 64; have := dps_ints ns; omega) (by decide)
        rw [eqD_nil]
        refine ⟨_, rfl, fun e => ?_, fun e => ?_⟩
        · have hne : ns ≠ [] := by rintro rfl; cases e
          obtain ⟨c, hc⟩ := atI_mod hne a
          have hp : 0 < (ns.map D.int).length := by rw [List.length_map]; exact List.length_pos_iff.mpr hne
          repeat (walk_at "xx")
          refine ix_ko gset_same rfl (pen_cells ..) ?_
          repeat (walk_at "xx")
          refine ix_ko gset_same rfl (pen_cells ..) ?_
          repeat (walk_at "xx")
          refine ix_l hc ?_
          repeat (walk_at "xx")
          exact ⟨_, rfl, rfl⟩
        · repeat (walk_at "xx")
          exact ⟨_, rfl, rfl⟩
      · rintro _ _ ⟨c, rfl, rfl⟩
        have pc : ∀ r', 0 ≤ r' → PenC (n + 1) (.dK (penD ns (a + 1) r')) := fun r' h => ⟨ns, a + 1, r', rfl, hl, by omega, by omega, h⟩
        refine b_cut (fun σ1 G1 => σ1 = [some (.raw (.ref p)), some (.int m), none, some (.int a), some (.int c), none] ∧ gset G p (.dK (penD ns (a + 1) r)) = G1) ?_ ?_
        · repeat (walk_at "xx")
          refine ix_ko gset_same rfl (pen_cells ..) ?_
          repeat (walk_at "xx")
          refine ⟨_, rfl, fun e => ?_, fun e => ?_⟩
          · repeat (walk_at "xx")
            refine ⟨_, rfl, fun e => ?_, fun e => ?_⟩
            · have e : (10 : Int) ^ Int.toNat 18 ≤ if c < 0 then -c else c := of_decide_eq_true e
              repeat (walk_at "xx")
              refine ⟨p, rfl, .inr (.inl ⟨_, _, gset_same, rfl, pen_len .., ?_⟩)⟩
              rw [put_rest, gset_gset]
              repeat (walk_at "xx")
              exact q _ _ (pc _ (Int.fdiv_nonneg (by omega) (by omega))) (Int.fmod_nonneg_of_pos _ (by omega)) (Int.fmod_lt_of_pos _ (by omega))
            · repeat (walk_at "xx")
              exact ⟨rfl, rfl⟩
          · refine br_f ?_
            repeat (walk_at "xx")
            exact ⟨rfl, rfl⟩
        · rintro _ _ ⟨rfl, rfl⟩
          repeat (walk_at "xx")
          exact q _ _ (pc _ r0) (Int.fmod_nonneg_of_pos _ (by omega)) (Int.fmod_lt_of_pos _ (by omega))
end
end K58
end
section
set_option maxHeartbeats 4000000
namespace K58
open PySem PySem.Spec PyProof.Rows L2 L3
local macro_rules | `(tactic| walk_at "sc") => `(tactic| first | omega | exact ⟨by omega, by omega⟩ | exact cmul_fmod (by decide) (by decide) | exact .inl ⟨by omega, by omega⟩ | exact .inr ⟨by omega, by omega⟩ | exact ⟨by omega, by omega, by omega⟩)
local macro_rules | `(tactic| walk_at "vv") => `(tactic| first | exact Or.inl rfl | exact Or.inr (Or.inl rfl) | exact Or.inr (Or.inr rfl))
local macro_rules | `(tactic| walk_at "ll") => `(tactic| first | exact Or.inl rfl | exact Or.inr rfl)
set_option hygiene false in
local macro_rules | `(tactic| walk_at "A") => `(tactic| first
  | ((with_reducible refine' a_cons ?_ ?hs); (case hs => exact rfl))
  | (with_reducible refine' a_nil ?_))
set_option hygiene false in
local macro_rules | `(tactic| walk_at "Con") => `(tactic| first
  | (with_reducible refine' r_int ?_)
  | (with_reducible refine' r_str ?_)
  | (with_reducible refine' r_non ?_)
  | (with_reducible refine' r_bl ?_))
set_option hygiene false in
local macro_rules | `(tactic| walk_at "Bin") => `(tactic| first
  | ((with_reducible show xE _ _ _ (.BinOp _ .Add _ _) _ _ _); (with_reducible refine' r_op op_addA ?_))
  | ((with_reducible show xE _ _ _ (.BinOp _ .Sub _ _) _ _ _); (with_reducible refine' r_op op_sub ?_))
  | ((with_reducible show xE _ _ _ (.BinOp _ .Mult _ _) _ _ _); (with_reducible refine' r_op op_mul ?_))
  | ((with_reducible show xE _ _ _ (.BinOp _ .FloorDiv _ _) _ _ _); (with_reducible refine' r_op op_fdivN ?_))
  | ((with_reducible show xE _ _ _ (.BinOp _ .Mod _ _) _ _ _); (with_reducible refine' r_op op_modN ?_))
  | ((with_reducible show xE _ _ _ (.BinOp _ .Pow _ _) _ _ _); (with_reducible refine' r_op op_pow ?_)))
set_option hygiene false in
local macro_rules | `(tactic| walk_at "Cmp") => `(tactic| first
  | ((with_reducible show xE _ _ _ (.Compare _ [.Lt] _ _) _ _ _); (with_reducible refine' r_cmp op_lt ?hm ?_); (case hm => exact rfl))
  | ((with_reducible show xE _ _ _ (.Compare _ [.LtE] _ _) _ _ _); (with_reducible refine' r_cmp op_le ?hm ?_); (case hm => exact rfl))
  | ((with_reducible show xE _ _ _ (.Compare _ [.Gt] _ _) _ _ _); (with_reducible refine' r_cmp op_gt ?hm ?_); (case hm => exact rfl))
  | ((with_reducible show xE _ _ _ (.Compare _ [.GtE] _ _) _ _ _); (with_reducible refine' r_cmp op_ge ?hm ?_); (case hm => exact rfl))
  | ((with_reducible show xE _ _ _ (.Compare _ [.Eq] _ _) _ _ _); (with_reducible refine' r_cmp (op_eqB cx.hu64) ?hm ?_); (case hm => exact rfl))
  | ((with_reducible show xE _ _ _ (.Compare _ [.NotEq] _ _) _ _ _); (with_reducible refine' r_cmp (op_neB cx.hu64) ?hm ?_); (case hm => exact rfl))
  | ((with_reducible show xE _ _ _ (.Compare _ [.Is] _ _) _ _ _); (with_reducible refine' r_cmp op_isN1 ?hm ?_); (case hm => exact rfl))
  | ((with_reducible show xE _ _ _ (.Compare _ [.IsNot] _ _) _ _ _); (with_reducible refine' r_cmp op_notN1 ?hm ?_); (case hm => exact rfl)))
set_option hygiene false in
local macro_rules | `(tactic| walk_at "TCmp") => `(tactic| first
  | ((with_reducible show xT _ _ _ (.Compare _ [.Lt] _ _) _ _ _); (with_reducible refine' t_cmp op_lt ?hm ?_); (case hm => exact rfl))
  | ((with_reducible show xT _ _ _ (.Compare _ [.LtE] _ _) _ _ _); (with_reducible refine' t_cmp op_le ?hm ?_); (case hm => exact rfl))
  | ((with_reducible show xT _ _ _ (.Compare _ [.Gt] _ _) _ _ _); (with_reducible refine' t_cmp op_gt ?hm ?_); (case hm => exact rfl))
  | ((with_reducible show xT _ _ _ (.Compare _ [.GtE] _ _) _ _ _); (with_reducible refine' t_cmp op_ge ?hm ?_); (case hm => exact rfl))
  | ((with_reducible show xT _ _ _ (.Compare _ [.Eq] _ _) _ _ _); (with_reducible refine' t_cmp (op_eqB cx.hu64) ?hm ?_); (case hm => exact rfl))
  | ((with_reducible show xT _ _ _ (.Compare _ [.NotEq] _ _) _ _ _); (with_reducible refine' t_cmp (op_neB cx.hu64) ?hm ?_); (case hm => exact rfl))
  | ((with_reducible show xT _ _ _ (.Compare _ [.Is] _ _) _ _ _); (with_reducible refine' t_cmp op_isN1 ?hm ?_); (case hm => exact rfl))
  | ((with_reducible show xT _ _ _ (.Compare _ [.IsNot] _ _) _ _ _); (with_reducible refine' t_cmp op_notN1 ?hm ?_); (case hm => exact rfl))
  | ((with_reducible show xT _ _ _ (.Compare _ [.LtE, .LtE] _ _) _ _ _); (with_reducible refine' t_chain op_le op_le ?_ ?hl); (case hl => exact rfl))
  | ((with_reducible show xT _ _ _ (.Compare _ [.Lt, .Lt] _ _) _ _ _); (with_reducible refine' t_chain op_lt op_lt ?_ ?hl); (case hl => exact rfl))
  | ((with_reducible show xT _ _ _ (.Compare _ [.LtE, .Lt] _ _) _ _ _); (with_reducible refine' t_chain op_le op_lt ?_ ?hl); (case hl => exact rfl))
  | ((with_reducible show xT _ _ _ (.Compare _ [.Lt, .LtE] _ _) _ _ _); (with_reducible refine' t_chain op_lt op_le ?_ ?hl); (case hl => exact rfl)))
set_option hygiene false in
local macro_rules | `(tactic| walk_at "E") => `(tactic| first
  | ((with_reducible show xE _ _ _ (.Name _ _) _ _ _); walk_at "Nam")
  | ((with_reducible show xE _ _ _ (.Constant _ _ _) _ _ _); walk_at "Con")
  | ((with_reducible show xE _ _ _ (.BinOp _ _ _ _) _ _ _); walk_at "Bin")
  | ((with_reducible show xE _ _ _ (.Call _ _ _ _) _ _ _); walk_at "Cal")
  | ((with_reducible show xE _ _ _ (.Tuple _ _ _) _ _ _); (with_reducible refine' r_tup ?_))
  | ((with_reducible show xE _ _ _ (.Subscript _ (.Slice _ _ _ _) _) _ _ _); (with_reducible refine' r_slice ?_))
  | ((with_reducible show xE _ _ _ (.Subscript _ _ _) _ _ _); (refine r_sub cx.hu ?_))
  | ((with_reducible show xE _ _ _ (.Compare _ _ _ _) _ _ _); walk_at "Cmp")
  | ((with_reducible show xE _ _ _ (.IfExp _ _ _ _) _ _ _); (with_reducible refine' r_if ?_))
  | ((with_reducible show xE _ _ _ (.UnaryOp .USub _ _) _ _ _); (with_reducible refine' r_un un_neg ?_))
  | ((with_reducible show xE _ _ _ (.UnaryOp .Not _ _) _ _ _); (with_reducible refine' r_not ?_))
  | ((with_reducible show xE _ _ _ (.BoolOp .And (_ :: _ :: _) _) _ _ _); (with_reducible refine' r_and ?_))
  | ((with_reducible show xE _ _ _ (.BoolOp .Or (_ :: _ :: _) _) _ _ _); (with_reducible refine' r_or ?_))
  | ((with_reducible show xE _ _ _ (.BoolOp _ [_] _) _ _ _); (with_reducible refine' r_one ?_)))
set_option hygiene false in
local macro_rules | `(tactic| walk_at "T") => `(tactic| first
  | ((with_reducible show xT _ _ _ (.Compare _ _ _ _) _ _ _); walk_at "TCmp")
  | ((with_reducible show xT _ _ _ (.UnaryOp .Not _ _) _ _ _); (with_reducible refine' t_not ?_))
  | ((with_reducible show xT _ _ _ (.BoolOp .And _ _) _ _ _); (with_reducible refine' t_w (t_and ?_)))
  | ((with_reducible show xT _ _ _ (.BoolOp .Or _ _) _ _ _); (with_reducible refine' t_w (t_or ?_)))
  | ((with_reducible show xT _ _ _ (.Call _ _ _ _) _ _ _); (with_reducible refine' t_val ?_ ?he); (case he => intro _; rfl))
  | ((with_reducible show xT _ _ _ (.ListComp _ _ _ _) _ _ _); fail)
  | ((with_reducible show xT _ _ _ (.Name _ _) _ _ _); fail)
  | ((with_reducible refine' t_val ?_ ?he); (case he => intro _; rfl)))
set_option hygiene false in
local macro_rules | `(tactic| walk_at "W") => `(tactic| first
  | (with_reducible refine' t_and ?_)
  | (with_reducible refine' t_or ?_)
  | (with_reducible refine' t_and1 ?_)
  | (with_reducible refine' t_or1 ?_))
set_option hygiene false in
local macro_rules | `(tactic| walk_at "S") => `(tactic| first
  | ((with_reducible show xS _ _ _ (.If _ _ _ _) _ _ _); (with_reducible refine' s_if ?_))
  | ((with_reducible show xS _ _ _ (.Assign [.Tuple [.Name _ _, .Name _ _] _ _] (.Tuple [_, _] _ _) _) _ _ _); walk_at "Par")
  | ((with_reducible show xS _ _ _ (.Assign _ _ _) _ _ _); (with_reducible refine' s_asg ?_ ?hs ?hw ?h1); (case hs => exact rfl); (case hw => exact rfl); (case h1 => exact rfl))
  | ((with_reducible show xS _ _ _ (.Return (some _) _) _ _ _); (with_reducible refine' s_ret ?_))
  | ((with_reducible show xS _ _ _ (.Expr _ _) _ _ _); (with_reducible refine' s_expr ?_ ?hs); (case hs => exact rfl))
  | ((with_reducible show xS _ _ _ (.For _ (.Call _ _ _ _) _ _ _) _ _ _); (with_reducible refine' s_for cx.po cx.calm ?_ ?hs); (case hs => exact fun _ => rfl))
  | ((with_reducible show xS _ _ _ (.Raise _ _ _) _ _ _); walk_at "Rai")
  | ((with_reducible show xS _ _ _ (.AugAssign _ _ _ _) _ _ _); walk_at "Aug")
  | (with_reducible refine' s_pass ?_)
  | (with_reducible refine' s_break ?_)
  | (with_reducible refine' s_cont ?_)
  | (with_reducible refine' s_retN ?_))
set_option hygiene false in
local macro_rules | `(tactic| walk_at "G") => `(tactic| first
  | ((with_reducible show xG _ _ _ (.Name _ _) _ _ _ _); walk_at "gv")
  | ((with_reducible show xG _ _ _ (.Tuple _ _ _) _ _ _ _); (with_reducible refine' g_tup cx.calm ?_ ?hn ?hst); (case hn => exact rfl); (case hst => exact rfl))
  | ((with_reducible show xG _ _ _ (.Subscript _ _ _) _ _ _ _); (refine g_sub cx.hu ?_)))
set_option hygiene false in
local macro_rules | `(tactic| walk_at "Gs") => `(tactic| first
  | ((with_reducible refine' gs_cons ?_ ?hs); (case hs => exact rfl))
  | (with_reducible refine' gs_nil ?_))
set_option hygiene false in
local macro_rules | `(tactic| walk_at "O") => `(tactic| first
  | (with_reducible refine' p_int ?_)
  | (with_reducible refine' o_int0 ?_)
  | (with_reducible refine' o_bl0 ?_)
  | ((with_reducible refine' o_int ?_ ?hc); (case hc => walk_at "sc"))
  | (with_reducible refine' o_int ?_ ?_)
  | (with_reducible refine' e_int ?_)
  | (with_reducible refine' n_int ?_)
  | (with_reducible refine' e_str ?_)
  | (with_reducible refine' n_str ?_)
  | (with_reducible refine' o_isN ?_)
  | (with_reducible refine' o_notN ?_)
  | (with_reducible refine' p_str ?_ ?_))
set_option hygiene false in
local macro_rules | `(tactic| walk_at "C") => `(tactic| first
  | (with_reducible refine' len_t ?_)
  | (with_reducible refine' len_l ?_)
  | (with_reducible refine' c_abs ?_)
  | (with_reducible refine' c_int ?_)
  | (with_reducible refine' c_intB ?_)
  | (with_reducible refine' c_min2 ?_)
  | (with_reducible refine' c_max2 ?_)
  | (with_reducible refine' c_str ?_ ?_))
set_option hygiene false in
local macro_rules | `(tactic| walk_at "S3") => `(tactic| first
  | (with_reducible refine' s_t ?_)
  | (with_reducible refine' s_s ?_ ?_))
set_option hygiene false in
local macro_rules | `(tactic| walk_at "bb") => `(tactic| first
  | (with_reducible refine b_cons ?_)
  | (with_reducible refine b_one ?_)
  | (with_reducible refine b_nil ?_)
  | (refine b_cons ?_)
  | (refine b_one ?_)
  | (refine b_nil ?_))
set_option hygiene false in
local macro_rules | `(tactic| walk_at "I") => `(tactic| first
  | ((with_reducible refine' i_range1 ?hg ?hm ?_ ?hs); (case hg => exact rfl); (case hm => exact Z.z_range); (case hs => exact rfl))
  | ((with_reducible refine' i_range2 ?hg ?hm ?_ ?hs ?hs2); (case hg => exact rfl); (case hm => exact Z.z_range); (case hs => exact rfl); (case hs2 => exact rfl)))
local macro_rules | `(tactic| walk_at "be") => `(tactic| first
  | (with_reducible refine b_cons ?_)
  | (with_reducible refine b_one ?_)
  | (with_reducible refine b_nil ?_))
local macro_rules | `(tactic| walk_at "gl") => `(tactic| (repeat (first | exact gset_same | assumption | (refine Eq.trans (gset_ne ?_) ?_; (first | assumption | (apply Ne.symm; assumption))))))
local macro_rules | `(tactic| walk_at "geq") => `(tactic| (funext q; simp only [gset, gdel]; (repeat' split); all_goals (first | rfl | (exfalso; simp_all; done) | (simp_all; done))))
set_option hygiene false in
local macro_rules | `(tactic| walk_at "M") => `(tactic| first
  | ((with_reducible refine' m_append ?hp ?_ ?_); (case hp => walk_at "gl")))
set_option hygiene false in
local macro_rules | `(tactic| walk_at "xx") => `(tactic| first
  | ((with_reducible show xE _ _ _ _ _ _ _); walk_at "E")
  | ((with_reducible show xA _ _ _ _ _ _ _); walk_at "A")
  | ((with_reducible show O3 _ _ _ _ _ _ _); walk_at "O")
  | ((with_reducible show C3 _ _ _ _ _ _); walk_at "C")
  | ((with_reducible show xS _ _ _ _ _ _ _); walk_at "S")
  | ((with_reducible show xB _ _ _ _ _ _ _); walk_at "be")
  | ((with_reducible show xT _ _ _ _ _ _ _); walk_at "T")
  | ((with_reducible show xW _ _ _ _ _ _ _); walk_at "W")
  | ((with_reducible show xG _ _ _ _ _ _ _ _); walk_at "G")
  | ((with_reducible show xGs _ _ _ _ _ _ _ _); walk_at "Gs")
  | ((with_reducible show U3 _ _ _ _ _ _); (with_reducible refine' u_int ?_))
  | ((with_reducible show S3 _ _ _ _ _ _ _ _); walk_at "S3")
  | ((with_reducible show xI _ _ _ _ _ _ _ _); walk_at "I")
  | ((with_reducible show _ ≤ sizeLine ∧ _); (with_reducible refine' len16 ?hL ?_); (case hL => exact rfl))
  | ((with_reducible show xP _ _ _ (some _) _ _ _); (with_reducible refine' x_some ?_))
  | ((with_reducible show xP _ _ _ none _ _ _); (with_reducible refine' x_no ?_))
  | ((with_reducible show tyM _ _ _ ∧ _); (refine' ⟨.inl ⟨rfl, _, ?hgl⟩, ?_⟩); (case hgl => walk_at "gl"))
  | ((with_reducible show M3 _ _ _ _ _ _ _); walk_at "M")
  | (with_reducible refine' ex_bl ?_)
  | (with_reducible refine' ex_int ?_)
  | (with_reducible refine' ex_str ?_)
  | (with_reducible refine' ex_tup ?_)
  | (with_reducible refine' br_f ?_)
  | (with_reducible refine' br_nt ?_)
  | (with_reducible refine' br_nf ?_)
  | (with_reducible refine' br_t ?_))
local macro_rules | `(tactic| walk_at "sd") => `(tactic| first | decide | omega | exact ⟨by decide, by decide⟩ | exact .inl ⟨by omega, by omega⟩ | exact .inr ⟨by omega, by omega⟩)
local macro_rules | `(tactic| walk_at "xn") => `(tactic| ((fail_if_success (with_reducible show xB _ _ _ (.If _ _ _ _ :: _ :: _) _ _ _)); walk_at "xx"))
local macro_rules | `(tactic| walk_at "xs") => `(tactic| ((fail_if_success (with_reducible show xB _ _ _ (_ :: _) _ _ _)); walk_at "xx"))
set_option hygiene false in
local macro_rules | `(tactic| walk_at "for") => `(tactic| ((with_reducible refine' s_for cx.po cx.calm ?_ ?hs); (case hs => exact fun _ => rfl)))
variable {P : Program} {w : World} {K : PySem.W.Frag} {mg : Str → Option Value} {base : Heap} {T : List (Addr × Str)}
def sp_pick : Sp3 := fun ds G Q _ => ∃ p n c x es, ds = [.raw (.ref p), x] ∧ seqA G x es ∧ G p = some c ∧ PenC n c ∧ n < 1000000 ∧ es ≠ [] ∧ es.length < 1073741824 ∧ (∀ q, x = .raw (.ref q) → q ≠ p) ∧ ∀ y c', PenC (n + 1) c' → y ∈ es → Q y (gset G p c')
theorem lenA {G : Gm} {x : D} {es : List D} (h : seqA G x es) : lenD G x = some es.length := by
  rcases h with rfl | rfl | ⟨p, rfl, h⟩
  · rfl
  · rfl
  · simp only [lenD, h]
section
set_option hygiene false in
local macro_rules | `(tactic| walk_at "Par") => `(tactic| first
  | fail)
set_option hygiene false in
local macro_rules | `(tactic| walk_at "Nam") => `(tactic| first
  | ((with_reducible refine' r_var 0 (x := "pen") ?hN ?hv ?hs ?_); (case hN => exact ⟨rfl, by decide, by decide⟩); (case hv => walk_at "vv"); (case hs => exact rfl))
  | ((with_reducible refine' r_var 1 (x := "items") ?hN ?hv ?hs ?_); (case hN => exact ⟨rfl, by decide, by decide⟩); (case hv => walk_at "vv"); (case hs => exact rfl))
  | ((with_reducible refine' r_defv (x := "_law_draw") ?hm ?hg ?_ ?hd); (case hm => exact Z.g__law_draw); (case hg => first | exact (fun z => z) | exact rfl); (case hd => decide)))
set_option hygiene false in
local macro_rules | `(tactic| walk_at "Cal") => `(tactic| first
  | ((with_reducible refine' r_call (x := "_law_draw") cx ?hF ?hk ?hg ?hm ?_ ?hd ?he ?hp); (case hF => first | exact d__law_draw Z | exact d__law_draw Z TB); (case hk => decide); (case hg => first | exact (fun z => z) | exact (fun z => nomatch z)); (case hm => exact rfl); (case hd => decide); (case he => exact rfl); (case hp => exact rfl))
  | ((with_reducible refine' r_callB (x := "len") (id := "len") call_lenA ?hg ?hm bt_len ?_ ?hn ?hd ?he ?hp); (case hg => exact rfl); (case hm => exact Z.z_len); (case hn => decide); (case hd => decide); (case he => exact rfl); (case hp => exact rfl)))
set_option hygiene false in
local macro_rules | `(tactic| walk_at "Rai") => `(tactic| first
  | fail)
set_option hygiene false in
local macro_rules | `(tactic| walk_at "Aug") => `(tactic| first
  | fail)
set_option hygiene false in
local macro_rules | `(tactic| walk_at "gv") => `(tactic| first
  | ((with_reducible refine' g_name 0 (x := "pen") cx.nd ?hi ?hx ?_ ?hf); (case hi => exact rfl); (case hx => walk_at "ll"); (case hf => first | exact .inl rfl | exact .inr rfl))
  | ((with_reducible refine' g_name 1 (x := "items") cx.nd ?hi ?hx ?_ ?hf); (case hi => exact rfl); (case hx => walk_at "ll"); (case hf => first | exact .inl rfl | exact .inr rfl)))

theorem d__law_pick (Z : Tx K mg) : Def3 P w K mg base T 2 false "_law_pick" ["pen", "items"] sp_pick := by
  obtain ⟨fd, F⟩ := Z.f__law_pick
  refine def_ok F sc__law_pick Z.g__law_pick (fun ds G Q E h => ?_) fun A outer s H E O ds G Q3 E3 cx h => ?_
  · obtain ⟨p, n, c, x, es, rfl, _⟩ := h; rfl
  · obtain ⟨p, n, c, x, es, rfl, hx, gp, hc, hn, h0, h1, hne, q⟩ := h
    have hp := List.length_pos_iff.mpr h0
    walk_at "bb"
    repeat (walk_at "xx")
    refine c_len (lenA hx) ?_
    repeat (walk_at "xx")
    refine ⟨p, _, n, c, rfl, gp, hc, hn, by omega, by omega, fun v c' hc' v0 v1 => ?_⟩
    obtain ⟨y, hy, e⟩ := atI_in es v0 v1
    refine ⟨y, .inl ⟨es, v, ?_, rfl, e⟩, q y c' hc' hy⟩
    rcases hx with rfl | rfl | ⟨p', rfl, h⟩
    · exact .inl rfl
    · exact .inr (.inl rfl)
    · exact .inr (.inr ⟨p', rfl, by rw [gset_ne (hne _ rfl)]; exact h⟩)
end
def sp_lgain : Sp3 := fun ds G Q _ => ∃ a b c d n m, ds = [payD a b c d, .int n, .int m] ∧ (0 ≤ n ∧ n ≤ 99 ∧ 0 ≤ m ∧ m ≤ 99) ∧ Q (.int (gainI a b c d n m)) G
section
set_option hygiene false in
local macro_rules | `(tactic| walk_at "Par") => `(tactic| first
  | fail)
set_option hygiene false in
local macro_rules | `(tactic| walk_at "Nam") => `(tactic| first
  | ((with_reducible refine' r_var 0 (x := "pay") ?hN ?hv ?hs ?_); (case hN => exact ⟨rfl, by decide, by decide⟩); (case hv => walk_at "vv"); (case hs => exact rfl))
  | ((with_reducible refine' r_var 1 (x := "many") ?hN ?hv ?hs ?_); (case hN => exact ⟨rfl, by decide, by decide⟩); (case hv => walk_at "vv"); (case hs => exact rfl))
  | ((with_reducible refine' r_var 2 (x := "m") ?hN ?hv ?hs ?_); (case hN => exact ⟨rfl, by decide, by decide⟩); (case hv => walk_at "vv"); (case hs => exact rfl))
  | ((with_reducible refine' r_var 3 (x := "mine") ?hN ?hv ?hs ?_); (case hN => exact ⟨rfl, by decide, by decide⟩); (case hv => walk_at "vv"); (case hs => exact rfl)))
set_option hygiene false in
local macro_rules | `(tactic| walk_at "Cal") => `(tactic| first
  | fail)
set_option hygiene false in
local macro_rules | `(tactic| walk_at "Rai") => `(tactic| first
  | fail)
set_option hygiene false in
local macro_rules | `(tactic| walk_at "Aug") => `(tactic| first
  | fail)
set_option hygiene false in
local macro_rules | `(tactic| walk_at "gv") => `(tactic| first
  | ((with_reducible refine' g_name 0 (x := "pay") cx.nd ?hi ?hx ?_ ?hf); (case hi => exact rfl); (case hx => walk_at "ll"); (case hf => first | exact .inl rfl | exact .inr rfl))
  | ((with_reducible refine' g_name 1 (x := "many") cx.nd ?hi ?hx ?_ ?hf); (case hi => exact rfl); (case hx => walk_at "ll"); (case hf => first | exact .inl rfl | exact .inr rfl))
  | ((with_reducible refine' g_name 2 (x := "m") cx.nd ?hi ?hx ?_ ?hf); (case hi => exact rfl); (case hx => walk_at "ll"); (case hf => first | exact .inl rfl | exact .inr rfl))
  | ((with_reducible refine' g_name 3 (x := "mine") cx.nd ?hi ?hx ?_ ?hf); (case hi => exact rfl); (case hx => walk_at "ll"); (case hf => first | exact .inl rfl | exact .inr rfl)))

theorem d__law_gain (Z : Tx K mg) : Def3 P w K mg base T 1 false "_law_gain" ["pay", "many", "m"] sp_lgain := by
  obtain ⟨fd, F⟩ := Z.f__law_gain
  refine def_ok F sc__law_gain Z.g__law_gain (fun ds G Q E h => ?_) fun A outer s H E O ds G Q3 E3 cx h => ?_
  · obtain ⟨a, b, c, d, n, m, rfl, _⟩ := h; rfl
  · obtain ⟨a, b, c, d, n, m, rfl, hn, q⟩ := h
    walk_at "bb"
    repeat (first | walk_at "xx" | refine ix_t rfl ?_)
    have e : m * d + (n - 1 - m) * c - m * b - (n - 1 - m) * a = gainI a b c d n m := by
      unfold gainI
      rw [Int.mul_sub, Int.mul_sub]; omega
    rw [e]
    exact q
end
theorem state_all : ((List.range 100).all fun k : Nat => decide (("n" : Str) ++ cutS (("0" : Str) ++ Str.ofString (toString (k : Int))) (some (-2)) none = numS k) && decide ((cutS (("0" : Str) ++ Str.ofString (toString (k : Int))) (some (-2)) none).length ≤ 10)) = true := by decide +kernel
theorem state_eq {n : Int} (h : 0 ≤ n ∧ n ≤ 99) : ("n" : Str) ++ cutS (("0" : Str) ++ Str.ofString (toString n)) (some (-2)) none = numS n ∧ (cutS (("0" : Str) ++ Str.ofString (toString n)) (some (-2)) none).length ≤ 10 := by
  have z := List.all_eq_true.mp state_all n.toNat (List.mem_range.mpr (by omega))
  rw [Bool.and_eq_true_iff, decide_eq_true_eq, decide_eq_true_eq, show ((n.toNat : Nat) : Int) = n from by omega] at z
  exact z
def sp_state : Sp3 := fun ds G Q _ => ∃ n : Int, ds = [.int n] ∧ (0 ≤ n ∧ n ≤ 99) ∧ Q (.str (numS n)) G
section
set_option hygiene false in
local macro_rules | `(tactic| walk_at "Par") => `(tactic| first
  | fail)
set_option hygiene false in
local macro_rules | `(tactic| walk_at "Nam") => `(tactic| first
  | ((with_reducible refine' r_var 0 (x := "n") ?hN ?hv ?hs ?_); (case hN => exact ⟨rfl, by decide, by decide⟩); (case hv => walk_at "vv"); (case hs => exact rfl))
  | ((with_reducible refine' r_bltn (x := "str") (v := .ty "str") ?hg ?hm bt_str ?hr ?_ ?hn ?hd); (case hg => exact rfl); (case hm => exact Z.z_str); (case hr => exact rfl); (case hn => decide); (case hd => decide)))
set_option hygiene false in
local macro_rules | `(tactic| walk_at "Cal") => `(tactic| first
  | ((with_reducible refine' r_callTy (x := "str") (id := "str") call_strI ?hg ?hm bt_str ?_ ?hn ?hd ?he ?hp); (case hg => exact rfl); (case hm => exact Z.z_str); (case hn => decide); (case hd => decide); (case he => exact rfl); (case hp => exact rfl)))
set_option hygiene false in
local macro_rules | `(tactic| walk_at "Rai") => `(tactic| first
  | fail)
set_option hygiene false in
local macro_rules | `(tactic| walk_at "Aug") => `(tactic| first
  | fail)
set_option hygiene false in
local macro_rules | `(tactic| walk_at "gv") => `(tactic| first
  | ((with_reducible refine' g_name 0 (x := "n") cx.nd ?hi ?hx ?_ ?hf); (case hi => exact rfl); (case hx => walk_at "ll"); (case hf => first | exact .inl rfl | exact .inr rfl)))

theorem d__law_state (Z : Tx K mg) : Def3 P w K mg base T 1 false "_law_state" ["n"] sp_state := by
  obtain ⟨fd, F⟩ := Z.f__law_state
  refine def_ok F sc__law_state Z.g__law_state (fun ds G Q E h => ?_) fun A outer s H E O ds G Q3 E3 cx h => ?_
  · obtain ⟨n, rfl, _⟩ := h; rfl
  · obtain ⟨n, rfl, hn, q⟩ := h
    walk_at "bb"
    have hl := len_str (i := n) (by omega)
    have l1 : (Str.ofString "n").length = 1 := rfl
    have l0 : (Str.ofString "0").length = 1 := rfl
    obtain ⟨e, l2⟩ := state_eq hn
    repeat (first | walk_at "xx" | refine ix_t rfl ?_)
    · exact e ▸ q
    · rw [l1, szl]; omega
    · rw [strLen_append, l0, szl]; omega
    · rw [l0, szl]; omega
    · exact lg (by omega)
end
end K58
end
section
set_option maxHeartbeats 4000000
namespace K58
open PySem PySem.Spec PyProof.Rows L2 L3
local macro_rules | `(tactic| walk_at "sc") => `(tactic| first | omega | exact ⟨by omega, by omega⟩ | exact cmul_fmod (by decide) (by decide) | exact .inl ⟨by omega, by omega⟩ | exact .inr ⟨by omega, by omega⟩ | exact ⟨by omega, by omega, by omega⟩)
local macro_rules | `(tactic| walk_at "vv") => `(tactic| first | exact Or.inl rfl | exact Or.inr (Or.inl rfl) | exact Or.inr (Or.inr rfl))
local macro_rules | `(tactic| walk_at "ll") => `(tactic| first | exact Or.inl rfl | exact Or.inr rfl)
set_option hygiene false in
local macro_rules | `(tactic| walk_at "A") => `(tactic| first
  | ((with_reducible refine' a_cons ?_ ?hs); (case hs => exact rfl))
  | (with_reducible refine' a_nil ?_))
set_option hygiene false in
local macro_rules | `(tactic| walk_at "Con") => `(tactic| first
  | (with_reducible refine' r_int ?_)
  | (with_reducible refine' r_str ?_)
  | (with_reducible refine' r_non ?_)
  | (with_reducible refine' r_bl ?_))
set_option hygiene false in
local macro_rules | `(tactic| walk_at "Bin") => `(tactic| first
  | ((with_reducible show xE _ _ _ (.BinOp _ .Add _ _) _ _ _); (with_reducible refine' r_op op_addA ?_))
  | ((with_reducible show xE _ _ _ (.BinOp _ .Sub _ _) _ _ _); (with_reducible refine' r_op op_sub ?_))
  | ((with_reducible show xE _ _ _ (.BinOp _ .Mult _ _) _ _ _); (with_reducible refine' r_op op_mul ?_))
  | ((with_reducible show xE _ _ _ (.BinOp _ .FloorDiv _ _) _ _ _); (with_reducible refine' r_op op_fdivN ?_))
  | ((with_reducible show xE _ _ _ (.BinOp _ .Mod _ _) _ _ _); (with_reducible refine' r_op op_modN ?_))
  | ((with_reducible show xE _ _ _ (.BinOp _ .Pow _ _) _ _ _); (with_reducible refine' r_op op_pow ?_)))
set_option hygiene false in
local macro_rules | `(tactic| walk_at "Cmp") => `(tactic| first
  | ((with_reducible show xE _ _ _ (.Compare _ [.Lt] _ _) _ _ _); (with_reducible refine' r_cmp op_lt ?hm ?_); (case hm => exact rfl))
  | ((with_reducible show xE _ _ _ (.Compare _ [.LtE] _ _) _ _ _); (with_reducible refine' r_cmp op_le ?hm ?_); (case hm => exact rfl))
  | ((with_reducible show xE _ _ _ (.Compare _ [.Gt] _ _) _ _ _); (with_reducible refine' r_cmp op_gt ?hm ?_); (case hm => exact rfl))
  | ((with_reducible show xE _ _ _ (.Compare _ [.GtE] _ _) _ _ _); (with_reducible refine' r_cmp op_ge ?hm ?_); (case hm => exact rfl))
  | ((with_reducible show xE _ _ _ (.Compare _ [.Eq] _ _) _ _ _); (with_reducible refine' r_cmp (op_eqB cx.hu64) ?hm ?_); (case hm => exact rfl))
  | ((with_reducible show xE _ _ _ (.Compare _ [.NotEq] _ _) _ _ _); (with_reducible refine' r_cmp (op_neB cx.hu64) ?hm ?_); (case hm => exact rfl))
  | ((with_reducible show xE _ _ _ (.Compare _ [.Is] _ _) _ _ _); (with_reducible refine' r_cmp op_isN1 ?hm ?_); (case hm => exact rfl))
  | ((with_reducible show xE _ _ _ (.Compare _ [.IsNot] _ _) _ _ _); (with_reducible refine' r_cmp op_notN1 ?hm ?_); (case hm => exact rfl)))
set_option hygiene false in
local macro_rules | `(tactic| walk_at "TCmp") => `(tactic| first
  | ((with_reducible show xT _ _ _ (.Compare _ [.Lt] _ _) _ _ _); (with_reducible refine' t_cmp op_lt ?hm ?_); (case hm => exact rfl))
  | ((with_reducible show xT _ _ _ (.Compare _ [.LtE] _ _) _ _ _); (with_reducible refine' t_cmp op_le ?hm ?_); (case hm => exact rfl))
  | ((with_reducible show xT _ _ _ (.Compare _ [.Gt] _ _) _ _ _); (with_reducible refine' t_cmp op_gt ?hm ?_); (case hm => exact rfl))
  | ((with_reducible show xT _ _ _ (.Compare _ [.GtE] _ _) _ _ _); (with_reducible refine' t_cmp op_ge ?hm ?_); (case hm => exact rfl))
  | ((with_reducible show xT _ _ _ (.Compare _ [.Eq] _ _) _ _ _); (with_reducible refine' t_cmp (op_eqB cx.hu64) ?hm ?_); (case hm => exact rfl))
  | ((with_reducible show xT _ _ _ (.Compare _ [.NotEq] _ _) _ _ _); (with_reducible refine' t_cmp (op_neB cx.hu64) ?hm ?_); (case hm => exact rfl))
  | ((with_reducible show xT _ _ _ (.Compare _ [.Is] _ _) _ _ _); (with_reducible refine' t_cmp op_isN1 ?hm ?_); (case hm => exact rfl))
  | ((with_reducible show xT _ _ _ (.Compare _ [.IsNot] _ _) _ _ _); (with_reducible refine' t_cmp op_notN1 ?hm ?_); (case hm => exact rfl))
  | ((with_reducible show xT _ _ _ (.Compare _ [.LtE, .LtE] _ _) _ _ _); (with_reducible refine' t_chain op_le op_le ?_ ?hl); (case hl => exact rfl))
  | ((with_reducible show xT _ _ _ (.Compare _ [.Lt, .Lt] _ _) _ _ _); (with_reducible refine' t_chain op_lt op_lt ?_ ?hl); (case hl => exact rfl))
  | ((with_reducible show xT _ _ _ (.Compare _ [.LtE, .Lt] _ _) _ _ _); (with_reducible refine' t_chain op_le op_lt ?_ ?hl); (case hl => exact rfl))
  | ((with_reducible show xT _ _ _ (.Compare _ [.Lt, .LtE] _ _) _ _ _); (with_reducible refine' t_chain op_lt op_le ?_ ?hl); (case hl => exact rfl)))
set_option hygiene false in
local macro_rules | `(tactic| walk_at "E") => `(tactic| first
  | ((with_reducible show xE _ _ _ (.Name _ _) _ _ _); walk_at "Nam")
  | ((with_reducible show xE _ _ _ (.Constant _ _ _) _ _ _); walk_at "Con")
  | ((with_reducible show xE _ _ _ (.BinOp _ _ _ _) _ _ _); walk_at "Bin")
  | ((with_reducible show xE _ _ _ (.Call _ _ _ _) _ _ _); walk_at "Cal")
  | ((with_reducible show xE _ _ _ (.Tuple _ _ _) _ _ _); (with_reducible refine' r_tup ?_))
  | ((with_reducible show xE _ _ _ (.Subscript _ (.Slice _ _ _ _) _) _ _ _); (with_reducible refine' r_slice ?_))
  | ((with_reducible show xE _ _ _ (.Subscript _ _ _) _ _ _); (refine r_sub cx.hu ?_))
  | ((with_reducible show xE _ _ _ (.Compare _ _ _ _) _ _ _); walk_at "Cmp")
  | ((with_reducible show xE _ _ _ (.IfExp _ _ _ _) _ _ _); (with_reducible refine' r_if ?_))
  | ((with_reducible show xE _ _ _ (.UnaryOp .USub _ _) _ _ _); (with_reducible refine' r_un un_neg ?_))
  | ((with_reducible show xE _ _ _ (.UnaryOp .Not _ _) _ _ _); (with_reducible refine' r_not ?_))
  | ((with_reducible show xE _ _ _ (.BoolOp .And (_ :: _ :: _) _) _ _ _); (with_reducible refine' r_and ?_))
  | ((with_reducible show xE _ _ _ (.BoolOp .Or (_ :: _ :: _) _) _ _ _); (with_reducible refine' r_or ?_))
  | ((with_reducible show xE _ _ _ (.BoolOp _ [_] _) _ _ _); (with_reducible refine' r_one ?_)))
set_option hygiene false in
local macro_rules | `(tactic| walk_at "T") => `(tactic| first
  | ((with_reducible show xT _ _ _ (.Compare _ _ _ _) _ _ _); walk_at "TCmp")
  | ((with_reducible show xT _ _ _ (.UnaryOp .Not _ _) _ _ _); (with_reducible refine' t_not ?_))
  | ((with_reducible show xT _ _ _ (.BoolOp .And _ _) _ _ _); (with_reducible refine' t_w (t_and ?_)))
  | ((with_reducible show xT _ _ _ (.BoolOp .Or _ _) _ _ _); (with_reducible refine' t_w (t_or ?_)))
  | ((with_reducible show xT _ _ _ (.Call _ _ _ _) _ _ _); (with_reducible refine' t_val ?_ ?he); (case he => intro _; rfl))
  | ((with_reducible show xT _ _ _ (.ListComp _ _ _ _) _ _ _); fail)
  | ((with_reducible show xT _ _ _ (.Name _ _) _ _ _); fail)
  | ((with_reducible refine' t_val ?_ ?he); (case he => intro _; rfl)))
set_option hygiene false in
local macro_rules | `(tactic| walk_at "W") => `(tactic| first
  | (with_reducible refine' t_and ?_)
  | (with_reducible refine' t_or ?_)
  | (with_reducible refine' t_and1 ?_)
  | (with_reducible refine' t_or1 ?_))
set_option hygiene false in
local macro_rules | `(tactic| walk_at "S") => `(tactic| first
  | ((with_reducible show xS _ _ _ (.If _ _ _ _) _ _ _); (with_reducible refine' s_if ?_))
  | ((with_reducible show xS _ _ _ (.Assign [.Tuple [.Name _ _, .Name _ _] _ _] (.Tuple [_, _] _ _) _) _ _ _); walk_at "Par")
  | ((with_reducible show xS _ _ _ (.Assign _ _ _) _ _ _); (with_reducible refine' s_asg ?_ ?hs ?hw ?h1); (case hs => exact rfl); (case hw => exact rfl); (case h1 => exact rfl))
  | ((with_reducible show xS _ _ _ (.Return (some _) _) _ _ _); (with_reducible refine' s_ret ?_))
  | ((with_reducible show xS _ _ _ (.Expr _ _) _ _ _); (with_reducible refine' s_expr ?_ ?hs); (case hs => exact rfl))
  | ((with_reducible show xS _ _ _ (.For _ (.Call _ _ _ _) _ _ _) _ _ _); (with_reducible refine' s_for cx.po cx.calm ?_ ?hs); (case hs => exact fun _ => rfl))
  | ((with_reducible show xS _ _ _ (.Raise _ _ _) _ _ _); walk_at "Rai")
  | ((with_reducible show xS _ _ _ (.AugAssign _ _ _ _) _ _ _); walk_at "Aug")
  | (with_reducible refine' s_pass ?_)
  | (with_reducible refine' s_break ?_)
  | (with_reducible refine' s_cont ?_)
  | (with_reducible refine' s_retN ?_))
set_option hygiene false in
local macro_rules | `(tactic| walk_at "G") => `(tactic| first
  | ((with_reducible show xG _ _ _ (.Name _ _) _ _ _ _); walk_at "gv")
  | ((with_reducible show xG _ _ _ (.Tuple _ _ _) _ _ _ _); (with_reducible refine' g_tup cx.calm ?_ ?hn ?hst); (case hn => exact rfl); (case hst => exact rfl))
  | ((with_reducible show xG _ _ _ (.Subscript _ _ _) _ _ _ _); (refine g_sub cx.hu ?_)))
set_option hygiene false in
local macro_rules | `(tactic| walk_at "Gs") => `(tactic| first
  | ((with_reducible refine' gs_cons ?_ ?hs); (case hs => exact rfl))
  | (with_reducible refine' gs_nil ?_))
set_option hygiene false in
local macro_rules | `(tactic| walk_at "O") => `(tactic| first
  | (with_reducible refine' p_int ?_)
  | (with_reducible refine' o_int0 ?_)
  | (with_reducible refine' o_bl0 ?_)
  | ((with_reducible refine' o_int ?_ ?hc); (case hc => walk_at "sc"))
  | (with_reducible refine' o_int ?_ ?_)
  | (with_reducible refine' e_int ?_)
  | (with_reducible refine' n_int ?_)
  | (with_reducible refine' e_str ?_)
  | (with_reducible refine' n_str ?_)
  | (with_reducible refine' o_isN ?_)
  | (with_reducible refine' o_notN ?_)
  | (with_reducible refine' p_str ?_ ?_))
set_option hygiene false in
local macro_rules | `(tactic| walk_at "C") => `(tactic| first
  | (with_reducible refine' len_t ?_)
  | (with_reducible refine' len_l ?_)
  | (with_reducible refine' c_abs ?_)
  | (with_reducible refine' c_int ?_)
  | (with_reducible refine' c_intB ?_)
  | (with_reducible refine' c_min2 ?_)
  | (with_reducible refine' c_max2 ?_)
  | (with_reducible refine' c_str ?_ ?_))
set_option hygiene false in
local macro_rules | `(tactic| walk_at "S3") => `(tactic| first
  | (with_reducible refine' s_t ?_)
  | (with_reducible refine' s_s ?_ ?_))
set_option hygiene false in
local macro_rules | `(tactic| walk_at "bb") => `(tactic| first
  | (with_reducible refine b_cons ?_)
  | (with_reducible refine b_one ?_)
  | (with_reducible refine b_nil ?_)
  | (refine b_cons ?_)
  | (refine b_one ?_)
  | (refine b_nil ?_))
set_option hygiene false in
local macro_rules | `(tactic| walk_at "I") => `(tactic| first
  | ((with_reducible refine' i_range1 ?hg ?hm ?_ ?hs); (case hg => exact rfl); (case hm => exact Z.z_range); (case hs => exact rfl))
  | ((with_reducible refine' i_range2 ?hg ?hm ?_ ?hs ?hs2); (case hg => exact rfl); (case hm => exact Z.z_range); (case hs => exact rfl); (case hs2 => exact rfl)))
local macro_rules | `(tactic| walk_at "be") => `(tactic| first
  | (with_reducible refine b_cons ?_)
  | (with_reducible refine b_one ?_)
  | (with_reducible refine b_nil ?_))
local macro_rules | `(tactic| walk_at "gl") => `(tactic| (repeat (first | exact gset_same | assumption | (refine Eq.trans (gset_ne ?_) ?_; (first | assumption | (apply Ne.symm; assumption))))))
local macro_rules | `(tactic| walk_at "geq") => `(tactic| (funext q; simp only [gset, gdel]; (repeat' split); all_goals (first | rfl | (exfalso; simp_all; done) | (simp_all; done))))
set_option hygiene false in
local macro_rules | `(tactic| walk_at "M") => `(tactic| first
  | ((with_reducible refine' m_append ?hp ?_ ?_); (case hp => walk_at "gl")))
set_option hygiene false in
local macro_rules | `(tactic| walk_at "xx") => `(tactic| first
  | ((with_reducible show xE _ _ _ _ _ _ _); walk_at "E")
  | ((with_reducible show xA _ _ _ _ _ _ _); walk_at "A")
  | ((with_reducible show O3 _ _ _ _ _ _ _); walk_at "O")
  | ((with_reducible show C3 _ _ _ _ _ _); walk_at "C")
  | ((with_reducible show xS _ _ _ _ _ _ _); walk_at "S")
  | ((with_reducible show xB _ _ _ _ _ _ _); walk_at "be")
  | ((with_reducible show xT _ _ _ _ _ _ _); walk_at "T")
  | ((with_reducible show xW _ _ _ _ _ _ _); walk_at "W")
  | ((with_reducible show xG _ _ _ _ _ _ _ _); walk_at "G")
  | ((with_reducible show xGs _ _ _ _ _ _ _ _); walk_at "Gs")
  | ((with_reducible show U3 _ _ _ _ _ _); (with_reducible refine' u_int ?_))
  | ((with_reducible show S3 _ _ _ _ _ _ _ _); walk_at "S3")
  | ((with_reducible show xI _ _ _ _ _ _ _ _); walk_at "I")
  | ((with_reducible show _ ≤ sizeLine ∧ _); (with_reducible refine' len16 ?hL ?_); (case hL => exact rfl))
  | ((with_reducible show xP _ _ _ (some _) _ _ _); (with_reducible refine' x_some ?_))
  | ((with_reducible show xP _ _ _ none _ _ _); (with_reducible refine' x_no ?_))
  | ((with_reducible show tyM _ _ _ ∧ _); (refine' ⟨.inl ⟨rfl, _, ?hgl⟩, ?_⟩); (case hgl => walk_at "gl"))
  | ((with_reducible show M3 _ _ _ _ _ _ _); walk_at "M")
  | (with_reducible refine' ex_bl ?_)
  | (with_reducible refine' ex_int ?_)
  | (with_reducible refine' ex_str ?_)
  | (with_reducible refine' ex_tup ?_)
  | (with_reducible refine' br_f ?_)
  | (with_reducible refine' br_nt ?_)
  | (with_reducible refine' br_nf ?_)
  | (with_reducible refine' br_t ?_))
local macro_rules | `(tactic| walk_at "sd") => `(tactic| first | decide | omega | exact ⟨by decide, by decide⟩ | exact .inl ⟨by omega, by omega⟩ | exact .inr ⟨by omega, by omega⟩)
local macro_rules | `(tactic| walk_at "xn") => `(tactic| ((fail_if_success (with_reducible show xB _ _ _ (.If _ _ _ _ :: _ :: _) _ _ _)); walk_at "xx"))
local macro_rules | `(tactic| walk_at "xs") => `(tactic| ((fail_if_success (with_reducible show xB _ _ _ (_ :: _) _ _ _)); walk_at "xx"))
set_option hygiene false in
local macro_rules | `(tactic| walk_at "for") => `(tactic| ((with_reducible refine' s_for cx.po cx.calm ?_ ?hs); (case hs => exact fun _ => rfl)))
variable {P : Program} {w : World} {K : PySem.W.Frag} {mg : Str → Option Value} {base : Heap} {T : List (Addr × Str)}
def sp_pay : Sp3 := fun ds G Q _ => ∃ p n c, ds = [.raw (.ref p)] ∧ G p = some c ∧ PenC n c ∧ n < 10000 ∧ ∀ a b c d cc, (a.natAbs < 3000000000 ∧ b.natAbs < 3000000000 ∧ c.natAbs < 3000000000 ∧ d.natAbs < 3000000000) → PenC (n + 6) cc → Q (payD a b c d) (gset G p cc)
section
set_option hygiene false in
local macro_rules | `(tactic| walk_at "Par") => `(tactic| first
  | ((with_reducible refine' s_par 2 4 (x := "a") (y := "c") cx.calm cx.nd ?hi ?hj ?hij ?hx ?hy ?_ ?hw ?hs ?he1 ?he2); (case hi => exact rfl); (case hj => exact rfl); (case hij => decide); (case hx => exact rfl); (case hy => exact rfl); (case hw => exact rfl); (case hs => exact rfl); (case he1 => exact rfl); (case he2 => exact rfl))
  | ((with_reducible refine' s_par 3 5 (x := "b") (y := "d") cx.calm cx.nd ?hi ?hj ?hij ?hx ?hy ?_ ?hw ?hs ?he1 ?he2); (case hi => exact rfl); (case hj => exact rfl); (case hij => decide); (case hx => exact rfl); (case hy => exact rfl); (case hw => exact rfl); (case hs => exact rfl); (case he1 => exact rfl); (case he2 => exact rfl)))
set_option hygiene false in
local macro_rules | `(tactic| walk_at "Nam") => `(tactic| first
  | ((with_reducible refine' r_var 0 (x := "pen") ?hN ?hv ?hs ?_); (case hN => exact ⟨rfl, by decide, by decide⟩); (case hv => walk_at "vv"); (case hs => exact rfl))
  | ((with_reducible refine' r_var 1 (x := "wide") ?hN ?hv ?hs ?_); (case hN => exact ⟨rfl, by decide, by decide⟩); (case hv => walk_at "vv"); (case hs => exact rfl))
  | ((with_reducible refine' r_var 2 (x := "a") ?hN ?hv ?hs ?_); (case hN => exact ⟨rfl, by decide, by decide⟩); (case hv => walk_at "vv"); (case hs => exact rfl))
  | ((with_reducible refine' r_var 3 (x := "b") ?hN ?hv ?hs ?_); (case hN => exact ⟨rfl, by decide, by decide⟩); (case hv => walk_at "vv"); (case hs => exact rfl))
  | ((with_reducible refine' r_var 4 (x := "c") ?hN ?hv ?hs ?_); (case hN => exact ⟨rfl, by decide, by decide⟩); (case hv => walk_at "vv"); (case hs => exact rfl))
  | ((with_reducible refine' r_var 5 (x := "d") ?hN ?hv ?hs ?_); (case hN => exact ⟨rfl, by decide, by decide⟩); (case hv => walk_at "vv"); (case hs => exact rfl))
  | ((with_reducible refine' r_defv (x := "_law_pick") ?hm ?hg ?_ ?hd); (case hm => exact Z.g__law_pick); (case hg => first | exact (fun z => z) | exact rfl); (case hd => decide))
  | ((with_reducible refine' r_defv (x := "_law_draw") ?hm ?hg ?_ ?hd); (case hm => exact Z.g__law_draw); (case hg => first | exact (fun z => z) | exact rfl); (case hd => decide))
  | ((with_reducible refine' r_bltn (x := "int") (v := .ty "int") ?hg ?hm bt_int ?hr ?_ ?hn ?hd); (case hg => exact rfl); (case hm => exact Z.z_int); (case hr => exact rfl); (case hn => decide); (case hd => decide)))
set_option hygiene false in
local macro_rules | `(tactic| walk_at "Cal") => `(tactic| first
  | ((with_reducible refine' r_call (x := "_law_pick") cx ?hF ?hk ?hg ?hm ?_ ?hd ?he ?hp); (case hF => first | exact d__law_pick Z | exact d__law_pick Z TB); (case hk => decide); (case hg => first | exact (fun z => z) | exact (fun z => nomatch z)); (case hm => exact rfl); (case hd => decide); (case he => exact rfl); (case hp => exact rfl))
  | ((with_reducible refine' r_call (x := "_law_draw") cx ?hF ?hk ?hg ?hm ?_ ?hd ?he ?hp); (case hF => first | exact d__law_draw Z | exact d__law_draw Z TB); (case hk => decide); (case hg => first | exact (fun z => z) | exact (fun z => nomatch z)); (case hm => exact rfl); (case hd => decide); (case he => exact rfl); (case hp => exact rfl))
  | ((with_reducible refine' r_callB (x := "min") (id := "min") (call_minA cx.calm) ?hg ?hm bt_min ?_ ?hn ?hd ?he ?hp); (case hg => exact rfl); (case hm => exact Z.z_min); (case hn => decide); (case hd => decide); (case he => exact rfl); (case hp => exact rfl))
  | ((with_reducible refine' r_callB (x := "max") (id := "max") (call_maxA cx.calm) ?hg ?hm bt_max ?_ ?hn ?hd ?he ?hp); (case hg => exact rfl); (case hm => exact Z.z_max); (case hn => decide); (case hd => decide); (case he => exact rfl); (case hp => exact rfl))
  | ((with_reducible refine' r_callTy (x := "int") (id := "int") call_int ?hg ?hm bt_int ?_ ?hn ?hd ?he ?hp); (case hg => exact rfl); (case hm => exact Z.z_int); (case hn => decide); (case hd => decide); (case he => exact rfl); (case hp => exact rfl)))
set_option hygiene false in
local macro_rules | `(tactic| walk_at "Rai") => `(tactic| first
  | fail)
set_option hygiene false in
local macro_rules | `(tactic| walk_at "Aug") => `(tactic| first
  | fail)
set_option hygiene false in
local macro_rules | `(tactic| walk_at "gv") => `(tactic| first
  | ((with_reducible refine' g_name 0 (x := "pen") cx.nd ?hi ?hx ?_ ?hf); (case hi => exact rfl); (case hx => walk_at "ll"); (case hf => first | exact .inl rfl | exact .inr rfl))
  | ((with_reducible refine' g_name 1 (x := "wide") cx.nd ?hi ?hx ?_ ?hf); (case hi => exact rfl); (case hx => walk_at "ll"); (case hf => first | exact .inl rfl | exact .inr rfl))
  | ((with_reducible refine' g_name 2 (x := "a") cx.nd ?hi ?hx ?_ ?hf); (case hi => exact rfl); (case hx => walk_at "ll"); (case hf => first | exact .inl rfl | exact .inr rfl))
  | ((with_reducible refine' g_name 3 (x := "b") cx.nd ?hi ?hx ?_ ?hf); (case hi => exact rfl); (case hx => walk_at "ll"); (case hf => first | exact .inl rfl | exact .inr rfl))
  | ((with_reducible refine' g_name 4 (x := "c") cx.nd ?hi ?hx ?_ ?hf); (case hi => exact rfl); (case hx => walk_at "ll"); (case hf => first | exact .inl rfl | exact .inr rfl))
  | ((with_reducible refine' g_name 5 (x := "d") cx.nd ?hi ?hx ?_ ?hf); (case hi => exact rfl); (case hx => walk_at "ll"); (case hf => first | exact .inl rfl | exact .inr rfl))
  | ((with_reducible refine' g_name 6 (x := "lap") cx.nd ?hi ?hx ?_ ?hf); (case hi => exact rfl); (case hx => walk_at "ll"); (case hf => first | exact .inl rfl | exact .inr rfl)))
set_option hygiene false in
local macro_rules | `(tactic| walk_at "cv") => `(tactic| first
  | ((with_reducible refine' r_lc (own := [("lap", 6)]) (tg := .Name "lap" _) cx.calm cx.nd ?hok (tg_name 6 (by decide)) ?hg ?_ ?hs); (case hok => exact blkOk_by (N := ["pen", "wide", "a", "b", "c", "d", "lap"]) (sc := defScope s__law_pay) (by decide +kernel)); (case hg => exact fun _ _ _ _ _ => pg_name (i := 6) cx.nd rfl (Or.inl rfl)); (case hs => exact fun _ => rfl)))
set_option hygiene false in
local macro_rules | `(tactic| walk_at "cvO") => `(tactic| first
  | ((with_reducible refine' r_lcO (own := [("lap", 6)]) (tg := .Name "lap" _) cx.calm cx.nd ?hok (tg_name 6 (by decide)) ?hg ?_ ?hs); (case hok => exact blkOk_by (N := ["pen", "wide", "a", "b", "c", "d", "lap"]) (sc := defScope s__law_pay) (by decide +kernel)); (case hg => exact fun _ _ _ _ _ => pg_name (i := 6) cx.nd rfl (Or.inl rfl)); (case hs => exact fun _ => rfl)))

theorem d__law_pay (Z : Tx K mg) : Def3 P w K mg base T 3 false "_law_pay" ["pen"] sp_pay := by
  obtain ⟨fd, F⟩ := Z.f__law_pay
  refine def_ok F sc__law_pay Z.g__law_pay (fun ds G Q E h => ?_) fun A outer s H E O ds G Q3 E3 cx h => ?_
  · obtain ⟨p, n, c, rfl, _⟩ := h; rfl
  · obtain ⟨p, n, c, rfl, gp, hc, hn, q⟩ := h
    walk_at "bb"
    repeat (walk_at "xx")
    refine r_lst ?_
    repeat (walk_at "xx")
    refine ⟨p, n, c, _, _, rfl, .inr (.inl rfl), gp, hc, by omega, (fun z => nomatch z), (by decide), (fun _ z => nomatch z), fun y c1 hc1 hy => ?_⟩
    obtain ⟨wide, rfl, hw⟩ : ∃ wide : Int, y = .int wide ∧ 2 ≤ wide ∧ wide ≤ 1000000000 := by
      simp only [List.mem_cons, List.not_mem_nil, or_false] at hy
      rcases hy with rfl | rfl | rfl | rfl
      · exact ⟨_, rfl, by decide, by decide⟩
      · exact ⟨_, rfl, by decide, by decide⟩
      · exact ⟨_, rfl, by decide, by decide⟩
      · exact ⟨_, rfl, by decide, by decide⟩
    repeat (walk_at "xx")
    walk_at "cv"
    repeat (walk_at "xx")
    refine ⟨by decide, by decide, ?_⟩
    refine lc_invX cx (fun i acc G' => i ≤ 4 ∧ ∃ (ns : List Int) (c' : Cell), G' = gset G p c' ∧ PenC (n + 1 + i) c' ∧ acc = ns.map .int ∧ ns.length = i ∧ ∀ x ∈ ns, x.natAbs < 1000000001) (by rw [rangeD_length, szl]; decide) ⟨by decide, [], c1, rfl, hc1, rfl, rfl, fun _ z => nomatch z⟩ (fun _ _ _ _ _ _ _ => trivial) (fun i x acc G' hx hp => ?_) (fun acc G' hp => ?_)
    · obtain ⟨hi, ns, c', rfl, hc', rfl, hl, hb⟩ := hp
      obtain ⟨hi4, rfl⟩ := rangeD_get hx
      have hi4 : i < 4 := hi4
      refine ⟨_, rfl, fun A1 h1 g1 s1 H1 Cc cl fp cx => ?_⟩
      have ne : p ≠ A1 := fun z => by rw [← z, gset_same] at g1; cases g1
      repeat (walk_at "xx")
      refine ⟨p, wide, n + 1 + i, c', rfl, by rw [gset_ne ne, gset_same], hc', by omega, by omega, by omega, fun v c2 hc2 v0 v1 => ?_⟩
      repeat (walk_at "xx")
      have e2 : wide.fdiv 2 = wide / 2 := by rw [Int.fdiv_eq_ediv_of_nonneg _ (by decide)]
      refine ⟨gset G p c2, by rw [gset_comm ne.symm, gset_gset], ?_, by omega, ns ++ [v - wide.fdiv 2], c2, rfl, hc2, by rw [List.map_append]; rfl, by rw [List.length_append, hl]; rfl, fun x hx => ?_⟩
      · rw [gset_ne ne.symm] at g1 ⊢; exact g1
      · rcases List.mem_append.mp hx with hx | hx
        · exact hb x hx
        · rw [List.mem_singleton] at hx; subst hx; rw [e2]; omega
    · obtain ⟨_, ns, c', rfl, hc', rfl, hl, hb⟩ := hp
      match ns, hl with
      | [a, b, c, d], _ =>
      have ha := hb a (by simp)
      have hbb := hb b (by simp)
      have hcc := hb c (by simp)
      have hd := hb d (by simp)
      refine g_unl cx.calm (.inl rfl) ?_
      show xGs _ _ _ _ [.int a, .int b, .int c, .int d] _ _ _
      repeat (walk_at "xx")
      refine ⟨p, 2, _, c', rfl, gset_same, hc', by rw [rangeD_length]; show _ + 4 < _; omega, by decide, by decide, fun v c2 hc2 v0 v1 => ?_⟩
      rw [gset_gset]
      have hc2 : PenC (n + 6) c2 := hc2
      repeat (walk_at "xx")
      refine br_d (fun e => ?_) (fun e => ?_)
      · repeat (walk_at "xx")
        refine q _ _ _ _ c2 ⟨?_, ?_, ?_, ?_⟩ hc2
        · split <;> split <;> omega
        · split <;> split <;> omega
        · split <;> omega
        · split <;> omega
      · repeat (walk_at "xx")
        exact q a b c d c2 ⟨by omega, by omega, by omega, by omega⟩ hc2
end
end K58
end
section
set_option maxHeartbeats 4000000
namespace K58
open PySem PySem.Spec PyProof.Rows L2 L3
theorem comb_all : ((List.range 61).all fun n => (List.range n).all fun k => decide (PySem.W.mcComb (n : Int) (k : Int) * ((n : Int) - k) = PySem.W.mcComb (n : Int) ((k : Int) + 1) * ((k : Int) + 1))) = true := by decide +kernel
theorem comb_step {n k : Int} (h0 : 0 ≤ k) (h1 : k < n) (h2 : n ≤ 60) : PySem.W.mcComb n k * (n - k) = PySem.W.mcComb n (k + 1) * (k + 1) := by
  have a := List.all_eq_true.mp comb_all n.toNat (List.mem_range.mpr (by omega))
  have b := of_decide_eq_true (List.all_eq_true.mp a k.toNat (List.mem_range.mpr (by omega)))
  rw [show ((n.toNat : Nat) : Int) = n by omega, show ((k.toNat : Nat) : Int) = k by omega] at b
  exact b
theorem comb_next {n k : Int} (h0 : 0 ≤ k) (h1 : k < n) (h2 : n ≤ 60) : (PySem.W.mcComb n k * (n - k)).fdiv (k + 1) = PySem.W.mcComb n (k + 1) := by
  rw [comb_step h0 h1 h2, Int.mul_fdiv_cancel _ (by omega)]
theorem comb_zero {n : Int} (h : 0 ≤ n) : PySem.W.mcComb n 0 = 1 := PySem.W.mcComb_ends (by decide) h (.inl rfl)
theorem comb_pos {n k : Int} (h0 : 0 ≤ k) (h1 : k ≤ n) : 1 ≤ PySem.W.mcComb n k := PySem.W.mcComb_pos h0 h1
theorem comb_le {n : Int} (hn : 0 ≤ n) (h2 : n ≤ 60) : ∀ k : Nat, (k : Int) ≤ n → PySem.W.mcComb n k ≤ 60 ^ k
  | 0, _ => by rw [show ((0 : Nat) : Int) = 0 from rfl, comb_zero hn]; decide
  | k + 1, h => by
    have ih := comb_le hn h2 k (by omega)
    have e := comb_step (n := n) (k := (k : Int)) (by omega) (by omega) h2
    have p := comb_pos (n := n) (k := (k : Int)) (by omega) (by omega)
    have p1 := comb_pos (n := n) (k := ((k + 1 : Nat) : Int)) (by omega) h
    rw [show ((k : Int) + 1) = ((k + 1 : Nat) : Int) by omega] at e
    have a1 : PySem.W.mcComb n ((k + 1 : Nat) : Int) * 1 ≤ PySem.W.mcComb n ((k + 1 : Nat) : Int) * ((k + 1 : Nat) : Int) := Int.mul_le_mul_of_nonneg_left (by omega) (by omega)
    have a2 : PySem.W.mcComb n k * (n - k) ≤ PySem.W.mcComb n k * 60 := Int.mul_le_mul_of_nonneg_left (by omega) (by omega)
    have a3 : PySem.W.mcComb n k * 60 ≤ 60 ^ k * 60 := Int.mul_le_mul_of_nonneg_right ih (by decide)
    rw [Int.pow_succ]
    omega
theorem comb_lt {n k : Int} (h0 : 0 ≤ k) (h1 : k ≤ n) (h2 : n ≤ 60) : PySem.W.mcComb n k < 2 ^ 400 := by
  have a := comb_le (n := n) (by omega) h2 k.toNat (by omega)
  rw [show ((k.toNat : Nat) : Int) = k by omega] at a
  have b : (60 : Int) ^ k.toNat ≤ 60 ^ 60 := by
    have z := Nat.pow_le_pow_right (n := 60) (by decide) (show k.toNat ≤ 60 by omega)
    exact_mod_cast z
  have c : (60 : Int) ^ 60 < 2 ^ 400 := by decide
  omega
end K58
end
section
set_option maxHeartbeats 4000000
namespace K58
open PySem PySem.Spec PyProof.Rows L2 L3
local macro_rules | `(tactic| walk_at "sc") => `(tactic| first | omega | exact ⟨by omega, by omega⟩ | exact cmul_fmod (by decide) (by decide) | exact .inl ⟨by omega, by omega⟩ | exact .inr ⟨by omega, by omega⟩ | exact ⟨by omega, by omega, by omega⟩)
local macro_rules | `(tactic| walk_at "vv") => `(tactic| first | exact Or.inl rfl | exact Or.inr (Or.inl rfl) | exact Or.inr (Or.inr rfl))
local macro_rules | `(tactic| walk_at "ll") => `(tactic| first | exact Or.inl rfl | exact Or.inr rfl)
set_option hygiene false in
local macro_rules | `(tactic| walk_at "A") => `(tactic| first
  | ((with_reducible refine' a_cons ?_ ?hs); (case hs => exact rfl))
  | (with_reducible refine' a_nil ?_))
set_option hygiene false in
local macro_rules | `(tactic| walk_at "Con") => `(tactic| first
  | (with_reducible refine' r_int ?_)
  | (with_reducible refine' r_str ?_)
  | (with_reducible refine' r_non ?_)
  | (with_reducible refine' r_bl ?_))
set_option hygiene false in
local macro_rules | `(tactic| walk_at "Bin") => `(tactic| first
  | ((with_reducible show xE _ _ _ (.BinOp _ .Add _ _) _ _ _); (with_reducible refine' r_op op_addA ?_))
  | ((with_reducible show xE _ _ _ (.BinOp _ .Sub _ _) _ _ _); (with_reducible refine' r_op op_sub ?_))
  | ((with_reducible show xE _ _ _ (.BinOp _ .Mult _ _) _ _ _); (with_reducible refine' r_op op_mul ?_))
  | ((with_reducible show xE _ _ _ (.BinOp _ .FloorDiv _ _) _ _ _); (with_reducible refine' r_op op_fdivN ?_))
  | ((with_reducible show xE _ _ _ (.BinOp _ .Mod _ _) _ _ _); (with_reducible refine' r_op op_modN ?_))
  | ((with_reducible show xE _ _ _ (.BinOp _ .Pow _ _) _ _ _); (with_reducible refine' r_op op_pow ?_)))
set_option hygiene false in
local macro_rules | `(tactic| walk_at "Cmp") => `(tactic| first
  | ((with_reducible show xE _ _ _ (.Compare _ [.Lt] _ _) _ _ _); (with_reducible refine' r_cmp op_lt ?hm ?_); (case hm => exact rfl))
  | ((with_reducible show xE _ _ _ (.Compare _ [.LtE] _ _) _ _ _); (with_reducible refine' r_cmp op_le ?hm ?_); (case hm => exact rfl))
  | ((with_reducible show xE _ _ _ (.Compare _ [.Gt] _ _) _ _ _); (with_reducible refine' r_cmp op_gt ?hm ?_); (case hm => exact rfl))
  | ((with_reducible show xE _ _ _ (.Compare _ [.GtE] _ _) _ _ _); (with_reducible refine' r_cmp op_ge ?hm ?_); (case hm => exact rfl))
  | ((with_reducible show xE _ _ _ (.Compare _ [.Eq] _ _) _ _ _); (with_reducible refine' r_cmp (op_eqB cx.hu64) ?hm ?_); (case hm => exact rfl))
  | ((with_reducible show xE _ _ _ (.Compare _ [.NotEq] _ _) _ _ _); (with_reducible refine' r_cmp (op_neB cx.hu64) ?hm ?_); (case hm => exact rfl))
  | ((with_reducible show xE _ _ _ (.Compare _ [.Is] _ _) _ _ _); (with_reducible refine' r_cmp op_isN1 ?hm ?_); (case hm => exact rfl))
  | ((with_reducible show xE _ _ _ (.Compare _ [.IsNot] _ _) _ _ _); (with_reducible refine' r_cmp op_notN1 ?hm ?_); (case hm => exact rfl)))
set_option hygiene false in
local macro_rules | `(tactic| walk_at "TCmp") => `(tactic| first
  | ((with_reducible show xT _ _ _ (.Compare _ [.Lt] _ _) _ _ _); (with_reducible refine' t_cmp op_lt ?hm ?_); (case hm => exact rfl))
  | ((with_reducible show xT _ _ _ (.Compare _ [.LtE] _ _) _ _ _); (with_reducible refine' t_cmp op_le ?hm ?_); (case hm => exact rfl))
  | ((with_reducible show xT _ _ _ (.Compare _ [.Gt] _ _) _ _ _); (with_reducible refine' t_cmp op_gt ?hm ?_); (case hm => exact rfl))
  | ((with_reducible show xT _ _ _ (.Compare _ [.GtE] _ _) _ _ _); (with_reducible refine' t_cmp op_ge ?hm ?_); (case hm => exact rfl))
  | ((with_reducible show xT _ _ _ (.Compare _ [.Eq] _ _) _ _ _); (with_reducible refine' t_cmp (op_eqB cx.hu64) ?hm ?_); (case hm => exact rfl))
  | ((with_reducible show xT _ _ _ (.Compare _ [.NotEq] _ _) _ _ _); (with_reducible refine' t_cmp (op_neB cx.hu64) ?hm ?_); (case hm => exact rfl))
  | ((with_reducible show xT _ _ _ (.Compare _ [.Is] _ _) _ _ _); (with_reducible refine' t_cmp op_isN1 ?hm ?_); (case hm => exact rfl))
  | ((with_reducible show xT _ _ _ (.Compare _ [.IsNot] _ _) _ _ _); (with_reducible refine' t_cmp op_notN1 ?hm ?_); (case hm => exact rfl))
  | ((with_reducible show xT _ _ _ (.Compare _ [.LtE, .LtE] _ _) _ _ _); (with_reducible refine' t_chain op_le op_le ?_ ?hl); (case hl => exact rfl))
  | ((with_reducible show xT _ _ _ (.Compare _ [.Lt, .Lt] _ _) _ _ _); (with_reducible refine' t_chain op_lt op_lt ?_ ?hl); (case hl => exact rfl))
  | ((with_reducible show xT _ _ _ (.Compare _ [.LtE, .Lt] _ _) _ _ _); (with_reducible refine' t_chain op_le op_lt ?_ ?hl); (case hl => exact rfl))
  | ((with_reducible show xT _ _ _ (.Compare _ [.Lt, .LtE] _ _) _ _ _); (with_reducible refine' t_chain op_lt op_le ?_ ?hl); (case hl => exact rfl)))
set_option hygiene false in
local macro_rules | `(tactic| walk_at "E") => `(tactic| first
  | ((with_reducible show xE _ _ _ (.Name _ _) _ _ _); walk_at "Nam")
  | ((with_reducible show xE _ _ _ (.Constant _ _ _) _ _ _); walk_at "Con")
  | ((with_reducible show xE _ _ _ (.BinOp _ _ _ _) _ _ _); walk_at "Bin")
  | ((with_reducible show xE _ _ _ (.Call _ _ _ _) _ _ _); walk_at "Cal")
  | ((with_reducible show xE _ _ _ (.Tuple _ _ _) _ _ _); (with_reducible refine' r_tup ?_))
  | ((with_reducible show xE _ _ _ (.Subscript _ (.Slice _ _ _ _) _) _ _ _); (with_reducible refine' r_slice ?_))
  | ((with_reducible show xE _ _ _ (.Subscript _ _ _) _ _ _); (refine r_sub cx.hu ?_))
  | ((with_reducible show xE _ _ _ (.Compare _ _ _ _) _ _ _); walk_at "Cmp")
  | ((with_reducible show xE _ _ _ (.IfExp _ _ _ _) _ _ _); (with_reducible refine' r_if ?_))
  | ((with_reducible show xE _ _ _ (.UnaryOp .USub _ _) _ _ _); (with_reducible refine' r_un un_neg ?_))
  | ((with_reducible show xE _ _ _ (.UnaryOp .Not _ _) _ _ _); (with_reducible refine' r_not ?_))
  | ((with_reducible show xE _ _ _ (.BoolOp .And (_ :: _ :: _) _) _ _ _); (with_reducible refine' r_and ?_))
  | ((with_reducible show xE _ _ _ (.BoolOp .Or (_ :: _ :: _) _) _ _ _); (with_reducible refine' r_or ?_))
  | ((with_reducible show xE _ _ _ (.BoolOp _ [_] _) _ _ _); (with_reducible refine' r_one ?_)))
set_option hygiene false in
local macro_rules | `(tactic| walk_at "T") => `(tactic| first
  | ((with_reducible show xT _ _ _ (.Compare _ _ _ _) _ _ _); walk_at "TCmp")
  | ((with_reducible show xT _ _ _ (.UnaryOp .Not _ _) _ _ _); (with_reducible refine' t_not ?_))
  | ((with_reducible show xT _ _ _ (.BoolOp .And _ _) _ _ _); (with_reducible refine' t_w (t_and ?_)))
  | ((with_reducible show xT _ _ _ (.BoolOp .Or _ _) _ _ _); (with_reducible refine' t_w (t_or ?_)))
  | ((with_reducible show xT _ _ _ (.Call _ _ _ _) _ _ _); (with_reducible refine' t_val ?_ ?he); (case he => intro _; rfl))
  | ((with_reducible show xT _ _ _ (.ListComp _ _ _ _) _ _ _); fail)
  | ((with_reducible show xT _ _ _ (.Name _ _) _ _ _); fail)
  | ((with_reducible refine' t_val ?_ ?he); (case he => intro _; rfl)))
set_option hygiene false in
local macro_rules | `(tactic| walk_at "W") => `(tactic| first
  | (with_reducible refine' t_and ?_)
  | (with_reducible refine' t_or ?_)
  | (with_reducible refine' t_and1 ?_)
  | (with_reducible refine' t_or1 ?_))
set_option hygiene false in
local macro_rules | `(tactic| walk_at "S") => `(tactic| first
  | ((with_reducible show xS _ _ _ (.If _ _ _ _) _ _ _); (with_reducible refine' s_if ?_))
  | ((with_reducible show xS _ _ _ (.Assign [.Tuple [.Name _ _, .Name _ _] _ _] (.Tuple [_, _] _ _) _) _ _ _); walk_at "Par")
  | ((with_reducible show xS _ _ _ (.Assign _ _ _) _ _ _); (with_reducible refine' s_asg ?_ ?hs ?hw ?h1); (case hs => exact rfl); (case hw => exact rfl); (case h1 => exact rfl))
  | ((with_reducible show xS _ _ _ (.Return (some _) _) _ _ _); (with_reducible refine' s_ret ?_))
  | ((with_reducible show xS _ _ _ (.Expr _ _) _ _ _); (with_reducible refine' s_expr ?_ ?hs); (case hs => exact rfl))
  | ((with_reducible show xS _ _ _ (.For _ (.Call _ _ _ _) _ _ _) _ _ _); (with_reducible refine' s_for cx.po cx.calm ?_ ?hs); (case hs => exact fun _ => rfl))
  | ((with_reducible show xS _ _ _ (.Raise _ _ _) _ _ _); walk_at "Rai")
  | ((with_reducible show xS _ _ _ (.AugAssign _ _ _ _) _ _ _); walk_at "Aug")
  | (with_reducible refine' s_pass ?_)
  | (with_reducible refine' s_break ?_)
  | (with_reducible refine' s_cont ?_)
  | (with_reducible refine' s_retN ?_))
set_option hygiene false in
local macro_rules | `(tactic| walk_at "G") => `(tactic| first
  | ((with_reducible show xG _ _ _ (.Name _ _) _ _ _ _); walk_at "gv")
  | ((with_reducible show xG _ _ _ (.Tuple _ _ _) _ _ _ _); (with_reducible refine' g_tup cx.calm ?_ ?hn ?hst); (case hn => exact rfl); (case hst => exact rfl))
  | ((with_reducible show xG _ _ _ (.Subscript _ _ _) _ _ _ _); (refine g_sub cx.hu ?_)))
set_option hygiene false in
local macro_rules | `(tactic| walk_at "Gs") => `(tactic| first
  | ((with_reducible refine' gs_cons ?_ ?hs); (case hs => exact rfl))
  | (with_reducible refine' gs_nil ?_))
set_option hygiene false in
local macro_rules | `(tactic| walk_at "O") => `(tactic| first
  | (with_reducible refine' p_int ?_)
  | (with_reducible refine' o_int0 ?_)
  | (with_reducible refine' o_bl0 ?_)
  | ((with_reducible refine' o_int ?_ ?hc); (case hc => walk_at "sc"))
  | (with_reducible refine' o_int ?_ ?_)
  | (with_reducible refine' e_int ?_)
  | (with_reducible refine' n_int ?_)
  | (with_reducible refine' e_str ?_)
  | (with_reducible refine' n_str ?_)
  | (with_reducible refine' o_isN ?_)
  | (with_reducible refine' o_notN ?_)
  | (with_reducible refine' p_str ?_ ?_))
set_option hygiene false in
local macro_rules | `(tactic| walk_at "C") => `(tactic| first
  | (with_reducible refine' len_t ?_)
  | (with_reducible refine' len_l ?_)
  | (with_reducible refine' c_abs ?_)
  | (with_reducible refine' c_int ?_)
  | (with_reducible refine' c_intB ?_)
  | (with_reducible refine' c_min2 ?_)
  | (with_reducible refine' c_max2 ?_)
  | (with_reducible refine' c_str ?_ ?_))
set_option hygiene false in
local macro_rules | `(tactic| walk_at "S3") => `(tactic| first
  | (with_reducible refine' s_t ?_)
  | (with_reducible refine' s_s ?_ ?_))
set_option hygiene false in
local macro_rules | `(tactic| walk_at "bb") => `(tactic| first
  | (with_reducible refine b_cons ?_)
  | (with_reducible refine b_one ?_)
  | (with_reducible refine b_nil ?_)
  | (refine b_cons ?_)
  | (refine b_one ?_)
  | (refine b_nil ?_))
set_option hygiene false in
local macro_rules | `(tactic| walk_at "I") => `(tactic| first
  | ((with_reducible refine' i_range1 ?hg ?hm ?_ ?hs); (case hg => exact rfl); (case hm => exact Z.z_range); (case hs => exact rfl))
  | ((with_reducible refine' i_range2 ?hg ?hm ?_ ?hs ?hs2); (case hg => exact rfl); (case hm => exact Z.z_range); (case hs => exact rfl); (case hs2 => exact rfl)))
local macro_rules | `(tactic| walk_at "be") => `(tactic| first
  | (with_reducible refine b_cons ?_)
  | (with_reducible refine b_one ?_)
  | (with_reducible refine b_nil ?_))
local macro_rules | `(tactic| walk_at "gl") => `(tactic| (repeat (first | exact gset_same | assumption | (refine Eq.trans (gset_ne ?_) ?_; (first | assumption | (apply Ne.symm; assumption))))))
local macro_rules | `(tactic| walk_at "geq") => `(tactic| (funext q; simp only [gset, gdel]; (repeat' split); all_goals (first | rfl | (exfalso; simp_all; done) | (simp_all; done))))
set_option hygiene false in
local macro_rules | `(tactic| walk_at "M") => `(tactic| first
  | ((with_reducible refine' m_append ?hp ?_ ?_); (case hp => walk_at "gl")))
set_option hygiene false in
local macro_rules | `(tactic| walk_at "xx") => `(tactic| first
  | ((with_reducible show xE _ _ _ _ _ _ _); walk_at "E")
  | ((with_reducible show xA _ _ _ _ _ _ _); walk_at "A")
  | ((with_reducible show O3 _ _ _ _ _ _ _); walk_at "O")
  | ((with_reducible show C3 _ _ _ _ _ _); walk_at "C")
  | ((with_reducible show xS _ _ _ _ _ _ _); walk_at "S")
  | ((with_reducible show xB _ _ _ _ _ _ _); walk_at "be")
  | ((with_reducible show xT _ _ _ _ _ _ _); walk_at "T")
  | ((with_reducible show xW _ _ _ _ _ _ _); walk_at "W")
  | ((with_reducible show xG _ _ _ _ _ _ _ _); walk_at "G")
  | ((with_reducible show xGs _ _ _ _ _ _ _ _); walk_at "Gs")
  | ((with_reducible show U3 _ _ _ _ _ _); (with_reducible refine' u_int ?_))
  | ((with_reducible show S3 _ _ _ _ _ _ _ _); walk_at "S3")
  | ((with_reducible show xI _ _ _ _ _ _ _ _); walk_at "I")
  | ((with_reducible show _ ≤ sizeLine ∧ _); (with_reducible refine' len16 ?hL ?_); (case hL => exact rfl))
  | ((with_reducible show xP _ _ _ (some _) _ _ _); (with_reducible refine' x_some ?_))
  | ((with_reducible show xP _ _ _ none _ _ _); (with_reducible refine' x_no ?_))
  | ((with_reducible show tyM _ _ _ ∧ _); (refine' ⟨.inl ⟨rfl, _, ?hgl⟩, ?_⟩); (case hgl => walk_at "gl"))
  | ((with_reducible show M3 _ _ _ _ _ _ _); walk_at "M")
  | (with_reducible refine' ex_bl ?_)
  | (with_reducible refine' ex_int ?_)
  | (with_reducible refine' ex_str ?_)
  | (with_reducible refine' ex_tup ?_)
  | (with_reducible refine' br_f ?_)
  | (with_reducible refine' br_nt ?_)
  | (with_reducible refine' br_nf ?_)
  | (with_reducible refine' br_t ?_))
local macro_rules | `(tactic| walk_at "sd") => `(tactic| first | decide | omega | exact ⟨by decide, by decide⟩ | exact .inl ⟨by omega, by omega⟩ | exact .inr ⟨by omega, by omega⟩)
local macro_rules | `(tactic| walk_at "xn") => `(tactic| ((fail_if_success (with_reducible show xB _ _ _ (.If _ _ _ _ :: _ :: _) _ _ _)); walk_at "xx"))
local macro_rules | `(tactic| walk_at "xs") => `(tactic| ((fail_if_success (with_reducible show xB _ _ _ (_ :: _) _ _ _)); walk_at "xx"))
set_option hygiene false in
local macro_rules | `(tactic| walk_at "for") => `(tactic| ((with_reducible refine' s_for cx.po cx.calm ?_ ?hs); (case hs => exact fun _ => rfl)))
variable {P : Program} {w : World} {K : PySem.W.Frag} {mg : Str → Option Value} {base : Heap} {T : List (Addr × Str)}
def dueD (a b c d n : Int) : D := .tup [.lst ((hts a b c d n).map .int), .lst (((stepsU a b c d n n.toNat).mergeSort leE).map stepD), .lst (sharesL a b c d n)]
def sp_due : Sp3 := fun ds G Q _ => ∃ a b c d n, ds = [payD a b c d, .int n] ∧ 1 ≤ n ∧ n ≤ 60 ∧ Q (dueD a b c d n) G
abbrev TBs (K : PySem.W.Frag) (mg : Str → Option Value) (base : Heap) : Prop := ∀ p ∈ tfs, LamX.TabB base mg (He.cT K p).1 (He.cT K p).2
theorem levs_get {a b c d n : Int} {i k : Nat} (h : i < k) : atI ((levs a b c d n k).map D.int) (0 + (i : Int)) = some (.int (lev a b c d n i)) := atI_nat (by simp [levs, h])
def up_step (a b c d n : Int) (i : Nat) : Int := if gainI a b c d n i < 0 then 1 else 0
theorem rangeD_succ (lo : Int) (i : Nat) : rangeD lo (i + 1) = rangeD lo i ++ [.int (lo + i)] := by
  unfold rangeD; rw [List.range_succ, List.map_append]; rfl
theorem due_step (a b c d n : Int) (i : Nat) (u v : Int) (hu : u = neg1 (gainI a b c d n (0 + i))) (hv : v = pos1 (gainI a b c d n (0 + i))) : (stepsU a b c d n i).map stepD ++ [.tup [.str (numS (0 + i)), .tup [.tup [.int u, .int (n - (0 + i)), .int 1]], .str (numS (0 + i + 1))]] ++ [.tup [.str (numS (0 + i + 1)), .tup [.tup [.int v, .int (0 + i + 1), .int 1]], .str (numS (0 + i))]] = (stepsU a b c d n (i + 1)).map stepD := by
  subst hu hv
  rw [stepsU_succ, List.map_append, List.append_assoc, Int.zero_add]
  rfl
theorem due_mem {K : PySem.W.Frag} : ((He.cT K ("_law_due", none)).2, lamQ "_law_due") ∈ tabsOf K tfs := List.mem_map.mpr ⟨("_law_due", none), List.mem_cons_self .., rfl⟩
section
set_option hygiene false in
local macro_rules | `(tactic| walk_at "Par") => `(tactic| first
  | ((with_reducible refine' s_par 8 9 (x := "up") (y := "down") cx.calm cx.nd ?hi ?hj ?hij ?hx ?hy ?_ ?hw ?hs ?he1 ?he2); (case hi => exact rfl); (case hj => exact rfl); (case hij => decide); (case hx => exact rfl); (case hy => exact rfl); (case hw => exact rfl); (case hs => exact rfl); (case he1 => exact rfl); (case he2 => exact rfl)))
set_option hygiene false in
local macro_rules | `(tactic| walk_at "Nam") => `(tactic| first
  | ((with_reducible refine' r_var 0 (x := "pay") ?hN ?hv ?hs ?_); (case hN => exact ⟨rfl, by decide, by decide⟩); (case hv => walk_at "vv"); (case hs => exact rfl))
  | ((with_reducible refine' r_var 1 (x := "many") ?hN ?hv ?hs ?_); (case hN => exact ⟨rfl, by decide, by decide⟩); (case hv => walk_at "vv"); (case hs => exact rfl))
  | ((with_reducible refine' r_var 2 (x := "heights") ?hN ?hv ?hs ?_); (case hN => exact ⟨rfl, by decide, by decide⟩); (case hv => walk_at "vv"); (case hs => exact rfl))
  | ((with_reducible refine' r_var 3 (x := "steps") ?hN ?hv ?hs ?_); (case hN => exact ⟨rfl, by decide, by decide⟩); (case hv => walk_at "vv"); (case hs => exact rfl))
  | ((with_reducible refine' r_var 4 (x := "ways") ?hN ?hv ?hs ?_); (case hN => exact ⟨rfl, by decide, by decide⟩); (case hv => walk_at "vv"); (case hs => exact rfl))
  | ((with_reducible refine' r_var 5 (x := "worths") ?hN ?hv ?hs ?_); (case hN => exact ⟨rfl, by decide, by decide⟩); (case hv => walk_at "vv"); (case hs => exact rfl))
  | ((with_reducible refine' r_var 6 (x := "n") ?hN ?hv ?hs ?_); (case hN => exact ⟨rfl, by decide, by decide⟩); (case hv => walk_at "vv"); (case hs => exact rfl))
  | ((with_reducible refine' r_var 7 (x := "here") ?hN ?hv ?hs ?_); (case hN => exact ⟨rfl, by decide, by decide⟩); (case hv => walk_at "vv"); (case hs => exact rfl))
  | ((with_reducible refine' r_var 8 (x := "up") ?hN ?hv ?hs ?_); (case hN => exact ⟨rfl, by decide, by decide⟩); (case hv => walk_at "vv"); (case hs => exact rfl))
  | ((with_reducible refine' r_var 9 (x := "down") ?hN ?hv ?hs ?_); (case hN => exact ⟨rfl, by decide, by decide⟩); (case hv => walk_at "vv"); (case hs => exact rfl))
  | ((with_reducible refine' r_var 10 (x := "least") ?hN ?hv ?hs ?_); (case hN => exact ⟨rfl, by decide, by decide⟩); (case hv => walk_at "vv"); (case hs => exact rfl))
  | ((with_reducible refine' r_var 11 (x := "height") ?hN ?hv ?hs ?_); (case hN => exact ⟨rfl, by decide, by decide⟩); (case hv => walk_at "vv"); (case hs => exact rfl))
  | ((with_reducible refine' r_defv (x := "_law_gain") ?hm ?hg ?_ ?hd); (case hm => exact Z.g__law_gain); (case hg => first | exact (fun z => z) | exact rfl); (case hd => decide))
  | ((with_reducible refine' r_bltn (x := "int") (v := .ty "int") ?hg ?hm bt_int ?hr ?_ ?hn ?hd); (case hg => exact rfl); (case hm => exact Z.z_int); (case hr => exact rfl); (case hn => decide); (case hd => decide))
  | ((with_reducible refine' r_defv (x := "_law_state") ?hm ?hg ?_ ?hd); (case hm => exact Z.g__law_state); (case hg => first | exact (fun z => z) | exact rfl); (case hd => decide)))
set_option hygiene false in
local macro_rules | `(tactic| walk_at "Cal") => `(tactic| first
  | ((with_reducible refine' r_callB (x := "min") (id := "min") (call_minA cx.calm) ?hg ?hm bt_min ?_ ?hn ?hd ?he ?hp); (case hg => exact rfl); (case hm => exact Z.z_min); (case hn => decide); (case hd => decide); (case he => exact rfl); (case hp => exact rfl))
  | ((with_reducible refine' r_call (x := "_law_gain") cx ?hF ?hk ?hg ?hm ?_ ?hd ?he ?hp); (case hF => first | exact d__law_gain Z | exact d__law_gain Z TB); (case hk => decide); (case hg => first | exact (fun z => z) | exact (fun z => nomatch z)); (case hm => exact rfl); (case hd => decide); (case he => exact rfl); (case hp => exact rfl))
  | ((with_reducible refine' r_callB (x := "sorted") (id := "sorted") (cr_srtA cx.calm cx.hu64) ?hg ?hm bt_sorted ?_ ?hn ?hd ?he ?hp); (case hg => exact rfl); (case hm => exact Z.z_sorted); (case hn => decide); (case hd => decide); (case he => exact rfl); (case hp => exact rfl))
  | ((with_reducible refine' r_callTy (x := "int") (id := "int") call_int ?hg ?hm bt_int ?_ ?hn ?hd ?he ?hp); (case hg => exact rfl); (case hm => exact Z.z_int); (case hn => decide); (case hd => decide); (case he => exact rfl); (case hp => exact rfl))
  | ((with_reducible refine' r_call (x := "_law_state") cx ?hF ?hk ?hg ?hm ?_ ?hd ?he ?hp); (case hF => first | exact d__law_state Z | exact d__law_state Z TB); (case hk => decide); (case hg => first | exact (fun z => z) | exact (fun z => nomatch z)); (case hm => exact rfl); (case hd => decide); (case he => exact rfl); (case hp => exact rfl))
  | ((with_reducible refine' r_bm (name := "append") (t := "list") (id := "list.append") (r := rAppend) ?pa ?sl ?ty ?mt ?_ ?hb ?hf ?hl ?hs ?hp); (case pa => exact PySem.F.plainAttrs_list); (case sl => exact PySem.F.slot_list_append); (case ty => exact PySem.F.type_list_append); (case mt => exact mt_append); (case hb => exact rfl); (case hf => exact rfl); (case hl => exact rfl); (case hs => exact rfl); (case hp => exact rfl)))
set_option hygiene false in
local macro_rules | `(tactic| walk_at "Rai") => `(tactic| first
  | fail)
set_option hygiene false in
local macro_rules | `(tactic| walk_at "Aug") => `(tactic| first
  | fail)
set_option hygiene false in
local macro_rules | `(tactic| walk_at "gv") => `(tactic| first
  | ((with_reducible refine' g_name 0 (x := "pay") cx.nd ?hi ?hx ?_ ?hf); (case hi => exact rfl); (case hx => walk_at "ll"); (case hf => first | exact .inl rfl | exact .inr rfl))
  | ((with_reducible refine' g_name 1 (x := "many") cx.nd ?hi ?hx ?_ ?hf); (case hi => exact rfl); (case hx => walk_at "ll"); (case hf => first | exact .inl rfl | exact .inr rfl))
  | ((with_reducible refine' g_name 2 (x := "heights") cx.nd ?hi ?hx ?_ ?hf); (case hi => exact rfl); (case hx => walk_at "ll"); (case hf => first | exact .inl rfl | exact .inr rfl))
  | ((with_reducible refine' g_name 3 (x := "steps") cx.nd ?hi ?hx ?_ ?hf); (case hi => exact rfl); (case hx => walk_at "ll"); (case hf => first | exact .inl rfl | exact .inr rfl))
  | ((with_reducible refine' g_name 4 (x := "ways") cx.nd ?hi ?hx ?_ ?hf); (case hi => exact rfl); (case hx => walk_at "ll"); (case hf => first | exact .inl rfl | exact .inr rfl))
  | ((with_reducible refine' g_name 5 (x := "worths") cx.nd ?hi ?hx ?_ ?hf); (case hi => exact rfl); (case hx => walk_at "ll"); (case hf => first | exact .inl rfl | exact .inr rfl))
  | ((with_reducible refine' g_name 6 (x := "n") cx.nd ?hi ?hx ?_ ?hf); (case hi => exact rfl); (case hx => walk_at "ll"); (case hf => first | exact .inl rfl | exact .inr rfl))
  | ((with_reducible refine' g_name 7 (x := "here") cx.nd ?hi ?hx ?_ ?hf); (case hi => exact rfl); (case hx => walk_at "ll"); (case hf => first | exact .inl rfl | exact .inr rfl))
  | ((with_reducible refine' g_name 8 (x := "up") cx.nd ?hi ?hx ?_ ?hf); (case hi => exact rfl); (case hx => walk_at "ll"); (case hf => first | exact .inl rfl | exact .inr rfl))
  | ((with_reducible refine' g_name 9 (x := "down") cx.nd ?hi ?hx ?_ ?hf); (case hi => exact rfl); (case hx => walk_at "ll"); (case hf => first | exact .inl rfl | exact .inr rfl))
  | ((with_reducible refine' g_name 10 (x := "least") cx.nd ?hi ?hx ?_ ?hf); (case hi => exact rfl); (case hx => walk_at "ll"); (case hf => first | exact .inl rfl | exact .inr rfl))
  | ((with_reducible refine' g_name 11 (x := "height") cx.nd ?hi ?hx ?_ ?hf); (case hi => exact rfl); (case hx => walk_at "ll"); (case hf => first | exact .inl rfl | exact .inr rfl)))
set_option hygiene false in
local macro_rules | `(tactic| walk_at "cv") => `(tactic| first
  | ((with_reducible refine' r_lc (own := [("height", 11)]) (tg := .Name "height" _) cx.calm cx.nd ?hok (tg_name 11 (by decide)) ?hg ?_ ?hs); (case hok => exact blkOk_by (N := ["pay", "many", "heights", "steps", "ways", "worths", "n", "here", "up", "down", "least", "height"]) (sc := defScope s__law_due) (by decide +kernel)); (case hg => exact fun _ _ _ _ _ => pg_name (i := 11) cx.nd rfl (Or.inl rfl)); (case hs => exact fun _ => rfl)))
set_option hygiene false in
local macro_rules | `(tactic| walk_at "cvO") => `(tactic| first
  | ((with_reducible refine' r_lcO (own := [("height", 11)]) (tg := .Name "height" _) cx.calm cx.nd ?hok (tg_name 11 (by decide)) ?hg ?_ ?hs); (case hok => exact blkOk_by (N := ["pay", "many", "heights", "steps", "ways", "worths", "n", "here", "up", "down", "least", "height"]) (sc := defScope s__law_due) (by decide +kernel)); (case hg => exact fun _ _ _ _ _ => pg_name (i := 11) cx.nd rfl (Or.inl rfl)); (case hs => exact fun _ => rfl)))
set_option hygiene false in
local macro_rules | `(tactic| walk_at "cs") => `(tactic| first
  | ((with_reducible refine' s_lc 2 (y := "heights") (own := [("height", 11)]) (tg := .Name "height" _) cx.calm cx.nd ?hy ?hyl ?hsw ?hok (tg_name 11 (by decide)) ?hg ?_ ?hs); (case hy => exact rfl); (case hyl => exact rfl); (case hsw => exact rfl); (case hok => exact blkOk_by (N := ["pay", "many", "heights", "steps", "ways", "worths", "n", "here", "up", "down", "least", "height"]) (sc := defScope s__law_due) (by decide +kernel)); (case hg => exact fun _ _ _ _ _ => pg_name (i := 11) cx.nd rfl (Or.inl rfl)); (case hs => exact fun _ => rfl)))

theorem d__law_due (Z : Tx K mg) (TB : TBs K mg base) : Def3 P w K mg base (tabsOf K tfs) 3 false "_law_due" ["pay", "many"] sp_due := by
  obtain ⟨fd, F⟩ := Z.f__law_due
  refine def_ok F sc__law_due Z.g__law_due (fun ds G Q E h => ?_) fun A outer s H E O ds G Q3 E3 cx h => ?_
  · obtain ⟨a, b, c, d, n, rfl, _⟩ := h; rfl
  · obtain ⟨a, b, c, d, n, rfl, n1, n2, q⟩ := h
    walk_at "bb"
    repeat (first | walk_at "xx" | refine r_lstO ?_)
    refine fun p1 g1 => ?_
    repeat (first | walk_at "xx" | refine r_lstO ?_)
    refine fun p2 g2 => ?_
    repeat (first | walk_at "xx" | refine r_lstO ?_)
    refine fun p3 g3 => ?_
    obtain ⟨n32, g32⟩ := fresh_ne g3
    obtain ⟨n31, g31⟩ := fresh_ne g32
    obtain ⟨n21, g21⟩ := fresh_ne g2
    repeat (walk_at "xx")
    refine ⟨by omega, by omega, ?_⟩
    refine ⟨fun i σ' G' => G' = gset (gset (gset G p1 (.lst ((levs a b c d n (i + 1)).map .int))) p2 (.lst ((stepsU a b c d n i).map stepD))) p3 (.lst []) ∧ ∃ o1 o2 o3 o4, σ' = [some (payD a b c d), some (.int n), some (.raw (.ref p1)), some (.raw (.ref p2)), some (.int 1), some (.raw (.ref p3)), o1, o2, o3, o4, none, none], ⟨rfl, none, none, none, none, rfl⟩, fun _ _ _ _ _ => trivial, fun i x σ' G' hx hi => ?_, fun σ' G' hi => ?_⟩
    · obtain ⟨rfl, o1, o2, o3, o4, rfl⟩ := hi
      obtain ⟨hi, rfl⟩ := rangeD_get hx
      repeat (walk_at "xx")
      refine ⟨a, b, c, d, n, _, rfl, ⟨by omega, by omega, by omega, by omega⟩, ?_⟩
      repeat (walk_at "xx")
      refine ⟨_, rfl, by omega, ?_⟩
      repeat (walk_at "xx")
      refine ⟨_, rfl, by omega, ?_⟩
      repeat (walk_at "xx")
      refine ⟨_, rfl, by omega, ?_⟩
      repeat (walk_at "xx")
      refine ⟨_, rfl, by omega, ?_⟩
      repeat (walk_at "xx")
      refine ix_o (by walk_at "gl") (levs_get (by omega)) ?_
      repeat (walk_at "xx")
      · refine ⟨?_, _, _, _, _, rfl⟩
        rw [levs_step a b c d n i _ _ (by simp [neg1]) (by simp [pos1]), due_step a b c d n i _ _ (by simp [neg1]) (by simp [pos1])]
        walk_at "geq"
      · rw [szl]; simp [levs]; omega
      · rw [List.length_append, List.length_map, stepsU_len, szl]; show 2 * i + 1 < _; omega
      · rw [List.length_map, stepsU_len, szl]; omega
    · obtain ⟨rfl, o1, o2, o3, o4, rfl⟩ := hi
      rw [rangeD_length]
      refine b_freeze 2 rfl (p := p1) (ds := (levs a b c d n (n.toNat + 1)).map .int) (by walk_at "gl") ?_
      rw [show gdel (gset (gset (gset G p1 (.lst ((levs a b c d n (n.toNat + 1)).map .int))) p2 (.lst ((stepsU a b c d n n.toNat).map stepD))) p3 (.lst [])) p1 = gset (gset G p2 (.lst ((stepsU a b c d n n.toNat).map stepD))) p3 (.lst []) from by
        funext q; simp only [gset, gdel]; repeat' split
        all_goals (first | rfl | (exfalso; simp_all; done) | (simp_all; done))]
      repeat (walk_at "xx")
      refine c_minL (.inl rfl) (by simp [levs]) fun m hm hm2 => ?_
      repeat (walk_at "xx")
      walk_at "cs"
      refine i_list ?_
      repeat (walk_at "xx")
      refine ⟨_, _, .inl ⟨rfl, rfl⟩, ?_⟩
      refine lc_mapX cx (subD m) (by rw [szl]; simp [levs]; omega) (fun _ _ _ => trivial) (fun i x hx => ?_) ?_
      · rw [List.getElem?_map] at hx
        obtain ⟨j, _, rfl⟩ := Option.map_eq_some_iff.mp hx
        refine ⟨_, rfl, fun A1 h1 g1 s1 H1 Cc cl fp cx => ?_⟩
        repeat (walk_at "xx")
        exact ⟨rfl, rfl⟩
      rw [show ((levs a b c d n (n.toNat + 1)).map D.int).map (subD m) = (hts a b c d n).map .int from by
        rw [hts, minI_of hm hm2, List.map_map, List.map_map]; rfl]
      repeat (walk_at "xx")
      refine ⟨by omega, by omega, ?_⟩
      refine ⟨fun i σ' G' => G' = gset (gset G p2 (.lst ((stepsU a b c d n n.toNat).map stepD))) p3 (.lst ((rangeD 0 i).map (shareD a b c d n))) ∧ ∃ w o1 o2 o3 o4 o5 o6, ((i : Int) ≤ n → w = PySem.W.mcComb n i) ∧ σ' = [some (payD a b c d), some (.int n), some (.lst ((hts a b c d n).map .int)), some (.raw (.ref p2)), some (.int w), some (.raw (.ref p3)), o1, o2, o3, o4, o5, o6], ⟨rfl, _, _, _, _, _, _, _, fun _ => (comb_zero (by omega)).symm, rfl⟩, fun _ _ _ _ _ => trivial, fun i x σ' G' hx hi => ?_, fun σ' G' hi => ?_⟩
      · obtain ⟨rfl, w, o1, o2, o3, o4, o5, o6, hw, rfl⟩ := hi
        obtain ⟨hi, rfl⟩ := rangeD_get hx
        have hw := hw (by omega)
        subst hw
        obtain ⟨v, hv⟩ : ∃ v, (hts a b c d n)[i]? = some v := ⟨_, List.getElem?_eq_getElem (by rw [hts_len]; omega)⟩
        repeat (walk_at "xx")
        refine ⟨_, rfl, by omega, ?_⟩
        repeat (walk_at "xx")
        refine ix_l (d := .int v) (atI_nat hv) ?_
        repeat (walk_at "xx")
        · refine ⟨?_, _, _, _, _, _, _, _, fun h => ?_, rfl⟩
          · rw [rangeD_succ, List.map_append, gset_gset]
            refine congrArg (fun z => gset _ p3 (.lst (_ ++ [z]))) ?_
            show _ = D.tup [.str (numS (0 + i)), .tup [.tup [.int ((hts a b c d n)[((0 : Int) + i).toNat]?.getD 0), .int (PySem.W.mcComb n (0 + i)), .int 1]]]
            rw [show ((0 : Int) + i).toNat = i by omega, hv, Int.zero_add]
            rfl
          · rw [Int.zero_add]
            exact comb_next (by omega) (by omega) n2
        · rw [List.length_map, rangeD_length, szl]; omega
      · obtain ⟨rfl, w, o1, o2, o3, o4, o5, o6, hw, rfl⟩ := hi
        refine b_freeze 3 rfl (p := p2) (ds := (stepsU a b c d n n.toNat).map stepD) (by walk_at "gl") ?_
        refine b_freeze 5 rfl (p := p3) (ds := (rangeD 0 (rangeD 0 (n + 1).toNat).length).map (shareD a b c d n)) (by
          rw [gdel_ne n32]; walk_at "gl") ?_
        rw [rangeD_length, show gdel (gdel (gset (gset G p2 (.lst ((stepsU a b c d n n.toNat).map stepD))) p3 (.lst ((rangeD 0 (n + 1).toNat).map (shareD a b c d n)))) p2) p3 = G from by walk_at "geq"]
        repeat (walk_at "xx")
        refine r_sortIJ cx (TB ("_law_due", none) (List.mem_cons_self ..)) rfl due_mem (nodup_fst Z.td due_mem) rfl Z.z_sorted rfl (by decide) (by decide) rfl rfl rfl rfl (by decide) (fun _ _ _ _ us hl => match us, hl with | [_], _ => rfl) ?_
        repeat (walk_at "xx")
        refine ⟨_, .inl rfl, fun y hy => ?_, ?_, ?_⟩
        · obtain ⟨e, _, rfl⟩ := List.mem_map.mp hy
          exact ⟨_, _, _, rfl, rfl, rfl, rfl, rfl⟩
        · rw [List.map_map]
          exact PySem.W.AllAlike.of fun b b' => rfl
        · have z := PySem.W.sort_maps (r := leE) (s := PySem.W.dataLe false (keyIJ 0 2)) (l := stepsU a b c d n n.toNat) stepD (fun _ _ _ _ => rfl)
          rw [← z]
          repeat (walk_at "xx")
          exact q
end
end K58
end
section
set_option maxHeartbeats 4000000
namespace K58
open PySem PySem.Spec PyProof.Rows L2 L3
local macro_rules | `(tactic| walk_at "sc") => `(tactic| first | omega | exact ⟨by omega, by omega⟩ | exact cmul_fmod (by decide) (by decide) | exact .inl ⟨by omega, by omega⟩ | exact .inr ⟨by omega, by omega⟩ | exact ⟨by omega, by omega, by omega⟩)
local macro_rules | `(tactic| walk_at "vv") => `(tactic| first | exact Or.inl rfl | exact Or.inr (Or.inl rfl) | exact Or.inr (Or.inr rfl))
local macro_rules | `(tactic| walk_at "ll") => `(tactic| first | exact Or.inl rfl | exact Or.inr rfl)
set_option hygiene false in
local macro_rules | `(tactic| walk_at "A") => `(tactic| first
  | ((with_reducible refine' a_cons ?_ ?hs); (case hs => exact rfl))
  | (with_reducible refine' a_nil ?_))
set_option hygiene false in
local macro_rules | `(tactic| walk_at "Con") => `(tactic| first
  | (with_reducible refine' r_int ?_)
  | (with_reducible refine' r_str ?_)
  | (with_reducible refine' r_non ?_)
  | (with_reducible refine' r_bl ?_))
set_option hygiene false in
local macro_rules | `(tactic| walk_at "Bin") => `(tactic| first
  | ((with_reducible show xE _ _ _ (.BinOp _ .Add _ _) _ _ _); (with_reducible refine' r_op op_addA ?_))
  | ((with_reducible show xE _ _ _ (.BinOp _ .Sub _ _) _ _ _); (with_reducible refine' r_op op_sub ?_))
  | ((with_reducible show xE _ _ _ (.BinOp _ .Mult _ _) _ _ _); (with_reducible refine' r_op op_mul ?_))
  | ((with_reducible show xE _ _ _ (.BinOp _ .FloorDiv _ _) _ _ _); (with_reducible refine' r_op op_fdivN ?_))
  | ((with_reducible show xE _ _ _ (.BinOp _ .Mod _ _) _ _ _); (with_reducible refine' r_op op_modN ?_))
  | ((with_reducible show xE _ _ _ (.BinOp _ .Pow _ _) _ _ _); (with_reducible refine' r_op op_pow ?_)))
set_option hygiene false in
local macro_rules | `(tactic| walk_at "Cmp") => `(tactic| first
  | ((with_reducible show xE _ _ _ (.Compare _ [.Lt] _ _) _ _ _); (with_reducible refine' r_cmp op_lt ?hm ?_); (case hm => exact rfl))
  | ((with_reducible show xE _ _ _ (.Compare _ [.LtE] _ _) _ _ _); (with_reducible refine' r_cmp op_le ?hm ?_); (case hm => exact rfl))
  | ((with_reducible show xE _ _ _ (.Compare _ [.Gt] _ _) _ _ _); (with_reducible refine' r_cmp op_gt ?hm ?_); (case hm => exact rfl))
  | ((with_reducible show xE _ _ _ (.Compare _ [.GtE] _ _) _ _ _); (with_reducible refine' r_cmp op_ge ?hm ?_); (case hm => exact rfl))
  | ((with_reducible show xE _ _ _ (.Compare _ [.Eq] _ _) _ _ _); (with_reducible refine' r_cmp (op_eqB cx.hu64) ?hm ?_); (case hm => exact rfl))
  | ((with_reducible show xE _ _ _ (.Compare _ [.NotEq] _ _) _ _ _); (with_reducible refine' r_cmp (op_neB cx.hu64) ?hm ?_); (case hm => exact rfl))
  | ((with_reducible show xE _ _ _ (.Compare _ [.Is] _ _) _ _ _); (with_reducible refine' r_cmp op_isN1 ?hm ?_); (case hm => exact rfl))
  | ((with_reducible show xE _ _ _ (.Compare _ [.IsNot] _ _) _ _ _); (with_reducible refine' r_cmp op_notN1 ?hm ?_); (case hm => exact rfl)))
set_option hygiene false in
local macro_rules | `(tactic| walk_at "TCmp") => `(tactic| first
  | ((with_reducible show xT _ _ _ (.Compare _ [.Lt] _ _) _ _ _); (with_reducible refine' t_cmp op_lt ?hm ?_); (case hm => exact rfl))
  | ((with_reducible show xT _ _ _ (.Compare _ [.LtE] _ _) _ _ _); (with_reducible refine' t_cmp op_le ?hm ?_); (case hm => exact rfl))
  | ((with_reducible show xT _ _ _ (.Compare _ [.Gt] _ _) _ _ _); (with_reducible refine' t_cmp op_gt ?hm ?_); (case hm => exact rfl))
  | ((with_reducible show xT _ _ _ (.Compare _ [.GtE] _ _) _ _ _); (with_reducible refine' t_cmp op_ge ?hm ?_); (case hm => exact rfl))
  | ((with_reducible show xT _ _ _ (.Compare _ [.Eq] _ _) _ _ _); (with_reducible refine' t_cmp (op_eqB cx.hu64) ?hm ?_); (case hm => exact rfl))
  | ((with_reducible show xT _ _ _ (.Compare _ [.NotEq] _ _) _ _ _); (with_reducible refine' t_cmp (op_neB cx.hu64) ?hm ?_); (case hm => exact rfl))
  | ((with_reducible show xT _ _ _ (.Compare _ [.Is] _ _) _ _ _); (with_reducible refine' t_cmp op_isN1 ?hm ?_); (case hm => exact rfl))
  | ((with_reducible show xT _ _ _ (.Compare _ [.IsNot] _ _) _ _ _); (with_reducible refine' t_cmp op_notN1 ?hm ?_); (case hm => exact rfl))
  | ((with_reducible show xT _ _ _ (.Compare _ [.LtE, .LtE] _ _) _ _ _); (with_reducible refine' t_chain op_le op_le ?_ ?hl); (case hl => exact rfl))
  | ((with_reducible show xT _ _ _ (.Compare _ [.Lt, .Lt] _ _) _ _ _); (with_reducible refine' t_chain op_lt op_lt ?_ ?hl); (case hl => exact rfl))
  | ((with_reducible show xT _ _ _ (.Compare _ [.LtE, .Lt] _ _) _ _ _); (with_reducible refine' t_chain op_le op_lt ?_ ?hl); (case hl => exact rfl))
  | ((with_reducible show xT _ _ _ (.Compare _ [.Lt, .LtE] _ _) _ _ _); (with_reducible refine' t_chain op_lt op_le ?_ ?hl); (case hl => exact rfl)))
set_option hygiene false in
local macro_rules | `(tactic| walk_at "E") => `(tactic| first
  | ((with_reducible show xE _ _ _ (.Name _ _) _ _ _); walk_at "Nam")
  | ((with_reducible show xE _ _ _ (.Constant _ _ _) _ _ _); walk_at "Con")
  | ((with_reducible show xE _ _ _ (.BinOp _ _ _ _) _ _ _); walk_at "Bin")
  | ((with_reducible show xE _ _ _ (.Call _ _ _ _) _ _ _); walk_at "Cal")
  | ((with_reducible show xE _ _ _ (.Tuple _ _ _) _ _ _); (with_reducible refine' r_tup ?_))
  | ((with_reducible show xE _ _ _ (.Subscript _ (.Slice _ _ _ _) _) _ _ _); (with_reducible refine' r_slice ?_))
  | ((with_reducible show xE _ _ _ (.Subscript _ _ _) _ _ _); (refine r_sub cx.hu ?_))
  | ((with_reducible show xE _ _ _ (.Compare _ _ _ _) _ _ _); walk_at "Cmp")
  | ((with_reducible show xE _ _ _ (.IfExp _ _ _ _) _ _ _); (with_reducible refine' r_if ?_))
  | ((with_reducible show xE _ _ _ (.UnaryOp .USub _ _) _ _ _); (with_reducible refine' r_un un_neg ?_))
  | ((with_reducible show xE _ _ _ (.UnaryOp .Not _ _) _ _ _); (with_reducible refine' r_not ?_))
  | ((with_reducible show xE _ _ _ (.BoolOp .And (_ :: _ :: _) _) _ _ _); (with_reducible refine' r_and ?_))
  | ((with_reducible show xE _ _ _ (.BoolOp .Or (_ :: _ :: _) _) _ _ _); (with_reducible refine' r_or ?_))
  | ((with_reducible show xE _ _ _ (.BoolOp _ [_] _) _ _ _); (with_reducible refine' r_one ?_)))
set_option hygiene false in
local macro_rules | `(tactic| walk_at "T") => `(tactic| first
  | ((with_reducible show xT _ _ _ (.Compare _ _ _ _) _ _ _); walk_at "TCmp")
  | ((with_reducible show xT _ _ _ (.UnaryOp .Not _ _) _ _ _); (with_reducible refine' t_not ?_))
  | ((with_reducible show xT _ _ _ (.BoolOp .And _ _) _ _ _); (with_reducible refine' t_w (t_and ?_)))
  | ((with_reducible show xT _ _ _ (.BoolOp .Or _ _) _ _ _); (with_reducible refine' t_w (t_or ?_)))
  | ((with_reducible show xT _ _ _ (.Call _ _ _ _) _ _ _); (with_reducible refine' t_val ?_ ?he); (case he => intro _; rfl))
  | ((with_reducible show xT _ _ _ (.ListComp _ _ _ _) _ _ _); fail)
  | ((with_reducible show xT _ _ _ (.Name _ _) _ _ _); fail)
  | ((with_reducible refine' t_val ?_ ?he); (case he => intro _; rfl)))
set_option hygiene false in
local macro_rules | `(tactic| walk_at "W") => `(tactic| first
  | (with_reducible refine' t_and ?_)
  | (with_reducible refine' t_or ?_)
  | (with_reducible refine' t_and1 ?_)
  | (with_reducible refine' t_or1 ?_))
set_option hygiene false in
local macro_rules | `(tactic| walk_at "S") => `(tactic| first
  | ((with_reducible show xS _ _ _ (.If _ _ _ _) _ _ _); (with_reducible refine' s_if ?_))
  | ((with_reducible show xS _ _ _ (.Assign [.Tuple [.Name _ _, .Name _ _] _ _] (.Tuple [_, _] _ _) _) _ _ _); walk_at "Par")
  | ((with_reducible show xS _ _ _ (.Assign _ _ _) _ _ _); (with_reducible refine' s_asg ?_ ?hs ?hw ?h1); (case hs => exact rfl); (case hw => exact rfl); (case h1 => exact rfl))
  | ((with_reducible show xS _ _ _ (.Return (some _) _) _ _ _); (with_reducible refine' s_ret ?_))
  | ((with_reducible show xS _ _ _ (.Expr _ _) _ _ _); (with_reducible refine' s_expr ?_ ?hs); (case hs => exact rfl))
  | ((with_reducible show xS _ _ _ (.For _ (.Call _ _ _ _) _ _ _) _ _ _); (with_reducible refine' s_for cx.po cx.calm ?_ ?hs); (case hs => exact fun _ => rfl))
  | ((with_reducible show xS _ _ _ (.Raise _ _ _) _ _ _); walk_at "Rai")
  | ((with_reducible show xS _ _ _ (.AugAssign _ _ _ _) _ _ _); walk_at "Aug")
  | (with_reducible refine' s_pass ?_)
  | (with_reducible refine' s_break ?_)
  | (with_reducible refine' s_cont ?_)
  | (with_reducible refine' s_retN ?_))
set_option hygiene false in
local macro_rules | `(tactic| walk_at "G") => `(tactic| first
  | ((with_reducible show xG _ _ _ (.Name _ _) _ _ _ _); walk_at "gv")
  | ((with_reducible show xG _ _ _ (.Tuple _ _ _) _ _ _ _); (with_reducible refine' g_tup cx.calm ?_ ?hn ?hst); (case hn => exact rfl); (case hst => exact rfl))
  | ((with_reducible show xG _ _ _ (.Subscript _ _ _) _ _ _ _); (refine g_sub cx.hu ?_)))
set_option hygiene false in
local macro_rules | `(tactic| walk_at "Gs") => `(tactic| first
  | ((with_reducible refine' gs_cons ?_ ?hs); (case hs => exact rfl))
  | (with_reducible refine' gs_nil ?_))
set_option hygiene false in
local macro_rules | `(tactic| walk_at "O") => `(tactic| first
  | (with_reducible refine' p_int ?_)
  | (with_reducible refine' o_int0 ?_)
  | (with_reducible refine' o_bl0 ?_)
  | ((with_reducible refine' o_int ?_ ?hc); (case hc => walk_at "sc"))
  | (with_reducible refine' o_int ?_ ?_)
  | (with_reducible refine' e_int ?_)
  | (with_reducible refine' n_int ?_)
  | (with_reducible refine' e_str ?_)
  | (with_reducible refine' n_str ?_)
  | (with_reducible refine' o_isN ?_)
  | (with_reducible refine' o_notN ?_)
  | (with_reducible refine' p_str ?_ ?_))
set_option hygiene false in
local macro_rules | `(tactic| walk_at "C") => `(tactic| first
  | (with_reducible refine' len_t ?_)
  | (with_reducible refine' len_l ?_)
  | (with_reducible refine' c_abs ?_)
  | (with_reducible refine' c_int ?_)
  | (with_reducible refine' c_intB ?_)
  | (with_reducible refine' c_min2 ?_)
  | (with_reducible refine' c_max2 ?_)
  | (with_reducible refine' c_str ?_ ?_))
set_option hygiene false in
local macro_rules | `(tactic| walk_at "S3") => `(tactic| first
  | (with_reducible refine' s_t ?_)
  | (with_reducible refine' s_s ?_ ?_))
set_option hygiene false in
local macro_rules | `(tactic| walk_at "bb") => `(tactic| first
  | (with_reducible refine b_cons ?_)
  | (with_reducible refine b_one ?_)
  | (with_reducible refine b_nil ?_)
  | (refine b_cons ?_)
  | (refine b_one ?_)
  | (refine b_nil ?_))
set_option hygiene false in
local macro_rules | `(tactic| walk_at "I") => `(tactic| first
  | ((with_reducible refine' i_range1 ?hg ?hm ?_ ?hs); (case hg => exact rfl); (case hm => exact Z.z_range); (case hs => exact rfl))
  | ((with_reducible refine' i_range2 ?hg ?hm ?_ ?hs ?hs2); (case hg => exact rfl); (case hm => exact Z.z_range); (case hs => exact rfl); (case hs2 => exact rfl)))
local macro_rules | `(tactic| walk_at "be") => `(tactic| first
  | (with_reducible refine b_cons ?_)
  | (with_reducible refine b_one ?_)
  | (with_reducible refine b_nil ?_))
local macro_rules | `(tactic| walk_at "gl") => `(tactic| (repeat (first | exact gset_same | assumption | (refine Eq.trans (gset_ne ?_) ?_; (first | assumption | (apply Ne.symm; assumption))))))
local macro_rules | `(tactic| walk_at "geq") => `(tactic| (funext q; simp only [gset, gdel]; (repeat' split); all_goals (first | rfl | (exfalso; simp_all; done) | (simp_all; done))))
set_option hygiene false in
local macro_rules | `(tactic| walk_at "M") => `(tactic| first
  | ((with_reducible refine' m_append ?hp ?_ ?_); (case hp => walk_at "gl")))
set_option hygiene false in
local macro_rules | `(tactic| walk_at "xx") => `(tactic| first
  | ((with_reducible show xE _ _ _ _ _ _ _); walk_at "E")
  | ((with_reducible show xA _ _ _ _ _ _ _); walk_at "A")
  | ((with_reducible show O3 _ _ _ _ _ _ _); walk_at "O")
  | ((with_reducible show C3 _ _ _ _ _ _); walk_at "C")
  | ((with_reducible show xS _ _ _ _ _ _ _); walk_at "S")
  | ((with_reducible show xB _ _ _ _ _ _ _); walk_at "be")
  | ((with_reducible show xT _ _ _ _ _ _ _); walk_at "T")
  | ((with_reducible show xW _ _ _ _ _ _ _); walk_at "W")
  | ((with_reducible show xG _ _ _ _ _ _ _ _); walk_at "G")
  | ((with_reducible show xGs _ _ _ _ _ _ _ _); walk_at "Gs")
  | ((with_reducible show U3 _ _ _ _ _ _); (with_reducible refine' u_int ?_))
  | ((with_reducible show S3 _ _ _ _ _ _ _ _); walk_at "S3")
  | ((with_reducible show xI _ _ _ _ _ _ _ _); walk_at "I")
  | ((with_reducible show _ ≤ sizeLine ∧ _); (with_reducible refine' len16 ?hL ?_); (case hL => exact rfl))
  | ((with_reducible show xP _ _ _ (some _) _ _ _); (with_reducible refine' x_some ?_))
  | ((with_reducible show xP _ _ _ none _ _ _); (with_reducible refine' x_no ?_))
  | ((with_reducible show tyM _ _ _ ∧ _); (refine' ⟨.inl ⟨rfl, _, ?hgl⟩, ?_⟩); (case hgl => walk_at "gl"))
  | ((with_reducible show M3 _ _ _ _ _ _ _); walk_at "M")
  | (with_reducible refine' ex_bl ?_)
  | (with_reducible refine' ex_int ?_)
  | (with_reducible refine' ex_str ?_)
  | (with_reducible refine' ex_tup ?_)
  | (with_reducible refine' br_f ?_)
  | (with_reducible refine' br_nt ?_)
  | (with_reducible refine' br_nf ?_)
  | (with_reducible refine' br_t ?_))
local macro_rules | `(tactic| walk_at "sd") => `(tactic| first | decide | omega | exact ⟨by decide, by decide⟩ | exact .inl ⟨by omega, by omega⟩ | exact .inr ⟨by omega, by omega⟩)
local macro_rules | `(tactic| walk_at "xn") => `(tactic| ((fail_if_success (with_reducible show xB _ _ _ (.If _ _ _ _ :: _ :: _) _ _ _)); walk_at "xx"))
local macro_rules | `(tactic| walk_at "xs") => `(tactic| ((fail_if_success (with_reducible show xB _ _ _ (_ :: _) _ _ _)); walk_at "xx"))
set_option hygiene false in
local macro_rules | `(tactic| walk_at "for") => `(tactic| ((with_reducible refine' s_for cx.po cx.calm ?_ ?hs); (case hs => exact fun _ => rfl)))
variable {P : Program} {w : World} {K : PySem.W.Frag} {mg : Str → Option Value} {base : Heap} {T : List (Addr × Str)}
def hAt (a b c d n : Int) (i : Nat) : Int := (hts a b c d n)[i]?.getD 0
def shV (a b c d n : Int) (i : Nat) : D := .tup [.tup [.int (hAt a b c d n i), .int (PySem.W.mcComb n i), .int 1]]
def shEs (a b c d n : Int) : List (Key × D) := (List.range (n + 1).toNat).map fun i : Nat => (.inr (numS (i : Int)), shV a b c d n i)
theorem shares_es (a b c d n : Int) : sharesL a b c d n = (shEs a b c d n).map fun e => .tup [dK1 e.1, e.2] := by
  unfold sharesL shEs rangeD
  rw [List.map_map, List.map_map]
  refine List.map_congr_left fun i _ => ?_
  show shareD a b c d n (.int (0 + (i : Int))) = _
  rw [Int.zero_add]
  rfl
theorem shEs_nodup {a b c d n : Int} (h : n ≤ 60) : ((shEs a b c d n).map (·.1)).Nodup := by
  unfold shEs
  rw [List.map_map]
  refine L3.nodup_map_on (fun i hi j hj e => ?_) List.nodup_range
  have hi := List.mem_range.mp hi
  have hj := List.mem_range.mp hj
  exact numS_inj (by omega) (by omega) (Sum.inr.inj e)
theorem shEs_look {a b c d n : Int} (h : n ≤ 60) {i : Nat} (hi : (i : Int) ≤ n) : lookD (shEs a b c d n) (.inr (numS (i : Int))) = some (shV a b c d n i) :=
  lookD_mem (shEs_nodup h) (List.mem_map.mpr ⟨i, List.mem_range.mpr (by omega), rfl⟩)
theorem hAt_eq (a b c d n : Int) {i : Nat} (h : i < n.toNat + 1) : hAt a b c d n i = lev a b c d n i - minI (levs a b c d n (n.toNat + 1)) := by
  unfold hAt hts levs
  rw [List.getElem?_map, List.getElem?_map, List.getElem?_range h]
  rfl
theorem hAt_step (a b c d n : Int) {i : Nat} (h : i < n.toNat) : hAt a b c d n i + neg1 (gainI a b c d n i) = hAt a b c d n (i + 1) + pos1 (gainI a b c d n i) := by
  rw [hAt_eq a b c d n (by omega), hAt_eq a b c d n (by omega)]
  show _ = lev a b c d n i + neg1 (gainI a b c d n i) - pos1 (gainI a b c d n i) - _ + _
  omega
/-- what the balance of a step needs -/
structure Bal (a b c d n : Int) (rs : List (List Key × D)) (x y : Str) : Prop where
  ex : ∃ h1 c1 h2 c2 u1 w1 u2 w2 : Int, lookD (shEs a b c d n) (.inr x) = some (.tup [.tup [.int h1, .int c1, .int 1]]) ∧ lookD (shEs a b c d n) (.inr y) = some (.tup [.tup [.int h2, .int c2, .int 1]]) ∧
    lookD rs [.inr x, .inr y] = some (.tup [.tup [.int u1, .int w1, .int 1]]) ∧ lookD rs [.inr y, .inr x] = some (.tup [.tup [.int u2, .int w2, .int 1]]) ∧ h1 + u1 = h2 + u2 ∧ c1 * w1 = c2 * w2 ∧ (0 ≤ w1 ∧ w1 ≤ 100) ∧ (0 ≤ w2 ∧ w2 ≤ 100)
theorem Bal.symm {a b c d n : Int} {rs : List (List Key × D)} {x y : Str} (h : Bal a b c d n rs x y) : Bal a b c d n rs y x := by
  obtain ⟨h1, c1, h2, c2, u1, w1, u2, w2, e1, e2, e3, e4, e5, e6, e7, e8⟩ := h.ex
  exact ⟨⟨h2, c2, h1, c1, u2, w2, u1, w1, e2, e1, e4, e3, e5.symm, e6.symm, e8, e7⟩⟩
theorem stepsU_mem {a b c d n : Int} {k : Nat} {e : Step} : e ∈ stepsU a b c d n k ↔ ∃ i, i < k ∧ (e = goS a b c d n i ∨ e = backS a b c d n i) := by
  unfold stepsU
  rw [List.mem_flatMap]
  constructor
  · rintro ⟨i, hi, h⟩
    exact ⟨i, List.mem_range.mp hi, by simpa using h⟩
  · rintro ⟨i, hi, h⟩
    exact ⟨i, List.mem_range.mpr hi, by simpa using h⟩
theorem bal_of {a b c d n : Int} {ss : List Step} (hp : ss.Perm (stepsU a b c d n n.toNat)) (h1 : 1 ≤ n) (h2 : n ≤ 60) {e : Step} (he : e ∈ ss) : Bal a b c d n (ss.map kvE) e.1.1 e.1.2 := by
  have nd : (ss.map (·.1)).Nodup := (hp.map (·.1)).nodup_iff.mpr (by rw [stepsU_keys]; exact kS_nodup (by omega))
  have key : ∀ i, i < n.toNat → Bal a b c d n (ss.map kvE) (numS (i : Int)) (numS ((i + 1 : Nat) : Int)) := fun i hi => by
    have g := look_kv (e := goS a b c d n i) nd (hp.mem_iff.mpr (stepsU_mem.mpr ⟨i, hi, .inl rfl⟩))
    have k := look_kv (e := backS a b c d n i) nd (hp.mem_iff.mpr (stepsU_mem.mpr ⟨i, hi, .inr rfl⟩))
    have cs := comb_step (n := n) (k := (i : Int)) (by omega) (by omega) h2
    exact ⟨⟨_, _, _, _, _, _, _, _, shEs_look h2 (by omega), shEs_look h2 (by omega), g, k, hAt_step a b c d n hi, cs, ⟨show 0 ≤ n - (i : Int) by omega, show n - (i : Int) ≤ 100 by omega⟩, ⟨show 0 ≤ (i : Int) + 1 by omega, show (i : Int) + 1 ≤ 100 by omega⟩⟩⟩
  obtain ⟨i, hi, rfl | rfl⟩ := stepsU_mem.mp (hp.mem_iff.mp he)
  · exact key i hi
  · exact (key i hi).symm
theorem kv_nodup {ss : List Step} (h : (ss.map (·.1)).Nodup) : ((ss.map kvE).map (·.1)).Nodup := by
  rw [List.map_map]
  have : (fun e : Step => ((fun x : List Key × D => x.1) ∘ kvE) e) = (fun k : Str × Str => [.inr k.1, .inr k.2]) ∘ (·.1) := rfl
  rw [show ((fun x : List Key × D => x.1) ∘ kvE) = (fun k : Str × Str => ([.inr k.1, .inr k.2] : List Key)) ∘ (fun e : Step => e.1) from rfl, ← List.map_map]
  refine L3.nodup_map_on (fun x _ y _ e => ?_) h
  simp only [List.cons.injEq, Sum.inr.injEq, and_true] at e
  exact Prod.ext e.1 e.2
def pairD : D → D
  | .tup [s, r, t] => .tup [.tup [s, t], r]
  | x => x
def sp_bal : Sp3 := fun ds G Q _ => ∃ (a b c d n : Int) (ss : List Step), ds = [.lst (ss.map stepD), .lst (sharesL a b c d n)] ∧ ss.Perm (stepsU a b c d n n.toNat) ∧ 1 ≤ n ∧ n ≤ 60 ∧ Q (.bl true) G
section
set_option hygiene false in
local macro_rules | `(tactic| walk_at "Par") => `(tactic| first
  | ((with_reducible refine' s_par 2 3 (x := "held") (y := "rates") cx.calm cx.nd ?hi ?hj ?hij ?hx ?hy ?_ ?hw ?hs ?he1 ?he2); (case hi => exact rfl); (case hj => exact rfl); (case hij => decide); (case hx => exact rfl); (case hy => exact rfl); (case hw => exact rfl); (case hs => exact rfl); (case he1 => exact rfl); (case he2 => exact rfl))
  | ((with_reducible refine' s_par 7 8 (x := "here") (y := "there") cx.calm cx.nd ?hi ?hj ?hij ?hx ?hy ?_ ?hw ?hs ?he1 ?he2); (case hi => exact rfl); (case hj => exact rfl); (case hij => decide); (case hx => exact rfl); (case hy => exact rfl); (case hw => exact rfl); (case hs => exact rfl); (case he1 => exact rfl); (case he2 => exact rfl))
  | ((with_reducible refine' s_par 9 10 (x := "go") (y := "back") cx.calm cx.nd ?hi ?hj ?hij ?hx ?hy ?_ ?hw ?hs ?he1 ?he2); (case hi => exact rfl); (case hj => exact rfl); (case hij => decide); (case hx => exact rfl); (case hy => exact rfl); (case hw => exact rfl); (case hs => exact rfl); (case he1 => exact rfl); (case he2 => exact rfl)))
set_option hygiene false in
local macro_rules | `(tactic| walk_at "Nam") => `(tactic| first
  | ((with_reducible refine' r_var 0 (x := "steps") ?hN ?hv ?hs ?_); (case hN => exact ⟨rfl, by decide, by decide⟩); (case hv => walk_at "vv"); (case hs => exact rfl))
  | ((with_reducible refine' r_var 1 (x := "worths") ?hN ?hv ?hs ?_); (case hN => exact ⟨rfl, by decide, by decide⟩); (case hv => walk_at "vv"); (case hs => exact rfl))
  | ((with_reducible refine' r_var 2 (x := "held") ?hN ?hv ?hs ?_); (case hN => exact ⟨rfl, by decide, by decide⟩); (case hv => walk_at "vv"); (case hs => exact rfl))
  | ((with_reducible refine' r_var 3 (x := "rates") ?hN ?hv ?hs ?_); (case hN => exact ⟨rfl, by decide, by decide⟩); (case hv => walk_at "vv"); (case hs => exact rfl))
  | ((with_reducible refine' r_var 4 (x := "step") ?hN ?hv ?hs ?_); (case hN => exact ⟨rfl, by decide, by decide⟩); (case hv => walk_at "vv"); (case hs => exact rfl))
  | ((with_reducible refine' r_var 5 (x := "one") ?hN ?hv ?hs ?_); (case hN => exact ⟨rfl, by decide, by decide⟩); (case hv => walk_at "vv"); (case hs => exact rfl))
  | ((with_reducible refine' r_var 6 (x := "two") ?hN ?hv ?hs ?_); (case hN => exact ⟨rfl, by decide, by decide⟩); (case hv => walk_at "vv"); (case hs => exact rfl))
  | ((with_reducible refine' r_var 7 (x := "here") ?hN ?hv ?hs ?_); (case hN => exact ⟨rfl, by decide, by decide⟩); (case hv => walk_at "vv"); (case hs => exact rfl))
  | ((with_reducible refine' r_var 8 (x := "there") ?hN ?hv ?hs ?_); (case hN => exact ⟨rfl, by decide, by decide⟩); (case hv => walk_at "vv"); (case hs => exact rfl))
  | ((with_reducible refine' r_var 9 (x := "go") ?hN ?hv ?hs ?_); (case hN => exact ⟨rfl, by decide, by decide⟩); (case hv => walk_at "vv"); (case hs => exact rfl))
  | ((with_reducible refine' r_var 10 (x := "back") ?hN ?hv ?hs ?_); (case hN => exact ⟨rfl, by decide, by decide⟩); (case hv => walk_at "vv"); (case hs => exact rfl))
  | ((with_reducible refine' r_bltn (x := "dict") (v := .ty "dict") ?hg ?hm bt_dict ?hr ?_ ?hn ?hd); (case hg => exact rfl); (case hm => exact Z.z_dict); (case hr => exact rfl); (case hn => decide); (case hd => decide)))
set_option hygiene false in
local macro_rules | `(tactic| walk_at "Cal") => `(tactic| first
  | ((with_reducible refine' r_callTy (x := "dict") (id := "dict") (call_dictA cx.calm cx.hu3) ?hg ?hm bt_dict ?_ ?hn ?hd ?he ?hp); (case hg => exact rfl); (case hm => exact Z.z_dict); (case hn => decide); (case hd => decide); (case he => exact rfl); (case hp => exact rfl)))
set_option hygiene false in
local macro_rules | `(tactic| walk_at "Rai") => `(tactic| first
  | fail)
set_option hygiene false in
local macro_rules | `(tactic| walk_at "Aug") => `(tactic| first
  | fail)
set_option hygiene false in
local macro_rules | `(tactic| walk_at "gv") => `(tactic| first
  | ((with_reducible refine' g_name 0 (x := "steps") cx.nd ?hi ?hx ?_ ?hf); (case hi => exact rfl); (case hx => walk_at "ll"); (case hf => first | exact .inl rfl | exact .inr rfl))
  | ((with_reducible refine' g_name 1 (x := "worths") cx.nd ?hi ?hx ?_ ?hf); (case hi => exact rfl); (case hx => walk_at "ll"); (case hf => first | exact .inl rfl | exact .inr rfl))
  | ((with_reducible refine' g_name 2 (x := "held") cx.nd ?hi ?hx ?_ ?hf); (case hi => exact rfl); (case hx => walk_at "ll"); (case hf => first | exact .inl rfl | exact .inr rfl))
  | ((with_reducible refine' g_name 3 (x := "rates") cx.nd ?hi ?hx ?_ ?hf); (case hi => exact rfl); (case hx => walk_at "ll"); (case hf => first | exact .inl rfl | exact .inr rfl))
  | ((with_reducible refine' g_name 4 (x := "step") cx.nd ?hi ?hx ?_ ?hf); (case hi => exact rfl); (case hx => walk_at "ll"); (case hf => first | exact .inl rfl | exact .inr rfl))
  | ((with_reducible refine' g_name 5 (x := "one") cx.nd ?hi ?hx ?_ ?hf); (case hi => exact rfl); (case hx => walk_at "ll"); (case hf => first | exact .inl rfl | exact .inr rfl))
  | ((with_reducible refine' g_name 6 (x := "two") cx.nd ?hi ?hx ?_ ?hf); (case hi => exact rfl); (case hx => walk_at "ll"); (case hf => first | exact .inl rfl | exact .inr rfl))
  | ((with_reducible refine' g_name 7 (x := "here") cx.nd ?hi ?hx ?_ ?hf); (case hi => exact rfl); (case hx => walk_at "ll"); (case hf => first | exact .inl rfl | exact .inr rfl))
  | ((with_reducible refine' g_name 8 (x := "there") cx.nd ?hi ?hx ?_ ?hf); (case hi => exact rfl); (case hx => walk_at "ll"); (case hf => first | exact .inl rfl | exact .inr rfl))
  | ((with_reducible refine' g_name 9 (x := "go") cx.nd ?hi ?hx ?_ ?hf); (case hi => exact rfl); (case hx => walk_at "ll"); (case hf => first | exact .inl rfl | exact .inr rfl))
  | ((with_reducible refine' g_name 10 (x := "back") cx.nd ?hi ?hx ?_ ?hf); (case hi => exact rfl); (case hx => walk_at "ll"); (case hf => first | exact .inl rfl | exact .inr rfl)))
set_option hygiene false in
local macro_rules | `(tactic| walk_at "cv") => `(tactic| first
  | ((with_reducible refine' r_lc (own := [("step", 4)]) (tg := .Name "step" _) cx.calm cx.nd ?hok (tg_name 4 (by decide)) ?hg ?_ ?hs); (case hok => exact blkOk_by (N := ["steps", "worths", "held", "rates", "step", "one", "two", "here", "there", "go", "back"]) (sc := defScope s__law_is_balanced) (by decide +kernel)); (case hg => exact fun _ _ _ _ _ => pg_name (i := 4) cx.nd rfl (Or.inl rfl)); (case hs => exact fun _ => rfl)))
set_option hygiene false in
local macro_rules | `(tactic| walk_at "cvO") => `(tactic| first
  | ((with_reducible refine' r_lcO (own := [("step", 4)]) (tg := .Name "step" _) cx.calm cx.nd ?hok (tg_name 4 (by decide)) ?hg ?_ ?hs); (case hok => exact blkOk_by (N := ["steps", "worths", "held", "rates", "step", "one", "two", "here", "there", "go", "back"]) (sc := defScope s__law_is_balanced) (by decide +kernel)); (case hg => exact fun _ _ _ _ _ => pg_name (i := 4) cx.nd rfl (Or.inl rfl)); (case hs => exact fun _ => rfl)))

theorem d__law_is_balanced (Z : Tx K mg) : Def3 P w K mg base T 1 false "_law_is_balanced" ["steps", "worths"] sp_bal := by
  obtain ⟨fd, F⟩ := Z.f__law_is_balanced
  refine def_ok F sc__law_is_balanced Z.g__law_is_balanced (fun ds G Q E h => ?_) fun A outer s H E O ds G Q3 E3 cx h => ?_
  · obtain ⟨a, b, c, d, n, ss, rfl, _⟩ := h; rfl
  · obtain ⟨a, b, c, d, n, ss, rfl, hp, n1, n2, q⟩ := h
    have nd : (ss.map (·.1)).Nodup := (hp.map (·.1)).nodup_iff.mpr (by rw [stepsU_keys]; exact kS_nodup (by omega))
    walk_at "bb"
    repeat (walk_at "xx")
    refine c_dictK (.inl (by rw [shares_es])) ?_
    rw [mergeD_nil (shEs_nodup n2)]
    repeat (walk_at "xx")
    walk_at "cv"
    refine i_list ?_
    repeat (walk_at "xx")
    refine ⟨_, _, .inl ⟨rfl, rfl⟩, ?_⟩
    have hl : ss.length = 2 * n.toNat := hp.length_eq.trans (stepsU_len ..)
    refine lc_mapX cx pairD (by rw [List.length_map, szl]; omega) (fun _ _ _ => trivial) (fun i x hx => ?_) ?_
    · rw [List.getElem?_map] at hx
      obtain ⟨e, _, rfl⟩ := Option.map_eq_some_iff.mp hx
      refine ⟨_, rfl, fun A1 h1 g1 s1 H1 Cc cl fp cx => ?_⟩
      repeat (first | walk_at "xx" | refine ix_t rfl ?_)
      exact ⟨rfl, rfl⟩
    repeat (walk_at "xx")
    refine c_dictT (es := ss.map kvE) (.inl (by rw [List.map_map, List.map_map]; rfl)) ?_
    rw [mergeD_nil (kv_nodup nd)]
    repeat (walk_at "xx")
    refine s_forK 3 cx.po cx.calm ⟨rfl, by decide, by decide⟩ (by walk_at "vv") rfl rfl (fun i σ' G' => G' = G ∧ ∃ o1 o2 o3 o4 o5 o6, σ' = [some (.lst (ss.map stepD)), some (.lst (sharesL a b c d n)), some (.dK (shEs a b c d n)), some (.dT (ss.map kvE)), none, o1, o2, o3, o4, o5, o6]) ⟨rfl, _, _, _, _, _, _, rfl⟩ (fun i x σ' G' hx hi => ?_) (fun σ' G' hi => ?_)
    · obtain ⟨rfl, o1, o2, o3, o4, o5, o6, rfl⟩ := hi
      rw [List.getElem?_map, List.getElem?_map] at hx
      obtain ⟨k1, hk1, rfl⟩ := Option.map_eq_some_iff.mp hx
      obtain ⟨e, he, rfl⟩ := Option.map_eq_some_iff.mp hk1
      obtain ⟨h1, c1, h2, c2, u1, w1, u2, w2, l1, l2, l3, l4, e1, e2, b1, b2⟩ := (bal_of hp n1 n2 (List.mem_of_getElem? he)).ex
      show xG _ _ _ _ (.tup [.str e.1.1, .str e.1.2]) _ _ _
      repeat (first | walk_at "xx" | refine ix_t rfl ?_ | refine ix_k rfl l1 ?_ | refine ix_k rfl l2 ?_ | refine ix_d rfl l3 ?_ | refine ix_d rfl l4 ?_)
      refine ⟨fun _ => ?_, fun z => by simp [e1] at z⟩
      repeat (first | walk_at "xx" | refine ix_t rfl ?_)
      refine ⟨fun z => by simp [e2] at z, fun _ => ?_⟩
      repeat (walk_at "xx")
      exact ⟨rfl, _, _, _, _, _, _, rfl⟩
    · obtain ⟨rfl, o1, o2, o3, o4, o5, o6, rfl⟩ := hi
      repeat (walk_at "xx")
      exact q
end
end K58
end
section
set_option maxHeartbeats 4000000
namespace K58
open PySem PySem.Spec PyProof.Rows L2 L3
local macro_rules | `(tactic| walk_at "sc") => `(tactic| first | omega | exact ⟨by omega, by omega⟩ | exact cmul_fmod (by decide) (by decide) | exact .inl ⟨by omega, by omega⟩ | exact .inr ⟨by omega, by omega⟩ | exact ⟨by omega, by omega, by omega⟩)
local macro_rules | `(tactic| walk_at "vv") => `(tactic| first | exact Or.inl rfl | exact Or.inr (Or.inl rfl) | exact Or.inr (Or.inr rfl))
local macro_rules | `(tactic| walk_at "ll") => `(tactic| first | exact Or.inl rfl | exact Or.inr rfl)
set_option hygiene false in
local macro_rules | `(tactic| walk_at "A") => `(tactic| first
  | ((with_reducible refine' a_cons ?_ ?hs); (case hs => exact rfl))
  | (with_reducible refine' a_nil ?_))
set_option hygiene false in
local macro_rules | `(tactic| walk_at "Con") => `(tactic| first
  | (with_reducible refine' r_int ?_)
  | (with_reducible refine' r_str ?_)
  | (with_reducible refine' r_non ?_)
  | (with_reducible refine' r_bl ?_))
set_option hygiene false in
local macro_rules | `(tactic| walk_at "Bin") => `(tactic| first
  | ((with_reducible show xE _ _ _ (.BinOp _ .Add _ _) _ _ _); (with_reducible refine' r_op op_addA ?_))
  | ((with_reducible show xE _ _ _ (.BinOp _ .Sub _ _) _ _ _); (with_reducible refine' r_op op_sub ?_))
  | ((with_reducible show xE _ _ _ (.BinOp _ .Mult _ _) _ _ _); (with_reducible refine' r_op op_mul ?_))
  | ((with_reducible show xE _ _ _ (.BinOp _ .FloorDiv _ _) _ _ _); (with_reducible refine' r_op op_fdivN ?_))
  | ((with_reducible show xE _ _ _ (.BinOp _ .Mod _ _) _ _ _); (with_reducible refine' r_op op_modN ?_))
  | ((with_reducible show xE _ _ _ (.BinOp _ .Pow _ _) _ _ _); (with_reducible refine' r_op op_pow ?_)))
set_option hygiene false in
local macro_rules | `(tactic| walk_at "Cmp") => `(tactic| first
  | ((with_reducible show xE _ _ _ (.Compare _ [.Lt] _ _) _ _ _); (with_reducible refine' r_cmp op_lt ?hm ?_); (case hm => exact rfl))
  | ((with_reducible show xE _ _ _ (.Compare _ [.LtE] _ _) _ _ _); (with_reducible refine' r_cmp op_le ?hm ?_); (case hm => exact rfl))
  | ((with_reducible show xE _ _ _ (.Compare _ [.Gt] _ _) _ _ _); (with_reducible refine' r_cmp op_gt ?hm ?_); (case hm => exact rfl))
  | ((with_reducible show xE _ _ _ (.Compare _ [.GtE] _ _) _ _ _); (with_reducible refine' r_cmp op_ge ?hm ?_); (case hm => exact rfl))
  | ((with_reducible show xE _ _ _ (.Compare _ [.Eq] _ _) _ _ _); (with_reducible refine' r_cmp (op_eqB cx.hu64) ?hm ?_); (case hm => exact rfl))
  | ((with_reducible show xE _ _ _ (.Compare _ [.NotEq] _ _) _ _ _); (with_reducible refine' r_cmp (op_neB cx.hu64) ?hm ?_); (case hm => exact rfl))
  | ((with_reducible show xE _ _ _ (.Compare _ [.Is] _ _) _ _ _); (with_reducible refine' r_cmp op_isN1 ?hm ?_); (case hm => exact rfl))
  | ((with_reducible show xE _ _ _ (.Compare _ [.IsNot] _ _) _ _ _); (with_reducible refine' r_cmp op_notN1 ?hm ?_); (case hm => exact rfl)))
set_option hygiene false in
local macro_rules | `(tactic| walk_at "TCmp") => `(tactic| first
  | ((with_reducible show xT _ _ _ (.Compare _ [.Lt] _ _) _ _ _); (with_reducible refine' t_cmp op_lt ?hm ?_); (case hm => exact rfl))
  | ((with_reducible show xT _ _ _ (.Compare _ [.LtE] _ _) _ _ _); (with_reducible refine' t_cmp op_le ?hm ?_); (case hm => exact rfl))
  | ((with_reducible show xT _ _ _ (.Compare _ [.Gt] _ _) _ _ _); (with_reducible refine' t_cmp op_gt ?hm ?_); (case hm => exact rfl))
  | ((with_reducible show xT _ _ _ (.Compare _ [.GtE] _ _) _ _ _); (with_reducible refine' t_cmp op_ge ?hm ?_); (case hm => exact rfl))
  | ((with_reducible show xT _ _ _ (.Compare _ [.Eq] _ _) _ _ _); (with_reducible refine' t_cmp (op_eqB cx.hu64) ?hm ?_); (case hm => exact rfl))
  | ((with_reducible show xT _ _ _ (.Compare _ [.NotEq] _ _) _ _ _); (with_reducible refine' t_cmp (op_neB cx.hu64) ?hm ?_); (case hm => exact rfl))
  | ((with_reducible show xT _ _ _ (.Compare _ [.Is] _ _) _ _ _); (with_reducible refine' t_cmp op_isN1 ?hm ?_); (case hm => exact rfl))
  | ((with_reducible show xT _ _ _ (.Compare _ [.IsNot] _ _) _ _ _); (with_reducible refine' t_cmp op_notN1 ?hm ?_); (case hm => exact rfl))
  | ((with_reducible show xT _ _ _ (.Compare _ [.LtE, .LtE] _ _) _ _ _); (with_reducible refine' t_chain op_le op_le ?_ ?hl); (case hl => exact rfl))
  | ((with_reducible show xT _ _ _ (.Compare _ [.Lt, .Lt] _ _) _ _ _); (with_reducible refine' t_chain op_lt op_lt ?_ ?hl); (case hl => exact rfl))
  | ((with_reducible show xT _ _ _ (.Compare _ [.LtE, .Lt] _ _) _ _ _); (with_reducible refine' t_chain op_le op_lt ?_ ?hl); (case hl => exact rfl))
  | ((with_reducible show xT _ _ _ (.Compare _ [.Lt, .LtE] _ _) _ _ _); (with_reducible refine' t_chain op_lt op_le ?_ ?hl); (case hl => exact rfl)))
set_option hygiene false in
local macro_rules | `(tactic| walk_at "E") => `(tactic| first
  | ((with_reducible show xE _ _ _ (.Name _ _) _ _ _); walk_at "Nam")
  | ((with_reducible show xE _ _ _ (.Constant _ _ _) _ _ _); walk_at "Con")
  | ((with_reducible show xE _ _ _ (.BinOp _ _ _ _) _ _ _); walk_at "Bin")
  | ((with_reducible show xE _ _ _ (.Call _ _ _ _) _ _ _); walk_at "Cal")
  | ((with_reducible show xE _ _ _ (.Tuple _ _ _) _ _ _); (with_reducible refine' r_tup ?_))
  | ((with_reducible show xE _ _ _ (.Subscript _ (.Slice _ _ _ _) _) _ _ _); (with_reducible refine' r_slice ?_))
  | ((with_reducible show xE _ _ _ (.Subscript _ _ _) _ _ _); (refine r_sub cx.hu ?_))
  | ((with_reducible show xE _ _ _ (.Compare _ _ _ _) _ _ _); walk_at "Cmp")
  | ((with_reducible show xE _ _ _ (.IfExp _ _ _ _) _ _ _); (with_reducible refine' r_if ?_))
  | ((with_reducible show xE _ _ _ (.UnaryOp .USub _ _) _ _ _); (with_reducible refine' r_un un_neg ?_))
  | ((with_reducible show xE _ _ _ (.UnaryOp .Not _ _) _ _ _); (with_reducible refine' r_not ?_))
  | ((with_reducible show xE _ _ _ (.BoolOp .And (_ :: _ :: _) _) _ _ _); (with_reducible refine' r_and ?_))
  | ((with_reducible show xE _ _ _ (.BoolOp .Or (_ :: _ :: _) _) _ _ _); (with_reducible refine' r_or ?_))
  | ((with_reducible show xE _ _ _ (.BoolOp _ [_] _) _ _ _); (with_reducible refine' r_one ?_)))
set_option hygiene false in
local macro_rules | `(tactic| walk_at "T") => `(tactic| first
  | ((with_reducible show xT _ _ _ (.Compare _ _ _ _) _ _ _); walk_at "TCmp")
  | ((with_reducible show xT _ _ _ (.UnaryOp .Not _ _) _ _ _); (with_reducible refine' t_not ?_))
  | ((with_reducible show xT _ _ _ (.BoolOp .And _ _) _ _ _); (with_reducible refine' t_w (t_and ?_)))
  | ((with_reducible show xT _ _ _ (.BoolOp .Or _ _) _ _ _); (with_reducible refine' t_w (t_or ?_)))
  | ((with_reducible show xT _ _ _ (.Call _ _ _ _) _ _ _); (with_reducible refine' t_val ?_ ?he); (case he => intro _; rfl))
  | ((with_reducible show xT _ _ _ (.ListComp _ _ _ _) _ _ _); fail)
  | ((with_reducible show xT _ _ _ (.Name _ _) _ _ _); fail)
  | ((with_reducible refine' t_val ?_ ?he); (case he => intro _; rfl)))
set_option hygiene false in
local macro_rules | `(tactic| walk_at "W") => `(tactic| first
  | (with_reducible refine' t_and ?_)
  | (with_reducible refine' t_or ?_)
  | (with_reducible refine' t_and1 ?_)
  | (with_reducible refine' t_or1 ?_))
set_option hygiene false in
local macro_rules | `(tactic| walk_at "S") => `(tactic| first
  | ((with_reducible show xS _ _ _ (.If _ _ _ _) _ _ _); (with_reducible refine' s_if ?_))
  | ((with_reducible show xS _ _ _ (.Assign [.Tuple [.Name _ _, .Name _ _] _ _] (.Tuple [_, _] _ _) _) _ _ _); walk_at "Par")
  | ((with_reducible show xS _ _ _ (.Assign _ _ _) _ _ _); (with_reducible refine' s_asg ?_ ?hs ?hw ?h1); (case hs => exact rfl); (case hw => exact rfl); (case h1 => exact rfl))
  | ((with_reducible show xS _ _ _ (.Return (some _) _) _ _ _); (with_reducible refine' s_ret ?_))
  | ((with_reducible show xS _ _ _ (.Expr _ _) _ _ _); (with_reducible refine' s_expr ?_ ?hs); (case hs => exact rfl))
  | ((with_reducible show xS _ _ _ (.For _ (.Call _ _ _ _) _ _ _) _ _ _); (with_reducible refine' s_for cx.po cx.calm ?_ ?hs); (case hs => exact fun _ => rfl))
  | ((with_reducible show xS _ _ _ (.Raise _ _ _) _ _ _); walk_at "Rai")
  | ((with_reducible show xS _ _ _ (.AugAssign _ _ _ _) _ _ _); walk_at "Aug")
  | (with_reducible refine' s_pass ?_)
  | (with_reducible refine' s_break ?_)
  | (with_reducible refine' s_cont ?_)
  | (with_reducible refine' s_retN ?_))
set_option hygiene false in
local macro_rules | `(tactic| walk_at "G") => `(tactic| first
  | ((with_reducible show xG _ _ _ (.Name _ _) _ _ _ _); walk_at "gv")
  | ((with_reducible show xG _ _ _ (.Tuple _ _ _) _ _ _ _); (with_reducible refine' g_tup cx.calm ?_ ?hn ?hst); (case hn => exact rfl); (case hst => exact rfl))
  | ((with_reducible show xG _ _ _ (.Subscript _ _ _) _ _ _ _); (refine g_sub cx.hu ?_)))
set_option hygiene false in
local macro_rules | `(tactic| walk_at "Gs") => `(tactic| first
  | ((with_reducible refine' gs_cons ?_ ?hs); (case hs => exact rfl))
  | (with_reducible refine' gs_nil ?_))
set_option hygiene false in
local macro_rules | `(tactic| walk_at "O") => `(tactic| first
  | (with_reducible refine' p_int ?_)
  | (with_reducible refine' o_int0 ?_)
  | (with_reducible refine' o_bl0 ?_)
  | ((with_reducible refine' o_int ?_ ?hc); (case hc => walk_at "sc"))
  | (with_reducible refine' o_int ?_ ?_)
  | (with_reducible refine' e_int ?_)
  | (with_reducible refine' n_int ?_)
  | (with_reducible refine' e_str ?_)
  | (with_reducible refine' n_str ?_)
  | (with_reducible refine' o_isN ?_)
  | (with_reducible refine' o_notN ?_)
  | (with_reducible refine' p_str ?_ ?_))
set_option hygiene false in
local macro_rules | `(tactic| walk_at "C") => `(tactic| first
  | (with_reducible refine' len_t ?_)
  | (with_reducible refine' len_l ?_)
  | (with_reducible refine' c_abs ?_)
  | (with_reducible refine' c_int ?_)
  | (with_reducible refine' c_intB ?_)
  | (with_reducible refine' c_min2 ?_)
  | (with_reducible refine' c_max2 ?_)
  | (with_reducible refine' c_str ?_ ?_))
set_option hygiene false in
local macro_rules | `(tactic| walk_at "S3") => `(tactic| first
  | (with_reducible refine' s_t ?_)
  | (with_reducible refine' s_s ?_ ?_))
set_option hygiene false in
local macro_rules | `(tactic| walk_at "bb") => `(tactic| first
  | (with_reducible refine b_cons ?_)
  | (with_reducible refine b_one ?_)
  | (with_reducible refine b_nil ?_)
  | (refine b_cons ?_)
  | (refine b_one ?_)
  | (refine b_nil ?_))
set_option hygiene false in
local macro_rules | `(tactic| walk_at "I") => `(tactic| first
  | ((with_reducible refine' i_range1 ?hg ?hm ?_ ?hs); (case hg => exact rfl); (case hm => exact Z.z_range); (case hs => exact rfl))
  | ((with_reducible refine' i_range2 ?hg ?hm ?_ ?hs ?hs2); (case hg => exact rfl); (case hm => exact Z.z_range); (case hs => exact rfl); (case hs2 => exact rfl)))
local macro_rules | `(tactic| walk_at "be") => `(tactic| first
  | (with_reducible refine b_cons ?_)
  | (with_reducible refine b_one ?_)
  | (with_reducible refine b_nil ?_))
local macro_rules | `(tactic| walk_at "gl") => `(tactic| (repeat (first | exact gset_same | assumption | (refine Eq.trans (gset_ne ?_) ?_; (first | assumption | (apply Ne.symm; assumption))))))
local macro_rules | `(tactic| walk_at "geq") => `(tactic| (funext q; simp only [gset, gdel]; (repeat' split); all_goals (first | rfl | (exfalso; simp_all; done) | (simp_all; done))))
set_option hygiene false in
local macro_rules | `(tactic| walk_at "M") => `(tactic| first
  | ((with_reducible refine' m_append ?hp ?_ ?_); (case hp => walk_at "gl")))
set_option hygiene false in
local macro_rules | `(tactic| walk_at "xx") => `(tactic| first
  | ((with_reducible show xE _ _ _ _ _ _ _); walk_at "E")
  | ((with_reducible show xA _ _ _ _ _ _ _); walk_at "A")
  | ((with_reducible show O3 _ _ _ _ _ _ _); walk_at "O")
  | ((with_reducible show C3 _ _ _ _ _ _); walk_at "C")
  | ((with_reducible show xS _ _ _ _ _ _ _); walk_at "S")
  | ((with_reducible show xB _ _ _ _ _ _ _); walk_at "be")
  | ((with_reducible show xT _ _ _ _ _ _ _); walk_at "T")
  | ((with_reducible show xW _ _ _ _ _ _ _); walk_at "W")
  | ((with_reducible show xG _ _ _ _ _ _ _ _); walk_at "G")
  | ((with_reducible show xGs _ _ _ _ _ _ _ _); walk_at "Gs")
  | ((with_reducible show U3 _ _ _ _ _ _); (with_reducible refine' u_int ?_))
  | ((with_reducible show S3 _ _ _ _ _ _ _ _); walk_at "S3")
  | ((with_reducible show xI _ _ _ _ _ _ _ _); walk_at "I")
  | ((with_reducible show _ ≤ sizeLine ∧ _); (with_reducible refine' len16 ?hL ?_); (case hL => exact rfl))
  | ((with_reducible show xP _ _ _ (some _) _ _ _); (with_reducible refine' x_some ?_))
  | ((with_reducible show xP _ _ _ none _ _ _); (with_reducible refine' x_no ?_))
  | ((with_reducible show tyM _ _ _ ∧ _); (refine' ⟨.inl ⟨rfl, _, ?hgl⟩, ?_⟩); (case hgl => walk_at "gl"))
  | ((with_reducible show M3 _ _ _ _ _ _ _); walk_at "M")
  | (with_reducible refine' ex_bl ?_)
  | (with_reducible refine' ex_int ?_)
  | (with_reducible refine' ex_str ?_)
  | (with_reducible refine' ex_tup ?_)
  | (with_reducible refine' br_f ?_)
  | (with_reducible refine' br_nt ?_)
  | (with_reducible refine' br_nf ?_)
  | (with_reducible refine' br_t ?_))
local macro_rules | `(tactic| walk_at "sd") => `(tactic| first | decide | omega | exact ⟨by decide, by decide⟩ | exact .inl ⟨by omega, by omega⟩ | exact .inr ⟨by omega, by omega⟩)
local macro_rules | `(tactic| walk_at "xn") => `(tactic| ((fail_if_success (with_reducible show xB _ _ _ (.If _ _ _ _ :: _ :: _) _ _ _)); walk_at "xx"))
local macro_rules | `(tactic| walk_at "xs") => `(tactic| ((fail_if_success (with_reducible show xB _ _ _ (_ :: _) _ _ _)); walk_at "xx"))
set_option hygiene false in
local macro_rules | `(tactic| walk_at "for") => `(tactic| ((with_reducible refine' s_for cx.po cx.calm ?_ ?hs); (case hs => exact fun _ => rfl)))
variable {P : Program} {w : World} {K : PySem.W.Frag} {mg : Str → Option Value} {base : Heap} {T : List (Addr × Str)}
def CL (K : PySem.W.Frag) : List MetC := [(He.ga K "BadNumber", "BadNumber", ["what", "number"]), (He.ga K "NotKept", "NotKept", ["promise", "witness"])]
theorem metW_kept (Z : Tx K mg) {x : D} {R : D → Prop} (h : R (.tup [.str "NotKept", .str "pay", x])) : metW K (CL K) (.ref (He.ga K "NotKept")) [("witness", x), ("promise", .str "pay")] R :=
  ⟨false, Z.e_NotKept_BadNumber, (fun z => nomatch z), fun _ => ⟨true, Z.e_NotKept_NotKept, fun _ => ⟨rfl, (fun z => nomatch z), [.str "pay", x], rfl, h⟩, (fun z => nomatch z)⟩⟩
theorem metW_num (Z : Tx K mg) {x : D} {what : Str} {R : D → Prop} (h : R (.tup [.str "BadNumber", .str what, x])) : metW K (CL K) (.ref (He.ga K "BadNumber")) [("number", x), ("what", .str what)] R :=
  ⟨true, Z.e_BadNumber_BadNumber, fun _ => ⟨rfl, (fun z => nomatch z), [.str what, x], rfl, h⟩, (fun z => nomatch z)⟩
def sp_fail (K : PySem.W.Frag) : Sp3 := fun ds G Q E => ∃ pay many, ds = [pay, many] ∧ okP pay = true ∧ okP many = true ∧ (payOk pay = false → eKept K pay E G) ∧ (payOk pay = true → manyOk many = false ∧ eNum K "many" many E G)
theorem fail_C {pay many : D} {G : Gm} {E : Value → List (Str × D) → Gm → Prop} {R : Int → Int → Int → Int → Int → Prop} (h1 : okP pay = true) (h2 : okP many = true) (h3 : payOk pay = false → eKept K pay E G) (h4 : payOk pay = true → manyOk many = false ∧ eNum K "many" many E G) : spC K pay many G E R :=
  ⟨h1, h2, h3, fun p _ => (h4 p).2, fun p m => by rw [(h4 p).1] at m; cases m⟩
theorem fail_against (ds : List D) (G : Gm) (Q : D → Gm → Prop) (E : Value → List (Str × D) → Gm → Prop) (h : sp_fail K ds G Q E) : sp_against K ds G Q E := by
  obtain ⟨pay, many, rfl, h1, h2, h3, h4⟩ := h; exact ⟨pay, many, rfl, fail_C h1 h2 h3 h4⟩
theorem fail_conventions (ds : List D) (G : Gm) (Q : D → Gm → Prop) (E : Value → List (Str × D) → Gm → Prop) (h : sp_fail K ds G Q E) : sp_conv K ds G Q E := by
  obtain ⟨pay, many, rfl, h1, h2, h3, h4⟩ := h; exact ⟨pay, many, rfl, fail_C h1 h2 h3 h4⟩
theorem fail_crowd (ds : List D) (G : Gm) (Q : D → Gm → Prop) (E : Value → List (Str × D) → Gm → Prop) (h : sp_fail K ds G Q E) : sp_crowd K ds G Q E := by
  obtain ⟨pay, many, rfl, h1, h2, h3, h4⟩ := h; exact ⟨pay, many, rfl, fail_C h1 h2 h3 h4⟩
theorem fail_heights (ds : List D) (G : Gm) (Q : D → Gm → Prop) (E : Value → List (Str × D) → Gm → Prop) (h : sp_fail K ds G Q E) : sp_heights K ds G Q E := by
  obtain ⟨pay, many, rfl, h1, h2, h3, h4⟩ := h; exact ⟨pay, many, rfl, fail_C h1 h2 h3 h4⟩
theorem fail_shares (ds : List D) (G : Gm) (Q : D → Gm → Prop) (E : Value → List (Str × D) → Gm → Prop) (h : sp_fail K ds G Q E) : sp_shares K ds G Q E := by
  obtain ⟨pay, many, rfl, h1, h2, h3, h4⟩ := h; exact ⟨pay, many, rfl, fail_C h1 h2 h3 h4⟩
theorem ref_mem {K : PySem.W.Frag} : ((He.cT K ("_law_refused_right", none)).2, lamQ "_law_refused_right") ∈ tabsOf K tfs := List.mem_map.mpr ⟨("_law_refused_right", none), List.mem_cons_of_mem _ (List.mem_cons_self ..), rfl⟩
def sp_refused : Sp3 := fun ds G Q _ => ∃ (p : Addr) (a b c d n : Int), ds = [.raw (.ref p), payD a b c d, .int n] ∧ (a.natAbs < 3000000000 ∧ b.natAbs < 3000000000 ∧ c.natAbs < 3000000000 ∧ d.natAbs < 3000000000) ∧ 1 ≤ n ∧ n ≤ 60 ∧ Q (.bl true) G
theorem ok0 : (("0" : Str).cps.toList.all fun c => decide (c < 16 ^ 8)) = true := by decide +kernel
theorem le0 : (Str.ofString "0").length = 1 := rfl
theorem row3 {s1 s2 : Str} {y : D} (h1 : okD (.str s1) = true) (h2 : okD (.str s2) = true) (l1 : s1.length ≤ 100) (l2 : s2.length ≤ 100) (k3 : okD y = true) (k4 : wsz y ≤ 10000) (k5 : dpD y ≤ 20) : okD (.tup [.str s1, .str s2, y]) = true ∧ wsz (.tup [.str s1, .str s2, y]) ≤ 16000000 ∧ dpD (.tup [.str s1, .str s2, y]) ≤ 100 := by
  refine ⟨?_, ?_, ?_⟩
  · show (okD _ && (okD _ && (okD y && true))) = true
    rw [h1, h2, k3]; rfl
  · show (10 * s1.length + 2) + 2 + ((10 * s2.length + 2) + 2 + (wsz y + 2 + 0)) + 3 ≤ _
    omega
  · show max 0 (max 0 (max (dpD y) 0)) + 1 ≤ 100
    omega
theorem okNotKept : okD (.str "NotKept") = true := by decide +kernel
theorem okBadNumber : okD (.str "BadNumber") = true := by decide +kernel
theorem okPay : okD (.str "pay") = true := by decide +kernel
theorem okMany : okD (.str "many") = true := by decide +kernel
theorem okM : okD (.str "m") = true := by decide +kernel
theorem met_okZ (Z : Tx K mg) {X : Cx} (hK : X.K = K) (hm : X.mg = mg) {q : Str} : LamX.GivesTo X ["call", "e"] "_law_met" (defScope s__law_met) (He.ga K "_law_met") (.ref (He.codeOf K ("_law_met", none))) (defBody s__law_met) "call" q (TMet X.K (CL K)) := by
  subst hK hm
  exact met_gives rfl (by decide) rfl (fun s H => met_two (met_two met_nil ⟨rfl, by decide, .inl Z.gc_NotKept⟩ (excB_no Z.x_NotKept).2 ((excB_no Z.x_NotKept).1 _ (by simp)) ((excB_no Z.x_NotKept).1 _ (by simp)) rfl (by walk_at "vv") (by decide) (by decide)) ⟨rfl, by decide, .inl Z.gc_BadNumber⟩ (excB_no Z.x_BadNumber).2 ((excB_no Z.x_BadNumber).1 _ (by simp)) ((excB_no Z.x_BadNumber).1 _ (by simp)) rfl (by walk_at "vv") (by decide) (by decide))
theorem oddM_of (y : D) (h : y ∈ [D.non, D.int 0, D.int 100, D.int (-1), D.bl true, D.str "3"]) : okP y = true ∧ manyOk y = false ∧ okD y = true ∧ wsz y ≤ 10000 ∧ dpD y ≤ 20 := by
  simp only [List.mem_cons, List.not_mem_nil, or_false] at h
  rcases h with rfl | rfl | rfl | rfl | rfl | rfl
  all_goals exact ⟨rfl, by decide, by decide +kernel, by decide +kernel, by decide⟩
theorem oddN_of {n : Int} (n1 : 1 ≤ n) (n2 : n ≤ 60) (y : D) (h : y ∈ [D.non, D.int (-1), D.int n, D.bl true, D.str "0"]) : okP y = true ∧ mOk y n = false ∧ okD y = true ∧ wsz y ≤ 10000 ∧ dpD y ≤ 20 := by
  have l := lgN (n := n.natAbs) (by omega)
  simp only [List.mem_cons, List.not_mem_nil, or_false] at h
  rcases h with rfl | rfl | rfl | rfl | rfl
  · exact ⟨rfl, rfl, rfl, by decide, by decide⟩
  · exact ⟨rfl, rfl, by decide +kernel, by decide +kernel, by decide⟩
  · exact ⟨rfl, by simp [mOk], by simp [okD]; omega, by simp [wsz]; omega, Nat.zero_le _⟩
  · exact ⟨rfl, rfl, rfl, by decide, by decide⟩
  · exact ⟨rfl, rfl, by decide +kernel, by decide +kernel, by decide⟩
def OddOk (x : D) : Prop := okP x = true ∧ payOk x = false ∧ okD x = true ∧ wsz x ≤ 10000 ∧ dpD x ≤ 20
section
set_option hygiene false in
local macro_rules | `(tactic| walk_at "Par") => `(tactic| first
  | fail)
set_option hygiene false in
local macro_rules | `(tactic| walk_at "Nam") => `(tactic| first
  | ((with_reducible refine' r_var 1 (x := "pay") ?hN ?hv ?hs ?_); (case hN => exact ⟨rfl, by decide, by decide⟩); (case hv => walk_at "vv"); (case hs => exact rfl))
  | ((with_reducible refine' r_var 2 (x := "many") ?hN ?hv ?hs ?_); (case hN => exact ⟨rfl, by decide, by decide⟩); (case hv => walk_at "vv"); (case hs => exact rfl))
  | ((with_reducible refine' r_var 3 (x := "calls") ?hN ?hv ?hs ?_); (case hN => exact ⟨rfl, by decide, by decide⟩); (case hv => walk_at "vv"); (case hs => exact rfl))
  | ((with_reducible refine' r_var 4 (x := "a") ?hN ?hv ?hs ?_); (case hN => exact ⟨rfl, by decide, by decide⟩); (case hv => walk_at "vv"); (case hs => exact rfl))
  | ((with_reducible refine' r_var 5 (x := "b") ?hN ?hv ?hs ?_); (case hN => exact ⟨rfl, by decide, by decide⟩); (case hv => walk_at "vv"); (case hs => exact rfl))
  | ((with_reducible refine' r_var 6 (x := "low") ?hN ?hv ?hs ?_); (case hN => exact ⟨rfl, by decide, by decide⟩); (case hv => walk_at "vv"); (case hs => exact rfl))
  | ((with_reducible refine' r_var 7 (x := "odds") ?hN ?hv ?hs ?_); (case hN => exact ⟨rfl, by decide, by decide⟩); (case hv => walk_at "vv"); (case hs => exact rfl))
  | ((with_reducible refine' r_var 8 (x := "call") ?hN ?hv ?hs ?_); (case hN => exact ⟨rfl, by decide, by decide⟩); (case hv => walk_at "vv"); (case hs => exact rfl))
  | ((with_reducible refine' r_var 9 (x := "odd") ?hN ?hv ?hs ?_); (case hN => exact ⟨rfl, by decide, by decide⟩); (case hv => walk_at "vv"); (case hs => exact rfl))
  | ((with_reducible refine' r_defv (x := "against") ?hm ?hg ?_ ?hd); (case hm => exact Z.g_against); (case hg => first | exact (fun z => z) | exact rfl); (case hd => decide))
  | ((with_reducible refine' r_defv (x := "conventions") ?hm ?hg ?_ ?hd); (case hm => exact Z.g_conventions); (case hg => first | exact (fun z => z) | exact rfl); (case hd => decide))
  | ((with_reducible refine' r_defv (x := "crowd") ?hm ?hg ?_ ?hd); (case hm => exact Z.g_crowd); (case hg => first | exact (fun z => z) | exact rfl); (case hd => decide))
  | ((with_reducible refine' r_defv (x := "crowd_heights") ?hm ?hg ?_ ?hd); (case hm => exact Z.g_crowd_heights); (case hg => first | exact (fun z => z) | exact rfl); (case hd => decide))
  | ((with_reducible refine' r_defv (x := "crowd_shares") ?hm ?hg ?_ ?hd); (case hm => exact Z.g_crowd_shares); (case hg => first | exact (fun z => z) | exact rfl); (case hd => decide))
  | ((with_reducible refine' r_bltn (x := "list") (v := .ty "list") ?hg ?hm bt_list ?hr ?_ ?hn ?hd); (case hg => exact rfl); (case hm => exact Z.z_list); (case hr => exact rfl); (case hn => decide); (case hd => decide))
  | ((with_reducible refine' r_defv (x := "gain") ?hm ?hg ?_ ?hd); (case hm => exact Z.g_gain); (case hg => first | exact (fun z => z) | exact rfl); (case hd => decide))
  | ((with_reducible refine' r_defv (x := "_law_met") ?hm ?hg ?_ ?hd); (case hm => exact Z.g__law_met); (case hg => first | exact (fun z => z) | exact rfl); (case hd => decide)))
set_option hygiene false in
local macro_rules | `(tactic| walk_at "Cal") => `(tactic| first
  | ((with_reducible refine' r_callTy (x := "list") (id := "list") call_listOf ?hg ?hm bt_list ?_ ?hn ?hd ?he ?hp); (case hg => exact rfl); (case hm => exact Z.z_list); (case hn => decide); (case hd => decide); (case he => exact rfl); (case hp => exact rfl))
  | ((with_reducible refine' r_call (x := "gain") cx ?hF ?hk ?hg ?hm ?_ ?hd ?he ?hp); (case hF => first | exact d_gain Z | exact d_gain Z TB); (case hk => decide); (case hg => first | exact (fun z => z) | exact (fun z => nomatch z)); (case hm => exact rfl); (case hd => decide); (case he => exact rfl); (case hp => exact rfl))
  | ((with_reducible refine' r_callB (x := "repr") (id := "repr") (call_reprD (cx.gd rfl) cx.ru) ?hg ?hm bt_repr ?_ ?hn ?hd ?he ?hp); (case hg => exact rfl); (case hm => exact Z.z_repr); (case hn => decide); (case hd => decide); (case he => exact rfl); (case hp => exact rfl))
  | ((with_reducible refine' r_call (x := "_law_met") cx ?hF ?hk ?hg ?hm ?_ ?hd ?he ?hp); (case hF => first | exact d__law_met Z | exact d__law_met Z TB); (case hk => decide); (case hg => first | exact (fun z => z) | exact (fun z => nomatch z)); (case hm => exact rfl); (case hd => decide); (case he => exact rfl); (case hp => exact rfl)))
set_option hygiene false in
local macro_rules | `(tactic| walk_at "Rai") => `(tactic| first
  | fail)
set_option hygiene false in
local macro_rules | `(tactic| walk_at "Aug") => `(tactic| first
  | fail)
set_option hygiene false in
local macro_rules | `(tactic| walk_at "gv") => `(tactic| first
  | ((with_reducible refine' g_name 0 (x := "pen") cx.nd ?hi ?hx ?_ ?hf); (case hi => exact rfl); (case hx => walk_at "ll"); (case hf => first | exact .inl rfl | exact .inr rfl))
  | ((with_reducible refine' g_name 1 (x := "pay") cx.nd ?hi ?hx ?_ ?hf); (case hi => exact rfl); (case hx => walk_at "ll"); (case hf => first | exact .inl rfl | exact .inr rfl))
  | ((with_reducible refine' g_name 2 (x := "many") cx.nd ?hi ?hx ?_ ?hf); (case hi => exact rfl); (case hx => walk_at "ll"); (case hf => first | exact .inl rfl | exact .inr rfl))
  | ((with_reducible refine' g_name 3 (x := "calls") cx.nd ?hi ?hx ?_ ?hf); (case hi => exact rfl); (case hx => walk_at "ll"); (case hf => first | exact .inl rfl | exact .inr rfl))
  | ((with_reducible refine' g_name 4 (x := "a") cx.nd ?hi ?hx ?_ ?hf); (case hi => exact rfl); (case hx => walk_at "ll"); (case hf => first | exact .inl rfl | exact .inr rfl))
  | ((with_reducible refine' g_name 5 (x := "b") cx.nd ?hi ?hx ?_ ?hf); (case hi => exact rfl); (case hx => walk_at "ll"); (case hf => first | exact .inl rfl | exact .inr rfl))
  | ((with_reducible refine' g_name 6 (x := "low") cx.nd ?hi ?hx ?_ ?hf); (case hi => exact rfl); (case hx => walk_at "ll"); (case hf => first | exact .inl rfl | exact .inr rfl))
  | ((with_reducible refine' g_name 7 (x := "odds") cx.nd ?hi ?hx ?_ ?hf); (case hi => exact rfl); (case hx => walk_at "ll"); (case hf => first | exact .inl rfl | exact .inr rfl))
  | ((with_reducible refine' g_name 8 (x := "call") cx.nd ?hi ?hx ?_ ?hf); (case hi => exact rfl); (case hx => walk_at "ll"); (case hf => first | exact .inl rfl | exact .inr rfl))
  | ((with_reducible refine' g_name 9 (x := "odd") cx.nd ?hi ?hx ?_ ?hf); (case hi => exact rfl); (case hx => walk_at "ll"); (case hf => first | exact .inl rfl | exact .inr rfl)))

theorem d__law_refused_right (Z : Tx K mg) (TB : TBs K mg base) : Def3 P w K mg base (tabsOf K tfs) 8 true "_law_refused_right" ["pen", "pay", "many"] sp_refused := by
  obtain ⟨fd, F⟩ := Z.f__law_refused_right
  refine def_ok F sc__law_refused_right Z.g__law_refused_right (fun ds G Q E h => ?_) fun A outer s H E O ds G Q3 E3 cx h => ?_
  · obtain ⟨p, a, b, c, d, n, rfl, _⟩ := h; rfl
  · obtain ⟨p, a, b, c, d, n, rfl, hb, n1, n2, q⟩ := h
    have cx0 := cx
    refine b_cut (fun σ1 G1 => ∃ cs, σ1 = [some (.raw (.ref p)), some (payD a b c d), some (.int n), some (.lst cs), none, none, none, none, none, none] ∧ G = G1 ∧ ∀ x ∈ cs, Callee P w K mg base (tabsOf K tfs) 5 (sp_fail K) x) ?_ ?_
    · repeat (first | walk_at "xs" | refine r_lst ?_)
      refine r_lam (TB ("_law_refused_right", none) (List.mem_cons_of_mem _ (List.mem_cons_self ..))) rfl ref_mem (nodup_fst Z.td ref_mem) rfl (by decide) ?_
      repeat (first | walk_at "xs")
      refine ⟨_, rfl, rfl, fun x hx => ?_⟩
      simp only [List.mem_cons, List.not_mem_nil, or_false] at hx
      rcases hx with rfl | rfl | rfl | rfl | rfl | rfl
      · exact .fn ((d_against Z).weak fail_against) Z.g_against (by decide)
      · exact .fn ((d_conventions Z).weak fail_conventions) Z.g_conventions (by decide)
      · exact .fn ((d_crowd Z).weak fail_crowd) Z.g_crowd (by decide)
      · exact .fn ((d_crowd_heights Z).weak fail_heights) Z.g_crowd_heights (by decide)
      · exact .fn ((d_crowd_shares Z).weak fail_shares) Z.g_crowd_shares (by decide)
      · refine .lam (j := 4) (N := ["one", "two"]) (ps := ["one", "two"]) ⟨?sc, fun _ _ _ us hl => match us, hl with | [_, _], _ => rfl, fun ds G Q E h => ?_, fun ds G Q E h f d A outer s H Ex O' cx => ?_⟩ (by decide)
        case sc => dsimp only; exact ⟨rfl, rfl, rfl, by decide +kernel, rfl, by decide +kernel, by decide +kernel⟩
        · obtain ⟨pay, many, rfl, _⟩ := h; rfl
        · obtain ⟨pay, many, rfl, h1, h2, h3, h4⟩ := h
          dsimp only at cx ⊢
          refine r_call (x := "gain") cx (d_gain Z) (by decide) (fun z => z) rfl ?_
          refine a_cons (r_var 0 (x := "one") ⟨rfl, by decide, by decide⟩ (by walk_at "vv") rfl ?_)
          refine a_cons (r_var 1 (x := "two") ⟨rfl, by decide, by decide⟩ (by walk_at "vv") rfl ?_)
          repeat (walk_at "xs")
          exact ⟨pay, many, .non, rfl, rfl, fail_C h1 h2 h3 h4⟩
    · rintro _ _ ⟨cs, rfl, rfl, hcs⟩
      walk_at "be"
      repeat (walk_at "xs")
      walk_at "be"
      repeat (first | walk_at "xs" | refine r_lst ?_ | refine c_list (.inl rfl) ?_ | refine p_tup ?_ ?_)
      rotate_left
      · rw [szl]; show 3 ≤ _; decide
      refine b_cut (fun σ1 G1 => ∃ os, σ1 = [some (.raw (.ref p)), some (payD a b c d), some (.int n), some (.lst cs), some (.int a), some (.int b), some (.tup [.int c, .int d]), some (.lst os), none, none] ∧ G = G1 ∧ ∀ x ∈ os, OddOk x) ?_ ?_
      · repeat (first | walk_at "xs" | refine r_lst ?_ | refine ix_t rfl ?_ | refine p_lst (.inl rfl) (.inl rfl) ?_ ?_)
        rotate_left
        · rw [szl]; show 11 ≤ _; decide
        refine ⟨_, rfl, rfl, fun x hx => ?_⟩
        have la := lgN (n := a.natAbs) (by omega)
        have lb := lgN (n := b.natAbs) (by omega)
        have lc := lgN (n := c.natAbs) (by omega)
        have ld := lgN (n := d.natAbs) (by omega)
        have z0 : ((0 : Int).natAbs).log2 = 0 := rfl
        simp only [List.mem_append, List.mem_cons, List.not_mem_nil, or_false] at hx
        rcases hx with (rfl | rfl | rfl | rfl | rfl | rfl | rfl | rfl) | rfl | rfl | rfl
        all_goals
          refine ⟨rfl, ?_, ?_, ?_, Nat.le_of_ble_eq_true rfl⟩
        all_goals first
          | rfl
          | (simp [payOk, rowOk, itemsD, wh, wholeD, okD, oksD, wsz, wszs, L3.cutD, HT.sIx, payD]; done)
          | (simp [payOk, rowOk, itemsD, wh, wholeD, okD, oksD, wsz, wszs, L3.cutD, HT.sIx, payD]; omega)
          | (simp only [okD, oksD, ok0, Bool.and_true, Bool.true_and, Bool.and_eq_true, decide_eq_true_eq]; omega)
          | (simp only [wsz, wszs, le0]; omega)
      · rintro _ _ ⟨os, rfl, rfl, hos⟩
        walk_at "be"
        walk_at "for"
        refine i_list ?_
        repeat (walk_at "xx")
        refine ⟨_, _, .inl ⟨rfl, rfl⟩, ?_⟩
        refine ⟨fun i σ' G' => G = G' ∧ ∃ o1 o2, σ' = [some (.raw (.ref p)), some (payD a b c d), some (.int n), some (.lst cs), some (.int a), some (.int b), some (.tup [.int c, .int d]), some (.lst os), o1, o2], ⟨rfl, _, _, rfl⟩, fun _ _ _ _ _ => trivial, fun i x σ' G' hx hi => ?_, fun σ' G' hi => ?_⟩
        · obtain ⟨rfl, o1, o2, rfl⟩ := hi
          have hcall := hcs x (List.mem_of_getElem? hx)
          repeat (walk_at "xx")
          walk_at "for"
          refine i_list ?_
          repeat (walk_at "xx")
          refine ⟨_, _, .inl ⟨rfl, rfl⟩, ?_⟩
          refine ⟨fun i σ' G' => G = G' ∧ ∃ o2, σ' = [some (.raw (.ref p)), some (payD a b c d), some (.int n), some (.lst cs), some (.int a), some (.int b), some (.tup [.int c, .int d]), some (.lst os), some x, o2], ⟨rfl, _, rfl⟩, fun _ _ _ _ _ => trivial, fun i y σ' G' hy hi => ?_, fun σ' G' hi => ?_⟩
          · obtain ⟨rfl, o2, rfl⟩ := hi
            obtain ⟨k1, k2, k3, k4, k5⟩ := hos y (List.mem_of_getElem? hy)
            repeat (walk_at "xx")
            obtain ⟨fdm, Fm⟩ := Z.f__law_met
            refine r_met (CL := CL K) (a := "call") (e := "e") Fm Z.g__law_met sc__law_met (by walk_at "vv") (met_okZ Z rfl rfl) cx rfl (TB ("_law_refused_right", none) (List.mem_cons_of_mem _ (List.mem_cons_self ..))) rfl ref_mem (nodup_fst Z.td ref_mem) (LamX.lamS_by (show LamX.lamSB (defScope s__law_refused_right) _ = true from by decide +kernel)) rfl (fun _ _ _ _ _ => rfl) (fun A outer s H0 E f c' O' cx => ?_)
            refine r_callD 8 cx hcall ⟨rfl, by decide, by decide⟩ (by walk_at "vv") rfl ?_
            refine a_cons (r_var 9 (x := "odd") ⟨rfl, by decide, by decide⟩ (by walk_at "vv") rfl ?_)
            repeat (walk_at "xs")
            refine ⟨y, .non, rfl, k1, rfl, fun _ => ?_, fun z => by rw [k2] at z; cases z⟩
            show metW _ _ _ _ _
            refine metW_kept Z ?_
            clear cx
            have cx := cx0
            repeat (walk_at "xs")
            have rr := row3 okNotKept okPay (by decide) (by decide) k3 k4 k5
            refine c_repr ?_ rr.1 rr.2.1 rr.2.2
            repeat (walk_at "xs")
            refine c_repr ?_ rr.1 rr.2.1 rr.2.2
            repeat (walk_at "xs")
            refine ⟨fun z => by simp at z, fun _ => ?_⟩
            repeat (walk_at "xx")
            exact ⟨rfl, _, rfl⟩
          · obtain ⟨rfl, o2, rfl⟩ := hi
            walk_at "be"
            walk_at "for"
            refine i_list ?_
            repeat (first | walk_at "xx" | refine r_lst ?_)
            refine ⟨_, _, .inl ⟨rfl, rfl⟩, ?_⟩
            refine ⟨fun i σ' G' => G = G' ∧ ∃ o2, σ' = [some (.raw (.ref p)), some (payD a b c d), some (.int n), some (.lst cs), some (.int a), some (.int b), some (.tup [.int c, .int d]), some (.lst os), some x, o2], ⟨rfl, _, rfl⟩, fun _ _ _ _ _ => trivial, fun i y σ' G' hy hi => ?_, fun σ' G' hi => ?_⟩
            · obtain ⟨rfl, o2, rfl⟩ := hi
              obtain ⟨k1, k2, k3, k4, k5⟩ := oddM_of y (List.mem_of_getElem? hy)
              repeat (walk_at "xx")
              obtain ⟨fdm, Fm⟩ := Z.f__law_met
              refine r_met (CL := CL K) (a := "call") (e := "e") Fm Z.g__law_met sc__law_met (by walk_at "vv") (met_okZ Z rfl rfl) cx rfl (TB ("_law_refused_right", none) (List.mem_cons_of_mem _ (List.mem_cons_self ..))) rfl ref_mem (nodup_fst Z.td ref_mem) (LamX.lamS_by (show LamX.lamSB (defScope s__law_refused_right) _ = true from by decide +kernel)) rfl (fun _ _ _ _ _ => rfl) (fun A outer s H0 E f c' O' cx => ?_)
              refine r_callD 8 cx hcall ⟨rfl, by decide, by decide⟩ (by walk_at "vv") rfl ?_
              refine a_cons (r_var 1 (x := "pay") ⟨rfl, by decide, by decide⟩ (by walk_at "vv") rfl ?_)
              refine a_cons (r_var 9 (x := "odd") ⟨rfl, by decide, by decide⟩ (by walk_at "vv") rfl ?_)
              repeat (walk_at "xs")
              refine ⟨_, y, rfl, rfl, k1, (fun z => nomatch z), fun _ => ⟨k2, ?_⟩⟩
              show metW _ _ _ _ _
              refine metW_num Z ?_
              clear cx
              have cx := cx0
              repeat (walk_at "xs")
              have rr := row3 okBadNumber okMany (by decide) (by decide) k3 k4 k5
              refine c_repr ?_ rr.1 rr.2.1 rr.2.2
              repeat (walk_at "xs")
              refine c_repr ?_ rr.1 rr.2.1 rr.2.2
              repeat (walk_at "xs")
              refine ⟨fun z => by simp at z, fun _ => ?_⟩
              repeat (walk_at "xx")
              exact ⟨rfl, _, rfl⟩
            · obtain ⟨rfl, o2, rfl⟩ := hi
              repeat (walk_at "xx")
              exact ⟨rfl, _, _, rfl⟩
        · obtain ⟨rfl, o1, o2, rfl⟩ := hi
          walk_at "be"
          walk_at "for"
          refine i_list ?_
          repeat (first | walk_at "xx" | refine r_lst ?_)
          refine ⟨_, _, .inl ⟨rfl, rfl⟩, ?_⟩
          refine ⟨fun i σ' G' => G = G' ∧ ∃ o1 o2, σ' = [some (.raw (.ref p)), some (payD a b c d), some (.int n), some (.lst cs), some (.int a), some (.int b), some (.tup [.int c, .int d]), some (.lst os), o1, o2], ⟨rfl, _, _, rfl⟩, fun _ _ _ _ _ => trivial, fun i y σ' G' hy hi => ?_, fun σ' G' hi => ?_⟩
          · obtain ⟨rfl, o1, o2, rfl⟩ := hi
            obtain ⟨k1, k2, k3, k4, k5⟩ := oddN_of n1 n2 y (List.mem_of_getElem? hy)
            repeat (walk_at "xx")
            obtain ⟨fdm, Fm⟩ := Z.f__law_met
            refine r_met (CL := CL K) (a := "call") (e := "e") Fm Z.g__law_met sc__law_met (by walk_at "vv") (met_okZ Z rfl rfl) cx rfl (TB ("_law_refused_right", none) (List.mem_cons_of_mem _ (List.mem_cons_self ..))) rfl ref_mem (nodup_fst Z.td ref_mem) (LamX.lamS_by (show LamX.lamSB (defScope s__law_refused_right) _ = true from by decide +kernel)) rfl (fun _ _ _ _ _ => rfl) (fun A outer s H0 E f c' O' cx => ?_)
            refine r_call (x := "gain") cx (d_gain Z) (by decide) (fun z => z) rfl ?_
            refine a_cons (r_var 1 (x := "pay") ⟨rfl, by decide, by decide⟩ (by walk_at "vv") rfl ?_)
            refine a_cons (r_var 2 (x := "many") ⟨rfl, by decide, by decide⟩ (by walk_at "vv") rfl ?_)
            refine a_cons (r_var 9 (x := "odd") ⟨rfl, by decide, by decide⟩ (by walk_at "vv") rfl ?_)
            repeat (walk_at "xs")
            refine ⟨_, _, y, rfl, k1, rfl, rfl, (fun z => nomatch z), fun _ z => ?_, fun _ _ a' b' c' d' n' _ e2 _ _ => ?_⟩
            · have : manyOk (.int n) = true := by simp [manyOk, n1]; omega
              rw [this] at z; cases z
            cases e2
            refine ⟨fun _ => ?_, fun i e _ h => ?_⟩
            rotate_left
            · subst e; simp [mOk] at k2; omega
            show metW _ _ _ _ _
            refine metW_num Z ?_
            clear cx
            have cx := cx0
            repeat (walk_at "xs")
            have rr := row3 okBadNumber okM (by decide) (by decide) k3 k4 k5
            refine c_repr ?_ rr.1 rr.2.1 rr.2.2
            repeat (walk_at "xs")
            refine c_repr ?_ rr.1 rr.2.1 rr.2.2
            repeat (walk_at "xs")
            refine ⟨fun z => by simp at z, fun _ => ?_⟩
            repeat (walk_at "xx")
            exact ⟨rfl, _, _, rfl⟩
          · obtain ⟨rfl, o1, o2, rfl⟩ := hi
            repeat (walk_at "xx")
            exact q
end
end K58
end
section
set_option maxHeartbeats 4000000
namespace K58
open PySem PySem.Spec PyProof.Rows L2 L3
section
variable {a b c d n : Int}
theorem gain_lin (m : Int) : gainI a b c d n m = (n - 1) * (c - a) + m * ((d - b) - (c - a)) := by
  unfold gainI
  simp only [Int.mul_sub, Int.sub_mul]
  omega
theorem gain_mono (h0 : gainI a b c d n 0 < 0) (h1 : 0 < gainI a b c d n (n - 1)) (hn : 1 ≤ n) {i j : Int} (h : i ≤ j) : gainI a b c d n i ≤ gainI a b c d n j := by
  rw [gain_lin] at h0 h1 ⊢
  rw [gain_lin]
  have hB : 0 < (d - b) - (c - a) := by
    refine Int.not_le.mp fun z => ?_
    have := Int.mul_nonneg (show 0 ≤ n - 1 by omega) (show 0 ≤ -((d - b) - (c - a)) by omega)
    rw [Int.mul_neg] at this
    omega
  have := Int.mul_le_mul_of_nonneg_right h (Int.le_of_lt hB)
  omega
theorem lev_up {k : Nat} (hk : 0 < k) (h0 : gainI a b c d n 0 < 0) (h : ∀ j : Nat, j < k → gainI a b c d n j ≤ 0) : 1 ≤ lev a b c d n k := by
  induction k with
  | zero => omega
  | succ k ih =>
    have hg := h k (by omega)
    show 1 ≤ lev a b c d n k + neg1 (gainI a b c d n k) - pos1 (gainI a b c d n k)
    have hp : pos1 (gainI a b c d n k) = 0 := by unfold pos1; rw [if_neg (by omega)]
    have hq : 0 ≤ neg1 (gainI a b c d n k) := by unfold neg1; split <;> decide
    by_cases z : k = 0
    · subst z
      have : neg1 (gainI a b c d n ((0 : Nat) : Int)) = 1 := by unfold neg1; exact if_pos h0
      rw [hp, this]; show 1 ≤ (0 : Int) + 1 - 0; decide
    · have := ih (by omega) fun j hj => h j (by omega)
      omega
theorem lev_down {k : Nat} : ∀ {l : Nat}, (∀ j : Nat, k ≤ j → j < k + l → 0 < gainI a b c d n j) → lev a b c d n (k + l) = lev a b c d n k - l
  | 0, _ => by simp
  | l + 1, h => by
    have ih := lev_down (l := l) fun j h1 h2 => h j h1 (by omega)
    have hg := h (k + l) (by omega) (by omega)
    show lev a b c d n (k + l) + neg1 (gainI a b c d n (k + l : Nat)) - pos1 (gainI a b c d n (k + l : Nat)) = _
    have hp : pos1 (gainI a b c d n (k + l : Nat)) = 1 := by unfold pos1; rw [if_pos hg]
    have hq : neg1 (gainI a b c d n (k + l : Nat)) = 0 := by unfold neg1; rw [if_neg (by omega)]
    rw [ih, hp, hq]; omega
theorem lev_count (k : Nat) : lev a b c d n k = ((((List.range k).map fun i : Nat => gainI a b c d n i).filter (· < 0)).length : Int) - ((((List.range k).map fun i : Nat => gainI a b c d n i).filter (0 < ·)).length : Int) := by
  induction k with
  | zero => rfl
  | succ k ih =>
    show lev a b c d n k + neg1 (gainI a b c d n k) - pos1 (gainI a b c d n k) = _
    rw [ih, List.range_succ, List.map_append, List.filter_append, List.filter_append, List.length_append, List.length_append]
    unfold neg1 pos1
    simp only [List.map_cons, List.map_nil, List.filter_cons, List.filter_nil, decide_eq_true_eq]
    split <;> split <;> simp <;> omega
theorem lev_end : lev a b c d n n.toNat = (lessN a b c d n : Int) - (moreN a b c d n : Int) := lev_count _
theorem levs_mem {k : Nat} {y : Int} : y ∈ levs a b c d n k ↔ ∃ i, i < k ∧ lev a b c d n i = y := by
  unfold levs; simp
theorem filter_ends {p : Int → Bool} {N : Nat} (h : ∀ i : Nat, 0 < i → i < N + 1 → p (i : Int) = false) : (((List.range (N + 2)).map fun i : Nat => (i : Int)).filter p) = (if p 0 = true then [0] else []) ++ (if p ((N + 1 : Nat) : Int) = true then [((N + 1 : Nat) : Int)] else []) := by
  rw [List.range_succ, List.range_succ_eq_map, List.map_append, List.filter_append, List.map_cons, List.filter_cons]
  have e : (((List.range N).map Nat.succ).map fun i : Nat => (i : Int)).filter p = [] := by
    rw [List.filter_eq_nil_iff]
    intro x hx
    obtain ⟨y, hy, rfl⟩ := List.mem_map.mp hx
    obtain ⟨z, hz, rfl⟩ := List.mem_map.mp hy
    have hz := List.mem_range.mp hz
    rw [h z.succ (by omega) (by omega)]; decide
  rw [e]
  by_cases h0 : p 0 = true
  · simp [h0, List.filter_cons]
  · simp [h0, List.filter_cons]
theorem still_two (hn : 1 ≤ n) (h0 : gainI a b c d n 0 < 0) (h1 : 0 < gainI a b c d n (n - 1)) :
    still a b c d n = if moreN a b c d n < lessN a b c d n then [0] else if lessN a b c d n < moreN a b c d n then [n] else [0, n] := by
  have hn2 : 2 ≤ n := by
    refine Int.not_lt.mp fun z => ?_
    have : n = 1 := by omega
    subst this
    exact absurd h0 (by have : (1 : Int) - 1 = 0 := rfl; rw [this] at h1; omega)
  obtain ⟨N, hN⟩ : ∃ N : Nat, n.toNat = N + 1 := ⟨n.toNat - 1, by omega⟩
  have mono := fun i j => gain_mono h0 h1 hn (i := i) (j := j)
  have e := lev_end (a := a) (b := b) (c := c) (d := d) (n := n)
  have inner : ∀ k : Nat, 0 < k → k < n.toNat → 1 ≤ lev a b c d n k ∨ lev a b c d n n.toNat < lev a b c d n k := fun k k0 k1 => by
    by_cases z : gainI a b c d n ((k - 1 : Nat) : Int) ≤ 0
    · left
      refine lev_up k0 h0 fun j hj => ?_
      have := mono (j : Int) ((k - 1 : Nat) : Int) (by omega)
      omega
    · right
      have q := lev_down (a := a) (b := b) (c := c) (d := d) (n := n) (k := k) (l := n.toNat - k) fun j j1 j2 => by
        have := mono ((k - 1 : Nat) : Int) (j : Int) (by omega)
        omega
      rw [show k + (n.toNat - k) = n.toNat by omega] at q
      omega
  have hm : minI (levs a b c d n (n.toNat + 1)) = min 0 (lev a b c d n n.toNat) := by
    refine minI_of ?_ fun y hy => ?_
    · rw [levs_mem]
      by_cases z : 0 ≤ lev a b c d n n.toNat
      · exact ⟨0, by omega, by show (0 : Int) = _; omega⟩
      · exact ⟨n.toNat, by omega, by omega⟩
    · obtain ⟨i, hi, rfl⟩ := levs_mem.mp hy
      by_cases z : i = 0
      · subst z; show _ ≤ (0 : Int); omega
      · by_cases z2 : i = n.toNat
        · subst z2; omega
        · have := inner i (by omega) (by omega)
          omega
  have ht : ∀ i : Nat, i < n.toNat + 1 → (hts a b c d n)[((i : Nat) : Int).toNat]? = some (lev a b c d n i - min 0 (lev a b c d n n.toNat)) := fun i hi => by
    unfold hts levs
    rw [show minI (List.map (lev a b c d n) (List.range (n.toNat + 1))) = minI (levs a b c d n (n.toNat + 1)) from rfl, hm, Int.toNat_natCast, List.getElem?_map, List.getElem?_map, List.getElem?_range hi]
    rfl
  unfold still
  rw [hN, filter_ends]
  · have p0 := ht 0 (by omega)
    have pn := ht (N + 1) (by omega)
    rw [show (((0 : Nat) : Int)).toNat = (0 : Int).toNat from rfl] at p0
    rw [p0, pn, ← hN]
    have l0 : lev a b c d n 0 = 0 := rfl
    rw [l0]
    have en : ((n.toNat : Nat) : Int) = n := by omega
    rw [en]
    simp only [beq_iff_eq, Option.some.injEq]
    by_cases z : moreN a b c d n < lessN a b c d n
    · rw [if_pos (by omega), if_neg (by omega), if_pos z]; rfl
    · rw [if_neg z]
      by_cases z2 : lessN a b c d n < moreN a b c d n
      · rw [if_neg (by omega), if_pos (by omega), if_pos z2]; rfl
      · rw [if_pos (by omega), if_pos (by omega), if_neg z2]; rfl
  · intro i i0 i1
    rw [ht i (by omega)]
    have := inner i i0 (by omega)
    simp only [beq_eq_false_iff_ne, ne_eq, Option.some.injEq]
    omega
end
end K58
end
section
set_option maxHeartbeats 4000000
namespace K58
open PySem PySem.Spec PyProof.Rows L2 L3
section
variable {a b c d n : Int} {K : PySem.W.Frag}
theorem spC_ok {G : Gm} {E : Value → List (Str × D) → Gm → Prop} {R : Int → Int → Int → Int → Int → Prop} (n1 : 1 ≤ n) (n2 : n ≤ 60) (h : R a b c d n) : spC K (payD a b c d) (.int n) G E R := by
  have hm : manyOk (.int n) = true := by simp [manyOk, n1]; omega
  refine ⟨rfl, rfl, (fun z => by cases z), (fun _ z => by rw [hm] at z; cases z), fun _ _ a' b' c' d' n' e1 e2 _ _ => ?_⟩
  unfold payD at e1
  injection e1 with e1
  injection e1 with f1 e1
  injection e1 with f2 e1
  injection f1 with f1
  injection f2 with f2
  injection f1 with g1 f1
  injection f1 with g2 f1
  injection f2 with g3 f2
  injection f2 with g4 f2
  injection g1 with g1
  injection g2 with g2
  injection g3 with g3
  injection g4 with g4
  injection e2 with e2
  subst g1 g2 g3 g4 e2
  exact h
theorem numS_all : ((List.range 101).all fun i : Nat => okD (.str (numS (i : Int))) && decide ((numS (i : Int)).length ≤ 10)) = true := by decide +kernel
theorem numS_rep {i : Int} (h0 : 0 ≤ i) (h1 : i ≤ 100) : Rep 102 0 (.str (numS i)) := by
  have z := List.all_eq_true.mp numS_all i.toNat (List.mem_range.mpr (by omega))
  rw [Bool.and_eq_true_iff, decide_eq_true_eq, show ((i.toNat : Nat) : Int) = i by omega] at z
  exact Rep.str z.1 z.2
theorem small_rep {i : Int} (h : i.natAbs < 2 ^ 64) : Rep 67 0 (.int i) := Rep.int h (by decide)
theorem gain_rep (hb : a.natAbs < 3000000000 ∧ b.natAbs < 3000000000 ∧ c.natAbs < 3000000000 ∧ d.natAbs < 3000000000) (n1 : 1 ≤ n) (n2 : n ≤ 60) {m : Int} (m0 : 0 ≤ m) (m1 : m ≤ 60) : Rep 67 0 (.int (gainI a b c d n m)) := by
  refine small_rep ?_
  unfold gainI
  have h1 : (m * (d - b)).natAbs ≤ 60 * 6000000000 := by rw [Int.natAbs_mul]; exact Nat.mul_le_mul (by omega) (by omega)
  have h2 : ((n - 1 - m) * (c - a)).natAbs ≤ 121 * 6000000000 := by rw [Int.natAbs_mul]; exact Nat.mul_le_mul (by omega) (by omega)
  omega
theorem gains_rep (hb : a.natAbs < 3000000000 ∧ b.natAbs < 3000000000 ∧ c.natAbs < 3000000000 ∧ d.natAbs < 3000000000) (n1 : 1 ≤ n) (n2 : n ≤ 60) : Rep 10000 1 (.lst ((gains a b c d n).map .int)) := by
  refine Rep.lst (m := 67) (rep_map fun x hx => ?_) (by simp [gains]; omega)
  obtain ⟨i, hi, rfl⟩ := List.mem_map.mp hx
  have := List.mem_range.mp hi
  exact gain_rep hb n1 n2 (by omega) (by omega)
theorem lev_abs (k : Nat) : (lev a b c d n k).natAbs ≤ k := by
  induction k with
  | zero => exact Nat.le_refl _
  | succ k ih =>
    show (lev a b c d n k + neg1 (gainI a b c d n k) - pos1 (gainI a b c d n k)).natAbs ≤ _
    unfold neg1 pos1
    split <;> split <;> omega
theorem hts_abs {y : Int} (n1 : 1 ≤ n) (n2 : n ≤ 60) (h : y ∈ hts a b c d n) : y.natAbs ≤ 200 := by
  unfold hts at h
  obtain ⟨x, hx, rfl⟩ := List.mem_map.mp h
  have hm : minI (levs a b c d n (n.toNat + 1)) ∈ levs a b c d n (n.toNat + 1) := by
    unfold minI
    cases e : (levs a b c d n (n.toNat + 1)).min? with
    | none => rw [List.min?_eq_none_iff] at e; rw [e] at hx; cases hx
    | some v => exact (List.min?_eq_some_iff.mp e).1
  unfold levs at hx hm
  obtain ⟨i, hi, rfl⟩ := List.mem_map.mp hx
  obtain ⟨j, hj, ej⟩ := List.mem_map.mp hm
  have hi := List.mem_range.mp hi
  have hj := List.mem_range.mp hj
  have e : minI (levs a b c d n (n.toNat + 1)) = lev a b c d n j := ej.symm
  rw [e]
  have h1 := lev_abs (a := a) (b := b) (c := c) (d := d) (n := n) i
  have h2 := lev_abs (a := a) (b := b) (c := c) (d := d) (n := n) j
  omega
theorem hts_rep (n1 : 1 ≤ n) (n2 : n ≤ 60) : Rep 10000 1 (.tup ((hts a b c d n).map .int)) := by
  refine Rep.tup (m := 67) (rep_map fun x hx => small_rep ?_) (by rw [List.length_map, hts_len]; omega)
  have := hts_abs n1 n2 hx
  omega
theorem shares_rep (n1 : 1 ≤ n) (n2 : n ≤ 60) : Rep 1000000 4 (.tup (sharesL a b c d n)) := by
  rw [shares_es]
  refine Rep.tup (m := 10000) (k := 3) (rep_map fun e he => ?_) (by simp [shEs]; omega)
  obtain ⟨i, hi, rfl⟩ := List.mem_map.mp he
  have hi := List.mem_range.mp hi
  have hc := comb_lt (n := n) (k := (i : Int)) (by omega) (by omega) n2
  have hc0 := comb_pos (n := n) (k := (i : Int)) (by omega) (by omega)
  have hh : (hAt a b c d n i).natAbs ≤ 200 := by
    unfold hAt
    cases e : (hts a b c d n)[i]? with
    | none => show (0 : Int).natAbs ≤ _; decide
    | some v => exact hts_abs n1 n2 (List.mem_of_getElem? e)
  have r1 : Rep 403 0 (.int (hAt a b c d n i)) := (small_rep (by omega)).mono (by decide) (by decide)
  have r2 : Rep 403 0 (.int (PySem.W.mcComb n (i : Int))) := Rep.int (m := 400) (by omega) (by decide)
  have r3 : Rep 403 0 (.int 1) := (small_rep (by decide)).mono (by decide) (by decide)
  have t1 : Rep 2000 1 (.tup [.int (hAt a b c d n i), .int (PySem.W.mcComb n (i : Int)), .int 1]) := Rep.tup (rep_cons r1 (rep_cons r2 (rep_cons r3 rep_nil))) (by simp only [List.length_cons, List.length_nil]; omega)
  have t2 : Rep 3000 2 (.tup [.tup [.int (hAt a b c d n i), .int (PySem.W.mcComb n (i : Int)), .int 1]]) := Rep.tup (rep_cons t1 rep_nil) (by simp only [List.length_cons, List.length_nil]; omega)
  have t3 : Rep 3000 2 (.str (numS (i : Int))) := (numS_rep (by omega) (by omega)).mono (by decide) (by decide)
  exact Rep.tup (rep_cons t3 (rep_cons t2 rep_nil)) (by simp only [List.length_cons, List.length_nil]; omega)
theorem step_rep (n1 : 1 ≤ n) (n2 : n ≤ 60) {e : Step} (he : e ∈ stepsU a b c d n n.toNat) : Rep 10000 3 (stepD e) := by
  have key : ∀ (x y : Int) (u w : Int), 0 ≤ x → x ≤ 100 → 0 ≤ y → y ≤ 100 → u.natAbs ≤ 100 → w.natAbs ≤ 100 → Rep 10000 3 (stepD ((numS x, numS y), (u, w))) := fun x y u w x0 x1 y0 y1 hu hw => by
    have t1 : Rep 300 1 (.tup [.int u, .int w, .int 1]) := Rep.tup (rep_cons (small_rep (by omega)) (rep_cons (small_rep (by omega)) (rep_cons (small_rep (by decide)) rep_nil))) (by simp only [List.length_cons, List.length_nil]; omega)
    have t2 : Rep 400 2 (.tup [.tup [.int u, .int w, .int 1]]) := Rep.tup (rep_cons t1 rep_nil) (by simp only [List.length_cons, List.length_nil]; omega)
    exact Rep.tup (rep_cons ((numS_rep x0 x1).mono (by decide) (by decide)) (rep_cons t2 (rep_cons ((numS_rep y0 y1).mono (by decide) (by decide)) rep_nil))) (by simp only [List.length_cons, List.length_nil]; omega)
  obtain ⟨i, hi, rfl | rfl⟩ := stepsU_mem.mp he
  · exact key _ _ _ _ (by omega) (by omega) (by omega) (by omega) (by unfold neg1; split <;> decide) (by omega)
  · exact key _ _ _ _ (by omega) (by omega) (by omega) (by omega) (by unfold pos1; split <;> decide) (by omega)
theorem web_rep (n1 : 1 ≤ n) (n2 : n ≤ 60) : Rep 3000000 5 (webD (namesD n) (stepsU a b c d n n.toNat)) := by
  have t1 : Rep 1300000 4 (.tup (namesD n)) := by
    refine (Rep.tup (m := 102) (k := 0) (M := 10000) (fun y hy => ?_) (by unfold namesD; rw [List.length_map, rangeD_length]; omega)).mono (by decide) (by decide)
    unfold namesD at hy
    obtain ⟨x, hx, rfl⟩ := List.mem_map.mp hy
    obtain ⟨i, hi⟩ := List.getElem?_of_mem hx
    obtain ⟨h1, rfl⟩ := rangeD_get hi
    exact numS_rep (by omega) (by omega)
  have t2 : Rep 1300000 4 (.tup (((stepsU a b c d n n.toNat).mergeSort leE).map stepD)) :=
    Rep.tup (m := 10000) (k := 3) (rep_map fun e he => step_rep n1 n2 (List.mem_mergeSort.mp he)) (by rw [List.length_map, List.length_mergeSort, stepsU_len]; omega)
  exact Rep.tup (rep_cons t1 (rep_cons t2 rep_nil)) (by simp only [List.length_cons, List.length_nil]; omega)
theorem less_le : lessN a b c d n ≤ n.toNat := by
  unfold lessN
  refine Nat.le_trans (List.length_filter_le ..) ?_
  simp [gains]
theorem more_le : moreN a b c d n ≤ n.toNat := by
  unfold moreN
  refine Nat.le_trans (List.length_filter_le ..) ?_
  simp [gains]
theorem two_rep (n1 : 1 ≤ n) (n2 : n ≤ 60) : Rep 200 1 (.tup [.int (lessN a b c d n), .int (moreN a b c d n)]) := by
  have h1 := less_le (a := a) (b := b) (c := c) (d := d) (n := n)
  have h2 := more_le (a := a) (b := b) (c := c) (d := d) (n := n)
  exact Rep.tup (rep_cons (small_rep (by omega)) (rep_cons (small_rep (by omega)) rep_nil)) (by simp only [List.length_cons, List.length_nil]; omega)
theorem gains_first (n1 : 1 ≤ n) : atI ((gains a b c d n).map D.int) 0 = some (.int (gainI a b c d n 0)) := by
  obtain ⟨N, hN⟩ : ∃ N : Nat, n.toNat = N + 1 := ⟨n.toNat - 1, by omega⟩
  have := atI_nat (l := gains a b c d n) (i := 0) (v := gainI a b c d n 0) (by unfold gains; rw [hN, List.getElem?_map, List.getElem?_range (by omega)]; rfl)
  exact this
theorem gains_last (n1 : 1 ≤ n) : atI ((gains a b c d n).map D.int) (-1) = some (.int (gainI a b c d n (n - 1))) := by
  obtain ⟨N, hN⟩ : ∃ N : Nat, n.toNat = N + 1 := ⟨n.toNat - 1, by omega⟩
  have e : (gains a b c d n).map D.int = ((List.range N).map fun i : Nat => D.int (gainI a b c d n i)) ++ [.int (gainI a b c d n N)] := by
    unfold gains
    rw [hN, List.map_map, List.range_succ, List.map_append]
    rfl
  rw [e, atI_last, show (N : Int) = n - 1 by omega]
theorem still_mem {y : Int} (h : y ∈ still a b c d n) : 0 ≤ y ∧ y ≤ n.toNat := by
  unfold still at h
  obtain ⟨i, hi, rfl⟩ := List.mem_map.mp (List.mem_filter.mp h).1
  have := List.mem_range.mp hi
  omega
theorem still_rep (n1 : 1 ≤ n) (n2 : n ≤ 60) : Rep 10000 1 (.tup ((still a b c d n).map .int)) := by
  have hl : (still a b c d n).length ≤ n.toNat + 1 := by
    unfold still
    refine Nat.le_trans (List.length_filter_le ..) ?_
    simp
  refine Rep.tup (m := 67) (rep_map fun x hx => small_rep ?_) (by rw [List.length_map]; omega)
  have := still_mem hx
  omega
end
end K58
end
section
set_option maxHeartbeats 4000000
namespace K58
open PySem PySem.Spec PyProof.Rows L2 L3
local macro_rules | `(tactic| walk_at "sc") => `(tactic| first | omega | exact ⟨by omega, by omega⟩ | exact cmul_fmod (by decide) (by decide) | exact .inl ⟨by omega, by omega⟩ | exact .inr ⟨by omega, by omega⟩ | exact ⟨by omega, by omega, by omega⟩)
local macro_rules | `(tactic| walk_at "vv") => `(tactic| first | exact Or.inl rfl | exact Or.inr (Or.inl rfl) | exact Or.inr (Or.inr rfl))
local macro_rules | `(tactic| walk_at "ll") => `(tactic| first | exact Or.inl rfl | exact Or.inr rfl)
set_option hygiene false in
local macro_rules | `(tactic| walk_at "A") => `(tactic| first
  | ((with_reducible refine' a_cons ?_ ?hs); (case hs => exact rfl))
  | (with_reducible refine' a_nil ?_))
set_option hygiene false in
local macro_rules | `(tactic| walk_at "Con") => `(tactic| first
  | (with_reducible refine' r_int ?_)
  | (with_reducible refine' r_str ?_)
  | (with_reducible refine' r_non ?_)
  | (with_reducible refine' r_bl ?_))
set_option hygiene false in
local macro_rules | `(tactic| walk_at "Bin") => `(tactic| first
  | ((with_reducible show xE _ _ _ (.BinOp _ .Add _ _) _ _ _); (with_reducible refine' r_op op_addA ?_))
  | ((with_reducible show xE _ _ _ (.BinOp _ .Sub _ _) _ _ _); (with_reducible refine' r_op op_sub ?_))
  | ((with_reducible show xE _ _ _ (.BinOp _ .Mult _ _) _ _ _); (with_reducible refine' r_op op_mul ?_))
  | ((with_reducible show xE _ _ _ (.BinOp _ .FloorDiv _ _) _ _ _); (with_reducible refine' r_op op_fdivN ?_))
  | ((with_reducible show xE _ _ _ (.BinOp _ .Mod _ _) _ _ _); (with_reducible refine' r_op op_modN ?_))
  | ((with_reducible show xE _ _ _ (.BinOp _ .Pow _ _) _ _ _); (with_reducible refine' r_op op_pow ?_)))
set_option hygiene false in
local macro_rules | `(tactic| walk_at "Cmp") => `(tactic| first
  | ((with_reducible show xE _ _ _ (.Compare _ [.Lt] _ _) _ _ _); (with_reducible refine' r_cmp op_lt ?hm ?_); (case hm => exact rfl))
  | ((with_reducible show xE _ _ _ (.Compare _ [.LtE] _ _) _ _ _); (with_reducible refine' r_cmp op_le ?hm ?_); (case hm => exact rfl))
  | ((with_reducible show xE _ _ _ (.Compare _ [.Gt] _ _) _ _ _); (with_reducible refine' r_cmp op_gt ?hm ?_); (case hm => exact rfl))
  | ((with_reducible show xE _ _ _ (.Compare _ [.GtE] _ _) _ _ _); (with_reducible refine' r_cmp op_ge ?hm ?_); (case hm => exact rfl))
  | ((with_reducible show xE _ _ _ (.Compare _ [.Eq] _ _) _ _ _); (with_reducible refine' r_cmp (op_eqB cx.hu64) ?hm ?_); (case hm => exact rfl))
  | ((with_reducible show xE _ _ _ (.Compare _ [.NotEq] _ _) _ _ _); (with_reducible refine' r_cmp (op_neB cx.hu64) ?hm ?_); (case hm => exact rfl))
  | ((with_reducible show xE _ _ _ (.Compare _ [.Is] _ _) _ _ _); (with_reducible refine' r_cmp op_isN1 ?hm ?_); (case hm => exact rfl))
  | ((with_reducible show xE _ _ _ (.Compare _ [.IsNot] _ _) _ _ _); (with_reducible refine' r_cmp op_notN1 ?hm ?_); (case hm => exact rfl)))
set_option hygiene false in
local macro_rules | `(tactic| walk_at "TCmp") => `(tactic| first
  | ((with_reducible show xT _ _ _ (.Compare _ [.Lt] _ _) _ _ _); (with_reducible refine' t_cmp op_lt ?hm ?_); (case hm => exact rfl))
  | ((with_reducible show xT _ _ _ (.Compare _ [.LtE] _ _) _ _ _); (with_reducible refine' t_cmp op_le ?hm ?_); (case hm => exact rfl))
  | ((with_reducible show xT _ _ _ (.Compare _ [.Gt] _ _) _ _ _); (with_reducible refine' t_cmp op_gt ?hm ?_); (case hm => exact rfl))
  | ((with_reducible show xT _ _ _ (.Compare _ [.GtE] _ _) _ _ _); (with_reducible refine' t_cmp op_ge ?hm ?_); (case hm => exact rfl))
  | ((with_reducible show xT _ _ _ (.Compare _ [.Eq] _ _) _ _ _); (with_reducible refine' t_cmp (op_eqB cx.hu64) ?hm ?_); (case hm => exact rfl))
  | ((with_reducible show xT _ _ _ (.Compare _ [.NotEq] _ _) _ _ _); (with_reducible refine' t_cmp (op_neB cx.hu64) ?hm ?_); (case hm => exact rfl))
  | ((with_reducible show xT _ _ _ (.Compare _ [.Is] _ _) _ _ _); (with_reducible refine' t_cmp op_isN1 ?hm ?_); (case hm => exact rfl))
  | ((with_reducible show xT _ _ _ (.Compare _ [.IsNot] _ _) _ _ _); (with_reducible refine' t_cmp op_notN1 ?hm ?_); (case hm => exact rfl))
  | ((with_reducible show xT _ _ _ (.Compare _ [.LtE, .LtE] _ _) _ _ _); (with_reducible refine' t_chain op_le op_le ?_ ?hl); (case hl => exact rfl))
  | ((with_reducible show xT _ _ _ (.Compare _ [.Lt, .Lt] _ _) _ _ _); (with_reducible refine' t_chain op_lt op_lt ?_ ?hl); (case hl => exact rfl))
  | ((with_reducible show xT _ _ _ (.Compare _ [.LtE, .Lt] _ _) _ _ _); (with_reducible refine' t_chain op_le op_lt ?_ ?hl); (case hl => exact rfl))
  | ((with_reducible show xT _ _ _ (.Compare _ [.Lt, .LtE] _ _) _ _ _); (with_reducible refine' t_chain op_lt op_le ?_ ?hl); (case hl => exact rfl)))
set_option hygiene false in
local macro_rules | `(tactic| walk_at "E") => `(tactic| first
  | ((with_reducible show xE _ _ _ (.Name _ _) _ _ _); walk_at "Nam")
  | ((with_reducible show xE _ _ _ (.Constant _ _ _) _ _ _); walk_at "Con")
  | ((with_reducible show xE _ _ _ (.BinOp _ _ _ _) _ _ _); walk_at "Bin")
  | ((with_reducible show xE _ _ _ (.Call _ _ _ _) _ _ _); walk_at "Cal")
  | ((with_reducible show xE _ _ _ (.Tuple _ _ _) _ _ _); (with_reducible refine' r_tup ?_))
  | ((with_reducible show xE _ _ _ (.Subscript _ (.Slice _ _ _ _) _) _ _ _); (with_reducible refine' r_slice ?_))
  | ((with_reducible show xE _ _ _ (.Subscript _ _ _) _ _ _); (refine r_sub cx.hu ?_))
  | ((with_reducible show xE _ _ _ (.Compare _ _ _ _) _ _ _); walk_at "Cmp")
  | ((with_reducible show xE _ _ _ (.IfExp _ _ _ _) _ _ _); (with_reducible refine' r_if ?_))
  | ((with_reducible show xE _ _ _ (.UnaryOp .USub _ _) _ _ _); (with_reducible refine' r_un un_neg ?_))
  | ((with_reducible show xE _ _ _ (.UnaryOp .Not _ _) _ _ _); (with_reducible refine' r_not ?_))
  | ((with_reducible show xE _ _ _ (.BoolOp .And (_ :: _ :: _) _) _ _ _); (with_reducible refine' r_and ?_))
  | ((with_reducible show xE _ _ _ (.BoolOp .Or (_ :: _ :: _) _) _ _ _); (with_reducible refine' r_or ?_))
  | ((with_reducible show xE _ _ _ (.BoolOp _ [_] _) _ _ _); (with_reducible refine' r_one ?_)))
set_option hygiene false in
local macro_rules | `(tactic| walk_at "T") => `(tactic| first
  | ((with_reducible show xT _ _ _ (.Compare _ _ _ _) _ _ _); walk_at "TCmp")
  | ((with_reducible show xT _ _ _ (.UnaryOp .Not _ _) _ _ _); (with_reducible refine' t_not ?_))
  | ((with_reducible show xT _ _ _ (.BoolOp .And _ _) _ _ _); (with_reducible refine' t_w (t_and ?_)))
  | ((with_reducible show xT _ _ _ (.BoolOp .Or _ _) _ _ _); (with_reducible refine' t_w (t_or ?_)))
  | ((with_reducible show xT _ _ _ (.Call _ _ _ _) _ _ _); (with_reducible refine' t_val ?_ ?he); (case he => intro _; rfl))
  | ((with_reducible show xT _ _ _ (.ListComp _ _ _ _) _ _ _); fail)
  | ((with_reducible show xT _ _ _ (.Name _ _) _ _ _); fail)
  | ((with_reducible refine' t_val ?_ ?he); (case he => intro _; rfl)))
set_option hygiene false in
local macro_rules | `(tactic| walk_at "W") => `(tactic| first
  | (with_reducible refine' t_and ?_)
  | (with_reducible refine' t_or ?_)
  | (with_reducible refine' t_and1 ?_)
  | (with_reducible refine' t_or1 ?_))
set_option hygiene false in
local macro_rules | `(tactic| walk_at "S") => `(tactic| first
  | ((with_reducible show xS _ _ _ (.If _ _ _ _) _ _ _); (with_reducible refine' s_if ?_))
  | ((with_reducible show xS _ _ _ (.Assign [.Tuple [.Name _ _, .Name _ _] _ _] (.Tuple [_, _] _ _) _) _ _ _); walk_at "Par")
  | ((with_reducible show xS _ _ _ (.Assign _ _ _) _ _ _); (with_reducible refine' s_asg ?_ ?hs ?hw ?h1); (case hs => exact rfl); (case hw => exact rfl); (case h1 => exact rfl))
  | ((with_reducible show xS _ _ _ (.Return (some _) _) _ _ _); (with_reducible refine' s_ret ?_))
  | ((with_reducible show xS _ _ _ (.Expr _ _) _ _ _); (with_reducible refine' s_expr ?_ ?hs); (case hs => exact rfl))
  | ((with_reducible show xS _ _ _ (.For _ (.Call _ _ _ _) _ _ _) _ _ _); (with_reducible refine' s_for cx.po cx.calm ?_ ?hs); (case hs => exact fun _ => rfl))
  | ((with_reducible show xS _ _ _ (.Raise _ _ _) _ _ _); walk_at "Rai")
  | ((with_reducible show xS _ _ _ (.AugAssign _ _ _ _) _ _ _); walk_at "Aug")
  | (with_reducible refine' s_pass ?_)
  | (with_reducible refine' s_break ?_)
  | (with_reducible refine' s_cont ?_)
  | (with_reducible refine' s_retN ?_))
set_option hygiene false in
local macro_rules | `(tactic| walk_at "G") => `(tactic| first
  | ((with_reducible show xG _ _ _ (.Name _ _) _ _ _ _); walk_at "gv")
  | ((with_reducible show xG _ _ _ (.Tuple _ _ _) _ _ _ _); (with_reducible refine' g_tup cx.calm ?_ ?hn ?hst); (case hn => exact rfl); (case hst => exact rfl))
  | ((with_reducible show xG _ _ _ (.Subscript _ _ _) _ _ _ _); (refine g_sub cx.hu ?_)))
set_option hygiene false in
local macro_rules | `(tactic| walk_at "Gs") => `(tactic| first
  | ((with_reducible refine' gs_cons ?_ ?hs); (case hs => exact rfl))
  | (with_reducible refine' gs_nil ?_))
set_option hygiene false in
local macro_rules | `(tactic| walk_at "O") => `(tactic| first
  | (with_reducible refine' p_int ?_)
  | (with_reducible refine' o_int0 ?_)
  | (with_reducible refine' o_bl0 ?_)
  | ((with_reducible refine' o_int ?_ ?hc); (case hc => walk_at "sc"))
  | (with_reducible refine' o_int ?_ ?_)
  | (with_reducible refine' e_int ?_)
  | (with_reducible refine' n_int ?_)
  | (with_reducible refine' e_str ?_)
  | (with_reducible refine' n_str ?_)
  | (with_reducible refine' o_isN ?_)
  | (with_reducible refine' o_notN ?_)
  | (with_reducible refine' p_str ?_ ?_))
set_option hygiene false in
local macro_rules | `(tactic| walk_at "C") => `(tactic| first
  | (with_reducible refine' len_t ?_)
  | (with_reducible refine' len_l ?_)
  | (with_reducible refine' c_abs ?_)
  | (with_reducible refine' c_int ?_)
  | (with_reducible refine' c_intB ?_)
  | (with_reducible refine' c_min2 ?_)
  | (with_reducible refine' c_max2 ?_)
  | (with_reducible refine' c_str ?_ ?_))
set_option hygiene false in
local macro_rules | `(tactic| walk_at "S3") => `(tactic| first
  | (with_reducible refine' s_t ?_)
  | (with_reducible refine' s_s ?_ ?_))
set_option hygiene false in
local macro_rules | `(tactic| walk_at "bb") => `(tactic| first
  | (with_reducible refine b_cons ?_)
  | (with_reducible refine b_one ?_)
  | (with_reducible refine b_nil ?_)
  | (refine b_cons ?_)
  | (refine b_one ?_)
  | (refine b_nil ?_))
set_option hygiene false in
local macro_rules | `(tactic| walk_at "I") => `(tactic| first
  | ((with_reducible refine' i_range1 ?hg ?hm ?_ ?hs); (case hg => exact rfl); (case hm => exact Z.z_range); (case hs => exact rfl))
  | ((with_reducible refine' i_range2 ?hg ?hm ?_ ?hs ?hs2); (case hg => exact rfl); (case hm => exact Z.z_range); (case hs => exact rfl); (case hs2 => exact rfl)))
local macro_rules | `(tactic| walk_at "be") => `(tactic| first
  | (with_reducible refine b_cons ?_)
  | (with_reducible refine b_one ?_)
  | (with_reducible refine b_nil ?_))
local macro_rules | `(tactic| walk_at "gl") => `(tactic| (repeat (first | exact gset_same | assumption | (refine Eq.trans (gset_ne ?_) ?_; (first | assumption | (apply Ne.symm; assumption))))))
local macro_rules | `(tactic| walk_at "geq") => `(tactic| (funext q; simp only [gset, gdel]; (repeat' split); all_goals (first | rfl | (exfalso; simp_all; done) | (simp_all; done))))
set_option hygiene false in
local macro_rules | `(tactic| walk_at "M") => `(tactic| first
  | ((with_reducible refine' m_append ?hp ?_ ?_); (case hp => walk_at "gl")))
set_option hygiene false in
local macro_rules | `(tactic| walk_at "xx") => `(tactic| first
  | ((with_reducible show xE _ _ _ _ _ _ _); walk_at "E")
  | ((with_reducible show xA _ _ _ _ _ _ _); walk_at "A")
  | ((with_reducible show O3 _ _ _ _ _ _ _); walk_at "O")
  | ((with_reducible show C3 _ _ _ _ _ _); walk_at "C")
  | ((with_reducible show xS _ _ _ _ _ _ _); walk_at "S")
  | ((with_reducible show xB _ _ _ _ _ _ _); walk_at "be")
  | ((with_reducible show xT _ _ _ _ _ _ _); walk_at "T")
  | ((with_reducible show xW _ _ _ _ _ _ _); walk_at "W")
  | ((with_reducible show xG _ _ _ _ _ _ _ _); walk_at "G")
  | ((with_reducible show xGs _ _ _ _ _ _ _ _); walk_at "Gs")
  | ((with_reducible show U3 _ _ _ _ _ _); (with_reducible refine' u_int ?_))
  | ((with_reducible show S3 _ _ _ _ _ _ _ _); walk_at "S3")
  | ((with_reducible show xI _ _ _ _ _ _ _ _); walk_at "I")
  | ((with_reducible show _ ≤ sizeLine ∧ _); (with_reducible refine' len16 ?hL ?_); (case hL => exact rfl))
  | ((with_reducible show xP _ _ _ (some _) _ _ _); (with_reducible refine' x_some ?_))
  | ((with_reducible show xP _ _ _ none _ _ _); (with_reducible refine' x_no ?_))
  | ((with_reducible show tyM _ _ _ ∧ _); (refine' ⟨.inl ⟨rfl, _, ?hgl⟩, ?_⟩); (case hgl => walk_at "gl"))
  | ((with_reducible show M3 _ _ _ _ _ _ _); walk_at "M")
  | (with_reducible refine' ex_bl ?_)
  | (with_reducible refine' ex_int ?_)
  | (with_reducible refine' ex_str ?_)
  | (with_reducible refine' ex_tup ?_)
  | (with_reducible refine' br_f ?_)
  | (with_reducible refine' br_nt ?_)
  | (with_reducible refine' br_nf ?_)
  | (with_reducible refine' br_t ?_))
local macro_rules | `(tactic| walk_at "sd") => `(tactic| first | decide | omega | exact ⟨by decide, by decide⟩ | exact .inl ⟨by omega, by omega⟩ | exact .inr ⟨by omega, by omega⟩)
local macro_rules | `(tactic| walk_at "xn") => `(tactic| ((fail_if_success (with_reducible show xB _ _ _ (.If _ _ _ _ :: _ :: _) _ _ _)); walk_at "xx"))
local macro_rules | `(tactic| walk_at "xs") => `(tactic| ((fail_if_success (with_reducible show xB _ _ _ (_ :: _) _ _ _)); walk_at "xx"))
set_option hygiene false in
local macro_rules | `(tactic| walk_at "for") => `(tactic| ((with_reducible refine' s_for cx.po cx.calm ?_ ?hs); (case hs => exact fun _ => rfl)))
variable {P : Program} {w : World} {K : PySem.W.Frag} {mg : Str → Option Value} {base : Heap} {T : List (Addr × Str)}
theorem n_self {G : Gm} {Q : D → Gm → Prop} {x : D} (h : okL x = true) (hd : dpD x ≤ 64) (q : Q (.bl false) G) : O3 K T (rNeB K) x x G Q :=
  n_dat (by rw [eqD_refl h]; exact q) (dat_self h) (dat_self h) hd hd
section
set_option hygiene false in
local macro_rules | `(tactic| walk_at "Par") => `(tactic| first
  | ((with_reducible refine' s_par 3 4 (x := "pay") (y := "many") cx.calm cx.nd ?hi ?hj ?hij ?hx ?hy ?_ ?hw ?hs ?he1 ?he2); (case hi => exact rfl); (case hj => exact rfl); (case hij => decide); (case hx => exact rfl); (case hy => exact rfl); (case hw => exact rfl); (case hs => exact rfl); (case he1 => exact rfl); (case he2 => exact rfl))
  | ((with_reducible refine' s_par 12 13 (x := "less") (y := "more") cx.calm cx.nd ?hi ?hj ?hij ?hx ?hy ?_ ?hw ?hs ?he1 ?he2); (case hi => exact rfl); (case hj => exact rfl); (case hij => decide); (case hx => exact rfl); (case hy => exact rfl); (case hw => exact rfl); (case hs => exact rfl); (case he1 => exact rfl); (case he2 => exact rfl)))
set_option hygiene false in
local macro_rules | `(tactic| walk_at "Nam") => `(tactic| first
  | ((with_reducible refine' r_var 0 (x := "script") ?hN ?hv ?hs ?_); (case hN => exact ⟨rfl, by decide, by decide⟩); (case hv => walk_at "vv"); (case hs => exact rfl))
  | ((with_reducible refine' r_var 1 (x := "pen") ?hN ?hv ?hs ?_); (case hN => exact ⟨rfl, by decide, by decide⟩); (case hv => walk_at "vv"); (case hs => exact rfl))
  | ((with_reducible refine' r_var 3 (x := "pay") ?hN ?hv ?hs ?_); (case hN => exact ⟨rfl, by decide, by decide⟩); (case hv => walk_at "vv"); (case hs => exact rfl))
  | ((with_reducible refine' r_var 4 (x := "many") ?hN ?hv ?hs ?_); (case hN => exact ⟨rfl, by decide, by decide⟩); (case hv => walk_at "vv"); (case hs => exact rfl))
  | ((with_reducible refine' r_var 5 (x := "heights") ?hN ?hv ?hs ?_); (case hN => exact ⟨rfl, by decide, by decide⟩); (case hv => walk_at "vv"); (case hs => exact rfl))
  | ((with_reducible refine' r_var 6 (x := "steps") ?hN ?hv ?hs ?_); (case hN => exact ⟨rfl, by decide, by decide⟩); (case hv => walk_at "vv"); (case hs => exact rfl))
  | ((with_reducible refine' r_var 7 (x := "worths") ?hN ?hv ?hs ?_); (case hN => exact ⟨rfl, by decide, by decide⟩); (case hv => walk_at "vv"); (case hs => exact rfl))
  | ((with_reducible refine' r_var 8 (x := "gains") ?hN ?hv ?hs ?_); (case hN => exact ⟨rfl, by decide, by decide⟩); (case hv => walk_at "vv"); (case hs => exact rfl))
  | ((with_reducible refine' r_var 9 (x := "m") ?hN ?hv ?hs ?_); (case hN => exact ⟨rfl, by decide, by decide⟩); (case hv => walk_at "vv"); (case hs => exact rfl))
  | ((with_reducible refine' r_var 10 (x := "names") ?hN ?hv ?hs ?_); (case hN => exact ⟨rfl, by decide, by decide⟩); (case hv => walk_at "vv"); (case hs => exact rfl))
  | ((with_reducible refine' r_var 11 (x := "n") ?hN ?hv ?hs ?_); (case hN => exact ⟨rfl, by decide, by decide⟩); (case hv => walk_at "vv"); (case hs => exact rfl))
  | ((with_reducible refine' r_var 12 (x := "less") ?hN ?hv ?hs ?_); (case hN => exact ⟨rfl, by decide, by decide⟩); (case hv => walk_at "vv"); (case hs => exact rfl))
  | ((with_reducible refine' r_var 13 (x := "more") ?hN ?hv ?hs ?_); (case hN => exact ⟨rfl, by decide, by decide⟩); (case hv => walk_at "vv"); (case hs => exact rfl))
  | ((with_reducible refine' r_var 14 (x := "here") ?hN ?hv ?hs ?_); (case hN => exact ⟨rfl, by decide, by decide⟩); (case hv => walk_at "vv"); (case hs => exact rfl))
  | ((with_reducible refine' r_var 15 (x := "still") ?hN ?hv ?hs ?_); (case hN => exact ⟨rfl, by decide, by decide⟩); (case hv => walk_at "vv"); (case hs => exact rfl))
  | ((with_reducible refine' r_defv (x := "_law_pen") ?hm ?hg ?_ ?hd); (case hm => exact Z.g__law_pen); (case hg => first | exact (fun z => z) | exact rfl); (case hd => decide))
  | ((with_reducible refine' r_defv (x := "_law_due") ?hm ?hg ?_ ?hd); (case hm => exact Z.g__law_due); (case hg => first | exact (fun z => z) | exact rfl); (case hd => decide))
  | ((with_reducible refine' r_bltn (x := "tuple") (v := .ty "tuple") ?hg ?hm bt_tuple ?hr ?_ ?hn ?hd); (case hg => exact rfl); (case hm => exact Z.z_tuple); (case hr => exact rfl); (case hn => decide); (case hd => decide))
  | ((with_reducible refine' r_defv (x := "_law_pay") ?hm ?hg ?_ ?hd); (case hm => exact Z.g__law_pay); (case hg => first | exact (fun z => z) | exact rfl); (case hd => decide))
  | ((with_reducible refine' r_defv (x := "_law_gain") ?hm ?hg ?_ ?hd); (case hm => exact Z.g__law_gain); (case hg => first | exact (fun z => z) | exact rfl); (case hd => decide))
  | ((with_reducible refine' r_defv (x := "_law_draw") ?hm ?hg ?_ ?hd); (case hm => exact Z.g__law_draw); (case hg => first | exact (fun z => z) | exact rfl); (case hd => decide))
  | ((with_reducible refine' r_defv (x := "_law_state") ?hm ?hg ?_ ?hd); (case hm => exact Z.g__law_state); (case hg => first | exact (fun z => z) | exact rfl); (case hd => decide))
  | ((with_reducible refine' r_defv (x := "_law_is_balanced") ?hm ?hg ?_ ?hd); (case hm => exact Z.g__law_is_balanced); (case hg => first | exact (fun z => z) | exact rfl); (case hd => decide))
  | ((with_reducible refine' r_defv (x := "crowd_heights") ?hm ?hg ?_ ?hd); (case hm => exact Z.g_crowd_heights); (case hg => first | exact (fun z => z) | exact rfl); (case hd => decide))
  | ((with_reducible refine' r_defv (x := "crowd_shares") ?hm ?hg ?_ ?hd); (case hm => exact Z.g_crowd_shares); (case hg => first | exact (fun z => z) | exact rfl); (case hd => decide))
  | ((with_reducible refine' r_defv (x := "against") ?hm ?hg ?_ ?hd); (case hm => exact Z.g_against); (case hg => first | exact (fun z => z) | exact rfl); (case hd => decide))
  | ((with_reducible refine' r_defv (x := "_law_refused_right") ?hm ?hg ?_ ?hd); (case hm => exact Z.g__law_refused_right); (case hg => first | exact (fun z => z) | exact rfl); (case hd => decide))
  | ((with_reducible refine' r_defv (x := "_law_pick") ?hm ?hg ?_ ?hd); (case hm => exact Z.g__law_pick); (case hg => first | exact (fun z => z) | exact rfl); (case hd => decide))
  | ((with_reducible refine' r_defv (x := "gain") ?hm ?hg ?_ ?hd); (case hm => exact Z.g_gain); (case hg => first | exact (fun z => z) | exact rfl); (case hd => decide))
  | ((with_reducible refine' r_defv (x := "crowd") ?hm ?hg ?_ ?hd); (case hm => exact Z.g_crowd); (case hg => first | exact (fun z => z) | exact rfl); (case hd => decide))
  | ((with_reducible refine' r_defv (x := "conventions") ?hm ?hg ?_ ?hd); (case hm => exact Z.g_conventions); (case hg => first | exact (fun z => z) | exact rfl); (case hd => decide)))
set_option hygiene false in
local macro_rules | `(tactic| walk_at "Cal") => `(tactic| first
  | ((with_reducible refine' r_call (x := "_law_pen") cx ?hF ?hk ?hg ?hm ?_ ?hd ?he ?hp); (case hF => first | exact d__law_pen Z | exact d__law_pen Z TB); (case hk => decide); (case hg => first | exact (fun z => z) | exact (fun z => nomatch z)); (case hm => exact rfl); (case hd => decide); (case he => exact rfl); (case hp => exact rfl))
  | ((with_reducible refine' r_call (x := "_law_due") cx ?hF ?hk ?hg ?hm ?_ ?hd ?he ?hp); (case hF => first | exact d__law_due Z | exact d__law_due Z TB); (case hk => decide); (case hg => first | exact (fun z => z) | exact (fun z => nomatch z)); (case hm => exact rfl); (case hd => decide); (case he => exact rfl); (case hp => exact rfl))
  | ((with_reducible refine' r_callTy (x := "tuple") (id := "tuple") call_tupOf ?hg ?hm bt_tuple ?_ ?hn ?hd ?he ?hp); (case hg => exact rfl); (case hm => exact Z.z_tuple); (case hn => decide); (case hd => decide); (case he => exact rfl); (case hp => exact rfl))
  | ((with_reducible refine' r_callB (x := "min") (id := "min") (call_minA cx.calm) ?hg ?hm bt_min ?_ ?hn ?hd ?he ?hp); (case hg => exact rfl); (case hm => exact Z.z_min); (case hn => decide); (case hd => decide); (case he => exact rfl); (case hp => exact rfl))
  | ((with_reducible refine' r_call (x := "_law_pay") cx ?hF ?hk ?hg ?hm ?_ ?hd ?he ?hp); (case hF => first | exact d__law_pay Z | exact d__law_pay Z TB); (case hk => decide); (case hg => first | exact (fun z => z) | exact (fun z => nomatch z)); (case hm => exact rfl); (case hd => decide); (case he => exact rfl); (case hp => exact rfl))
  | ((with_reducible refine' r_call (x := "_law_gain") cx ?hF ?hk ?hg ?hm ?_ ?hd ?he ?hp); (case hF => first | exact d__law_gain Z | exact d__law_gain Z TB); (case hk => decide); (case hg => first | exact (fun z => z) | exact (fun z => nomatch z)); (case hm => exact rfl); (case hd => decide); (case he => exact rfl); (case hp => exact rfl))
  | ((with_reducible refine' r_callB (x := "repr") (id := "repr") (call_reprD (cx.gd rfl) cx.ru) ?hg ?hm bt_repr ?_ ?hn ?hd ?he ?hp); (case hg => exact rfl); (case hm => exact Z.z_repr); (case hn => decide); (case hd => decide); (case he => exact rfl); (case hp => exact rfl))
  | ((with_reducible refine' r_callB (x := "len") (id := "len") call_lenA ?hg ?hm bt_len ?_ ?hn ?hd ?he ?hp); (case hg => exact rfl); (case hm => exact Z.z_len); (case hn => decide); (case hd => decide); (case he => exact rfl); (case hp => exact rfl))
  | ((with_reducible refine' r_call (x := "_law_draw") cx ?hF ?hk ?hg ?hm ?_ ?hd ?he ?hp); (case hF => first | exact d__law_draw Z | exact d__law_draw Z TB); (case hk => decide); (case hg => first | exact (fun z => z) | exact (fun z => nomatch z)); (case hm => exact rfl); (case hd => decide); (case he => exact rfl); (case hp => exact rfl))
  | ((with_reducible refine' r_call (x := "_law_state") cx ?hF ?hk ?hg ?hm ?_ ?hd ?he ?hp); (case hF => first | exact d__law_state Z | exact d__law_state Z TB); (case hk => decide); (case hg => first | exact (fun z => z) | exact (fun z => nomatch z)); (case hm => exact rfl); (case hd => decide); (case he => exact rfl); (case hp => exact rfl))
  | ((with_reducible refine' r_call (x := "_law_is_balanced") cx ?hF ?hk ?hg ?hm ?_ ?hd ?he ?hp); (case hF => first | exact d__law_is_balanced Z | exact d__law_is_balanced Z TB); (case hk => decide); (case hg => first | exact (fun z => z) | exact (fun z => nomatch z)); (case hm => exact rfl); (case hd => decide); (case he => exact rfl); (case hp => exact rfl))
  | ((with_reducible refine' r_call (x := "crowd_heights") cx ?hF ?hk ?hg ?hm ?_ ?hd ?he ?hp); (case hF => first | exact d_crowd_heights Z | exact d_crowd_heights Z TB); (case hk => decide); (case hg => first | exact (fun z => z) | exact (fun z => nomatch z)); (case hm => exact rfl); (case hd => decide); (case he => exact rfl); (case hp => exact rfl))
  | ((with_reducible refine' r_call (x := "crowd_shares") cx ?hF ?hk ?hg ?hm ?_ ?hd ?he ?hp); (case hF => first | exact d_crowd_shares Z | exact d_crowd_shares Z TB); (case hk => decide); (case hg => first | exact (fun z => z) | exact (fun z => nomatch z)); (case hm => exact rfl); (case hd => decide); (case he => exact rfl); (case hp => exact rfl))
  | ((with_reducible refine' r_call (x := "against") cx ?hF ?hk ?hg ?hm ?_ ?hd ?he ?hp); (case hF => first | exact d_against Z | exact d_against Z TB); (case hk => decide); (case hg => first | exact (fun z => z) | exact (fun z => nomatch z)); (case hm => exact rfl); (case hd => decide); (case he => exact rfl); (case hp => exact rfl))
  | ((with_reducible refine' r_call (x := "_law_refused_right") cx ?hF ?hk ?hg ?hm ?_ ?hd ?he ?hp); (case hF => first | exact d__law_refused_right Z | exact d__law_refused_right Z TB); (case hk => decide); (case hg => first | exact (fun z => z) | exact (fun z => nomatch z)); (case hm => exact rfl); (case hd => decide); (case he => exact rfl); (case hp => exact rfl))
  | ((with_reducible refine' r_call (x := "_law_pick") cx ?hF ?hk ?hg ?hm ?_ ?hd ?he ?hp); (case hF => first | exact d__law_pick Z | exact d__law_pick Z TB); (case hk => decide); (case hg => first | exact (fun z => z) | exact (fun z => nomatch z)); (case hm => exact rfl); (case hd => decide); (case he => exact rfl); (case hp => exact rfl))
  | ((with_reducible refine' r_call (x := "gain") cx ?hF ?hk ?hg ?hm ?_ ?hd ?he ?hp); (case hF => first | exact d_gain Z | exact d_gain Z TB); (case hk => decide); (case hg => first | exact (fun z => z) | exact (fun z => nomatch z)); (case hm => exact rfl); (case hd => decide); (case he => exact rfl); (case hp => exact rfl))
  | ((with_reducible refine' r_call (x := "crowd") cx ?hF ?hk ?hg ?hm ?_ ?hd ?he ?hp); (case hF => first | exact d_crowd Z | exact d_crowd Z TB); (case hk => decide); (case hg => first | exact (fun z => z) | exact (fun z => nomatch z)); (case hm => exact rfl); (case hd => decide); (case he => exact rfl); (case hp => exact rfl))
  | ((with_reducible refine' r_call (x := "conventions") cx ?hF ?hk ?hg ?hm ?_ ?hd ?he ?hp); (case hF => first | exact d_conventions Z | exact d_conventions Z TB); (case hk => decide); (case hg => first | exact (fun z => z) | exact (fun z => nomatch z)); (case hm => exact rfl); (case hd => decide); (case he => exact rfl); (case hp => exact rfl)))
set_option hygiene false in
local macro_rules | `(tactic| walk_at "Rai") => `(tactic| first
  | fail)
set_option hygiene false in
local macro_rules | `(tactic| walk_at "Aug") => `(tactic| first
  | fail)
set_option hygiene false in
local macro_rules | `(tactic| walk_at "gv") => `(tactic| first
  | ((with_reducible refine' g_name 0 (x := "script") cx.nd ?hi ?hx ?_ ?hf); (case hi => exact rfl); (case hx => walk_at "ll"); (case hf => first | exact .inl rfl | exact .inr rfl))
  | ((with_reducible refine' g_name 1 (x := "pen") cx.nd ?hi ?hx ?_ ?hf); (case hi => exact rfl); (case hx => walk_at "ll"); (case hf => first | exact .inl rfl | exact .inr rfl))
  | ((with_reducible refine' g_name 2 (x := "turn") cx.nd ?hi ?hx ?_ ?hf); (case hi => exact rfl); (case hx => walk_at "ll"); (case hf => first | exact .inl rfl | exact .inr rfl))
  | ((with_reducible refine' g_name 3 (x := "pay") cx.nd ?hi ?hx ?_ ?hf); (case hi => exact rfl); (case hx => walk_at "ll"); (case hf => first | exact .inl rfl | exact .inr rfl))
  | ((with_reducible refine' g_name 4 (x := "many") cx.nd ?hi ?hx ?_ ?hf); (case hi => exact rfl); (case hx => walk_at "ll"); (case hf => first | exact .inl rfl | exact .inr rfl))
  | ((with_reducible refine' g_name 5 (x := "heights") cx.nd ?hi ?hx ?_ ?hf); (case hi => exact rfl); (case hx => walk_at "ll"); (case hf => first | exact .inl rfl | exact .inr rfl))
  | ((with_reducible refine' g_name 6 (x := "steps") cx.nd ?hi ?hx ?_ ?hf); (case hi => exact rfl); (case hx => walk_at "ll"); (case hf => first | exact .inl rfl | exact .inr rfl))
  | ((with_reducible refine' g_name 7 (x := "worths") cx.nd ?hi ?hx ?_ ?hf); (case hi => exact rfl); (case hx => walk_at "ll"); (case hf => first | exact .inl rfl | exact .inr rfl))
  | ((with_reducible refine' g_name 8 (x := "gains") cx.nd ?hi ?hx ?_ ?hf); (case hi => exact rfl); (case hx => walk_at "ll"); (case hf => first | exact .inl rfl | exact .inr rfl))
  | ((with_reducible refine' g_name 9 (x := "m") cx.nd ?hi ?hx ?_ ?hf); (case hi => exact rfl); (case hx => walk_at "ll"); (case hf => first | exact .inl rfl | exact .inr rfl))
  | ((with_reducible refine' g_name 10 (x := "names") cx.nd ?hi ?hx ?_ ?hf); (case hi => exact rfl); (case hx => walk_at "ll"); (case hf => first | exact .inl rfl | exact .inr rfl))
  | ((with_reducible refine' g_name 11 (x := "n") cx.nd ?hi ?hx ?_ ?hf); (case hi => exact rfl); (case hx => walk_at "ll"); (case hf => first | exact .inl rfl | exact .inr rfl))
  | ((with_reducible refine' g_name 12 (x := "less") cx.nd ?hi ?hx ?_ ?hf); (case hi => exact rfl); (case hx => walk_at "ll"); (case hf => first | exact .inl rfl | exact .inr rfl))
  | ((with_reducible refine' g_name 13 (x := "more") cx.nd ?hi ?hx ?_ ?hf); (case hi => exact rfl); (case hx => walk_at "ll"); (case hf => first | exact .inl rfl | exact .inr rfl))
  | ((with_reducible refine' g_name 14 (x := "here") cx.nd ?hi ?hx ?_ ?hf); (case hi => exact rfl); (case hx => walk_at "ll"); (case hf => first | exact .inl rfl | exact .inr rfl))
  | ((with_reducible refine' g_name 15 (x := "still") cx.nd ?hi ?hx ?_ ?hf); (case hi => exact rfl); (case hx => walk_at "ll"); (case hf => first | exact .inl rfl | exact .inr rfl)))
set_option hygiene false in
local macro_rules | `(tactic| walk_at "cv") => `(tactic| first
  | ((with_reducible refine' r_lc (own := [("m", 9)]) (tg := .Name "m" _) cx.calm cx.nd ?hok (tg_name 9 (by decide)) ?hg ?_ ?hs); (case hok => exact blkOk_by (N := ["script", "pen", "turn", "pay", "many", "heights", "steps", "worths", "gains", "m", "names", "n", "less", "more", "here", "still"]) (sc := defScope s_law) (by decide +kernel)); (case hg => exact fun _ _ _ _ _ => pg_name (i := 9) cx.nd rfl (Or.inl rfl)); (case hs => exact fun _ => rfl))
  | ((with_reducible refine' r_lc (own := [("n", 11)]) (tg := .Name "n" _) cx.calm cx.nd ?hok (tg_name 11 (by decide)) ?hg ?_ ?hs); (case hok => exact blkOk_by (N := ["script", "pen", "turn", "pay", "many", "heights", "steps", "worths", "gains", "m", "names", "n", "less", "more", "here", "still"]) (sc := defScope s_law) (by decide +kernel)); (case hg => exact fun _ _ _ _ _ => pg_name (i := 11) cx.nd rfl (Or.inl rfl)); (case hs => exact fun _ => rfl))
  | ((with_reducible refine' r_lc (own := [("here", 14)]) (tg := .Name "here" _) cx.calm cx.nd ?hok (tg_name 14 (by decide)) ?hg ?_ ?hs); (case hok => exact blkOk_by (N := ["script", "pen", "turn", "pay", "many", "heights", "steps", "worths", "gains", "m", "names", "n", "less", "more", "here", "still"]) (sc := defScope s_law) (by decide +kernel)); (case hg => exact fun _ _ _ _ _ => pg_name (i := 14) cx.nd rfl (Or.inl rfl)); (case hs => exact fun _ => rfl)))
set_option hygiene false in
local macro_rules | `(tactic| walk_at "cvO") => `(tactic| first
  | ((with_reducible refine' r_lcO (own := [("m", 9)]) (tg := .Name "m" _) cx.calm cx.nd ?hok (tg_name 9 (by decide)) ?hg ?_ ?hs); (case hok => exact blkOk_by (N := ["script", "pen", "turn", "pay", "many", "heights", "steps", "worths", "gains", "m", "names", "n", "less", "more", "here", "still"]) (sc := defScope s_law) (by decide +kernel)); (case hg => exact fun _ _ _ _ _ => pg_name (i := 9) cx.nd rfl (Or.inl rfl)); (case hs => exact fun _ => rfl))
  | ((with_reducible refine' r_lcO (own := [("n", 11)]) (tg := .Name "n" _) cx.calm cx.nd ?hok (tg_name 11 (by decide)) ?hg ?_ ?hs); (case hok => exact blkOk_by (N := ["script", "pen", "turn", "pay", "many", "heights", "steps", "worths", "gains", "m", "names", "n", "less", "more", "here", "still"]) (sc := defScope s_law) (by decide +kernel)); (case hg => exact fun _ _ _ _ _ => pg_name (i := 11) cx.nd rfl (Or.inl rfl)); (case hs => exact fun _ => rfl))
  | ((with_reducible refine' r_lcO (own := [("here", 14)]) (tg := .Name "here" _) cx.calm cx.nd ?hok (tg_name 14 (by decide)) ?hg ?_ ?hs); (case hok => exact blkOk_by (N := ["script", "pen", "turn", "pay", "many", "heights", "steps", "worths", "gains", "m", "names", "n", "less", "more", "here", "still"]) (sc := defScope s_law) (by decide +kernel)); (case hg => exact fun _ _ _ _ _ => pg_name (i := 14) cx.nd rfl (Or.inl rfl)); (case hs => exact fun _ => rfl)))
set_option hygiene false in
local macro_rules | `(tactic| walk_at "cs") => `(tactic| first
  | ((with_reducible refine' s_lc 8 (y := "gains") (own := [("m", 9)]) (tg := .Name "m" _) cx.calm cx.nd ?hy ?hyl ?hsw ?hok (tg_name 9 (by decide)) ?hg ?_ ?hs); (case hy => exact rfl); (case hyl => exact rfl); (case hsw => exact rfl); (case hok => exact blkOk_by (N := ["script", "pen", "turn", "pay", "many", "heights", "steps", "worths", "gains", "m", "names", "n", "less", "more", "here", "still"]) (sc := defScope s_law) (by decide +kernel)); (case hg => exact fun _ _ _ _ _ => pg_name (i := 9) cx.nd rfl (Or.inl rfl)); (case hs => exact fun _ => rfl)))

theorem law_fn (Z : Tx K mg) (TB : TBs K mg base) {fd : FuncData} (F : Fun1 K "law" "law" s_law (He.ga K "law") fd (.ref (He.codeOf K ("law", none))) ["script"]) : FnG P w K mg base 10 true (He.ga K "law") fd ["script"] (lift K (tabsOf K tfs) spLaw3) := by
  refine def_okG F sc_law (fun ds G Q E h => ?_) fun A outer s H E O ds G Q3 E3 cx h => ?_
  · obtain ⟨ns, rfl, _⟩ := h; rfl
  · obtain ⟨ns, rfl, hl, hbits, q⟩ := h
    walk_at "bb"
    repeat (walk_at "xs")
    refine ⟨ns, rfl, hl, fun p c gp hc => ?_⟩
    repeat (walk_at "xx")
    have h4 : (2 + if ((ns.map D.int).length : Int) < 2 then ((ns.map D.int).length : Int) else 2) ≤ 4 := by split <;> omega
    have h2 : 2 ≤ (2 + if ((ns.map D.int).length : Int) < 2 then ((ns.map D.int).length : Int) else 2) := by split <;> omega
    generalize (2 + if ((ns.map D.int).length : Int) < 2 then ((ns.map D.int).length : Int) else 2) = t at h4 h2 ⊢
    refine ⟨by omega, by omega, ?_⟩
    refine ⟨fun i σ' G' => (∃ c, PenC (8 * i) c ∧ G' = gset G p c) ∧ ∃ o2 o3 o4 o5 o6 o7 o8 o10 o12 o13 o15, σ' = [some (.lst (ns.map .int)), some (.raw (.ref p)), o2, o3, o4, o5, o6, o7, o8, none, o10, none, o12, o13, none, o15], ⟨⟨c, hc, rfl⟩, _, _, _, _, _, _, _, _, _, _, _, rfl⟩, fun _ _ _ _ _ => trivial, fun i x σ' G' hx hi => ?_, fun σ' G' hi => ?_⟩
    · obtain ⟨⟨c, hc, rfl⟩, o2, o3, o4, o5, o6, o7, o8, o10, o12, o13, o15, rfl⟩ := hi
      obtain ⟨hi, rfl⟩ := rangeD_get hx
      repeat (walk_at "xs")
      refine b_cut (fun σ1 G1 => ∃ a b c d n cc, (a.natAbs < 3000000000 ∧ b.natAbs < 3000000000 ∧ c.natAbs < 3000000000 ∧ d.natAbs < 3000000000) ∧ 1 ≤ n ∧ n ≤ 60 ∧ PenC (8 * (i + 1)) cc ∧ gset G p cc = G1 ∧ σ1 = [some (.lst (ns.map .int)), some (.raw (.ref p)), some (.int (0 + i)), some (payD a b c d), some (.int n), o5, o6, o7, o8, none, o10, none, o12, o13, none, o15]) ?_ ?_
      · repeat (walk_at "xs")
        refine ⟨p, _, c, rfl, gset_same, hc, by omega, fun a b c d cc hb hcc => ?_⟩
        rw [gset_gset]
        repeat (walk_at "xs")
        refine r_lst ?_
        repeat (walk_at "xs")
        refine ⟨p, _, cc, _, _, rfl, .inr (.inl rfl), gset_same, hcc, by omega, (fun z => nomatch z), (by decide), (fun _ z => nomatch z), fun y c1 hc1 hy => ?_⟩
        rw [gset_gset]
        obtain ⟨wide, rfl, hw⟩ : ∃ wide : Int, y = .int wide ∧ 3 ≤ wide ∧ wide ≤ 60 := by
          simp only [List.mem_cons, List.not_mem_nil, or_false] at hy
          rcases hy with rfl | rfl | rfl
          · exact ⟨_, rfl, by decide, by decide⟩
          · exact ⟨_, rfl, by decide, by decide⟩
          · exact ⟨_, rfl, by decide, by decide⟩
        repeat (walk_at "xs")
        refine ⟨p, _, _, c1, rfl, gset_same, hc1, by omega, by omega, by omega, fun v c2 hc2 v0 v1 => ?_⟩
        rw [gset_gset]
        repeat (walk_at "xs")
        exact ⟨a, b, c, d, 1 + v, c2, hb, by omega, by omega, hc2, rfl, rfl⟩
      · rintro _ _ ⟨a, b, c, d, n, cc, hb, n1, n2, hcc, rfl, rfl⟩
        walk_at "be"
        repeat (walk_at "xs")
        refine ⟨a, b, c, d, n, rfl, n1, n2, ?_⟩
        show xG _ _ _ _ (.tup [.lst _, .lst _, .lst _]) _ _ _
        repeat (walk_at "xs")
        refine b_cons ?_
        walk_at "cs"
        repeat (walk_at "xs")
        refine ⟨by omega, by omega, ?_⟩
        refine lc_mapX cx (gainD a b c d n) (by rw [rangeD_length, szl]; omega) (fun _ _ _ => trivial) (fun i x hx => ?_) ?_
        · obtain ⟨hi, rfl⟩ := rangeD_get hx
          refine ⟨_, rfl, fun A1 h1 g1 s1 H1 Cc cl fp cx => ?_⟩
          repeat (walk_at "xx")
          exact ⟨a, b, c, d, n, _, rfl, ⟨by omega, by omega, by omega, by omega⟩, rfl, rfl⟩
        rw [gains_map]
        walk_at "be"
        repeat (walk_at "xs")
        walk_at "cv"
        repeat (walk_at "xs")
        refine ⟨by omega, by omega, ?_⟩
        refine lc_mapX cx (gainD a b c d n) (by rw [rangeD_length, szl]; omega) (fun _ _ _ => trivial) (fun i x hx => ?_) ?_
        · obtain ⟨hi, rfl⟩ := rangeD_get hx
          refine ⟨_, rfl, fun A1 h1 g1 s1 H1 Cc cl fp cx => ?_⟩
          repeat (walk_at "xx")
          refine ⟨_, _, _, rfl, rfl, spC_ok n1 n2 ⟨fun z => ?_, fun j e _ _ => ?_⟩⟩
          · simp [mOk] at z; omega
          · cases e; exact ⟨rfl, rfl⟩
        rw [gains_map]
        repeat (walk_at "xs")
        refine c_rep (gains_rep hb n1 n2) ?_
        repeat (walk_at "xs")
        refine c_rep (gains_rep hb n1 n2) ?_
        repeat (walk_at "xs")
        refine ⟨fun z => by simp at z, fun _ => ?_⟩
        repeat (walk_at "xs")
        walk_at "be"
        repeat (walk_at "xs")
        walk_at "cv"
        repeat (walk_at "xs")
        refine ⟨by omega, by omega, ?_⟩
        refine lc_mapX cx nameD (by rw [rangeD_length, szl]; omega) (fun _ _ _ => trivial) (fun i x hx => ?_) ?_
        · obtain ⟨hi, rfl⟩ := rangeD_get hx
          refine ⟨_, rfl, fun A1 h1 g1 s1 H1 Cc cl fp cx => ?_⟩
          repeat (walk_at "xx")
          exact ⟨_, rfl, ⟨by omega, by omega⟩, rfl, rfl⟩
        repeat (walk_at "xs")
        refine c_tuple (.inr (.inl rfl)) ?_
        repeat (walk_at "xs")
        walk_at "be"
        repeat (walk_at "xs")
        refine ⟨_, _, rfl, spC_ok n1 n2 ?_⟩
        repeat (walk_at "xs")
        refine c_rep (web_rep n1 n2) ?_
        repeat (first | walk_at "xs" | refine c_tuple (.inr (.inl rfl)) ?_)
        refine c_rep (x := webD (namesD n) (stepsU a b c d n n.toNat)) (web_rep n1 n2) ?_
        repeat (walk_at "xs")
        refine ⟨fun _ => ?_, fun z => by simp at z⟩
        repeat (walk_at "xs")
        refine ⟨a, b, c, d, n, _, rfl, List.mergeSort_perm .., n1, n2, ?_⟩
        repeat (walk_at "xs")
        walk_at "be"
        repeat (walk_at "xs")
        refine ⟨_, _, rfl, spC_ok n1 n2 ?_⟩
        repeat (walk_at "xs")
        refine c_rep (hts_rep n1 n2) ?_
        repeat (first | walk_at "xs" | refine c_tuple (.inr (.inl rfl)) ?_)
        refine c_rep (hts_rep n1 n2) ?_
        repeat (walk_at "xs")
        refine ⟨fun z => by simp at z, fun _ => ?_⟩
        repeat (walk_at "xs")
        walk_at "be"
        repeat (walk_at "xs")
        refine ⟨_, _, rfl, spC_ok n1 n2 ?_⟩
        repeat (walk_at "xs")
        refine c_rep (shares_rep n1 n2) ?_
        repeat (first | walk_at "xs" | refine c_tuple (.inr (.inl rfl)) ?_)
        refine c_rep (shares_rep n1 n2) ?_
        repeat (walk_at "xs")
        refine ⟨fun z => by simp at z, fun _ => ?_⟩
        repeat (walk_at "xs")
        refine b_cut (fun σ1 G1 => gset G p cc = G1 ∧ σ1 = [some (.lst (ns.map .int)), some (.raw (.ref p)), some (.int (0 + i)), some (payD a b c d), some (.int n), some (.lst ((hts a b c d n).map .int)), some (.lst (((stepsU a b c d n n.toNat).mergeSort leE).map stepD)), some (.lst (sharesL a b c d n)), some (.lst ((gains a b c d n).map .int)), none, some (.tup (namesD n)), none, some (.int (lessN a b c d n)), some (.int (moreN a b c d n)), none, o15]) ?_ ?_
        · repeat (walk_at "xs")
          walk_at "cv"
          refine i_list ?_
          repeat (walk_at "xx")
          refine ⟨_, _, .inl ⟨rfl, rfl⟩, ?_⟩
          refine lc_filtX cx ltD id (by rw [szl]; simp [gains]; omega) (fun _ _ _ => trivial) (fun i x hx => ?_) ?_
          · rw [List.getElem?_map] at hx
            obtain ⟨j, _, rfl⟩ := Option.map_eq_some_iff.mp hx
            refine ⟨_, rfl, fun A1 h1 g1 s1 H1 Cc cl fp cx => ?_⟩
            repeat (walk_at "xx")
            refine ⟨rfl, rfl, fun _ s1 H1 Cc cl fp cx => ?_⟩
            repeat (walk_at "xx")
            exact ⟨rfl, rfl⟩
          repeat (walk_at "xs")
          walk_at "cv"
          refine i_list ?_
          repeat (walk_at "xx")
          refine ⟨_, _, .inl ⟨rfl, rfl⟩, ?_⟩
          refine lc_filtX cx gtD id (by rw [szl]; simp [gains]; omega) (fun _ _ _ => trivial) (fun i x hx => ?_) ?_
          · rw [List.getElem?_map] at hx
            obtain ⟨j, _, rfl⟩ := Option.map_eq_some_iff.mp hx
            refine ⟨_, rfl, fun A1 h1 g1 s1 H1 Cc cl fp cx => ?_⟩
            repeat (walk_at "xx")
            refine ⟨rfl, rfl, fun _ s1 H1 Cc cl fp cx => ?_⟩
            repeat (walk_at "xx")
            exact ⟨rfl, rfl⟩
          repeat (walk_at "xs")
          rw [len_filt, len_filt]
          exact ⟨rfl, rfl⟩
        rintro _ _ ⟨rfl, rfl⟩
        walk_at "be"
        repeat (walk_at "xs")
        refine ⟨_, _, rfl, spC_ok n1 n2 ?_⟩
        repeat (walk_at "xs")
        refine c_rep (two_rep n1 n2) ?_
        repeat (first | walk_at "xs" | refine c_tuple (.inr (.inl rfl)) ?_)
        refine c_rep (two_rep n1 n2) ?_
        repeat (walk_at "xs")
        refine ⟨fun z => by simp at z, fun _ => ?_⟩
        repeat (walk_at "xs")
        walk_at "be"
        repeat (walk_at "xs")
        walk_at "cv"
        repeat (walk_at "xs")
        refine ⟨by omega, by omega, ?_⟩
        refine lc_filtX cx (hz (hts a b c d n)) id (by rw [rangeD_length, szl]; omega) (fun _ _ _ => trivial) (fun i x hx => ?_) ?_
        · obtain ⟨hi, rfl⟩ := rangeD_get hx
          refine ⟨_, rfl, fun A1 h1 g1 s1 H1 Cc cl fp cx => ?_⟩
          obtain ⟨v, hv⟩ : ∃ v, (hts a b c d n)[i]? = some v := ⟨_, List.getElem?_eq_getElem (by rw [hts_len]; omega)⟩
          repeat (walk_at "xx")
          refine ix_l (d := .int v) (atI_nat hv) ?_
          repeat (walk_at "xx")
          refine ⟨?_, rfl, fun _ s1 H1 Cc cl fp cx => ?_⟩
          · show _ = ((hts a b c d n)[((0 : Int) + i).toNat]? == some 0)
            rw [Int.zero_add, Int.toNat_natCast, hv]
            by_cases z : v = 0
            · subst z; rfl
            · rw [decide_eq_false z]
              exact (beq_eq_false_iff_ne.mpr fun q => z (Option.some.inj q)).symm
          · repeat (walk_at "xx")
            exact ⟨rfl, rfl⟩
        rw [still_map a b c d n (by omega)]
        repeat (walk_at "xs")
        refine c_tuple (.inr (.inl rfl)) ?_
        repeat (walk_at "xs")
        refine b_cut (fun σ1 G1 => gset G p cc = G1 ∧ σ1 = [some (.lst (ns.map .int)), some (.raw (.ref p)), some (.int (0 + i)), some (payD a b c d), some (.int n), some (.lst ((hts a b c d n).map .int)), some (.lst (((stepsU a b c d n n.toNat).mergeSort leE).map stepD)), some (.lst (sharesL a b c d n)), some (.lst ((gains a b c d n).map .int)), none, some (.tup (namesD n)), none, some (.int (lessN a b c d n)), some (.int (moreN a b c d n)), none, some (.tup ((still a b c d n).map .int))]) ?_ ?_
        · repeat (walk_at "xs")
          refine ix_l (gains_first n1) ?_
          repeat (walk_at "xs")
          refine br_d (fun e0 => ?_) fun _ => ?_
          rotate_left
          · repeat (walk_at "xs")
            exact ⟨rfl, rfl⟩
          repeat (walk_at "xs")
          refine ix_l (gains_last n1) ?_
          repeat (walk_at "xs")
          refine br_d (fun e1 => ?_) fun _ => ?_
          rotate_left
          · repeat (walk_at "xs")
            exact ⟨rfl, rfl⟩
          have st := still_two n1 e0 e1
          repeat (walk_at "xs")
          refine br_d (fun z => ?_) (fun z => ?_)
          · rw [if_pos (by omega)] at st
            rw [st]
            repeat (walk_at "xs")
            refine n_self rfl (Nat.le_of_ble_eq_true rfl) ?_
            repeat (walk_at "xs")
            exact ⟨rfl, rfl⟩
          · rw [if_neg (by omega)] at st
            repeat (walk_at "xs")
            refine br_d (fun z => ?_) (fun z => ?_)
            · rw [if_pos (by omega)] at st
              rw [st]
              repeat (walk_at "xs")
              refine n_self rfl (Nat.le_of_ble_eq_true rfl) ?_
              repeat (walk_at "xs")
              exact ⟨rfl, rfl⟩
            · rw [if_neg (by omega)] at st
              rw [st]
              repeat (walk_at "xs")
              refine n_self rfl (Nat.le_of_ble_eq_true rfl) ?_
              repeat (walk_at "xs")
              exact ⟨rfl, rfl⟩
        rintro _ _ ⟨rfl, rfl⟩
        walk_at "be"
        repeat (walk_at "xs")
        refine ⟨_, _, rfl, spC_ok n1 n2 ?_⟩
        repeat (walk_at "xs")
        refine c_rep (still_rep n1 n2) ?_
        repeat (walk_at "xs")
        refine c_rep (still_rep n1 n2) ?_
        repeat (walk_at "xs")
        refine ⟨fun _ => ?_, fun z => by simp at z⟩
        repeat (walk_at "xs")
        refine ⟨p, a, b, c, d, n, rfl, hb, n1, n2, ?_⟩
        repeat (walk_at "xx")
        exact ⟨⟨cc, hcc, rfl⟩, _, _, _, _, _, _, _, _, _, _, _, rfl⟩
    · obtain ⟨⟨c, hc, rfl⟩, o2, o3, o4, o5, o6, o7, o8, o10, o12, o13, o15, rfl⟩ := hi
      obtain ⟨ns', a', r', rfl, _⟩ := hc
      refine b_freezeK 1 rfl (p := p) (ds := penD ns' a' r') gset_same ?_
      rw [gdel_gset gp]
      repeat (walk_at "xx")
      exact q
end
end K58
end
section
set_option maxHeartbeats 4000000
namespace K58
open PySem PySem.Spec PyProof.Rows L2 L3
theorem facts {w : World} {K : PySem.W.Frag} {h : Heap} {mg : Str → Option Value} (X : K.In h) (G : h.Ns mainGlobals mg) (c : He.SaysX fas fns [] tfs exs w h K) {P : Program} :
    ∃ fd : FuncData, mg "law" = some (.ref (He.ga K "law")) ∧ (∀ (s : Shared) (u : Value), BindsTo s fd ⟨[u], []⟩ [("script", u)]) ∧
      ∀ base : Heap, K.In base → base.Ns mainGlobals mg → (∀ p ∈ tfs, LamX.TabB base mg (He.cT K p).1 (He.cT K p).2) → FnG P w K mg base 10 true (He.ga K "law") fd ["script"] (lift K (tabsOf K tfs) spLaw3) := by
  have Z := tx_of X G c
  obtain ⟨fd, F⟩ := c.t.d.def_ 23 (d := ⟨("law", none), "law", "law", defArgs s_law, defBody s_law, defScope s_law, [], []⟩) rfl
  have b := FunD.bindsA (ps := ["script"]) F fun _ _ _ _ _ _ us hl => match us, hl with | [_], _ => rfl
  exact ⟨fd, Z.g_law, fun s v => b s [v] rfl, fun base _ _ TB => law_fn Z TB (fun1_of F fun _ _ _ _ _ _ us hl => match us, hl with | [_], _ => rfl)⟩
end K58
open PySem PySem.W PySem.Calls PyProof.Rows
set_option maxRecDepth 100000 in
set_option maxHeartbeats 0 in
theorem PySem.Challenge.cw_raresteps_k58_whole_crowds_holds : PySem.Challenge.rw_raresteps_k58_whole_crowds.Holds := by
  w_on; o_law
  refine HandSHeadRun.head_imp (r := K58.RW) (q := view K58.RW.prog [0, 31]) (H := K58.hkX) (ob := K58.obX) (M := 6000) (loose := K58.loose) (d := HandSHeadRun.topDef K58.RW.prog 31) (kwd := []) K58.obX_eq K58.runX
    (by kernel_rfl) (by kernel_rfl) (by kernel_rfl) (by rfl) (by first | assumption | decide +kernel) (by decide +kernel) ⟨rfl, rfl, rfl, rfl, rfl, by decide +kernel⟩ ?hw ?hc
  case hw => w_witness2
  case hc => exact L3.walk3 (l := PySem.Challenge.rw_raresteps_k58_whole_crowds) (k := 10) rfl (by kernel_rfl) ⟨rfl, by decide, by decide⟩ (by kernel_rfl) fun w K h mg X G c => K58.facts X G c
end
