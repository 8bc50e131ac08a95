import PyProof.Rows.All
import HandS.ForMost
import HandS.Exc
import HandS.WordsExc
import HandS.DictComp
import HandS.Zip
import HandS.Deep
import HandS.TupAny
import HandS.TupLe
import HandS.Wide
import HandS.WideBits
import HandS.Iter
import HandS.Dict
import HandS.IsInst
import HandS.WordsDict
import HandS.More
import HandS.Style
import HandS.ListItems
import HandS.Defaults
import PyProof.ReprRoads
import KE.KSortTupG
import HandS.TupSets
import PyProof.ListStr
import KE.KDictZip
import PyProof.CollectWalk
import HandS.Ends
import PyProof.ReprLen
import PySem.Challenge.RW_eachdelay_k71_whole_times_of_webs
set_option Elab.async false
set_option linter.all false
set_option maxRecDepth 100000
set_option Elab.async false
set_option linter.all false
set_option maxRecDepth 100000
/-! DD1: plain data with ownership over the abstract heap. -/
namespace DD
open PySem PySem.Spec PyProof.Rows L2

abbrev D := PyData
abbrev St := L2.St

def keyD : Key → D
  | .inl i => .int i
  | .inr s => .str s

mutual
def repV (Z : Hp) : D → V → Prop
  | .none, v => v = .non
  | .bool b, v => v = .bl b
  | .int i, v => v = .int i
  | .str s, v => v = .str s
  | .list ds, v => ∃ p vs, v = .ref p ∧ Z p = some (.lst vs) ∧ repL Z ds vs
  | .tuple ds, v => ∃ p vs, v = .ref p ∧ Z p = some (.tup vs) ∧ repL Z ds vs
  | .dict kvs, v => ∃ p es, v = .ref p ∧ Z p = some (.dK es) ∧ repK Z kvs es
def repL (Z : Hp) : List D → List V → Prop
  | [], vs => vs = []
  | d :: ds, vs => ∃ v r, vs = v :: r ∧ repV Z d v ∧ repL Z ds r
def repK (Z : Hp) : List (D × D) → List (Key × V) → Prop
  | [], es => es = []
  | (k, d) :: r, es => ∃ key v es', es = (key, v) :: es' ∧ keyD key = k ∧ repV Z d v ∧ repK Z r es'
end

/-- what is known of the frozen part grows -/
def Sub0 (Z Z' : Hp) : Prop := ∀ a u, Z a = some u → Z' a = some u
theorem Sub0.refl (Z : Hp) : Sub0 Z Z := fun _ _ h => h
theorem Sub0.trans {Z Z1 Z2 : Hp} (a : Sub0 Z Z1) (b : Sub0 Z1 Z2) : Sub0 Z Z2 := fun p u h => b p u (a p u h)

mutual
theorem repV_ext {Z Z' : Hp} (h : Sub0 Z Z') : ∀ {d : D} {v : V}, repV Z d v → repV Z' d v
  | .none, _, r => by rw [repV] at r ⊢; exact r
  | .bool _, _, r => by rw [repV] at r ⊢; exact r
  | .int _, _, r => by rw [repV] at r ⊢; exact r
  | .str _, _, r => by rw [repV] at r ⊢; exact r
  | .list ds, _, r => by
    rw [repV] at r ⊢
    obtain ⟨p, vs, e, z, q⟩ := r
    exact ⟨p, vs, e, h _ _ z, repL_ext h q⟩
  | .tuple ds, _, r => by
    rw [repV] at r ⊢
    obtain ⟨p, vs, e, z, q⟩ := r
    exact ⟨p, vs, e, h _ _ z, repL_ext h q⟩
  | .dict ds, _, r => by
    rw [repV] at r ⊢
    obtain ⟨p, vs, e, z, q⟩ := r
    exact ⟨p, vs, e, h _ _ z, repK_ext h q⟩
theorem repL_ext {Z Z' : Hp} (h : Sub0 Z Z') : ∀ {ds : List D} {vs : List V}, repL Z ds vs → repL Z' ds vs
  | [], _, r => by rw [repL] at r ⊢; exact r
  | d :: ds, _, r => by
    rw [repL] at r ⊢
    obtain ⟨v, t, e, z, q⟩ := r
    exact ⟨v, t, e, repV_ext h z, repL_ext h q⟩
theorem repK_ext {Z Z' : Hp} (h : Sub0 Z Z') : ∀ {ds : List (D × D)} {vs : List (Key × V)}, repK Z ds vs → repK Z' ds vs
  | [], _, r => by rw [repK] at r ⊢; exact r
  | (k, d) :: ds, _, r => by
    rw [repK] at r ⊢
    obtain ⟨key, v, t, e, z0, z, q⟩ := r
    exact ⟨key, v, t, e, z0, repV_ext h z, repK_ext h q⟩
end

/-- a value as the proof sees it: frozen data, or an object of one's own (with what it holds) -/
inductive SV where
  | un
  | d (x : D)
  | lst (xs : List SV)
  | tup (xs : List SV)
  | dct (kvs : List (Key × SV))

mutual
def SV.toD : SV → D
  | .un => .none
  | .d x => x
  | .lst xs => .list (SV.toDs xs)
  | .tup xs => .tuple (SV.toDs xs)
  | .dct kvs => .dict (SV.toDk kvs)
def SV.toDs : List SV → List D
  | [] => []
  | x :: xs => x.toD :: SV.toDs xs
def SV.toDk : List (Key × SV) → List (D × D)
  | [] => []
  | (k, x) :: xs => (keyD k, x.toD) :: SV.toDk xs
end
/- every part is known -/
mutual
def SV.full : SV → Bool
  | .un => false
  | .d _ => true
  | .lst xs => SV.fulls xs
  | .tup xs => SV.fulls xs
  | .dct kvs => SV.fullk kvs
def SV.fulls : List SV → Bool
  | [] => true
  | x :: xs => x.full && SV.fulls xs
def SV.fullk : List (Key × SV) → Bool
  | [] => true
  | (_, x) :: xs => x.full && SV.fullk xs
end

mutual
def repS (Z H : Hp) : SV → V → List Addr → Prop
  | .un, _, own => own = []
  | .d x, v, own => own = [] ∧ repV Z x v
  | .lst xs, v, own => ∃ p vs o, v = .ref p ∧ own = p :: o ∧ H p = some (.lst vs) ∧ repSs Z H xs vs o
  | .tup xs, v, own => ∃ p vs o, v = .ref p ∧ own = p :: o ∧ H p = some (.tup vs) ∧ repSs Z H xs vs o
  | .dct kvs, v, own => ∃ p es o, v = .ref p ∧ own = p :: o ∧ H p = some (.dK es) ∧ repSk Z H kvs es o
def repSs (Z H : Hp) : List SV → List V → List Addr → Prop
  | [], vs, own => vs = [] ∧ own = []
  | x :: xs, vs, own => ∃ v r o1 o2, vs = v :: r ∧ own = o1 ++ o2 ∧ repS Z H x v o1 ∧ repSs Z H xs r o2
def repSk (Z H : Hp) : List (Key × SV) → List (Key × V) → List Addr → Prop
  | [], es, own => es = [] ∧ own = []
  | (k, x) :: xs, es, own => ∃ v r o1 o2, es = (k, v) :: r ∧ own = o1 ++ o2 ∧ repS Z H x v o1 ∧ repSk Z H xs r o2
end

/- the owned part reads the heap at its own addresses alone -/
mutual
theorem repS_keep {Z Z' H H' : Hp} (hz : Sub0 Z Z') : ∀ {x : SV} {v : V} {own : List Addr}, (∀ a ∈ own, H' a = H a) → repS Z H x v own → repS Z' H' x v own
  | .un, _, _, _, r => by rw [repS] at r ⊢; exact r
  | .d _, _, _, _, r => by rw [repS] at r ⊢; exact ⟨r.1, repV_ext hz r.2⟩
  | .lst xs, _, _, k, r => by
    rw [repS] at r ⊢
    obtain ⟨p, vs, o, e1, e2, e3, q⟩ := r
    subst e2
    exact ⟨p, vs, o, e1, rfl, (k p (List.mem_cons_self ..)).trans e3, repSs_keep hz (fun a ha => k a (List.mem_cons_of_mem _ ha)) q⟩
  | .tup xs, _, _, k, r => by
    rw [repS] at r ⊢
    obtain ⟨p, vs, o, e1, e2, e3, q⟩ := r
    subst e2
    exact ⟨p, vs, o, e1, rfl, (k p (List.mem_cons_self ..)).trans e3, repSs_keep hz (fun a ha => k a (List.mem_cons_of_mem _ ha)) q⟩
  | .dct xs, _, _, k, r => by
    rw [repS] at r ⊢
    obtain ⟨p, vs, o, e1, e2, e3, q⟩ := r
    subst e2
    exact ⟨p, vs, o, e1, rfl, (k p (List.mem_cons_self ..)).trans e3, repSk_keep hz (fun a ha => k a (List.mem_cons_of_mem _ ha)) q⟩
theorem repSs_keep {Z Z' H H' : Hp} (hz : Sub0 Z Z') : ∀ {xs : List SV} {vs : List V} {own : List Addr}, (∀ a ∈ own, H' a = H a) → repSs Z H xs vs own → repSs Z' H' xs vs own
  | [], _, _, _, r => by rw [repSs] at r ⊢; exact r
  | x :: xs, _, _, k, r => by
    rw [repSs] at r ⊢
    obtain ⟨v, t, o1, o2, e1, e2, q1, q2⟩ := r
    subst e2
    exact ⟨v, t, o1, o2, e1, rfl, repS_keep hz (fun a ha => k a (List.mem_append_left _ ha)) q1, repSs_keep hz (fun a ha => k a (List.mem_append_right _ ha)) q2⟩
theorem repSk_keep {Z Z' H H' : Hp} (hz : Sub0 Z Z') : ∀ {xs : List (Key × SV)} {vs : List (Key × V)} {own : List Addr}, (∀ a ∈ own, H' a = H a) → repSk Z H xs vs own → repSk Z' H' xs vs own
  | [], _, _, _, r => by rw [repSk] at r ⊢; exact r
  | (_, x) :: xs, _, _, k, r => by
    rw [repSk] at r ⊢
    obtain ⟨v, t, o1, o2, e1, e2, q1, q2⟩ := r
    subst e2
    exact ⟨v, t, o1, o2, e1, rfl, repS_keep hz (fun a ha => k a (List.mem_append_left _ ha)) q1, repSk_keep hz (fun a ha => k a (List.mem_append_right _ ha)) q2⟩
end

/- an owned address is tracked -/
mutual
theorem repS_there {Z H : Hp} : ∀ {x : SV} {v : V} {own : List Addr}, repS Z H x v own → ∀ a ∈ own, ∃ o, H a = some o
  | .un, _, _, r, a, ha => by rw [repS] at r; subst r; cases ha
  | .d _, _, _, r, a, ha => by rw [repS] at r; rw [r.1] at ha; cases ha
  | .lst xs, _, _, r, a, ha => by
    rw [repS] at r
    obtain ⟨p, vs, o, e1, e2, e3, q⟩ := r
    subst e2
    rcases List.mem_cons.mp ha with rfl | ha
    · exact ⟨_, e3⟩
    · exact repSs_there q a ha
  | .tup xs, _, _, r, a, ha => by
    rw [repS] at r
    obtain ⟨p, vs, o, e1, e2, e3, q⟩ := r
    subst e2
    rcases List.mem_cons.mp ha with rfl | ha
    · exact ⟨_, e3⟩
    · exact repSs_there q a ha
  | .dct xs, _, _, r, a, ha => by
    rw [repS] at r
    obtain ⟨p, vs, o, e1, e2, e3, q⟩ := r
    subst e2
    rcases List.mem_cons.mp ha with rfl | ha
    · exact ⟨_, e3⟩
    · exact repSk_there q a ha
theorem repSs_there {Z H : Hp} : ∀ {xs : List SV} {vs : List V} {own : List Addr}, repSs Z H xs vs own → ∀ a ∈ own, ∃ o, H a = some o
  | [], _, _, r, a, ha => by rw [repSs] at r; rw [r.2] at ha; cases ha
  | x :: xs, _, _, r, a, ha => by
    rw [repSs] at r
    obtain ⟨v, t, o1, o2, e1, e2, q1, q2⟩ := r
    subst e2
    rcases List.mem_append.mp ha with ha | ha
    · exact repS_there q1 a ha
    · exact repSs_there q2 a ha
theorem repSk_there {Z H : Hp} : ∀ {xs : List (Key × SV)} {vs : List (Key × V)} {own : List Addr}, repSk Z H xs vs own → ∀ a ∈ own, ∃ o, H a = some o
  | [], _, _, r, a, ha => by rw [repSk] at r; rw [r.2] at ha; cases ha
  | (_, x) :: xs, _, _, r, a, ha => by
    rw [repSk] at r
    obtain ⟨v, t, o1, o2, e1, e2, q1, q2⟩ := r
    subst e2
    rcases List.mem_append.mp ha with ha | ha
    · exact repS_there q1 a ha
    · exact repSk_there q2 a ha
end

/-- Z and what H has at own -/
def plus (Z H : Hp) (own : List Addr) : Hp := fun a => if a ∈ own then H a else Z a
theorem plus_ext {Z H : Hp} {own : List Addr} (h : ∀ a ∈ own, Z a = none) : Sub0 Z (plus Z H own) := fun a u e => by
  unfold plus
  rw [if_neg (fun ha => by rw [h a ha] at e; cases e)]
  exact e
theorem plus_in {Z H : Hp} {own : List Addr} {a : Addr} (h : a ∈ own) : plus Z H own a = H a := if_pos h

/- what is one's own becomes frozen data -/
mutual
theorem repS_freeze {Z Z' H : Hp} (hz : Sub0 Z Z') : ∀ {x : SV} {v : V} {own : List Addr}, x.full = true → (∀ a ∈ own, Z' a = H a) → repS Z H x v own → repV Z' x.toD v
  | .un, _, _, f, _, _ => by rw [SV.full] at f; cases f
  | .d _, _, _, _, _, r => by rw [repS] at r; rw [SV.toD]; exact repV_ext hz r.2
  | .lst xs, _, _, f, k, r => by
    rw [repS] at r
    obtain ⟨p, vs, o, e1, e2, e3, q⟩ := r
    subst e2
    rw [SV.toD, repV]
    rw [SV.full] at f
    exact ⟨p, vs, e1, (k p (List.mem_cons_self ..)).trans e3, repSs_freeze hz f (fun a ha => k a (List.mem_cons_of_mem _ ha)) q⟩
  | .tup xs, _, _, f, k, r => by
    rw [repS] at r
    obtain ⟨p, vs, o, e1, e2, e3, q⟩ := r
    subst e2
    rw [SV.toD, repV]
    rw [SV.full] at f
    exact ⟨p, vs, e1, (k p (List.mem_cons_self ..)).trans e3, repSs_freeze hz f (fun a ha => k a (List.mem_cons_of_mem _ ha)) q⟩
  | .dct xs, _, _, f, k, r => by
    rw [repS] at r
    obtain ⟨p, vs, o, e1, e2, e3, q⟩ := r
    subst e2
    rw [SV.toD, repV]
    rw [SV.full] at f
    exact ⟨p, vs, e1, (k p (List.mem_cons_self ..)).trans e3, repSk_freeze hz f (fun a ha => k a (List.mem_cons_of_mem _ ha)) q⟩
theorem repSs_freeze {Z Z' H : Hp} (hz : Sub0 Z Z') : ∀ {xs : List SV} {vs : List V} {own : List Addr}, SV.fulls xs = true → (∀ a ∈ own, Z' a = H a) → repSs Z H xs vs own → repL Z' (SV.toDs xs) vs
  | [], _, _, _, _, r => by rw [repSs] at r; rw [SV.toDs, repL]; exact r.1
  | x :: xs, _, _, f, k, r => by
    rw [repSs] at r
    obtain ⟨v, t, o1, o2, e1, e2, q1, q2⟩ := r
    subst e2
    rw [SV.fulls, Bool.and_eq_true] at f
    rw [SV.toDs, repL]
    exact ⟨v, t, e1, repS_freeze hz f.1 (fun a ha => k a (List.mem_append_left _ ha)) q1, repSs_freeze hz f.2 (fun a ha => k a (List.mem_append_right _ ha)) q2⟩
theorem repSk_freeze {Z Z' H : Hp} (hz : Sub0 Z Z') : ∀ {xs : List (Key × SV)} {vs : List (Key × V)} {own : List Addr}, SV.fullk xs = true → (∀ a ∈ own, Z' a = H a) → repSk Z H xs vs own → repK Z' (SV.toDk xs) vs
  | [], _, _, _, _, r => by rw [repSk] at r; rw [SV.toDk, repK]; exact r.1
  | (k0, x) :: xs, _, _, f, k, r => by
    rw [repSk] at r
    obtain ⟨v, t, o1, o2, e1, e2, q1, q2⟩ := r
    subst e2
    rw [SV.fullk, Bool.and_eq_true] at f
    rw [SV.toDk, repK]
    exact ⟨k0, v, t, e1, rfl, repS_freeze hz f.1 (fun a ha => k a (List.mem_append_left _ ha)) q1, repSk_freeze hz f.2 (fun a ha => k a (List.mem_append_right _ ha)) q2⟩
end

/-! ## slots and temporaries -/
abbrev Cell := Option V × SV
def repO (Z H : Hp) (c : Cell) (own : List Addr) : Prop := match c.2 with
  | .un => own = []
  | x => ∃ v, c.1 = some v ∧ repS Z H x v own
def repA (Z H : Hp) : List Cell → List Addr → Prop
  | [], own => own = []
  | c :: r, own => ∃ o1 o2, own = o1 ++ o2 ∧ repO Z H c o1 ∧ repA Z H r o2

theorem repO_of {Z H : Hp} {v : V} {x : SV} {own : List Addr} (h : repS Z H x v own) : repO Z H (some v, x) own := by
  cases x <;> first | (rw [repS] at h; exact h) | exact ⟨v, rfl, h⟩
theorem repO_get {Z H : Hp} {v : V} {x : SV} {own : List Addr} (h : repO Z H (some v, x) own) : repS Z H x v own := by
  cases x <;> first | (rw [repS]; exact h) | (obtain ⟨u, e, h⟩ := h; cases e; exact h)
theorem repO_keep {Z Z' H H' : Hp} (hz : Sub0 Z Z') {c : Cell} {own : List Addr} (k : ∀ a ∈ own, H' a = H a) (h : repO Z H c own) : repO Z' H' c own := by
  obtain ⟨ov, x⟩ := c
  cases x <;> first | exact h | (obtain ⟨u, e, h⟩ := h; exact ⟨u, e, repS_keep hz k h⟩)
theorem repO_there {Z H : Hp} {c : Cell} {own : List Addr} (h : repO Z H c own) : ∀ a ∈ own, ∃ o, H a = some o := by
  obtain ⟨ov, x⟩ := c
  cases x <;> first | (intro a ha; rw [show own = [] from h] at ha; cases ha) | (obtain ⟨u, e, h⟩ := h; exact repS_there h)
theorem repA_keep {Z Z' H H' : Hp} (hz : Sub0 Z Z') : ∀ {L : List Cell} {own : List Addr}, (∀ a ∈ own, H' a = H a) → repA Z H L own → repA Z' H' L own
  | [], _, _, h => h
  | c :: r, _, k, h => by
    obtain ⟨o1, o2, e, h1, h2⟩ := h
    subst e
    exact ⟨o1, o2, rfl, repO_keep hz (fun a ha => k a (List.mem_append_left _ ha)) h1, repA_keep hz (fun a ha => k a (List.mem_append_right _ ha)) h2⟩
theorem repA_there {Z H : Hp} : ∀ {L : List Cell} {own : List Addr}, repA Z H L own → ∀ a ∈ own, ∃ o, H a = some o
  | [], _, h, a, ha => by rw [show _ = [] from h] at ha; cases ha
  | c :: r, _, h, a, ha => by
    obtain ⟨o1, o2, e, h1, h2⟩ := h
    subst e
    rcases List.mem_append.mp ha with ha | ha
    · exact repO_there h1 a ha
    · exact repA_there h2 a ha
theorem repA_append {Z H : Hp} : ∀ {L L' : List Cell} {o o' : List Addr}, repA Z H L o → repA Z H L' o' → repA Z H (L ++ L') (o ++ o')
  | [], _, _, _, h, h' => by rw [show _ = [] from h]; exact h'
  | c :: r, _, _, _, h, h' => by
    obtain ⟨o1, o2, e, h1, h2⟩ := h
    subst e
    exact ⟨o1, _, by rw [List.append_assoc], h1, repA_append h2 h'⟩
theorem repA_split {Z H : Hp} : ∀ {L L' : List Cell} {own : List Addr}, repA Z H (L ++ L') own → ∃ o o', own = o ++ o' ∧ repA Z H L o ∧ repA Z H L' o'
  | [], _, own, h => ⟨[], own, rfl, rfl, h⟩
  | c :: r, _, own, h => by
    obtain ⟨o1, o2, e, h1, h2⟩ := h
    subst e
    obtain ⟨p, q, e, h3, h4⟩ := repA_split h2
    subst e
    exact ⟨o1 ++ p, q, by rw [List.append_assoc], ⟨o1, p, rfl, h1, h3⟩, h4⟩
theorem repA_perm {Z H : Hp} {L L' : List Cell} (p : L.Perm L') : ∀ {own : List Addr}, repA Z H L own → ∃ own', own.Perm own' ∧ repA Z H L' own' := by
  induction p with
  | nil => exact fun h => ⟨_, .refl _, h⟩
  | cons c p ih =>
    intro own h
    obtain ⟨o1, o2, e, h1, h2⟩ := h
    subst e
    obtain ⟨o3, q, h3⟩ := ih h2
    exact ⟨o1 ++ o3, q.append_left o1, o1, o3, rfl, h1, h3⟩
  | swap c c' l =>
    intro own h
    obtain ⟨o1, o2, e, h1, o3, o4, e2, h2, h3⟩ := h
    subst e
    subst e2
    refine ⟨o3 ++ (o1 ++ o4), ?_, o3, _, rfl, h2, o1, o4, rfl, h1, h3⟩
    rw [← List.append_assoc, ← List.append_assoc]
    exact List.Perm.append_right _ List.perm_append_comm
  | trans p q ih1 ih2 =>
    intro own h
    obtain ⟨o1, p1, h1⟩ := ih1 h
    obtain ⟨o2, p2, h2⟩ := ih2 h1
    exact ⟨o2, p1.trans p2, h2⟩

/-- the frozen part grows, by nothing that is protected -/
structure Ext (P Z Z' : Hp) : Prop where
  ext : Sub0 Z Z'
  new : ∀ a u, Z' a = some u → (∃ w, Z a = some w) ∨ P a = none
theorem Ext.refl (P Z : Hp) : Ext P Z Z := ⟨Sub0.refl Z, fun a u h => .inl ⟨u, h⟩⟩
theorem Ext.trans {P Z Z1 Z2 : Hp} (a : Ext P Z Z1) (b : Ext P Z1 Z2) : Ext P Z Z2 := ⟨a.ext.trans b.ext, fun p u h => (b.new p u h).elim (fun ⟨w, hw⟩ => a.new p w hw) .inr⟩
/-- the state: what is protected, what is frozen, the slots and temporaries with what is their own -/
structure SR (P Z H : Hp) (L : List Cell) : Prop where
  prot : ∀ a o, P a = some o → H a = some o
  zed : ∀ a u, Z a = some u → Rd H a u
  ex : ∃ own, repA Z H L own ∧ own.Nodup ∧ ∀ a ∈ own, P a = none ∧ Z a = none

section
variable {P Z H : Hp} {L L' : List Cell}
theorem SR.perm (s : SR P Z H L) (p : L.Perm L') : SR P Z H L' := by
  obtain ⟨own, r, nd, k⟩ := s.ex
  obtain ⟨own', q, r'⟩ := repA_perm p r
  exact ⟨s.prot, s.zed, own', r', q.nodup_iff.mp nd, fun a ha => k a (q.mem_iff.mpr ha)⟩
theorem SR.tail {c : Cell} (s : SR P Z H (c :: L)) : SR P Z H L := by
  obtain ⟨own, ⟨o1, o2, e, h1, h2⟩, nd, k⟩ := s.ex
  subst e
  exact ⟨s.prot, s.zed, o2, h2, (List.nodup_append.mp nd).2.1, fun a ha => k a (List.mem_append_right _ ha)⟩
theorem SR.unCons {ov : Option V} (s : SR P Z H L) : SR P Z H ((ov, .un) :: L) := by
  obtain ⟨own, r, nd, k⟩ := s.ex
  exact ⟨s.prot, s.zed, own, ⟨[], own, rfl, rfl, r⟩, nd, k⟩
/-- the first cell is forgotten -/
theorem SR.forget {c : Cell} {ov : Option V} (s : SR P Z H (c :: L)) : SR P Z H ((ov, .un) :: L) := s.tail.unCons
/-- new frozen data -/
theorem SR.data {v : V} {x : D} (s : SR P Z H L) (r : repV Z x v) : SR P Z H ((some v, .d x) :: L) := by
  obtain ⟨own, q, nd, k⟩ := s.ex
  exact ⟨s.prot, s.zed, own, ⟨[], own, rfl, ⟨v, rfl, by rw [repS]; exact ⟨rfl, r⟩⟩, q⟩, nd, k⟩
theorem SR.get_d {v : V} {x : D} (s : SR P Z H ((some v, .d x) :: L)) : repV Z x v := by
  obtain ⟨own, ⟨o1, o2, e, h1, h2⟩, nd, k⟩ := s.ex
  have h := repO_get h1
  rw [repS] at h
  exact h.2
theorem SR.get_dO {ov : Option V} {x : D} (s : SR P Z H ((ov, .d x) :: L)) : ∃ v, ov = some v ∧ repV Z x v := by
  obtain ⟨own, ⟨o1, o2, e, ⟨v, e1, h1⟩, h2⟩, nd, k⟩ := s.ex
  rw [repS] at h1
  exact ⟨v, e1, h1.2⟩
/-- the first cell's value, whatever it is -/
theorem SR.val {ov : Option V} {x : SV} (s : SR P Z H ((ov, x) :: L)) (h : x.full = true) : ∃ v, ov = some v := by
  obtain ⟨own, ⟨o1, o2, e, h1, h2⟩, nd, k⟩ := s.ex
  cases x with
  | un => rw [SV.full] at h; cases h
  | _ => obtain ⟨v, e1, _⟩ := h1; exact ⟨v, e1⟩
/-- frozen for good -/
theorem SR.freeze {v : V} {x : SV} (s : SR P Z H ((some v, x) :: L)) (f : x.full = true) : ∃ Z', Ext P Z Z' ∧ SR P Z' H ((some v, .d x.toD) :: L) := by
  obtain ⟨own, ⟨o1, o2, e, h1, h2⟩, nd, k⟩ := s.ex
  subst e
  have z1 : ∀ a ∈ o1, Z a = none := fun a ha => (k a (List.mem_append_left _ ha)).2
  have ez : Sub0 Z (plus Z H o1) := plus_ext z1
  have r := repO_get h1
  have rd : repV (plus Z H o1) x.toD v := repS_freeze ez f (fun a ha => plus_in ha) r
  refine ⟨plus Z H o1, ⟨ez, fun a u e => ?_⟩, s.prot, fun a u e => ?_, o2, ⟨[], o2, rfl, ⟨v, rfl, by rw [repS]; exact ⟨rfl, rd⟩⟩, repA_keep ez (fun _ _ => rfl) h2⟩, (List.nodup_append.mp nd).2.1, fun a ha => ⟨(k a (List.mem_append_right _ ha)).1, ?_⟩⟩
  · unfold plus at e
    split at e
    · rename_i ha
      exact .inr (k a (List.mem_append_left _ ha)).1
    · exact .inl ⟨u, e⟩
  · unfold plus at e
    split at e
    · exact .inl e
    · exact s.zed a u e
  · unfold plus
    rw [if_neg (fun h => (List.nodup_append.mp nd).2.2 a h a ha rfl)]
    exact (k a (List.mem_append_right _ ha)).2
end
end DD

set_option Elab.async false
set_option linter.all false
set_option maxRecDepth 100000
/-! DD2: what a piece of the text does at the level of data. -/
namespace DD
open PySem PySem.Spec PyProof.Rows L2

/-! ## outcomes -/
inductive Res (α : Type) where
  | ok (a : α)
  | ex (c : Str) (x : D)
abbrev M (α : Type) := List SV → Option (Res α × List SV)
def ret {α : Type} (a : α) : M α := fun sl => some (.ok a, sl)
def fail {α : Type} : M α := fun _ => none
def bnd {α β : Type} (f : M α) (k : α → M β) : M β := fun sl => match f sl with
  | some (.ok a, sl1) => k a sl1
  | some (.ex c x, sl1) => some (.ex c x, sl1)
  | none => none
def lift {α : Type} (o : Option α) : M α := fun sl => match o with
  | some a => some (.ok a, sl)
  | none => none
/-- frozen before it goes on -/
def bndD {β : Type} (f : M SV) (k : D → M β) : M β := bnd f fun x => if x.full = true then k x.toD else fail

/-! ## the state with its slots -/
def At (P Z H : Hp) (σ : St) (sl : List SV) (tm : List Cell) : Prop := σ.length = sl.length ∧ SR P Z H (tm ++ List.zip σ sl)

def clsOf (mg : Str → Option Value) (c : Str) : Addr := match mg c with
  | some (.ref a) => a
  | _ => 0
/-- what is wanted of an exception -/
def exW (mg : Str → Option Value) (E : XK) (P Z : Hp) (L : List Cell) (c : Str) (x : D) : Prop :=
  ∀ dx v Z' H', Ext P Z Z' → SR P Z' H' ((some v, .d x) :: L) → H' dx = some (.xd [("value", v)]) → E (.ref (clsOf mg c)) (some dx) H'
theorem exW.ext {mg : Str → Option Value} {E : XK} {P Z Z1 : Hp} {L : List Cell} {c : Str} {x : D} (h : exW mg E P Z L c x) (e : Ext P Z Z1) : exW mg E P Z1 L c x := fun dx v Z' H' e' s hd => h dx v Z' H' (e.trans e') s hd
theorem exW.drop {mg : Str → Option Value} {E : XK} {P Z : Hp} {L : List Cell} {c : Str} {x : D} {y : Cell} (h : exW mg E P Z L c x) : exW mg E P Z (y :: L) c x := fun dx v Z' H' e' s hd => h dx v Z' H' e' (s.perm (.swap _ _ _)).tail hd

def tOf (mg : Str → Option Value) (E : XK) (F : M SV) : TE := fun σ H Q => ∃ sl res sl' P Z tm, F sl = some (res, sl') ∧ At P Z H σ sl tm ∧
  (∀ r, res = .ok r → ∀ v Z' H', Ext P Z Z' → At P Z' H' σ sl' ((some v, r) :: tm) → Q v H') ∧ ∀ c x, res = .ex c x → exW mg E P Z (tm ++ List.zip σ sl') c x
def ttOf (mg : Str → Option Value) (E : XK) (F : M Bool) : TT := fun σ H Q => ∃ sl res sl' P Z tm, F sl = some (res, sl') ∧ At P Z H σ sl tm ∧
  (∀ b, res = .ok b → ∀ Z' H', Ext P Z Z' → At P Z' H' σ sl' tm → Q b H') ∧ ∀ c x, res = .ex c x → exW mg E P Z (tm ++ List.zip σ sl') c x
def cellsOf : List V → List SV → List Cell → List Cell
  | v :: vs, x :: xs, tm => cellsOf vs xs ((some v, x) :: tm)
  | _, _, tm => tm
def taOf (mg : Str → Option Value) (E : XK) (F : M (List SV)) : TA := fun σ H Q => ∃ sl res sl' P Z tm, F sl = some (res, sl') ∧ At P Z H σ sl tm ∧
  (∀ rs, res = .ok rs → ∀ vs Z' H', vs.length = rs.length → Ext P Z Z' → At P Z' H' σ sl' ((List.zip (vs.map some) rs).reverse ++ tm) → Q vs H') ∧ ∀ c x, res = .ex c x → exW mg E P Z (tm ++ List.zip σ sl') c x

def DE (X : Cx) (E : XK) (e : Expr) (F : M SV) : Prop := PE X e (tOf X.mg E F)
def DT (X : Cx) (E : XK) (e : Expr) (F : M Bool) : Prop := PT X e (ttOf X.mg E F)
def DW (X : Cx) (E : XK) (e : Expr) (F : M Bool) : Prop := PW X e (ttOf X.mg E F)
def DA (X : Cx) (E : XK) (es : List Expr) (F : M (List SV)) : Prop := PA X es (taOf X.mg E F)

theorem PEimp {X : Cx} {e : Expr} {t t' : TE} (h : PE X e t) (i : ∀ σ H Q, t' σ H Q → t σ H Q) : PE X e t' := ⟨fun pins s σ H Q I q => h.run pins s σ H Q I (i _ _ _ q)⟩
theorem PEor {X : Cx} {e : Expr} {t t' : TE} (h : PE X e t) (h' : PE X e t') : PE X e (fun σ H Q => t σ H Q ∨ t' σ H Q) := ⟨fun pins s σ H Q I q => q.elim (h.run pins s σ H Q I) (h'.run pins s σ H Q I)⟩
theorem PTimp {X : Cx} {e : Expr} {t t' : TT} (h : PT X e t) (i : ∀ σ H Q, t' σ H Q → t σ H Q) : PT X e t' := ⟨fun pins s σ H Q I q => h.run pins s σ H Q I (i _ _ _ q)⟩
theorem PWimp {X : Cx} {e : Expr} {t t' : TT} (h : PW X e t) (i : ∀ σ H Q, t' σ H Q → t σ H Q) : PW X e t' := ⟨fun w pins s σ H Q I q => h.run w pins s σ H Q I (i _ _ _ q)⟩
theorem PAimp {X : Cx} {e : List Expr} {t t' : TA} (h : PA X e t) (i : ∀ σ H Q, t' σ H Q → t σ H Q) : PA X e t' := ⟨fun p pins s σ H Q I q => h.run p pins s σ H Q I (i _ _ _ q)⟩
theorem PSimp {X : Cx} {e : Stmt} {t t' : TS} (h : PS X e t) (i : ∀ D σ H, t' D σ H → t D σ H) : PS X e t' := ⟨fun pins s σ H D I q => h.run pins s σ H D I (i _ _ _ q)⟩
theorem PSsimp {X : Cx} {e : List Stmt} {t t' : TS} (h : PSs X e t) (i : ∀ D σ H, t' D σ H → t D σ H) : PSs X e t' := ⟨fun pins s σ H D I q => h.run pins s σ H D I (i _ _ _ q)⟩

section
variable {mg : Str → Option Value} {E : XK} {P Z H : Hp} {σ : St} {sl sl' : List SV} {tm : List Cell} {β : Type} {res : Res β}

theorem At.tail {c : Cell} (a : At P Z H σ sl (c :: tm)) : At P Z H σ sl tm := ⟨a.1, a.2.tail⟩
theorem At.freeze {v : V} {x : SV} (a : At P Z H σ sl ((some v, x) :: tm)) (f : x.full = true) : ∃ Z', Ext P Z Z' ∧ At P Z' H σ sl ((some v, .d x.toD) :: tm) := by
  obtain ⟨Z', e, s⟩ := a.2.freeze f
  exact ⟨Z', e, a.1, s⟩
theorem At.data {v : V} {x : D} (a : At P Z H σ sl tm) (r : repV Z x v) : At P Z H σ sl ((some v, .d x) :: tm) := ⟨a.1, a.2.data r⟩
theorem At.d {v : V} {x : D} (a : At P Z H σ sl ((some v, .d x) :: tm)) : repV Z x v := a.2.get_d
theorem At.swap {c c' : Cell} (a : At P Z H σ sl (c :: c' :: tm)) : At P Z H σ sl (c' :: c :: tm) := ⟨a.1, a.2.perm (.swap _ _ _)⟩

/-- the first step of several -/
theorem run1 {F : M SV} {k : SV → M β} (h : bnd F k sl = some (res, sl')) (a : At P Z H σ sl tm) (ex : ∀ c x, res = .ex c x → exW mg E P Z (tm ++ List.zip σ sl') c x) {R : VK}
    (nx : ∀ x sl1 v Z1 H1, k x sl1 = some (res, sl') → Ext P Z Z1 → At P Z1 H1 σ sl1 ((some v, x) :: tm) → (∀ c y, res = .ex c y → exW mg E P Z1 (((some v, x) :: tm) ++ List.zip σ sl') c y) → R v H1) : tOf mg E F σ H R := by
  unfold bnd at h
  split at h
  · rename_i x sl1 q
    exact ⟨sl, .ok x, sl1, P, Z, tm, q, a, fun r er v Z' H' e a' => by cases er; exact nx x sl1 v Z' H' h e a' fun c y ey => ((ex c y ey).ext e).drop, fun c y ey => by cases ey⟩
  · rename_i c x sl1 q
    cases h
    exact ⟨sl, .ex c x, _, P, Z, tm, q, a, fun r er => (by cases er), fun c' x' ee => by cases ee; exact ex _ _ rfl⟩
  · cases h
theorem run1D {F : M SV} {k : D → M β} (h : bndD F k sl = some (res, sl')) (a : At P Z H σ sl tm) (ex : ∀ c x, res = .ex c x → exW mg E P Z (tm ++ List.zip σ sl') c x) {R : VK}
    (nx : ∀ x sl1 v Z1 H1, k x sl1 = some (res, sl') → Ext P Z Z1 → At P Z1 H1 σ sl1 ((some v, .d x) :: tm) → (∀ c y, res = .ex c y → exW mg E P Z1 (((some v, .d x) :: tm) ++ List.zip σ sl') c y) → R v H1) : tOf mg E F σ H R := by
  refine run1 h a ex fun x sl1 v Z1 H1 h1 e1 a1 ex1 => ?_
  split at h1
  · rename_i f
    obtain ⟨Z2, e2, a2⟩ := a1.freeze f
    exact nx x.toD sl1 v Z2 H1 h1 (e1.trans e2) a2 fun c y ey => ((ex c y ey).ext (e1.trans e2)).drop
  · cases h1
theorem runT {F : M Bool} {k : Bool → M β} (h : bnd F k sl = some (res, sl')) (a : At P Z H σ sl tm) (ex : ∀ c x, res = .ex c x → exW mg E P Z (tm ++ List.zip σ sl') c x) {R : Bool → Hp → Prop}
    (nx : ∀ b sl1 Z1 H1, k b sl1 = some (res, sl') → Ext P Z Z1 → At P Z1 H1 σ sl1 tm → (∀ c y, res = .ex c y → exW mg E P Z1 (tm ++ List.zip σ sl') c y) → R b H1) : ttOf mg E F σ H R := by
  unfold bnd at h
  split at h
  · rename_i x sl1 q
    exact ⟨sl, .ok x, sl1, P, Z, tm, q, a, fun r er Z' H' e a' => by cases er; exact nx x sl1 Z' H' h e a' fun c y ey => (ex c y ey).ext e, fun c y ey => by cases ey⟩
  · rename_i c x sl1 q
    cases h
    exact ⟨sl, .ex c x, _, P, Z, tm, q, a, fun r er => (by cases er), fun c' x' ee => by cases ee; exact ex _ _ rfl⟩
  · cases h
theorem runA {F : M (List SV)} {k : List SV → M β} (h : bnd F k sl = some (res, sl')) (a : At P Z H σ sl tm) (ex : ∀ c x, res = .ex c x → exW mg E P Z (tm ++ List.zip σ sl') c x) {R : List V → Hp → Prop}
    (nx : ∀ xs sl1 vs Z1 H1, k xs sl1 = some (res, sl') → vs.length = xs.length → Ext P Z Z1 → At P Z1 H1 σ sl1 ((List.zip (vs.map some) xs).reverse ++ tm) → (∀ c y, res = .ex c y → exW mg E P Z1 (tm ++ List.zip σ sl') c y) → R vs H1) : taOf mg E F σ H R := by
  unfold bnd at h
  split at h
  · rename_i x sl1 q
    exact ⟨sl, .ok x, sl1, P, Z, tm, q, a, fun r er vs Z' H' l e a' => by cases er; exact nx x sl1 vs Z' H' h l e a' fun c y ey => (ex c y ey).ext e, fun c y ey => by cases ey⟩
  · rename_i c x sl1 q
    cases h
    exact ⟨sl, .ex c x, _, P, Z, tm, q, a, fun r er => (by cases er), fun c' x' ee => by cases ee; exact ex _ _ rfl⟩
  · cases h
end

/-! ## one slot apart -/
theorem zip_open : ∀ (i : Nat) (σ : St) (sl : List SV) (a : Option V) (b : SV), i < σ.length → σ.length = sl.length → (List.zip (σ.set i a) (sl.set i b)).Perm ((a, b) :: List.zip (σ.eraseIdx i) (sl.eraseIdx i))
  | _, [], _, _, _, h, _ => by simp at h
  | _, _ :: _, [], _, _, _, h => by simp at h
  | 0, x :: σ, y :: sl, a, b, _, _ => by simp
  | i + 1, x :: σ, y :: sl, a, b, h, hl => by
    have h1 : i < σ.length := by simpa using h
    have h2 : σ.length = sl.length := by simpa using hl
    have q := zip_open i σ sl a b h1 h2
    simp only [List.set_cons_succ, List.zip_cons_cons, List.eraseIdx_cons_succ]
    exact (List.Perm.cons _ q).trans (.swap _ _ _)
section
variable {P Z H : Hp} {σ : St} {sl : List SV} {tm : List Cell}
def hole (σ : St) (sl : List SV) (tm : List Cell) (i : Nat) : List Cell := tm ++ List.zip (σ.eraseIdx i) (sl.eraseIdx i)
theorem perm_hole {i : Nat} {a : Option V} {b : SV} (h : i < σ.length) (hl : σ.length = sl.length) : (tm ++ List.zip (σ.set i a) (sl.set i b)).Perm ((a, b) :: hole σ sl tm i) :=
  (List.Perm.append_left tm (zip_open i σ sl a b h hl)).trans List.perm_middle
theorem At.open {i : Nat} {x : SV} (a : At P Z H σ sl tm) (h : sl[i]? = some x) : ∃ ov, σ[i]? = some ov ∧ SR P Z H ((ov, x) :: hole σ sl tm i) := by
  have hi : i < sl.length := (List.getElem?_eq_some_iff.mp h).1
  have hi' : i < σ.length := by rw [a.1]; exact hi
  have e1 : σ.set i σ[i] = σ := List.set_getElem_self hi'
  have e2 : sl.set i x = sl := by
    obtain ⟨_, q⟩ := List.getElem?_eq_some_iff.mp h
    rw [← q]; exact List.set_getElem_self hi
  have q := perm_hole (tm := tm) (a := σ[i]) (b := x) hi' a.1
  rw [e1, e2] at q
  exact ⟨σ[i], List.getElem?_eq_getElem hi', a.2.perm q⟩
theorem At.close {i : Nat} {ov : Option V} {x : SV} (hl : σ.length = sl.length) (hi : i < sl.length) (s : SR P Z H ((ov, x) :: hole σ sl tm i)) : At P Z H (σ.set i ov) (sl.set i x) tm :=
  ⟨by simp [hl], s.perm (perm_hole (by rw [hl]; exact hi) hl).symm⟩
theorem At.close' {i : Nat} {ov : Option V} {x : SV} (hl : σ.length = sl.length) (ho : σ[i]? = some ov) (s : SR P Z H ((ov, x) :: hole σ sl tm i)) : At P Z H σ (sl.set i x) tm := by
  obtain ⟨hi, e⟩ := List.getElem?_eq_some_iff.mp ho
  have q := At.close hl (by rw [← hl]; exact hi) s
  rwa [← e, List.set_getElem_self hi] at q
end

/-! ## names and constants -/
section
variable {X : Cx} {E : XK}
/-- a name read: what was one's own is frozen -/
def mName (i : Nat) : M SV := fun sl => match sl[i]? with
  | some x => if x.full = true then some (.ok (.d x.toD), sl.set i (.d x.toD)) else none
  | none => none
theorem de_name {i : Nat} {e : Expr} (h : PE X e (tVar i)) : DE X E e (mName i) := by
  refine PEimp h fun σ H Q ⟨sl, res, sl', P, Z, tm, q, a, k, _⟩ => ?_
  unfold mName at q
  split at q
  · rename_i x hx
    split at q
    · rename_i f
      cases q
      obtain ⟨ov, ho, s⟩ := a.open hx
      obtain ⟨v, rfl⟩ := s.val f
      obtain ⟨Z', ez, s'⟩ := s.freeze f
      refine ⟨v, ho, k _ rfl v Z' H ez ?_⟩
      exact (At.close' a.1 ho s').data s'.get_d
    · cases q
  · cases q
/-- a name read for the last time -/
def mMove (i : Nat) : M SV := fun sl => match sl[i]? with
  | some .un => none
  | some x => some (.ok x, sl.set i .un)
  | none => none
theorem de_move {i : Nat} {e : Expr} (h : PE X e (tVar i)) : DE X E e (mMove i) := by
  refine PEimp h fun σ H Q ⟨sl, res, sl', P, Z, tm, q, a, k, _⟩ => ?_
  unfold mMove at q
  have main : ∀ x, sl[i]? = some x → x ≠ .un → some (Res.ok x, sl.set i .un) = some (res, sl') → tVar i σ H Q := fun x hx hn q => by
    cases q
    obtain ⟨ov, ho, s⟩ := a.open hx
    have hv : ∃ v, ov = some v := by
      obtain ⟨own, ⟨o1, o2, e, h1, h2⟩, nd, kk⟩ := s.ex
      cases x with
      | un => exact absurd rfl hn
      | _ => obtain ⟨v, e1, _⟩ := h1; exact ⟨v, e1⟩
    obtain ⟨v, rfl⟩ := hv
    refine ⟨v, ho, k _ rfl v Z H (Ext.refl _ _) ?_⟩
    have s2 : SR P Z H ((some v, .un) :: ((some v, x) :: hole σ sl tm i)) := s.unCons
    have s3 : SR P Z H ((some v, .un) :: hole σ sl ((some v, x) :: tm) i) := s2
    exact At.close' (tm := (some v, x) :: tm) a.1 ho s3
  split at q
  · cases q
  · rename_i x hx hn
    exact main x hn hx q
  · cases q
def mC (x : D) : M SV := ret (.d x)
theorem de_const {e : Expr} {v : V} {x : D} (h : PE X e (tC v)) (r : ∀ Z, repV Z x v) : DE X E e (mC x) := by
  refine PEimp h fun σ H Q ⟨sl, res, sl', P, Z, tm, q, a, k, _⟩ => ?_
  cases q
  exact k _ rfl v Z H (Ext.refl _ _) (a.data (r Z))
theorem de_int {i : Int} {j pos} : DE X E (.Constant (.int i) j pos) (mC (.int i)) := de_const pe_int fun Z => by rw [repV]
theorem de_bool {b : Bool} {j pos} : DE X E (.Constant (.bool b) j pos) (mC (.bool b)) := de_const pe_bl fun Z => by rw [repV]
theorem de_none {j pos} : DE X E (.Constant .none j pos) (mC .none) := de_const pe_non fun Z => by rw [repV]
theorem de_str {x : Str} {j pos} : DE X E (.Constant (.str x) j pos) (mC (.str x)) := de_const pe_str fun Z => by rw [repV]

/-! ## operations by data -/
def Ends1 (P Z : Hp) (L : List Cell) (Q : VK) (r : SV) : Prop := ∀ v Z' H', Ext P Z Z' → SR P Z' H' ((some v, r) :: L) → Q v H'
/-- two pieces of data in, a value out -/
def rOf (g : D → D → Option SV) : R2 := fun x y H Q => ∃ a b r P Z L, g a b = some r ∧ SR P Z H L ∧ repV Z a x ∧ repV Z b y ∧ Ends1 P Z L Q r
def OpD (X : Cx) (f : Value → Value → Sem Value) (g : D → D → Option SV) : Prop := OpR X f (rOf g)
def mOp (g : D → D → Option SV) (fa fb : M SV) : M SV := bndD fa fun x => bndD fb fun y => lift (g x y)
variable {a b : Expr} {fa fb : M SV} {pos : Pos}
theorem tOp_of {g : D → D → Option SV} {σ : St} {H : Hp} {Q : VK} (h : tOf X.mg E (mOp g fa fb) σ H Q) : tOp (rOf g) (tOf X.mg E fa) (tOf X.mg E fb) σ H Q := by
  obtain ⟨sl, res, sl', P, Z, tm, q, a, k, ex⟩ := h
  refine run1D q a ex fun x sl1 v Z1 H1 q1 e1 a1 ex1 => ?_
  refine run1D q1 a1 ex1 fun y sl2 u Z2 H2 q2 e2 a2 _ => ?_
  unfold lift at q2
  split at q2
  · rename_i r hr
    cases q2
    refine ⟨x, y, r, P, Z2, tm ++ List.zip σ sl', hr, a2.tail.tail.2, repV_ext e2.ext a1.d, a2.d, fun w Z' H' e' s' => ?_⟩
    exact k r rfl w Z' H' ((e1.trans e2).trans e') ⟨a2.1, s'⟩
  · cases q2
theorem de_op {op : Operator} {g : D → D → Option SV} (ho : OpD X (binaryOp op) g) (ha : DE X E a fa) (hb : DE X E b fb) : DE X E (.BinOp a op b pos) (mOp g fa fb) := PEimp (pe_op ho ha hb) fun _ _ _ => tOp_of
theorem de_cmp {op : CmpOp} {g : D → D → Option SV} (ho : OpD X (compareOp op) g) (ha : DE X E a fa) (hb : DE X E b fb) (hm : behindInMarks op b = false) : DE X E (.Compare a [op] [b] pos) (mOp g fa fb) := PEimp (pe_cmpR ho ha hb hm) fun _ _ _ => tOp_of
/-- a value as a truth -/
def truthD : D → Option Bool
  | .bool b => some b
  | _ => none
def mTest (f : M SV) : M Bool := bndD f fun x => lift (truthD x)
theorem tTest_of {f : M SV} {σ : St} {H : Hp} {Q : Bool → Hp → Prop} (h : ttOf X.mg E (mTest f) σ H Q) : tOf X.mg E f σ H (fun x H' => ∃ k, x = .bl k ∧ Q k H') := by
  obtain ⟨sl, res, sl', P, Z, tm, q, a, k, ex⟩ := h
  refine run1D q a ex fun x sl1 v Z1 H1 q1 e1 a1 ex1 => ?_
  have rv := a1.d
  cases x with
  | bool b =>
    cases q1
    rw [repV] at rv
    exact ⟨b, rv, k _ rfl _ _ e1 a1.tail⟩
  | _ => cases q1
theorem dt_cmp {op : CmpOp} {g : D → D → Option SV} (ho : OpD X (compareOp op) g) (ha : DE X E a fa) (hb : DE X E b fb) (hm : behindInMarks op b = false) : DT X E (.Compare a [op] [b] pos) (mTest (mOp g fa fb)) := by
  refine PTimp (pt_cmpR ho ha hb hm) fun σ H Q h => ?_
  have h1 := tTest_of h
  exact tOp_of h1
theorem dt_val {e : Expr} {f : M SV} (h : DE X E e f) (he : ∀ whole, isTrue e X.env whole = (do let v ← whole; standAt e.pos; holding [v] (truthy v)) := by intro _; rfl) : DT X E e (mTest f) :=
  PTimp (pt_val h he) fun σ H Q q => tTest_of q
def mNot (f : M Bool) : M Bool := bnd f fun b => ret (!b)
theorem dt_not {f : M Bool} (h : DT X E a f) : DT X E (.UnaryOp .Not a pos) (mNot f) := by
  refine PTimp (pt_not h) fun σ H Q ⟨sl, res, sl', P, Z, tm, q, a, k, ex⟩ => ?_
  refine runT q a ex fun b sl1 Z1 H1 q1 e1 a1 ex1 => ?_
  cases q1
  exact k _ rfl _ _ e1 a1
def mAnd (f g : M Bool) : M Bool := bnd f fun b => if b = true then g else ret false
def mOr (f g : M Bool) : M Bool := bnd f fun b => if b = true then ret true else g
theorem ttOf_ends {g : M Bool} {sl sl' : List SV} {res : Res Bool} {P Z H : Hp} {σ : St} {tm : List Cell} {Q : Bool → Hp → Prop} (q : g sl = some (res, sl')) (a : At P Z H σ sl tm) (k : ∀ b, res = .ok b → ∀ Z' H', Ext P Z Z' → At P Z' H' σ sl' tm → Q b H')
    (ex : ∀ c x, res = .ex c x → exW X.mg E P Z (tm ++ List.zip σ sl') c x) : ttOf X.mg E g σ H Q := ⟨sl, res, sl', P, Z, tm, q, a, k, ex⟩
theorem tOf_ends {g : M SV} {sl sl' : List SV} {res : Res SV} {P Z H : Hp} {σ : St} {tm : List Cell} {Q : VK} (q : g sl = some (res, sl')) (a : At P Z H σ sl tm) (k : ∀ b, res = .ok b → ∀ v Z' H', Ext P Z Z' → At P Z' H' σ sl' ((some v, b) :: tm) → Q v H')
    (ex : ∀ c x, res = .ex c x → exW X.mg E P Z (tm ++ List.zip σ sl') c x) : tOf X.mg E g σ H Q := ⟨sl, res, sl', P, Z, tm, q, a, k, ex⟩
theorem dw_and {rest : List Expr} {f g : M Bool} (ha : DT X E a f) (hb : DW X E (.BoolOp .And (b :: rest) pos) g) : DW X E (.BoolOp .And (a :: b :: rest) pos) (mAnd f g) := by
  refine PWimp (pw_and ha hb) fun σ H Q ⟨sl, res, sl', P, Z, tm, q, a, k, ex⟩ => ?_
  refine runT q a ex fun b sl1 Z1 H1 q1 e1 a1 ex1 => ?_
  cases b with
  | true => exact iteT (ttOf_ends (by simpa using q1) a1 (fun b eb Z' H' e' a' => k b eb Z' H' (e1.trans e') a') ex1)
  | false =>
    refine iteF ?_
    have q2 : some (Res.ok false, sl1) = some (res, sl') := by simpa [ret] using q1
    cases q2
    exact k _ rfl _ _ e1 a1
theorem dw_or {rest : List Expr} {f g : M Bool} (ha : DT X E a f) (hb : DW X E (.BoolOp .Or (b :: rest) pos) g) : DW X E (.BoolOp .Or (a :: b :: rest) pos) (mOr f g) := by
  refine PWimp (pw_or ha hb) fun σ H Q ⟨sl, res, sl', P, Z, tm, q, a, k, ex⟩ => ?_
  refine runT q a ex fun b sl1 Z1 H1 q1 e1 a1 ex1 => ?_
  cases b with
  | false => exact iteF (ttOf_ends (by simpa using q1) a1 (fun b eb Z' H' e' a' => k b eb Z' H' (e1.trans e') a') ex1)
  | true =>
    refine iteT ?_
    have q2 : some (Res.ok true, sl1) = some (res, sl') := by simpa [ret] using q1
    cases q2
    exact k _ rfl _ _ e1 a1
theorem dw_and1 {f : M Bool} (ha : DT X E a f) : DW X E (.BoolOp .And [a] pos) f := pw_and1 ha
theorem dw_or1 {f : M Bool} (ha : DT X E a f) : DW X E (.BoolOp .Or [a] pos) f := pw_or1 ha
theorem dt_w {f : M Bool} {e : Expr} (h : DW X E e f) : DT X E e f := PW.pt h
/-- the same as values: all but the last True or False -/
def mAndV (f g : M SV) : M SV := bnd (mTest f) fun b => if b = true then g else ret (.d (.bool false))
def mOrV (f g : M SV) : M SV := bnd (mTest f) fun b => if b = true then ret (.d (.bool true)) else g
theorem tTest_run {β : Type} {f : M SV} {k : Bool → M β} {sl sl' : List SV} {res : Res β} {P Z H : Hp} {σ : St} {tm : List Cell} (h : bnd (mTest f) k sl = some (res, sl')) (a : At P Z H σ sl tm) (ex : ∀ c x, res = .ex c x → exW X.mg E P Z (tm ++ List.zip σ sl') c x) {R : Bool → Hp → Prop}
    (nx : ∀ b sl1 Z1 H1, k b sl1 = some (res, sl') → Ext P Z Z1 → At P Z1 H1 σ sl1 tm → (∀ c y, res = .ex c y → exW X.mg E P Z1 (tm ++ List.zip σ sl') c y) → R b H1) : tOf X.mg E f σ H (fun x H' => ∃ k, x = .bl k ∧ R k H') :=
  tTest_of (runT h a ex nx)
theorem de_and {rest : List Expr} {f g : M SV} (ha : DE X E a f) (hb : DE X E (.BoolOp .And (b :: rest) pos) g) : DE X E (.BoolOp .And (a :: b :: rest) pos) (mAndV f g) := by
  refine PEimp (pe_and ha hb) fun σ H Q ⟨sl, res, sl', P, Z, tm, q, a, k, ex⟩ => ?_
  refine tTest_run q a ex fun b sl1 Z1 H1 q1 e1 a1 ex1 => ?_
  cases b with
  | true => exact iteT (tOf_ends (by simpa using q1) a1 (fun b eb v Z' H' e' a' => k b eb v Z' H' (e1.trans e') a') ex1)
  | false =>
    refine iteF ?_
    have q2 : some (Res.ok (SV.d (.bool false)), sl1) = some (res, sl') := by simpa [ret] using q1
    cases q2
    exact k _ rfl _ _ _ e1 (a1.data (by rw [repV]))
theorem de_or {rest : List Expr} {f g : M SV} (ha : DE X E a f) (hb : DE X E (.BoolOp .Or (b :: rest) pos) g) : DE X E (.BoolOp .Or (a :: b :: rest) pos) (mOrV f g) := by
  refine PEimp (pe_or ha hb) fun σ H Q ⟨sl, res, sl', P, Z, tm, q, a, k, ex⟩ => ?_
  refine tTest_run q a ex fun b sl1 Z1 H1 q1 e1 a1 ex1 => ?_
  cases b with
  | false => exact iteF (tOf_ends (by simpa using q1) a1 (fun b eb v Z' H' e' a' => k b eb v Z' H' (e1.trans e') a') ex1)
  | true =>
    refine iteT ?_
    have q2 : some (Res.ok (SV.d (.bool true)), sl1) = some (res, sl') := by simpa [ret] using q1
    cases q2
    exact k _ rfl _ _ _ e1 (a1.data (by rw [repV]))
theorem de_one {op} {f : M SV} (ha : DE X E a f) : DE X E (.BoolOp op [a] pos) f := pe_one ha
def mNotV (f : M SV) : M SV := bnd (mTest f) fun b => ret (.d (.bool (!b)))
theorem de_not {f : M SV} (ha : DE X E a f) : DE X E (.UnaryOp .Not a pos) (mNotV f) := by
  refine PEimp (pe_not ha) fun σ H Q ⟨sl, res, sl', P, Z, tm, q, a, k, ex⟩ => ?_
  refine tTest_run q a ex fun b sl1 Z1 H1 q1 e1 a1 ex1 => ?_
  cases q1
  exact k _ rfl _ _ _ e1 (a1.data (by rw [repV]))
def mIf {α : Type} (c : M Bool) (f g : M α) : M α := bnd c fun b => if b = true then f else g
theorem de_ifExp {c : Expr} {fc : M Bool} (hc : DT X E c fc) (ha : DE X E a fa) (hb : DE X E b fb) : DE X E (.IfExp c a b pos) (mIf fc fa fb) := by
  refine PEimp (pe_ifExp hc ha hb) fun σ H Q ⟨sl, res, sl', P, Z, tm, q, a, k, ex⟩ => ?_
  refine runT q a ex fun b sl1 Z1 H1 q1 e1 a1 ex1 => ?_
  cases b with
  | true => exact iteT (tOf_ends (by simpa using q1) a1 (fun b eb v Z' H' e' a' => k b eb v Z' H' (e1.trans e') a') ex1)
  | false => exact iteF (tOf_ends (by simpa using q1) a1 (fun b eb v Z' H' e' a' => k b eb v Z' H' (e1.trans e') a') ex1)

/-! ## argument lists, displays -/
def mNil : M (List SV) := ret []
def mCons (f : M SV) (g : M (List SV)) : M (List SV) := bnd f fun x => bnd g fun xs => ret (x :: xs)
theorem da_nil : DA X E [] mNil := by
  refine PAimp pa_nil fun σ H Q ⟨sl, res, sl', P, Z, tm, q, a, k, _⟩ => ?_
  cases q
  exact k [] rfl [] Z H rfl (Ext.refl _ _) a
theorem da_cons {e : Expr} {es : List Expr} {f : M SV} {g : M (List SV)} (ha : DE X E e f) (hr : DA X E es g) (hs : starEach (e :: es) X.env = (false, eval e X.env) :: starEach es X.env := by rfl) : DA X E (e :: es) (mCons f g) := by
  refine PAimp (pa_cons ha hr hs) fun σ H Q ⟨sl, res, sl', P, Z, tm, q, a, k, ex⟩ => ?_
  refine run1 q a ex fun x sl1 v Z1 H1 q1 e1 a1 ex1 => ?_
  refine runA q1 a1 ex1 fun xs sl2 vs Z2 H2 q2 l2 e2 a2 ex2 => ?_
  cases q2
  refine k _ rfl _ Z2 H2 (by simp [l2]) (e1.trans e2) ?_
  simpa [List.append_assoc] using a2

/-- the cells of a list, one by one -/
theorem repA_zip {Z H : Hp} : ∀ {vs : List V} {xs : List SV} {own : List Addr}, vs.length = xs.length → repA Z H (List.zip (vs.map some) xs) own → repSs Z H xs vs own
  | [], [], _, _, h => by rw [repSs]; exact ⟨rfl, h⟩
  | v :: vs, x :: xs, own, hl, h => by
    obtain ⟨o1, o2, e, h1, h2⟩ := h
    rw [repSs]
    exact ⟨v, vs, o1, o2, rfl, e, repO_get h1, repA_zip (by simpa using hl) h2⟩
  | [], _ :: _, _, hl, _ => by simp at hl
  | _ :: _, [], _, hl, _ => by simp at hl
/-- a new object of these items -/
theorem SR.gather {P Z H : Hp} {L : List Cell} {vs : List V} {xs : List SV} (s : SR P Z H ((List.zip (vs.map some) xs).reverse ++ L)) (hl : vs.length = xs.length) {p : Addr} {o : HO} (hp : H p = none) (n : SV)
    (mk : ∀ H' own, H' p = some o → repSs Z H' xs vs own → repS Z H' n (.ref p) (p :: own)) : SR P Z (upd H p o) ((some (.ref p), n) :: L) := by
  have s' : SR P Z H (List.zip (vs.map some) xs ++ L) := s.perm (List.Perm.append_right L (List.reverse_perm _))
  obtain ⟨own, r, nd, k⟩ := s'.ex
  obtain ⟨o1, o2, e, r1, r2⟩ := repA_split r
  subst e
  have fresh : ∀ a ∈ o1 ++ o2, a ≠ p := fun a ha z => by
    obtain ⟨u, hu⟩ := repA_there r a ha
    rw [z, hp] at hu; cases hu
  have kp : ∀ a ∈ o1 ++ o2, upd H p o a = H a := fun a ha => upd_ne (fresh a ha)
  refine ⟨fun a u e => by rw [upd_ne (fun z => by subst z; rw [s.prot _ _ e] at hp; cases hp)]; exact s.prot a u e, fun a u e => ?_, p :: o1 ++ o2, ⟨p :: o1, o2, rfl, repO_of (mk _ _ upd_same (repSs_keep (Sub0.refl _) (fun a ha => kp a (List.mem_append_left _ ha)) (repA_zip hl r1))), repA_keep (Sub0.refl _) (fun a ha => kp a (List.mem_append_right _ ha)) r2⟩, ?_, fun a ha => ?_⟩
  · have ne : a ≠ p := fun z => by
      subst z
      rcases s.zed _ _ e with q | ⟨_, q⟩ <;> rw [hp] at q <;> cases q
    rcases s.zed a u e with q | ⟨ob, q⟩
    · exact .inl (by rw [upd_ne ne]; exact q)
    · exact .inr ⟨ob, by rw [upd_ne ne]; exact q⟩
  · rw [List.cons_append, List.nodup_cons]
    exact ⟨fun ha => fresh p ha rfl, nd⟩
  · rw [List.cons_append] at ha
    rcases List.mem_cons.mp ha with rfl | ha
    · refine ⟨?_, ?_⟩
      · cases q : P a with
        | none => rfl
        | some u => rw [s.prot _ _ q] at hp; cases hp
      · cases q : Z a with
        | none => rfl
        | some u => rcases s.zed _ _ q with q | ⟨_, q⟩ <;> rw [hp] at q <;> cases q
    · exact k a ha
def mkL (xs : List SV) : M SV := fun sl => if xs.length ≤ sizeLine then some (.ok (.lst xs), sl) else none
def mkT (xs : List SV) : M SV := fun sl => if xs.length ≤ sizeLine then some (.ok (.tup xs), sl) else none
theorem de_list {es : List Expr} {g : M (List SV)} (h : DA X E es g) : DE X E (.List es pos) (bnd g mkL) := by
  refine PEimp (pe_lst h) fun σ H Q ⟨sl, res, sl', P, Z, tm, q, a, k, ex⟩ => ?_
  refine runA q a ex fun xs sl1 vs Z1 H1 q1 l1 e1 a1 ex1 => ?_
  unfold mkL at q1
  split at q1
  · rename_i hz
    cases q1
    refine ⟨by rw [l1]; exact hz, fun p hp => k _ rfl _ Z1 _ e1 ⟨a1.1, ?_⟩⟩
    refine SR.gather (L := tm ++ List.zip σ sl') (by simpa [List.append_assoc] using a1.2) l1 hp (.lst xs) fun H' own hh r => ?_
    rw [repS]
    exact ⟨p, vs, own, rfl, rfl, hh, r⟩
  · cases q1
theorem de_tuple {es : List Expr} {g : M (List SV)} {x1 : Nat} (h : DA X E es g) : DE X E (.Tuple es x1 pos) (bnd g mkT) := by
  refine PEimp (pe_tup h) fun σ H Q ⟨sl, res, sl', P, Z, tm, q, a, k, ex⟩ => ?_
  refine runA q a ex fun xs sl1 vs Z1 H1 q1 l1 e1 a1 ex1 => ?_
  unfold mkT at q1
  split at q1
  · rename_i hz
    cases q1
    refine ⟨by rw [l1]; exact hz, fun p hp => k _ rfl _ Z1 _ e1 ⟨a1.1, ?_⟩⟩
    refine SR.gather (L := tm ++ List.zip σ sl') (by simpa [List.append_assoc] using a1.2) l1 hp (.tup xs) fun H' own hh r => ?_
    rw [repS]
    exact ⟨p, vs, own, rfl, rfl, hh, r⟩
  · cases q1
end
end DD

set_option Elab.async false
set_option linter.all false
set_option maxRecDepth 100000
/-! DD3: promises by data, calls, borrowing. -/
namespace DD
open PySem PySem.Spec PyProof.Rows L2

/-! ## a def's promise, where no repr runs around it -/
structure FnG (P : Program) (w : World) (K : PySem.W.Frag) (mg : Str → Option Value) (base : Heap) (k : Nat) (f : Addr) (fd : FuncData) (ps : List Str) (sp : Sp) : Prop where
  len : ∀ vs H Q E, sp vs H Q E → vs.length = ps.length
  run : ∀ (A : Around) (outer : List Env) (s : Shared) (H : Hp) (args : Args) (us : List Value) (vs : List V) (Q : VK) (E : XK), A.guards = some [] → Room k A →
    Env0 P w K mg base A outer s H → BindsTo s fd args (ps.zip us) → Vals vs us → sp vs H Q E → codeAny (model P w) A (.call (.ref f) args) (CR (L2.CX P w) outer P w H s Q E) s
section
variable {P : Program} {w : World} {K : PySem.W.Frag} {mg : Str → Option Value} {base : Heap} {k : Nat} {f : Addr} {fd : FuncData} {ps : List Str} {sp : Sp}
theorem FnG.mono {j : Nat} (F : FnG P w K mg base j f fd ps sp) (h : j ≤ k) : FnG P w K mg base k f fd ps sp :=
  ⟨F.len, fun A outer s H args us vs Q E g hr => F.run A outer s H args us vs Q E g (hr.mono h)⟩
/-- by its body -/
theorem fnG_of {qual name : Str} {params : Arguments} {bd : List Stmt} {scope : Scope} {dV kV doc pm cdv ct oc : Value} {an od : Option Addr} {osl : Array (Option Value)} {N : List Str}
    (lk : K.lookup f = some ⟨oc, od, .func (PySem.W.fnOf name qual params bd scope dV kV doc pm an cdv ct), osl⟩) (hcd : PySem.W.codeIn K cdv qual = true) (S : FnScope N ps scope) (len : ∀ vs H Q E, sp vs H Q E → vs.length = ps.length)
    (body : ∀ (A : Around) (outer : List Env) (s : Shared) (H : Hp) (vs : List V) (Q : VK) (E : XK), Room k (A.deeper (envOfC qual scope s.heap.objs.size f cdv)) →
      (A.deeper (envOfC qual scope s.heap.objs.size f cdv)).guards = some [] → sp vs H Q E →
      ∃ t, PSs (cxOf (L2.CX P w) P w K mg base N qual scope f cdv A outer s H E) bd t ∧ t { nx := fun _ H' => Q .non H', rt := Q } (L2.start N vs) H) :
    FnG P w K mg base (k + 1) f (PySem.W.fnOf name qual params bd scope dV kV doc pm an cdv ct) ps sp := by
  refine ⟨len, fun A outer s H args us vs Q E hg hr e0 hb r hsp => ?_⟩
  -- what the machine wants of the def's object and of the bound names
  have KX : K.In s.heap := e0.mod.kin.keeps fun b o e => (e0.bs b o e).1
  have lim : s.heap.NoLimit := e0.mod.nolimit.keeps fun b o e => (e0.bs b o e).1
  have names : ∀ y ∈ ps.zip us, scope.names.lookup y.1 = some .local ∨ (scope.names.lookup y.1 = some .cell ∧ ((cellsFrom (s.heap.objs.size + 1) scope.names []).lookup y.1).isSome = true) := by
    rintro ⟨n, v⟩ hy
    rcases S.par n (List.of_mem_zip hy).1 with q | q
    · exact .inl q
    · exact .inr ⟨q, PySem.W.cellsFrom_some _ _ _ (.inl q)⟩
  refine codeAny_call_function hr.depth (KX _ _ lk) rfl S.co S.gen rfl (PySem.W.codeRec_of KX hcd) (hb _ _ _ _ ?_)
  refine wpAny_newFunctionEnv_cells S.kind names fun env he s1 hx => ?_
  subst he
  obtain ⟨t, ht, hq⟩ := body A outer s H vs Q E (hr.deeper _) (by exact hg) hsp
  have I := inv_start (CX := L2.CX P w) (E := E) S hr.hd e0 (len _ _ _ _ hsp) r hx
  refine ⟨lim.keeps hx.toInCall.keep, codeAny_func (wpAny_mono (ht.run [] s1 (L2.start N vs) H _ I hq) (fun fl s' hs => ?_) fun e s' hs => hs)⟩
  cases fl with
  | ret u => obtain ⟨v, σ', H', J, rv, q⟩ := hs; exact ⟨v, H', J.os, J.bare, J.base, J.hok, rv, q⟩
  | next => obtain ⟨σ', H', J, q⟩ := hs; exact ⟨V.non, H', J.os, J.bare, J.base, J.hok, rfl, q⟩
  | brk => obtain ⟨_, _, _, q⟩ := hs; exact q.elim
  | cont => obtain ⟨_, _, _, q⟩ := hs; exact q.elim
end

/-! ## the promise by data -/
def minus (H : Hp) (own : List Addr) : Hp := fun a => if a ∈ own then none else H a
/-- what is protected but for own -/
theorem minus_some {H : Hp} {own : List Addr} {a : Addr} {o : HO} : minus H own a = some o ↔ a ∉ own ∧ H a = some o := by
  unfold minus
  by_cases h : a ∈ own
  · simp [h]
  · simp [h]
theorem minus_none {H : Hp} {own : List Addr} {a : Addr} : minus H own a = none ↔ a ∈ own ∨ H a = none := by
  unfold minus
  by_cases h : a ∈ own
  · simp [h]
  · simp [h]
abbrev zipA (vs : List V) (xs : List SV) : List Cell := List.zip (vs.map some) xs
def spD (mg : Str → Option Value) (n : Nat) (F : M SV) : Sp := fun vs H Q E => ∃ args res args' Z own, vs.length = n ∧ args.length = n ∧ F args = some (res, args') ∧
  repA Z H (zipA vs args) own ∧ own.Nodup ∧ (∀ a ∈ own, Z a = none) ∧ (∀ a u, Z a = some u → Rd H a u) ∧
  (∀ r, res = .ok r → ∀ v Z' H', Ext (minus H own) Z Z' → SR (minus H own) Z' H' ((some v, r) :: zipA vs args') → Q v H') ∧
  ∀ c x, res = .ex c x → exW mg E (minus H own) Z (zipA vs args') c x
theorem spD_len {mg : Str → Option Value} {n : Nat} {F : M SV} {vs : List V} {H : Hp} {Q : VK} {E : XK} (h : spD mg n F vs H Q E) : vs.length = n := by
  obtain ⟨_, _, _, _, _, h, _⟩ := h
  exact h

section
variable {X : Cx} {E : XK}
/-- the callee's state from the caller's -/
theorem call_enter {P Z H : Hp} {σ : St} {sl : List SV} {tm : List Cell} {vs : List V} {args : List SV} (a : At P Z H σ sl (zipA vs args ++ tm)) :
    ∃ own, repA Z H (zipA vs args) own ∧ own.Nodup ∧ (∀ a ∈ own, Z a = none) ∧ (∀ a u, Z a = some u → Rd H a u) ∧
      ∀ (L' : List Cell) Z' H', Ext (minus H own) Z Z' → SR (minus H own) Z' H' L' → Ext P Z Z' ∧ At P Z' H' σ sl (L' ++ tm) := by
  obtain ⟨hl, s⟩ := a
  rw [List.append_assoc] at s
  obtain ⟨own, r, nd, k⟩ := s.ex
  obtain ⟨o1, o2, e, r1, r2⟩ := repA_split r
  subst e
  have ndp := List.nodup_append.mp nd
  refine ⟨o1, r1, ndp.1, fun a ha => (k a (List.mem_append_left _ ha)).2, s.zed, fun L' Z' H' ez s' => ?_⟩
  have there : ∀ a ∈ o2, ∃ o, H a = some o := repA_there r2
  have out : ∀ a ∈ o2, a ∉ o1 := fun a ha h => ndp.2.2 a h a ha rfl
  have pm : ∀ a o, P a = some o → minus H o1 a = some o := fun a o e => minus_some.mpr ⟨fun h => (by rw [(k a (List.mem_append_left _ h)).1] at e; cases e), s.prot a o e⟩
  have e2 : Ext P Z Z' := ⟨ez.ext, fun a u e => (ez.new a u e).elim .inl fun h => .inr (by
    cases q : P a with
    | none => rfl
    | some o => rw [pm a o q] at h; cases h)⟩
  obtain ⟨own', r', nd', k'⟩ := s'.ex
  refine ⟨e2, hl, fun a o e => s'.prot a o (pm a o e), s'.zed, own' ++ o2, ?_, ?_, fun a ha => ?_⟩
  · rw [List.append_assoc]
    refine repA_append r' (repA_keep ez.ext (fun a ha => ?_) r2)
    obtain ⟨o, ho⟩ := there a ha
    rw [ho]
    exact s'.prot a o (minus_some.mpr ⟨out a ha, ho⟩)
  · refine List.nodup_append.mpr ⟨nd', ndp.2.1, fun a ha b hb e => ?_⟩
    subst e
    obtain ⟨o, ho⟩ := there a hb
    rcases minus_none.mp (k' a ha).1 with q | q
    · exact out a hb q
    · rw [ho] at q; cases q
  · rcases List.mem_append.mp ha with ha | ha
    · refine ⟨?_, (k' a ha).2⟩
      cases q : P a with
      | none => rfl
      | some o =>
        have z := (k' a ha).1
        rw [pm a o q] at z
        cases z
    · refine ⟨(k a (List.mem_append_right _ ha)).1, ?_⟩
      cases q : Z' a with
      | none => rfl
      | some u =>
        rcases ez.new a u q with ⟨w, hw⟩ | h
        · rw [(k a (List.mem_append_right _ ha)).2] at hw; cases hw
        · obtain ⟨o, ho⟩ := there a ha
          rw [minus_some.mpr ⟨out a ha, ho⟩] at h; cases h
end

section
variable {X : Cx} {E : XK} {k : Nat} {f : Addr} {fd : FuncData} {ps : List Str} {sp : Sp} {dvs : List V} {ds : List Value} {x : Str} {p pos : Pos} {e : Expr} {es : List Expr} {t : TA}
theorem ret_of {pins : List (Addr × Obj)} {σ : St} {H : Hp} {s : Shared} {Q : VK} {c : Code} (hx : Passes (L2.CX X.prog X.w) X E) (I : Inv X pins σ H s)
    (h : codeAny (model X.prog X.w) X.A c (CR (L2.CX X.prog X.w) X.stack X.prog X.w H s Q E) s) : codeAny (model X.prog X.w) X.A c (fun r s' => match r with
      | .ok (.ret u) => EP X pins σ Q u s'
      | .ok _ => False
      | .error e => X.xe e s') s := by
  refine codeAny_mono h fun r s' q => ?_
  cases r with
  | error e => exact hx pins σ H s e s' I q
  | ok fl => cases fl with
    | ret u => exact I.after q
    | next => exact q
    | brk => exact q
    | cont => exact q
theorem run_fnG {pins : List (Addr × Obj)} {σ : St} {H : Hp} {s : Shared} {Q : VK} {us ws : List Value} {vs : List V} {kw : List (Str × Value)} (F : FnG X.prog X.w X.K X.mg X.base k f fd ps sp) (hg : X.A.guards = some []) (hr : Room k X.A) (hx : Passes (L2.CX X.prog X.w) X E)
    (I : Inv X pins σ H s) (hb : ws.length = ps.length → BindsTo s fd ⟨us, kw⟩ (ps.zip ws)) (r : Vals vs ws) (h : sp vs H Q E) : wpAny (model X.prog X.w) X.A (call (.ref f) us kw) (EP X pins σ Q) X.xe s := by
  have hl : ws.length = ps.length := by rw [← r.length]; exact F.len _ _ _ _ h
  refine wpAny_call (codeAny_mono (ret_of (pins := pins) (σ := σ) hx I (F.run X.A X.stack s H ⟨us, kw⟩ ws vs Q E hg hr I.env0 (hb hl) r h)) fun r s' q => ?_)
  cases r with
  | error e => exact q
  | ok fl => cases fl with
    | ret u => exact q
    | next => exact q.elim
    | brk => exact q.elim
    | cont => exact q.elim
theorem pe_callG (F : FnG X.prog X.w X.K X.mg X.base k f fd ps sp) (hg : X.A.guards = some []) (hr : Room k X.A) (gl : Gl X x) (hm : X.mg x = some (.ref f)) (hk : PySem.W.keepIn X.K (.ref f) = true) (hb : Binds X.K fd ps ds) (hd : Vals dvs ds) (hx : Passes (L2.CX X.prog X.w) X E)
    (ha : PA X (e :: es) t) (hdb : (x == ("__debug__" : Str)) = false := by decide) (he : starEach (e :: es) X.env = (false, eval e X.env) :: starEach es X.env := by rfl) (hpl : (backTo pos (starEach es X.env)).any (·.1) = false := by rfl) :
    PE X (.Call (.Name x p) (e :: es) [] pos) (tCall sp dvs E t) := by
  refine ⟨fun pins s σ H Q I h => wpAny_Call_Name_kw (ld_glob I gl hm ?_ hdb)⟩
  refine PySem.W.callWith_K (h₀ := X.base) I.ok.mod.kin hk (thn (ha.run pos pins s σ H _ I h) fun us s1 ⟨vs, H1, I1, r, q⟩ => ⟨I1.kIn, ?_⟩) he hpl
  exact run_fnG (ws := us ++ ds) (vs := vs ++ dvs) F hg hr hx I1 (fun hl => hb s1 us I1.kIn hl) (r.append hd) q
theorem pe_callG0 (F : FnG X.prog X.w X.K X.mg X.base k f fd ps sp) (hg : X.A.guards = some []) (hr : Room k X.A) (gl : Gl X x) (hm : X.mg x = some (.ref f)) (hk : PySem.W.keepIn X.K (.ref f) = true) (hb : Binds X.K fd ps ds) (hd : Vals dvs ds) (hx : Passes (L2.CX X.prog X.w) X E)
    (hdb : (x == ("__debug__" : Str)) = false := by decide) : PE X (.Call (.Name x p) [] [] pos) (tCall sp dvs E tNil) := by
  refine ⟨fun pins s σ H Q I h => wpAny_Call_Name_kw (ld_glob I gl hm ?_ hdb)⟩
  exact PySem.W.callWith_K0 I.kIn hk (run_fnG (us := []) (ws := [] ++ ds) (vs := [] ++ dvs) F hg hr hx I (fun hl => hb s [] I.kIn hl) (Vals.append .nil hd) h)
/-- f(k = v, ..), every argument by its name; g: into the parameters' order -/
def tCallN (sp : Sp) (g : List V → List V) (E : XK) (t : TA) : TE := fun σ H Q => t σ H fun vs H1 => sp (g vs) H1 Q E
theorem pe_callN {kws : List Keyword} {ks : List Str} {g : List V → List V} {gv : List Value → List Value} (F : FnG X.prog X.w X.K X.mg X.base k f fd ps sp) (hg : X.A.guards = some []) (hr : Room k X.A) (gl : Gl X x) (hm : X.mg x = some (.ref f)) (hk : PySem.W.keepIn X.K (.ref f) = true)
    (hb : ∀ (s : Shared) (ws : List Value), X.K.In s.heap → (gv ws).length = ps.length → BindsTo s fd ⟨[], ks.zip ws⟩ (ps.zip (gv ws))) (hd : ∀ {vs : List V} {us : List Value}, Vals vs us → Vals (g vs) (gv us)) (hx : Passes (L2.CX X.prog X.w) X E)
    (hkw : PK X kws t) (hall : (backToKw pos (keywordEach kws X.env)).all (·.1.isSome) = true := by rfl) (hks : (backToKw pos (keywordEach kws X.env)).filterMap (·.1) = ks := by rfl)
    (hdb : (x == ("__debug__" : Str)) = false := by decide) (hpl : ((backTo pos (starEach [] X.env)).any (·.1) || (backToKw pos (keywordEach kws X.env)).any (·.1.isNone)) = false := by rfl) :
    PE X (.Call (.Name x p) [] kws pos) (tCallN sp g E t) := by
  refine ⟨fun pins s σ H Q I h => wpAny_Call_Name_kw (ld_glob I gl hm ?_ hdb)⟩
  refine PySem.W.callWith_KW0 (h₀ := X.base) I.ok.mod.kin hk hall (thn (hkw.run pos pins s σ H _ I h) fun ws s1 ⟨vs, H1, I1, r, q⟩ => ⟨I1.kIn, ?_⟩) hpl
  rw [hks]
  exact run_fnG (us := []) (ws := gv ws) (vs := g vs) F hg hr hx I1 (fun hl => hb s1 ws I1.kIn hl) (hd r) q

/-! ### by data -/
theorem repL_zip {Z H : Hp} : ∀ {ds : List D} {vs : List V}, repL Z ds vs → repA Z H (zipA vs (ds.map SV.d)) [] ∧ vs.length = ds.length
  | [], vs, h => by rw [repL] at h; subst h; exact ⟨rfl, rfl⟩
  | d :: ds, vs, h => by
    rw [repL] at h
    obtain ⟨v, r, rfl, h1, h2⟩ := h
    obtain ⟨q, l⟩ := repL_zip (H := H) h2
    exact ⟨⟨[], [], rfl, ⟨v, rfl, by rw [repS]; exact ⟨rfl, h1⟩⟩, q⟩, by simp [l]⟩
theorem SR.addAll {P Z H : Hp} {L : List Cell} {ds : List D} {vs : List V} (s : SR P Z H L) (r : repL Z ds vs) : SR P Z H (zipA vs (ds.map SV.d) ++ L) := by
  obtain ⟨own, q, nd, k⟩ := s.ex
  exact ⟨s.prot, s.zed, own, repA_append (repL_zip r).1 q, nd, k⟩
/-- constants that fill up -/
def Dfl (dvs : List V) (dd : List D) : Prop := ∀ Z, repL Z dd dvs
theorem Dfl.nil : Dfl [] [] := fun Z => by rw [repL]
theorem dfl_int (i : Int) : Dfl [.int i] [.int i] := fun Z => by rw [repL]; exact ⟨_, _, rfl, by rw [repV], by rw [repL]⟩
theorem dfl_none : Dfl [.non] [.none] := fun Z => by rw [repL]; exact ⟨_, _, rfl, by rw [repV], by rw [repL]⟩
def mRun (F : M SV) (args : List SV) : M SV := fun sl => match F args with
  | some (.ok r, _) => some (.ok r, sl)
  | some (.ex c x, _) => some (.ex c x, sl)
  | none => none
theorem drop_mid {P Z H : Hp} {L L' : List Cell} {c : Cell} (s : SR P Z H (c :: L ++ L')) : SR P Z H (c :: L') := by
  have q : (c :: L ++ L').Perm (L ++ (c :: L')) := by
    rw [List.cons_append]
    exact (List.perm_middle (a := c) (l₁ := L) (l₂ := L')).symm
  have s2 := s.perm q
  clear s q
  induction L with
  | nil => exact s2
  | cons y L ih => exact ih s2.tail
/-- the call's reading from the state with the arguments -/
theorem call_by {F : M SV} {n : Nat} {args : List SV} {vs : List V} {sl sl' : List SV} {res : Res SV} {P Z H : Hp} {σ : St} {tm : List Cell} {Q : VK} (q : mRun F args sl = some (res, sl')) (hn : vs.length = n) (hl : vs.length = args.length)
    (a : At P Z H σ sl (zipA vs args ++ tm)) (k : ∀ r, res = .ok r → ∀ v Z' H', Ext P Z Z' → At P Z' H' σ sl' ((some v, r) :: tm) → Q v H') (ex : ∀ c x, res = .ex c x → exW X.mg E P Z (tm ++ List.zip σ sl') c x) : spD X.mg n F vs H Q E := by
  obtain ⟨own, r1, nd, zo, zz, back⟩ := call_enter a
  unfold mRun at q
  split at q
  · rename_i r args' hF
    cases q
    refine ⟨args, .ok r, args', Z, own, hn, by rw [← hl, hn], hF, r1, nd, zo, zz, fun r' er v Z' H' e s' => ?_, fun c x ee => by cases ee⟩
    cases er
    obtain ⟨e2, a2⟩ := back _ Z' H' e s'
    refine k _ rfl v Z' H' e2 ⟨a2.1, ?_⟩
    have := a2.2
    rw [List.append_assoc] at this
    exact drop_mid this
  · rename_i c x args' hF
    cases q
    refine ⟨args, .ex c x, args', Z, own, hn, by rw [← hl, hn], hF, r1, nd, zo, zz, fun r' er => (by cases er), fun c' x' ee dx v Z' H' e s' hd => ?_⟩
    cases ee
    obtain ⟨e2, a2⟩ := back _ Z' H' e s'
    refine ex _ _ rfl dx v Z' H' e2 ?_ hd
    have := a2.2
    rw [List.append_assoc] at this
    exact drop_mid this
  · cases q
def mCall (F : M SV) (dd : List D) (fa : M (List SV)) : M SV := bnd fa fun xs => mRun F (xs ++ dd.map SV.d)
theorem perm_args {vs dvs : List V} {xs : List SV} {ys : List SV} {tm : List Cell} (hl : vs.length = xs.length) : (zipA dvs ys ++ ((zipA vs xs).reverse ++ tm)).Perm (zipA (vs ++ dvs) (xs ++ ys) ++ tm) := by
  have e : zipA (vs ++ dvs) (xs ++ ys) = zipA vs xs ++ zipA dvs ys := by
    unfold zipA
    rw [List.map_append, List.zip_append (by simpa using hl)]
  rw [e, List.append_assoc]
  refine List.Perm.trans ?_ (List.perm_append_comm_assoc _ _ _)
  exact List.Perm.append_left _ (List.Perm.append_right tm (List.reverse_perm _))
theorem tCall_of {F : M SV} {n : Nat} {dd : List D} {fa : M (List SV)} {σ : St} {H : Hp} {Q : VK} (hd : Dfl dvs dd) (hn : ∀ sl xs sl', fa sl = some (.ok xs, sl') → xs.length + dd.length = n) (h : tOf X.mg E (mCall F dd fa) σ H Q) :
    tCall (spD X.mg n F) dvs E (taOf X.mg E fa) σ H Q := by
  obtain ⟨sl, res, sl', P, Z, tm, q, a, k, ex⟩ := h
  have hq : ∀ xs sl1, fa sl = some (.ok xs, sl1) → xs.length + dd.length = n := fun xs sl1 => hn sl xs sl1
  unfold mCall bnd at q
  split at q
  · rename_i xs sl1 hf
    have hxs := hq xs sl1 hf
    refine ⟨sl, .ok xs, sl1, P, Z, tm, hf, a, fun r er vs Z' H' l e a' => ?_, fun c x ee => by cases ee⟩
    cases er
    have hdl : dvs.length = dd.length := (repL_zip (H := H) (hd Z')).2
    have s2 : SR P Z' H' (zipA (vs ++ dvs) (xs ++ dd.map SV.d) ++ (tm ++ List.zip σ sl1)) := by
      have s1 := a'.2.addAll (hd Z')
      rw [List.append_assoc] at s1
      exact s1.perm (perm_args l)
    refine call_by q (by simp [l, hdl, hxs]) (by simp [l, hdl]) (tm := tm) ⟨a'.1, by rw [List.append_assoc]; exact s2⟩ (fun r er v Z2 H2 e2 a2 => k r er v Z2 H2 (e.trans e2) a2) fun c x ee => (ex c x ee).ext e
  · rename_i c x sl1 hf
    cases q
    exact ⟨sl, .ex c x, _, P, Z, tm, hf, a, fun r er => (by cases er), fun c' x' ee => by cases ee; exact ex _ _ rfl⟩
  · cases q
theorem bnd_inv {α β : Type} {f : M α} {k : α → M β} {sl : List SV} {out : Res β × List SV} (h : bnd f k sl = some out) :
    (∃ x sl1, f sl = some (.ok x, sl1) ∧ k x sl1 = some out) ∨ ∃ c x sl1, f sl = some (.ex c x, sl1) ∧ out = (.ex c x, sl1) := by
  unfold bnd at h
  split at h
  · rename_i x sl1 q; exact .inl ⟨x, sl1, q, h⟩
  · rename_i c x sl1 q; cases h; exact .inr ⟨c, x, sl1, q, rfl⟩
  · cases h
theorem mNil_len : ∀ sl xs sl', mNil sl = some (.ok xs, sl') → xs.length = 0 := fun sl xs sl' h => by cases h; rfl
theorem mCons_len {f : M SV} {g : M (List SV)} {n : Nat} (h : ∀ sl xs sl', g sl = some (.ok xs, sl') → xs.length = n) : ∀ sl xs sl', mCons f g sl = some (.ok xs, sl') → xs.length = n + 1 := fun sl xs sl' q => by
  rcases bnd_inv q with ⟨y, s1, h1, q1⟩ | ⟨c, y, s1, h1, e⟩
  · rcases bnd_inv q1 with ⟨ys, s2, h2, q2⟩ | ⟨c, y, s2, h2, e⟩
    · cases q2
      simp [h _ _ _ h2]
    · cases e
  · cases e
/-- f(e, ..): no argument is lent -/
theorem de_call {F : M SV} {n : Nat} {dd : List D} {fa : M (List SV)} (G : FnG X.prog X.w X.K X.mg X.base k f fd ps (spD X.mg n F)) (hg : X.A.guards = some []) (hr : Room k X.A) (gl : Gl X x) (hm : X.mg x = some (.ref f)) (hk : PySem.W.keepIn X.K (.ref f) = true) (hb : Binds X.K fd ps ds) (hd : Vals dvs ds)
    (hx : Passes (L2.CX X.prog X.w) X E) (hdd : Dfl dvs dd) (ha : DA X E (e :: es) fa) (hn : ∀ sl xs sl', fa sl = some (.ok xs, sl') → xs.length + dd.length = n) (hdb : (x == ("__debug__" : Str)) = false := by decide) (he : starEach (e :: es) X.env = (false, eval e X.env) :: starEach es X.env := by rfl)
    (hpl : (backTo pos (starEach es X.env)).any (·.1) = false := by rfl) : DE X E (.Call (.Name x p) (e :: es) [] pos) (mCall F dd fa) :=
  PEimp (pe_callG G hg hr gl hm hk hb hd hx ha hdb he hpl) fun _ _ _ => tCall_of hdd hn
end
end DD

set_option Elab.async false
set_option linter.all false
set_option maxRecDepth 100000
/-! DD4: a lent first argument, keywords, borrowing. -/
namespace DD
open PySem PySem.Spec PyProof.Rows L2
section
variable {X : Cx} {E : XK} {k : Nat} {f : Addr} {fd : FuncData} {ps : List Str} {sp : Sp} {dvs : List V} {ds : List Value} {x : Str} {p pos : Pos} {e : Expr} {es : List Expr} {t : TA}
theorem call_by0 {F : M SV} {n : Nat} {args args' : List SV} {vs : List V} {sl : List SV} {res : Res SV} {P Z H : Hp} {σ : St} {tm : List Cell} {Q : VK} (q : F args = some (res, args')) (hn : vs.length = n) (hl : vs.length = args.length)
    (a : At P Z H σ sl (zipA vs args ++ tm)) (k : ∀ r, res = .ok r → ∀ v Z' H', Ext P Z Z' → At P Z' H' σ sl ((some v, r) :: zipA vs args' ++ tm) → Q v H')
    (ex : ∀ c x, res = .ex c x → ∀ dx v Z' H', Ext P Z Z' → At P Z' H' σ sl ((some v, .d x) :: zipA vs args' ++ tm) → H' dx = some (.xd [("value", v)]) → E (.ref (clsOf X.mg c)) (some dx) H') : spD X.mg n F vs H Q E := by
  obtain ⟨own, r1, nd, zo, zz, back⟩ := call_enter a
  refine ⟨args, res, args', Z, own, hn, by rw [← hl, hn], q, r1, nd, zo, zz, fun r er v Z' H' e s' => ?_, fun c x ee dx v Z' H' e s' hd => ?_⟩
  · obtain ⟨e2, a2⟩ := back _ Z' H' e s'
    exact k r er v Z' H' e2 a2
  · obtain ⟨e2, a2⟩ := back _ Z' H' e s'
    exact ex c x ee dx v Z' H' e2 a2 hd
/-- the rest of the arguments fall away, the first goes back to its slot -/
theorem back_slot {P Z H : Hp} {σ : St} {sl : List SV} {tm L : List Cell} {i : Nat} {v : V} {y : SV} {c : Cell} (hv : σ[i]? = some (some v)) (hu : sl[i]? = some .un) (a : At P Z H σ sl (c :: (some v, y) :: L ++ tm)) : At P Z H σ (sl.set i y) (c :: tm) := by
  have s := a.2
  have s1 : SR P Z H (c :: (some v, y) :: (tm ++ List.zip σ sl)) := by
    have q : (c :: (some v, y) :: L ++ tm ++ List.zip σ sl).Perm ((some v, y) :: c :: L ++ (tm ++ List.zip σ sl)) := by
      simp only [List.cons_append, List.append_assoc]
      exact .swap _ _ _
    have s2 := s.perm q
    have s3 : SR P Z H (c :: L ++ ((some v, y) :: (tm ++ List.zip σ sl))) := by
      refine s2.perm ?_
      simp only [List.cons_append]
      refine (List.Perm.swap _ _ _).trans (List.Perm.cons _ ?_)
      exact List.perm_middle.symm
    exact drop_mid s3
  have a2 : At P Z H σ sl ((some v, y) :: c :: tm) := ⟨a.1, s1.perm (.swap _ _ _)⟩
  obtain ⟨ov, ho, s3⟩ := a2.open hu
  have s4 : SR P Z H ((some v, y) :: hole σ sl (c :: tm) i) := s3.tail
  exact At.close' a.1 hv s4
def mLend (F : M SV) (i : Nat) (xs : List SV) : M SV := fun sl => match sl[i]? with
  | some x => match F (x :: xs) with
    | some (.ok r, y :: _) => some (.ok r, sl.set i y)
    | some (.ex c z, y :: _) => some (.ex c z, sl.set i y)
    | _ => none
  | none => none
def isUn : SV → Bool
  | .un => true
  | _ => false
/-- f(x, e, ..), x lent: the def may change it -/
def mCallP (F : M SV) (dd : List D) (i : Nat) (fa : M (List SV)) : M SV := fun sl => match sl[i]? with
  | some x => if isUn x = true then none else bnd fa (fun xs => mLend F i (xs ++ dd.map SV.d)) sl
  | none => none
theorem At.slot_val {P Z H : Hp} {σ : St} {sl : List SV} {tm : List Cell} {i : Nat} {x : SV} (a : At P Z H σ sl tm) (h : sl[i]? = some x) (hx : isUn x = false) : ∃ v, σ[i]? = some (some v) := by
  obtain ⟨ov, ho, s⟩ := a.open h
  obtain ⟨own, ⟨o1, o2, e, h1, h2⟩, nd, kk⟩ := s.ex
  cases x with
  | un => cases hx
  | _ => obtain ⟨v, e1, _⟩ := h1; exact ⟨v, by rw [ho, ← e1]⟩
theorem tCallP_of {F : M SV} {n i : Nat} {dd : List D} {fa : M (List SV)} {σ : St} {H : Hp} {Q : VK} (hd : Dfl dvs dd) (hn : ∀ sl xs sl', fa sl = some (.ok xs, sl') → xs.length + dd.length + 1 = n) (h : tOf X.mg E (mCallP F dd i fa) σ H Q) :
    tCall (spD X.mg n F) dvs E (tCons (tVar i) (taOf X.mg E fa)) σ H Q := by
  obtain ⟨sl, res, sl', P, Z, tm, q, a, k, ex⟩ := h
  unfold mCallP at q
  split at q
  · rename_i x0 h0
    split at q
    · cases q
    · rename_i hu
      obtain ⟨v, hv⟩ := a.slot_val h0 (by simpa using hu)
      refine ⟨v, hv, ?_⟩
      unfold bnd at q
      split at q
      · rename_i xs sl1 hf
        have hxs := hn _ xs sl1 hf
        refine ⟨sl, .ok xs, sl1, P, Z, tm, hf, a, fun r er vs Z' H' l e a' => ?_, fun c x ee => by cases ee⟩
        cases er
        have q : mLend F i (xs ++ dd.map SV.d) sl1 = some (res, sl') := q
        unfold mLend at q
        split at q
        · rename_i x hx
          have hdl : dvs.length = dd.length := (repL_zip (H := H) (hd Z')).2
          obtain ⟨ov, ho, s1⟩ := a'.open hx
          rw [hv] at ho
          cases ho
          have hil : i < sl1.length := (List.getElem?_eq_some_iff.mp hx).1
          -- the slot is empty while the def runs
          have a1 : At P Z' H' σ (sl1.set i .un) ((some v, x) :: ((zipA vs xs).reverse ++ tm)) := At.close' (tm := (some v, x) :: ((zipA vs xs).reverse ++ tm)) a'.1 hv (s1.unCons (ov := some v))
          have s2 : SR P Z' H' (zipA (v :: vs ++ dvs) (x :: xs ++ dd.map SV.d) ++ (tm ++ List.zip σ (sl1.set i .un))) := by
            have s1 := a1.2.addAll (hd Z')
            refine s1.perm ?_
            simp only [List.cons_append, List.append_assoc]
            refine List.perm_middle.trans ?_
            exact List.Perm.cons _ (perm_args l)
          have hun : (sl1.set i SV.un)[i]? = some .un := by simp [hil]
          have a3 : At P Z' H' σ (sl1.set i .un) (zipA (v :: vs ++ dvs) (x :: xs ++ dd.map SV.d) ++ tm) := ⟨a1.1, by rw [List.append_assoc]; exact s2⟩
          have h1 : (v :: vs ++ dvs).length = n := by simp [l, hdl]; omega
          have h2 : (v :: vs ++ dvs).length = (x :: xs ++ dd.map SV.d).length := by simp [l, hdl]
          split at q
          · rename_i r y ys hF
            cases q
            refine call_by0 hF h1 h2 a3 (fun r' er w Z2 H2 e2 a2 => ?_) fun c x ee => by cases ee
            cases er
            have := back_slot (L := zipA (vs ++ dvs) ys) hv hun (y := y) (tm := tm) (by exact a2)
            rw [List.set_set] at this
            exact k _ rfl w Z2 H2 (e.trans e2) this
          · rename_i c z y ys hF
            cases q
            refine call_by0 hF h1 h2 a3 (fun r' er => by cases er) fun c' z' ee dx w Z2 H2 e2 a2 hdx => ?_
            cases ee
            have := back_slot (L := zipA (vs ++ dvs) ys) hv hun (y := y) (tm := tm) (by exact a2)
            rw [List.set_set] at this
            exact ex _ _ rfl dx w Z2 H2 (e.trans e2) this.2 hdx
          · cases q
        · cases q
      · rename_i c x sl1 hf
        cases q
        exact ⟨sl, .ex c x, _, P, Z, tm, hf, a, fun r er => (by cases er), fun c' x' ee => by cases ee; exact ex _ _ rfl⟩
      · cases q
  · cases q
theorem de_callP {F : M SV} {n i : Nat} {dd : List D} {fa : M (List SV)} (G : FnG X.prog X.w X.K X.mg X.base k f fd ps (spD X.mg n F)) (hg : X.A.guards = some []) (hr : Room k X.A) (gl : Gl X x) (hm : X.mg x = some (.ref f)) (hk : PySem.W.keepIn X.K (.ref f) = true) (hb : Binds X.K fd ps ds) (hd : Vals dvs ds)
    (hx : Passes (L2.CX X.prog X.w) X E) (hdd : Dfl dvs dd) (hi : PE X e (tVar i)) (ha : DA X E es fa) (hn : ∀ sl xs sl', fa sl = some (.ok xs, sl') → xs.length + dd.length + 1 = n) (hdb : (x == ("__debug__" : Str)) = false := by decide) (he : starEach (e :: es) X.env = (false, eval e X.env) :: starEach es X.env := by rfl)
    (hpl : (backTo pos (starEach es X.env)).any (·.1) = false := by rfl) : DE X E (.Call (.Name x p) (e :: es) [] pos) (mCallP F dd i fa) :=
  PEimp (pe_callG G hg hr gl hm hk hb hd hx (pa_cons hi ha he) hdb he hpl) fun _ _ _ => tCallP_of hdd hn

/-! ### every argument by its name -/
def DK (X : Cx) (E : XK) (kws : List Keyword) (F : M (List SV)) : Prop := PK X kws (taOf X.mg E F)
theorem PKimp {kws : List Keyword} {t t' : TA} (h : PK X kws t) (i : ∀ σ H Q, t' σ H Q → t σ H Q) : PK X kws t' := ⟨fun po pins s σ H Q I q => h.run po pins s σ H Q I (i _ _ _ q)⟩
theorem dk_nil : DK X E [] mNil := by
  refine PKimp pk_nil fun σ H Q ⟨sl, res, sl', P, Z, tm, q, a, k, _⟩ => ?_
  cases q
  exact k [] rfl [] Z H rfl (Ext.refl _ _) a
theorem dk_cons {nm : Option Str} {kpos : Pos} {kws : List Keyword} {g1 : M SV} {g : M (List SV)} (ha : DE X E e g1) (hr : DK X E kws g) : DK X E (⟨nm, e, kpos⟩ :: kws) (mCons g1 g) := by
  refine PKimp (pk_cons ha hr) fun σ H Q ⟨sl, res, sl', P, Z, tm, q, a, k, ex⟩ => ?_
  refine run1 q a ex fun x sl1 v Z1 H1 q1 e1 a1 ex1 => ?_
  refine runA q1 a1 ex1 fun xs sl2 vs Z2 H2 q2 l2 e2 a2 ex2 => ?_
  cases q2
  refine k _ rfl _ Z2 H2 (by simp [l2]) (e1.trans e2) ?_
  simpa [List.append_assoc] using a2
structure Order (n : Nat) (g : {α : Type} → List α → List α) : Prop where
  len : ∀ {α : Type} (l : List α), l.length = n → (g l).length = n
  vals : ∀ {vs : List V} {us : List Value}, Vals vs us → Vals (g vs) (g us)
  perm : ∀ {vs : List V} {xs : List SV}, vs.length = n → xs.length = n → (zipA vs xs).Perm (zipA (g vs) (g xs))
def mCallN (F : M SV) (g : List SV → List SV) (fa : M (List SV)) : M SV := bnd fa fun xs => mRun F (g xs)
theorem de_callN {F : M SV} {n : Nat} {kws : List Keyword} {ks : List Str} {g : {α : Type} → List α → List α} {fa : M (List SV)} (o : Order n g) (G : FnG X.prog X.w X.K X.mg X.base k f fd ps (spD X.mg n F)) (hg : X.A.guards = some []) (hr : Room k X.A) (gl : Gl X x) (hm : X.mg x = some (.ref f)) (hk : PySem.W.keepIn X.K (.ref f) = true)
    (hb : ∀ (s : Shared) (ws : List Value), X.K.In s.heap → (g ws).length = ps.length → BindsTo s fd ⟨[], ks.zip ws⟩ (ps.zip (g ws))) (hx : Passes (L2.CX X.prog X.w) X E) (hkw : DK X E kws fa) (hn : ∀ sl xs sl', fa sl = some (.ok xs, sl') → xs.length = n)
    (hall : (backToKw pos (keywordEach kws X.env)).all (·.1.isSome) = true := by rfl) (hks : (backToKw pos (keywordEach kws X.env)).filterMap (·.1) = ks := by rfl) (hdb : (x == ("__debug__" : Str)) = false := by decide)
    (hpl : ((backTo pos (starEach [] X.env)).any (·.1) || (backToKw pos (keywordEach kws X.env)).any (·.1.isNone)) = false := by rfl) : DE X E (.Call (.Name x p) [] kws pos) (mCallN F g fa) := by
  refine PEimp (pe_callN (g := g) (gv := g) G hg hr gl hm hk hb (fun r => o.vals r) hx hkw hall hks hdb hpl) fun σ H Q ⟨sl, res, sl', P, Z, tm, q, a, k, ex⟩ => ?_
  unfold mCallN bnd at q
  split at q
  · rename_i xs sl1 hf
    have hxs := hn _ xs sl1 hf
    refine ⟨sl, .ok xs, sl1, P, Z, tm, hf, a, fun r er vs Z' H' l e a' => ?_, fun c x ee => by cases ee⟩
    cases er
    have lv : vs.length = n := by rw [l, hxs]
    refine call_by q (o.len vs lv) (by rw [o.len vs lv, o.len xs hxs]) (tm := tm) ⟨a'.1, ?_⟩ (fun r er v Z2 H2 e2 a2 => k r er v Z2 H2 (e.trans e2) a2) fun c x ee => (ex c x ee).ext e
    refine a'.2.perm ?_
    rw [List.append_assoc, List.append_assoc]
    exact List.Perm.append_right _ ((List.reverse_perm _).trans (o.perm lv hxs))
  · rename_i c x sl1 hf
    cases q
    exact ⟨sl, .ex c x, _, P, Z, tm, hf, a, fun r er => (by cases er), fun c' x' ee => by cases ee; exact ex _ _ rfl⟩
  · cases q
def ord2 {α : Type} (l : List α) : List α := match l with
  | [a, b] => [b, a]
  | l => l
theorem order2 : Order 2 ord2 := ⟨fun l h => match l, h with | [a, b], _ => rfl, fun r => by
    cases r with
    | nil => exact .nil
    | cons r1 r => cases r with
      | nil => exact .cons r1 .nil
      | cons r2 r => cases r with
        | nil => exact .cons r2 (.cons r1 .nil)
        | cons r3 r => exact .cons r1 (.cons r2 (.cons r3 r)), fun {vs xs} h h' => match vs, xs, h, h' with | [a, b], [c, d], _, _ => .swap _ _ _⟩
def ord1 {α : Type} (l : List α) : List α := l
theorem order1 (n : Nat) : Order n ord1 := ⟨fun _ h => h, fun r => r, fun _ _ => .refl _⟩

/-! ### borrowing: a plain value is reckoned, nothing is changed -/
def frz1 (x : SV) : SV := if x.full = true then .d x.toD else .un
def scal : SV → Bool
  | .d .none => true
  | .d (.bool _) => true
  | .d (.int _) => true
  | .d (.str _) => true
  | _ => false
theorem scal_rep {Z Z' : Hp} {x : SV} {v : V} (h : scal x = true) : ∀ {y : D}, x = .d y → repV Z y v → repV Z' y v := fun {y} e r => by
  subst e
  cases y <;> first | (rw [repV] at r ⊢; exact r) | cases h
theorem repA_frz {Z Z' H : Hp} (hz : Sub0 Z Z') : ∀ {σ : St} {sl : List SV} {own : List Addr}, (∀ a ∈ own, Z' a = H a) → repA Z H (List.zip σ sl) own → repA Z' H (List.zip σ (sl.map frz1)) []
  | [], _, _, _, _ => by simp [repA]
  | _ :: _, [], _, _, _ => by simp [repA]
  | ov :: σ, x :: sl, own, k, h => by
    obtain ⟨o1, o2, e, h1, h2⟩ := h
    subst e
    refine ⟨[], [], rfl, ?_, repA_frz hz (fun a ha => k a (List.mem_append_right _ ha)) h2⟩
    show repO Z' H (ov, frz1 x) []
    unfold frz1
    split
    · rename_i f
      cases x with
      | un => rw [SV.full] at f; cases f
      | _ =>
        obtain ⟨v, e1, h1⟩ := h1
        refine ⟨v, e1, ?_⟩
        rw [repS]
        exact ⟨rfl, repS_freeze hz f (fun a ha => k a (List.mem_append_left _ ha)) h1⟩
    · rfl
/-- the state while one borrows, and behind it -/
theorem At.borrow {P Z H : Hp} {σ : St} {sl : List SV} {tm : List Cell} (a : At P Z H σ sl tm) :
    ∃ P1 Z1, At P1 Z1 H σ (sl.map frz1) [] ∧ ∀ L Z' H', Ext P1 Z1 Z' → SR P1 Z' H' L → At P Z H' σ sl tm := by
  obtain ⟨hl, s⟩ := a
  obtain ⟨own, r, nd, k⟩ := s.ex
  have z1 : Sub0 Z (plus Z H own) := plus_ext fun a ha => (k a ha).2
  obtain ⟨o1, o2, e, r1, r2⟩ := repA_split r
  subst e
  have p1 : ∀ a o, plus P H (o1 ++ o2) a = some o → H a = some o := fun a o e => by
    unfold plus at e
    split at e
    · exact e
    · exact s.prot a o e
  have p2 : ∀ a o, P a = some o → plus P H (o1 ++ o2) a = some o := fun a o e => by
    unfold plus
    rw [if_neg (fun ha => by rw [(k a ha).1] at e; cases e)]
    exact e
  refine ⟨plus P H (o1 ++ o2), plus Z H (o1 ++ o2), ⟨by simp [hl], p1, fun a u e => ?_, [], repA_frz z1 (fun a ha => plus_in (List.mem_append_right _ ha)) r2, List.nodup_nil, fun a ha => by cases ha⟩, fun L Z' H' e' s' => ?_⟩
  · unfold plus at e
    split at e
    · exact .inl e
    · exact s.zed a u e
  · refine ⟨hl, fun a o e => s'.prot a o (p2 a o e), fun a u e => s'.zed a u (e'.ext a u (z1 a u e)), o1 ++ o2, repA_keep (Sub0.refl _) (fun a ha => ?_) r, nd, k⟩
    obtain ⟨o, ho⟩ := repA_there r a ha
    rw [ho]
    exact s'.prot a o (by rw [plus_in ha]; exact ho)
def mPure (g : M SV) : M SV := fun sl => match g (sl.map frz1) with
  | some (.ok r, _) => if scal r = true then some (.ok r, sl) else none
  | _ => none
theorem de_pure {g : M SV} (h : DE X E e g) : DE X E e (mPure g) := by
  refine PEimp h fun σ H Q ⟨sl, res, sl', P, Z, tm, q, a, k, ex⟩ => ?_
  unfold mPure at q
  split at q
  · rename_i r sl1 hg
    split at q
    · rename_i hs
      cases q
      obtain ⟨P1, Z1, a1, back⟩ := a.borrow
      refine ⟨_, .ok r, sl1, P1, Z1, [], hg, a1, fun r' er v Z' H' e' a' => ?_, fun c x ee => by cases ee⟩
      cases er
      have a2 := back _ Z' H' e' a'.2
      cases r with
      | d y => exact k _ rfl v Z H' (Ext.refl _ _) (a2.data (scal_rep hs rfl a'.d))
      | _ => cases hs
    · cases q
  · cases q
def mPureT (g : M Bool) : M Bool := fun sl => match g (sl.map frz1) with
  | some (.ok b, _) => some (.ok b, sl)
  | _ => none
theorem dt_pure {g : M Bool} (h : DT X E e g) : DT X E e (mPureT g) := by
  refine PTimp h fun σ H Q ⟨sl, res, sl', P, Z, tm, q, a, k, ex⟩ => ?_
  unfold mPureT at q
  split at q
  · rename_i b sl1 hg
    cases q
    obtain ⟨P1, Z1, a1, back⟩ := a.borrow
    refine ⟨_, .ok b, sl1, P1, Z1, [], hg, a1, fun r' er Z' H' e' a' => ?_, fun c x ee => by cases ee⟩
    cases er
    exact k _ rfl Z H' (Ext.refl _ _) (back _ Z' H' e' a'.2)
  · cases q
end
end DD

set_option Elab.async false
set_option linter.all false
set_option maxRecDepth 100000
/-! DD5: statements, targets, loops. -/
namespace DD
open PySem PySem.Spec PyProof.Rows L2
inductive Ctl where
  | nx | bk | ct
  | rt (x : SV)
def Kept (kp : List Nat) (σ σ' : St) : Prop := σ'.length = σ.length ∧ ∀ i ∈ kp, σ'[i]? = σ[i]?
theorem Kept.refl (kp : List Nat) (σ : St) : Kept kp σ σ := ⟨rfl, fun _ _ => rfl⟩
theorem Kept.trans {kp : List Nat} {σ σ1 σ2 : St} (a : Kept kp σ σ1) (b : Kept kp σ1 σ2) : Kept kp σ σ2 := ⟨b.1.trans a.1, fun i h => (b.2 i h).trans (a.2 i h)⟩
def goOn (Dn : Ends) (P Z H : Hp) (σ : St) (sl : List SV) (tm : List Cell) : Ctl → Prop
  | .nx => At P Z H σ sl tm → Dn.nx σ H
  | .bk => At P Z H σ sl tm → Dn.bk σ H
  | .ct => At P Z H σ sl tm → Dn.ct σ H
  | .rt r => ∀ v, At P Z H σ sl ((some v, r) :: tm) → Dn.rt v H
def tsOf (mg : Str → Option Value) (E : XK) (kp : List Nat) (G : M Ctl) : TS := fun Dn σ H => ∃ sl res sl' P Z tm, G sl = some (res, sl') ∧ At P Z H σ sl tm ∧
  (∀ c, res = .ok c → ∀ σ' Z' H', Kept kp σ σ' → Ext P Z Z' → goOn Dn P Z' H' σ' sl' tm c) ∧ ∀ c x, res = .ex c x → ∀ σ', Kept kp σ σ' → exW mg E P Z (tm ++ List.zip σ' sl') c x
def tgOf (kp : List Nat) (T : SV → M Unit) : TG := fun v σ H Q => ∃ x sl sl' P Z tm, T x sl = some (.ok (), sl') ∧ At P Z H σ sl ((some v, x) :: tm) ∧
  ∀ σ' Z' H', Kept kp σ σ' → Ext P Z Z' → At P Z' H' σ' sl' tm → Q σ' H'
def tgsOf (kp : List Nat) (T : List SV → M Unit) : TGs := fun vs σ H Q => ∃ xs sl sl' P Z tm, T xs sl = some (.ok (), sl') ∧ vs.length = xs.length ∧ At P Z H σ sl (zipA vs xs ++ tm) ∧
  ∀ σ' Z' H', Kept kp σ σ' → Ext P Z Z' → At P Z' H' σ' sl' tm → Q σ' H'
def DS (X : Cx) (E : XK) (kp : List Nat) (st : Stmt) (G : M Ctl) : Prop := PS X st (tsOf X.mg E kp G)
def DSs (X : Cx) (E : XK) (kp : List Nat) (st : List Stmt) (G : M Ctl) : Prop := PSs X st (tsOf X.mg E kp G)
def DG (X : Cx) (kp : List Nat) (e : Expr) (T : SV → M Unit) : Prop := PG X e (tgOf kp T)
def DGs (X : Cx) (kp : List Nat) (e : List Expr) (T : List SV → M Unit) : Prop := PGs X e (tgsOf kp T)
theorem PGimp {X : Cx} {e : Expr} {t t' : TG} (h : PG X e t) (i : ∀ v σ H Q, t' v σ H Q → t v σ H Q) : PG X e t' := ⟨fun pins s σ H v u Q I r q => h.run pins s σ H v u Q I r (i _ _ _ _ q)⟩
theorem PGsimp {X : Cx} {e : List Expr} {t t' : TGs} (h : PGs X e t) (i : ∀ v σ H Q, t' v σ H Q → t v σ H Q) : PGs X e t' := ⟨fun pins s σ H v u Q I r q => h.run pins s σ H v u Q I r (i _ _ _ _ q)⟩
theorem PIimp {X : Cx} {tg e : Expr} {t t' : TI} (h : PI X tg e t) (i : ∀ σ H R, t' σ H R → t σ H R) : PI X tg e t' := ⟨fun pins s σ H R I q => h.run pins s σ H R I (i _ _ _ q)⟩
theorem PIor {X : Cx} {tg e : Expr} {t t' : TI} (h : PI X tg e t) (h' : PI X tg e t') : PI X tg e (fun σ H R => t σ H R ∨ t' σ H R) := ⟨fun pins s σ H R I q => q.elim (h.run pins s σ H R I) (h'.run pins s σ H R I)⟩
theorem PSor {X : Cx} {e : Stmt} {t t' : TS} (h : PS X e t) (h' : PS X e t') : PS X e (fun D σ H => t D σ H ∨ t' D σ H) := ⟨fun pins s σ H D I q => q.elim (h.run pins s σ H D I) (h'.run pins s σ H D I)⟩

section
variable {X : Cx} {E : XK} {kp : List Nat} {st : Stmt} {sts : List Stmt} {pos : Pos}
/-! ## blocks -/
def mSeq (G1 G2 : M Ctl) : M Ctl := bnd G1 fun c => match c with
  | .nx => G2
  | c => ret c
theorem dss_nil : DSs X E kp [] (ret .nx) := by
  refine PSsimp pss_nil fun Dn σ H ⟨sl, res, sl', P, Z, tm, q, a, k, _⟩ => ?_
  cases q
  exact k _ rfl σ Z H (Kept.refl _ _) (Ext.refl _ _) a
theorem goOn_imp {Dn Dn' : Ends} {P Z H : Hp} {σ : St} {sl : List SV} {tm : List Cell} {c : Ctl} (h : goOn Dn P Z H σ sl tm c) (h1 : ∀ σ H, Dn.nx σ H → Dn'.nx σ H) (h2 : ∀ σ H, Dn.bk σ H → Dn'.bk σ H) (h3 : ∀ σ H, Dn.ct σ H → Dn'.ct σ H) (h4 : ∀ v H, Dn.rt v H → Dn'.rt v H) : goOn Dn' P Z H σ sl tm c := by
  cases c with
  | nx => exact fun a => h1 _ _ (h a)
  | bk => exact fun a => h2 _ _ (h a)
  | ct => exact fun a => h3 _ _ (h a)
  | rt r => exact fun v a => h4 _ _ (h v a)
theorem dss_cons {G1 G2 : M Ctl} (h1 : DS X E kp st G1) (h2 : DSs X E kp sts G2) : DSs X E kp (st :: sts) (mSeq G1 G2) := by
  refine PSsimp (pss_cons h1 h2) fun Dn σ H ⟨sl, res, sl', P, Z, tm, q, a, k, ex⟩ => ?_
  unfold mSeq bnd at q
  split at q
  · rename_i c sl1 hf
    refine ⟨sl, .ok c, sl1, P, Z, tm, hf, a, fun c' ec σ' Z' H' kk e => ?_, fun c x ee => by cases ee⟩
    cases ec
    cases c with
    | nx => exact fun a' => ⟨sl1, res, sl', P, Z', tm, q, a', fun c ec σ2 Z2 H2 k2 e2 => k c ec σ2 Z2 H2 (kk.trans k2) (e.trans e2), fun c x ee σ2 k2 => (ex c x ee σ2 (kk.trans k2)).ext e⟩
    | bk => cases q; exact k _ rfl σ' Z' H' kk e
    | ct => cases q; exact k _ rfl σ' Z' H' kk e
    | rt r => cases q; exact k _ rfl σ' Z' H' kk e
  · rename_i c x sl1 hf
    cases q
    exact ⟨sl, .ex c x, _, P, Z, tm, hf, a, fun r er => (by cases er), fun c' x' ee => by cases ee; exact ex _ _ rfl⟩
  · cases q
theorem dss_one {G : M Ctl} (h : DS X E kp st G) : DSs X E kp [st] G := pss_one h
/-- slots forgotten behind a statement -/
def fgt (is : List Nat) (sl : List SV) : List SV := is.foldl (fun s i => s.set i .un) sl
def mFgt (is : List Nat) (G : M Ctl) : M Ctl := fun sl => match G sl with
  | some (.ok c, sl') => some (.ok c, fgt is sl')
  | some (.ex c x, sl') => some (.ex c x, sl')
  | none => none
theorem At.set_un {P Z H : Hp} {σ : St} {sl : List SV} {tm : List Cell} (i : Nat) (a : At P Z H σ sl tm) : At P Z H σ (sl.set i .un) tm := by
  by_cases hi : i < sl.length
  · obtain ⟨ov, ho, s⟩ := a.open (List.getElem?_eq_getElem hi)
    exact At.close' a.1 ho s.forget
  · rw [List.set_eq_of_length_le (by omega)]
    exact a
theorem At.fgt {P Z H : Hp} {σ : St} {tm : List Cell} : ∀ (is : List Nat) {sl : List SV}, At P Z H σ sl tm → At P Z H σ (fgt is sl) tm
  | [], _, a => a
  | i :: is, _, a => At.fgt is (a.set_un i)
theorem fgt_len : ∀ (is : List Nat) (sl : List SV), (fgt is sl).length = sl.length
  | [], _ => rfl
  | i :: is, sl => by
    show (fgt is (sl.set i .un)).length = _
    rw [fgt_len is, List.length_set]
theorem dss_fgt {G : M Ctl} (is : List Nat) (h : DSs X E kp sts G) : DSs X E kp sts (mFgt is G) := by
  refine PSsimp h fun Dn σ H ⟨sl, res, sl', P, Z, tm, q, a, k, ex⟩ => ?_
  unfold mFgt at q
  split at q
  · rename_i c sl1 hf
    cases q
    refine ⟨sl, .ok c, sl1, P, Z, tm, hf, a, fun c' ec σ' Z' H' kk e => ?_, fun c x ee => by cases ee⟩
    cases ec
    have q := k _ rfl σ' Z' H' kk e
    cases c with
    | nx => exact fun a' => q (a'.fgt is)
    | bk => exact fun a' => q (a'.fgt is)
    | ct => exact fun a' => q (a'.fgt is)
    | rt r => exact fun v a' => q v (a'.fgt is)
  · rename_i c x sl1 hf
    cases q
    exact ⟨sl, .ex c x, _, P, Z, tm, hf, a, fun r er => (by cases er), ex⟩
  · cases q

/-! ## small statements -/
theorem ds_pass : DS X E kp (.Pass pos) (ret .nx) := by
  refine PSimp ps_pass fun Dn σ H ⟨sl, res, sl', P, Z, tm, q, a, k, _⟩ => ?_
  cases q
  exact k _ rfl σ Z H (Kept.refl _ _) (Ext.refl _ _) a
theorem ds_break : DS X E kp (.Break pos) (ret .bk) := by
  refine PSimp ps_break fun Dn σ H ⟨sl, res, sl', P, Z, tm, q, a, k, _⟩ => ?_
  cases q
  exact k _ rfl σ Z H (Kept.refl _ _) (Ext.refl _ _) a
theorem ds_continue : DS X E kp (.Continue pos) (ret .ct) := by
  refine PSimp ps_continue fun Dn σ H ⟨sl, res, sl', P, Z, tm, q, a, k, _⟩ => ?_
  cases q
  exact k _ rfl σ Z H (Kept.refl _ _) (Ext.refl _ _) a
def mExpr (f : M SV) : M Ctl := bnd f fun _ => ret .nx
theorem ds_expr {e : Expr} {f : M SV} (h : DE X E e f) (hs : swapsWith e none pos.line X.env = pure false := by rfl) : DS X E kp (.Expr e pos) (mExpr f) := by
  refine PSimp (ps_expr h hs) fun Dn σ H ⟨sl, res, sl', P, Z, tm, q, a, k, ex⟩ => ?_
  refine run1 q a (fun c x e => ex c x e σ (Kept.refl _ _)) fun x sl1 v Z1 H1 q1 e1 a1 ex1 => ?_
  cases q1
  exact k _ rfl σ Z1 H1 (Kept.refl _ _) e1 a1.tail
def mRet (f : M SV) : M Ctl := bnd f fun x => ret (.rt x)
theorem ds_ret {e : Expr} {f : M SV} (h : DE X E e f) : DS X E kp (.Return (some e) pos) (mRet f) := by
  refine PSimp (ps_ret h) fun Dn σ H ⟨sl, res, sl', P, Z, tm, q, a, k, ex⟩ => ?_
  refine run1 (R := Dn.rt) q a (fun c x e => ex c x e σ (Kept.refl _ _)) fun x sl1 v Z1 H1 q1 e1 a1 ex1 => ?_
  cases q1
  exact k _ rfl σ Z1 H1 (Kept.refl _ _) e1 v a1
theorem ds_retN : DS X E kp (.Return none pos) (ret (.rt (.d .none))) := by
  refine PSimp ps_retN fun Dn σ H ⟨sl, res, sl', P, Z, tm, q, a, k, _⟩ => ?_
  cases q
  exact k _ rfl σ Z H (Kept.refl _ _) (Ext.refl _ _) _ (a.data (by rw [repV]))
theorem tsOf_ends {G : M Ctl} {sl sl' : List SV} {res : Res Ctl} {P Z H : Hp} {σ : St} {tm : List Cell} {Dn : Ends} (q : G sl = some (res, sl')) (a : At P Z H σ sl tm) (k : ∀ c, res = .ok c → ∀ σ' Z' H', Kept kp σ σ' → Ext P Z Z' → goOn Dn P Z' H' σ' sl' tm c)
    (ex : ∀ c x, res = .ex c x → ∀ σ', Kept kp σ σ' → exW X.mg E P Z (tm ++ List.zip σ' sl') c x) : tsOf X.mg E kp G Dn σ H := ⟨sl, res, sl', P, Z, tm, q, a, k, ex⟩
theorem ds_if {c : Expr} {as bs : List Stmt} {fc : M Bool} {G1 G2 : M Ctl} (hc : DT X E c fc) (h1 : DSs X E kp as G1) (h2 : DSs X E kp bs G2) : DS X E kp (.If c as bs pos) (mIf fc G1 G2) := by
  refine PSimp (ps_if hc h1 h2) fun Dn σ H ⟨sl, res, sl', P, Z, tm, q, a, k, ex⟩ => ?_
  refine runT q a (fun c x e => ex c x e σ (Kept.refl _ _)) fun b sl1 Z1 H1 q1 e1 a1 ex1 => ?_
  have k' : ∀ c, res = .ok c → ∀ σ' Z' H', Kept kp σ σ' → Ext P Z1 Z' → goOn Dn P Z' H' σ' sl' tm c := fun c ec σ' Z' H' kk e => k c ec σ' Z' H' kk (e1.trans e)
  have ex' : ∀ c x, res = .ex c x → ∀ σ', Kept kp σ σ' → exW X.mg E P Z1 (tm ++ List.zip σ' sl') c x := fun c x ee σ' kk => (ex c x ee σ' kk).ext e1
  cases b with
  | true => exact iteT (tsOf_ends (by simpa using q1) a1 k' ex')
  | false => exact iteF (tsOf_ends (by simpa using q1) a1 k' ex')

/-! ## targets -/
def gSet (i : Nat) (x : SV) : M Unit := fun sl => if i < sl.length then some (.ok (), sl.set i x) else none
theorem Kept.set {σ : St} {i : Nat} {ov : Option V} (h : i ∉ kp) : Kept kp σ (σ.set i ov) := ⟨List.length_set, fun j hj => List.getElem?_set_ne (fun e => h (by rw [e]; exact hj))⟩
theorem At.put {P Z H : Hp} {σ : St} {sl : List SV} {tm : List Cell} {v : V} {x : SV} {i : Nat} (hi : i < sl.length) (a : At P Z H σ sl ((some v, x) :: tm)) : At P Z H (σ.set i (some v)) (sl.set i x) tm := by
  obtain ⟨ov, ho, s⟩ := a.open (List.getElem?_eq_getElem hi)
  have s2 : SR P Z H ((some v, x) :: hole σ sl tm i) := (s.perm (.swap _ _ _)).perm (.swap _ _ _) |>.tail
  exact At.close a.1 hi s2
theorem dg_name {i : Nat} {e : Expr} (h : PG X e (gName i)) (hk : i ∉ kp) : DG X kp e (gSet i) := by
  refine PGimp h fun v σ H Q ⟨x, sl, sl', P, Z, tm, q, a, k⟩ => ?_
  unfold gSet at q
  split at q
  · rename_i hi
    cases q
    exact k _ Z H (Kept.set hk) (Ext.refl _ _) (a.put hi)
  · cases q
def gsNil : List SV → M Unit := fun xs => match xs with
  | [] => ret ()
  | _ => fail
def gsCons (T : SV → M Unit) (Ts : List SV → M Unit) : List SV → M Unit := fun xs => match xs with
  | x :: r => bnd (T x) fun _ => Ts r
  | [] => fail
theorem dgs_nil : DGs X kp [] gsNil := by
  refine PGsimp pgs_nil fun vs σ H Q ⟨xs, sl, sl', P, Z, tm, q, l, a, k⟩ => ?_
  cases xs with
  | nil =>
    cases q
    have : vs = [] := List.length_eq_zero_iff.mp l
    subst this
    exact ⟨rfl, k σ Z H (Kept.refl _ _) (Ext.refl _ _) a⟩
  | cons => cases q
theorem dgs_cons {e : Expr} {es : List Expr} {T : SV → M Unit} {Ts : List SV → M Unit} (h1 : DG X kp e T) (h2 : DGs X kp es Ts) (hs : (assignEach (e :: es) X.env).map (·.2) = assign e X.env :: (assignEach es X.env).map (·.2) := by rfl) : DGs X kp (e :: es) (gsCons T Ts) := by
  refine PGsimp (pgs_cons h1 h2 hs) fun vs σ H Q ⟨xs, sl, sl', P, Z, tm, q, l, a, k⟩ => ?_
  cases xs with
  | nil => cases q
  | cons x r =>
    cases vs with
    | nil => simp at l
    | cons v vr =>
      rcases bnd_inv q with ⟨u, s1, q1, q2⟩ | ⟨_, _, _, _, e⟩
      · refine ⟨v, vr, rfl, x, sl, s1, P, Z, zipA vr r ++ tm, q1, a, fun σ1 Z1 H1 k1 e1 a1 => ?_⟩
        exact ⟨r, s1, sl', P, Z1, tm, q2, by simpa using l, a1, fun σ2 Z2 H2 k2 e2 a2 => k σ2 Z2 H2 (k1.trans k2) (e1.trans e2) a2⟩
      · cases e
/-- (a, b, ..) = a tuple -/
def gTupD (n : Nat) (Ts : List SV → M Unit) : SV → M Unit := fun x => match x with
  | .d (.tuple ds) => if ds.length = n then Ts (ds.map SV.d) else fail
  | .tup xs => if xs.length = n then Ts xs else fail
  | _ => fail
theorem dg_tup {es : List Expr} {k0 : Nat} {Ts : List SV → M Unit} {n : Nat} (hc : X.calm = true) (h : DGs X kp es Ts) (hn : (assignEach es X.env).length = n := by rfl) (hst : (assignEach es X.env).findIdx? (·.1) = none := by rfl) : DG X kp (.Tuple es k0 pos) (gTupD n Ts) := by
  refine PGimp (pg_tup hc h hn hst) fun v σ H Q ⟨x, sl, sl', P, Z, tm, q, a, k⟩ => ?_
  unfold gTupD at q
  split at q
  · rename_i ds
    split at q
    · rename_i hl
      have r := a.d
      rw [repV] at r
      obtain ⟨p, vs, e, z, rl⟩ := r
      have lv := (repL_zip (H := H) rl).2
      refine ⟨p, vs, e, .inl (by rcases a.2.zed p _ z with h | ⟨o, h⟩; exact .inl h; exact .inr ⟨o, h⟩), by rw [lv, hl], ds.map SV.d, sl, sl', P, Z, tm, q, by simp [lv], ⟨a.1, ?_⟩, k⟩
      have := a.tail.2.addAll rl
      rwa [← List.append_assoc] at this
    · cases q
  · rename_i xs
    split at q
    · rename_i hl
      obtain ⟨own, ⟨o1, o2, e, h1, h2⟩, nd, kk⟩ := a.2.ex
      have h1 := repO_get h1
      rw [repS] at h1
      obtain ⟨p, vs, o, e1, e2, e3, r⟩ := h1
      subst e e2
      have cells : ∀ {vs : List V} {xs : List SV} {own : List Addr}, repSs Z H xs vs own → repA Z H (zipA vs xs) own ∧ vs.length = xs.length := by
        intro vs xs
        induction xs generalizing vs with
        | nil => intro own r; rw [repSs] at r; obtain ⟨rfl, rfl⟩ := r; exact ⟨rfl, rfl⟩
        | cons x xs ih =>
          intro own r
          rw [repSs] at r
          obtain ⟨v, t, p1, p2, rfl, rfl, q1, q2⟩ := r
          obtain ⟨i1, i2⟩ := ih q2
          exact ⟨⟨p1, p2, rfl, repO_of q1, i1⟩, by simp [i2]⟩
      obtain ⟨c1, c2⟩ := cells r
      refine ⟨p, vs, e1, .inl (.inl e3), by rw [c2, hl], xs, sl, sl', P, Z, tm, q, c2, ⟨a.1, a.2.prot, a.2.zed, o ++ o2, ?_, ?_, fun b hb => kk b ?_⟩, k⟩
      · rw [List.append_assoc]
        exact repA_append c1 h2
      · rw [List.cons_append, List.nodup_cons] at nd
        exact nd.2
      · exact List.mem_cons_of_mem _ hb
    · cases q
  · cases q
/-- target = e -/
def mAsg (f : M SV) (T : SV → M Unit) : M Ctl := fun sl => match bnd f T sl with
  | some (.ok _, sl') => some (.ok .nx, sl')
  | some (.ex c x, sl') => match f sl with
    | some (.ex _ _, _) => some (.ex c x, sl')
    | _ => none
  | none => none
theorem asg_of {f : M SV} {T : SV → M Unit} {Dn : Ends} {σ : St} {H : Hp} (h : tsOf X.mg E kp (mAsg f T) Dn σ H) : tOf X.mg E f σ H (fun x H1 => tgOf kp T x σ H1 Dn.nx) := by
  obtain ⟨sl, res, sl', P, Z, tm, q, a, k, ex⟩ := h
  unfold mAsg at q
  split at q
  · rename_i u sl1 hb
    cases q
    refine run1 hb a (fun c x ee => by cases ee) fun x sl2 v Z1 H1 q1 e1 a1 _ => ?_
    exact ⟨x, sl2, sl', P, Z1, tm, q1, a1, fun σ2 Z2 H2 k2 e2 a2 => k _ rfl σ2 Z2 H2 k2 (e1.trans e2) a2⟩
  · rename_i c x sl1 hb
    split at q
    · rename_i c' x' sl2 hf
      cases q
      rcases bnd_inv hb with ⟨y, s1, h1, h2⟩ | ⟨c2, y, s1, h1, e⟩
      · rw [hf] at h1; cases h1
      · cases e
        exact ⟨sl, .ex c x, _, P, Z, tm, h1, a, fun r er => (by cases er), fun c' x' ee => by cases ee; exact ex _ _ rfl σ (Kept.refl _ _)⟩
    · cases q
  · cases q
theorem ds_asg {tg e : Expr} {f : M SV} {T : SV → M Unit} (he : DE X E e f) (hg : DG X kp tg T) (hs : swapsWithSole [tg] e pos.line X.env = pure false := by rfl) (hw : swappedStores [tg] e X.env = pure none := by rfl) (h1 : (assignEach [tg] X.env).map (·.2) = [assign tg X.env] := by rfl) :
    DS X E kp (.Assign [tg] e pos) (mAsg f T) := PSimp (ps_asg he hg hs hw h1) fun _ _ _ => asg_of
theorem ds_set {i : Nat} {y : Str} {e : Expr} {f : M SV} {pos' : Pos} (hN : X.N.Nodup) (hi : X.N[i]? = some y) (hx : Loc X.env.scope y) (hk : i ∉ kp) (he : DE X E e f) (hs : swapsWith e (some (.Name y pos')) pos.line X.env = pure false := by rfl)
    (hf : X.fn y = true ∨ X.env.scope.names.lookup y = some .local := by first | exact .inl rfl | exact .inr rfl | assumption) : DS X E kp (.Assign [.Name y pos'] e pos) (mAsg f (gSet i)) := by
  refine PSimp (ps_set hN hi hx he hs hf) fun Dn σ H h => ?_
  have h2 := asg_of h
  obtain ⟨sl, res, sl', P, Z, tm, q, a, k, ex⟩ := h2
  refine ⟨sl, res, sl', P, Z, tm, q, a, fun r er v Z' H' e' a' => ?_, ex⟩
  obtain ⟨x, s0, s1, P2, Z2, t2, q2, a2, k2⟩ := k r er v Z' H' e' a'
  unfold gSet at q2
  split at q2
  · rename_i hi
    cases q2
    exact k2 _ Z2 H' (Kept.set hk) (Ext.refl _ _) (a2.put hi)
  · cases q2
end
end DD

set_option Elab.async false
set_option linter.all false
set_option maxRecDepth 100000
/-! DD6: loops, iterators, comprehensions. -/
namespace DD
open PySem PySem.Spec PyProof.Rows L2
/-! ## what is walked -/
structure Yields (J : It) (P Z : Hp) (ds : List D) : Prop where
  go : ∀ Z1 H L i, Ext P Z Z1 → SR P Z1 H L → i < ds.length → J.go i H
  yld : ∀ Z1 H L i x H' d, Ext P Z Z1 → SR P Z1 H L → ds[i]? = some d → J.yld i H x H' → ∃ Z2, Ext P Z1 Z2 ∧ SR P Z2 H' ((some x, .d d) :: L)
  stop : ∀ Z1 H L, Ext P Z Z1 → SR P Z1 H L → J.stop ds.length H
def tiOf (mg : Str → Option Value) (E : XK) (F : M (List D)) : TI := fun σ H R => ∃ sl res sl' P Z tm, F sl = some (res, sl') ∧ At P Z H σ sl tm ∧
  (∀ ds, res = .ok ds → ∀ J Z' H', Ext P Z Z' → At P Z' H' σ sl' tm → Yields J P Z' ds → R J H') ∧ ∀ c x, res = .ex c x → exW mg E P Z (tm ++ List.zip σ sl') c x
def DI (X : Cx) (E : XK) (tg e : Expr) (F : M (List D)) : Prop := PI X tg e (tiOf X.mg E F)
theorem runI {mg : Str → Option Value} {E : XK} {β : Type} {F : M (List D)} {k : List D → M β} {sl sl' : List SV} {res : Res β} {P Z H : Hp} {σ : St} {tm : List Cell} (h : bnd F k sl = some (res, sl')) (a : At P Z H σ sl tm) (ex : ∀ c x, res = .ex c x → exW mg E P Z (tm ++ List.zip σ sl') c x) {R : It → Hp → Prop}
    (nx : ∀ ds sl1 J Z1 H1, k ds sl1 = some (res, sl') → Ext P Z Z1 → At P Z1 H1 σ sl1 tm → Yields J P Z1 ds → (∀ c y, res = .ex c y → exW mg E P Z1 (tm ++ List.zip σ sl') c y) → R J H1) : tiOf mg E F σ H R := by
  unfold bnd at h
  split at h
  · rename_i x sl1 q
    exact ⟨sl, .ok x, sl1, P, Z, tm, q, a, fun r er J Z' H' e a' y => by cases er; exact nx x sl1 J Z' H' h e a' y fun c y ey => (ex c y ey).ext e, fun c y ey => by cases ey⟩
  · rename_i c x sl1 q
    cases h
    exact ⟨sl, .ex c x, _, P, Z, tm, q, a, fun r er => (by cases er), fun c' x' ee => by cases ee; exact ex _ _ rfl⟩
  · cases h

/-! ## while -/
def mWhile (c : M Bool) (b : M Ctl) : Nat → M Ctl
  | 0 => fail
  | n + 1 => bnd c fun t => if t = true then bnd b (fun k => match k with
      | .nx => mWhile c b n
      | .ct => mWhile c b n
      | .bk => ret .nx
      | .rt r => ret (.rt r)) else ret .nx
section
variable {X : Cx} {E : XK} {kp : List Nat} {pos : Pos}
theorem ds_while {c : Expr} {body : List Stmt} {fc : M Bool} {G : M Ctl} (n : Nat) (hp : PassesOwn (model X.prog X.w) X.A X.env X.xe) (hc : DT X E c fc) (hb : DSs X E kp body G) : DS X E kp (.While c body [] pos) (mWhile fc G n) := by
  refine PSimp (ps_while hp hc hb) fun Dn σ0 H0 ⟨sl, res, sl', P, Z, tm, q, a, k, ex⟩ => ?_
  refine ⟨fun m σ H => ∃ s Zc, mWhile fc G m s = some (res, sl') ∧ At P Zc H σ s tm ∧ Kept kp σ0 σ ∧ Ext P Z Zc, ⟨n, sl, Z, q, a, Kept.refl _ _, Ext.refl _ _⟩, ?_⟩
  rintro m σ H ⟨s, Zc, qm, am, km, em⟩
  cases m with
  | zero => cases qm
  | succ m =>
    have k1 : ∀ c, res = .ok c → ∀ σ' Z' H', Kept kp σ σ' → Ext P Zc Z' → goOn Dn P Z' H' σ' sl' tm c := fun c ec σ' Z' H' kk e => k c ec σ' Z' H' (km.trans kk) (em.trans e)
    have ex1 : ∀ c x, res = .ex c x → ∀ σ', Kept kp σ σ' → exW X.mg E P Zc (tm ++ List.zip σ' sl') c x := fun c x ee σ' kk => (ex c x ee σ' (km.trans kk)).ext em
    unfold mWhile at qm
    refine runT qm am (fun c x ee => ex1 c x ee σ (Kept.refl _ _)) fun b s1 Z1 H1 q1 e1 a1 _ => ?_
    cases b with
    | false =>
      have q1 : some (Res.ok Ctl.nx, s1) = some (res, sl') := by simpa [ret] using q1
      cases q1
      exact iteF (k1 _ rfl σ Z1 H1 (Kept.refl _ _) e1 a1)
    | true =>
      have q1 : bnd G (fun k => match k with
        | .nx => mWhile fc G m
        | .ct => mWhile fc G m
        | .bk => ret .nx
        | .rt r => ret (.rt r)) s1 = some (res, sl') := by simpa using q1
      refine iteT ⟨fun σ' H' => ∃ s2 Z2, mWhile fc G m s2 = some (res, sl') ∧ At P Z2 H' σ' s2 tm ∧ Kept kp σ0 σ' ∧ Ext P Z Z2, fun σ' H' h => ⟨m, Nat.lt_succ_self m, h⟩, ?_⟩
      unfold bnd at q1
      split at q1
      · rename_i c2 s2 hG
        refine ⟨s1, .ok c2, s2, P, Z1, tm, hG, a1, fun c' ec σ' Z' H' kk e => ?_, fun c x ee => by cases ee⟩
        cases ec
        cases c2 with
        | nx => exact fun a' => ⟨s2, Z', q1, a', km.trans kk, em.trans (e1.trans e)⟩
        | ct => exact fun a' => ⟨s2, Z', q1, a', km.trans kk, em.trans (e1.trans e)⟩
        | bk => cases q1; exact fun a' => k1 _ rfl σ' Z' H' kk (e1.trans e) a'
        | rt r => cases q1; exact fun v a' => k1 _ rfl σ' Z' H' kk (e1.trans e) v a'
      · rename_i c2 x s2 hG
        cases q1
        exact ⟨s1, .ex c2 x, _, P, Z1, tm, hG, a1, fun r er => (by cases er), fun c' x' ee σ' kk => by cases ee; exact (ex1 _ _ rfl σ' kk).ext e1⟩
      · cases q1

/-! ## for -/
def forL (T : SV → M Unit) (b : M Ctl) : List D → M Ctl
  | [] => ret .nx
  | d :: r => fun sl => match T (.d d) sl with
    | some (.ok _, sl1) => bnd b (fun c => match c with
      | .nx => forL T b r
      | .ct => forL T b r
      | .bk => ret .nx
      | .rt x => ret (.rt x)) sl1
    | _ => none
def mFor (F : M (List D)) (T : SV → M Unit) (b : M Ctl) : M Ctl := bnd F (forL T b)
theorem tFor_core {J : It} {ds : List D} {T : SV → M Unit} {G : M Ctl} {g : TG} {tb : TS} {Dn : Ends} {σ0 : St} {P Z1 H1 : Hp} {tm : List Cell} {sl1 sl' : List SV} {res : Res Ctl} (hg : ∀ v σ H Q, tgOf kp T v σ H Q → g v σ H Q) (hb : ∀ D σ H, tsOf X.mg E kp G D σ H → tb D σ H)
    (q1 : forL T G ds sl1 = some (res, sl')) (a1 : At P Z1 H1 σ0 sl1 tm) (y : Yields J P Z1 ds) (k : ∀ c, res = .ok c → ∀ σ' Z' H', Kept kp σ0 σ' → Ext P Z1 Z' → goOn Dn P Z' H' σ' sl' tm c)
    (ex : ∀ c x, res = .ex c x → ∀ σ', Kept kp σ0 σ' → exW X.mg E P Z1 (tm ++ List.zip σ' sl') c x) : tFor (fun _ _ R => R J H1) g tb Dn σ0 H1 := by
  refine ⟨fun i m σ H => ∃ s Zc, i + m = ds.length ∧ forL T G (ds.drop i) s = some (res, sl') ∧ At P Zc H σ s tm ∧ Kept kp σ0 σ ∧ Ext P Z1 Zc, ⟨ds.length, sl1, Z1, by simp, by simpa using q1, a1, Kept.refl _ _, Ext.refl _ _⟩, ?_⟩
  rintro i m σ H ⟨s, Zc, hm, qi, ai, ki, ei⟩
  have k1 : ∀ c, res = .ok c → ∀ σ' Z' H', Kept kp σ σ' → Ext P Zc Z' → goOn Dn P Z' H' σ' sl' tm c := fun c ec σ' Z' H' kk e => k c ec σ' Z' H' (ki.trans kk) (ei.trans e)
  have ex1 : ∀ c x, res = .ex c x → ∀ σ', Kept kp σ σ' → exW X.mg E P Zc (tm ++ List.zip σ' sl') c x := fun c x ee σ' kk => (ex c x ee σ' (ki.trans kk)).ext ei
  by_cases hi : i < ds.length
  · refine .inr ⟨y.go Zc H _ i ei ai.2 hi, fun σ' H' => ∃ s2 Z2, forL T G (ds.drop (i + 1)) s2 = some (res, sl') ∧ At P Z2 H' σ' s2 tm ∧ Kept kp σ0 σ' ∧ Ext P Z1 Z2, fun σ' H' ⟨s2, Z2, h1, h2, h3, h4⟩ => ⟨m - 1, by omega, s2, Z2, by omega, h1, h2, h3, h4⟩, fun x H' yl => ?_⟩
    rw [List.drop_eq_getElem_cons hi] at qi
    unfold forL at qi
    obtain ⟨Z2, e2, s2⟩ := y.yld Zc H _ i x H' _ ei ai.2 (List.getElem?_eq_getElem hi) yl
    split at qi
    · rename_i u s3 hT
      refine hg _ _ _ _ ⟨_, s, s3, P, Z2, tm, hT, ⟨ai.1, s2⟩, fun σ2 Z3 H3 k2 e3 a3 => hb _ _ _ ?_⟩
      have e13 : Ext P Zc Z3 := e2.trans e3
      unfold bnd at qi
      split at qi
      · rename_i c2 s4 hG
        refine ⟨s3, .ok c2, s4, P, Z3, tm, hG, a3, fun c' ec σ' Z' H' kk e => ?_, fun c x ee => by cases ee⟩
        cases ec
        cases c2 with
        | nx => exact fun a' => ⟨s4, Z', qi, a', (ki.trans k2).trans kk, ei.trans (e13.trans e)⟩
        | ct => exact fun a' => ⟨s4, Z', qi, a', (ki.trans k2).trans kk, ei.trans (e13.trans e)⟩
        | bk => cases qi; exact fun a' => k1 _ rfl σ' Z' H' (k2.trans kk) (e13.trans e) a'
        | rt r => cases qi; exact fun v a' => k1 _ rfl σ' Z' H' (k2.trans kk) (e13.trans e) v a'
      · rename_i c2 x2 s4 hG
        cases qi
        exact ⟨s3, .ex c2 x2, _, P, Z3, tm, hG, a3, fun r er => (by cases er), fun c' x' ee σ' kk => by cases ee; exact (ex1 _ _ rfl σ' (k2.trans kk)).ext e13⟩
      · cases qi
    · cases qi
  · have hl : i = ds.length := by omega
    subst hl
    rw [List.drop_length] at qi
    cases qi
    exact .inl ⟨y.stop Zc H _ ei ai.2, k1 _ rfl σ Zc H (Kept.refl _ _) (Ext.refl _ _) ai⟩
theorem tFor_of {wi : TI} {F : M (List D)} {T : SV → M Unit} {G : M Ctl} {g : TG} {tb : TS} {Dn : Ends} {σ0 : St} {H0 : Hp} (hg : ∀ v σ H Q, tgOf kp T v σ H Q → g v σ H Q) (hb : ∀ D σ H, tsOf X.mg E kp G D σ H → tb D σ H)
    (hw : ∀ R, tiOf X.mg E F σ0 H0 R → wi σ0 H0 R) (h : tsOf X.mg E kp (mFor F T G) Dn σ0 H0) : tFor wi g tb Dn σ0 H0 := by
  obtain ⟨sl, res, sl', P, Z, tm, q, a, k, ex⟩ := h
  refine hw _ (runI q a (fun c x ee => ex c x ee σ0 (Kept.refl _ _)) fun ds sl1 J Z1 H1 q1 e1 a1 y _ => ?_)
  exact tFor_core hg hb q1 a1 y (fun c ec σ' Z' H' kk e => k c ec σ' Z' H' kk (e1.trans e)) (fun c x ee σ' kk => (ex c x ee σ' kk).ext e1)
theorem ds_for {tg iter : Expr} {body : List Stmt} {F : M (List D)} {T : SV → M Unit} {G : M Ctl} (hp : PassesOwn (model X.prog X.w) X.A X.env X.xe) (hc : X.calm = true) (hi : DI X E tg iter F) (hg : DG X kp tg T) (hb : DSs X E kp body G)
    (hs : ∀ x, foldedSetIterable iter X.env x = pure x := by intro _; rfl) : DS X E kp (.For tg iter body [] pos) (mFor F T G) :=
  PSimp (ps_for hp hc hi hg hb hs) fun _ _ _ h => tFor_of (fun _ _ _ _ h => h) (fun _ _ _ h => h) (fun _ h => h) h

/-! ## iterators -/
theorem Rd.ofZ {P Z H : Hp} {L : List Cell} {p : Addr} {u : HO} (s : SR P Z H L) (z : Z p = some u) : Rd H p u := s.zed p u z
theorem repL_get {Z : Hp} : ∀ {ds : List D} {vs : List V} {i : Nat} {d : D}, repL Z ds vs → ds[i]? = some d → ∃ v, vs[i]? = some v ∧ repV Z d v
  | [], _, _, _, _, h => by simp at h
  | e :: ds, vs, 0, d, r, h => by
    rw [repL] at r
    obtain ⟨v, t, rfl, h1, h2⟩ := r
    simp at h
    subst h
    exact ⟨v, rfl, h1⟩
  | e :: ds, vs, i + 1, d, r, h => by
    rw [repL] at r
    obtain ⟨v, t, rfl, h1, h2⟩ := r
    obtain ⟨w, h3, h4⟩ := repL_get h2 (by simpa using h)
    exact ⟨w, by simpa using h3, h4⟩
theorem repL_len {Z : Hp} {ds : List D} {vs : List V} (r : repL Z ds vs) : vs.length = ds.length := (repL_zip (H := Z) r).2
def itemsOf : D → Option (List D)
  | .list ds => some ds
  | .tuple ds => some ds
  | .str x => some (x.cps.toList.map fun c => .str ⟨#[c]⟩)
  | _ => none
def mIt (f : M SV) : M (List D) := bndD f fun d => lift (itemsOf d)
theorem yields_list {P Z : Hp} {K : PySem.W.Frag} {p : Addr} {vs : List V} {ds : List D} (z : Z p = some (.lst vs)) (r : repL Z ds vs) : Yields (Itl K p) P Z ds where
  go := fun Z1 H L i e s hi => by
    obtain ⟨v, hv, _⟩ := repL_get r (List.getElem?_eq_getElem hi)
    exact ⟨vs, v, .inl (s.zed p _ (e.ext _ _ z)), hv⟩
  yld := fun Z1 H L i x H' d e s hd y => by
    obtain ⟨rfl, hy⟩ := y
    obtain ⟨v, hv, rv⟩ := repL_get r hd
    have := hy vs (.inl (s.zed p _ (e.ext _ _ z)))
    rw [hv] at this
    cases this
    exact ⟨Z1, Ext.refl _ _, s.data (repV_ext e.ext rv)⟩
  stop := fun Z1 H L e s => ⟨vs, .inl (s.zed p _ (e.ext _ _ z)), by rw [repL_len r]; exact Nat.le_refl _⟩
theorem yields_tuple {P Z : Hp} {K : PySem.W.Frag} {p : Addr} {vs : List V} {ds : List D} (z : Z p = some (.tup vs)) (r : repL Z ds vs) : Yields (Itt K p) P Z ds where
  go := fun Z1 H L i e s hi => by
    obtain ⟨v, hv, _⟩ := repL_get r (List.getElem?_eq_getElem hi)
    exact ⟨vs, v, .inl (s.zed p _ (e.ext _ _ z)), hv⟩
  yld := fun Z1 H L i x H' d e s hd y => by
    obtain ⟨rfl, hy⟩ := y
    obtain ⟨v, hv, rv⟩ := repL_get r hd
    have := hy vs (.inl (s.zed p _ (e.ext _ _ z)))
    rw [hv] at this
    cases this
    exact ⟨Z1, Ext.refl _ _, s.data (repV_ext e.ext rv)⟩
  stop := fun Z1 H L e s => ⟨vs, .inl (s.zed p _ (e.ext _ _ z)), by rw [repL_len r]; exact Nat.le_refl _⟩
theorem yields_str {P Z : Hp} {x : Str} : Yields (Its x) P Z (x.cps.toList.map fun c => .str ⟨#[c]⟩) where
  go := fun Z1 H L i e s hi => by
    show i < x.cps.size
    simpa using hi
  yld := fun Z1 H L i v H' d e s hd y => by
    obtain ⟨rfl, c, hc, rfl⟩ := y
    have : d = .str ⟨#[c]⟩ := by
      rw [List.getElem?_map, Array.getElem?_toList, hc] at hd
      simpa using hd.symm
    subst this
    exact ⟨Z1, Ext.refl _ _, s.data (by rw [repV])⟩
  stop := fun Z1 H L e s => by simp [Its]
theorem tOf_known {mg : Str → Option Value} {F : M SV} {x : SV} {sl sl1 : List SV} {P Z H : Hp} {σ : St} {tm : List Cell} {R : VK} (hf : F sl = some (.ok x, sl1)) (f : x.full = true) (a : At P Z H σ sl tm)
    (nx : ∀ v Z1 H1, Ext P Z Z1 → At P Z1 H1 σ sl1 ((some v, .d x.toD) :: tm) → R v H1) : tOf mg E F σ H R :=
  ⟨sl, .ok x, sl1, P, Z, tm, hf, a, fun r er v Z' H' e a' => by
    cases er
    obtain ⟨Z2, e2, a2⟩ := a'.freeze f
    exact nx v Z2 H' (e.trans e2) a2, fun c x ee => by cases ee⟩
theorem tOf_ex {mg : Str → Option Value} {F : M SV} {c : Str} {x : D} {sl sl1 : List SV} {P Z H : Hp} {σ : St} {tm : List Cell} {R : VK} (hf : F sl = some (.ex c x, sl1)) (a : At P Z H σ sl tm) (ex : exW mg E P Z (tm ++ List.zip σ sl1) c x) : tOf mg E F σ H R :=
  ⟨sl, .ex c x, sl1, P, Z, tm, hf, a, fun r er => (by cases er), fun c' x' ee => by cases ee; exact ex⟩
theorem bndD_inv {β : Type} {f : M SV} {k : D → M β} {sl : List SV} {out : Res β × List SV} (h : bndD f k sl = some out) :
    (∃ x sl1, f sl = some (.ok x, sl1) ∧ x.full = true ∧ k x.toD sl1 = some out) ∨ ∃ c x sl1, f sl = some (.ex c x, sl1) ∧ out = (.ex c x, sl1) := by
  rcases bnd_inv h with ⟨x, s1, h1, h2⟩ | h
  · split at h2
    · rename_i f; exact .inl ⟨x, s1, h1, f, h2⟩
    · cases h2
  · exact .inr h
theorem lift_inv {β : Type} {o : Option β} {sl : List SV} {out : Res β × List SV} (h : lift o sl = some out) : ∃ b, o = some b ∧ out = (.ok b, sl) := by
  unfold lift at h
  split at h
  · rename_i b; cases h; exact ⟨b, rfl, rfl⟩
  · cases h
theorem di_seq {tg e : Expr} {f : M SV} (h : DE X E e f) : DI X E tg e (mIt f) := by
  refine PIimp (PIor (pi_list h) (PIor (pi_tup h) (pi_str h))) fun σ H R ⟨sl, res, sl', P, Z, tm, q, a, k, ex⟩ => ?_
  rcases bndD_inv q with ⟨x, sl1, hf, hx, q1⟩ | ⟨c, y, sl1, hf, e⟩
  · obtain ⟨ds, hd, e⟩ := lift_inv q1
    cases e
    generalize hg : x.toD = d at hd
    cases d with
    | list es =>
      cases hd
      refine .inl (tOf_known hf hx a fun v Z1 H1 e1 a1 => ?_)
      rw [hg] at a1
      have r := a1.d
      rw [repV] at r
      obtain ⟨p, vs, ev, z, rl⟩ := r
      exact ⟨p, ev, ⟨vs, .inl (a1.2.zed p _ z)⟩, k _ rfl _ Z1 H1 e1 a1.tail (yields_list z rl)⟩
    | tuple es =>
      cases hd
      refine .inr (.inl (tOf_known hf hx a fun v Z1 H1 e1 a1 => ?_))
      rw [hg] at a1
      have r := a1.d
      rw [repV] at r
      obtain ⟨p, vs, ev, z, rl⟩ := r
      exact ⟨p, ev, ⟨vs, .inl (a1.2.zed p _ z)⟩, k _ rfl _ Z1 H1 e1 a1.tail (yields_tuple z rl)⟩
    | str t =>
      cases hd
      refine .inr (.inr (tOf_known hf hx a fun v Z1 H1 e1 a1 => ?_))
      rw [hg] at a1
      have r := a1.d
      rw [repV] at r
      exact ⟨t, r, k _ rfl _ Z1 H1 e1 a1.tail yields_str⟩
    | _ => cases hd
  · cases e
    exact .inl (tOf_ex hf a (ex _ _ rfl))
/-- range(n), range(a, b) -/
def rng (lo : Int) (n : Nat) : List D := (List.range n).map fun i => .int (lo + (i : Nat))
theorem yields_rng {P Z : Hp} (lo : Int) (n : Nat) : Yields (Itr lo n) P Z (rng lo n) where
  go := fun Z1 H L i e s hi => by
    show i < n
    simpa [rng] using hi
  yld := fun Z1 H L i v H' d e s hd y => by
    obtain ⟨rfl, rfl⟩ := y
    have : d = .int (lo + (i : Nat)) := by
      unfold rng at hd
      rw [List.getElem?_map] at hd
      cases h : (List.range n)[i]? with
      | none => rw [h] at hd; cases hd
      | some j =>
        rw [h] at hd
        obtain ⟨_, hj⟩ := List.getElem?_eq_some_iff.mp h
        rw [List.getElem_range] at hj
        subst hj
        simpa using hd.symm
    subst this
    exact ⟨Z1, Ext.refl _ _, s.data (by rw [repV])⟩
  stop := fun Z1 H L e s => by show n ≤ _; simp [rng]
def rangeD : List SV → Option (List D)
  | [.d (.int j)] => if -(2 ^ 62) ≤ j ∧ j < 2 ^ 62 then some (rng 0 j.toNat) else none
  | _ => none
def rangeD2 : List SV → Option (List D)
  | [.d (.int i), .d (.int j)] => if (-(2 ^ 62) ≤ i ∧ i < 2 ^ 62) ∧ -(2 ^ 62) ≤ j ∧ j < 2 ^ 62 then some (rng i (j - i).toNat) else none
  | _ => none
def mRange (f : M (List SV)) : M (List D) := bnd f fun xs => lift (rangeD xs)
def mRange2 (f : M (List SV)) : M (List D) := bnd f fun xs => lift (rangeD2 xs)
theorem di_range {tg a : Expr} {p : Pos} {f : M (List SV)} (hg : Gl X "range") (hm : X.mg "range" = none) (ha : DA X E [a] f) (hs : starEach [a] X.env = [(false, eval a X.env)] := by rfl) : DI X E tg (.Call (.Name "range" p) [a] [] pos) (mRange f) := by
  refine PIimp (pi_range1 hg hm ha hs) fun σ H R ⟨sl, res, sl', P, Z, tm, q, a, k, ex⟩ => ?_
  refine runA q a ex fun xs sl1 vs Z1 H1 q1 l e1 a1 _ => ?_
  obtain ⟨ds, hd, e⟩ := lift_inv q1
  cases e
  unfold rangeD at hd
  split at hd
  · rename_i j
    split at hd
    · rename_i hj
      cases hd
      match vs, l, a1 with
      | [v], _, a1 =>
        have r := At.d (tm := tm) (v := v) (x := .int j) (by simpa using a1)
        rw [repV] at r
        subst r
        exact ⟨j, rfl, hj.1, hj.2, k _ rfl _ Z1 H1 e1 (At.tail (c := (some (V.int j), .d (.int j))) (by simpa using a1)) (yields_rng 0 _)⟩
    · cases hd
  · cases hd
theorem di_range2 {tg a b : Expr} {p : Pos} {f : M (List SV)} (hg : Gl X "range") (hm : X.mg "range" = none) (ha : DA X E [a, b] f) (hs : starEach [a, b] X.env = [(false, eval a X.env), (false, eval b X.env)] := by rfl) (hs2 : starEach [b] X.env = [(false, eval b X.env)] := by rfl) :
    DI X E tg (.Call (.Name "range" p) [a, b] [] pos) (mRange2 f) := by
  refine PIimp (pi_range2 hg hm ha hs hs2) fun σ H R ⟨sl, res, sl', P, Z, tm, q, a, k, ex⟩ => ?_
  refine runA q a ex fun xs sl1 vs Z1 H1 q1 l e1 a1 _ => ?_
  obtain ⟨ds, hd, e⟩ := lift_inv q1
  cases e
  unfold rangeD2 at hd
  split at hd
  · rename_i i j
    split at hd
    · rename_i hj
      cases hd
      match vs, l, a1 with
      | [v, w], _, a1 =>
        have a2 : At P Z1 H1 σ sl' ((some w, .d (.int j)) :: (some v, .d (.int i)) :: tm) := by simpa using a1
        have r2 := a2.d
        have r1 := a2.tail.d
        rw [repV] at r1 r2
        subst r1 r2
        exact ⟨i, j, rfl, ⟨hj.1.1, hj.1.2, hj.2.1, hj.2.2⟩, k _ rfl _ Z1 H1 e1 a2.tail.tail (yields_rng i _)⟩
    · cases hd
  · cases hd
/-- a new tuple, of frozen things -/
theorem SR.newTup {P Z H : Hp} {L : List Cell} {T : Addr} {vs : List V} {ds : List D} (s : SR P Z H L) (hT : H T = none) (r : repL Z ds vs) : ∃ Z2, Ext P Z Z2 ∧ SR P Z2 (upd H T (.tup vs)) ((some (.ref T), .d (.tuple ds)) :: L) := by
  have s1 := s.addAll r
  have l := repL_len r
  have s2 : SR P Z H ((List.zip (vs.map some) (ds.map SV.d)).reverse ++ L) := s1.perm (List.Perm.append_right _ (List.reverse_perm _).symm)
  have s3 := SR.gather (n := .tup (ds.map SV.d)) s2 (by simp [l]) (o := .tup vs) hT fun H' own hh rr => by
    rw [repS]
    exact ⟨T, vs, own, rfl, rfl, hh, rr⟩
  have f : ∀ ds : List D, SV.fulls (ds.map SV.d) = true ∧ SV.toDs (ds.map SV.d) = ds := fun ds => by
    induction ds with
    | nil => exact ⟨rfl, rfl⟩
    | cons d ds ih => simp [SV.fulls, SV.toDs, SV.full, SV.toD, ih]
  obtain ⟨Z2, e2, s4⟩ := s3.freeze (by rw [SV.full]; exact (f ds).1)
  refine ⟨Z2, e2, ?_⟩
  rw [SV.toD, (f ds).2] at s4
  exact s4
def enumL (ds : List D) : List D := ds.zipIdx.map fun p => .tuple [.int (p.2 : Nat), p.1]
theorem yields_enum {P Z : Hp} {K : PySem.W.Frag} {p : Addr} {vs : List V} {ds : List D} (z : Z p = some (.lst vs)) (r : repL Z ds vs) : Yields (Ite K p) P Z (enumL ds) where
  go := fun Z1 H L i e s hi => by
    have hi : i < ds.length := by simpa [enumL] using hi
    obtain ⟨v, hv, _⟩ := repL_get r (List.getElem?_eq_getElem hi)
    exact ⟨vs, v, .inl (s.zed p _ (e.ext _ _ z)), hv⟩
  yld := fun Z1 H L i x H' d e s hd y => by
    obtain ⟨T, y0, rfl, hT, rfl, hy⟩ := y
    have hd2 : ∃ d0, ds[i]? = some d0 ∧ d = .tuple [.int (i : Nat), d0] := by
      unfold enumL at hd
      rw [List.getElem?_map, List.getElem?_zipIdx] at hd
      cases h : ds[i]? with
      | none => rw [h] at hd; cases hd
      | some d0 => rw [h] at hd; exact ⟨d0, rfl, by simpa using hd.symm⟩
    obtain ⟨d0, hd0, rfl⟩ := hd2
    obtain ⟨v, hv, rv⟩ := repL_get r hd0
    have := hy vs (.inl (s.zed p _ (e.ext _ _ z)))
    rw [hv] at this
    cases this
    exact s.newTup hT (by rw [repL]; exact ⟨_, _, rfl, by rw [repV], by rw [repL]; exact ⟨_, _, rfl, repV_ext e.ext rv, by rw [repL]⟩⟩)
  stop := fun Z1 H L e s => ⟨vs, .inl (s.zed p _ (e.ext _ _ z)), by rw [repL_len r]; simp [enumL]⟩
def mEnum (f : M SV) : M (List D) := bndD f fun d => lift (match d with | .list ds => some (enumL ds) | _ => none)
theorem pa_one_of {e : Expr} {f : M SV} (h : DE X E e f) (hs : starEach [e] X.env = (false, eval e X.env) :: starEach [] X.env := by rfl) : PA X [e] (tCons (tOf X.mg E f) tNil) := pa_cons h pa_nil hs
theorem di_enum {elts : List Expr} {kk : Nat} {p tpos : Pos} {e : Expr} {f : M SV} (hg : Gl X "enumerate") (hm : X.mg "enumerate" = none) (h : DE X E e f) (hs : starEach [e] X.env = [(false, eval e X.env)] := by rfl) (hs' : starEach [e] X.env = (false, eval e X.env) :: starEach [] X.env := by rfl) :
    DI X E (.Tuple elts kk tpos) (.Call (.Name "enumerate" p) [e] [] pos) (mEnum f) := by
  refine PIimp (pi_enum hg hm (pa_one_of h hs') hs) fun σ H R ⟨sl, res, sl', P, Z, tm, q, a, k, ex⟩ => ?_
  show tOf X.mg E f σ H fun x H1 => ∃ a xs, [x] = [.ref a] ∧ SqL X.K H1 a xs ∧ R (Ite X.K a) H1
  refine run1D q a ex fun d sl1 v Z1 H1 q1 e1 a1 _ => ?_
  obtain ⟨ds, hd, e⟩ := lift_inv q1
  cases e
  have r := a1.d
  cases d with
  | list es =>
    cases hd
    rw [repV] at r
    obtain ⟨p, vs, ev, z, rl⟩ := r
    exact ⟨p, vs, by rw [ev], .inl (a1.2.zed p _ z), k _ rfl _ Z1 H1 e1 a1.tail (yields_enum z rl)⟩
  | _ => cases hd
def zipL (ds es : List D) : List D := (List.zip ds es).map fun p => .tuple [p.1, p.2]
theorem yields_zip {P Z : Hp} {K : PySem.W.Frag} {p p' : Addr} {vs vs' : List V} {ds ds' : List D} (z : Z p = some (.lst vs)) (r : repL Z ds vs) (z' : Z p' = some (.lst vs')) (r' : repL Z ds' vs') : Yields (Itz K p p') P Z (zipL ds ds') where
  go := fun Z1 H L i e s hi => by
    have hi : i < ds.length ∧ i < ds'.length := by simpa [zipL, Nat.lt_min] using hi
    obtain ⟨v, hv, _⟩ := repL_get r (List.getElem?_eq_getElem hi.1)
    obtain ⟨v', hv', _⟩ := repL_get r' (List.getElem?_eq_getElem hi.2)
    exact ⟨vs, vs', v, v', .inl (s.zed p _ (e.ext _ _ z)), .inl (s.zed p' _ (e.ext _ _ z')), hv, hv'⟩
  yld := fun Z1 H L i x H' d e s hd y => by
    obtain ⟨T, y0, y1, rfl, hT, rfl, hy, hy'⟩ := y
    have hd2 : ∃ d0 d1, ds[i]? = some d0 ∧ ds'[i]? = some d1 ∧ d = .tuple [d0, d1] := by
      unfold zipL at hd
      rw [List.getElem?_map] at hd
      cases h : (List.zip ds ds')[i]? with
      | none => rw [h] at hd; cases hd
      | some pr =>
        rw [h] at hd
        obtain ⟨h1, h2⟩ := List.getElem?_zip_eq_some.mp h
        exact ⟨pr.1, pr.2, h1, h2, by simpa using hd.symm⟩
    obtain ⟨d0, d1, hd0, hd1, rfl⟩ := hd2
    obtain ⟨v, hv, rv⟩ := repL_get r hd0
    obtain ⟨v', hv', rv'⟩ := repL_get r' hd1
    have t := hy vs (.inl (s.zed p _ (e.ext _ _ z)))
    have t' := hy' vs' (.inl (s.zed p' _ (e.ext _ _ z')))
    rw [hv] at t
    rw [hv'] at t'
    cases t
    cases t'
    exact s.newTup hT (by rw [repL]; exact ⟨_, _, rfl, repV_ext e.ext rv, by rw [repL]; exact ⟨_, _, rfl, repV_ext e.ext rv', by rw [repL]⟩⟩)
  stop := fun Z1 H L e s => ⟨vs, vs', .inl (s.zed p _ (e.ext _ _ z)), .inl (s.zed p' _ (e.ext _ _ z')), by rw [repL_len r, repL_len r']; simp [zipL]; omega⟩
theorem yields_zipT {P Z : Hp} {K : PySem.W.Frag} {p p' : Addr} {vs vs' : List V} {ds ds' : List D} (z : Z p = some (.tup vs)) (r : repL Z ds vs) (z' : Z p' = some (.tup vs')) (r' : repL Z ds' vs') : Yields (RZ.ItzT K p p') P Z (zipL ds ds') where
  go := fun Z1 H L i e s hi => by
    have hi : i < ds.length ∧ i < ds'.length := by simpa [zipL, Nat.lt_min] using hi
    obtain ⟨v, hv, _⟩ := repL_get r (List.getElem?_eq_getElem hi.1)
    obtain ⟨v', hv', _⟩ := repL_get r' (List.getElem?_eq_getElem hi.2)
    exact ⟨vs, vs', v, v', .inl (s.zed p _ (e.ext _ _ z)), .inl (s.zed p' _ (e.ext _ _ z')), hv, hv'⟩
  yld := fun Z1 H L i x H' d e s hd y => by
    obtain ⟨T, y0, y1, rfl, hT, rfl, hy, hy'⟩ := y
    have hd2 : ∃ d0 d1, ds[i]? = some d0 ∧ ds'[i]? = some d1 ∧ d = .tuple [d0, d1] := by
      unfold zipL at hd
      rw [List.getElem?_map] at hd
      cases h : (List.zip ds ds')[i]? with
      | none => rw [h] at hd; cases hd
      | some pr =>
        rw [h] at hd
        obtain ⟨h1, h2⟩ := List.getElem?_zip_eq_some.mp h
        exact ⟨pr.1, pr.2, h1, h2, by simpa using hd.symm⟩
    obtain ⟨d0, d1, hd0, hd1, rfl⟩ := hd2
    obtain ⟨v, hv, rv⟩ := repL_get r hd0
    obtain ⟨v', hv', rv'⟩ := repL_get r' hd1
    have t := hy vs (.inl (s.zed p _ (e.ext _ _ z)))
    have t' := hy' vs' (.inl (s.zed p' _ (e.ext _ _ z')))
    rw [hv] at t
    rw [hv'] at t'
    cases t
    cases t'
    exact s.newTup hT (by rw [repL]; exact ⟨_, _, rfl, repV_ext e.ext rv, by rw [repL]; exact ⟨_, _, rfl, repV_ext e.ext rv', by rw [repL]⟩⟩)
  stop := fun Z1 H L e s => ⟨vs, vs', .inl (s.zed p _ (e.ext _ _ z)), .inl (s.zed p' _ (e.ext _ _ z')), by rw [repL_len r, repL_len r']; simp [zipL]; omega⟩
def zipOf : D → D → Option (List D)
  | .list ds, .list es => some (zipL ds es)
  | .tuple ds, .tuple es => some (zipL ds es)
  | _, _ => none
def mZip (f g : M SV) : M (List D) := bndD f fun d => bndD g fun d' => lift (zipOf d d')
theorem di_zip {elts : List Expr} {kk : Nat} {p tpos : Pos} {e e2 : Expr} {f g : M SV} (hg : Gl X "zip") (hm : X.mg "zip" = none) (h : DE X E e f) (h2 : DE X E e2 g) (hs : starEach [e, e2] X.env = (false, eval e X.env) :: starEach [e2] X.env := by rfl)
    (hs2 : starEach [e2] X.env = (false, eval e2 X.env) :: starEach [] X.env := by rfl) (hpl : (backTo pos (starEach [e2] X.env)).any (·.1) = false := by rfl) : DI X E (.Tuple elts kk tpos) (.Call (.Name "zip" p) [e, e2] [] pos) (mZip f g) := by
  refine PIimp (RZ.pi_zipA hg hm (pa_cons h (pa_one_of h2 hs2) hs) hs hpl) fun σ H R ⟨sl, res, sl', P, Z, tm, q, a, k, ex⟩ => ?_
  show tOf X.mg E f σ H fun x H1 => tOf X.mg E g σ H1 fun y H2 => ∃ a b xs ys, [x, y] = [.ref a, .ref b] ∧ ((SqL X.K H2 a xs ∧ SqL X.K H2 b ys ∧ R (Itz X.K a b) H2) ∨ (SqT X.K H2 a xs ∧ SqT X.K H2 b ys ∧ R (RZ.ItzT X.K a b) H2))
  refine run1D q a ex fun d sl1 v Z1 H1 q1 e1 a1 ex1 => ?_
  refine run1D q1 a1 ex1 fun d' sl2 v' Z2 H2 q2 e2 a2 _ => ?_
  obtain ⟨ds, hd, e⟩ := lift_inv q2
  cases e
  have r := repV_ext e2.ext a1.d
  have r' := a2.d
  cases d with
  | list es => cases d' with
    | list es' =>
      cases hd
      rw [repV] at r r'
      obtain ⟨p, vs, ev, z, rl⟩ := r
      obtain ⟨p', vs', ev', z', rl'⟩ := r'
      exact ⟨p, p', vs, vs', by rw [ev, ev'], .inl ⟨.inl (a2.2.zed p _ z), .inl (a2.2.zed p' _ z'), k _ rfl _ Z2 H2 (e1.trans e2) a2.tail.tail (yields_zip z rl z' rl')⟩⟩
    | _ => cases hd
  | tuple es => cases d' with
    | tuple es' =>
      cases hd
      rw [repV] at r r'
      obtain ⟨p, vs, ev, z, rl⟩ := r
      obtain ⟨p', vs', ev', z', rl'⟩ := r'
      exact ⟨p, p', vs, vs', by rw [ev, ev'], .inr ⟨.inl (a2.2.zed p _ z), .inl (a2.2.zed p' _ z'), k _ rfl _ Z2 H2 (e1.trans e2) a2.tail.tail (yields_zipT z rl z' rl')⟩⟩
    | _ => cases hd
  | _ => cases hd
end
end DD

set_option Elab.async false
set_option linter.all false
set_option maxRecDepth 100000
/-! DD7: comprehensions, dicts walked. -/
namespace DD
open PySem PySem.Spec PyProof.Rows L2
/-! ## the block's own names -/
def wipeS (sl : List SV) : List Nat → List SV
  | [] => sl
  | v :: vs => (wipeS sl vs).set v .un
def savedC (σ : St) (sl : List SV) (vs : List Nat) : List Cell := vs.map fun v => (σ[v]?.getD none, sl[v]?.getD .un)
def unwipe (sl : List SV) : List Nat → List SV → List SV
  | [], t => t
  | v :: vs, t => unwipe sl vs (t.set v (sl[v]?.getD .un))
theorem wipeS_len (sl : List SV) : ∀ vs, (wipeS sl vs).length = sl.length
  | [] => rfl
  | v :: vs => by unfold wipeS; rw [List.length_set, wipeS_len sl vs]
theorem wipeS_get (sl : List SV) {v : Nat} : ∀ {vs : List Nat}, v ∉ vs → (wipeS sl vs)[v]? = sl[v]?
  | [], _ => rfl
  | w :: vs, h => by
    unfold wipeS
    rw [List.getElem?_set_ne (fun e => h (by rw [e]; exact List.mem_cons_self ..)), wipeS_get sl fun m => h (List.mem_cons_of_mem _ m)]
theorem wipe_get (σ : St) {v : Nat} : ∀ {vs : List Nat}, v ∉ vs → (wipe σ vs)[v]? = σ[v]?
  | [], _ => rfl
  | w :: vs, h => by
    unfold wipe
    rw [List.getElem?_set_ne (fun e => h (by rw [e]; exact List.mem_cons_self ..)), wipe_get σ fun m => h (List.mem_cons_of_mem _ m)]
section
variable {P Z H : Hp} {σ : St} {sl : List SV} {tm : List Cell}
theorem At.wiped (a : At P Z H σ sl tm) : ∀ {vs : List Nat}, vs.Nodup → (∀ v ∈ vs, v < sl.length) → At P Z H (wipe σ vs) (wipeS sl vs) (savedC σ sl vs ++ tm)
  | [], _, _ => a
  | v :: vs, nd, hl => by
    rw [List.nodup_cons] at nd
    have ih := At.wiped a nd.2 fun w hw => hl w (List.mem_cons_of_mem _ hw)
    have hv := hl v (List.mem_cons_self ..)
    have g1 : (wipeS sl vs)[v]? = some sl[v] := by rw [wipeS_get sl nd.1]; exact List.getElem?_eq_getElem hv
    obtain ⟨ov, ho, s⟩ := ih.open g1
    have hs : σ[v]? = some ov := by rw [← wipe_get σ nd.1]; exact ho
    have s2 : SR P Z H ((none, .un) :: hole (wipe σ vs) (wipeS sl vs) ((ov, sl[v]) :: (savedC σ sl vs ++ tm)) v) := SR.unCons s
    have := At.close (tm := (ov, sl[v]) :: (savedC σ sl vs ++ tm)) ih.1 (by rw [wipeS_len]; exact hv) s2
    have e : savedC σ sl (v :: vs) = (ov, sl[v]) :: savedC σ sl vs := by
      unfold savedC
      rw [List.map_cons, hs, List.getElem?_eq_getElem hv]
      rfl
    rw [e]
    exact this
theorem At.unwiped {P' Z' H' : Hp} (hl0 : σ.length = sl.length) : ∀ {vs : List Nat} {t : List SV}, vs.Nodup → (∀ v ∈ vs, v < sl.length) → At P' Z' H' (wipe σ vs) t (savedC σ sl vs ++ tm) → At P' Z' H' σ (unwipe sl vs t) tm
  | [], _, _, _, a => a
  | v :: vs, t, nd, hl, a => by
    rw [List.nodup_cons] at nd
    have hv := hl v (List.mem_cons_self ..)
    have hv' : v < σ.length := by rw [hl0]; exact hv
    have e : savedC σ sl (v :: vs) = (σ[v], sl[v]) :: savedC σ sl vs := by
      unfold savedC
      rw [List.map_cons, List.getElem?_eq_getElem hv, List.getElem?_eq_getElem hv']
      rfl
    rw [e] at a
    have lt : v < t.length := by rw [← a.1, wipe_length]; exact hv'
    obtain ⟨ov, ho, s⟩ := a.open (List.getElem?_eq_getElem lt)
    have s2 : SR P' Z' H' ((σ[v], sl[v]) :: hole (wipe σ (v :: vs)) t (savedC σ sl vs ++ tm) v) := s.tail
    have c := At.close (tm := savedC σ sl vs ++ tm) a.1 lt s2
    have e2 : (wipe σ (v :: vs)).set v σ[v] = wipe σ vs := by
      show ((wipe σ vs).set v none).set v σ[v] = wipe σ vs
      rw [List.set_set]
      have : (wipe σ vs)[v]? = some σ[v] := by rw [wipe_get σ nd.1]; exact List.getElem?_eq_getElem hv'
      obtain ⟨q1, q2⟩ := List.getElem?_eq_some_iff.mp this
      rw [← q2]
      exact List.set_getElem_self q1
    rw [e2] at c
    have := At.unwiped hl0 nd.2 (fun w hw => hl w (List.mem_cons_of_mem _ hw)) c
    unfold unwipe
    rw [List.getElem?_eq_getElem hv]
    exact this
end
theorem At.wipedOff {P Z H : Hp} {σ : St} {tm : List Cell} : ∀ (vs : List Nat) {sl : List SV}, At P Z H σ sl tm → At P Z H (wipe σ vs) (wipeS sl vs) tm
  | [], _, a => a
  | v :: vs, sl, a => by
    have ih := At.wipedOff vs a
    by_cases hv : v < (wipeS sl vs).length
    · obtain ⟨ov, ho, s⟩ := ih.open (List.getElem?_eq_getElem hv)
      exact At.close ih.1 hv s.forget
    · show At P Z H ((wipe σ vs).set v none) ((wipeS sl vs).set v .un) tm
      have hlen := ih.1
      rw [List.set_eq_of_length_le (show (wipe σ vs).length ≤ v by omega), List.set_eq_of_length_le (show (wipeS sl vs).length ≤ v by omega)]
      exact ih
/-- the slots that a block leaves -/
def others (n : Nat) (vs : List Nat) : List Nat := (List.range n).filter fun i => !vs.contains i
theorem wipe_same {σ σ2 : St} {vs : List Nat} (h : Kept (others σ.length vs) (wipe σ vs) σ2) : wipe σ2 vs = wipe σ vs := by
  have hl : σ2.length = σ.length := by rw [h.1, wipe_length]
  apply List.ext_getElem?
  intro i
  by_cases hi : i ∈ vs
  · have nn : ∀ (τ : St) (ws : List Nat), i ∈ ws → (wipe τ ws)[i]? = if i < τ.length then some none else none := by
      intro τ ws
      induction ws with
      | nil => intro h; cases h
      | cons w ws ih =>
        intro hm
        unfold wipe
        rw [List.getElem?_set, wipe_length]
        by_cases e : w = i
        · subst e; simp
        · rw [if_neg e]
          rcases List.mem_cons.mp hm with rfl | hm
          · exact absurd rfl e
          · exact ih hm
    rw [nn _ _ hi, nn _ _ hi, hl]
  · by_cases hl2 : i < σ.length
    · rw [wipe_get σ2 hi]
      exact h.2 i (List.mem_filter.mpr ⟨List.mem_range.mpr hl2, by simpa using hi⟩)
    · rw [List.getElem?_eq_none (by rw [wipe_length]; omega), List.getElem?_eq_none (by rw [wipe_length]; omega)]

/-! ## list comprehensions -/
def compL (vs : List Nat) (T : SV → M Unit) (t : M Bool) (f : M SV) : List D → List SV → M (List SV)
  | [], acc => ret acc
  | d :: r, acc => fun sl => match T (.d d) sl with
    | some (.ok _, sl1) => (match t sl1 with
      | some (.ok true, sl2) => (match f sl2 with
        | some (.ok x, sl3) => if acc.length < sizeLine then compL vs T t f r (acc ++ [x]) (wipeS sl3 vs) else none
        | _ => none)
      | some (.ok false, sl2) => compL vs T t f r acc (wipeS sl2 vs)
      | _ => none)
    | _ => none
def mComp (N : Nat) (vs : List Nat) (F : M (List D)) (T : SV → M Unit) (t : M Bool) (f : M SV) : M SV := bnd F fun ds sl => if sl.length = N then (match compL vs T t f ds [] (wipeS sl vs) with
  | some (.ok xs, sl') => some (.ok (.lst xs), unwipe sl vs sl')
  | _ => none) else none
theorem compL_ok {vs : List Nat} {T : SV → M Unit} {t : M Bool} {f : M SV} : ∀ {ds : List D} {acc : List SV} {sl : List SV} {res : Res (List SV)} {sl' : List SV}, compL vs T t f ds acc sl = some (res, sl') → ∃ xs, res = .ok xs
  | [], acc, sl, res, sl', h => by cases h; exact ⟨acc, rfl⟩
  | d :: r, acc, sl, res, sl', h => by
    unfold compL at h
    split at h
    · split at h
      · split at h
        · split at h
          · exact compL_ok h
          · cases h
        · cases h
      · exact compL_ok h
      · cases h
    · cases h
theorem repSs_app {Z H : Hp} {x : SV} {v : V} : ∀ {xs : List SV} {vs : List V} {o o' : List Addr}, repSs Z H xs vs o → repS Z H x v o' → repSs Z H (xs ++ [x]) (vs ++ [v]) (o ++ o')
  | [], _, _, _, h, h' => by
    rw [repSs] at h
    obtain ⟨rfl, rfl⟩ := h
    show repSs Z H [x] [v] _
    rw [repSs]
    exact ⟨v, [], _, [], rfl, by simp, h', by rw [repSs]; exact ⟨rfl, rfl⟩⟩
  | y :: xs, _, _, _, h, h' => by
    rw [repSs] at h
    obtain ⟨w, t, o1, o2, rfl, rfl, h1, h2⟩ := h
    show repSs Z H (y :: (xs ++ [x])) (w :: (t ++ [v])) _
    rw [repSs]
    exact ⟨w, t ++ [v], o1, o2 ++ _, rfl, by rw [List.append_assoc], h1, repSs_app h2 h'⟩
theorem repSs_len {Z H : Hp} : ∀ {xs : List SV} {vs : List V} {o : List Addr}, repSs Z H xs vs o → vs.length = xs.length
  | [], _, _, h => by rw [repSs] at h; rw [h.1]; rfl
  | x :: xs, _, _, h => by
    rw [repSs] at h
    obtain ⟨v, t, o1, o2, rfl, _, _, h2⟩ := h
    simp [repSs_len h2]
/-- the first thing is written over: its new own is the old one's and the second thing's -/
theorem SR.write1 {P Z H : Hp} {L : List Cell} {p : Addr} {xs : List SV} {x : SV} {v : V} (s : SR P Z H ((some v, x) :: (some (.ref p), .lst xs) :: L)) : ∃ vs, H p = some (.lst vs) ∧ vs.length = xs.length ∧ SR P Z (upd H p (.lst (vs ++ [v]))) ((some (.ref p), .lst (xs ++ [x])) :: L) := by
  obtain ⟨own, ⟨o1, o2, e, h1, o3, o4, e2, h2, h3⟩, nd, k⟩ := s.ex
  subst e2
  subst e
  have h1 := repO_get h1
  have h2 := repO_get h2
  rw [repS] at h2
  obtain ⟨q, vs, o5, e3, e4, hp, r⟩ := h2
  cases e3
  subst e4
  have pn : P p = none ∧ Z p = none := k p (by simp)
  have nd' := nd
  simp only [List.nodup_append, List.nodup_cons, List.mem_append, List.mem_cons, List.cons_append] at nd'
  have ne : ∀ a, a ∈ o1 ∨ a ∈ o5 ∨ a ∈ o4 → a ≠ p := by
    rintro a (ha | ha | ha) rfl
    · exact nd'.2.2 a ha a (.inl rfl) rfl
    · exact nd'.2.1.1 (.inl ha)
    · exact nd'.2.1.1 (.inr ha)
  have kp : ∀ a, a ∈ o1 ∨ a ∈ o5 ∨ a ∈ o4 → upd H p (.lst (vs ++ [v])) a = H a := fun a ha => upd_ne (ne a ha)
  refine ⟨vs, hp, repSs_len r, fun a o e => ?_, fun a u e => ?_, (p :: (o5 ++ o1)) ++ o4, ⟨p :: (o5 ++ o1), o4, rfl, repO_of ?_, repA_keep (Sub0.refl _) (fun a ha => kp a (.inr (.inr ha))) h3⟩, ?_, fun a ha => k a ?_⟩
  · rw [upd_ne (fun z => by subst z; rw [pn.1] at e; cases e)]
    exact s.prot a o e
  · have nz : a ≠ p := fun z => by subst z; rw [pn.2] at e; cases e
    rcases s.zed a u e with q | ⟨ob, q⟩
    · exact .inl (by rw [upd_ne nz]; exact q)
    · exact .inr ⟨ob, by rw [upd_ne nz]; exact q⟩
  · rw [repS]
    exact ⟨p, vs ++ [v], o5 ++ o1, rfl, rfl, upd_same, repSs_app (repSs_keep (Sub0.refl _) (fun a ha => kp a (.inr (.inl ha))) r) (repS_keep (Sub0.refl _) (fun a ha => kp a (.inl ha)) h1)⟩
  · refine (List.Perm.nodup_iff ?_).mpr nd
    simp only [List.cons_append, List.append_assoc]
    refine List.Perm.trans ?_ List.perm_middle.symm
    refine List.Perm.cons _ ?_
    rw [← List.append_assoc, ← List.append_assoc]
    exact List.Perm.append_right _ List.perm_append_comm
  · simp only [List.mem_append, List.mem_cons, List.cons_append] at ha ⊢
    rcases ha with h | (h | h) | h
    · exact .inr (.inl h)
    · exact .inr (.inr (.inl h))
    · exact .inl h
    · exact .inr (.inr (.inr h))
section
variable {X : Cx} {E : XK} {pos : Pos}
/-- what stands when the walked things are known; b = the block's cells -/
theorem tLc_core {J : It} {ds : List D} {T : SV → M Unit} {t : M Bool} {f : M SV} {g : TG} {tt : TT} {te : TE} {vs : List Nat} {N : Nat} {σ0 : St} {H1 P Z1 : Hp} {Q : VK} {tm : List Cell} {sl1 sl2 : List SV} {xs : List SV} (nd : vs.Nodup) (hvs : ∀ v ∈ vs, v < N)
    (hg : ∀ v σ H Q, tgOf (others N vs) T v σ H Q → g v σ H Q) (ht : ∀ σ H Q, ttOf X.mg E0 t σ H Q → tt σ H Q) (he : ∀ σ H Q, tOf X.mg E0 f σ H Q → te σ H Q) (y : Yields J P Z1 ds) (a1 : At P Z1 H1 σ0 sl1 tm) (lN : sl1.length = N)
    (hc : compL vs T t f ds [] (wipeS sl1 vs) = some (.ok xs, sl2)) (k : ∀ p Zc H, Ext P Z1 Zc → At P Zc H σ0 (unwipe sl1 vs sl2) ((some (.ref p), .lst xs) :: tm) → Q (.ref p) H) : tLc (fun _ _ R => R J H1) g tt te vs σ0 H1 Q := by
  have hN : σ0.length = N := by rw [a1.1, lN]
  intro D hD
  -- the new list stands apart
  have s0 : SR P Z1 (upd H1 D (.lst [])) ((some (.ref D), .lst []) :: (tm ++ List.zip σ0 sl1)) := SR.gather (vs := []) (xs := []) (L := tm ++ List.zip σ0 sl1) (by simpa using a1.2) rfl hD (.lst []) fun H' own hh r => by
    rw [repS]
    exact ⟨D, [], own, rfl, rfl, hh, r⟩
  have a0 : At P Z1 (upd H1 D (.lst [])) σ0 sl1 ((some (.ref D), .lst []) :: tm) := ⟨a1.1, s0⟩
  have aw := a0.wiped nd fun v hv => by rw [lN]; exact hvs v hv
  refine ⟨fun i m H => ∃ s Zc acc, i + m = ds.length ∧ compL vs T t f (ds.drop i) acc s = some (.ok xs, sl2) ∧ At P Zc H (wipe σ0 vs) s ((some (.ref D), .lst acc) :: (savedC σ0 sl1 vs ++ tm)) ∧ Ext P Z1 Zc,
    ⟨ds.length, wipeS sl1 vs, Z1, [], by simp, by simpa using hc, ⟨aw.1, aw.2.perm ?_⟩, Ext.refl _ _⟩, ?_⟩
  · simp only [List.append_assoc, List.cons_append]
    exact List.perm_middle
  rintro i m H ⟨s, Zc, acc, hm, qi, ai, ei⟩
  by_cases hi : i < ds.length
  · refine .inr ⟨y.go Zc H _ i ei ai.2 hi, fun H' => ∃ s Zc acc, compL vs T t f (ds.drop (i + 1)) acc s = some (.ok xs, sl2) ∧ At P Zc H' (wipe σ0 vs) s ((some (.ref D), .lst acc) :: (savedC σ0 sl1 vs ++ tm)) ∧ Ext P Z1 Zc,
      fun H' ⟨s, Zc, acc, h1, h2, h3⟩ => ⟨m - 1, by omega, s, Zc, acc, by omega, h1, h2, h3⟩, fun x H' yl => ?_⟩
    rw [List.drop_eq_getElem_cons hi] at qi
    unfold compL at qi
    obtain ⟨Z2, e2, s2⟩ := y.yld Zc H _ i x H' _ ei ai.2 (List.getElem?_eq_getElem hi) yl
    split at qi
    · rename_i u s3 hT
      refine hg _ _ _ _ ⟨_, s, s3, P, Z2, _, hT, ⟨ai.1, s2⟩, fun σ2 Z3 H3 k2 e3 a3 => ?_⟩
      have ws : wipe σ2 vs = wipe σ0 vs := wipe_same (by rw [hN]; exact k2)
      have e13 : Ext P Zc Z3 := e2.trans e3
      refine ⟨ws, ht _ _ _ ?_⟩
      split at qi
      · rename_i s4 hT4
        -- the test says yes
        refine ⟨s3, .ok true, s4, P, Z3, _, hT4, a3, fun b eb Z4 H4 e4 a4 => ?_, fun c x ee => by cases ee⟩
        cases eb
        refine iteT (he _ _ _ ?_)
        split at qi
        · rename_i x5 s5 hT5
          split at qi
          · rename_i hlen
            refine ⟨s4, .ok x5, s5, P, Z4, _, hT5, a4, fun r er v Z5 H5 e5 a5 => ?_, fun c x ee => by cases ee⟩
            cases er
            obtain ⟨ws2, hD5, l5, s6⟩ := SR.write1 a5.2
            refine ⟨ws2, hD5, by rw [l5]; exact hlen, wipeS s5 vs, Z5, acc ++ [x5], qi, ?_, ei.trans (e13.trans (e4.trans e5))⟩
            have a6 : At P Z5 (upd H5 D (.lst (ws2 ++ [v]))) σ2 s5 ((some (.ref D), .lst (acc ++ [x5])) :: (savedC σ0 sl1 vs ++ tm)) := ⟨a5.1, s6⟩
            exact ws ▸ a6.wipedOff vs
          · cases qi
        · cases qi
      · rename_i s4 hT4
        refine ⟨s3, .ok false, s4, P, Z3, _, hT4, a3, fun b eb Z4 H4 e4 a4 => ?_, fun c x ee => by cases ee⟩
        cases eb
        refine iteF ⟨wipeS s4 vs, Z4, acc, qi, ?_, ei.trans (e13.trans e4)⟩
        exact ws ▸ a4.wipedOff vs
      · cases qi
    · cases qi
  · have hl : i = ds.length := by omega
    subst hl
    rw [List.drop_length] at qi
    cases qi
    refine .inl ⟨y.stop Zc H _ ei ai.2, k _ Zc H ei ?_⟩
    have a7 : At P Zc H (wipe σ0 vs) sl2 (savedC σ0 sl1 vs ++ ((some (.ref D), .lst xs) :: tm)) := ⟨ai.1, ai.2.perm (by simp only [List.cons_append, List.append_assoc]; exact List.perm_middle.symm)⟩
    exact a7.unwiped a1.1 nd fun v hv => by rw [lN]; exact hvs v hv
theorem tLc_of {wi : TI} {F : M (List D)} {T : SV → M Unit} {t : M Bool} {f : M SV} {g : TG} {tt : TT} {te : TE} {vs : List Nat} {N : Nat} {σ0 : St} {H0 : Hp} {Q : VK} (nd : vs.Nodup) (hvs : ∀ v ∈ vs, v < N)
    (hg : ∀ v σ H Q, tgOf (others N vs) T v σ H Q → g v σ H Q) (ht : ∀ σ H Q, ttOf X.mg E0 t σ H Q → tt σ H Q) (he : ∀ σ H Q, tOf X.mg E0 f σ H Q → te σ H Q) (hw : ∀ R, tiOf X.mg E F σ0 H0 R → wi σ0 H0 R)
    (h : tOf X.mg E (mComp N vs F T t f) σ0 H0 Q) : tLc wi g tt te vs σ0 H0 Q := by
  obtain ⟨sl, res, sl', P, Z, tm, q, a, k, ex⟩ := h
  refine hw _ (runI q a ex fun ds sl1 J Z1 H1 q1 e1 a1 y _ => ?_)
  have lN : sl1.length = N := by
    by_cases hh : sl1.length = N
    · exact hh
    · rw [if_neg hh] at q1; cases q1
  rw [if_pos lN] at q1
  split at q1
  · rename_i xs sl2 hc
    cases q1
    exact tLc_core nd hvs hg ht he y a1 lN hc fun p Zc H ec ac => k _ rfl _ Zc H (e1.trans ec) ac
  · cases q1
end
end DD

set_option Elab.async false
set_option linter.all false
set_option maxRecDepth 100000
/-! DD8: operations on data. -/
namespace DD
open PySem PySem.Spec PyProof.Rows L2
section
variable {X : Cx} {E : XK} {pos : Pos}
/-! ## comprehensions as rules -/
theorem de_comp {elt tg iter : Expr} {ifs : List Expr} {scope : Scope} {own : List (Str × Nat)} {F : M (List D)} {T : SV → M Unit} {t : M Bool} {f : M SV} (hc : X.calm = true) (hN : X.N.Nodup) (hi : DI X E tg iter F) (ok : BlkOk X.N X.env.scope scope own)
    (hg : ∀ (s : Shared) (H : Hp) (C : Addr) (cl : List (Str × Addr)) (fp : List Addr), DG (X.blk s H scope (compEnvC scope cl C X.env) fp) (others X.N.length (own.map (·.2))) tg T)
    (ht : ∀ (s : Shared) (H : Hp) (C : Addr) (cl : List (Str × Addr)) (fp : List Addr), PTs (X.blk s H scope (compEnvC scope cl C X.env) fp) ifs (ttOf X.mg E0 t))
    (he : ∀ (s : Shared) (H : Hp) (C : Addr) (cl : List (Str × Addr)) (fp : List Addr), DE (X.blk s H scope (compEnvC scope cl C X.env) fp) E0 elt f) (nd : (own.map (·.2)).Nodup) (hv : ∀ v ∈ own.map (·.2), v < X.N.length)
    (hs : ∀ x, foldedSetIterable iter X.env x = pure x := by intro _; rfl) : DE X E (.ListComp elt [⟨tg, iter, ifs, 0⟩] scope pos) (mComp X.N.length (own.map (·.2)) F T t f) :=
  PEimp (pe_lc (te := tOf X.mg E0 f) (g := tgOf (others X.N.length (List.map (fun (x : Str × Nat) => x.2) own)) T) hc hN hi ok hg ht he hs) fun _ _ _ h => tLc_of nd hv (fun _ _ _ _ h => h) (fun _ _ _ h => h) (fun _ _ _ h => h) (fun _ h => h) h
theorem ds_setComp {i : Nat} {y : Str} {py spos : Pos} {kp : List Nat} {elt tg iter : Expr} {ifs : List Expr} {scope : Scope} {own : List (Str × Nat)} {F : M (List D)} {T : SV → M Unit} {t : M Bool} {f : M SV} (hc : X.calm = true) (hN : X.N.Nodup) (hy : X.N[i]? = some y) (hyl : X.env.scope.names.lookup y = some .local)
    (hsw : swapsWith (.ListComp elt [⟨tg, iter, ifs, 0⟩] scope pos) (some (.Name y py)) spos.line X.env = pure true) (hk : i ∉ kp) (hi : DI X E tg iter F) (ok : BlkOk X.N X.env.scope scope own)
    (hg : ∀ (s : Shared) (H : Hp) (C : Addr) (cl : List (Str × Addr)) (fp : List Addr), DG (X.blk s H scope (compEnvC scope cl C X.env) fp) (others X.N.length (own.map (·.2))) tg T)
    (ht : ∀ (s : Shared) (H : Hp) (C : Addr) (cl : List (Str × Addr)) (fp : List Addr), PTs (X.blk s H scope (compEnvC scope cl C X.env) fp) ifs (ttOf X.mg E0 t))
    (he : ∀ (s : Shared) (H : Hp) (C : Addr) (cl : List (Str × Addr)) (fp : List Addr), DE (X.blk s H scope (compEnvC scope cl C X.env) fp) E0 elt f) (nd : (own.map (·.2)).Nodup) (hv : ∀ v ∈ own.map (·.2), v < X.N.length)
    (hs : ∀ x, foldedSetIterable iter X.env x = pure x := by intro _; rfl) : DS X E kp (.Assign [.Name y py] (.ListComp elt [⟨tg, iter, ifs, 0⟩] scope pos) spos) (mAsg (mComp X.N.length (own.map (·.2)) F T t f) (gSet i)) := by
  refine PSimp (ps_setLc (te := tOf X.mg E0 f) (g := tgOf (others X.N.length (List.map (fun (x : Str × Nat) => x.2) own)) T) hc hN hy hyl hsw hi ok hg ht he hs) fun Dn σ H h => ?_
  have h2 := asg_of h
  refine tLc_of (E := E) nd hv (fun _ _ _ _ h => h) (fun _ _ _ h => h) (fun _ _ _ h => h) (fun _ h => h) ?_
  obtain ⟨sl, res, sl', P, Z, tm, q, a, k, ex⟩ := h2
  refine ⟨sl, res, sl', P, Z, tm, q, a, fun r er v Z' H' e' a' => ?_, ex⟩
  obtain ⟨x, s0, s1, P2, Z2, t2, q2, a2, k2⟩ := k r er v Z' H' e' a'
  unfold gSet at q2
  split at q2
  · rename_i hi
    cases q2
    exact k2 _ Z2 H' (Kept.set hk) (Ext.refl _ _) (a2.put hi)
  · cases q2

/-! ## plain answers -/
theorem ends_data {P Z H : Hp} {L : List Cell} {Q : VK} {d : D} {v : V} (k : Ends1 P Z L Q (.d d)) (s : SR P Z H L) (r : repV Z d v) : Q v H := k v Z H (Ext.refl _ _) (s.data r)
theorem ends_int {P Z H : Hp} {L : List Cell} {Q : VK} {i : Int} (k : Ends1 P Z L Q (.d (.int i))) (s : SR P Z H L) : Q (.int i) H := ends_data k s (by rw [repV])
theorem ends_bool {P Z H : Hp} {L : List Cell} {Q : VK} {b : Bool} (k : Ends1 P Z L Q (.d (.bool b))) (s : SR P Z H L) : Q (.bl b) H := ends_data k s (by rw [repV])
theorem ends_str {P Z H : Hp} {L : List Cell} {Q : VK} {x : Str} (k : Ends1 P Z L Q (.d (.str x))) (s : SR P Z H L) : Q (.str x) H := ends_data k s (by rw [repV])
theorem SR.newLst {P Z H : Hp} {L : List Cell} {p : Addr} {vs : List V} {ds : List D} (s : SR P Z H L) (hp : H p = none) (r : repL Z ds vs) : SR P Z (upd H p (.lst vs)) ((some (.ref p), .lst (ds.map SV.d)) :: L) := by
  have l := repL_len r
  have s2 : SR P Z H ((List.zip (vs.map some) (ds.map SV.d)).reverse ++ L) := (s.addAll r).perm (List.Perm.append_right _ (List.reverse_perm _).symm)
  exact SR.gather (n := .lst (ds.map SV.d)) s2 (by simp [l]) (o := .lst vs) hp fun H' own hh rr => by
    rw [repS]
    exact ⟨p, vs, own, rfl, rfl, hh, rr⟩
theorem ends_lst {P Z H : Hp} {L : List Cell} {Q : VK} {ds : List D} {vs : List V} {p : Addr} (k : Ends1 P Z L Q (.lst (ds.map SV.d))) (s : SR P Z H L) (hp : H p = none) (r : repL Z ds vs) : Q (.ref p) (upd H p (.lst vs)) :=
  k _ Z _ (Ext.refl _ _) (s.newLst hp r)
theorem ends_tup {P Z H : Hp} {L : List Cell} {Q : VK} {ds : List D} {vs : List V} {p : Addr} (k : Ends1 P Z L Q (.d (.tuple ds))) (s : SR P Z H L) (hp : H p = none) (r : repL Z ds vs) : Q (.ref p) (upd H p (.tup vs)) := by
  obtain ⟨Z2, e2, s2⟩ := s.newTup hp r
  exact k _ Z2 _ e2 s2
theorem repL_app {Z : Hp} : ∀ {ds es : List D} {vs ws : List V}, repL Z ds vs → repL Z es ws → repL Z (ds ++ es) (vs ++ ws)
  | [], _, _, _, h, h' => by rw [repL] at h; subst h; exact h'
  | d :: ds, es, _, _, h, h' => by
    rw [repL] at h
    obtain ⟨v, r, rfl, h1, h2⟩ := h
    show repL Z (d :: (ds ++ es)) (v :: (r ++ _))
    rw [repL]
    exact ⟨v, r ++ _, rfl, h1, repL_app h2 h'⟩
theorem SR.sqL {P Z H : Hp} {L : List Cell} {K : PySem.W.Frag} {p : Addr} {vs : List V} (s : SR P Z H L) (z : Z p = some (.lst vs)) : SqL K H p vs := .inl (s.zed p _ z)
theorem SR.sqT {P Z H : Hp} {L : List Cell} {K : PySem.W.Frag} {p : Addr} {vs : List V} (s : SR P Z H L) (z : Z p = some (.tup vs)) : SqT K H p vs := .inl (s.zed p _ z)

/-! ## + - * // % ** -/
def addD : D → D → Option SV
  | .int i, .int j => some (.d (.int (i + j)))
  | .str a, .str b => if a.length + b.length ≤ sizeLine then some (.d (.str (a ++ b))) else none
  | .list a, .list b => if a.length + b.length ≤ sizeLine then some (.lst ((a ++ b).map SV.d)) else none
  | .tuple a, .tuple b => if a.length + b.length ≤ sizeLine then some (.d (.tuple (a ++ b))) else none
  | _, _ => none
def rCatR : R2 := fun x y H Q => ∃ l b xs zs, x = .ref l ∧ y = .ref b ∧ Rd H l (.lst xs) ∧ Rd H b (.lst zs) ∧ xs.length + zs.length ≤ sizeLine ∧ ∀ p, H p = none → Q (.ref p) (upd H p (.lst (xs ++ zs)))
theorem op_catR : OpR X (binaryOp .Add) rCatR := by
  intro pins s σ H x y v u Q I rx ry h
  obtain ⟨l, b, xs, zs, rfl, rfl, h1, h2, hz, q⟩ := h
  cases rx
  cases ry
  obtain ⟨z, its, n, r, e⟩ := h1.ok I.hok
  obtain ⟨z2, its2, n2, r2, e2⟩ := h2.ok I.hok
  have l1 := r.length
  have l2 := r2.length
  refine PySem.P.add_list e e2 ?_ (by rw [List.size_toArray, List.size_toArray]; omega)
  rw [show its.toArray ++ its2.toArray = (its ++ its2).toArray by simp]
  exact ⟨.ref _, _, I.lnew (t' := s.toks) (r.append r2) (by rw [List.length_append]; omega), rfl, q _ I.fresh⟩
theorem op_addD : OpD X (binaryOp .Add) addD := by
  intro pins s σ H x y v u Q I rx ry ⟨a, b, r, P, Z, L, hg, sr, ra, rb, k⟩
  cases a with
  | int i => cases b with
    | int j =>
      cases hg
      rw [repV] at ra rb
      subst ra rb
      exact op_add pins s σ H _ _ v u Q I rx ry ⟨i, j, rfl, rfl, ends_int k sr⟩
    | _ => cases hg
  | str i => cases b with
    | str j =>
      dsimp only [addD] at hg
      split at hg
      · rename_i hz
        cases hg
        rw [repV] at ra rb
        subst ra rb
        exact op_add_str pins s σ H _ _ v u Q I rx ry ⟨i, j, rfl, rfl, hz, ends_str k sr⟩
      · cases hg
    | _ => cases hg
  | list i => cases b with
    | list j =>
      dsimp only [addD] at hg
      split at hg
      · rename_i hz
        cases hg
        rw [repV] at ra rb
        obtain ⟨p, vs, rfl, z, rl⟩ := ra
        obtain ⟨p', vs', rfl, z', rl'⟩ := rb
        exact op_catR pins s σ H _ _ v u Q I rx ry ⟨p, p', vs, vs', rfl, rfl, sr.zed p _ z, sr.zed p' _ z', by rw [repL_len rl, repL_len rl']; exact hz, fun q hq => ends_lst k sr hq (repL_app rl rl')⟩
      · cases hg
    | _ => cases hg
  | tuple i => cases b with
    | tuple j =>
      dsimp only [addD] at hg
      split at hg
      · rename_i hz
        cases hg
        rw [repV] at ra rb
        obtain ⟨p, vs, rfl, z, rl⟩ := ra
        obtain ⟨p', vs', rfl, z', rl'⟩ := rb
        refine op_catA pins s σ H _ _ v u Q I rx ry ⟨p, p', vs, vs', rfl, rfl, sr.sqT z, sr.sqT z', by rw [repL_len rl, repL_len rl']; exact hz, fun e => ?_, fun _ e => ?_, fun _ _ q hq => ends_tup k sr hq (repL_app rl rl')⟩
        · subst e
          have : i = [] := List.length_eq_zero_iff.mp (repL_len rl).symm
          subst this
          exact ends_data k sr (by rw [repV]; exact ⟨p', vs', rfl, z', rl'⟩)
        · subst e
          have : j = [] := List.length_eq_zero_iff.mp (repL_len rl').symm
          subst this
          exact ends_data k sr (by rw [repV, List.append_nil]; exact ⟨p, vs, rfl, z, rl⟩)
      · cases hg
    | _ => cases hg
  | _ => cases hg
def intD (C : Int → Int → Bool) (g : Int → Int → D) : D → D → Option SV
  | .int i, .int j => if C i j = true then some (.d (g i j)) else none
  | _, _ => none
theorem op_intD {f : Value → Value → Sem Value} {C : Int → Int → Bool} {Cp : Int → Int → Prop} {g : Int → Int → D} {gv : Int → Int → V} (h : OpR X f (rI Cp gv)) (hC : ∀ i j, C i j = true → Cp i j) (hr : ∀ Z i j, repV Z (g i j) (gv i j)) : OpD X f (intD C g) := by
  intro pins s σ H x y v u Q I rx ry ⟨a, b, r, P, Z, L, hg, sr, ra, rb, k⟩
  cases a with
  | int i => cases b with
    | int j =>
      dsimp only [intD] at hg
      split at hg
      · rename_i hc
        cases hg
        rw [repV] at ra rb
        subst ra rb
        exact h pins s σ H _ _ v u Q I rx ry ⟨i, j, rfl, rfl, hC i j hc, ends_data k sr (hr Z i j)⟩
      · cases hg
    | _ => cases hg
  | _ => cases hg
def subD : D → D → Option SV := intD (fun _ _ => true) fun i j => .int (i - j)
theorem op_subD : OpD X (binaryOp .Sub) subD := by
  intro pins s σ H x y v u Q I rx ry ⟨a, b, r, P, Z, L, hg, sr, ra, rb, k⟩
  cases a with
  | int i => cases b with
    | int j =>
      cases hg
      rw [repV] at ra rb
      subst ra rb
      exact op_sub pins s σ H _ _ v u Q I rx ry ⟨i, j, rfl, rfl, ends_int k sr⟩
    | _ => cases hg
  | _ => cases hg
def okMul (i j : Int) : Bool := (decide (-(2 ^ 64) < i) && decide (i < 2 ^ 64)) || (decide (-(2 ^ 64) < j) && decide (j < 2 ^ 64))
def mulD : D → D → Option SV := intD okMul fun i j => .int (i * j)
theorem op_mulD : OpD X (binaryOp .Mult) mulD := op_intD op_mul (fun i j h => by simpa [okMul, CMul] using h) fun Z i j => by rw [repV]
def okDiv (_ j : Int) : Bool := decide (j ≠ 0) && decide (j.natAbs < 1073741824)
def fdivD : D → D → Option SV := intD okDiv fun i j => .int (i.fdiv j)
theorem op_fdivD : OpD X (binaryOp .FloorDiv) fdivD := op_intD op_fdivN (fun i j h => by simpa [okDiv, CDivN] using h) fun Z i j => by rw [repV]
def modD : D → D → Option SV := intD (fun _ j => decide (j ≠ 0)) fun i j => .int (i.fmod j)
theorem op_modD : OpD X (binaryOp .Mod) modD := op_intD op_modN (fun i j h => by simpa using h) fun Z i j => by rw [repV]
def okPow (i j : Int) : Bool := decide (0 ≤ j) && decide ((Builtin.Int.intBits i : Int) * j ≤ 2 ^ 27)
theorem op_powW : OpR X (binaryOp .Pow) (rI (fun i j => 0 ≤ j ∧ (Builtin.Int.intBits i : Int) * j ≤ 2 ^ 27) fun i j => .int (i ^ j.toNat)) := opI fun _ _ _ _ _ _ _ hc q => pow_int hc.1 hc.2 q
def powD : D → D → Option SV := intD okPow fun i j => .int (i ^ j.toNat)
theorem op_powD : OpD X (binaryOp .Pow) powD := op_intD op_powW (fun i j h => by simpa [okPow] using h) fun Z i j => by rw [repV]
/-- one operand -/
def mUn (g : D → Option SV) (f : M SV) : M SV := bndD f fun x => lift (g x)
def negD : D → Option SV
  | .int i => some (.d (.int (-i)))
  | _ => none
theorem de_neg {a : Expr} {f : M SV} (h : DE X E a f) : DE X E (.UnaryOp .USub a pos) (mUn negD f) := by
  refine PEimp (pe_un un_neg h) fun σ H Q ⟨sl, res, sl', P, Z, tm, q, a, k, ex⟩ => ?_
  refine run1D q a ex fun x sl1 v Z1 H1 q1 e1 a1 _ => ?_
  obtain ⟨r, hr, e⟩ := lift_inv q1
  cases e
  have rv := a1.d
  cases x with
  | int i =>
    cases hr
    rw [repV] at rv
    exact ⟨i, rv, k _ rfl _ Z1 H1 e1 (a1.tail.data (by rw [repV]))⟩
  | _ => cases hr

/-! ## comparisons -/
mutual
theorem repV_dp {P Z H : Hp} {L : List Cell} {K : PySem.W.Frag} (s : SR P Z H L) : ∀ {d : D} {v : V}, d.canLay0 = true → repV Z d v → Dp K H v d
  | .none, _, _, r => by rw [repV] at r; subst r; exact .non
  | .bool _, _, _, r => by rw [repV] at r; subst r; exact .bl _
  | .int _, _, _, r => by rw [repV] at r; subst r; exact .int _
  | .str _, _, _, r => by rw [repV] at r; subst r; exact .str _
  | .list ds, _, c, r => by
    rw [repV] at r
    obtain ⟨p, vs, rfl, z, rl⟩ := r
    exact .lst (s.sqL z) (repL_dp s (by simpa [PyData.canLay0] using c) rl)
  | .tuple ds, _, c, r => by
    rw [repV] at r
    obtain ⟨p, vs, rfl, z, rl⟩ := r
    exact .tup (s.sqT z) (repL_dp s (by simpa [PyData.canLay0] using c) rl)
  | .dict _, _, c, _ => by simp [PyData.canLay0] at c
theorem repL_dp {P Z H : Hp} {L : List Cell} {K : PySem.W.Frag} (s : SR P Z H L) : ∀ {ds : List D} {vs : List V}, PyData.canLayAll0 ds = true → repL Z ds vs → DpAll K H vs ds
  | [], _, _, r => by rw [repL] at r; subst r; exact .nil
  | d :: ds, _, c, r => by
    rw [repL] at r
    obtain ⟨v, t, rfl, h1, h2⟩ := r
    simp only [PyData.canLayAll0, Bool.and_eq_true] at c
    exact .cons (repV_dp s c.1 h1) (repL_dp s c.2 h2)
end
abbrev shp (d : D) : Bool := SeqAt.shaped d
theorem shp_lay {d : D} (h : shp d = true) : d.canLay0 = true := SeqAt.canLay_of_shaped h
def eqD : D → D → Option SV
  | .str x, .str y => some (.d (.bool (x == y)))
  | a, b => if (shp a && shp b) = true then some (.d (.bool (PyData.eqv a b))) else none
def neD : D → D → Option SV
  | .str x, .str y => some (.d (.bool (!(x == y))))
  | a, b => if (shp a && shp b) = true then some (.d (.bool (!PyData.eqv a b))) else none
theorem eqD_cases (a b : D) : (∃ x y, a = .str x ∧ b = .str y) ∨ (eqD a b = if (shp a && shp b) = true then some (.d (.bool (PyData.eqv a b))) else none) ∧ neD a b = if (shp a && shp b) = true then some (.d (.bool (!PyData.eqv a b))) else none := by
  cases a <;> first | exact .inr ⟨rfl, rfl⟩ | (cases b <;> first | exact .inl ⟨_, _, rfl, rfl⟩ | exact .inr ⟨rfl, rfl⟩)
theorem op_eqDD (hu : X.A.units + 64 < cLine) : OpD X (compareOp .Eq) eqD := by
  intro pins s σ H x y v u Q I rx ry ⟨a, b, r, P, Z, L, hg, sr, ra, rb, k⟩
  rcases eqD_cases a b with ⟨i, j, rfl, rfl⟩ | ⟨e, _⟩
  · cases hg
    rw [repV] at ra rb
    subst ra rb
    refine L2.op_eq pins s σ H _ _ v u Q I rx ry ⟨rfl, ?_⟩
    rw [dec_str]
    exact ends_bool k sr
  · rw [e] at hg
    split at hg
    · rename_i h
      rw [Bool.and_eq_true] at h
      cases hg
      exact op_eqD hu pins s σ H x y v u Q I rx ry ⟨a, b, repV_dp sr (shp_lay h.1) ra, repV_dp sr (shp_lay h.2) rb, h.1, h.2, ends_bool k sr⟩
    · cases hg
theorem op_neDD (hu : X.A.units + 64 < cLine) : OpD X (compareOp .NotEq) neD := by
  intro pins s σ H x y v u Q I rx ry ⟨a, b, r, P, Z, L, hg, sr, ra, rb, k⟩
  rcases eqD_cases a b with ⟨i, j, rfl, rfl⟩ | ⟨_, e⟩
  · cases hg
    rw [repV] at ra rb
    subst ra rb
    refine L2.op_ne pins s σ H _ _ v u Q I rx ry ⟨rfl, ?_⟩
    rw [dec_str]
    exact ends_bool k sr
  · rw [e] at hg
    split at hg
    · rename_i h
      rw [Bool.and_eq_true] at h
      cases hg
      exact op_neD hu pins s σ H x y v u Q I rx ry ⟨a, b, repV_dp sr (shp_lay h.1) ra, repV_dp sr (shp_lay h.2) rb, h.1, h.2, ends_bool k sr⟩
    · cases hg
/-- order: ints, texts -/
def ltD : D → D → Option SV
  | .int i, .int j => some (.d (.bool (decide (i < j))))
  | .str a, .str b => some (.d (.bool (decide (a.cps.toList < b.cps.toList))))
  | _, _ => none
def leD : D → D → Option SV
  | .int i, .int j => some (.d (.bool (decide (i ≤ j))))
  | .str a, .str b => some (.d (.bool (!decide (b.cps.toList < a.cps.toList))))
  | _, _ => none
def gtD : D → D → Option SV
  | .int i, .int j => some (.d (.bool (decide (j < i))))
  | .str a, .str b => some (.d (.bool (decide (b.cps.toList < a.cps.toList))))
  | _, _ => none
def geD : D → D → Option SV
  | .int i, .int j => some (.d (.bool (decide (j ≤ i))))
  | .str a, .str b => some (.d (.bool (!decide (a.cps.toList < b.cps.toList))))
  | _, _ => none
theorem op_ordD {f : Value → Value → Sem Value} {g : D → D → Option SV} {p : Int → Int → Bool} {q : Str → Str → Bool} (h1 : OpR X f (rI0 fun i j => .bl (p i j))) (h2 : OpR X f (fun x y H Q => ∃ i j, x = .str i ∧ y = .str j ∧ Q (.bl (q i j)) H))
    (e1 : ∀ i j, g (.int i) (.int j) = some (.d (.bool (p i j)))) (e2 : ∀ i j, g (.str i) (.str j) = some (.d (.bool (q i j)))) (e3 : ∀ a b r, g a b = some r → (∃ i j, a = .int i ∧ b = .int j) ∨ ∃ i j, a = .str i ∧ b = .str j) : OpD X f g := by
  intro pins s σ H x y v u Q I rx ry ⟨a, b, r, P, Z, L, hg, sr, ra, rb, k⟩
  rcases e3 a b r hg with ⟨i, j, rfl, rfl⟩ | ⟨i, j, rfl, rfl⟩
  · rw [e1] at hg
    cases hg
    rw [repV] at ra rb
    subst ra rb
    exact h1 pins s σ H _ _ v u Q I rx ry ⟨i, j, rfl, rfl, ends_bool k sr⟩
  · rw [e2] at hg
    cases hg
    rw [repV] at ra rb
    subst ra rb
    exact h2 pins s σ H _ _ v u Q I rx ry ⟨i, j, rfl, rfl, ends_bool k sr⟩
theorem op_ltDD : OpD X (compareOp .Lt) ltD := op_ordD op_lt op_lt_str (fun _ _ => rfl) (fun _ _ => rfl) fun a b r h => by
  cases a <;> cases b <;> first | cases h; done | exact .inl ⟨_, _, rfl, rfl⟩ | exact .inr ⟨_, _, rfl, rfl⟩
theorem op_leDD : OpD X (compareOp .LtE) leD := op_ordD op_le op_le_str (fun _ _ => rfl) (fun _ _ => rfl) fun a b r h => by
  cases a <;> cases b <;> first | cases h; done | exact .inl ⟨_, _, rfl, rfl⟩ | exact .inr ⟨_, _, rfl, rfl⟩
theorem op_gtDD : OpD X (compareOp .Gt) gtD := op_ordD op_gt op_gt_str (fun _ _ => rfl) (fun _ _ => rfl) fun a b r h => by
  cases a <;> cases b <;> first | cases h; done | exact .inl ⟨_, _, rfl, rfl⟩ | exact .inr ⟨_, _, rfl, rfl⟩
theorem op_geDD : OpD X (compareOp .GtE) geD := op_ordD op_ge op_ge_str (fun _ _ => rfl) (fun _ _ => rfl) fun a b r h => by
  cases a <;> cases b <;> first | cases h; done | exact .inl ⟨_, _, rfl, rfl⟩ | exact .inr ⟨_, _, rfl, rfl⟩
def isNoneD : D → Bool
  | .none => true
  | _ => false
/-- is None, is True -/
def isD : D → D → Option SV
  | a, .none => some (.d (.bool (isNoneD a)))
  | .bool a, .bool b => some (.d (.bool (decide (a = b))))
  | _, _ => none
def isNotD : D → D → Option SV
  | a, .none => some (.d (.bool (!isNoneD a)))
  | .bool a, .bool b => some (.d (.bool (!decide (a = b))))
  | _, _ => none
theorem repV_none {Z : Hp} {d : D} {v : V} (r : repV Z d v) : decide (v = .non) = isNoneD d := by
  cases d with
  | none => rw [repV] at r; subst r; rfl
  | bool _ => rw [repV] at r; subst r; rfl
  | int _ => rw [repV] at r; subst r; rfl
  | str _ => rw [repV] at r; subst r; rfl
  | list _ => rw [repV] at r; obtain ⟨p, vs, rfl, _⟩ := r; rfl
  | tuple _ => rw [repV] at r; obtain ⟨p, vs, rfl, _⟩ := r; rfl
  | dict _ => rw [repV] at r; obtain ⟨p, vs, rfl, _⟩ := r; rfl
theorem op_isDD : OpD X (compareOp .Is) isD := by
  intro pins s σ H x y v u Q I rx ry ⟨a, b, r, P, Z, L, hg, sr, ra, rb, k⟩
  cases b with
  | none =>
    have hg : some (SV.d (.bool (isNoneD a))) = some r := by cases a <;> exact hg
    cases hg
    rw [repV] at rb
    refine op_isN pins s σ H x y v u Q I rx ry ⟨rb, ?_⟩
    rw [repV_none ra]
    exact ends_bool k sr
  | bool j => cases a with
    | bool i =>
      cases hg
      rw [repV] at ra rb
      exact op_is_bl pins s σ H x y v u Q I rx ry ⟨i, j, ra, rb, ends_bool k sr⟩
    | _ => cases hg
  | _ => cases a <;> cases hg
theorem op_isNotDD : OpD X (compareOp .IsNot) isNotD := by
  intro pins s σ H x y v u Q I rx ry ⟨a, b, r, P, Z, L, hg, sr, ra, rb, k⟩
  cases b with
  | none =>
    have hg : some (SV.d (.bool (!isNoneD a))) = some r := by cases a <;> exact hg
    rw [repV] at rb
    refine op_notN pins s σ H x y v u Q I rx ry ⟨rb, ?_⟩
    rw [repV_none ra]
    cases hg
    exact ends_bool k sr
  | bool j => cases a with
    | bool i =>
      cases hg
      rw [repV] at ra rb
      exact op_isnot_bl pins s σ H x y v u Q I rx ry ⟨i, j, ra, rb, ends_bool k sr⟩
    | _ => cases hg
  | _ => cases a <;> cases hg
end
end DD

set_option Elab.async false
set_option linter.all false
set_option maxRecDepth 100000
/-! DD9: subscripts, slices, calls of built-ins by data. -/
namespace DD
open PySem PySem.Spec PyProof.Rows L2
/-! ## dicts by data -/
def dKey : D → Option Key
  | .int i => some (.inl i)
  | .str x => some (.inr x)
  | _ => none
def lookK (kvs : List (D × D)) (k : Key) : Option D := (kvs.find? fun p => decide (dKey p.1 = some k)).map (·.2)
theorem dKey_keyD (k : Key) : dKey (keyD k) = some k := by cases k <;> rfl
theorem kV_of {Z : Hp} {d : D} {v : V} {k : Key} (h : dKey d = some k) (r : repV Z d v) : v = kV k := by
  cases d with
  | int i => cases h; rw [repV] at r; exact r
  | str x => cases h; rw [repV] at r; exact r
  | _ => cases h
theorem look_rep {Z : Hp} {k : Key} : ∀ {kvs : List (D × D)} {es : List (Key × V)}, repK Z kvs es → (lookK kvs k = none ∧ valV es k = none) ∨ ∃ d v, lookK kvs k = some d ∧ valV es k = some v ∧ repV Z d v
  | [], es, r => by
    rw [repK] at r
    subst r
    exact .inl ⟨rfl, rfl⟩
  | (kd, d) :: kvs, es, r => by
    rw [repK] at r
    obtain ⟨key, v, es', rfl, rfl, h1, h2⟩ := r
    by_cases e : key = k
    · subst e
      refine .inr ⟨d, v, ?_, valV_pos rfl, h1⟩
      unfold lookK
      simp [List.find?_cons, dKey_keyD]
    · have e1 : lookK ((keyD key, d) :: kvs) k = lookK kvs k := by
        unfold lookK
        rw [List.find?_cons, dKey_keyD]
        simp [e]
      rw [e1, valV_neg e]
      exact look_rep h2
section
variable {X : Cx} {E : XK} {pos : Pos} {a b : Expr} {fa fb : M SV}
/-! ## subscripts -/
def atD : D → D → Option SV
  | .list ds, .int i => (atI ds i).map SV.d
  | .tuple ds, .int i => (atI ds i).map SV.d
  | .str x, .int i => if x.length ≤ sizeLine then (atI x.cps.toList i).map (fun c => SV.d (.str ⟨#[c]⟩)) else none
  | .dict kvs, k => (dKey k).bind fun k => (lookK kvs k).map SV.d
  | _, _ => none
theorem atI_rep {Z : Hp} {ds : List D} {vs : List V} {i : Int} {d : D} (r : repL Z ds vs) (h : atI ds i = some d) : ∃ v, atI vs i = some v ∧ repV Z d v := by
  unfold atI at h ⊢
  rw [repL_len r]
  cases e : ixN ds.length i with
  | none => rw [e] at h; cases h
  | some j =>
    rw [e] at h
    exact repL_get r h
theorem de_sub (hu : X.A.units + 1 < cLine) (ha : DE X E a fa) (hb : DE X E b fb) (hs : PlainIx b) : DE X E (.Subscript a b pos) (mOp atD fa fb) := by
  refine PEimp (PEor (pe_ix ix_list ha hb hs) (PEor (pe_ix ix_tup ha hb hs) (PEor (pe_ix ix_str ha hb hs) (pe_dget hu ha hb hs)))) fun σ H Q ⟨sl, res, sl', P, Z, tm, q, at0, k, ex⟩ => ?_
  rcases bndD_inv q with ⟨x, sl1, hf, hx, q1⟩ | ⟨c, y, sl1, hf, e⟩
  · -- the second operand runs, then the answer
    have run2 : ∀ {R : V → V → Hp → Prop} {v : V} {Z1 H1 : Hp}, Ext P Z Z1 → At P Z1 H1 σ sl1 ((some v, .d x.toD) :: tm) →
        (∀ y w Z2 H2 r, atD x.toD y = some r → res = .ok r → At P Z2 H2 σ sl' tm → repV Z2 x.toD v → repV Z2 y w → Ext P Z Z2 → R v w H2) → tOf X.mg E fb σ H1 (fun w H2 => R v w H2) := fun {R v Z1 H1} e1 a1 nx => by
      refine run1D q1 a1 (fun c y ey => ((ex c y ey).ext e1).drop) fun y sl2 w Z2 H2 q2 e2 a2 _ => ?_
      obtain ⟨r, hr, e⟩ := lift_inv q2
      cases e
      exact nx y w Z2 H2 r hr rfl a2.tail.tail (repV_ext e2.ext a1.d) a2.d (e1.trans e2)
    have fin : ∀ {r : SV} {Z2 H2 : Hp} {d : D} {w : V}, res = .ok r → r = .d d → Ext P Z Z2 → At P Z2 H2 σ sl' tm → repV Z2 d w → Q w H2 := fun er e2 ez a2 rv => by
      subst e2
      exact k _ er _ _ _ ez (a2.data rv)
    generalize hg : x.toD = d at run2
    cases d with
    | list ds =>
      refine .inl (tOf_known hf hx at0 fun v Z1 H1 e1 a1 => run2 (R := fun v w H2 => rIxL X.K v w H2 Q) e1 (by rw [hg] at a1; exact a1) fun y w Z2 H2 r hr er a2 rv rw' ez => ?_)
      cases y with
      | int i =>
        dsimp only [atD] at hr
        cases hi : atI ds i with
        | none => rw [hi] at hr; cases hr
        | some d =>
          rw [hi] at hr
          cases hr
          rw [repV] at rv; rw [repV] at rw'
          obtain ⟨p, vs, rfl, z, rl⟩ := rv
          obtain ⟨u, hu, ru⟩ := atI_rep rl hi
          exact ⟨p, vs, i, u, rfl, rw', a2.2.sqL z, hu, fin er rfl ez a2 ru⟩
      | _ => cases hr
    | tuple ds =>
      refine .inr (.inl (tOf_known hf hx at0 fun v Z1 H1 e1 a1 => run2 (R := fun v w H2 => rIxT X.K v w H2 Q) e1 (by rw [hg] at a1; exact a1) fun y w Z2 H2 r hr er a2 rv rw' ez => ?_))
      cases y with
      | int i =>
        dsimp only [atD] at hr
        cases hi : atI ds i with
        | none => rw [hi] at hr; cases hr
        | some d =>
          rw [hi] at hr
          cases hr
          rw [repV] at rv; rw [repV] at rw'
          obtain ⟨p, vs, rfl, z, rl⟩ := rv
          obtain ⟨u, hu, ru⟩ := atI_rep rl hi
          exact ⟨p, vs, i, u, rfl, rw', a2.2.sqT z, hu, fin er rfl ez a2 ru⟩
      | _ => cases hr
    | str t =>
      refine .inr (.inr (.inl (tOf_known hf hx at0 fun v Z1 H1 e1 a1 => run2 (R := fun v w H2 => rIxS v w H2 Q) e1 (by rw [hg] at a1; exact a1) fun y w Z2 H2 r hr er a2 rv rw' ez => ?_)))
      cases y with
      | int i =>
        dsimp only [atD] at hr
        split at hr
        · rename_i hz
          cases hi : atI t.cps.toList i with
          | none => rw [hi] at hr; cases hr
          | some c =>
            rw [hi] at hr
            cases hr
            rw [repV] at rv; rw [repV] at rw'
            exact ⟨t, i, c, rv, rw', hz, hi, fin er rfl ez a2 (by rw [repV])⟩
        · cases hr
      | _ => cases hr
    | dict kvs =>
      refine .inr (.inr (.inr (tOf_known hf hx at0 fun v Z1 H1 e1 a1 => run2 (R := fun x y H2 => ∃ a v, x = .ref a ∧ DGet H2 a y (some v) ∧ Q v H2) e1 (by rw [hg] at a1; exact a1) fun y w Z2 H2 r hr er a2 rv rw' ez => ?_)))
      dsimp only [atD] at hr
      cases hk : dKey y with
      | none => rw [hk] at hr; cases hr
      | some key =>
        rw [hk] at hr
        dsimp only [Option.bind] at hr
        cases hl : lookK kvs key with
        | none => rw [hl] at hr; cases hr
        | some d =>
          rw [hl] at hr
          cases hr
          rw [repV] at rv
          obtain ⟨p, es, rfl, z, rl⟩ := rv
          rcases look_rep (k := key) rl with ⟨h1, _⟩ | ⟨d', u, h1, h2, ru⟩
          · rw [hl] at h1; cases h1
          · rw [hl] at h1
            cases h1
            exact ⟨p, u, rfl, .inl ⟨es, key, a2.2.zed p _ z, kV_of hk rw', h2.symm⟩, fin er rfl ez a2 ru⟩
    | _ =>
      refine .inl (tOf_known hf hx at0 fun v Z1 H1 e1 a1 => run2 (R := fun v w H2 => rIxL X.K v w H2 Q) e1 (by rw [hg] at a1; exact a1) fun y w Z2 H2 r hr er a2 rv rw' ez => ?_)
      cases y <;> cases hr
  · cases e
    exact .inl (tOf_ex hf at0 (ex _ _ rfl))

/-! ## built-ins called -/
def rOfL (g : List D → Option SV) : List V → Hp → VK → Prop := fun xs H Q => ∃ ds r P Z L, g ds = some r ∧ SR P Z H L ∧ repL Z ds xs ∧ Ends1 P Z L Q r
def CallD (X : Cx) (f : Value) (g : List D → Option SV) : Prop := CallR X f (rOfL g)
def mB (g : List D → Option SV) (fa : M (List SV)) : M SV := bnd fa fun xs => if SV.fulls xs = true then lift (g (SV.toDs xs)) else fail
theorem SR.freezeAll {P H : Hp} : ∀ {vs : List V} {xs : List SV} {Z : Hp} {L : List Cell}, vs.length = xs.length → SV.fulls xs = true → SR P Z H (zipA vs xs ++ L) → ∃ Z', Ext P Z Z' ∧ repL Z' (SV.toDs xs) vs ∧ SR P Z' H L
  | [], [], Z, L, _, _, s => ⟨Z, Ext.refl _ _, by rw [SV.toDs, repL], s⟩
  | v :: vs, x :: xs, Z, L, hl, f, s => by
    rw [SV.fulls, Bool.and_eq_true] at f
    obtain ⟨Z1, e1, s1⟩ := SR.freeze (v := v) (x := x) (L := zipA vs xs ++ L) s f.1
    obtain ⟨Z2, e2, r2, s2⟩ := SR.freezeAll (by simpa using hl) f.2 s1.tail
    exact ⟨Z2, e1.trans e2, by rw [SV.toDs, repL]; exact ⟨v, vs, rfl, repV_ext e2.ext s1.get_d, r2⟩, s2⟩
  | [], _ :: _, _, _, hl, _, _ => by simp at hl
  | _ :: _, [], _, _, hl, _, _ => by simp at hl
theorem tCB_of {g : List D → Option SV} {fa : M (List SV)} {σ : St} {H : Hp} {Q : VK} (h : tOf X.mg E (mB g fa) σ H Q) : tCB (rOfL g) (taOf X.mg E fa) σ H Q := by
  obtain ⟨sl, res, sl', P, Z, tm, q, a, k, ex⟩ := h
  refine runA q a ex fun xs sl1 vs Z1 H1 q1 l1 e1 a1 _ => ?_
  split at q1
  · rename_i f
    obtain ⟨r, hr, e⟩ := lift_inv q1
    cases e
    have s1 : SR P Z1 H1 (zipA vs xs ++ (tm ++ List.zip σ sl')) := a1.2.perm (by rw [List.append_assoc]; exact List.Perm.append_right _ (List.reverse_perm _))
    obtain ⟨Z2, e2, rl, s2⟩ := SR.freezeAll l1 f s1
    exact ⟨SV.toDs xs, r, P, Z2, _, hr, s2, rl, fun v Z' H' e' s' => k _ rfl v Z' H' ((e1.trans e2).trans e') ⟨a1.1, s'⟩⟩
  · cases q1
theorem de_callB {x : Str} {p : Pos} {e : Expr} {es : List Expr} {id : String} {g : List D → Option SV} {fa : M (List SV)} (hc : CallD X (.builtin id) g) (hg : Gl X x) (hm : X.mg x = none) (hv : bootBuiltins x = some (.builtin id)) (ha : DA X E (e :: es) fa) (hn : x ≠ "__name__" := by decide) (hdb : (x == ("__debug__" : Str)) = false := by decide)
    (he : starEach (e :: es) X.env = (false, eval e X.env) :: starEach es X.env := by rfl) (hpl : (backTo pos (starEach es X.env)).any (·.1) = false := by rfl) : DE X E (.Call (.Name x p) (e :: es) [] pos) (mB g fa) :=
  PEimp (pe_callB hc hg hm hv ha hn hdb he hpl) fun _ _ _ => tCB_of
theorem de_callTy {x : Str} {p : Pos} {e : Expr} {es : List Expr} {T : String} {g : List D → Option SV} {fa : M (List SV)} (hc : CallD X (.type T) g) (hg : Gl X x) (hm : X.mg x = none) (hv : bootBuiltins x = some (.type T)) (ha : DA X E (e :: es) fa) (hn : x ≠ "__name__" := by decide) (hdb : (x == ("__debug__" : Str)) = false := by decide)
    (he : starEach (e :: es) X.env = (false, eval e X.env) :: starEach es X.env := by rfl) (hpl : (backTo pos (starEach es X.env)).any (·.1) = false := by rfl) : DE X E (.Call (.Name x p) (e :: es) [] pos) (mB g fa) :=
  PEimp (pe_callTy hc hg hm hv ha hn hdb he hpl) fun _ _ _ => tCB_of

theorem repL1 {Z : Hp} {d : D} {xs : List V} (r : repL Z [d] xs) : ∃ v, xs = [v] ∧ repV Z d v := by
  rw [repL] at r
  obtain ⟨v, t, rfl, h1, h2⟩ := r
  rw [repL] at h2
  subst h2
  exact ⟨v, rfl, h1⟩
theorem repL2 {Z : Hp} {d d' : D} {xs : List V} (r : repL Z [d, d'] xs) : ∃ v w, xs = [v, w] ∧ repV Z d v ∧ repV Z d' w := by
  rw [repL] at r
  obtain ⟨v, t, rfl, h1, h2⟩ := r
  obtain ⟨w, rfl, h3⟩ := repL1 h2
  exact ⟨v, w, rfl, h1, h3⟩
/-- len -/
def lenD : List D → Option SV
  | [.list ds] => some (.d (.int ds.length))
  | [.tuple ds] => some (.d (.int ds.length))
  | [.dict kvs] => some (.d (.int kvs.length))
  | [.str x] => if x.length ≤ sizeLine then some (.d (.int x.length)) else none
  | _ => none
theorem repK_len {Z : Hp} : ∀ {kvs : List (D × D)} {es : List (Key × V)}, repK Z kvs es → es.length = kvs.length
  | [], _, r => by rw [repK] at r; subst r; rfl
  | (_, _) :: kvs, _, r => by
    rw [repK] at r
    obtain ⟨key, v, es', rfl, _, _, h2⟩ := r
    simp [repK_len h2]
theorem cd_len : CallD X (.builtin "len") lenD := by
  intro pins s σ H xs us Q I rv ⟨ds, r, P, Z, L, hg, sr, rl, k⟩
  unfold lenD at hg
  split at hg
  · cases hg
    obtain ⟨v, rfl, r1⟩ := repL1 rl
    rw [repV] at r1
    obtain ⟨p, vs, rfl, z, r2⟩ := r1
    have kk := ends_int k sr
    rw [← repL_len r2] at kk
    exact call_len_seq pins s σ H _ us Q I rv ⟨p, vs, rfl, .inl (sr.sqL z), kk⟩
  · cases hg
    obtain ⟨v, rfl, r1⟩ := repL1 rl
    rw [repV] at r1
    obtain ⟨p, vs, rfl, z, r2⟩ := r1
    have kk := ends_int k sr
    rw [← repL_len r2] at kk
    exact call_len_seq pins s σ H _ us Q I rv ⟨p, vs, rfl, .inr (sr.sqT z), kk⟩
  · cases hg
    obtain ⟨v, rfl, r1⟩ := repL1 rl
    rw [repV] at r1
    obtain ⟨p, es, rfl, z, r2⟩ := r1
    have kk := ends_int k sr
    rw [← repK_len r2] at kk
    obtain ⟨u, rfl, ru⟩ := vals1 rv
    cases ru
    exact d_len I (sr.zed p _ z) fun t s' I' => ⟨.int es.length, H, I', ⟨t, rfl⟩, kk⟩
  · split at hg
    · rename_i hz
      cases hg
      obtain ⟨v, rfl, r1⟩ := repL1 rl
      rw [repV] at r1
      subst r1
      exact call_len_str pins s σ H _ us Q I rv ⟨_, rfl, hz, ends_int k sr⟩
    · cases hg
  · cases hg
/-- ints of a list -/
def intsOf : List D → Option (List Int)
  | [] => some []
  | .int i :: r => (intsOf r).map (i :: ·)
  | _ :: _ => none
theorem intsOf_map : ∀ ns : List Int, intsOf (ns.map PyData.int) = some ns
  | [] => rfl
  | n :: ns => by simp [intsOf, intsOf_map ns]
theorem intsOf_rep {Z : Hp} : ∀ {ds : List D} {ns : List Int} {vs : List V}, intsOf ds = some ns → repL Z ds vs → vs = ns.map V.int
  | [], _, _, h, r => by
    cases h
    rw [repL] at r
    exact r
  | .int i :: ds, ns, _, h, r => by
    rw [intsOf] at h
    cases h1 : intsOf ds with
    | none => rw [h1] at h; cases h
    | some ms =>
      rw [h1] at h
      cases h
      rw [repL] at r
      obtain ⟨v, t, rfl, h2, h3⟩ := r
      rw [repV] at h2
      rw [h2, intsOf_rep h1 h3]
      rfl
  | .none :: _, _, _, h, _ => by cases h
  | .bool _ :: _, _, _, h, _ => by cases h
  | .str _ :: _, _, _, h, _ => by cases h
  | .list _ :: _, _, _, h, _ => by cases h
  | .tuple _ :: _, _, _, h, _ => by cases h
  | .dict _ :: _, _, _, h, _ => by cases h
def maxD : List D → Option SV
  | [.int i, .int j] => some (.d (.int (if j > i then j else i)))
  | [.list ds] => (intsOf ds).bind fun ns => ns.max?.map fun m => .d (.int m)
  | _ => none
def minD : List D → Option SV
  | [.int i, .int j] => some (.d (.int (if j < i then j else i)))
  | [.list ds] => (intsOf ds).bind fun ns => ns.min?.map fun m => .d (.int m)
  | _ => none
theorem cd_max (hc : X.calm = true) : CallD X (.builtin "max") maxD := by
  intro pins s σ H xs us Q I rv ⟨ds, r, P, Z, L, hg, sr, rl, k⟩
  unfold maxD at hg
  split at hg
  · cases hg
    obtain ⟨v, w, rfl, r1, r2⟩ := repL2 rl
    rw [repV] at r1; rw [repV] at r2
    subst r1 r2
    exact call_max2 hc pins s σ H _ us Q I rv ⟨_, _, rfl, ends_int k sr⟩
  · rename_i es
    cases hn : intsOf es with
    | none => rw [hn] at hg; cases hg
    | some ns =>
      rw [hn] at hg
      dsimp only [Option.bind] at hg
      cases hm : ns.max? with
      | none => rw [hm] at hg; cases hg
      | some m =>
        rw [hm] at hg
        cases hg
        obtain ⟨v, rfl, r1⟩ := repL1 rl
        rw [repV] at r1
        obtain ⟨p, vs, rfl, z, r2⟩ := r1
        rw [intsOf_rep hn r2] at z
        have hm2 := List.max?_eq_some_iff.mp hm
        refine cr_max hc pins s σ H _ us Q I rv ⟨p, ns, rfl, sr.sqL z, List.length_pos_of_mem hm2.1, fun m' h1 h2 => ?_⟩
        have : m' = m := Int.le_antisymm (hm2.2 m' h1) (h2 m hm2.1)
        subst this
        exact ends_int k sr
  · cases hg
theorem cd_min (hc : X.calm = true) : CallD X (.builtin "min") minD := by
  intro pins s σ H xs us Q I rv ⟨ds, r, P, Z, L, hg, sr, rl, k⟩
  unfold minD at hg
  split at hg
  · cases hg
    obtain ⟨v, w, rfl, r1, r2⟩ := repL2 rl
    rw [repV] at r1; rw [repV] at r2
    subst r1 r2
    exact call_min2 hc pins s σ H _ us Q I rv ⟨_, _, rfl, ends_int k sr⟩
  · rename_i es
    cases hn : intsOf es with
    | none => rw [hn] at hg; cases hg
    | some ns =>
      rw [hn] at hg
      dsimp only [Option.bind] at hg
      cases hm : ns.min? with
      | none => rw [hm] at hg; cases hg
      | some m =>
        rw [hm] at hg
        cases hg
        obtain ⟨v, rfl, r1⟩ := repL1 rl
        rw [repV] at r1
        obtain ⟨p, vs, rfl, z, r2⟩ := r1
        rw [intsOf_rep hn r2] at z
        have hm2 := List.min?_eq_some_iff.mp hm
        refine cr_min hc pins s σ H _ us Q I rv ⟨p, ns, rfl, sr.sqL z, List.length_pos_of_mem hm2.1, fun m' h1 h2 => ?_⟩
        have : m' = m := Int.le_antisymm (h2 m hm2.1) (hm2.2 m' h1)
        subst this
        exact ends_int k sr
  · cases hg
def sumD : List D → Option SV
  | [.list ds] => (intsOf ds).map fun ns => .d (.int ns.sum)
  | _ => none
theorem cd_sum (hc : X.calm = true) : CallD X (.builtin "sum") sumD := by
  intro pins s σ H xs us Q I rv ⟨ds, r, P, Z, L, hg, sr, rl, k⟩
  unfold sumD at hg
  split at hg
  · rename_i es
    cases hn : intsOf es with
    | none => rw [hn] at hg; cases hg
    | some ns =>
      rw [hn] at hg
      cases hg
      obtain ⟨v, rfl, r1⟩ := repL1 rl
      rw [repV] at r1
      obtain ⟨p, vs, rfl, z, r2⟩ := r1
      rw [intsOf_rep hn r2] at z
      exact cr_sum hc pins s σ H _ us Q I rv ⟨p, ns, rfl, sr.sqL z, ends_int k sr⟩
  · cases hg
def intCD : List D → Option SV
  | [.int i] => some (.d (.int i))
  | [.bool b] => some (.d (.int (if b then 1 else 0)))
  | _ => none
theorem cd_int : CallD X (.type "int") intCD := by
  intro pins s σ H xs us Q I rv ⟨ds, r, P, Z, L, hg, sr, rl, k⟩
  unfold intCD at hg
  split at hg
  · cases hg
    obtain ⟨v, rfl, r1⟩ := repL1 rl
    rw [repV] at r1
    exact call_int1 pins s σ H _ us Q I rv (.inl ⟨_, by rw [r1], ends_int k sr⟩)
  · cases hg
    obtain ⟨v, rfl, r1⟩ := repL1 rl
    rw [repV] at r1
    exact call_int1 pins s σ H _ us Q I rv (.inr ⟨_, by rw [r1], ends_int k sr⟩)
  · cases hg
def boolsOf : List D → Option (List Bool)
  | [] => some []
  | .bool i :: r => (boolsOf r).map (i :: ·)
  | _ :: _ => none
theorem boolsOf_map : ∀ ns : List Bool, boolsOf (ns.map PyData.bool) = some ns
  | [] => rfl
  | n :: ns => by simp [boolsOf, boolsOf_map ns]
theorem boolsOf_rep {Z : Hp} : ∀ {ds : List D} {ns : List Bool} {vs : List V}, boolsOf ds = some ns → repL Z ds vs → vs = ns.map V.bl
  | [], _, _, h, r => by
    cases h
    rw [repL] at r
    exact r
  | .bool i :: ds, ns, _, h, r => by
    rw [boolsOf] at h
    cases h1 : boolsOf ds with
    | none => rw [h1] at h; cases h
    | some ms =>
      rw [h1] at h
      cases h
      rw [repL] at r
      obtain ⟨v, t, rfl, h2, h3⟩ := r
      rw [repV] at h2
      rw [h2, boolsOf_rep h1 h3]
      rfl
  | .none :: _, _, _, h, _ => by cases h
  | .int _ :: _, _, _, h, _ => by cases h
  | .str _ :: _, _, _, h, _ => by cases h
  | .list _ :: _, _, _, h, _ => by cases h
  | .tuple _ :: _, _, _, h, _ => by cases h
  | .dict _ :: _, _, _, h, _ => by cases h
def allD : List D → Option SV
  | [.list ds] => (boolsOf ds).map fun bs => .d (.bool (bs.all id))
  | _ => none
theorem cd_all (hc : X.calm = true) : CallD X (.builtin "all") allD := by
  intro pins s σ H xs us Q I rv ⟨ds, r, P, Z, L, hg, sr, rl, k⟩
  unfold allD at hg
  split at hg
  · rename_i es
    cases hn : boolsOf es with
    | none => rw [hn] at hg; cases hg
    | some ns =>
      rw [hn] at hg
      cases hg
      obtain ⟨v, rfl, r1⟩ := repL1 rl
      rw [repV] at r1
      obtain ⟨p, vs, rfl, z, r2⟩ := r1
      rw [boolsOf_rep hn r2] at z
      exact cr_all hc pins s σ H _ us Q I rv ⟨p, ns, rfl, sr.sqL z, ends_bool k sr⟩
  · cases hg
def anyD : List D → Option SV
  | [.list ds] => (boolsOf ds).map fun bs => .d (.bool (bs.any id))
  | _ => none
theorem cd_any (hc : X.calm = true) : CallD X (.builtin "any") anyD := by
  intro pins s σ H xs us Q I rv ⟨ds, r, P, Z, L, hg, sr, rl, k⟩
  unfold anyD at hg
  split at hg
  · rename_i es
    cases hn : boolsOf es with
    | none => rw [hn] at hg; cases hg
    | some ns =>
      rw [hn] at hg
      cases hg
      obtain ⟨v, rfl, r1⟩ := repL1 rl
      rw [repV] at r1
      obtain ⟨p, vs, rfl, z, r2⟩ := r1
      rw [boolsOf_rep hn r2] at z
      exact cr_any hc pins s σ H _ us Q I rv ⟨p, ns, rfl, sr.sqL z, ends_bool k sr⟩
  · cases hg
/-- list(x) -/
def listD : List D → Option SV
  | [.list ds] => some (.lst (ds.map SV.d))
  | [.tuple ds] => some (.lst (ds.map SV.d))
  | [.dict kvs] => some (.lst ((kvs.map (·.1)).map SV.d))
  | _ => none
theorem repK_keys {Z : Hp} : ∀ {kvs : List (D × D)} {es : List (Key × V)}, repK Z kvs es → repL Z (kvs.map (·.1)) (es.map fun kv => kV kv.1)
  | [], _, r => by rw [repK] at r; subst r; show repL Z [] []; rw [repL]
  | (k, _) :: kvs, _, r => by
    rw [repK] at r
    obtain ⟨key, v, es', rfl, rfl, _, h2⟩ := r
    show repL Z (keyD key :: kvs.map (·.1)) (kV key :: es'.map fun kv => kV kv.1)
    rw [repL]
    exact ⟨_, _, rfl, by cases key <;> (show repV Z _ _; simp only [keyD, kV]; rw [repV]), repK_keys h2⟩
theorem cd_list (hc : X.calm = true) : CallD X (.type "list") listD := by
  intro pins s σ H xs us Q I rv ⟨ds, r, P, Z, L, hg, sr, rl, k⟩
  unfold listD at hg
  split at hg
  · cases hg
    obtain ⟨v, rfl, r1⟩ := repL1 rl
    rw [repV] at r1
    obtain ⟨p, vs, rfl, z, r2⟩ := r1
    exact call_list_of pins s σ H _ us Q I rv ⟨p, vs, rfl, .inl (sr.sqL z), fun q hq => ends_lst k sr hq r2⟩
  · cases hg
    obtain ⟨v, rfl, r1⟩ := repL1 rl
    rw [repV] at r1
    obtain ⟨p, vs, rfl, z, r2⟩ := r1
    exact call_list_of pins s σ H _ us Q I rv ⟨p, vs, rfl, .inr (sr.sqT z), fun q hq => ends_lst k sr hq r2⟩
  · cases hg
    obtain ⟨v, rfl, r1⟩ := repL1 rl
    rw [repV] at r1
    obtain ⟨p, es, rfl, z, r2⟩ := r1
    exact call_listD hc pins s σ H _ us Q I rv ⟨p, es, rfl, sr.zed p _ z, fun q hq => ends_lst k sr hq (repK_keys r2)⟩
  · cases hg
end
end DD

set_option Elab.async false
set_option linter.all false
set_option maxRecDepth 100000
/-! DD10: chains, isinstance, in, slices, dicts made. -/
namespace DD
open PySem PySem.Spec PyProof.Rows L2
section
variable {X : Cx} {E : XK} {pos : Pos} {a b c e : Expr} {fa fb fc f : M SV}
/-! ## a < b < c -/
def boolSV : SV → Option Bool
  | .d (.bool b) => some b
  | _ => none
def mChain (g g' : D → D → Option SV) (fa fb fc : M SV) : M SV := bndD fa fun x => bndD fb fun y => bnd (lift ((g x y).bind boolSV)) fun b => if b = true then bndD fc fun z => lift (g' y z) else ret (.d (.bool false))
theorem tChain_of {g g' : D → D → Option SV} {σ : St} {H : Hp} {Q : VK} (h : tOf X.mg E (mChain g g' fa fb fc) σ H Q) : tChain (rOf g) (rOf g') (tOf X.mg E fa) (tOf X.mg E fb) (tOf X.mg E fc) σ H Q := by
  obtain ⟨sl, res, sl', P, Z, tm, q, a, k, ex⟩ := h
  refine run1D q a ex fun x sl1 v Z1 H1 q1 e1 a1 ex1 => ?_
  refine run1D q1 a1 ex1 fun y sl2 u Z2 H2 q2 e2 a2 ex2 => ?_
  rcases bnd_inv q2 with ⟨b, s3, h3, q3⟩ | ⟨_, _, _, h3, _⟩
  · obtain ⟨b', hb, eb⟩ := lift_inv h3
    have e3 : b = b' ∧ s3 = sl2 := by cases eb; exact ⟨rfl, rfl⟩
    obtain ⟨rfl, rfl⟩ := e3
    clear eb
    cases hg : g x y with
    | none => rw [hg] at hb; cases hb
    | some r =>
      rw [hg] at hb
      have er : r = .d (.bool b) := by
        cases r with
        | d z => cases z with
          | bool z => cases hb; rfl
          | _ => cases hb
        | _ => cases hb
      subst er
      have ry := a2.d
      refine ⟨x, y, .d (.bool b), P, Z2, (some u, .d y) :: (tm ++ List.zip σ s3), hg, (a2.2.perm (.swap _ _ _)).tail, repV_ext e2.ext a1.d, ry, fun w Z3 H3 e3 s3' => ⟨b, ?_, ?_⟩⟩
      · have := s3'.get_d
        rw [repV] at this
        exact this
      · cases b with
        | false =>
          refine iteF ?_
          have q3 : some (Res.ok (SV.d (.bool false)), s3) = some (res, sl') := by simpa [ret] using q3
          cases q3
          have a3 : At P Z3 H3 σ sl' tm := ⟨a2.1, s3'.tail.tail⟩
          exact k _ rfl _ _ _ ((e1.trans e2).trans e3) (a3.data (by rw [repV]))
        | true =>
          have q3 : bndD fc (fun z => lift (g' y z)) s3 = some (res, sl') := by simpa using q3
          have a3 : At P Z3 H3 σ s3 ((some u, .d y) :: tm) := ⟨a2.1, s3'.tail⟩
          refine iteT (run1D q3 a3 (fun c z ez => ((ex c z ez).ext ((e1.trans e2).trans e3)).drop) fun z sl4 w4 Z4 H4 q4 e4 a4 _ => ?_)
          obtain ⟨r4, hr4, ee⟩ := lift_inv q4
          cases ee
          exact ⟨y, z, r4, P, Z4, tm ++ List.zip σ sl', hr4, a4.tail.tail.2, repV_ext e4.ext a3.d, a4.d, fun w5 Z5 H5 e5 s5 => k _ rfl w5 Z5 H5 (((e1.trans e2).trans e3).trans (e4.trans e5)) ⟨a4.1, s5⟩⟩
  · unfold lift at h3
    split at h3 <;> cases h3
theorem de_chain {op op' : CmpOp} {g g' : D → D → Option SV} (ho : OpD X (compareOp op) g) (ho' : OpD X (compareOp op') g') (ha : DE X E a fa) (hb : DE X E b fb) (hc : DE X E c fc) (hm : lastMarks [op, op'] [b, c] = false := by with_unfolding_all rfl) :
    DE X E (.Compare a [op, op'] [b, c] pos) (mChain g g' fa fb fc) := PEimp (pe_chain ho ho' ha hb hc hm) fun _ _ _ => tChain_of
theorem dt_chain {op op' : CmpOp} {g g' : D → D → Option SV} (ho : OpD X (compareOp op) g) (ho' : OpD X (compareOp op') g') (ha : DE X E a fa) (hb : DE X E b fb) (hc : DE X E c fc) (hm : lastMarks [op, op'] [b, c] = false := by with_unfolding_all rfl) :
    DT X E (.Compare a [op, op'] [b, c] pos) (mTest (mChain g g' fa fb fc)) := PTimp (pt_chain ho ho' ha hb hc hm) fun _ _ _ h => tChain_of (tTest_of h)

/-! ## isinstance -/
def tyName : D → String
  | .none => "NoneType"
  | .bool _ => "bool"
  | .int _ => "int"
  | .str _ => "str"
  | .list _ => "list"
  | .tuple _ => "tuple"
  | .dict _ => "dict"
def isiN (n T : String) : Bool := n == T || (n == "bool" && T == "int")
def isiD (T : String) (d : D) : Bool := isiN (tyName d) T
def tyNames : List String := ["NoneType", "bool", "int", "str", "list", "tuple", "dict"]
theorem tyName_mem (d : D) : tyName d ∈ tyNames := by cases d <;> simp [tyName, tyNames]
theorem repV_ty {P Z H : Hp} {L : List Cell} {K : PySem.W.Frag} {d : D} {v : V} (s : SR P Z H L) (r : repV Z d v) : TyX K H v (.type (tyName d)) := by
  cases d with
  | none => rw [repV] at r; subst r; exact .base .non
  | bool _ => rw [repV] at r; subst r; exact .base (.bl _)
  | int _ => rw [repV] at r; subst r; exact .base (.int _)
  | str _ => rw [repV] at r; subst r; exact .base (.str _)
  | list _ =>
    rw [repV] at r
    obtain ⟨p, vs, rfl, z, _⟩ := r
    rcases s.zed p _ z with h | ⟨o, h⟩
    · exact .base (.lst h)
    · exact .base (.frz h)
  | tuple _ =>
    rw [repV] at r
    obtain ⟨p, vs, rfl, z, _⟩ := r
    rcases s.zed p _ z with h | ⟨o, h⟩
    · exact .base (.tup h)
    · exact .fTuple h
  | dict _ =>
    rw [repV] at r
    obtain ⟨p, vs, rfl, z, _⟩ := r
    rcases s.zed p _ z with h | ⟨o, h⟩
    · exact .base (.dK h)
    · exact .fDict h
def KitOk (T : String) : Prop := ∀ n ∈ tyNames, kitB n T = some (isiN n T)
theorem kit_of_names {T : String} (h : (tyNames.all fun n => kitB n T == some (isiN n T)) = true) : KitOk T := fun n hn => by
  have := List.all_eq_true.mp h n hn
  exact eq_of_beq this
theorem kit_int : KitOk "int" := kit_of_names (by decide +kernel)
theorem kit_bool : KitOk "bool" := kit_of_names (by decide +kernel)
theorem kit_str : KitOk "str" := kit_of_names (by decide +kernel)
theorem kit_list : KitOk "list" := kit_of_names (by decide +kernel)
theorem kit_tuple : KitOk "tuple" := kit_of_names (by decide +kernel)
theorem kit_dict : KitOk "dict" := kit_of_names (by decide +kernel)
def isiM (T : String) (d : D) : Option SV := some (.d (.bool (isiD T d)))
theorem de_isi {T : Str} {Tn : String} {p p' : Pos} (kit : KitOk Tn) (hg : Gl X "isinstance") (hm : X.mg "isinstance" = none) (he : DE X E e f) (hgT : Gl X T) (hmT : X.mg T = none) (hvT : bootBuiltins T = some (.type Tn)) (hnT : T ≠ "__name__" := by decide) (hdT : (T == ("__debug__" : Str)) = false := by decide)
    (hs1 : starEach [e, .Name T p'] X.env = (false, eval e X.env) :: starEach [.Name T p'] X.env := by rfl) (hs2 : starEach [.Name T p'] X.env = (false, eval (.Name T p') X.env) :: starEach [] X.env := by rfl) (hpl : (backTo pos (starEach [.Name T p'] X.env)).any (·.1) = false := by rfl) :
    DE X E (.Call (.Name "isinstance" p) [e, .Name T p'] [] pos) (mUn (isiM Tn) f) := by
  refine PEimp (pe_callB call_isi hg hm PyProof.Rows.boot_isinstance (pa_cons he (pa_cons (pe_bltn (v := .ty Tn) hgT hmT hvT rfl hnT hdT) pa_nil hs2) hs1) (by decide) (by decide) hs1 hpl) fun σ H Q ⟨sl, res, sl', P, Z, tm, q, a, k, ex⟩ => ?_
  refine run1D q a ex fun x sl1 v Z1 H1 q1 e1 a1 _ => ?_
  obtain ⟨r, hr, ee⟩ := lift_inv q1
  cases ee
  cases hr
  exact ⟨v, .ty Tn, .type (tyName x), .type Tn, isiD Tn x, rfl, .ty Tn, repV_ty a1.2 a1.d, kit_ty (kit _ (tyName_mem x)), k _ rfl _ Z1 H1 e1 (a1.tail.data (by rw [repV]))⟩
theorem SR.junk {P Z H : Hp} {L : List Cell} {p : Addr} {o : HO} (s : SR P Z H L) (hp : H p = none) : SR P Z (upd H p o) L := by
  obtain ⟨own, r, nd, k⟩ := s.ex
  have ne : ∀ a u, H a = some u → a ≠ p := fun a u h z => by rw [z, hp] at h; cases h
  refine ⟨fun a u h => by rw [upd_ne (ne a u (s.prot a u h))]; exact s.prot a u h, fun a u h => ?_, own, repA_keep (Sub0.refl _) (fun a ha => ?_) r, nd, k⟩
  · rcases s.zed a u h with q | ⟨ob, q⟩
    · exact .inl (by rw [upd_ne (ne _ _ q)]; exact q)
    · exact .inr ⟨ob, by rw [upd_ne (ne _ _ q)]; exact q⟩
  · obtain ⟨u, hu⟩ := repA_there r a ha
    exact upd_ne (ne _ _ hu)
/-- isinstance(x, (S, T)) -/
def isiM2 (S T : String) (d : D) : Option SV := some (.d (.bool (isiD S d || isiD T d)))
theorem de_isi2 {S T : Str} {Sn Tn : String} {p p' p2 p3 : Pos} {k2 : Nat} (kitS : KitOk Sn) (kit : KitOk Tn) (hg : Gl X "isinstance") (hm : X.mg "isinstance" = none) (he : DE X E e f) (hgS : Gl X S) (hmS : X.mg S = none) (hvS : bootBuiltins S = some (.type Sn)) (hgT : Gl X T) (hmT : X.mg T = none) (hvT : bootBuiltins T = some (.type Tn))
    (hnS : S ≠ "__name__" := by decide) (hdS : (S == ("__debug__" : Str)) = false := by decide) (hnT : T ≠ "__name__" := by decide) (hdT : (T == ("__debug__" : Str)) = false := by decide)
    (hs1 : starEach [e, .Tuple [.Name S p2, .Name T p3] k2 p'] X.env = (false, eval e X.env) :: starEach [.Tuple [.Name S p2, .Name T p3] k2 p'] X.env := by rfl)
    (hs2 : starEach [.Tuple [.Name S p2, .Name T p3] k2 p'] X.env = (false, eval (.Tuple [.Name S p2, .Name T p3] k2 p') X.env) :: starEach [] X.env := by rfl)
    (hs3 : starEach [.Name S p2, .Name T p3] X.env = (false, eval (.Name S p2) X.env) :: starEach [.Name T p3] X.env := by rfl) (hs4 : starEach [.Name T p3] X.env = (false, eval (.Name T p3) X.env) :: starEach [] X.env := by rfl)
    (hpl : (backTo pos (starEach [.Tuple [.Name S p2, .Name T p3] k2 p'] X.env)).any (·.1) = false := by rfl) :
    DE X E (.Call (.Name "isinstance" p) [e, .Tuple [.Name S p2, .Name T p3] k2 p'] [] pos) (mUn (isiM2 Sn Tn) f) := by
  refine PEimp (pe_callB call_isiT hg hm PyProof.Rows.boot_isinstance (pa_cons he (pa_cons (pe_tup (pa_cons (pe_bltn (v := .ty Sn) hgS hmS hvS rfl hnS hdS) (pa_cons (pe_bltn (v := .ty Tn) hgT hmT hvT rfl hnT hdT) pa_nil hs4) hs3)) pa_nil hs2) hs1) (by decide) (by decide) hs1 hpl) fun σ H Q ⟨sl, res, sl', P, Z, tm, q, a, k, ex⟩ => ?_
  refine run1D q a ex fun x sl1 v Z1 H1 q1 e1 a1 _ => ?_
  obtain ⟨r, hr, ee⟩ := lift_inv q1
  cases ee
  cases hr
  refine ⟨by show 2 ≤ sizeLine; decide, fun t ht => ?_⟩
  have s2 : SR P Z1 (upd H1 t (.tup [V.ty Sn, V.ty Tn])) ((some v, .d x) :: (tm ++ List.zip σ sl')) := a1.2.junk ht
  refine ⟨v, t, [.ty Sn, .ty Tn], .type (tyName x), [.type Sn, .type Tn], isiD Sn x || isiD Tn x, rfl, upd_same, .cons (.ty Sn) (.cons (.ty Tn) .nil), repV_ty s2 s2.get_d, ?_, k _ rfl _ Z1 _ e1 (At.tail (c := (some v, .d x)) ⟨a1.1, s2⟩ |>.data (by rw [repV]))⟩
  have h1 : PySem.W.kitOne X.K (.type (tyName x)) (.type Sn) = some (isiD Sn x) := kit_ty (kitS _ (tyName_mem x))
  have h2 : PySem.W.kitOne X.K (.type (tyName x)) (.type Tn) = some (isiD Tn x) := kit_ty (kit _ (tyName_mem x))
  refine kitAny_cons h1 (fun e => kitAny_cons h2 (fun e' => kitAny_nil.trans ?_) (fun e' => ?_)) (fun e => ?_)
  · rw [e, e']; rfl
  · rw [e, e']; rfl
  · rw [e]; rfl

/-! ## in -/
def inD : D → D → Option SV
  | x, .list ds => if (shp x && shp (.list ds)) = true then some (.d (.bool (ds.any fun z => PyData.eqv z x))) else none
  | x, .dict kvs => (dKey x).map fun k => .d (.bool (lookK kvs k).isSome)
  | _, _ => none
def notInD (x y : D) : Option SV := (inD x y).bind fun r => (boolSV r).map fun b => .d (.bool (!b))
theorem op2_kk {R : V → V → Hp → Prop} {x y : SV} {sl sl1 sl2 : List SV} {P Z H : Hp} {σ : St} {tm : List Cell} (hf : fa sl = some (.ok x, sl1)) (hx : x.full = true) (hb : fb sl1 = some (.ok y, sl2)) (hy : y.full = true) (at0 : At P Z H σ sl tm)
    (nx : ∀ v w Z2 H2, At P Z2 H2 σ sl2 tm → repV Z2 x.toD v → repV Z2 y.toD w → Ext P Z Z2 → R v w H2) : tOf X.mg E fa σ H fun v H1 => tOf X.mg E fb σ H1 fun w H2 => R v w H2 :=
  tOf_known hf hx at0 fun v Z1 H1 e1 a1 => tOf_known hb hy a1 fun w Z2 H2 e2 a2 => nx v w Z2 H2 a2.tail.tail (repV_ext e2.ext a1.d) a2.d (e1.trans e2)
theorem op2_kx {R : V → V → Hp → Prop} {x : SV} {c : Str} {z : D} {sl sl1 sl2 : List SV} {P Z H : Hp} {σ : St} {tm : List Cell} (hf : fa sl = some (.ok x, sl1)) (hx : x.full = true) (hb : fb sl1 = some (.ex c z, sl2)) (at0 : At P Z H σ sl tm) (ex : exW X.mg E P Z (tm ++ List.zip σ sl2) c z) :
    tOf X.mg E fa σ H fun v H1 => tOf X.mg E fb σ H1 fun w H2 => R v w H2 :=
  tOf_known hf hx at0 fun v Z1 H1 e1 a1 => tOf_ex hb a1 (ex.ext e1).drop
theorem in_core {g : D → D → Option SV} (nn : Bool → Bool) (hgl : ∀ x ds r, g x (.list ds) = some r → (shp x && shp (.list ds)) = true ∧ r = .d (.bool (nn (ds.any fun z => PyData.eqv z x)))) (hgd : ∀ x kvs r, g x (.dict kvs) = some r → ∃ k, dKey x = some k ∧ r = .d (.bool (nn (lookK kvs k).isSome)))
    (hgo : ∀ x y r, g x y = some r → (∃ ds, y = .list ds) ∨ ∃ kvs, y = .dict kvs) {σ : St} {H : Hp} {Q : VK} (h : tOf X.mg E (mOp g fa fb) σ H Q) :
    (tOf X.mg E fa σ H fun x H1 => tOf X.mg E fb σ H1 fun y H2 => ∃ d ds, Dp X.K H2 x d ∧ Dp X.K H2 y (.list ds) ∧ SeqAt.shaped d = true ∧ SeqAt.shaped (.list ds) = true ∧ Q (.bl (nn (ds.any fun z => PyData.eqv z d))) H2) ∨
    (tOf X.mg E fa σ H fun y H1 => tOf X.mg E fb σ H1 fun x H2 => ∃ a o, x = .ref a ∧ DGet H2 a y o ∧ Q (.bl (nn o.isSome)) H2) := by
  obtain ⟨sl, res, sl', P, Z, tm, q, at0, k, ex⟩ := h
  rcases bndD_inv q with ⟨x, sl1, hf, hx, q1⟩ | ⟨c, y, sl1, hf, e⟩
  · rcases bndD_inv q1 with ⟨y, sl2, hb, hy, q2⟩ | ⟨c, z, sl2, hb, e⟩
    · obtain ⟨r, hr, e⟩ := lift_inv q2
      cases e
      rcases hgo _ _ _ hr with ⟨ds, ey⟩ | ⟨kvs, ey⟩
      · rw [ey] at hr
        obtain ⟨hs, rfl⟩ := hgl _ _ _ hr
        rw [Bool.and_eq_true] at hs
        refine .inl (op2_kk hf hx hb hy at0 fun v w Z2 H2 a2 rv rw' ez => ?_)
        rw [ey] at rw'
        exact ⟨x.toD, ds, repV_dp a2.2 (shp_lay hs.1) rv, repV_dp a2.2 (shp_lay hs.2) rw', hs.1, hs.2, k _ rfl _ _ _ ez (a2.data (by rw [repV]))⟩
      · rw [ey] at hr
        obtain ⟨key, hk, rfl⟩ := hgd _ _ _ hr
        refine .inr (op2_kk hf hx hb hy at0 fun v w Z2 H2 a2 rv rw' ez => ?_)
        rw [ey, repV] at rw'
        obtain ⟨p, es, rfl, z, rl⟩ := rw'
        refine ⟨p, valV es key, rfl, .inl ⟨es, key, a2.2.zed p _ z, kV_of hk rv, rfl⟩, ?_⟩
        have e : (valV es key).isSome = (lookK kvs key).isSome := by
          rcases look_rep (k := key) rl with ⟨h1, h2⟩ | ⟨d, u, h1, h2, _⟩
          · rw [h1, h2]; rfl
          · rw [h1, h2]; rfl
        rw [e]
        exact k _ rfl _ _ _ ez (a2.data (by rw [repV]))
    · cases e
      exact .inl (op2_kx hf hx hb at0 (ex _ _ rfl))
  · cases e
    exact .inl (tOf_ex hf at0 (ex _ _ rfl))
theorem inD_l (x : D) (ds : List D) (r : SV) (h : inD x (.list ds) = some r) : (shp x && shp (.list ds)) = true ∧ r = .d (.bool (id (ds.any fun z => PyData.eqv z x))) := by
  have h : (if (shp x && shp (.list ds)) = true then some (SV.d (.bool (ds.any fun z => PyData.eqv z x))) else none) = some r := by cases x <;> exact h
  split at h
  · rename_i hs; cases h; exact ⟨hs, rfl⟩
  · cases h
theorem inD_d (x : D) (kvs : List (D × D)) (r : SV) (h : inD x (.dict kvs) = some r) : ∃ k, dKey x = some k ∧ r = .d (.bool (id (lookK kvs k).isSome)) := by
  have h : (dKey x).map (fun k => SV.d (.bool (lookK kvs k).isSome)) = some r := by cases x <;> exact h
  cases hk : dKey x with
  | none => rw [hk] at h; cases h
  | some k => rw [hk] at h; cases h; exact ⟨k, rfl, rfl⟩
theorem inD_o (x y : D) (r : SV) (h : inD x y = some r) : (∃ ds, y = .list ds) ∨ ∃ kvs, y = .dict kvs := by
  cases y with
  | list ds => exact .inl ⟨ds, rfl⟩
  | dict kvs => exact .inr ⟨kvs, rfl⟩
  | _ => cases x <;> cases h
theorem notIn_of {x y : D} {r : SV} (h : notInD x y = some r) : ∃ b, inD x y = some (.d (.bool b)) ∧ r = .d (.bool (!b)) := by
  unfold notInD at h
  cases hi : inD x y with
  | none => rw [hi] at h; cases h
  | some r0 =>
    rw [hi] at h
    cases r0 with
    | d z => cases z with
      | bool b => cases h; exact ⟨b, rfl, rfl⟩
      | _ => cases h
    | _ => cases h
theorem de_in (hu : X.A.units + 65 < cLine) (ha : DE X E a fa) (hb : DE X E b fb) (hm : behindInMarks .In b = false := by rfl) : DE X E (.Compare a [.In] [b] pos) (mOp inD fa fb) :=
  PEimp (PEor (pe_cmpR (op_inD hu) ha hb hm) (pe_cmp (pc_din (by omega) ha hb) hm)) fun _ _ _ h => in_core id inD_l inD_d inD_o h
theorem dt_in (hu : X.A.units + 65 < cLine) (ha : DE X E a fa) (hb : DE X E b fb) (hm : behindInMarks .In b = false := by rfl) : DT X E (.Compare a [.In] [b] pos) (mTest (mOp inD fa fb)) := by
  have h1 := pt_cmpR (pos := pos) (op_inD hu) ha hb hm
  have h2 := pt_cmp (pos := pos) (pc_din (show X.A.units + 1 < cLine by omega) ha hb) hm
  refine ⟨fun pins s σ H Q I h => ?_⟩
  rcases in_core id inD_l inD_d inD_o (tTest_of h) with h | h
  · exact h1.run pins s σ H Q I h
  · exact h2.run pins s σ H Q I h
theorem nin_l (x : D) (ds : List D) (r : SV) (h : notInD x (.list ds) = some r) : (shp x && shp (.list ds)) = true ∧ r = .d (.bool (!(ds.any fun z => PyData.eqv z x))) := by
  obtain ⟨b, h1, rfl⟩ := notIn_of h
  obtain ⟨hs, e⟩ := inD_l x ds _ h1
  cases e
  exact ⟨hs, rfl⟩
theorem nin_d (x : D) (kvs : List (D × D)) (r : SV) (h : notInD x (.dict kvs) = some r) : ∃ k, dKey x = some k ∧ r = .d (.bool (!(lookK kvs k).isSome)) := by
  obtain ⟨b, h1, rfl⟩ := notIn_of h
  obtain ⟨k, hk, e⟩ := inD_d x kvs _ h1
  cases e
  exact ⟨k, hk, rfl⟩
theorem nin_o (x y : D) (r : SV) (h : notInD x y = some r) : (∃ ds, y = .list ds) ∨ ∃ kvs, y = .dict kvs := by
  obtain ⟨b, h1, _⟩ := notIn_of h
  exact inD_o x y _ h1
theorem de_notIn (hu : X.A.units + 65 < cLine) (ha : DE X E a fa) (hb : DE X E b fb) (hm : behindInMarks .NotIn b = false := by rfl) : DE X E (.Compare a [.NotIn] [b] pos) (mOp notInD fa fb) :=
  PEimp (PEor (pe_cmpR (op_notInD hu) ha hb hm) (pe_cmp (pc_dnotin (by omega) ha hb) hm)) fun _ _ _ h => in_core not nin_l nin_d nin_o h
theorem dt_notIn (hu : X.A.units + 65 < cLine) (ha : DE X E a fa) (hb : DE X E b fb) (hm : behindInMarks .NotIn b = false := by rfl) : DT X E (.Compare a [.NotIn] [b] pos) (mTest (mOp notInD fa fb)) := by
  have h1 := pt_cmpR (pos := pos) (op_notInD hu) ha hb hm
  have h2 := pt_cmp (pos := pos) (pc_dnotin (show X.A.units + 1 < cLine by omega) ha hb) hm
  refine ⟨fun pins s σ H Q I h => ?_⟩
  rcases in_core not nin_l nin_d nin_o (tTest_of h) with h | h
  · exact h1.run pins s σ H Q I h
  · exact h2.run pins s σ H Q I h

/-! ## slices -/
def cutD {α : Type} (xs : List α) (lo hi : Option Int) : List α := (xs.drop (HT.sIx xs.length 0 lo)).take (HT.sIx xs.length xs.length hi - HT.sIx xs.length 0 lo)
theorem repL_drop {Z : Hp} : ∀ (n : Nat) {ds : List D} {vs : List V}, repL Z ds vs → repL Z (ds.drop n) (vs.drop n)
  | 0, _, _, h => h
  | n + 1, [], _, h => by rw [repL] at h; subst h; show repL Z [] []; rw [repL]
  | n + 1, d :: ds, _, h => by
    rw [repL] at h
    obtain ⟨v, r, rfl, _, h2⟩ := h
    exact repL_drop n h2
theorem repL_take {Z : Hp} : ∀ (n : Nat) {ds : List D} {vs : List V}, repL Z ds vs → repL Z (ds.take n) (vs.take n)
  | 0, _, _, h => by rw [List.take_zero, List.take_zero, repL]
  | n + 1, [], _, h => by rw [repL] at h; subst h; show repL Z [] []; rw [repL]
  | n + 1, d :: ds, _, h => by
    rw [repL] at h
    obtain ⟨v, r, rfl, h1, h2⟩ := h
    show repL Z (d :: ds.take n) (v :: r.take n)
    rw [repL]
    exact ⟨v, _, rfl, h1, repL_take n h2⟩
theorem repL_cut {Z : Hp} {ds : List D} {vs : List V} {lo hi : Option Int} (h : repL Z ds vs) : repL Z (cutD ds lo hi) (cutV vs lo hi) := by
  unfold cutD cutV
  rw [repL_len h]
  exact repL_take _ (repL_drop _ h)
def sliceD (lo hi : Option Int) : D → Option SV
  | .list ds => some (.lst ((cutD ds lo hi).map SV.d))
  | .tuple ds => some (.d (.tuple (cutD ds lo hi)))
  | _ => none
/-- the parts of a slice: written ints, or reckoned ones, or none -/
def mPart (o : Option (M SV)) (k : Option Int → M SV) : M SV := match o with
  | none => k none
  | some f => bndD f fun d => match d with
    | .int i => k (some i)
    | _ => fail
def tpOf (mg : Str → Option Value) (E : XK) : Option (M SV) → TO
  | none => tNoPart
  | some f => tPart (tOf mg E f)
def DP (X : Cx) (E : XK) (e : Option Expr) (o : Option (M SV)) : Prop := PO X e (tpOf X.mg E o)
theorem dp_none : DP X E none none := po_none
theorem dp_some (h : DE X E e f) : DP X E (some e) (some f) := po_some h
def mSlice (f : M SV) (lo hi : Option (M SV)) : M SV := bndD f fun x => mPart lo fun l => mPart hi fun h => lift (sliceD l h x)
theorem part_run {o : Option (M SV)} {kk : Option Int → M SV} {sl sl' : List SV} {res : Res SV} {P Z H : Hp} {σ : St} {tm : List Cell} {R : Option Int → Hp → Prop} (q : mPart o kk sl = some (res, sl')) (at0 : At P Z H σ sl tm) (ex : ∀ c y, res = .ex c y → exW X.mg E P Z (tm ++ List.zip σ sl') c y)
    (nx : ∀ i sl1 Z1 H1, kk i sl1 = some (res, sl') → Ext P Z Z1 → At P Z1 H1 σ sl1 tm → (∀ c y, res = .ex c y → exW X.mg E P Z1 (tm ++ List.zip σ sl') c y) → R i H1) : tpOf X.mg E o σ H R := by
  cases o with
  | none => exact nx none sl Z H q (Ext.refl _ _) at0 ex
  | some f =>
    dsimp only [mPart] at q
    refine run1D q at0 ex fun d sl1 v Z1 H1 q1 e1 a1 _ => ?_
    have rv := a1.d
    cases d with
    | int i =>
      rw [repV] at rv
      exact ⟨i, rv, nx (some i) sl1 Z1 H1 q1 e1 a1.tail fun c y ey => (ex c y ey).ext e1⟩
    | _ => cases q1
theorem de_slice {lo hi : Option Expr} {fl fh : Option (M SV)} {p2 : Pos} (he : DE X E e f) (hl : DP X E lo fl) (hh : DP X E hi fh) : DE X E (.Subscript e (.Slice lo hi none p2) pos) (mSlice f fl fh) := by
  refine PEimp (PEor (pe_slice sl_list he hl hh) (pe_slice sl_tupA he hl hh)) fun σ H Q ⟨sl, res, sl', P, Z, tm, q, at0, k, ex⟩ => ?_
  rcases bndD_inv q with ⟨x, sl1, hf, hx, q1⟩ | ⟨c, y, sl1, hf, e⟩
  · -- the parts, behind the sequence
    have parts : ∀ {r : V → Option Int → Option Int → Hp → VK → Prop} {v : V} {Z1 H1 : Hp}, Ext P Z Z1 → At P Z1 H1 σ sl1 ((some v, .d x.toD) :: tm) → (∀ l h sv Z2 H2, sliceD l h x.toD = some sv → res = .ok sv → Ext P Z Z2 → At P Z2 H2 σ sl' tm → repV Z2 x.toD v → r v l h H2 Q) →
        tpOf X.mg E fl σ H1 fun l H2 => tpOf X.mg E fh σ H2 fun h H3 => r v l h H3 Q := fun {r v Z1 H1} e1 a1 nx => by
      refine part_run q1 a1 (fun c y ey => ((ex c y ey).ext e1).drop) fun l s2 Z2 H2 q2 e2 a2 ex2 => ?_
      refine part_run q2 a2 ex2 fun h s3 Z3 H3 q3 e3 a3 _ => ?_
      obtain ⟨sv, hs, ee⟩ := lift_inv q3
      cases ee
      exact nx l h sv Z3 H3 hs rfl (e1.trans (e2.trans e3)) a3.tail a3.d
    generalize hg : x.toD = d at parts
    cases d with
    | tuple ds =>
      refine .inr (tOf_known hf hx at0 fun v Z1 H1 e1 a1 => parts (r := rSlA X.K) e1 (by rw [hg] at a1; exact a1) fun l h sv Z2 H2 hs er ez a2 rv => ?_)
      cases hs
      rw [repV] at rv
      obtain ⟨p, vs, rfl, z, rl⟩ := rv
      have hc := repL_cut (lo := l) (hi := h) rl
      refine ⟨p, vs, rfl, a2.2.sqT z, fun hw => ?_, fun _ q hq => ?_⟩
      · have e1 : cutV vs l h = vs := by
          unfold cutV
          rw [hw.1, hw.2, Nat.sub_zero, List.drop_zero]
          exact List.take_length
        rw [e1] at hc
        exact k _ er _ _ _ ez (a2.data (by rw [repV]; exact ⟨p, vs, rfl, z, hc⟩))
      · obtain ⟨Z3, e3, s3⟩ := a2.2.newTup hq hc
        exact k _ er _ _ _ (ez.trans e3) ⟨a2.1, s3⟩
    | _ =>
      refine .inl (tOf_known hf hx at0 fun v Z1 H1 e1 a1 => parts (r := rSlL X.K) e1 (by rw [hg] at a1; exact a1) fun l h sv Z2 H2 hs er ez a2 rv => ?_)
      first
      | (cases hs; done)
      | (cases hs
         rw [repV] at rv
         obtain ⟨p, vs, rfl, z, rl⟩ := rv
         exact ⟨p, vs, rfl, a2.2.sqL z, fun q hq => k _ er _ _ _ ez ⟨a2.1, a2.2.newLst hq (repL_cut rl)⟩⟩)
  · cases e
    exact .inl (tOf_ex hf at0 (ex _ _ rfl))
end
end DD

set_option Elab.async false
set_option linter.all false
set_option maxRecDepth 100000
/-! DD11: what is one's own is changed. -/
namespace DD
open PySem PySem.Spec PyProof.Rows L2
/-- the thing at p is written over -/
theorem SR.mutate {P Z H : Hp} {A B L : List Cell} {p : Addr} {old new : SV} {o : HO} (s : SR P Z H (A ++ (some (.ref p), old) :: L)) (hold : ∀ own, repS Z H old (.ref p) own → ∃ o5, own = p :: o5)
    (hnew : ∀ oA o5, repA Z H A oA → repS Z H old (.ref p) (p :: o5) → (∀ a ∈ oA ++ o5, a ≠ p) → ∃ oB o6 dr, (oA ++ o5).Perm (oB ++ o6 ++ dr) ∧ repA Z (upd H p o) B oB ∧ repS Z (upd H p o) new (.ref p) (p :: o6)) :
    SR P Z (upd H p o) (B ++ (some (.ref p), new) :: L) := by
  obtain ⟨own, r, nd, k⟩ := s.ex
  obtain ⟨oA, oR, e, rA, o1, o2, e2, r1, r2⟩ := repA_split r
  subst e2
  subst e
  have r1' := repO_get r1
  obtain ⟨o5, e5⟩ := hold _ r1'
  subst e5
  have ndx := nd
  simp only [List.nodup_append, List.nodup_cons, List.mem_append, List.mem_cons, List.cons_append] at ndx
  have neA : ∀ a ∈ oA ++ o5, a ≠ p := by
    intro a ha z
    subst z
    rcases List.mem_append.mp ha with h | h
    · exact ndx.2.2 a h a (.inl rfl) rfl
    · exact ndx.2.1.1 (.inl h)
  have ne2 : ∀ a ∈ o2, a ≠ p := fun a ha z => by subst z; exact ndx.2.1.1 (.inr ha)
  have pn : P p = none ∧ Z p = none := k p (by simp)
  obtain ⟨oB, o6, dr, pm, rB, rN⟩ := hnew oA o5 rA r1' neA
  have mem : ∀ a, a ∈ oB ∨ a ∈ o6 → a ∈ oA ++ o5 := fun a h => pm.mem_iff.mpr (by
    rcases h with h | h
    · exact List.mem_append_left _ (List.mem_append_left _ h)
    · exact List.mem_append_left _ (List.mem_append_right _ h))
  refine ⟨fun a u e => ?_, fun a u e => ?_, oB ++ ((p :: o6) ++ o2), repA_append rB ⟨p :: o6, o2, rfl, repO_of rN, repA_keep (Sub0.refl _) (fun a ha => upd_ne (ne2 a ha)) r2⟩, ?_, fun a ha => k a ?_⟩
  · rw [upd_ne (fun z => by subst z; rw [pn.1] at e; cases e)]
    exact s.prot a u e
  · have nz : a ≠ p := fun z => by subst z; rw [pn.2] at e; cases e
    rcases s.zed a u e with q | ⟨ob, q⟩
    · exact .inl (by rw [upd_ne nz]; exact q)
    · exact .inr ⟨ob, by rw [upd_ne nz]; exact q⟩
  · have big : (p :: (oA ++ o5) ++ o2).Nodup := by
      refine (List.Perm.nodup_iff ?_).mp nd
      simp only [List.cons_append, List.append_assoc]
      exact List.perm_middle
    have big2 : (p :: (oB ++ o6 ++ dr) ++ o2).Nodup := (List.Perm.nodup_iff (List.Perm.append_right _ (List.Perm.cons _ pm))).mp big
    have sub : (p :: (oB ++ o6) ++ o2).Nodup := by
      refine List.Sublist.nodup ?_ big2
      refine List.Sublist.append ?_ (List.Sublist.refl _)
      exact List.Sublist.cons_cons _ (List.sublist_append_left _ _)
    refine (List.Perm.nodup_iff ?_).mp sub
    simp only [List.cons_append, List.append_assoc]
    exact List.perm_middle.symm
  · simp only [List.mem_append, List.mem_cons, List.cons_append] at ha ⊢
    rcases ha with h | h | h | h
    · have := mem a (.inl h)
      rcases List.mem_append.mp this with q | q
      · exact .inl q
      · exact .inr (.inr (.inl q))
    · exact .inr (.inl h)
    · have := mem a (.inr h)
      rcases List.mem_append.mp this with q | q
      · exact .inl q
      · exact .inr (.inr (.inl q))
    · exact .inr (.inr (.inr h))
theorem repS_lst {Z H : Hp} {xs : List SV} {p : Addr} {own : List Addr} (r : repS Z H (.lst xs) (.ref p) own) : ∃ vs o, own = p :: o ∧ H p = some (.lst vs) ∧ repSs Z H xs vs o := by
  rw [repS] at r
  obtain ⟨q, vs, o, e1, e2, e3, r⟩ := r
  cases e1
  exact ⟨vs, o, e2, e3, r⟩
theorem repS_dct {Z H : Hp} {xs : List (Key × SV)} {p : Addr} {own : List Addr} (r : repS Z H (.dct xs) (.ref p) own) : ∃ es o, own = p :: o ∧ H p = some (.dK es) ∧ repSk Z H xs es o := by
  rw [repS] at r
  obtain ⟨q, vs, o, e1, e2, e3, r⟩ := r
  cases e1
  exact ⟨vs, o, e2, e3, r⟩
/-- what an owned list holds -/
theorem SR.ownLst {P Z H : Hp} {A L : List Cell} {v : V} {xs : List SV} (s : SR P Z H (A ++ (some v, .lst xs) :: L)) : ∃ p vs, v = .ref p ∧ H p = some (.lst vs) ∧ vs.length = xs.length := by
  obtain ⟨own, r, nd, k⟩ := s.ex
  obtain ⟨oA, oR, e, rA, o1, o2, e2, r1, r2⟩ := repA_split r
  have r1 := repO_get r1
  rw [repS] at r1
  obtain ⟨p, vs, o, rfl, _, e3, r⟩ := r1
  exact ⟨p, vs, rfl, e3, repSs_len r⟩
theorem SR.ownDct {P Z H : Hp} {A L : List Cell} {v : V} {xs : List (Key × SV)} (s : SR P Z H (A ++ (some v, .dct xs) :: L)) : ∃ p es, v = .ref p ∧ H p = some (.dK es) := by
  obtain ⟨own, r, nd, k⟩ := s.ex
  obtain ⟨oA, oR, e, rA, o1, o2, e2, r1, r2⟩ := repA_split r
  have r1 := repO_get r1
  rw [repS] at r1
  obtain ⟨p, es, o, rfl, _, e3, r⟩ := r1
  exact ⟨p, es, rfl, e3⟩
theorem repSs_split {Z H : Hp} : ∀ {xs ys : List SV} {vs : List V} {own : List Addr}, repSs Z H (xs ++ ys) vs own → ∃ v1 v2 o1 o2, vs = v1 ++ v2 ∧ own = o1 ++ o2 ∧ repSs Z H xs v1 o1 ∧ repSs Z H ys v2 o2 ∧ v1.length = xs.length
  | [], ys, vs, own, h => ⟨[], vs, [], own, rfl, rfl, by rw [repSs]; exact ⟨rfl, rfl⟩, h, rfl⟩
  | x :: xs, ys, vs, own, h => by
    have h : repSs Z H (x :: (xs ++ ys)) vs own := h
    rw [repSs] at h
    obtain ⟨v, t, o1, o2, rfl, rfl, h1, h2⟩ := h
    obtain ⟨v1, v2, p1, p2, rfl, rfl, h3, h4, hl⟩ := repSs_split h2
    exact ⟨v :: v1, v2, o1 ++ p1, p2, rfl, by rw [List.append_assoc], by rw [repSs]; exact ⟨v, v1, o1, p1, rfl, rfl, h1, h3⟩, h4, by simp [hl]⟩
theorem repSs_join {Z H : Hp} : ∀ {xs ys : List SV} {v1 v2 : List V} {o1 o2 : List Addr}, repSs Z H xs v1 o1 → repSs Z H ys v2 o2 → repSs Z H (xs ++ ys) (v1 ++ v2) (o1 ++ o2)
  | [], _, _, _, _, _, h, h' => by
    rw [repSs] at h
    obtain ⟨rfl, rfl⟩ := h
    exact h'
  | x :: xs, _, _, _, _, _, h, h' => by
    rw [repSs] at h
    obtain ⟨v, t, o1, o2, rfl, rfl, h1, h2⟩ := h
    show repSs Z H (x :: (xs ++ _)) (v :: (t ++ _)) _
    rw [repSs]
    exact ⟨v, _, o1, _, rfl, by rw [List.append_assoc], h1, repSs_join h2 h'⟩
theorem repSs_one {Z H : Hp} {x : SV} {v : V} {o : List Addr} (h : repS Z H x v o) : repSs Z H [x] [v] o := by
  rw [repSs]
  exact ⟨v, [], o, [], rfl, by simp, h, by rw [repSs]; exact ⟨rfl, rfl⟩⟩

/-! ## methods of lists -/
section
variable {X : Cx} {E : XK} {pos : Pos} {kp : List Nat}
abbrev MOp := SV → List SV → Option (SV × SV)
def rMut (op : MOp) : V → List V → Hp → VK → Prop := fun x vs H Q => ∃ old args r new P Z L, op old args = some (r, new) ∧ vs.length = args.length ∧ SR P Z H (zipA vs args ++ (some x, old) :: L) ∧
  ∀ v Z' H', Ext P Z Z' → SR P Z' H' ((some v, r) :: (some x, new) :: L) → Q v H'
def MutD (X : Cx) (id : String) (op : MOp) : Prop := MtR X id (rMut op)
def isLst : SV → Bool
  | .lst _ => true
  | _ => false
def mMeth (i : Nat) (op : MOp) (fa : M (List SV)) : M SV := fun sl => match sl[i]? with
  | some x0 => if isLst x0 = true then bnd fa (fun xs sl1 => match sl1[i]? with
    | some x => (match op x xs with
      | some (r, y) => some (.ok r, sl1.set i y)
      | none => none)
    | none => none) sl else none
  | none => none
theorem meth_run {op : MOp} {i : Nat} {v : V} {xs : List SV} {vs : List V} {x r y : SV} {sl1 : List SV} {P Z H : Hp} {σ : St} {tm : List Cell} {Q : VK} (hv : σ[i]? = some (some v)) (hx : sl1[i]? = some x) (ho : op x xs = some (r, y)) (l : vs.length = xs.length) (a' : At P Z H σ sl1 ((zipA vs xs).reverse ++ tm))
    (k : ∀ w Z' H', Ext P Z Z' → At P Z' H' σ (sl1.set i y) ((some w, r) :: tm) → Q w H') : rMut op v vs H Q := by
  obtain ⟨ov, hov, s1⟩ := a'.open hx
  rw [hv] at hov
  cases hov
  have hil : i < sl1.length := (List.getElem?_eq_some_iff.mp hx).1
  have s2 : SR P Z H (zipA vs xs ++ (some v, x) :: hole σ sl1 tm i) := by
    refine s1.perm ?_
    refine List.Perm.trans ?_ List.perm_middle.symm
    refine List.Perm.cons _ ?_
    unfold hole
    rw [List.append_assoc]
    exact List.Perm.append_right _ (List.reverse_perm _)
  refine ⟨x, xs, r, y, P, Z, hole σ sl1 tm i, ho, l, s2, fun w Z' H' e s' => k w Z' H' e ?_⟩
  have s3 : SR P Z' H' ((some v, y) :: (some w, r) :: hole σ sl1 tm i) := s'.perm (.swap _ _ _)
  exact At.close' (tm := (some w, r) :: tm) a'.1 hv s3
theorem tBM_of {op : MOp} {i : Nat} {fa : M (List SV)} {σ : St} {H : Hp} {Q : VK} (h : tOf X.mg E (mMeth i op fa) σ H Q) : tBM X.K "list" (rMut op) (tVar i) (taOf X.mg E fa) σ H Q := by
  obtain ⟨sl, res, sl', P, Z, tm, q, a, k, ex⟩ := h
  unfold mMeth at q
  split at q
  · rename_i x0 h0
    split at q
    · rename_i hl0
      obtain ⟨v, hv⟩ := a.slot_val h0 (by cases x0 <;> first | rfl | cases hl0)
      refine ⟨v, hv, ?_, ?_⟩
      · obtain ⟨ov, ho, s⟩ := a.open h0
        rw [hv] at ho
        cases ho
        cases x0 with
        | lst xs =>
          obtain ⟨p, vs, rfl, hp, _⟩ := SR.ownLst (A := []) s
          exact .inl ⟨rfl, vs, .inl (.inl hp)⟩
        | _ => cases hl0
      · refine runA q a ex fun xs sl1 vs Z1 H1 q1 l e1 a1 _ => ?_
        split at q1
        · rename_i x hx
          split at q1
          · rename_i r y ho
            cases q1
            exact meth_run hv hx ho l a1 fun w Z' H' e a' => k _ rfl w Z' H' (e1.trans e) a'
          · cases q1
        · cases q1
    · cases q
  · cases q
theorem de_meth {i : Nat} {o e : Expr} {es : List Expr} {name : Str} {apos cpos : Pos} {id : String} {op : MOp} {fa : M (List SV)} (slot : Slot "list" name id) (hty : typeOf (.builtin id) = pure (.type "method_descriptor")) (hm : MutD X id op) (ho : PE X o (tVar i)) (ha : DA X E (e :: es) fa)
    (hbase : attributeBase o name X.env (eval o X.env) = eval o X.env := by rfl)
    (hfew : ((backTo cpos (starEach (e :: es) X.env)).all (fun x => !x.1) && (backToKw cpos (keywordEach [] X.env)).all (fun x => x.1.isSome) && decide ((e :: es).length + ([] : List Keyword).length + (if ([] : List Keyword).isEmpty then 0 else 1) < 30)) = true := by rfl)
    (hline : (apos.endLine == cpos.line) = true := by rfl) (hs : starEach (e :: es) X.env = (false, eval e X.env) :: starEach es X.env := by rfl) (hplain : (backTo cpos (starEach es X.env)).any (·.1) = false := by rfl) :
    DE X E (.Call (.Attribute o name apos) (e :: es) [] cpos) (mMeth i op fa) := PEimp (pe_bm PySem.F.plainAttrs_list slot hty hm ho ha hbase hfew hline hs hplain) fun _ _ _ => tBM_of
theorem de_meth0 {i : Nat} {o : Expr} {name : Str} {apos cpos : Pos} {id : String} {op : MOp} (slot : Slot "list" name id) (hty : typeOf (.builtin id) = pure (.type "method_descriptor")) (hm : MutD X id op) (ho : PE X o (tVar i))
    (hbase : attributeBase o name X.env (eval o X.env) = eval o X.env := by rfl) (hline : (apos.endLine == cpos.line) = true := by rfl) : DE X E (.Call (.Attribute o name apos) [] [] cpos) (mMeth i op mNil) := by
  refine PEimp (pe_bm0 PySem.F.plainAttrs_list slot hty hm ho hbase hline) fun σ H Q h => ?_
  obtain ⟨v, hv, ty, t⟩ := tBM_of h
  obtain ⟨sl, res, sl', P, Z, tm, q, a, k, _⟩ := t
  cases q
  exact ⟨v, hv, ty, k [] rfl [] Z H rfl (Ext.refl _ _) a⟩
def appendO : MOp
  | .lst xs, [x] => if xs.length < sizeLine then some (.d .none, .lst (xs ++ [x])) else none
  | _, _ => none
def insertO : MOp
  | .lst xs, [.d (.int i), x] => if xs.length < sizeLine ∧ 0 ≤ i ∧ i < 2 ^ 63 then some (.d .none, .lst (xs.take i.toNat ++ [x] ++ xs.drop i.toNat)) else none
  | _, _ => none
def popAtO : MOp
  | .lst xs, [.d (.int i)] => if -(2 ^ 63) ≤ i ∧ i < 2 ^ 63 then (seqIndex? i xs.length).bind fun k => (xs[k]?).map fun x => (x, .lst (xs.eraseIdx k)) else none
  | _, _ => none
def clearO : MOp
  | .lst _, [] => some (.d .none, .lst [])
  | _, _ => none
theorem repA_none {Z H : Hp} : repA Z H [((some V.non : Option V), SV.d PyData.none)] [] := ⟨[], [], rfl, ⟨V.non, rfl, by rw [repS]; exact ⟨rfl, by rw [repV]⟩⟩, rfl⟩
theorem md_append : MutD X "list.append" appendO := by
  intro pins s σ H x vs v us Q I rx rv ⟨old, args, r, new, P, Z, L, ho, hl, sr, k⟩
  unfold appendO at ho
  split at ho
  · rename_i xs y
    split at ho
    · rename_i hz
      cases ho
      match vs, hl with
      | [w], _ =>
        obtain ⟨p, ws, rfl, hp, lw⟩ := sr.ownLst
        refine mt_append pins s σ H _ _ v us Q I rx rv ⟨p, ws, w, rfl, rfl, hp, by rw [lw]; exact hz, k _ Z _ (Ext.refl _ _) ?_⟩
        refine SR.mutate (B := [(some .non, .d .none)]) sr (fun own r => by obtain ⟨_, o, e, _⟩ := repS_lst r; exact ⟨o, e⟩) fun oA o5 rA rO ne => ?_
        obtain ⟨ws', o, e, hp', r⟩ := repS_lst rO
        cases e
        rw [hp] at hp'
        cases hp'
        obtain ⟨o1, o2, e, r1, r2⟩ := rA
        cases (show o2 = [] from r2)
        subst e
        have kk : ∀ a ∈ (o1 ++ []) ++ o5, upd H p (.lst (ws ++ [w])) a = H a := fun a ha => upd_ne (ne a ha)
        refine ⟨[], o5 ++ o1, [], by simpa using List.perm_append_comm, repA_none, ?_⟩
        rw [repS]
        exact ⟨p, ws ++ [w], o5 ++ o1, rfl, rfl, upd_same, repSs_join (repSs_keep (Sub0.refl _) (fun a ha => kk a (List.mem_append_right _ ha)) r) (repSs_one (repS_keep (Sub0.refl _) (fun a ha => kk a (List.mem_append_left _ (by simpa using ha))) (repO_get r1)))⟩
    · cases ho
  · cases ho
theorem repSs_take {Z H : Hp} : ∀ (n : Nat) {xs : List SV} {vs : List V} {own : List Addr}, repSs Z H xs vs own → ∃ o1 o2, own = o1 ++ o2 ∧ repSs Z H (xs.take n) (vs.take n) o1 ∧ repSs Z H (xs.drop n) (vs.drop n) o2
  | 0, _, _, own, h => ⟨[], own, rfl, by rw [List.take_zero, List.take_zero, repSs]; exact ⟨rfl, rfl⟩, h⟩
  | n + 1, [], _, _, h => by
    rw [repSs] at h
    obtain ⟨rfl, rfl⟩ := h
    exact ⟨[], [], rfl, by show repSs Z H [] [] []; rw [repSs]; exact ⟨rfl, rfl⟩, by show repSs Z H [] [] []; rw [repSs]; exact ⟨rfl, rfl⟩⟩
  | n + 1, x :: xs, _, _, h => by
    rw [repSs] at h
    obtain ⟨v, t, o1, o2, rfl, rfl, h1, h2⟩ := h
    obtain ⟨p1, p2, rfl, h3, h4⟩ := repSs_take n h2
    refine ⟨o1 ++ p1, p2, by rw [List.append_assoc], ?_, h4⟩
    show repSs Z H (x :: xs.take n) (v :: t.take n) _
    rw [repSs]
    exact ⟨v, _, o1, p1, rfl, rfl, h1, h3⟩
theorem md_insert : MutD X "list.insert" insertO := by
  intro pins s σ H x vs v us Q I rx rv ⟨old, args, r, new, P, Z, L, ho, hl, sr, k⟩
  unfold insertO at ho
  split at ho
  · rename_i xs i y
    split at ho
    · rename_i hz
      cases ho
      match vs, hl with
      | [u, w], _ =>
        obtain ⟨p, ws, rfl, hp, lw⟩ := sr.ownLst (A := zipA [u, w] [.d (.int i), y])
        have hu : u = .int i := by
          have := SR.get_d (v := u) (x := .int i) sr
          rw [repV] at this
          exact this
        subst hu
        refine mt_insert pins s σ H _ _ v us Q I rx rv ⟨p, ws, i, w, rfl, rfl, hp, by rw [lw]; exact hz.1, hz.2.1, hz.2.2, k _ Z _ (Ext.refl _ _) ?_⟩
        refine SR.mutate (B := [(some .non, .d .none)]) sr (fun own r => by obtain ⟨_, o, e, _⟩ := repS_lst r; exact ⟨o, e⟩) fun oA o5 rA rO ne => ?_
        obtain ⟨ws', o, e, hp', r⟩ := repS_lst rO
        cases e
        rw [hp] at hp'
        cases hp'
        obtain ⟨o0, o00, e0, r0, o1, o2, e, r1, r2⟩ := rA
        cases (show o2 = [] from r2)
        have r0 := repO_get r0
        rw [repS] at r0
        obtain ⟨rfl, _⟩ := r0
        subst e
        subst e0
        have kk : ∀ a, a ∈ o1 ∨ a ∈ o5 → upd H p (.lst (ws.take i.toNat ++ [w] ++ ws.drop i.toNat)) a = H a := fun a ha => upd_ne (ne a (by simpa using ha))
        obtain ⟨p1, p2, rfl, h1, h2⟩ := repSs_take i.toNat r
        refine ⟨[], p1 ++ o1 ++ p2, [], ?_, repA_none, ?_⟩
        · simp only [List.nil_append, List.append_nil, List.append_assoc]
          rw [← List.append_assoc, ← List.append_assoc]
          exact List.Perm.append_right _ List.perm_append_comm
        · rw [repS]
          exact ⟨p, _, p1 ++ o1 ++ p2, rfl, rfl, upd_same, repSs_join (repSs_join (repSs_keep (Sub0.refl _) (fun a ha => kk a (.inr (List.mem_append_left _ ha))) h1) (repSs_one (repS_keep (Sub0.refl _) (fun a ha => kk a (.inl ha)) (repO_get r1)))) (repSs_keep (Sub0.refl _) (fun a ha => kk a (.inr (List.mem_append_right _ ha))) h2)⟩
    · cases ho
  · cases ho
theorem repSs_erase {Z H : Hp} : ∀ {xs : List SV} {vs : List V} {own : List Addr} {n : Nat} {x : SV}, repSs Z H xs vs own → xs[n]? = some x → ∃ v o1 o2, vs[n]? = some v ∧ own.Perm (o1 ++ o2) ∧ repS Z H x v o1 ∧ repSs Z H (xs.eraseIdx n) (vs.eraseIdx n) o2
  | [], _, _, _, _, _, h => by simp at h
  | y :: xs, _, _, 0, x, r, h => by
    rw [repSs] at r
    obtain ⟨v, t, o1, o2, rfl, rfl, h1, h2⟩ := r
    simp at h
    subst h
    exact ⟨v, o1, o2, rfl, .refl _, h1, h2⟩
  | y :: xs, _, _, n + 1, x, r, h => by
    rw [repSs] at r
    obtain ⟨v, t, o1, o2, rfl, rfl, h1, h2⟩ := r
    obtain ⟨w, p1, p2, e, pm, h3, h4⟩ := repSs_erase (n := n) h2 (by simpa using h)
    refine ⟨w, p1, o1 ++ p2, by simpa using e, ?_, h3, ?_⟩
    · refine (List.Perm.append_left o1 pm).trans ?_
      rw [← List.append_assoc, ← List.append_assoc]
      exact List.Perm.append_right _ List.perm_append_comm
    · simp only [List.eraseIdx_cons_succ]
      rw [repSs]
      exact ⟨v, _, o1, p2, rfl, rfl, h1, h4⟩
theorem md_popAt : MutD X "list.pop" popAtO := by
  intro pins s σ H x vs v us Q I rx rv ⟨old, args, r, new, P, Z, L, ho, hl, sr, k⟩
  unfold popAtO at ho
  split at ho
  · rename_i xs i
    split at ho
    · rename_i hz
      cases hk : seqIndex? i xs.length with
      | none => rw [hk] at ho; cases ho
      | some n =>
        rw [hk] at ho
        dsimp only [Option.bind] at ho
        cases hn : xs[n]? with
        | none => rw [hn] at ho; cases ho
        | some y =>
          rw [hn] at ho
          cases ho
          match vs, hl with
          | [u], _ =>
            obtain ⟨p, ws, rfl, hp, lw⟩ := sr.ownLst (A := zipA [u] [.d (.int i)])
            have hu : u = .int i := by
              have := SR.get_d (v := u) (x := .int i) sr
              rw [repV] at this
              exact this
            subst hu
            -- the item that comes out
            obtain ⟨own, rr, nd, kk⟩ := sr.ex
            obtain ⟨oA, oR, e, rA, o1, o2, e2, r1, r2⟩ := repA_split rr
            obtain ⟨ws0, o, e0, hp0, r0⟩ := repS_lst (repO_get r1)
            rw [hp] at hp0
            cases hp0
            obtain ⟨w, _, _, hw, _, _, _⟩ := repSs_erase r0 hn
            refine mt_popAt pins s σ H _ _ v us Q I rx rv ⟨p, ws, i, n, w, rfl, rfl, hp, hz.1, hz.2, by rw [lw]; exact hk, hw, k _ Z _ (Ext.refl _ _) ?_⟩
            refine SR.mutate (B := [(some w, r)]) sr (fun own r => by obtain ⟨_, o, e, _⟩ := repS_lst r; exact ⟨o, e⟩) fun oA o5 rA rO ne => ?_
            obtain ⟨ws', o, e, hp', r⟩ := repS_lst rO
            cases e
            rw [hp] at hp'
            cases hp'
            obtain ⟨o0, o00, e0, r0, rN⟩ := rA
            cases (show o00 = [] from rN)
            have r0 := repO_get r0
            rw [repS] at r0
            obtain ⟨rfl, _⟩ := r0
            subst e0
            obtain ⟨w', p1, p2, hw', pm, h3, h4⟩ := repSs_erase r hn
            rw [hw] at hw'
            cases hw'
            have kk : ∀ a, a ∈ p1 ∨ a ∈ p2 → upd H p (.lst (ws.eraseIdx n)) a = H a := fun a ha => upd_ne (ne a (by simpa using pm.mem_iff.mpr (by simpa using ha)))
            refine ⟨p1 ++ [], p2, [], by simpa using pm, ⟨p1, [], rfl, repO_of (repS_keep (Sub0.refl _) (fun a ha => kk a (.inl ha)) h3), rfl⟩, ?_⟩
            rw [repS]
            exact ⟨p, _, p2, rfl, rfl, upd_same, repSs_keep (Sub0.refl _) (fun a ha => kk a (.inr ha)) h4⟩
    · cases ho
  · cases ho
theorem md_clear : MutD X "list.clear" clearO := by
  intro pins s σ H x vs v us Q I rx rv ⟨old, args, r, new, P, Z, L, ho, hl, sr, k⟩
  unfold clearO at ho
  split at ho
  · rename_i xs
    cases ho
    match vs, hl with
    | [], _ =>
      obtain ⟨p, ws, rfl, hp, lw⟩ := sr.ownLst (A := [])
      refine mt_clear pins s σ H _ _ v us Q I rx rv ⟨p, ws, rfl, rfl, hp, k _ Z _ (Ext.refl _ _) ?_⟩
      refine SR.mutate (A := []) (B := [(some .non, .d .none)]) sr (fun own r => by obtain ⟨_, o, e, _⟩ := repS_lst r; exact ⟨o, e⟩) fun oA o5 rA rO ne => ?_
      refine ⟨[], [], oA ++ o5, by simp, repA_none, ?_⟩
      rw [repS]
      exact ⟨p, [], [], rfl, rfl, upd_same, by rw [repSs]; exact ⟨rfl, rfl⟩⟩
  · cases ho
end
end DD

set_option Elab.async false
set_option linter.all false
set_option maxRecDepth 100000
/-! DD12: a def by its body; stores. -/
namespace DD
open PySem PySem.Spec PyProof.Rows L2
def maskR (kp : List Nat) : Nat → Nat → List SV → List SV
  | _, 0, _ => []
  | i, n + 1, x :: sl => (if kp.contains i = true then x else .un) :: maskR kp (i + 1) n sl
  | i, n + 1, [] => .un :: maskR kp (i + 1) n []
theorem repA_maskR {Z H : Hp} {kp : List Nat} : ∀ (n i : Nat) {vs : List V} {σ : St} {sl : List SV} {own : List Addr}, repA Z H (List.zip σ sl) own → n ≤ σ.length → vs.length = n → (∀ j v, vs[j]? = some v → i + j ∈ kp → σ[j]? = some (some v)) →
    ∃ o dr, own.Perm (o ++ dr) ∧ repA Z H (zipA vs (maskR kp i n sl)) o
  | 0, i, vs, σ, sl, own, r, hl, hv, hk => by
    have : vs = [] := List.length_eq_zero_iff.mp hv
    subst this
    exact ⟨[], own, .refl _, rfl⟩
  | n + 1, i, [], _, _, _, _, _, hv, _ => by simp at hv
  | n + 1, i, v :: vs, [], _, _, _, hl, _, _ => by simp at hl
  | n + 1, i, v :: vs, ov :: σ, [], own, r, hl, hv, hk => by
    have r0 : own = [] := r
    subst r0
    obtain ⟨o, dr, pm, h⟩ := repA_maskR n (i + 1) (vs := vs) (σ := σ) (sl := []) (own := []) (by rw [List.zip_nil_right]; rfl) (by simpa using hl) (by simpa using hv) (fun j w hj hm => by
      have := hk (j + 1) w (by simpa using hj) (by rw [show i + (j + 1) = i + 1 + j by omega]; exact hm)
      simpa using this)
    exact ⟨o, dr, pm, [], o, rfl, rfl, h⟩
  | n + 1, i, v :: vs, ov :: σ, x :: sl, own, r, hl, hv, hk => by
    obtain ⟨o1, o2, e, h1, h2⟩ := r
    subst e
    obtain ⟨o, dr, pm, h⟩ := repA_maskR n (i + 1) (vs := vs) h2 (by simpa using hl) (by simpa using hv) (fun j w hj hm => by
      have := hk (j + 1) w (by simpa using hj) (by rw [show i + (j + 1) = i + 1 + j by omega]; exact hm)
      simpa using this)
    by_cases hc : kp.contains i = true
    · have : ov = some v := by
        have := hk 0 v rfl (by simpa using hc)
        simpa using this
      subst this
      refine ⟨o1 ++ o, dr, by rw [List.append_assoc]; exact List.Perm.append_left o1 pm, o1, o, rfl, ?_, h⟩
      show repO Z H (some v, if kp.contains i = true then x else .un) o1
      rw [if_pos hc]
      exact h1
    · refine ⟨o, dr ++ o1, ?_, [], o, rfl, ?_, h⟩
      · rw [← List.append_assoc]
        exact (List.Perm.append_left o1 pm).trans List.perm_append_comm
      · show repO Z H (some v, if kp.contains i = true then x else .un) []
        rw [if_neg hc]
        rfl
theorem SR.masked {P Z H : Hp} {C : List Cell} {kp : List Nat} {n : Nat} {vs : List V} {σ : St} {sl : List SV} (s : SR P Z H (C ++ List.zip σ sl)) (hl : n ≤ σ.length) (hv : vs.length = n) (hk : ∀ j v, vs[j]? = some v → j ∈ kp → σ[j]? = some (some v)) : SR P Z H (C ++ zipA vs (maskR kp 0 n sl)) := by
  obtain ⟨own, r, nd, k⟩ := s.ex
  obtain ⟨o1, o2, e, r1, r2⟩ := repA_split r
  subst e
  obtain ⟨o, dr, pm, h⟩ := repA_maskR n 0 r2 hl hv (by simpa using hk)
  have nd2 : (o1 ++ (o ++ dr)).Nodup := (List.Perm.nodup_iff (List.Perm.append_left o1 pm)).mp nd
  refine ⟨s.prot, s.zed, o1 ++ o, repA_append r1 h, ?_, fun a ha => k a ?_⟩
  · rw [← List.append_assoc] at nd2
    exact (List.nodup_append.mp nd2).1
  · rcases List.mem_append.mp ha with h | h
    · exact List.mem_append_left _ h
    · exact List.mem_append_right _ (pm.mem_iff.mpr (List.mem_append_left _ h))
def fnM (n N : Nat) (kp : List Nat) (G : M Ctl) : M SV := fun args => if args.length = n then (match G (args ++ List.replicate (N - n) .un) with
  | some (.ok (.rt r), sl') => some (.ok r, maskR kp 0 n sl')
  | some (.ok .nx, sl') => some (.ok (.d .none), maskR kp 0 n sl')
  | some (.ex c x, sl') => some (.ex c x, maskR kp 0 n sl')
  | _ => none) else none
theorem repA_blank {Z H : Hp} : ∀ m : Nat, repA Z H (List.zip (List.replicate m (none : Option V)) (List.replicate m SV.un)) []
  | 0 => rfl
  | m + 1 => ⟨[], [], rfl, rfl, repA_blank m⟩
theorem fnD_raw {P : Program} {w : World} {K : PySem.W.Frag} {mg : Str → Option Value} {base : Heap} {k : Nat} {f : Addr} {ps : List Str} {N : List Str} {kp : List Nat} {G : M Ctl} {qual name : Str} {params : Arguments} {bd : List Stmt} {scope : Scope} {dV kV doc pm cdv ct oc : Value} {an od : Option Addr} {osl : Array (Option Value)}
    (lk : K.lookup f = some ⟨oc, od, .func (PySem.W.fnOf name qual params bd scope dV kV doc pm an cdv ct), osl⟩) (hcd : PySem.W.codeIn K cdv qual = true) (S : FnScope N ps scope)
    (body : ∀ (A : Around) (outer : List Env) (s : Shared) (H : Hp) (E : XK), Room k (A.deeper (envOfC qual scope s.heap.objs.size f cdv)) → (A.deeper (envOfC qual scope s.heap.objs.size f cdv)).guards = some [] →
      DSs (cxOf (L2.CX P w) P w K mg base N qual scope f cdv A outer s H E) E kp bd G) : FnG P w K mg base (k + 1) f (PySem.W.fnOf name qual params bd scope dV kV doc pm an cdv ct) ps (spD mg ps.length (fnM ps.length N.length kp G)) := by
  refine fnG_of lk hcd S (fun vs H Q E h => spD_len h) fun A outer s H vs Q E hr hg h => ⟨_, body A outer s H E hr hg, ?_⟩
  obtain ⟨args, res, args', Z, own, hn, ha, hF, r, nd, zo, zz, kk, ex⟩ := h
  have hps : ps.length ≤ N.length := by
    have := congrArg List.length S.pre
    rw [List.length_take] at this
    omega
  unfold fnM at hF
  rw [if_pos ha] at hF
  have hlen : (L2.start N vs).length = (args ++ List.replicate (N.length - ps.length) SV.un).length := by
    unfold L2.start
    simp [hn, ha]
  have hz : List.zip (L2.start N vs) (args ++ List.replicate (N.length - ps.length) SV.un) = zipA vs args ++ List.zip (List.replicate (N.length - ps.length) (none : Option V)) (List.replicate (N.length - ps.length) SV.un) := by
    unfold L2.start zipA
    rw [List.zip_append (by simp [hn, ha]), hn]
  have at0 : At (minus H own) Z H (L2.start N vs) (args ++ List.replicate (N.length - ps.length) SV.un) [] := by
    refine ⟨hlen, fun a o e => (minus_some.mp e).2, zz, own, ?_, nd, fun a ha => ⟨minus_none.mpr (.inl ha), zo a ha⟩⟩
    rw [List.nil_append, hz]
    have := repA_append r (repA_blank (Z := Z) (H := H) (N.length - ps.length))
    rwa [List.append_nil] at this
  have kept : ∀ σ' : St, Kept kp (L2.start N vs) σ' → ∀ j v, vs[j]? = some v → j ∈ kp → σ'[j]? = some (some v) := fun σ' hk j v hj hm => by
    rw [hk.2 j hm]
    unfold L2.start
    have hjl : j < vs.length := (List.getElem?_eq_some_iff.mp hj).1
    rw [List.getElem?_append_left (by simpa using hjl), List.getElem?_map, hj]
    rfl
  have long : ∀ σ' : St, Kept kp (L2.start N vs) σ' → ps.length ≤ σ'.length := fun σ' hk => by
    rw [hk.1]
    unfold L2.start
    rw [List.length_append, List.length_map, List.length_replicate, hn]
    omega
  split at hF
  · rename_i r0 sl' hG
    cases hF
    refine ⟨_, _, sl', minus H own, Z, [], hG, at0, fun c ec σ' Z' H' hk e => ?_, fun c x ee => by cases ee⟩
    cases ec
    intro v a'
    exact kk _ rfl v Z' H' e (SR.masked (C := [(some v, r0)]) a'.2 (long σ' hk) hn (kept σ' hk))
  · rename_i sl' hG
    cases hF
    refine ⟨_, _, sl', minus H own, Z, [], hG, at0, fun c ec σ' Z' H' hk e => ?_, fun c x ee => by cases ee⟩
    cases ec
    intro a'
    exact kk _ rfl .non Z' H' e (SR.masked (C := [(some .non, .d .none)]) (a'.data (v := .non) (x := .none) (by rw [repV])).2 (long σ' hk) hn (kept σ' hk))
  · rename_i c x sl' hG
    cases hF
    refine ⟨_, _, sl', minus H own, Z, [], hG, at0, fun c ec => (by cases ec), fun c' x' ee σ' hk dx v Z' H' e s' hd => ?_⟩
    cases ee
    exact ex _ _ rfl dx v Z' H' e (SR.masked (C := [(some v, .d x)]) s' (long σ' hk) hn (kept σ' hk)) hd
  · cases hF
theorem fnD_of {P : Program} {w : World} {K : PySem.W.Frag} {mg : Str → Option Value} {base : Heap} {k : Nat} {f : Addr} {fd : FuncData} {ps : List Str} {x qual : Str} {st : Stmt} {N : List Str} {kp : List Nat} {n m : Nat} {Fd : M SV} {G : M Ctl} (F : Fun K x qual st f fd) (S : FnScope N ps (defScope st)) (hn : ps.length = n) (hm : N.length = m) (hF : Fd = fnM n m kp G)
    (body : ∀ (cdv : Value) (A : Around) (outer : List Env) (s : Shared) (H : Hp) (E : XK), Room k (A.deeper (envOfC qual (defScope st) s.heap.objs.size f cdv)) → (A.deeper (envOfC qual (defScope st) s.heap.objs.size f cdv)).guards = some [] →
      DSs (cxOf (L2.CX P w) P w K mg base N qual (defScope st) f cdv A outer s H E) E kp (defBody st) G) : FnG P w K mg base (k + 1) f fd ps (spD mg n Fd) := by
  subst hn hm hF
  obtain ⟨oc, od, kV, doc, pm, an, cdv, ct, osl, rfl, lk, hcd⟩ := F.ex
  exact fnD_raw lk hcd S fun A outer s H E hr hg => body cdv A outer s H E hr hg
/-- what leaves a callee leaves the def -/
theorem passesD {P : Program} {w : World} {K : PySem.W.Frag} {mg : Str → Option Value} {base : Heap} {N : List Str} {qual : Str} {scope : Scope} {f : Addr} {cd : Value} {A : Around} {outer : List Env} {s : Shared} {H : Hp} {E : XK} :
    Passes (L2.CX P w) (cxOf (L2.CX P w) P w K mg base N qual scope f cd A outer s H E) E := passes_call (takes_of rfl rfl rfl rfl) fun _ _ _ _ h => h
theorem ownD {P : Program} {w : World} {K : PySem.W.Frag} {mg : Str → Option Value} {base : Heap} {N : List Str} {qual : Str} {scope : Scope} {f : Addr} {cd : Value} {A : Around} {outer : List Env} {s : Shared} {H : Hp} {E : XK} :
    PassesOwn (model P w) (A.deeper (envOfC qual scope s.heap.objs.size f cd)) (envOfC qual scope s.heap.objs.size f cd) (cxOf (L2.CX P w) P w K mg base N qual scope f cd A outer s H E).xe := passes_of (X := cxOf (L2.CX P w) P w K mg base N qual scope f cd A outer s H E) rfl

/-! ## a, b = x, y -/
section
variable {X : Cx} {E : XK} {kp : List Nat} {pos : Pos}
def mPar (is : List Nat) (fa : M (List SV)) : M Ctl := bnd fa fun xs => match is, xs with
  | [i, j], [x, y] => fun sl => if i < sl.length ∧ j < sl.length then some (.ok .nx, (sl.set i x).set j y) else none
  | [i, j, l], [x, y, z] => fun sl => if i < sl.length ∧ j < sl.length ∧ l < sl.length then some (.ok .nx, ((sl.set i x).set j y).set l z) else none
  | _, _ => fail
theorem ds_par {i j : Nat} {x y : Str} {a b : Expr} {fa : M (List SV)} {px py pt : Pos} {kt k2 pt2} (hc : X.calm = true) (hN : X.N.Nodup) (hi : X.N[i]? = some x) (hj : X.N[j]? = some y) (hij : i ≠ j) (ki : i ∉ kp) (kj : j ∉ kp)
    (hx : X.env.scope.names.lookup x = some .local) (hy : X.env.scope.names.lookup y = some .local) (ha : DA X E [a, b] fa)
    (hw : swappedStores [.Tuple [.Name x px, .Name y py] kt pt] (.Tuple [a, b] k2 pt2) X.env = pure (some [x, y]))
    (hs : swapsWithSole [.Tuple [.Name x px, .Name y py] kt pt] (.Tuple [a, b] k2 pt2) pos.line X.env = pure false := by rfl) :
    DS X E kp (.Assign [.Tuple [.Name x px, .Name y py] kt pt] (.Tuple [a, b] k2 pt2) pos) (mPar [i, j] fa) := by
  refine PSimp (ps_par hc hN hi hj hij hx hy ha hw hs) fun Dn σ H ⟨sl, res, sl', P, Z, tm, q, at0, k, ex⟩ => ?_
  refine runA q at0 (fun c x e => ex c x e σ (Kept.refl _ _)) fun xs sl1 vs Z1 H1 q1 l e1 a1 _ => ?_
  match xs, vs, l, q1, a1 with
  | [u, v], [p, r], _, q1, a1 =>
    have q1 : (if i < sl1.length ∧ j < sl1.length then some (Res.ok Ctl.nx, (sl1.set i u).set j v) else none) = some (res, sl') := q1
    split at q1
    · rename_i hl
      cases q1
      have a2 : At P Z1 H1 σ sl1 ((some r, v) :: (some p, u) :: tm) := by simpa using a1
      have a3 := At.put hl.1 a2.swap
      have a4 := At.put (i := j) (by simpa using hl.2) a3
      exact ⟨p, r, rfl, k _ rfl _ Z1 H1 ((Kept.set ki).trans (Kept.set kj)) e1 a4⟩
    · cases q1
  | [], _, _, q1, _ => cases q1
  | [_], _, _, q1, _ => cases q1
  | _ :: _ :: _ :: _, _, _, q1, _ => cases q1
theorem ds_par3 {i j m : Nat} {x y z : Str} {a b c : Expr} {fa : M (List SV)} {px py pz pt : Pos} {kt k2 pt2} (hc : X.calm = true) (hN : X.N.Nodup) (hi : X.N[i]? = some x) (hj : X.N[j]? = some y) (hm : X.N[m]? = some z) (hij : i ≠ j) (him : i ≠ m) (hjm : j ≠ m) (ki : i ∉ kp) (kj : j ∉ kp) (km : m ∉ kp)
    (hx : X.env.scope.names.lookup x = some .local) (hy : X.env.scope.names.lookup y = some .local) (hz : X.env.scope.names.lookup z = some .local) (ha : DA X E [a, b, c] fa)
    (hw : swappedStores [.Tuple [.Name x px, .Name y py, .Name z pz] kt pt] (.Tuple [a, b, c] k2 pt2) X.env = pure (some [x, y, z]))
    (hs : swapsWithSole [.Tuple [.Name x px, .Name y py, .Name z pz] kt pt] (.Tuple [a, b, c] k2 pt2) pos.line X.env = pure false := by rfl) :
    DS X E kp (.Assign [.Tuple [.Name x px, .Name y py, .Name z pz] kt pt] (.Tuple [a, b, c] k2 pt2) pos) (mPar [i, j, m] fa) := by
  refine PSimp (ps_par3 hc hN hi hj hm hij him hjm hx hy hz ha hw hs) fun Dn σ H ⟨sl, res, sl', P, Z, tm, q, at0, k, ex⟩ => ?_
  refine runA q at0 (fun c x e => ex c x e σ (Kept.refl _ _)) fun xs sl1 vs Z1 H1 q1 l e1 a1 _ => ?_
  match xs, vs, l, q1, a1 with
  | [u, v, w], [p, r, t], _, q1, a1 =>
    have q1 : (if i < sl1.length ∧ j < sl1.length ∧ m < sl1.length then some (Res.ok Ctl.nx, ((sl1.set i u).set j v).set m w) else none) = some (res, sl') := q1
    split at q1
    · rename_i hl
      cases q1
      have a2 : At P Z1 H1 σ sl1 ((some t, w) :: (some r, v) :: (some p, u) :: tm) := by simpa using a1
      have a2' : At P Z1 H1 σ sl1 ((some p, u) :: (some r, v) :: (some t, w) :: tm) := ⟨a2.1, a2.2.perm (List.Perm.append_right _ (((List.Perm.swap _ _ _).trans (List.Perm.cons _ (.swap _ _ _))).trans (.swap _ _ _)))⟩
      have a3 := At.put hl.1 a2'
      have a4 := At.put (i := j) (by simpa using hl.2.1) a3
      have a5 := At.put (i := m) (by simpa using hl.2.2) a4
      exact ⟨p, r, t, rfl, k _ rfl _ Z1 H1 (((Kept.set ki).trans (Kept.set kj)).trans (Kept.set km)) e1 a5⟩
    · cases q1
  | [], _, _, q1, _ => cases q1
  | [_], _, _, q1, _ => cases q1
  | [_, _], _, _, q1, _ => cases q1
  | _ :: _ :: _ :: _ :: _, _, _, q1, _ => cases q1
end
end DD

set_option Elab.async false
set_option linter.all false
set_option maxRecDepth 100000
/-! DD13: stores at an index, dicts. -/
namespace DD
open PySem PySem.Spec PyProof.Rows L2
/-! ## dicts of one's own -/
def putS : List (Key × SV) → Key → SV → Option (List (Key × SV))
  | [], k, x => some [(k, x)]
  | (k', y) :: r, k, x => if k' = k then (if (r.any fun p => decide (p.1 = k)) = true then none else some ((k, x) :: r)) else (putS r k x).map ((k', y) :: ·)
theorem repSk_keys {Z H : Hp} : ∀ {es : List (Key × SV)} {vs : List (Key × V)} {o : List Addr}, repSk Z H es vs o → vs.map (·.1) = es.map (·.1)
  | [], _, _, h => by rw [repSk] at h; rw [h.1]; rfl
  | (k, x) :: es, _, _, h => by
    rw [repSk] at h
    obtain ⟨v, r, o1, o2, rfl, _, _, h2⟩ := h
    simp [repSk_keys h2]
theorem putK_cons_ne {k' k : Key} {u v : V} {r : List (Key × V)} (h : ¬ k' = k) : putK ((k', u) :: r) k v = (k', u) :: putK r k v := by
  unfold putK
  rw [List.any_cons]
  simp only [h, decide_false, Bool.false_or]
  by_cases c : (r.any fun kv => decide (kv.1 = k)) = true
  · rw [if_pos c, if_pos c, List.map_cons]
    simp [h]
  · rw [if_neg c, if_neg c]
    rfl
theorem putK_cons_eq {k : Key} {u v : V} {r : List (Key × V)} (h : (r.any fun p => decide (p.1 = k)) = false) : putK ((k, u) :: r) k v = (k, v) :: r := by
  unfold putK
  rw [if_pos (by simp), List.map_cons]
  simp only [if_true]
  congr 1
  have : ∀ l : List (Key × V), (l.any fun p => decide (p.1 = k)) = false → (l.map fun kv => if kv.1 = k then (kv.1, v) else kv) = l := by
    intro l
    induction l with
    | nil => intro _; rfl
    | cons p l ih =>
      intro h
      rw [List.any_cons, Bool.or_eq_false_iff] at h
      rw [List.map_cons, ih h.2, if_neg (by simpa using h.1)]
  exact this r h
theorem repSk_put {Z H : Hp} {k : Key} {x : SV} {v : V} {ox : List Addr} (hx : repS Z H x v ox) : ∀ {es es' : List (Key × SV)} {vs : List (Key × V)} {o : List Addr}, repSk Z H es vs o → putS es k x = some es' → ∃ o' dr, (o ++ ox).Perm (o' ++ dr) ∧ repSk Z H es' (putK vs k v) o'
  | [], es', vs, o, h, hp => by
    rw [repSk] at h
    obtain ⟨rfl, rfl⟩ := h
    cases hp
    refine ⟨ox, [], by simp, ?_⟩
    show repSk Z H [(k, x)] [(k, v)] ox
    rw [repSk]
    exact ⟨v, [], ox, [], rfl, by simp, hx, by rw [repSk]; exact ⟨rfl, rfl⟩⟩
  | (k', y) :: r, es', vs, o, h, hp => by
    rw [repSk] at h
    obtain ⟨u, t, o1, o2, rfl, rfl, h1, h2⟩ := h
    unfold putS at hp
    split at hp
    · rename_i e
      subst e
      split at hp
      · cases hp
      · rename_i hn
        cases hp
        have hn2 : (t.any fun p => decide (p.1 = k')) = false := by
          have := repSk_keys h2
          have e1 : (t.any fun p => decide (p.1 = k')) = ((t.map (·.1)).any fun q => decide (q = k')) := by rw [List.any_map]; rfl
          rw [e1, this, List.any_map]
          exact Bool.eq_false_iff.mpr hn
        rw [putK_cons_eq hn2]
        refine ⟨ox ++ o2, o1, ?_, ?_⟩
        · refine List.perm_append_comm.trans ?_
          rw [List.append_assoc]
          exact List.Perm.append_left ox List.perm_append_comm
        · rw [repSk]
          exact ⟨v, t, ox, o2, rfl, rfl, hx, h2⟩
    · rename_i e
      cases hr : putS r k x with
      | none => rw [hr] at hp; cases hp
      | some r' =>
        rw [hr] at hp
        cases hp
        obtain ⟨o', dr, pm, h3⟩ := repSk_put hx h2 hr
        rw [putK_cons_ne e]
        refine ⟨o1 ++ o', dr, ?_, ?_⟩
        · rw [List.append_assoc, List.append_assoc]
          exact List.Perm.append_left o1 pm
        · rw [repSk]
          exact ⟨u, _, o1, o', rfl, rfl, h1, h3⟩
theorem repSk_len {Z H : Hp} {es : List (Key × SV)} {vs : List (Key × V)} {o : List Addr} (h : repSk Z H es vs o) : vs.length = es.length := by
  have := congrArg List.length (repSk_keys h)
  simpa using this
theorem repSs_set {Z H : Hp} {x : SV} {v : V} {ox : List Addr} (hx : repS Z H x v ox) : ∀ {xs : List SV} {vs : List V} {o : List Addr} (n : Nat), repSs Z H xs vs o → ∃ o' dr, (o ++ ox).Perm (o' ++ dr) ∧ repSs Z H (xs.set n x) (vs.set n v) o'
  | [], _, _, n, h => by
    rw [repSs] at h
    obtain ⟨rfl, rfl⟩ := h
    exact ⟨[], ox, .refl _, by show repSs Z H [] [] []; rw [repSs]; exact ⟨rfl, rfl⟩⟩
  | y :: xs, _, _, 0, h => by
    rw [repSs] at h
    obtain ⟨u, t, o1, o2, rfl, rfl, h1, h2⟩ := h
    refine ⟨ox ++ o2, o1, ?_, ?_⟩
    · refine List.perm_append_comm.trans ?_
      rw [List.append_assoc]
      exact List.Perm.append_left ox List.perm_append_comm
    · show repSs Z H (x :: xs) (v :: t) _
      rw [repSs]
      exact ⟨v, t, ox, o2, rfl, rfl, hx, h2⟩
  | y :: xs, _, _, n + 1, h => by
    rw [repSs] at h
    obtain ⟨u, t, o1, o2, rfl, rfl, h1, h2⟩ := h
    obtain ⟨o', dr, pm, h3⟩ := repSs_set hx n h2
    refine ⟨o1 ++ o', dr, ?_, ?_⟩
    · rw [List.append_assoc, List.append_assoc]
      exact List.Perm.append_left o1 pm
    · show repSs Z H (y :: xs.set n x) (u :: t.set n v) _
      rw [repSs]
      exact ⟨u, _, o1, o', rfl, rfl, h1, h3⟩
def setO : SV → D → SV → Option SV
  | .lst xs, .int j, x => (ixN xs.length j).map fun n => .lst (xs.set n x)
  | .dct es, k, x => if es.length < sizeLine then (dKey k).bind fun key => (putS es key x).map SV.dct else none
  | _, _, _ => none
section
variable {X : Cx} {E : XK} {pos : Pos} {kp : List Nat}
def isSeq : SV → Bool
  | .lst _ => true
  | .dct _ => true
  | _ => false
def mSetItem (i : Nat) (f g : M SV) : M Ctl := fun sl => match sl[i]? with
  | some x0 => if isSeq x0 = true then bnd f (fun x => bndD g fun k => fun sl2 => match sl2[i]? with
    | some y => (match setO y k x with
      | some z => some (.ok Ctl.nx, sl2.set i z)
      | none => none)
    | none => none) sl else none
  | none => none
theorem set_lst {P Z H : Hp} {L : List Cell} {p : Addr} {xs : List SV} {x : SV} {v : V} {n : Nat} (s : SR P Z H ((some v, x) :: (some (.ref p), .lst xs) :: L)) (hn : n < xs.length) : ∃ vs, H p = some (.lst vs) ∧ vs.length = xs.length ∧ SR P Z (upd H p (.lst (vs.set n v))) ((some (.ref p), .lst (xs.set n x)) :: L) := by
  obtain ⟨p', vs, e, hp, lw⟩ := SR.ownLst (A := [(some v, x)]) s
  cases e
  refine ⟨vs, hp, lw, ?_⟩
  refine SR.mutate (A := [(some v, x)]) (B := []) s (fun own r => by obtain ⟨_, o, e, _⟩ := repS_lst r; exact ⟨o, e⟩) fun oA o5 rA rO ne => ?_
  obtain ⟨ws', o, e, hp', r⟩ := repS_lst rO
  cases e
  rw [hp] at hp'
  cases hp'
  obtain ⟨o1, o2, e, r1, r2⟩ := rA
  cases (show o2 = [] from r2)
  subst e
  have kk : ∀ a, a ∈ o1 ∨ a ∈ o5 → upd H p (.lst (vs.set n v)) a = H a := fun a ha => upd_ne (ne a (by simpa using ha))
  obtain ⟨o', dr, pm, h3⟩ := repSs_set (repS_keep (H' := upd H p (.lst (vs.set n v))) (Sub0.refl _) (fun a ha => kk a (.inl ha)) (repO_get r1)) n (repSs_keep (Sub0.refl _) (fun a ha => kk a (.inr ha)) r)
  refine ⟨[], o', dr, ?_, rfl, ?_⟩
  · rw [List.append_nil, List.nil_append]
    exact List.perm_append_comm.trans pm
  · rw [repS]
    exact ⟨p, _, o', rfl, rfl, upd_same, h3⟩
theorem set_dct {P Z H : Hp} {L : List Cell} {p : Addr} {es es' : List (Key × SV)} {x : SV} {v : V} {k : Key} (s : SR P Z H ((some v, x) :: (some (.ref p), .dct es) :: L)) (hn : putS es k x = some es') : ∃ vs, H p = some (.dK vs) ∧ vs.length = es.length ∧ SR P Z (upd H p (.dK (putK vs k v))) ((some (.ref p), .dct es') :: L) := by
  obtain ⟨own, rr, nd, kk⟩ := s.ex
  obtain ⟨oA, oR, e, rA, o1, o2, e2, r1, r2⟩ := (repA_split (L := [(some v, x)]) rr)
  obtain ⟨vs, o, e0, hp, r0⟩ := repS_dct (repO_get r1)
  refine ⟨vs, hp, repSk_len r0, ?_⟩
  refine SR.mutate (A := [(some v, x)]) (B := []) s (fun own r => by obtain ⟨_, o, e, _⟩ := repS_dct r; exact ⟨o, e⟩) fun oA o5 rA rO ne => ?_
  obtain ⟨ws', o, e, hp', r⟩ := repS_dct rO
  cases e
  rw [hp] at hp'
  cases hp'
  obtain ⟨o1, o2, e, r1, r2⟩ := rA
  cases (show o2 = [] from r2)
  subst e
  have kk : ∀ a, a ∈ o1 ∨ a ∈ o5 → upd H p (.dK (putK vs k v)) a = H a := fun a ha => upd_ne (ne a (by simpa using ha))
  obtain ⟨o', dr, pm, h3⟩ := repSk_put (repS_keep (H' := upd H p (.dK (putK vs k v))) (Sub0.refl _) (fun a ha => kk a (.inl ha)) (repO_get r1)) (repSk_keep (Sub0.refl _) (fun a ha => kk a (.inr ha)) r) hn
  refine ⟨[], o', dr, ?_, rfl, ?_⟩
  · rw [List.append_nil, List.nil_append]
    exact List.perm_append_comm.trans pm
  · rw [repS]
    exact ⟨p, _, o', rfl, rfl, upd_same, h3⟩
/-- the state at the store -/
theorem store_at {P Z H : Hp} {σ : St} {sl : List SV} {tm : List Cell} {i : Nat} {v : V} {w : V} {kd : D} {x y : SV} (hv : σ[i]? = some (some v)) (hy : sl[i]? = some y) (a : At P Z H σ sl ((some w, .d kd) :: (some u, x) :: tm)) : SR P Z H ((some u, x) :: (some v, y) :: hole σ sl tm i) := by
  obtain ⟨ov, ho, s⟩ := a.open hy
  rw [hv] at ho
  cases ho
  have s2 : SR P Z H ((some u, x) :: hole σ sl tm i) := by
    have : SR P Z H ((some w, .d kd) :: (some u, x) :: hole σ sl tm i) := s.tail
    exact this.tail
  have s3 : SR P Z H ((some w, .d kd) :: (some v, y) :: (some u, x) :: hole σ sl tm i) := s.perm (.swap _ _ _)
  exact s3.tail.perm (.swap _ _ _)
theorem tOf_ok {mg : Str → Option Value} {E : XK} {F : M SV} {x : SV} {sl sl1 : List SV} {P Z H : Hp} {σ : St} {tm : List Cell} {R : VK} (hf : F sl = some (.ok x, sl1)) (a : At P Z H σ sl tm)
    (nx : ∀ v Z1 H1, Ext P Z Z1 → At P Z1 H1 σ sl1 ((some v, x) :: tm) → R v H1) : tOf mg E F σ H R :=
  ⟨sl, .ok x, sl1, P, Z, tm, hf, a, fun r er v Z' H' e a' => (by cases er; exact nx v Z' H' e a'), fun c x ee => by cases ee⟩
theorem ixN_lt {n j : Nat} {i : Int} (h : ixN n i = some j) : j < n := (ixN_seq h).2.1
theorem ds_setItem {i : Nat} {o ix e : Expr} {f g : M SV} {p' : Pos} (hu : X.A.units + 1 < cLine) (ho : PE X o (tVar i)) (hi : DE X E ix g) (he : DE X E e f) (hs : swapsWith e (some (.Subscript o ix p')) pos.line X.env = pure false := by rfl) (hss : swapsWithSole [.Subscript o ix p'] e pos.line X.env = pure false := by rfl) (hw : swappedStores [.Subscript o ix p'] e X.env = pure none := by rfl)
    (h1 : (assignEach [.Subscript o ix p'] X.env).map (·.2) = [assign (.Subscript o ix p') X.env] := by rfl)
    (ha : ∀ v, assign (.Subscript o ix p') X.env v = (do
      let ov ← holding [v] (eval o X.env)
      let iv ← holding [v, ov] (eval ix X.env)
      standAt p'
      holding [v, ov, iv] (setItem ov iv v)
      release [v, ov, iv] []) := by intro _; rfl) : DS X E kp (.Assign [.Subscript o ix p'] e pos) (mSetItem i f g) := by
  refine PSimp (PSor (ps_asg he (pg_sub ho hi set_list ha) hss hw h1) (ps_dput hu ho hi he hs)) fun Dn σ H ⟨sl, res, sl', P, Z, tm, q, at0, k, ex⟩ => ?_
  unfold mSetItem at q
  split at q
  · rename_i x0 h0
    split at q
    · rename_i hk0
      obtain ⟨v, hv⟩ := at0.slot_val h0 (by cases x0 <;> first | rfl | cases hk0)
      rcases bnd_inv q with ⟨x, s1, hf, q1⟩ | ⟨c, x, s1, hf, e⟩
      · rcases bndD_inv q1 with ⟨kd, s2, hg, hfull, q2⟩ | ⟨c, z, s2, hg, e⟩
        · split at q2
          · rename_i y hy
            split at q2
            · rename_i z hz
              cases q2
              cases y with
              | lst xs =>
                refine .inl (tOf_ok hf at0 fun u Z1 H1 e1 a1 => ⟨v, hv, tOf_known hg hfull a1 fun w Z2 H2 e2 a2 => ?_⟩)
                have rk := a2.d
                have st := store_at hv hy a2
                generalize kd.toD = dk at hz rk
                cases dk with
                | int j =>
                  dsimp only [setO] at hz
                  cases hn : ixN xs.length j with
                  | none => rw [hn] at hz; cases hz
                  | some n =>
                    rw [hn] at hz
                    cases hz
                    rw [repV] at rk
                    subst rk
                    obtain ⟨p, vs, rfl, hp, lw⟩ := SR.ownLst (A := [(some u, x)]) st
                    obtain ⟨vs', hp', lw', s3⟩ := set_lst st (ixN_lt hn)
                    rw [hp] at hp'
                    cases hp'
                    exact ⟨p, vs, j, n, rfl, rfl, hp, by rw [lw]; exact hn, k _ rfl σ Z2 _ (Kept.refl _ _) (e1.trans e2) (At.close' a2.1 hv s3)⟩
                | _ => cases hz
              | dct es =>
                refine .inr (tOf_ok hf at0 fun u Z1 H1 e1 a1 => ⟨v, hv, tOf_known hg hfull a1 fun w Z2 H2 e2 a2 => ?_⟩)
                have rk := a2.d
                have st := store_at hv hy a2
                generalize kd.toD = dk at hz rk
                have hz : (if es.length < sizeLine then (dKey dk).bind fun key => (putS es key x).map SV.dct else none) = some z := by cases dk <;> exact hz
                split at hz
                · rename_i hlen
                  cases hk : dKey dk with
                  | none => rw [hk] at hz; cases hz
                  | some key =>
                    rw [hk] at hz
                    dsimp only [Option.bind] at hz
                    cases hps : putS es key x with
                    | none => rw [hps] at hz; cases hz
                    | some es' =>
                      rw [hps] at hz
                      cases hz
                      obtain ⟨p, vs, rfl, hp⟩ := SR.ownDct (A := [(some u, x)]) st
                      obtain ⟨vs', hp', lw', s3⟩ := set_dct st hps
                      rw [hp] at hp'
                      cases hp'
                      exact ⟨p, _, rfl, .inl ⟨vs, key, hp, kV_of hk rk, by rw [lw']; exact hlen, rfl⟩, k _ rfl σ Z2 _ (Kept.refl _ _) (e1.trans e2) (At.close' a2.1 hv s3)⟩
                · cases hz
              | _ => cases hz
            · cases q2
          · cases q2
        · cases e
          exact .inl (tOf_ok hf at0 fun u Z1 H1 e1 a1 => ⟨v, hv, tOf_ex hg a1 ((ex _ _ rfl σ (Kept.refl _ _)).ext e1).drop⟩)
      · cases e
        exact .inl (tOf_ex hf at0 (ex _ _ rfl σ (Kept.refl _ _)))
    · cases q
  · cases q
end
end DD

set_option Elab.async false
set_option linter.all false
set_option maxRecDepth 100000
/-! DD14: small things more. -/
namespace DD
open PySem PySem.Spec PyProof.Rows L2
section
variable {X : Cx} {E : XK} {pos : Pos}
theorem pts_yes {mg : Str → Option Value} : PTs X [] (ttOf mg E0 (ret true)) := ⟨fun pins s σ H Q I ⟨sl, res, sl', P, Z, tm, q, a, k, _⟩ => pts_nil.run pins s σ H Q I (by
  cases q
  exact k true rfl Z H (Ext.refl _ _) a)⟩
theorem lenP {fa : M (List SV)} {k m n : Nat} (h : ∀ sl xs sl', fa sl = some (.ok xs, sl') → xs.length = k) (e : k + m + 1 = n) : ∀ sl xs sl', fa sl = some (.ok xs, sl') → xs.length + m + 1 = n := fun sl xs sl' q => by rw [h sl xs sl' q]; exact e
theorem lenA {fa : M (List SV)} {k m n : Nat} (h : ∀ sl xs sl', fa sl = some (.ok xs, sl') → xs.length = k) (e : k + m = n) : ∀ sl xs sl', fa sl = some (.ok xs, sl') → xs.length + m = n := fun sl xs sl' q => by rw [h sl xs sl' q]; exact e
theorem de_callX {e : Expr} {es : List Expr} {x : Str} {p : Pos} {k : Nat} {f : Addr} {fd : FuncData} {ps : List Str} {dvs : List V} {F : M SV} {n : Nat} {dd : List D} {fa : M (List SV)} (G : FnG X.prog X.w X.K X.mg X.base k f fd ps (spD X.mg n F)) (hg : X.A.guards = some []) (hr : Room k X.A) (gl : Gl X x) (hm : X.mg x = some (.ref f)) (hk : PySem.W.keepIn X.K (.ref f) = true) (hbd : ∃ ds, Vals dvs ds ∧ Binds X.K fd ps ds)
    (hx : Passes (L2.CX X.prog X.w) X E) (hdd : Dfl dvs dd) (ha : DA X E (e :: es) fa) (hn : ∀ sl xs sl', fa sl = some (.ok xs, sl') → xs.length + dd.length = n) (hdb : (x == ("__debug__" : Str)) = false := by decide) (he : starEach (e :: es) X.env = (false, eval e X.env) :: starEach es X.env := by rfl)
    (hpl : (backTo pos (starEach es X.env)).any (·.1) = false := by rfl) : DE X E (.Call (.Name x p) (e :: es) [] pos) (mCall F dd fa) := by
  obtain ⟨ds, hd, hb⟩ := hbd
  exact de_call G hg hr gl hm hk hb hd hx hdd ha hn hdb he hpl
def bitsD : D → Option SV
  | .int i => some (.d (.int (Builtin.Int.intBits i : Nat)))
  | _ => none
theorem de_bits {o : Expr} {f : M SV} {apos : Pos} (h : DE X E o f) (hbase : attributeBase o "bit_length" X.env (eval o X.env) = eval o X.env := by rfl) (hline : (apos.endLine == pos.line) = true := by rfl) : DE X E (.Call (.Attribute o "bit_length" apos) [] [] pos) (mUn bitsD f) := by
  refine PEimp (pe_bits h hbase hline) fun σ H Q ⟨sl, res, sl', P, Z, tm, q, a, k, ex⟩ => ?_
  refine run1D q a ex fun x sl1 v Z1 H1 q1 e1 a1 _ => ?_
  obtain ⟨r, hr, e⟩ := lift_inv q1
  cases e
  have rv := a1.d
  cases x with
  | int i =>
    cases hr
    rw [repV] at rv
    exact ⟨i, rv, k _ rfl _ Z1 H1 e1 (a1.tail.data (by rw [repV]))⟩
  | _ => cases hr
/-- d.get(k, x) -/
def mGet (fo fk fx : M SV) : M SV := bndD fo fun o => match o with
  | .dict kvs => bndD fk fun y => bndD fx fun z => lift ((dKey y).map fun k => .d ((lookK kvs k).getD z))
  | _ => fail
theorem de_get {o e f : Expr} {fo fk fx : M SV} {apos cpos : Pos} (hu : X.A.units + 1 < cLine) (ho : DE X E o fo) (he : DE X E e fk) (hf : DE X E f fx) (m : M2 X o "get" apos e f cpos) : DE X E (.Call (.Attribute o "get" apos) [e, f] [] cpos) (mGet fo fk fx) := by
  refine PEimp (pe_dget2 hu ho he hf m) fun σ H Q ⟨sl, res, sl', P, Z, tm, q, a, k, ex⟩ => ?_
  unfold mGet at q
  rcases bndD_inv q with ⟨x, s1, hf1, hx, q1⟩ | ⟨c, x, s1, hf1, e⟩
  · generalize hxx : x.toD = d at q1
    cases d with
    | dict kvs =>
      refine tOf_known hf1 hx a fun v Z1 H1 e1 a1 => ?_
      rw [hxx] at a1
      have rv := a1.d
      rw [repV] at rv
      obtain ⟨p, es, rfl, z, rl⟩ := rv
      refine ⟨p, rfl, .inl ⟨es, a1.2.zed p _ z⟩, ?_⟩
      refine run1D q1 a1 (fun c y ee => ((ex c y ee).ext e1).drop) fun y s2 w Z2 H2 q2 e2 a2 ex2 => ?_
      refine run1D q2 a2 ex2 fun zz s3 w3 Z3 H3 q3 e3 a3 ex3 => ?_
      obtain ⟨r, hr, e⟩ := lift_inv q3
      cases e
      cases hk : dKey y with
      | none => rw [hk] at hr; cases hr
      | some key =>
        rw [hk] at hr
        cases hr
        have rz := a3.d
        have ry := a3.tail.d
        have z3 : Z3 p = some (.dK es) := e3.ext _ _ (e2.ext _ _ z)
        have rl3 := repK_ext (Sub0.trans e2.ext e3.ext) rl
        refine ⟨valV es key, .inl ⟨es, key, a3.2.zed p _ z3, kV_of hk ry, rfl⟩, ?_⟩
        have a4 := a3.tail.tail.tail
        rcases look_rep (k := key) rl3 with ⟨h1, h2⟩ | ⟨d', u, h1, h2, ru⟩
        · rw [h2]
          exact k _ rfl _ Z3 H3 ((e1.trans e2).trans e3) (by dsimp only; rw [h1]; exact a4.data rz)
        · rw [h2]
          exact k _ rfl _ Z3 H3 ((e1.trans e2).trans e3) (by dsimp only; rw [h1]; exact a4.data ru)
    | _ =>
      cases q1
  · cases e
    exact tOf_ex hf1 a (ex _ _ rfl)
def mDictNew : M SV := ret (.dct [])
theorem SR.newDct {P Z H : Hp} {L : List Cell} {p : Addr} (s : SR P Z H L) (hp : H p = none) : SR P Z (upd H p (.dK [])) ((some (.ref p), .dct []) :: L) := by
  have s2 : SR P Z H ((List.zip (([] : List V).map some) ([] : List SV)).reverse ++ L) := by simpa using s
  exact SR.gather (n := .dct []) (vs := []) (xs := []) s2 rfl (o := .dK []) hp fun H' own hh rr => by
    rw [repSs] at rr
    rw [repS]
    exact ⟨p, [], own, rfl, rfl, hh, by rw [repSk]; exact ⟨rfl, rr.2⟩⟩
theorem de_dictNew : DE X E (.Dict [] [] pos) mDictNew := by
  refine PEimp pe_dnewK fun σ H Q ⟨sl, res, sl', P, Z, tm, q, a, k, ex⟩ p hp => ?_
  cases q
  exact k _ rfl _ Z _ (Ext.refl _ _) ⟨a.1, SR.newDct (L := tm ++ List.zip σ sl) a.2 hp⟩
def mRaise0 : M Ctl := fail
theorem ds_fail {kp : List Nat} {st : Stmt} : DS X E kp st fail := ⟨fun _ _ _ _ _ _ ⟨_, _, _, _, _, _, q, _⟩ => (by cases q)⟩
end
end DD

set_option Elab.async false
set_option linter.all false
set_option maxRecDepth 100000
/-! DD15: dicts walked by their keys, lists of one's own walked, dict comprehensions. -/
namespace DD
open PySem PySem.Spec PyProof.Rows L2
section
variable {P Z H : Hp} {L : List Cell} {d : Addr} {u : HO} {od : Obj}
/-- the same, d locked and protected -/
theorem SR.lock (s : SR P Z H L) (z : Z d = some u) : SR (upd P d (.frz od u)) Z (upd H d (.frz od u)) L := by
  obtain ⟨own, r, nd, k⟩ := s.ex
  have ne : ∀ a ∈ own, a ≠ d := fun a ha e => by subst e; rw [(k a ha).2] at z; cases z
  refine ⟨fun a o e => ?_, fun a w e => ?_, own, repA_keep (Sub0.refl _) (fun a ha => upd_ne (ne a ha)) r, nd, fun a ha => ⟨by rw [upd_ne (ne a ha)]; exact (k a ha).1, (k a ha).2⟩⟩
  · by_cases h : a = d
    · subst h; rw [upd_same] at e ⊢; exact e
    · rw [upd_ne h] at e ⊢; exact s.prot a o e
  · by_cases h : a = d
    · subst h; rw [z] at e; cases e; exact .inr ⟨od, upd_same⟩
    · rcases s.zed a w e with q | ⟨ob, q⟩
      · exact .inl (by rw [upd_ne h]; exact q)
      · exact .inr ⟨ob, by rw [upd_ne h]; exact q⟩
theorem SR.pinned (s : SR P Z H L) (z : Z d = some u) (h : H d = some (.frz od u)) : SR (upd P d (.frz od u)) Z H L := by
  have e : H = upd H d (.frz od u) := by
    funext b
    unfold upd
    split
    · rename_i e; subst e; exact h
    · rfl
  have := s.lock (od := od) z
  rwa [← e] at this
theorem SR.unlock (hp : P d = none ∨ P d = some u) (z : Z d = some u) (s : SR (upd P d (.frz od u)) Z H L) : SR P Z (upd H d u) L := by
  obtain ⟨own, r, nd, k⟩ := s.ex
  have ne : ∀ a ∈ own, a ≠ d := fun a ha e => by subst e; rw [(k a ha).2] at z; cases z
  refine ⟨fun a o e => ?_, fun a w e => ?_, own, repA_keep (Sub0.refl _) (fun a ha => upd_ne (ne a ha)) r, nd, fun a ha => ⟨by have := (k a ha).1; rwa [upd_ne (ne a ha)] at this, (k a ha).2⟩⟩
  · by_cases h : a = d
    · subst h
      rw [upd_same]
      rcases hp with q | q <;> rw [q] at e <;> cases e
      rfl
    · rw [upd_ne h]; exact s.prot a o (by rw [upd_ne h]; exact e)
  · by_cases h : a = d
    · subst h; rw [z] at e; cases e; exact .inl upd_same
    · rcases s.zed a w e with q | ⟨ob, q⟩
      · exact .inl (by rw [upd_ne h]; exact q)
      · exact .inr ⟨ob, by rw [upd_ne h]; exact q⟩
theorem SR.unpin (hp : P d = none ∨ P d = some (.frz od u)) (z : Z d = some u) (s : SR (upd P d (.frz od u)) Z H L) : SR P Z H L := by
  obtain ⟨own, r, nd, k⟩ := s.ex
  have ne : ∀ a ∈ own, a ≠ d := fun a ha e => by subst e; rw [(k a ha).2] at z; cases z
  refine ⟨fun a o e => ?_, s.zed, own, r, nd, fun a ha => ⟨by have := (k a ha).1; rwa [upd_ne (ne a ha)] at this, (k a ha).2⟩⟩
  by_cases h : a = d
  · subst h
    rcases hp with q | q <;> rw [q] at e <;> cases e
    exact s.prot a _ upd_same
  · exact s.prot a o (by rw [upd_ne h]; exact e)
theorem Ext.unpin {Z' : Hp} (e : Ext (upd P d (.frz od u)) Z Z') : Ext P Z Z' := ⟨e.ext, fun a w h => (e.new a w h).imp_right fun q => by
  by_cases h : a = d
  · subst h; rw [upd_same] at q; cases q
  · rwa [upd_ne h] at q⟩
end
/-- the keys -/
def keysD (kvs : List (D × D)) : List D := kvs.map (·.1)
theorem yields_keys {P Z : Hp} {d : Addr} {od : Obj} {es : List (Key × V)} {kvs : List (D × D)} (hp : P d = some (.frz od (.dK es))) (r : repK Z kvs es) : Yields (Itk d od es) P Z (keysD kvs) where
  go := fun Z1 H L i e s hi => ⟨s.prot _ _ hp, by rw [repK_len r]; simpa [keysD] using hi⟩
  yld := fun Z1 H L i x H' dd e s hd y => by
    obtain ⟨rfl, k, v, hk, rfl⟩ := y
    have rl := repK_keys (repK_ext e.ext r)
    obtain ⟨w, hw, rv⟩ := repL_get rl hd
    rw [List.getElem?_map, hk] at hw
    cases hw
    exact ⟨Z1, Ext.refl _ _, s.data rv⟩
  stop := fun Z1 H L e s => ⟨s.prot _ _ hp, by rw [repK_len r]; simp [keysD]⟩
section
variable {X : Cx} {E : XK} {pos : Pos} {kp : List Nat}
def mForK (i : Nat) (T : SV → M Unit) (b : M Ctl) : M Ctl := fun sl => match sl[i]? with
  | some x => if x.full = true then (match x.toD with
    | .dict kvs => (match forL T b (keysD kvs) (sl.set i (.d (.dict kvs))) with
      | some (.ok c, sl') => some (.ok c, sl')
      | _ => none)
    | _ => none) else none
  | none => none
/-- the slot's dict, frozen -/
theorem At.dictAt {P Z H : Hp} {σ : St} {sl : List SV} {tm : List Cell} {i : Nat} {x : SV} {kvs : List (D × D)} (a : At P Z H σ sl tm) (hx : sl[i]? = some x) (f : x.full = true) (hd : x.toD = .dict kvs) :
    ∃ d es Z', σ[i]? = some (some (.ref d)) ∧ Ext P Z Z' ∧ At P Z' H σ (sl.set i (.d (.dict kvs))) tm ∧ Z' d = some (.dK es) ∧ repK Z' kvs es := by
  obtain ⟨ov, ho, s⟩ := a.open hx
  obtain ⟨v, rfl⟩ := s.val f
  obtain ⟨Z', ez, s'⟩ := s.freeze f
  rw [hd] at s'
  have r := s'.get_d
  rw [repV] at r
  obtain ⟨p, es, rfl, z, rk⟩ := r
  exact ⟨p, es, Z', ho, ez, At.close' a.1 ho s', z, rk⟩
theorem prot_case {P H : Hp} {d : Addr} {w : HO} (hp : ∀ a o, P a = some o → H a = some o) (h : H d = some w) : P d = none ∨ P d = some w := by
  cases q : P d with
  | none => exact .inl rfl
  | some o =>
    have := hp d o q
    rw [h] at this
    cases this
    exact .inr rfl
theorem ds_forK {i : Nat} {tg iter : Expr} {body : List Stmt} {T : SV → M Unit} {G : M Ctl} (hp : PassesOwn (model X.prog X.w) X.A X.env X.xe) (hc : X.calm = true) (hi : PE X iter (tVar i)) (hg : DG X kp tg T) (hb : DSs X E kp body G)
    (hs : ∀ x, foldedSetIterable iter X.env x = pure x := by intro _; rfl) : DS X E kp (.For tg iter body [] pos) (mForK i T G) := by
  have h0 := ps_for (pos := pos) hp hc (pi_keys hi) hg hb hs
  refine PSimp (PSor (ps_lock h0) h0) fun Dn σ H ⟨sl, res, sl', P, Z, tm, q, a, k, ex⟩ => ?_
  unfold mForK at q
  split at q
  · rename_i x hx
    split at q
    · rename_i f
      split at q
      · rename_i kvs hd
        split at q
        · rename_i c sl2 hf
          cases q
          obtain ⟨d, es, Z1, hσ, e1, a1, z1, rk⟩ := a.dictAt hx f hd
          rcases a1.2.zed d _ z1 with hH | ⟨od, hH⟩
          · refine .inl ⟨d, .dK es, hH, trivial, fun od => ⟨.ref d, hσ, d, od, rfl, .inl ⟨es, upd_same, ?_⟩⟩⟩
            have pc := prot_case a1.2.prot hH
            refine tFor_core (E := E) (P := upd P d (.frz od (.dK es))) (fun _ _ _ _ h => h) (fun _ _ _ h => h) hf ⟨a1.1, a1.2.lock z1⟩ (yields_keys upd_same rk) (fun c' ec σ' Z' H' kk e' => ?_) (fun c x ee => by cases ee)
            cases ec
            have e2 : Ext P Z Z' := e1.trans e'.unpin
            have z2 := e'.ext _ _ z1
            have kk2 := k _ rfl σ' Z' (upd H' d (.dK es)) kk e2
            cases c with
            | nx => exact fun a' => ⟨a'.2.prot _ _ upd_same, kk2 ⟨a'.1, a'.2.unlock pc z2⟩⟩
            | bk => exact fun a' => ⟨a'.2.prot _ _ upd_same, kk2 ⟨a'.1, a'.2.unlock pc z2⟩⟩
            | ct => exact fun a' => ⟨a'.2.prot _ _ upd_same, kk2 ⟨a'.1, a'.2.unlock pc z2⟩⟩
            | rt r => exact fun v a' => ⟨a'.2.prot _ _ upd_same, kk2 v ⟨a'.1, a'.2.unlock pc z2⟩⟩
          · refine .inr ⟨.ref d, hσ, d, od, rfl, .inl ⟨es, hH, ?_⟩⟩
            have pc := prot_case a1.2.prot hH
            refine tFor_core (E := E) (P := upd P d (.frz od (.dK es))) (fun _ _ _ _ h => h) (fun _ _ _ h => h) hf ⟨a1.1, a1.2.pinned z1 hH⟩ (yields_keys upd_same rk) (fun c' ec σ' Z' H' kk e' => ?_) (fun c x ee => by cases ee)
            cases ec
            have e2 : Ext P Z Z' := e1.trans e'.unpin
            have z2 := e'.ext _ _ z1
            have kk2 := k _ rfl σ' Z' H' kk e2
            cases c with
            | nx => exact fun a' => kk2 ⟨a'.1, a'.2.unpin pc z2⟩
            | bk => exact fun a' => kk2 ⟨a'.1, a'.2.unpin pc z2⟩
            | ct => exact fun a' => kk2 ⟨a'.1, a'.2.unpin pc z2⟩
            | rt r => exact fun v a' => kk2 v ⟨a'.1, a'.2.unpin pc z2⟩
        · cases q
      · cases q
    · cases q
  · cases q
def mCompK (N : Nat) (vs : List Nat) (i : Nat) (T : SV → M Unit) (t : M Bool) (f : M SV) : M SV := fun sl => match sl[i]? with
  | some x => if x.full = true then (match x.toD with
    | .dict kvs => if sl.length = N then (match compL vs T t f (keysD kvs) [] (wipeS (sl.set i (.d (.dict kvs))) vs) with
      | some (.ok xs, sl') => some (.ok (.lst xs), unwipe (sl.set i (.d (.dict kvs))) vs sl')
      | _ => none) else none
    | _ => none) else none
  | none => none
theorem de_compK {i : Nat} {elt tg iter : Expr} {ifs : List Expr} {scope : Scope} {own : List (Str × Nat)} {T : SV → M Unit} {t : M Bool} {f : M SV} (hc : X.calm = true) (hN : X.N.Nodup) (hi : PE X iter (tVar i)) (ok : BlkOk X.N X.env.scope scope own)
    (hg : ∀ (s : Shared) (H : Hp) (C : Addr) (cl : List (Str × Addr)) (fp : List Addr), DG (X.blk s H scope (compEnvC scope cl C X.env) fp) (others X.N.length (own.map (·.2))) tg T)
    (ht : ∀ (s : Shared) (H : Hp) (C : Addr) (cl : List (Str × Addr)) (fp : List Addr), PTs (X.blk s H scope (compEnvC scope cl C X.env) fp) ifs (ttOf X.mg E0 t))
    (he : ∀ (s : Shared) (H : Hp) (C : Addr) (cl : List (Str × Addr)) (fp : List Addr), DE (X.blk s H scope (compEnvC scope cl C X.env) fp) E0 elt f) (nd : (own.map (·.2)).Nodup) (hv : ∀ v ∈ own.map (·.2), v < X.N.length)
    (hs : ∀ x, foldedSetIterable iter X.env x = pure x := by intro _; rfl) : DE X E (.ListComp elt [⟨tg, iter, ifs, 0⟩] scope pos) (mCompK X.N.length (own.map (·.2)) i T t f) := by
  have h0 := pe_lc (te := tOf X.mg E0 f) (g := tgOf (others X.N.length (List.map (fun (x : Str × Nat) => x.2) own)) T) (pos := pos) hc hN (pi_keys (tg := tg) hi) ok hg ht he hs
  refine PEimp (PEor (pe_lock h0) h0) fun σ H Q ⟨sl, res, sl', P, Z, tm, q, a, k, ex⟩ => ?_
  unfold mCompK at q
  split at q
  · rename_i x hx
    split at q
    · rename_i f
      split at q
      · rename_i kvs hd
        split at q
        · rename_i lN
          split at q
          · rename_i xs sl2 hf
            cases q
            obtain ⟨d, es, Z1, hσ, e1, a1, z1, rk⟩ := a.dictAt hx f hd
            rcases a1.2.zed d _ z1 with hH | ⟨od, hH⟩
            · refine .inl ⟨d, .dK es, hH, trivial, fun od => ⟨.ref d, hσ, d, od, rfl, .inl ⟨es, upd_same, ?_⟩⟩⟩
              have pc := prot_case a1.2.prot hH
              refine tLc_core (X := X) (N := X.N.length) (P := upd P d (.frz od (.dK es))) (Q := fun v H' => H' d = some (.frz od (.dK es)) ∧ Q v (upd H' d (.dK es))) nd hv (fun _ _ _ _ h => h) (fun _ _ _ h => h) (fun _ _ _ h => h) (yields_keys upd_same rk) ⟨a1.1, a1.2.lock z1⟩ (by simpa using lN) hf fun p Zc Hc ec ac => ?_
              exact ⟨ac.2.prot _ _ upd_same, k _ rfl _ Zc _ (e1.trans ec.unpin) ⟨ac.1, ac.2.unlock pc (ec.ext _ _ z1)⟩⟩
            · refine .inr ⟨.ref d, hσ, d, od, rfl, .inl ⟨es, hH, ?_⟩⟩
              have pc := prot_case a1.2.prot hH
              refine tLc_core (X := X) (N := X.N.length) (P := upd P d (.frz od (.dK es))) (Q := Q) nd hv (fun _ _ _ _ h => h) (fun _ _ _ h => h) (fun _ _ _ h => h) (yields_keys upd_same rk) ⟨a1.1, a1.2.pinned z1 hH⟩ (by simpa using lN) hf fun p Zc Hc ec ac => ?_
              exact k _ rfl _ Zc _ (e1.trans ec.unpin) ⟨ac.1, ac.2.unpin pc (ec.ext _ _ z1)⟩
          · cases q
        · cases q
      · cases q
    · cases q
  · cases q
/-! ## a list of one's own walked, its items with it -/
def forO (T : SV → M Unit) (b : M Ctl) : List SV → M Ctl
  | [] => ret .nx
  | x :: r => fun sl => match T x sl with
    | some (.ok _, sl1) => (match b sl1 with
      | some (.ok .nx, sl2) => forO T b r sl2
      | some (.ok .ct, sl2) => forO T b r sl2
      | some (.ok .bk, sl2) => some (.ok .nx, sl2)
      | some (.ok (.rt v), sl2) => some (.ok (.rt v), sl2)
      | _ => none)
    | _ => none
def mForO (f : M SV) (T : SV → M Unit) (b : M Ctl) : M Ctl := fun sl => match f sl with
  | some (.ok (.lst xs), sl1) => (match forO T b xs sl1 with
    | some (.ok c, sl2) => some (.ok c, sl2)
    | _ => none)
  | _ => none
theorem repA_of {Z H : Hp} : ∀ {vs : List V} {xs : List SV} {o : List Addr}, repSs Z H xs vs o → repA Z H (zipA vs xs) o
  | _, [], _, r => by
    rw [repSs] at r
    obtain ⟨rfl, rfl⟩ := r
    rfl
  | _, x :: xs, _, r => by
    rw [repSs] at r
    obtain ⟨v, t, o1, o2, rfl, rfl, h1, h2⟩ := r
    exact ⟨o1, o2, rfl, repO_of h1, repA_of h2⟩
/-- the list alone is frozen; its items are at hand -/
theorem SR.spine {P Z H : Hp} {L : List Cell} {v : V} {xs : List SV} (s : SR P Z H ((some v, .lst xs) :: L)) : ∃ p vs Z', v = .ref p ∧ vs.length = xs.length ∧ Ext P Z Z' ∧ Z' p = some (.lst vs) ∧ SR P Z' H (zipA vs xs ++ L) := by
  obtain ⟨own, ⟨o1, o2, e, h1, h2⟩, nd, k⟩ := s.ex
  subst e
  have r := repO_get h1
  rw [repS] at r
  obtain ⟨p, vs, o, rfl, rfl, hp, rs⟩ := r
  rw [List.cons_append, List.nodup_cons] at nd
  have zp : Z p = none := (k p (List.mem_cons_self ..)).2
  have ez : Sub0 Z (upd Z p (.lst vs)) := fun a u e => by
    rw [upd_ne (fun z => by subst z; rw [zp] at e; cases e)]; exact e
  refine ⟨p, vs, upd Z p (.lst vs), rfl, repSs_len rs, ⟨ez, fun a u e => ?_⟩, upd_same, s.prot, fun a u e => ?_, o ++ o2, repA_append ?_ (repA_keep ez (fun _ _ => rfl) h2), nd.2, fun a ha => ?_⟩
  · by_cases h : a = p
    · subst h; exact .inr (k a (List.mem_cons_self ..)).1
    · rw [upd_ne h] at e; exact .inl ⟨u, e⟩
  · by_cases h : a = p
    · subst h; rw [upd_same] at e; cases e; exact .inl hp
    · rw [upd_ne h] at e; exact s.zed a u e
  · exact repA_keep ez (fun _ _ => rfl) (repA_of rs)
  · have hm : a ∈ (p :: o) ++ o2 := by rw [List.cons_append]; exact List.mem_cons_of_mem _ ha
    have ne : a ≠ p := fun z => by subst z; exact nd.1 ha
    exact ⟨(k a hm).1, by rw [upd_ne ne]; exact (k a hm).2⟩
theorem SR.drops {P Z H : Hp} {L : List Cell} : ∀ (A : List Cell), SR P Z H (A ++ L) → SR P Z H L
  | [], s => s
  | _ :: A, s => SR.drops A s.tail
theorem forO_core {p : Addr} {vs0 : List V} {xs0 : List SV} {T : SV → M Unit} {G : M Ctl} {Dn : Ends} {σ0 : St} {P Z1 H1 : Hp} {tm : List Cell} {sl1 sl' : List SV} {c : Ctl} (lv : vs0.length = xs0.length) (z : Z1 p = some (.lst vs0))
    (q1 : forO T G xs0 sl1 = some (.ok c, sl')) (a1 : At P Z1 H1 σ0 sl1 (zipA vs0 xs0 ++ tm)) (k : ∀ σ' Z' H', Kept kp σ0 σ' → Ext P Z1 Z' → goOn Dn P Z' H' σ' sl' tm c) :
    tFor (fun _ _ R => R (Itl X.K p) H1) (tgOf kp T) (tsOf X.mg E kp G) Dn σ0 H1 := by
  refine ⟨fun i m σ H => ∃ s Zc, i + m = xs0.length ∧ forO T G (xs0.drop i) s = some (.ok c, sl') ∧ At P Zc H σ s (zipA (vs0.drop i) (xs0.drop i) ++ tm) ∧ Kept kp σ0 σ ∧ Ext P Z1 Zc, ⟨xs0.length, sl1, Z1, by simp, by simpa using q1, by simpa using a1, Kept.refl _ _, Ext.refl _ _⟩, ?_⟩
  rintro i m σ H ⟨s, Zc, hm, qi, ai, ki, ei⟩
  have rd : SqL X.K H p vs0 := .inl (ai.2.zed p _ (ei.ext _ _ z))
  by_cases hi : i < xs0.length
  · have hv : i < vs0.length := by omega
    refine .inr ⟨⟨vs0, _, rd, List.getElem?_eq_getElem hv⟩, fun σ' H' => ∃ s2 Z2, forO T G (xs0.drop (i + 1)) s2 = some (.ok c, sl') ∧ At P Z2 H' σ' s2 (zipA (vs0.drop (i + 1)) (xs0.drop (i + 1)) ++ tm) ∧ Kept kp σ0 σ' ∧ Ext P Z1 Z2, fun σ' H' ⟨s2, Z2, h1, h2, h3, h4⟩ => ⟨m - 1, by omega, s2, Z2, by omega, h1, h2, h3, h4⟩, fun x H' yl => ?_⟩
    obtain ⟨rfl, hx⟩ := yl
    have hx := hx vs0 rd
    rw [List.getElem?_eq_getElem hv] at hx
    cases hx
    rw [List.drop_eq_getElem_cons hi] at qi ai
    rw [List.drop_eq_getElem_cons hv] at ai
    unfold forO at qi
    split at qi
    · rename_i u s3 hT
      refine ⟨_, s, s3, P, Zc, zipA (vs0.drop (i + 1)) (xs0.drop (i + 1)) ++ tm, hT, ai, fun σ2 Z3 H3 k2 e3 a3 => ?_⟩
      split at qi
      · rename_i s4 hG
        refine ⟨s3, .ok .nx, s4, P, Z3, _, hG, a3, fun c' ec σ' Z' H' kk e => ?_, fun c x ee => by cases ee⟩
        cases ec
        exact fun a' => ⟨s4, Z', qi, a', (ki.trans k2).trans kk, ei.trans (e3.trans e)⟩
      · rename_i s4 hG
        refine ⟨s3, .ok .ct, s4, P, Z3, _, hG, a3, fun c' ec σ' Z' H' kk e => ?_, fun c x ee => by cases ee⟩
        cases ec
        exact fun a' => ⟨s4, Z', qi, a', (ki.trans k2).trans kk, ei.trans (e3.trans e)⟩
      · rename_i s4 hG
        cases qi
        refine ⟨s3, .ok .bk, _, P, Z3, _, hG, a3, fun c' ec σ' Z' H' kk e => ?_, fun c x ee => by cases ee⟩
        cases ec
        exact fun a' => k σ' Z' H' ((ki.trans k2).trans kk) (ei.trans (e3.trans e)) ⟨a'.1, by have := a'.2; rw [List.append_assoc] at this; exact SR.drops _ this⟩
      · rename_i r s4 hG
        cases qi
        refine ⟨s3, .ok (.rt r), _, P, Z3, _, hG, a3, fun c' ec σ' Z' H' kk e => ?_, fun c x ee => by cases ee⟩
        cases ec
        refine fun v a' => k σ' Z' H' ((ki.trans k2).trans kk) (ei.trans (e3.trans e)) v ⟨a'.1, ?_⟩
        have h := a'.2
        have h2 : SR P Z' H' (zipA (vs0.drop (i + 1)) (xs0.drop (i + 1)) ++ (((some v, r) :: tm) ++ List.zip σ' sl')) := h.perm (by
          simp only [List.cons_append, List.append_assoc]
          exact List.perm_middle.symm)
        exact SR.drops _ h2
      · cases qi
    · cases qi
  · have hl : i = xs0.length := by omega
    subst hl
    rw [List.drop_length] at qi ai
    cases qi
    refine .inl ⟨⟨vs0, rd, by omega⟩, k σ Zc H ki ei ?_⟩
    have : vs0.drop xs0.length = [] := by rw [← lv, List.drop_length]
    rw [this] at ai
    simpa using ai
theorem ds_forO {tg e : Expr} {body : List Stmt} {f : M SV} {T : SV → M Unit} {G : M Ctl} (hp : PassesOwn (model X.prog X.w) X.A X.env X.xe) (hc : X.calm = true) (he : DE X E e f) (hg : DG X kp tg T) (hb : DSs X E kp body G)
    (hs : ∀ x, foldedSetIterable e X.env x = pure x := by intro _; rfl) : DS X E kp (.For tg e body [] pos) (mForO f T G) := by
  refine PSimp (ps_for (pos := pos) hp hc (pi_list (tg := tg) he) hg hb hs) fun Dn σ H ⟨sl, res, sl', P, Z, tm, q, a, k, ex⟩ => ?_
  unfold mForO at q
  split at q
  · rename_i xs sl1 hf
    split at q
    · rename_i c sl2 hg2
      cases q
      refine tOf_ok hf a fun v Z1 H1 e1 a1 => ?_
      obtain ⟨p, vs, Z2, rfl, lv, e2, z2, s2⟩ := SR.spine (L := tm ++ List.zip σ sl1) a1.2
      have a2 : At P Z2 H1 σ sl1 (zipA vs xs ++ tm) := ⟨a1.1, by rw [List.append_assoc]; exact s2⟩
      refine ⟨p, rfl, ⟨vs, .inl (s2.zed p _ z2)⟩, ?_⟩
      exact forO_core lv z2 hg2 a2 fun σ' Z' H' kk e' => k _ rfl σ' Z' H' kk ((e1.trans e2).trans e')
    · cases q
  · cases q
/-! ## dict comprehensions -/
def compD (vs : List Nat) (T : SV → M Unit) (t : M Bool) (fk f : M SV) : List D → List (Key × SV) → M (List (Key × SV))
  | [], acc => ret acc
  | d :: r, acc => fun sl => match T (.d d) sl with
    | some (.ok _, sl1) => (match t sl1 with
      | some (.ok true, sl2) => (match bndD fk (fun y => bnd f fun x => ret (y, x)) sl2 with
        | some (.ok (y, x), sl3) => if acc.length < sizeLine then (match dKey y with
          | some key => (match putS acc key x with
            | some acc' => compD vs T t fk f r acc' (wipeS sl3 vs)
            | none => none)
          | none => none) else none
        | _ => none)
      | some (.ok false, sl2) => compD vs T t fk f r acc (wipeS sl2 vs)
      | _ => none)
    | _ => none
def mDComp (N : Nat) (vs : List Nat) (F : M (List D)) (T : SV → M Unit) (t : M Bool) (fk f : M SV) : M SV := bnd F fun ds sl => if sl.length = N then (match compD vs T t fk f ds [] (wipeS sl vs) with
  | some (.ok xs, sl') => some (.ok (.dct xs), unwipe sl vs sl')
  | _ => none) else none
theorem tDc_of {wi : TI} {F : M (List D)} {T : SV → M Unit} {t : M Bool} {fk f : M SV} {vs : List Nat} {N : Nat} {σ0 : St} {H0 : Hp} {Q : VK} (nd : vs.Nodup) (hvs : ∀ v ∈ vs, v < N) (hw : ∀ R, tiOf X.mg E F σ0 H0 R → wi σ0 H0 R)
    (h : tOf X.mg E (mDComp N vs F T t fk f) σ0 H0 Q) : tDc wi (tgOf (others N vs) T) (ttOf X.mg E0 t) (tOf X.mg E0 fk) (tOf X.mg E0 f) vs σ0 H0 Q := by
  obtain ⟨sl, res, sl', P, Z, tm, q, a, k, ex⟩ := h
  refine hw _ (runI q a ex fun ds sl1 J Z1 H1 q1 e1 a1 y _ => ?_)
  have lN : sl1.length = N := by
    by_cases hh : sl1.length = N
    · exact hh
    · rw [if_neg hh] at q1; cases q1
  have hN : σ0.length = N := by rw [a1.1, lN]
  rw [if_pos lN] at q1
  split at q1
  · rename_i xs sl2 hc
    cases q1
    intro D hD
    have a0 : At P Z1 (upd H1 D (.dK [])) σ0 sl1 ((some (.ref D), .dct []) :: tm) := ⟨a1.1, SR.newDct (L := tm ++ List.zip σ0 sl1) a1.2 hD⟩
    have aw := a0.wiped nd fun v hv => by rw [lN]; exact hvs v hv
    refine ⟨fun i m H => ∃ s Zc acc, i + m = ds.length ∧ compD vs T t fk f (ds.drop i) acc s = some (.ok xs, sl2) ∧ At P Zc H (wipe σ0 vs) s ((some (.ref D), .dct acc) :: (savedC σ0 sl1 vs ++ tm)) ∧ Ext P Z1 Zc,
      ⟨ds.length, wipeS sl1 vs, Z1, [], by simp, by simpa using hc, ⟨aw.1, aw.2.perm ?_⟩, Ext.refl _ _⟩, ?_⟩
    · simp only [List.append_assoc, List.cons_append]
      exact List.perm_middle
    rintro i m H ⟨s, Zc, acc, hm, qi, ai, ei⟩
    by_cases hi : i < ds.length
    · refine .inr ⟨y.go Zc H _ i ei ai.2 hi, fun H' => ∃ s Zc acc, compD vs T t fk f (ds.drop (i + 1)) acc s = some (.ok xs, sl2) ∧ At P Zc H' (wipe σ0 vs) s ((some (.ref D), .dct acc) :: (savedC σ0 sl1 vs ++ tm)) ∧ Ext P Z1 Zc,
        fun H' ⟨s, Zc, acc, h1, h2, h3⟩ => ⟨m - 1, by omega, s, Zc, acc, by omega, h1, h2, h3⟩, fun x H' yl => ?_⟩
      rw [List.drop_eq_getElem_cons hi] at qi
      unfold compD at qi
      obtain ⟨Z2, e2, s2⟩ := y.yld Zc H _ i x H' _ ei ai.2 (List.getElem?_eq_getElem hi) yl
      split at qi
      · rename_i u s3 hT
        refine ⟨_, s, s3, P, Z2, _, hT, ⟨ai.1, s2⟩, fun σ2 Z3 H3 k2 e3 a3 => ?_⟩
        have ws : wipe σ2 vs = wipe σ0 vs := wipe_same (by rw [hN]; exact k2)
        have e13 : Ext P Zc Z3 := e2.trans e3
        refine ⟨ws, ?_⟩
        split at qi
        · rename_i s4 hT4
          refine ⟨s3, .ok true, s4, P, Z3, _, hT4, a3, fun b eb Z4 H4 e4 a4 => ?_, fun c x ee => by cases ee⟩
          cases eb
          refine iteT ?_
          split at qi
          · rename_i yk x5 s5 hT5
            split at qi
            · rename_i hlen
              split at qi
              · rename_i key hk
                split at qi
                · rename_i acc' hp
                  refine run1D hT5 a4 (fun c x ee => by cases ee) fun yk2 s6 v6 Z6 H6 q6 e6 a6 _ => ?_
                  refine run1 q6 a6 (fun c x ee => by cases ee) fun x7 s7 v7 Z7 H7 q7 e7 a7 _ => ?_
                  cases q7
                  have rk := a7.tail.d
                  have s8 : SR P Z7 H7 ((some v7, x5) :: (some (.ref D), .dct acc) :: ((savedC σ0 sl1 vs ++ tm) ++ List.zip σ2 s5)) := by
                    have := a7.swap.tail
                    exact this.2
                  obtain ⟨vs8, hD8, l8, s9⟩ := set_dct s8 hp
                  refine ⟨vs8, key, kV_of hk rk, hD8, by rw [l8]; exact hlen, wipeS s5 vs, Z7, acc', qi, ?_, ei.trans (e13.trans (e4.trans (e6.trans e7)))⟩
                  have a9 : At P Z7 (upd H7 D (.dK (putK vs8 key v7))) σ2 s5 ((some (.ref D), .dct acc') :: (savedC σ0 sl1 vs ++ tm)) := ⟨a7.1, s9⟩
                  exact ws ▸ a9.wipedOff vs
                · cases qi
              · cases qi
            · cases qi
          · cases qi
        · rename_i s4 hT4
          refine ⟨s3, .ok false, s4, P, Z3, _, hT4, a3, fun b eb Z4 H4 e4 a4 => ?_, fun c x ee => by cases ee⟩
          cases eb
          refine iteF ⟨wipeS s4 vs, Z4, acc, qi, ?_, ei.trans (e13.trans e4)⟩
          exact ws ▸ a4.wipedOff vs
        · cases qi
      · cases qi
    · have hl : i = ds.length := by omega
      subst hl
      rw [List.drop_length] at qi
      cases qi
      refine .inl ⟨y.stop Zc H _ ei ai.2, k _ rfl _ Zc H (e1.trans ei) ?_⟩
      have a7 : At P Zc H (wipe σ0 vs) sl2 (savedC σ0 sl1 vs ++ ((some (.ref D), .dct xs) :: tm)) := ⟨ai.1, ai.2.perm (by simp only [List.cons_append, List.append_assoc]; exact List.perm_middle.symm)⟩
      exact a7.unwiped a1.1 nd fun v hv => by rw [lN]; exact hvs v hv
  · cases q1
theorem de_dcomp {kx vx tg iter : Expr} {ifs : List Expr} {scope : Scope} {own : List (Str × Nat)} {F : M (List D)} {T : SV → M Unit} {t : M Bool} {fk f : M SV} (hc : X.calm = true) (hN : X.N.Nodup) (hi : DI X E tg iter F) (ok : BlkOk X.N X.env.scope scope own)
    (hg : ∀ (s : Shared) (H : Hp) (C : Addr) (cl : List (Str × Addr)) (fp : List Addr), DG (X.blk s H scope (compEnvC scope cl C X.env) fp) (others X.N.length (own.map (·.2))) tg T)
    (ht : ∀ (s : Shared) (H : Hp) (C : Addr) (cl : List (Str × Addr)) (fp : List Addr), PTs (X.blk s H scope (compEnvC scope cl C X.env) fp) ifs (ttOf X.mg E0 t))
    (hk : ∀ (s : Shared) (H : Hp) (C : Addr) (cl : List (Str × Addr)) (fp : List Addr), DE (X.blk s H scope (compEnvC scope cl C X.env) fp) E0 kx fk)
    (he : ∀ (s : Shared) (H : Hp) (C : Addr) (cl : List (Str × Addr)) (fp : List Addr), DE (X.blk s H scope (compEnvC scope cl C X.env) fp) E0 vx f) (nd : (own.map (·.2)).Nodup) (hv : ∀ v ∈ own.map (·.2), v < X.N.length)
    (hs : ∀ x, foldedSetIterable iter X.env x = pure x := by intro _; rfl) : DE X E (.DictComp kx vx [⟨tg, iter, ifs, 0⟩] scope pos) (mDComp X.N.length (own.map (·.2)) F T t fk f) :=
  PEimp (pe_dc (tk := tOf X.mg E0 fk) (tv := tOf X.mg E0 f) (g := tgOf (others X.N.length (List.map (fun (x : Str × Nat) => x.2) own)) T) hc hN hi ok hg ht hk he hs) fun _ _ _ h => tDc_of nd hv (fun _ h => h) h
end
end DD

set_option Elab.async false
set_option linter.all false
set_option maxRecDepth 100000
/-! DD16: repr of data. -/
namespace DD
open PySem PySem.Spec PyProof.Rows L2
mutual
/-- no dict within a dict's values but plain things -/
def repOk : D → Bool
  | .none => true
  | .bool _ => true
  | .int _ => true
  | .str _ => true
  | .list ds => repOks ds
  | .tuple ds => repOks ds
  | .dict _ => false
def repOks : List D → Bool
  | [] => true
  | d :: ds => repOk d && repOks ds
end
def plainD : D → Bool
  | .none => true
  | .bool _ => true
  | .int _ => true
  | .str _ => true
  | _ => false
def plainK : List (D × D) → Bool := fun kvs => kvs.all fun p => plainD p.2
section
variable {P : Program} {w : World} {Pp Z H : Hp} {L : List Cell} {h : Heap}
mutual
theorem repV_reads (s : SR Pp Z H L) (hk : HOk P w H h) : ∀ {d : D} {v : V} {u : Value}, repOk d = true → repV Z d v → RelV v u → ∃ as, Reads h u d as
  | .none, _, _, _, r, e => by rw [repV] at r; subst r; cases e; exact ⟨_, .none⟩
  | .bool _, _, _, _, r, e => by rw [repV] at r; subst r; cases e; exact ⟨_, .bool _⟩
  | .int _, _, _, _, r, e => by rw [repV] at r; subst r; obtain ⟨t, rfl⟩ := e; exact ⟨_, .int _ _⟩
  | .str _, _, _, _, r, e => by rw [repV] at r; subst r; obtain ⟨t, rfl⟩ := e; exact ⟨_, .str _ _⟩
  | .list ds, _, _, f, r, e => by
    rw [repV] at r
    obtain ⟨p, vs, rfl, z, rl⟩ := r
    cases e
    obtain ⟨_, its, n, rv, ho⟩ := (s.zed p _ z).ok hk
    obtain ⟨as, ra⟩ := repL_reads s hk (by rw [repOk] at f; exact f) rl rv
    exact ⟨_, .list ho rfl rfl (by simpa using ra)⟩
  | .tuple ds, _, _, f, r, e => by
    rw [repV] at r
    obtain ⟨p, vs, rfl, z, rl⟩ := r
    cases e
    obtain ⟨_, its, rv, o, ho, hc, n, hd⟩ := (s.zed p _ z).ok hk
    obtain ⟨as, ra⟩ := repL_reads s hk (by rw [repOk] at f; exact f) rl rv
    exact ⟨_, .tuple ho hc hd (by simpa using ra)⟩
  | .dict _, _, _, f, _, _ => by rw [repOk] at f; cases f
theorem repL_reads (s : SR Pp Z H L) (hk : HOk P w H h) : ∀ {ds : List D} {vs : List V} {us : List Value}, repOks ds = true → repL Z ds vs → Vals vs us → ∃ as, ReadsAll h us ds as
  | [], _, _, _, r, e => by rw [repL] at r; subst r; cases e; exact ⟨_, .nil⟩
  | d :: ds, _, _, f, r, e => by
    rw [repL] at r
    obtain ⟨v, t, rfl, h1, h2⟩ := r
    cases e with
    | cons e1 e2 =>
      rw [repOks, Bool.and_eq_true] at f
      obtain ⟨as, r1⟩ := repV_reads s hk f.1 h1 e1
      obtain ⟨bs, r2⟩ := repL_reads s hk f.2 h2 e2
      exact ⟨_, .cons r1 r2⟩
end
theorem repOk_noDict : ∀ d : D, repOk d = true → d.hasDict = false
  | .none, _ => rfl
  | .bool _, _ => rfl
  | .int _, _ => rfl
  | .str _, _ => rfl
  | .list ds, h => by
    simp only [PyData.hasDict]
    rw [repOk] at h
    exact go ds h
  | .tuple ds, h => by
    simp only [PyData.hasDict]
    rw [repOk] at h
    exact go ds h
  | .dict _, h => by rw [repOk] at h; cases h
where go : ∀ ds : List D, repOks ds = true → PyData.hasDictAll ds = false
  | [], _ => rfl
  | d :: ds, h => by
    rw [repOks, Bool.and_eq_true] at h
    simp only [PyData.hasDictAll, repOk_noDict d h.1, go ds h.2, Bool.or_self]
theorem key_reads {k : Key} {v : Value} (h1 : (mixKind P w).is k v = true) : Reads h v (keyD k) [] := by
  rcases keyIs_shape h1 with ⟨i, t, rfl, rfl⟩ | ⟨x, t, rfl, rfl⟩
  · exact .int i t
  · exact .str x t
theorem plain_reads {d : D} {v : V} {u : Value} (hp : plainD d = true) (r : repV Z d v) (e : RelV v u) : Reads h u d [] := by
  cases d with
  | none => rw [repV] at r; subst r; cases e; exact .none
  | bool _ => rw [repV] at r; subst r; cases e; exact .bool _
  | int _ => rw [repV] at r; subst r; obtain ⟨t, rfl⟩ := e; exact .int _ _
  | str _ => rw [repV] at r; subst r; obtain ⟨t, rfl⟩ := e; exact .str _ _
  | _ => cases hp
theorem dict_reads : ∀ {kvs : List (D × D)} {es : List (Key × V)} {vs : List (Key × Value)} {ds : List DictEntry}, plainK kvs = true → repK Z kvs es → KV es vs → Pairs (mixKind P w) ds vs →
    ReadsAll h (ds.map (·.key)) (kvs.map (·.1)) [] ∧ ReadsAll h (ds.map (·.val)) (kvs.map (·.2)) []
  | [], es, vs, ds, _, r, kv, p => by
    rw [repK] at r; subst r; cases kv; cases p; exact ⟨.nil, .nil⟩
  | (kd, d) :: kvs, es, vs, ds, f, r, kv, p => by
    rw [repK] at r
    obtain ⟨key, v, es', rfl, rfl, h1, h2⟩ := r
    cases kv with
    | cons e1 e2 =>
      rename_i q qs
      cases p with
      | cons p1 p2 p3 =>
        rename_i e es2
        unfold plainK at f
        rw [List.all_cons, Bool.and_eq_true] at f
        obtain ⟨g1, g2⟩ := dict_reads (kvs := kvs) f.2 h2 e2 p3
        have e11 : key = q.1 := e1.1
        refine ⟨?_, ?_⟩
        · have hk := key_reads (h := h) (P := P) (w := w) (k := q.1) (v := e.key) p1
          rw [← e11] at hk
          have := ReadsAll.cons hk g1
          simpa using this
        · have hv := plain_reads (h := h) f.1 h1 e1.2
          rw [← p2] at hv
          have := ReadsAll.cons hv g2
          simpa using this
end
def okRepr (d : D) : Bool := (match d with
  | .dict kvs => plainK kvs
  | .list ds => repOks ds
  | .tuple ds => repOks ds
  | _ => false) && d.showable && decide (d.depth ≤ 60) && decide (d.shown.length ≤ sizeLine)
def reprD : List D → Option SV
  | [d] => if okRepr d = true then some (.d (.str d.shown)) else none
  | _ => none
section
variable {X : Cx}
theorem cd_repr (hg : X.A.guards = some []) (hu : X.A.units + 64 < cLine) : CallD X (.builtin "repr") reprD := by
  intro pins s σ H xs us Q I rv ⟨ds, r, P, Z, L, hgd, sr, rl, k⟩
  unfold reprD at hgd
  split at hgd
  · rename_i d
    split at hgd
    · rename_i ok
      cases hgd
      obtain ⟨v, rfl, r1⟩ := repL1 rl
      obtain ⟨u, rfl, ru⟩ := vals1 rv
      unfold okRepr at ok
      simp only [Bool.and_eq_true, decide_eq_true_eq] at ok
      obtain ⟨⟨⟨ok1, ok2⟩, ok3⟩, ok4⟩ := ok
      have fin : ∀ (h' : Heap) (t : Tok) (tk : Nat), (∀ b o, s.heap.get? b = some o → h'.get? b = some o) → EP X pins σ Q (.str d.shown t) { s with heap := h', toks := tk } := fun h' t tk hk =>
        ⟨.str d.shown, H, I.kept hk, ⟨t, rfl⟩, ends_str k sr⟩
      cases d with
      | list es =>
        have r0 := r1
        rw [repV] at r1
        obtain ⟨p, vs, rfl, z, r2⟩ := r1
        cases ru
        obtain ⟨as, rd⟩ := repV_reads sr I.hok (d := .list es) (u := .ref p) (by rw [repOk]; exact ok1) r0 rfl
        exact repr_of_reads' rd ok2 (PyData.noDict_hsm (repOk_noDict _ (by rw [repOk]; exact ok1))) hg (by omega) (fun _ _ e => e) fin ok4
      | tuple es =>
        have r0 := r1
        rw [repV] at r1
        obtain ⟨p, vs, rfl, z, r2⟩ := r1
        cases ru
        obtain ⟨as, rd⟩ := repV_reads sr I.hok (d := .tuple es) (u := .ref p) (by rw [repOk]; exact ok1) r0 rfl
        exact repr_of_reads' rd ok2 (PyData.noDict_hsm (repOk_noDict _ (by rw [repOk]; exact ok1))) hg (by omega) (fun _ _ e => e) fin ok4
      | dict kvs =>
        rw [repV] at r1
        obtain ⟨p, es, rfl, z, r2⟩ := r1
        cases ru
        obtain ⟨_, hs, vs, kv, o, ents, ep, ho, hx, hd, _, hp, _⟩ := (sr.zed p _ z).ok I.hok
        obtain ⟨g1, g2⟩ := dict_reads (h := s.heap) ok1 r2 kv hp
        have rd := Reads.dict ho hx.1 hd g1 g2
        refine repr_of_reads' rd ok2 (fun _ hm => ?_) hg (by omega) (fun _ _ e => e) fin ok4
        have : sysModules = p := by simpa using hm
        subst this
        simp at hs
      | _ => cases ok1
    · cases hgd
  · cases hgd
end
end DD

set_option Elab.async false
set_option linter.all false
set_option maxRecDepth 100000
/-! DD17: order of tuples, sorted of tuples. -/
namespace DD
open PySem PySem.Spec PyProof.Rows L2
/-! ## keys of tuples -/
abbrev IK := Int ⊕ List Nat
def kItem : D → Option IK
  | .int i => some (.inl i)
  | .str x => some (.inr x.cps.toList)
  | _ => none
def kItems : List D → Option (List IK)
  | [] => some []
  | d :: r => (kItem d).bind fun k => (kItems r).map (k :: ·)
def sameI : IK → IK → Bool
  | .inl _, .inl _ => true
  | .inr _, .inr _ => true
  | _, _ => false
def sames : List IK → List IK → Bool
  | a :: r, b :: t => sameI a b && sames r t
  | _, _ => true
abbrev kLt (a b : List IK) : Bool := lexLt itemOrd a b
def ltT (a b : List D) : Option SV := match kItems a, kItems b with
  | some k, some l => if sames k l = true then some (.d (.bool (kLt k l))) else none
  | _, _ => none
def ltD2 : D → D → Option SV
  | .tuple a, .tuple b => ltT a b
  | a, b => ltD a b
theorem kItems_get : ∀ {ds : List D} {k : List IK} {j : Nat} {d : D}, kItems ds = some k → ds[j]? = some d → ∃ i, k[j]? = some i ∧ kItem d = some i
  | [], _, _, _, _, h => by simp at h
  | e :: ds, k, j, d, hk, h => by
    unfold kItems at hk
    cases h1 : kItem e with
    | none => rw [h1] at hk; cases hk
    | some i =>
      rw [h1] at hk
      cases h2 : kItems ds with
      | none => rw [h2] at hk; cases hk
      | some r =>
        rw [h2] at hk
        cases hk
        cases j with
        | zero => simp at h; subst h; exact ⟨i, rfl, h1⟩
        | succ j =>
          obtain ⟨i2, a, b⟩ := kItems_get h2 (by simpa using h)
          exact ⟨i2, by simpa using a, b⟩
theorem kItems_len : ∀ {ds : List D} {k : List IK}, kItems ds = some k → k.length = ds.length
  | [], _, h => by cases h; rfl
  | e :: ds, k, hk => by
    unfold kItems at hk
    cases h1 : kItem e with
    | none => rw [h1] at hk; cases hk
    | some i =>
      rw [h1] at hk
      cases h2 : kItems ds with
      | none => rw [h2] at hk; cases hk
      | some r =>
        rw [h2] at hk
        cases hk
        simp [kItems_len h2]
theorem sames_get : ∀ {k l : List IK} {j : Nat} {a b : IK}, sames k l = true → k[j]? = some a → l[j]? = some b → sameI a b = true
  | [], _, _, _, _, _, h, _ => by simp at h
  | _ :: _, [], _, _, _, _, _, h => by simp at h
  | x :: k, y :: l, 0, a, b, h, h1, h2 => by
    simp at h1 h2
    subst h1 h2
    unfold sames at h
    exact (Bool.and_eq_true _ _ ▸ h).1
  | x :: k, y :: l, j + 1, a, b, h, h1, h2 => by
    unfold sames at h
    exact sames_get (Bool.and_eq_true _ _ ▸ h).2 (by simpa using h1) (by simpa using h2)
theorem lexAt_shift {e r : Nat → Bool} {z : Bool} : ∀ (n i : Nat), Ob.lexAt e r z (i + 1) n = Ob.lexAt (fun j => e (j + 1)) (fun j => r (j + 1)) z i n
  | 0, _ => rfl
  | n + 1, i => by
    rw [Ob.lexAt_succ, Ob.lexAt_succ, lexAt_shift n (i + 1)]
theorem kLt_cons {x y : IK} {k l : List IK} : kLt (x :: k) (y :: l) = if x = y then kLt k l else itemLt x y := by
  show (itemOrd.blt x y || (!itemOrd.blt y x && lexLt itemOrd k l)) = _
  by_cases h : x = y
  · subst h
    rw [if_pos rfl, itemOrd.irrefl]
    rfl
  · rw [if_neg h]
    show _ = itemOrd.blt x y
    cases h1 : itemOrd.blt x y with
    | true => rfl
    | false =>
      cases h2 : itemOrd.blt y x with
      | true => rfl
      | false => exact absurd (itemOrd.total x y h1 h2) h
/-- the order place by place is the order of the keys -/
theorem lexAt_kLt : ∀ k l : List IK, Ob.lexAt (fun j => decide (k[j]? = l[j]?)) (fun j => itemLt (k[j]?.getD (.inl 0)) (l[j]?.getD (.inl 0))) (decide (k.length < l.length)) 0 (min k.length l.length) = kLt k l
  | [], [] => rfl
  | [], y :: l => by
    rw [List.length_nil, Nat.zero_min, Ob.lexAt_zero]
    simp
    rfl
  | x :: k, [] => by
    rw [List.length_nil, Nat.min_zero, Ob.lexAt_zero]
    simp
    rfl
  | x :: k, y :: l => by
    rw [List.length_cons, List.length_cons, Nat.succ_min_succ, Ob.lexAt_succ, lexAt_shift, kLt_cons]
    have ih := lexAt_kLt k l
    simp only [List.getElem?_cons_zero, List.getElem?_cons_succ, Option.getD_some, Nat.add_lt_add_iff_right, decide_eq_true_eq, Option.some.injEq]
    rw [ih]
section
variable {X : Cx}
theorem kItem_str {Z : Hp} {d : D} {v : V} {k : IK} (h : kItem d = some k) (r : repV Z d v) : (∃ i, k = .inl i ∧ v = .int i) ∨ ∃ x : Str, k = .inr x.cps.toList ∧ v = .str x := by
  cases d with
  | int i => cases h; rw [repV] at r; exact .inl ⟨i, rfl, r⟩
  | str x => cases h; rw [repV] at r; exact .inr ⟨x, rfl, r⟩
  | _ => cases h
theorem item_at {Z : Hp} {ds : List D} {vs : List V} {us : List Value} {k : List IK} {j : Nat} (hk : kItems ds = some k) (rl : repL Z ds vs) (rv : Vals vs us) (hj : j < us.length) :
    ∃ i, k[j]? = some i ∧ ((∃ n t, i = .inl n ∧ us[j] = .int n t) ∨ ∃ (x : Str) (t : Tok), i = .inr x.cps.toList ∧ us[j] = .str x t) := by
  have l1 := rv.length
  have l2 := repL_len rl
  have hd : j < ds.length := by omega
  obtain ⟨i, hi, hki⟩ := kItems_get hk (List.getElem?_eq_getElem hd)
  obtain ⟨v, hv, rvv⟩ := repL_get rl (List.getElem?_eq_getElem hd)
  obtain ⟨u, hu, ru⟩ := rv.get hv
  rw [List.getElem?_eq_getElem hj] at hu
  cases hu
  refine ⟨i, hi, ?_⟩
  rcases kItem_str hki rvv with ⟨n, rfl, rfl⟩ | ⟨x, rfl, rfl⟩
  · obtain ⟨t, e⟩ := ru
    exact .inl ⟨n, t, rfl, e⟩
  · obtain ⟨t, e⟩ := ru
    exact .inr ⟨x, t, rfl, e⟩
theorem str_ext {x y : Str} : x.cps.toList = y.cps.toList ↔ x = y := by
  constructor
  · intro h
    cases x; cases y
    simp only [Str.mk.injEq]
    exact Array.toList_inj.mp h
  · rintro rfl; rfl
theorem op_ltDD2 (hu : X.A.units + 1 < cLine) : OpD X (compareOp .Lt) ltD2 := by
  intro pins s σ H x y v u Q I rx ry ⟨a, b, r, P, Z, L, hg, sr, ra, rb, kk⟩
  have oth : ltD a b = some r → wpAny (model X.prog X.w) X.A (compareOp .Lt v u) (EP X pins σ Q) X.xe s := fun h => op_ltDD pins s σ H x y v u Q I rx ry ⟨a, b, r, P, Z, L, h, sr, ra, rb, kk⟩
  cases a with
  | tuple as => cases b with
    | tuple bs =>
      dsimp only [ltD2] at hg
      unfold ltT at hg
      split at hg
      · rename_i k l hk hl
        split at hg
        · rename_i hs
          cases hg
          rw [repV] at ra rb
          obtain ⟨p, vs, rfl, z1, r1⟩ := ra
          obtain ⟨q, ws, rfl, z2, r2⟩ := rb
          cases rx
          cases ry
          obtain ⟨us1, e1, p1, _⟩ := I.tuple (sr.sqT (K := X.K) z1)
          obtain ⟨us2, e2, p2, _⟩ := I.tuple (sr.sqT (K := X.K) z2)
          have s1 : us1.toArray.size = k.length := by rw [List.size_toArray, ← e1.length, repL_len r1, kItems_len hk]
          have s2 : us2.toArray.size = l.length := by rw [List.size_toArray, ← e2.length, repL_len r2, kItems_len hl]
          have R := Ob.RcOp.tuples_lt (A := X.A) (s := s) (e := fun j => decide (k[j]? = l[j]?)) (r := fun j => itemLt (k[j]?.getD (.inl 0)) (l[j]?.getD (.inl 0))) p1 p2 (by omega) (fun j h1 h2 => by
            obtain ⟨i1, c1, d1⟩ := item_at hk r1 e1 (j := j) (by simpa using h1)
            obtain ⟨i2, c2, d2⟩ := item_at hl r2 e2 (j := j) (by simpa using h2)
            have sm := sames_get hs c1 c2
            simp only [List.getElem_toArray]
            rw [c1, c2]
            rcases d1 with ⟨n, t, rfl, f1⟩ | ⟨n, t, rfl, f1⟩ <;> rcases d2 with ⟨m, t', rfl, f2⟩ | ⟨m, t', rfl, f2⟩
            · rw [f1, f2]
              have : decide (some (Sum.inl n : IK) = some (.inl m)) = (n == m) := by rw [Bool.eq_iff_iff]; simp
              rw [this]
              exact SeqAt.EqAt.int_int _ _ _ _
            · cases sm
            · cases sm
            · rw [f1, f2]
              have : decide (some (Sum.inr n.cps.toList : IK) = some (.inr m.cps.toList)) = (n == m) := by
                rw [Bool.eq_iff_iff]
                simp only [decide_eq_true_eq, Option.some.injEq, Sum.inr.injEq, beq_iff_eq]
                exact str_ext
              rw [this]
              exact SeqAt.EqAt.str_str _ _ _ _) (fun j h1 h2 _ => by
            obtain ⟨i1, c1, d1⟩ := item_at hk r1 e1 (j := j) (by simpa using h1)
            obtain ⟨i2, c2, d2⟩ := item_at hl r2 e2 (j := j) (by simpa using h2)
            have sm := sames_get hs c1 c2
            simp only [List.getElem_toArray]
            rw [c1, c2]
            rcases d1 with ⟨n, t, rfl, f1⟩ | ⟨n, t, rfl, f1⟩ <;> rcases d2 with ⟨m, t', rfl, f2⟩ | ⟨m, t', rfl, f2⟩
            · rw [f1, f2]
              exact Ob.RcOp.lt_int _ _ _ _
            · cases sm
            · cases sm
            · rw [f1, f2]
              exact fun _ _ _ _ h => lt_str h)
          rw [s1, s2, lexAt_kLt] at R
          exact R X.prog X.w X.xe (EP X pins σ Q) ⟨.bl _, H, I, rfl, ends_bool kk sr⟩
        · cases hg
      · cases hg
    | _ => exact oth hg
  | _ => exact oth (by cases b <;> exact hg)
end
/-! ## sorted of tuples -/
def shapeOf (k0 : List IK) (i : Nat) : Bool := match k0[i]? with
  | some (.inr _) => true
  | _ => false
def tk : D → List IK
  | .tuple es => (kItems es).getD []
  | _ => []
def okTup (k0 : List IK) : D → Bool
  | .tuple es => (match kItems es with
    | some k => !k.isEmpty && sames k k0 && decide (k.length ≤ k0.length)
    | none => false)
  | _ => false
def leT (a b : D) : Bool := !kLt (tk b) (tk a)
def sortT (ds : List D) : List D := ds.mergeSort leT
def sortedTD (ds : List D) : Option SV := if ds.all (okTup (tk (ds.headD .none))) = true then some (.lst ((sortT ds).map SV.d)) else none
theorem okTup_of {k0 : List IK} {d : D} (h : okTup k0 d = true) : ∃ es k, d = .tuple es ∧ kItems es = some k ∧ tk d = k ∧ k ≠ [] ∧ ∀ j i, k[j]? = some i → shapeOf k0 j = (match i with | .inl _ => false | .inr _ => true) := by
  unfold okTup at h
  split at h
  · rename_i es
    split at h
    · rename_i k hk
      simp only [Bool.and_eq_true, Bool.not_eq_true', decide_eq_true_eq] at h
      obtain ⟨⟨h1, h2⟩, h3⟩ := h
      refine ⟨es, k, rfl, hk, (by show (kItems es).getD [] = k; rw [hk]; rfl), (fun e => by subst e; cases h1), fun j i hi => ?_⟩
      have hj : j < k0.length := Nat.lt_of_lt_of_le (List.getElem?_eq_some_iff.mp hi).1 h3
      have sm := sames_get h2 hi (List.getElem?_eq_getElem hj)
      unfold shapeOf
      rw [List.getElem?_eq_getElem hj]
      cases i <;> cases hq : k0[j] <;> rw [hq] at sm <;> first | rfl | cases sm
    · cases h
  · cases h
theorem kItem_inj {a b : D} {i : IK} (ha : kItem a = some i) (hb : kItem b = some i) : a = b := by
  cases a <;> first | cases ha; done | (cases b <;> first | cases hb; done | skip)
  · rw [← hb] at ha; simp [kItem] at ha; rw [ha]
  · rw [← hb] at ha; simp [kItem] at ha
  · rw [← hb] at ha; simp [kItem] at ha
  · rw [← hb] at ha; simp only [kItem, Option.some.injEq, Sum.inr.injEq] at ha; rw [str_ext.mp ha]
theorem kItems_inj : ∀ {a b : List D} {k : List IK}, kItems a = some k → kItems b = some k → a = b
  | [], [], _, _, _ => rfl
  | [], e :: r, k, ha, hb => by have h1 := kItems_len ha; have h2 := kItems_len hb; rw [h1] at h2; cases h2
  | e :: r, [], k, ha, hb => by have h1 := kItems_len ha; have h2 := kItems_len hb; rw [h1] at h2; cases h2
  | e :: r, f :: t, k, ha, hb => by
    unfold kItems at ha hb
    cases h1 : kItem e with
    | none => rw [h1] at ha; cases ha
    | some i =>
      cases h2 : kItems r with
      | none => rw [h1, h2] at ha; cases ha
      | some l =>
        rw [h1, h2] at ha
        cases ha
        cases h3 : kItem f with
        | none => rw [h3] at hb; cases hb
        | some j =>
          cases h4 : kItems t with
          | none => rw [h3, h4] at hb; cases hb
          | some m =>
            rw [h3, h4] at hb
            simp only [Option.bind, Option.map, Option.some.injEq, List.cons.injEq] at hb
            rw [hb.1] at h3
            rw [hb.2] at h4
            rw [kItem_inj h1 h3, kItems_inj h2 h4]
theorem tk_inj {k0 : List IK} {a b : D} (ha : okTup k0 a = true) (hb : okTup k0 b = true) (h : tk a = tk b) : a = b := by
  obtain ⟨es, k, rfl, h1, h2, _⟩ := okTup_of ha
  obtain ⟨fs, l, rfl, h3, h4, _⟩ := okTup_of hb
  rw [h2, h4] at h
  subst h
  rw [kItems_inj h1 h3]
abbrev kOrd : KeyOrd := listOrd itemOrd
theorem leT_trans (a b c : D) (h1 : leT a b = true) (h2 : leT b c = true) : leT a c = true := by
  unfold leT at *
  rw [Bool.not_eq_true'] at *
  exact KeyOrd.kle_trans (O := kOrd) h1 h2
theorem leT_total (a b : D) : (leT a b || leT b a) = true := by
  unfold leT
  cases h : kLt (tk b) (tk a) with
  | false => rfl
  | true =>
    have := KeyOrd.klt_asymm (O := kOrd) h
    have : kLt (tk a) (tk b) = false := this
    rw [this]
    rfl
theorem sortT_perm (ds : List D) : (sortT ds).Perm ds := List.mergeSort_perm ds leT
theorem sortT_sorted (ds : List D) : (sortT ds).Pairwise fun a b => leT a b = true := List.pairwise_mergeSort leT_trans leT_total ds
theorem sortT_uniq {k0 : List IK} {ds es : List D} (ok : ∀ d ∈ ds, okTup k0 d = true) (p : es.Perm ds) (h : es.Pairwise fun a b => leT a b = true) : es = sortT ds := by
  refine List.Perm.eq_of_pairwise (fun a b ha hb h1 h2 => ?_) h (sortT_sorted ds) (p.trans (sortT_perm ds).symm)
  refine tk_inj (k0 := k0) (ok a (p.mem_iff.mp ha)) (ok b ((sortT_perm ds).mem_iff.mp hb)) ?_
  unfold leT at h1 h2
  rw [Bool.not_eq_true'] at h1 h2
  exact KeyOrd.kle_antisymm (O := kOrd) h1 h2
theorem perm_map_inv {α β : Type} {f : α → β} : ∀ {out : List β} {l : List α}, out.Perm (l.map f) → ∃ l' : List α, l'.Perm l ∧ out = l'.map f := by
  have : ∀ {out m : List β}, out.Perm m → ∀ l : List α, m = l.map f → ∃ l' : List α, l'.Perm l ∧ out = l'.map f := by
    intro out m p
    induction p with
    | nil => intro l e; exact ⟨l, .refl _, e⟩
    | cons x p ih =>
      intro l e
      cases l with
      | nil => cases e
      | cons y l =>
        rw [List.map_cons] at e
        cases e
        obtain ⟨l', q, e⟩ := ih l rfl
        exact ⟨y :: l', q.cons _, by rw [List.map_cons, e]⟩
    | swap x y l0 =>
      intro l e
      match l, e with
      | a :: b :: l, e =>
        rw [List.map_cons, List.map_cons] at e
        cases e
        exact ⟨b :: a :: l, .swap _ _ _, rfl⟩
    | trans p q ih1 ih2 =>
      intro l e
      obtain ⟨l1, p1, e1⟩ := ih2 l e
      obtain ⟨l2, p2, e2⟩ := ih1 l1 e1
      exact ⟨l2, p2.trans p1, e2⟩
  intro out l p
  exact this p l rfl
theorem tupItems_of {Z : Hp} {shape : Nat → Bool} : ∀ {ds : List D} {k : List IK} {vs : List V} {us : List Value} (j0 : Nat), kItems ds = some k → repL Z ds vs → Vals vs us → (∀ j i, k[j]? = some i → shape (j0 + j) = (match i with | .inl _ => false | .inr _ => true)) → tupItems shape j0 us = some k
  | [], k, _, _, j0, hk, r, e, _ => by
    cases hk
    rw [repL] at r
    subst r
    cases e
    rfl
  | d :: ds, k, _, _, j0, hk, r, e, hs => by
    rw [repL] at r
    obtain ⟨v, t, rfl, h1, h2⟩ := r
    unfold kItems at hk
    cases g1 : kItem d with
    | none => rw [g1] at hk; cases hk
    | some i =>
      cases g2 : kItems ds with
      | none => rw [g1, g2] at hk; cases hk
      | some l =>
        rw [g1, g2] at hk
        cases hk
        cases e with
        | cons e1 e2 =>
          have ih := tupItems_of (shape := shape) (j0 + 1) g2 h2 e2 (fun j i hi => by
            have := hs (j + 1) i (by simpa using hi)
            rw [← this]
            congr 1
            omega)
          have h0 := hs 0 i rfl
          rcases kItem_str g1 h1 with ⟨n, rfl, rfl⟩ | ⟨x, rfl, rfl⟩
          · obtain ⟨t, rfl⟩ := e1
            simp only [Nat.add_zero] at h0
            simp only [tupItems, h0, ih]
            rfl
          · obtain ⟨t, rfl⟩ := e1
            simp only [Nat.add_zero] at h0
            simp only [tupItems, h0, ih]
            rfl
section
variable {X : Cx}
/-- the value's object holds the data's tuple -/
theorem tup_key {P : Program} {w : World} {Pp Z H : Hp} {L : List Cell} {h : Heap} {k0 : List IK} {d : D} {v : V} {u : Value} (s : SR Pp Z H L) (hk : HOk P w H h) (ok : okTup k0 d = true) (r : repV Z d v) (e : RelV v u) :
    PyProof.Rows.G.tupKeyC h (shapeOf k0) u = some (tk d) ∧ ∃ f, TupOf h (shapeOf k0) u f := by
  obtain ⟨es, k, rfl, h1, h2, h3, h4⟩ := okTup_of ok
  rw [repV] at r
  obtain ⟨p, vs, rfl, z, rl⟩ := r
  cases e
  obtain ⟨_, its, rv, o, ho, hc, n, hd⟩ := (s.zed p _ z).ok hk
  have hti := tupItems_of (shape := shapeOf k0) 0 h1 rl rv (fun j i hi => by rw [Nat.zero_add]; exact h4 j i hi)
  refine ⟨?_, ?_⟩
  · have c1 : PyProof.Rows.G.isTupObj h (.ref p) = true := by
      unfold PyProof.Rows.G.isTupObj
      simp [ho, hc]
    unfold PyProof.Rows.G.tupKeyC
    rw [if_pos c1]
    unfold tupKey
    simp only [ho, hd]
    rw [h2]
    simpa using hti
  · have l1 := rv.length
    have l2 := repL_len rl
    have l3 := kItems_len h1
    have hl : 0 < its.length := by
      have : 0 < k.length := List.length_pos_iff.mpr h3
      omega
    obtain ⟨i, hi, hh⟩ := item_at h1 rl rv hl
    have h40 := h4 0 i hi
    refine ⟨its[0], p, o, its.toArray, n, rfl, ho, hc, hd, ?_, fun hs => ?_, fun hs => ?_⟩
    · simp [List.getElem?_eq_getElem hl]
    · rcases hh with ⟨m, t, rfl, e⟩ | ⟨x, t, rfl, e⟩
      · exact ⟨m, t, e⟩
      · rw [hs] at h40; cases h40
    · rcases hh with ⟨m, t, rfl, e⟩ | ⟨x, t, rfl, e⟩
      · rw [hs] at h40; cases h40
      · exact ⟨x, t, e⟩
theorem tups_all {P : Program} {w : World} {Pp Z H : Hp} {L : List Cell} {h : Heap} {k0 : List IK} (s : SR Pp Z H L) (hk : HOk P w H h) : ∀ {ds : List D} {vs : List V} {us : List Value}, (∀ d ∈ ds, okTup k0 d = true) → repL Z ds vs → Vals vs us → ∃ fs, TupsOf h (shapeOf k0) us fs
  | [], _, _, _, r, e => by rw [repL] at r; subst r; cases e; exact ⟨[], .nil⟩
  | d :: ds, _, _, ok, r, e => by
    rw [repL] at r
    obtain ⟨v, t, rfl, h1, h2⟩ := r
    cases e with
    | cons e1 e2 =>
      obtain ⟨f, hf⟩ := (tup_key s hk (ok d (List.mem_cons_self ..)) h1 e1).2
      obtain ⟨fs, hfs⟩ := tups_all s hk (fun x hx => ok x (List.mem_cons_of_mem _ hx)) h2 e2
      exact ⟨f :: fs, .cons hf hfs⟩
theorem rel_zip {Z : Hp} : ∀ {ds : List D} {vs : List V} {us : List Value}, repL Z ds vs → Vals vs us → us = (us.zip ds).map (·.1) ∧ ds = (us.zip ds).map (·.2) ∧ ∀ p ∈ us.zip ds, ∃ v, RelV v p.1 ∧ repV Z p.2 v
  | [], _, _, r, e => by rw [repL] at r; subst r; cases e; exact ⟨rfl, rfl, fun p h => by simp at h⟩
  | d :: ds, _, _, r, e => by
    rw [repL] at r
    obtain ⟨v, t, rfl, h1, h2⟩ := r
    cases e with
    | cons e1 e2 =>
      obtain ⟨i1, i2, i3⟩ := rel_zip h2 e2
      refine ⟨by rw [List.zip_cons_cons, List.map_cons, ← i1], by rw [List.zip_cons_cons, List.map_cons, ← i2], fun p hp => ?_⟩
      rw [List.zip_cons_cons] at hp
      rcases List.mem_cons.mp hp with rfl | hp
      · exact ⟨v, e1, h1⟩
      · exact i3 p hp
theorem zip_rel {Z : Hp} : ∀ {l : List (Value × D)}, (∀ p ∈ l, ∃ v, RelV v p.1 ∧ repV Z p.2 v) → ∃ vs, Vals vs (l.map (·.1)) ∧ repL Z (l.map (·.2)) vs
  | [], _ => ⟨[], .nil, by rw [List.map_nil, repL]⟩
  | p :: l, h => by
    obtain ⟨v, h1, h2⟩ := h p (List.mem_cons_self ..)
    obtain ⟨vs, h3, h4⟩ := zip_rel fun q hq => h q (List.mem_cons_of_mem _ hq)
    exact ⟨v :: vs, .cons h1 h3, by rw [List.map_cons, repL]; exact ⟨v, vs, rfl, h2, h4⟩⟩
theorem sorted_td {pins : List (Addr × Obj)} {s : Shared} {σ : St} {H : Hp} {ds : List D} {r : SV} {P Z : Hp} {L : List Cell} {Q : VK} {p : Addr} {vs : List V} (I : Inv X pins σ H s) (hg : sortedTD ds = some r) (sr : SR P Z H L) (z : Z p = some (.lst vs)) (rl : repL Z ds vs) (k : Ends1 P Z L Q r) :
    wpAny (model X.prog X.w) X.A (call (.builtin "sorted") [.ref p]) (EP X pins σ Q) X.xe s := by
  unfold sortedTD at hg
  split at hg
  · rename_i hok
    cases hg
    rw [List.all_eq_true] at hok
    generalize hk0 : tk (ds.headD .none) = k0 at hok
    obtain ⟨its, rv, hl, hz⟩ := I.list (sr.sqL (K := X.K) z)
    obtain ⟨fs, ht⟩ := tups_all sr I.hok hok rl rv
    obtain ⟨z1, z2, z3⟩ := rel_zip rl rv
    have key : ∀ q ∈ its.zip ds, PyProof.Rows.G.tupKeyC s.heap (shapeOf k0) q.1 = some (tk q.2) := fun q hq => by
      obtain ⟨v, h1, h2⟩ := z3 q hq
      have hd : q.2 ∈ ds := by rw [z2]; exact List.mem_map.mpr ⟨q, hq, rfl⟩
      exact (tup_key sr I.hok (hok _ hd) h2 h1).1
    refine PyProof.Rows.G.sorted_tups (fs := fs) hl.isList ht (fun v hv => ?_) (by rw [← rv.length]; exact hz) fun st' h1 h2 _ => ?_
    · rw [z1] at hv
      obtain ⟨q, hq, rfl⟩ := List.mem_map.mp hv
      exact ⟨_, key q hq⟩
    · -- the sorted values with their data
      have pp : (PyProof.Rows.arrOf st').toList.Perm (its.zip its) := by
        have := h1.toList
        rwa [PyProof.Rows.pairsOf_toList] at this
      have same : ∀ q ∈ (PyProof.Rows.arrOf st').toList, q.1 = q.2 := fun q hq => (PyProof.Rows.mem_zip_self (pp.mem_iff.mp hq)).1
      obtain ⟨arr, harr⟩ : ∃ a, a = PyProof.Rows.arrOf st' := ⟨_, rfl⟩
      rw [← harr] at pp same h1 h2 ⊢
      have po : (arr.toList.map (·.2)).Perm ((its.zip ds).map (·.1)) := by
        rw [← z1]
        have := pp.map (·.2)
        rwa [List.map_snd_zip (Nat.le_refl _)] at this
      obtain ⟨l', pl, el⟩ := perm_map_inv po
      have lrel : ∀ q ∈ l', ∃ v, RelV v q.1 ∧ repV Z q.2 v := fun q hq => z3 q (pl.mem_iff.mp hq)
      obtain ⟨vs', rv', rl'⟩ := zip_rel lrel
      have pd : (l'.map (·.2)).Perm ds := by
        have := pl.map (·.2)
        rwa [← z2] at this
      have la : arr.toList.length = l'.length := by
        have := congrArg List.length el
        simpa using this
      have sz : (PyProof.Rows.pairsOf its).size = l'.length := by
        rw [PyProof.Rows.pairsOf_size, pl.length_eq, List.length_zip, ← rv.length, repL_len rl, Nat.min_self]
      have kk : ∀ i (hi : i < l'.length), PyProof.Rows.KK (PyProof.Rows.G.tupKindC s.heap (shapeOf k0)) arr i = tk (l'[i]).2 := fun i hi => by
        have hia : i < arr.size := by rw [← Array.length_toList, la]; exact hi
        have e1 : (arr[i]).2 = (l'[i]).1 := by
          have := congrArg (fun l => l[i]?) el
          simp only [List.getElem?_map] at this
          rw [List.getElem?_eq_getElem (by rw [la]; exact hi), List.getElem?_eq_getElem hi] at this
          simpa using this
        have e2 : (arr[i]).1 = (l'[i]).1 := by rw [← e1]; exact same _ (by simp)
        unfold PyProof.Rows.KK
        rw [Array.getElem?_eq_getElem hia]
        show ((PyProof.Rows.G.tupKeyC s.heap (shapeOf k0) (arr[i]).1).getD []) = _
        rw [e2, key _ (pl.mem_iff.mp (List.getElem_mem hi))]
        rfl
      have so : (l'.map (·.2)).Pairwise fun a b => leT a b = true := by
        rw [List.pairwise_map, List.pairwise_iff_getElem]
        intro i j hi hj hij
        have := h2 i j (Nat.le_of_lt hij) (by rw [sz]; exact hj)
        rw [kk i hi, kk j hj] at this
        unfold leT
        rw [Bool.not_eq_true']
        exact this
      rw [sortT_uniq hok pd so] at rl'
      rw [← el] at rv'
      obtain ⟨ep, he'⟩ := PyProof.Rows.sortedAll_at s.heap its (arr.map (·.2))
      have hlen : vs'.length ≤ sizeLine := by
        rw [rv'.length, List.length_map, la, ← sz, PyProof.Rows.pairsOf_size, ← rv.length]
        exact hz
      refine ⟨.ref _, upd H (s.heap.objs.size + 1) (.lst vs'), I.laid (t' := s.toks) (fun _ _ => PyProof.Rows.sortedAll_old) (Nat.le_succ _) ⟨hlen, (arr.map (·.2)).toList, ep, by simpa using rv', he'⟩, rfl, ends_lst k sr (I.hok.fresh (Nat.le_succ _)) rl'⟩
  · cases hg
end
end DD

set_option Elab.async false
set_option linter.all false
set_option maxRecDepth 100000
/-! DD18: sorted, list of a text, dict. -/
namespace DD
open PySem PySem.Spec PyProof.Rows L2
section
variable {X : Cx} {E : XK} {pos : Pos}
def sortedD : List D → Option SV
  | [.list ds] => sortedTD ds
  | _ => none
theorem cd_sorted : CallD X (.builtin "sorted") sortedD := by
  intro pins s σ H xs us Q I rv ⟨ds, r, P, Z, L, hg, sr, rl, k⟩
  unfold sortedD at hg
  split at hg
  · obtain ⟨v, rfl, r1⟩ := repL1 rl
    rw [repV] at r1
    obtain ⟨p, vs, rfl, z, r2⟩ := r1
    rw [Vals.ref1 rv]
    exact sorted_td I hg sr z r2 k
  · cases hg
/-- the signs of a text -/
def signs (x : Str) : List D := x.cps.toList.map fun c => .str ⟨#[c]⟩
def listD2 : List D → Option SV
  | [.str x] => if x.cps.size ≤ sizeLine then some (.lst ((signs x).map SV.d)) else none
  | ds => listD ds
theorem repL_signs {Z : Hp} : ∀ cs : List Nat, repL Z (cs.map fun c => PyData.str ⟨#[c]⟩) (cs.map fun c => V.str ⟨#[c]⟩)
  | [] => by rw [List.map_nil, List.map_nil, repL]
  | c :: cs => by rw [List.map_cons, List.map_cons, repL]; exact ⟨_, _, rfl, by rw [repV], repL_signs cs⟩
theorem cd_list2 (hc : X.calm = true) : CallD X (.type "list") listD2 := by
  intro pins s σ H xs us Q I rv ⟨ds, r, P, Z, L, hg, sr, rl, k⟩
  unfold listD2 at hg
  split at hg
  · rename_i x
    split at hg
    · rename_i hz
      cases hg
      obtain ⟨v, rfl, r1⟩ := repL1 rl
      rw [repV] at r1
      subst r1
      obtain ⟨u, rfl, t, rfl⟩ := vals1 rv
      refine PySem.call_list_str (I.ok.hd hc) x t (fun h' tk acc c hk hS hi => ?_) hz
      have lv : Vals (x.cps.toList.map fun c => V.str ⟨#[c]⟩) acc.toList := by
        refine vals_of_idx _ _ (by simp [hi.1]) fun j u hu => ?_
        obtain ⟨c, t, h1, h2⟩ := hi.2 j u (by simpa using hu)
        refine ⟨.str ⟨#[c]⟩, by rw [List.getElem?_map, Array.getElem?_toList, h1]; rfl, t, h2⟩
      exact ⟨.ref _, upd H s.heap.objs.size (.lst (x.cps.toList.map fun c => V.str ⟨#[c]⟩)), I.laid (t' := tk) hk (Nat.le_refl _) ⟨by simpa using hz, acc.toList, c, lv, by simpa using hS⟩, rfl, ends_lst (ds := signs x) k sr I.fresh (repL_signs _)⟩
    · cases hg
  · exact cd_list hc pins s σ H xs us Q I rv ⟨_, r, P, Z, L, hg, sr, rl, k⟩
/-- dict of a list of pairs; dict of a dict -/
def pairsD : List D → Option (List (Key × D))
  | [] => some []
  | .tuple [k, v] :: r => (dKey k).bind fun key => (pairsD r).map ((key, v) :: ·)
  | _ :: _ => none
def putD : List (Key × D) → Key → D → List (Key × D)
  | [], k, x => [(k, x)]
  | (k', y) :: r, k, x => if k' = k then (k, x) :: r.map (fun p => if p.1 = k then (p.1, x) else p) else (k', y) :: putD r k x
def mergeD (kvs more : List (Key × D)) : List (Key × D) := more.foldl (fun acc kv => putD acc kv.1 kv.2) kvs
def dictD : List D → Option SV
  | [.list ds] => (pairsD ds).map fun kvs => .dct ((mergeD [] kvs).map fun kv => (kv.1, .d kv.2))
  | [.dict kvs] => (kvs.mapM fun (p : D × D) => (dKey p.1).map fun k => (k, SV.d p.2)).map SV.dct
  | _ => none
inductive RelK (Z : Hp) : List (Key × D) → List (Key × V) → Prop
  | nil : RelK Z [] []
  | cons {k : Key} {d : D} {v : V} {kd : List (Key × D)} {kv : List (Key × V)} : repV Z d v → RelK Z kd kv → RelK Z ((k, d) :: kd) ((k, v) :: kv)
theorem RelK.len {Z : Hp} {kd : List (Key × D)} {kv : List (Key × V)} (r : RelK Z kd kv) : kv.length = kd.length := by
  induction r with
  | nil => rfl
  | cons _ _ ih => simp [ih]
theorem RelK.put {Z : Hp} {k : Key} {d : D} {v : V} (hv : repV Z d v) : ∀ {kd : List (Key × D)} {kv : List (Key × V)}, RelK Z kd kv → RelK Z (putD kd k d) (putK kv k v)
  | _, _, .nil => by
    show RelK Z [(k, d)] [(k, v)]
    exact .cons hv .nil
  | _, _, .cons (k := k') (kd := kd) (kv := kv) h r => by
    unfold putD
    by_cases e : k' = k
    · subst e
      rw [if_pos rfl]
      unfold putK
      rw [if_pos (by simp)]
      rw [List.map_cons, if_pos rfl]
      refine .cons hv ?_
      clear h
      induction r with
      | nil => exact .nil
      | @cons k2 _ _ _ _ h r ih =>
        rw [List.map_cons, List.map_cons]
        by_cases e2 : k2 = k'
        · rw [if_pos e2, if_pos e2]; exact .cons hv ih
        · rw [if_neg e2, if_neg e2]; exact .cons h ih
    · rw [if_neg e, putK_cons_ne e]
      exact .cons h (RelK.put hv r)
theorem RelK.merge {Z : Hp} {md : List (Key × D)} {mv : List (Key × V)} (r : RelK Z md mv) : ∀ {kd : List (Key × D)} {kv : List (Key × V)}, RelK Z kd kv → RelK Z (mergeD kd md) (mergeK kv mv) := by
  induction r with
  | nil => exact fun h => h
  | cons h _ ih => exact fun h2 => ih (h2.put h)
theorem SR.addK {P Z H : Hp} {L : List Cell} {p : Addr} {kd : List (Key × D)} {kv : List (Key × V)} (s : SR P Z H L) (r : RelK Z kd kv) (hp : H p = none) : SR P Z (upd H p (.dK kv)) ((some (.ref p), .dct (kd.map fun q => (q.1, .d q.2))) :: L) := by
  have s2 : SR P Z H ((List.zip (([] : List V).map some) ([] : List SV)).reverse ++ L) := by simpa using s
  refine SR.gather (n := .dct (kd.map fun q => (q.1, .d q.2))) (vs := []) (xs := []) s2 rfl (o := .dK kv) hp fun H' own hh rr => ?_
  rw [repSs] at rr
  rw [repS]
  refine ⟨p, kv, own, rfl, rfl, hh, ?_⟩
  rw [rr.2]
  clear s s2 hh
  induction r with
  | nil => rw [List.map_nil, repSk]; exact ⟨rfl, rfl⟩
  | cons h _ ih => rw [List.map_cons, repSk]; exact ⟨_, _, [], [], rfl, rfl, by rw [repS]; exact ⟨rfl, h⟩, ih⟩
theorem pairs_rep {K : PySem.W.Frag} {P Z H : Hp} {L : List Cell} (s : SR P Z H L) : ∀ {ds : List D} {vs : List V} {kd : List (Key × D)}, pairsD ds = some kd → repL Z ds vs → ∃ (ps : List Addr) (kv : List (Key × V)), vs = ps.map V.ref ∧ Paired (fun p q => SqT K H p [kV q.1, q.2]) ps kv ∧ RelK Z kd kv
  | [], vs, kd, h, r => by
    cases h
    rw [repL] at r
    subst r
    exact ⟨[], [], rfl, .nil, .nil⟩
  | d :: ds, vs, kd, h, r => by
    unfold pairsD at h
    split at h
    · rename_i h0; cases h0
    · rename_i k v r0 h0
      cases h0
      cases hk : dKey k with
      | none => rw [hk] at h; cases h
      | some key =>
        cases hr : pairsD ds with
        | none => rw [hk, hr] at h; cases h
        | some kd' =>
          rw [hk, hr] at h
          cases h
          rw [repL] at r
          obtain ⟨w, t, rfl, h1, h2⟩ := r
          rw [repV] at h1
          obtain ⟨p, ws, rfl, z, rl⟩ := h1
          obtain ⟨x, y, rfl, rx, ry⟩ := repL2 rl
          rw [kV_of hk rx] at z
          obtain ⟨ps, kv, rfl, pr, rk⟩ := pairs_rep s hr h2
          exact ⟨p :: ps, (key, y) :: kv, rfl, .cons (s.sqT z) pr, .cons ry rk⟩
    · cases h
theorem dictK_rep {Z : Hp} : ∀ {kvs : List (D × D)} {es : List (Key × V)} {o : List (Key × SV)}, repK Z kvs es → (kvs.mapM fun (p : D × D) => (dKey p.1).map fun k => (k, SV.d p.2)) = some o → ∃ kd : List (Key × D), o = kd.map (fun q => (q.1, .d q.2)) ∧ RelK Z kd es
  | [], es, o, r, h => by
    rw [repK] at r
    subst r
    rw [List.mapM_nil] at h
    cases h
    exact ⟨[], rfl, .nil⟩
  | (k, d) :: kvs, es, o, r, h => by
    rw [repK] at r
    obtain ⟨key, v, es', rfl, rfl, h1, h2⟩ := r
    rw [List.mapM_cons] at h
    simp only [dKey_keyD, Option.map_some, Option.bind_eq_bind, Option.bind_some] at h
    cases hm : (kvs.mapM fun (p : D × D) => (dKey p.1).map fun k => (k, SV.d p.2)) with
    | none => rw [hm] at h; cases h
    | some o' =>
      rw [hm] at h
      cases h
      obtain ⟨kd, rfl, rk⟩ := dictK_rep h2 hm
      exact ⟨(key, d) :: kd, rfl, .cons h1 rk⟩
theorem cd_dict (hc : X.calm = true) : CallD X (.type "dict") dictD := by
  intro pins s σ H xs us Q I rv ⟨ds, r, P, Z, L, hg, sr, rl, k⟩
  unfold dictD at hg
  split at hg
  · rename_i es
    cases hp : pairsD es with
    | none => rw [hp] at hg; cases hg
    | some kd =>
      rw [hp] at hg
      cases hg
      obtain ⟨v, rfl, r1⟩ := repL1 rl
      rw [repV] at r1
      obtain ⟨p, vs, rfl, z, r2⟩ := r1
      obtain ⟨ps, kv, rfl, pr, rk⟩ := pairs_rep (K := X.K) sr hp r2
      exact call_dictP hc pins s σ H _ us Q I rv ⟨p, ps, kv, rfl, sr.sqL z, pr, fun q hq => k _ Z _ (Ext.refl _ _) (sr.addK (rk.merge .nil) hq)⟩
  · rename_i kvs
    cases hm : (kvs.mapM fun (p : D × D) => (dKey p.1).map fun k => (k, SV.d p.2)) with
    | none => rw [hm] at hg; cases hg
    | some o =>
      rw [hm] at hg
      cases hg
      obtain ⟨v, rfl, r1⟩ := repL1 rl
      rw [repV] at r1
      obtain ⟨p, es, rfl, z, r2⟩ := r1
      obtain ⟨kd, rfl, rk⟩ := dictK_rep r2 hm
      exact call_dictD pins s σ H _ us Q I rv ⟨p, es, rfl, sr.zed p _ z, fun q hq => k _ Z _ (Ext.refl _ _) (sr.addK rk hq)⟩
  · cases hg
end
end DD

set_option Elab.async false
set_option linter.all false
set_option maxRecDepth 100000
/-! DD19: list(zip(xs, ys)), at the library's level. -/
namespace DDZ
open PySem PySem.W PyProof.Rows
theorem zip_no_len : typeLookup (.type "zip") "__len__" = pure none := by rw [typeLookup_type, builtinLookup_eq_fast]; kernel_rfl
theorem zip_no_hint : typeLookup (.type "zip") "__length_hint__" = pure none := by rw [typeLookup_type, builtinLookup_eq_fast]; kernel_rfl
abbrev lobj (acc : Array Value) (c : Nat) : Obj := { cls := .type "list", dict := none, data := .seq acc c, slots := #[] }
/-- the pairs so far -/
def Acc (h : Heap) (N : Nat) (xs ys : Array Value) (acc : Array Value) (i : Nat) : Prop := acc.size = i ∧ ∀ (j : Nat) (v : Value), acc[j]? = some v → ∃ (t : Addr) (x y : Value), v = Value.ref t ∧ N ≤ t ∧ xs[j]? = some x ∧ ys[j]? = some y ∧ IsPair h t x y
theorem Acc.keep {h h' : Heap} {N : Nat} {xs ys acc : Array Value} {i : Nat} (a : Acc h N xs ys acc i) (k : ∀ b o, N ≤ b → h.get? b = some o → h'.get? b = some o) : Acc h' N xs ys acc i := by
  refine ⟨a.1, fun j v e => ?_⟩
  obtain ⟨t, x, y, h1, h2, h3, h4, h5⟩ := a.2 j v e
  exact ⟨t, x, y, h1, h2, h3, h4, k _ _ h2 h5⟩
theorem Acc.push {h : Heap} {N : Nat} {xs ys acc : Array Value} {i : Nat} {t : Addr} {x y : Value} (a : Acc h N xs ys acc i) (hN : N ≤ t) (hx : xs[i]? = some x) (hy : ys[i]? = some y) (hp : IsPair h t x y) : Acc h N xs ys (acc.push (.ref t)) (i + 1) := by
  refine ⟨by rw [Array.size_push, a.1], fun j v e => ?_⟩
  rw [Array.getElem?_push] at e
  split at e
  · rename_i he
    rw [a.1] at he
    subst he
    cases e
    exact ⟨t, x, y, rfl, hN, hx, hy, hp⟩
  · exact a.2 j v e
section
variable {prog : Program} {w : World} {A : Around} {E : Value → Shared → Prop} {R : Result → Shared → Prop} {z TI TO i1 i2 l1 l2 S : Addr} {xs ys : Array Value} {res : Value} {n N : Nat}
/-- who stands where: all older than N -/
structure Low (N : Nat) (z TI TO i1 i2 l1 l2 S : Addr) : Prop where
  lz : z < N
  li1 : i1 < N
  li2 : i2 < N
  lTO : TO < N
  lS : S < N
  Sz : S ≠ z
  STI : S ≠ TI
  STO : S ≠ TO
  Si1 : S ≠ i1
  Si2 : S ≠ i2
  Sl1 : S ≠ l1
  Sl2 : S ≠ l2
theorem older {a N b : Addr} (h : a < N) (h2 : N ≤ b) : b ≠ a := Nat.ne_of_gt (Nat.lt_of_lt_of_le h h2)
/-- what a turn may change -/
def Kp (z TO i1 i2 S : Addr) (h h' : Heap) : Prop := ∀ b o, b ≠ z → b ≠ TO → b ≠ i1 → b ≠ i2 → b ≠ S → h.get? b = some o → h'.get? b = some o
theorem Kp.trans {h h' h'' : Heap} (a : Kp z TO i1 i2 S h h') (b : Kp z TO i1 i2 S h' h'') : Kp z TO i1 i2 S h h'' := fun c o c1 c2 c3 c4 c5 e => b c o c1 c2 c3 c4 c5 (a c o c1 c2 c3 c4 c5 e)
theorem Kp.old (L : Low N z TI TO i1 i2 l1 l2 S) {h h' : Heap} (k : Kp z TO i1 i2 S h h') : ∀ b o, N ≤ b → h.get? b = some o → h'.get? b = some o := fun b o hb e =>
  k b o (older L.lz hb) (older L.lTO hb) (older L.li1 hb) (older L.li2 hb) (older L.lS hb) e
theorem loop_held (D : ZipApart z TI TO i1 i2 l1 l2) (L : Low N z TI TO i1 i2 l1 l2 S) (hh : A.in1.handled = none) (hn : n ≤ sizeLine) (hm : min xs.size ys.size = n) : ∀ (k i : Nat) (s : Shared) (acc : Array Value) (c : Nat) (T : Addr) (oT : Obj) (f : Bool), n - i = k → i ≤ n →
    N ≤ s.heap.objs.size → N ≤ T → IsZipHeld s.heap z TI TO T f → s.heap.get? T = some oT → IsPair s.heap TI (.ref i1) (.ref i2) → s.heap.IsListIter i1 l1 i → s.heap.IsListIter i2 l2 i → s.heap.IsList l1 xs → s.heap.IsList l2 ys →
    s.heap.get? S = some (lobj acc c) → Acc s.heap N xs ys acc i →
    (∀ h' acc' c', Kp z TO i1 i2 S s.heap h' → h'.get? S = some (lobj acc' c') → Acc h' N xs ys acc' n → R (.ok (.ret res)) { s with heap := h' }) →
    codeAny (model prog w) A (.builtin "list.extend.loop" ⟨[.ref S, .ref z, res], []⟩) R s := by
  intro k
  induction k with
  | zero =>
    intro i s acc c T oT f hk hi hN hT hz hoT hTI h1 h2 hl1 hl2 hS ha hR
    have hin : i = n := by omega
    subst hin
    refine codeAny_builtin PySem.F.entry_extend_loop ?_
    rw [Around.under_plainId PySem.F.plain_extend_loop _]
    show wpAny _ A.in1 (pyNext (.ref z) >>= _) _ _ s
    have he : xs[i]? = none ∨ ys[i]? = none := by
      rcases Nat.le_total xs.size ys.size with q | q
      · exact .inl (Array.getElem?_eq_none (by omega))
      · exact .inr (Array.getElem?_eq_none (by omega))
    refine wpAny_bind (wpAny_pyNext_zip_end_held hh D hz hoT hTI h1 h2 hl1 hl2 he fun h' hk' => ?_)
    have kp : Kp z TO i1 i2 S s.heap h' := fun b o c1 _ c3 c4 _ e => hk' b o c1 c3 c4 e
    exact wpAny_pure (hR h' acc c kp (hk' S _ L.Sz L.Si1 L.Si2 hS) (ha.keep (kp.old L)))
  | succ k ih =>
    intro i s acc c T oT f hk hi hN hT hz hoT hTI h1 h2 hl1 hl2 hS ha hR
    have hlt : i < n := by omega
    have hx : i < xs.size := by omega
    have hy : i < ys.size := by omega
    refine codeAny_builtin PySem.F.entry_extend_loop ?_
    rw [Around.under_plainId PySem.F.plain_extend_loop _]
    show wpAny _ A.in1 (pyNext (.ref z) >>= _) _ _ s
    refine wpAny_bind (wpAny_pyNext_zip_item_held D hz hoT hTI h1 h2 hl1 hl2 (Array.getElem?_eq_getElem hx) (Array.getElem?_eq_getElem hy) fun h' hz' h1' h2' hp hsz hk' => ?_)
    have hS' := hk' S _ L.Sz L.Si1 L.Si2 hS
    show wpAny _ A.in1 (updateSeq S (·.push (.ref s.heap.objs.size)) >>= _) _ _ _
    have oth : ∀ b o, b ≠ S → h'.get? b = some o → (h'.update S (Obj.mapSeq (·.push (.ref s.heap.objs.size)))).get? b = some o := fun b o hb e => (Heap.get?_update_other _ _ (Ne.symm hb)).trans e
    have tne : T ≠ z ∧ T ≠ i1 ∧ T ≠ i2 ∧ T ≠ S := ⟨older L.lz hT, older L.li1 hT, older L.li2 hT, older L.lS hT⟩
    refine wpAny_bind ?_
    refine wpAny_updateSeq hS' rfl (wpAny_pure ⟨plainId_quiet PySem.F.plain_extend_loop _, ih (i + 1) _ (acc.push (.ref s.heap.objs.size)) _ T oT true (by omega) hlt ?_ hT
      (oth _ _ L.Sz.symm hz') (oth _ _ tne.2.2.2.symm.symm (hk' T _ tne.1 tne.2.1 tne.2.2.1 hoT)) (oth _ _ L.STI.symm (hk' TI _ D.TIz D.TIi1 D.TIi2 hTI))
      (h1'.extBut (b := S) (fun b o hb e => oth b o hb e) L.Si1.symm) (h2'.extBut (b := S) (fun b o hb e => oth b o hb e) L.Si2.symm)
      ?_ ?_ (Heap.get?_update_self _ hS' rfl) ?_ fun h'' acc' c' kp hS'' ha' => ?_⟩)
      (by rw [ha.1]; omega) (by show (acc.push _).size ≤ sizeLine + 1; rw [Array.size_push, ha.1]; omega)
    · show N ≤ (h'.update S _).objs.size
      rw [Heap.size_update, hsz]
      exact Nat.le_succ_of_le hN
    · exact hl1.at fun o e => oth _ _ L.Sl1.symm (hk' _ _ D.l1z D.l1i1 D.l1i2 e)
    · exact hl2.at fun o e => oth _ _ L.Sl2.symm (hk' _ _ D.l2z D.l2i1 D.l2i2 e)
    · have a1 := ha.keep (h' := h') fun b o hb e => hk' b o (older L.lz hb) (older L.li1 hb) (older L.li2 hb) e
      exact (a1.push hN (Array.getElem?_eq_getElem hx) (Array.getElem?_eq_getElem hy) hp).keep fun b o hb e => oth b o (older L.lS hb) e
    · have kp1 : Kp z TO i1 i2 S s.heap (h'.update S (Obj.mapSeq (·.push (.ref s.heap.objs.size)))) := fun b o c1 _ c3 c4 c5 e => oth b o c5 (hk' b o c1 c3 c4 e)
      exact hR h'' acc' c' (kp1.trans kp) hS'' ha'
/-- from the start: the first turn makes the tuple that is out -/
theorem loop_zip {a b : Value} (D : ZipApart z TI TO i1 i2 l1 l2) (L : Low N z TI TO i1 i2 l1 l2 S) (hh : A.in1.handled = none) (hn : n ≤ sizeLine) (hm : min xs.size ys.size = n) (s : Shared) (c : Nat)
    (hN : N ≤ s.heap.objs.size) (hz : IsZip s.heap z TI TO .none) (hTI : IsPair s.heap TI (.ref i1) (.ref i2)) (hTO : IsPair s.heap TO a b) (h1 : s.heap.IsListIter i1 l1 0) (h2 : s.heap.IsListIter i2 l2 0) (hl1 : s.heap.IsList l1 xs) (hl2 : s.heap.IsList l2 ys)
    (hS : s.heap.get? S = some (lobj #[] c))
    (hR : ∀ h' acc' c', Kp z TO i1 i2 S s.heap h' → h'.get? S = some (lobj acc' c') → Acc h' N xs ys acc' n → R (.ok (.ret res)) { s with heap := h' }) :
    codeAny (model prog w) A (.builtin "list.extend.loop" ⟨[.ref S, .ref z, res], []⟩) R s := by
  refine codeAny_builtin PySem.F.entry_extend_loop ?_
  rw [Around.under_plainId PySem.F.plain_extend_loop _]
  show wpAny _ A.in1 (pyNext (.ref z) >>= _) _ _ s
  by_cases h0 : n = 0
  · subst h0
    have he : xs[0]? = none ∨ ys[0]? = none := by
      rcases Nat.le_total xs.size ys.size with q | q
      · exact .inl (Array.getElem?_eq_none (by omega))
      · exact .inr (Array.getElem?_eq_none (by omega))
    refine wpAny_bind (wpAny_pyNext_zip_end hh D hz hTI hTO h1 h2 hl1 hl2 he fun h' hk' => ?_)
    have kp : Kp z TO i1 i2 S s.heap h' := fun b o c1 c2 c3 c4 _ e => hk' b o c1 c2 c3 c4 e
    exact wpAny_pure (hR h' #[] c kp (hk' S _ L.Sz L.STO L.Si1 L.Si2 hS) ⟨rfl, fun j v e => by simp at e⟩)
  · have hx : 0 < xs.size := by omega
    have hy : 0 < ys.size := by omega
    refine wpAny_bind (wpAny_pyNext_zip_item D hz hTI hTO h1 h2 hl1 hl2 (Array.getElem?_eq_getElem hx) (Array.getElem?_eq_getElem hy) fun h' hz' hTO' h1' h2' hp hsz hk' => ?_)
    have hS' := hk' S _ L.Sz L.STO L.Si1 L.Si2 hS
    show wpAny _ A.in1 (updateSeq S (·.push (.ref s.heap.objs.size)) >>= _) _ _ _
    have oth : ∀ b o, b ≠ S → h'.get? b = some o → (h'.update S (Obj.mapSeq (·.push (.ref s.heap.objs.size)))).get? b = some o := fun b o hb e => (Heap.get?_update_other _ _ (Ne.symm hb)).trans e
    have kp1 : Kp z TO i1 i2 S s.heap (h'.update S (Obj.mapSeq (·.push (.ref s.heap.objs.size)))) := fun b o c1 c2 c3 c4 c5 e => oth b o c5 (hk' b o c1 c2 c3 c4 e)
    refine wpAny_bind ?_
    refine wpAny_updateSeq hS' rfl (wpAny_pure ⟨plainId_quiet PySem.F.plain_extend_loop _, loop_held (n := n) D L hh hn hm (n - 1) 1 _ #[.ref s.heap.objs.size] _ s.heap.objs.size _ false (by omega) (by omega) ?_ hN
      (oth _ _ L.Sz.symm hz') (oth _ _ (older L.lS hN) hp) (oth _ _ L.STI.symm (hk' TI _ D.TIz D.TITO D.TIi1 D.TIi2 hTI))
      (h1'.extBut (b := S) (fun b o hb e => oth b o hb e) L.Si1.symm) (h2'.extBut (b := S) (fun b o hb e => oth b o hb e) L.Si2.symm)
      ?_ ?_ (Heap.get?_update_self _ hS' rfl) ?_ fun h'' acc' c' kp hS'' ha' => ?_⟩) (by simp) (by simp [sizeLine])
    · show N ≤ (h'.update S _).objs.size
      rw [Heap.size_update, hsz]
      exact Nat.le_succ_of_le hN
    · exact hl1.at fun o e => oth _ _ L.Sl1.symm (hk' _ _ D.l1z D.l1TO D.l1i1 D.l1i2 e)
    · exact hl2.at fun o e => oth _ _ L.Sl2.symm (hk' _ _ D.l2z D.l2TO D.l2i1 D.l2i2 e)
    · have a1 : Acc h' N xs ys #[] 0 := ⟨rfl, fun j v e => by simp at e⟩
      exact (a1.push hN (Array.getElem?_eq_getElem hx) (Array.getElem?_eq_getElem hy) hp).keep fun b o hb e => oth b o (older L.lS hb) e
    · exact hR h'' acc' c' (kp1.trans kp) hS'' ha'
end
section
variable {prog : Program} {w : World} {A : Around} {E : Value → Shared → Prop} {s : Shared}
theorem init_zip {R : Result → Shared → Prop} {z TI TO i1 i2 l1 l2 : Addr} {xs ys : Array Value} {a b : Value} (hh : A.handled = none) (D : ZipApart z TI TO i1 i2 l1 l2) (S : Addr) (hS : s.heap.get? S = some { cls := .type "list", data := .seq #[] }) (L : Low s.heap.objs.size z TI TO i1 i2 l1 l2 S)
    (hz : IsZip s.heap z TI TO .none) (hTI : IsPair s.heap TI (.ref i1) (.ref i2)) (hTO : IsPair s.heap TO a b) (h1 : s.heap.IsListIter i1 l1 0) (h2 : s.heap.IsListIter i2 l2 0) (hl1 : s.heap.IsList l1 xs) (hl2 : s.heap.IsList l2 ys) (hn : min xs.size ys.size ≤ sizeLine)
    (hR : ∀ h' acc' c', Kp z TO i1 i2 S s.heap h' → h'.get? S = some (lobj acc' c') → Acc h' s.heap.objs.size xs ys acc' (min xs.size ys.size) → R (.ok (.ret .none)) { s with heap := h' }) :
    wpAny (model prog w) A.in1 (Builtin.«list.__init__» ⟨[.ref S, .ref z], []⟩)
      (fun fin s' => match fin with | .done f => R (.ok f) s' | .again c' => c'.quiet = true ∧ codeAny (model prog w) A c' R s') (fun e s' => R (.error e) s') s := by
  show wpAny _ _ (do let old ← Builtin.List.listItems (.ref S); Builtin.List.listUpdate (.ref S) (fun _ => #[]); letGo old.toList.reverse; Builtin.List.listExtendWith (.ref S) (.ref z) .none) _ _ s
  refine wpAny_bind ?_
  unfold Builtin.List.listItems
  refine wpAny_bind (wpAny_seqItems hS rfl (wpAny_pure ?_))
  show wpAny _ _ (updateSeq S (fun _ => #[]) >>= fun _ => letGo (#[] : Array Value).toList.reverse >>= fun _ => Builtin.List.listExtendWith (.ref S) (.ref z) .none) _ _ s
  refine wpAny_bind (wpAny_updateSeq hS rfl ?_)
  have hS2 := Heap.get?_update_self (Obj.mapSeq (fun _ => (#[] : Array Value))) hS rfl
  have oth1 : ∀ b o, b ≠ S → s.heap.get? b = some o → (s.heap.update S (Obj.mapSeq (fun _ => (#[] : Array Value)))).get? b = some o :=
    fun b o hb e => (Heap.get?_update_other _ _ (Ne.symm hb)).trans e
  have sz1 : (s.heap.update S (Obj.mapSeq (fun _ => (#[] : Array Value)))).objs.size = s.heap.objs.size := Heap.size_update ..
  generalize s.heap.update S (Obj.mapSeq (fun _ => (#[] : Array Value))) = g1 at *
  refine wpAny_bind (wpAny_letGo ?_)
  unfold Builtin.List.listExtendWith
  have hz1 : IsZip g1 z TI TO .none := oth1 _ _ L.Sz.symm hz
  have hT : ∀ h tk, IsZip h z TI TO .none → Shared.TypeIs { s with heap := h, toks := tk } (.ref z) "zip" := fun h tk q => ⟨_, q, rfl⟩
  refine wpAny_bind (wpAny_typeOf (hT g1 _ hz1) ?_)
  have e1 : Builtin.List.listSameRef (.ref S) (.ref z) = false := by simp [Builtin.List.listSameRef, L.Sz]
  have e2 : (Value.type "zip" == Value.type "list") = false := by decide
  have e3 : (Value.type "zip" == Value.type "tuple") = false := by decide
  simp only [e1, e2, e3, Bool.or_false, Bool.false_eq_true, if_false]
  refine wpAny_bind (wpAny_pyIter_zip hz1 ?_)
  refine wpAny_bind (wpAny_holding ?_)
  unfold Builtin.List.listLengthHint
  refine wpAny_bind (wpAny_specialOf (hT g1 _ hz1) zip_no_len ?_)
  show wpAny _ A.in1 (specialOf (Value.ref z) (Str.ofString "__length_hint__") >>= _) _ _ _
  refine wpAny_bind (wpAny_specialOf (hT g1 _ hz1) zip_no_hint ?_)
  refine wpAny_pure ?_
  show wpAny _ A.in1 (rule "list.extend.makes-room" >>= fun _ => Builtin.List.listTouch (.ref S) >>= fun _ =>
    again (.builtin "list.extend.loop" ⟨[.ref S, .ref z, .none], []⟩)) _ _ _
  refine wpAny_bind (wpAny_rule ?_)
  refine wpAny_bind ?_
  show wpAny _ A.in1 (updateSeq S (·.push .none) >>= fun _ => updateSeq S (·.pop)) _ _ _
  refine wpAny_bind (wpAny_updateSeq hS2 rfl ?_)
  have hS3 := Heap.get?_update_self (Obj.mapSeq (·.push Value.none)) hS2 rfl
  refine wpAny_updateSeq hS3 rfl ?_
  have hS4 := Heap.get?_update_self (Obj.mapSeq (·.pop)) hS3 rfl
  have oth2 : ∀ b o, b ≠ S → g1.get? b = some o → ((g1.update S (Obj.mapSeq (·.push Value.none))).update S (Obj.mapSeq (·.pop))).get? b = some o :=
    fun b o hb e => (Heap.get?_update_other _ _ (Ne.symm hb)).trans ((Heap.get?_update_other _ _ (Ne.symm hb)).trans e)
  have sz2 : ((g1.update S (Obj.mapSeq (·.push Value.none))).update S (Obj.mapSeq (·.pop))).objs.size = s.heap.objs.size := by rw [Heap.size_update, Heap.size_update, sz1]
  have oth : ∀ b o, b ≠ S → s.heap.get? b = some o → ((g1.update S (Obj.mapSeq (·.push Value.none))).update S (Obj.mapSeq (·.pop))).get? b = some o := fun b o hb e => oth2 b o hb (oth1 b o hb e)
  refine wpAny_pure ⟨plainId_quiet PySem.F.plain_extend_loop _, loop_zip (a := a) (b := b) (N := s.heap.objs.size) D L hh hn rfl _ _ (Nat.le_of_eq sz2.symm) (oth _ _ L.Sz.symm hz) (oth _ _ L.STI.symm hTI) (oth _ _ L.STO.symm hTO)
    (h1.extBut (b := S) (fun b o hb e => oth b o hb e) L.Si1.symm) (h2.extBut (b := S) (fun b o hb e => oth b o hb e) L.Si2.symm) (hl1.at fun o e => oth _ _ L.Sl1.symm e) (hl2.at fun o e => oth _ _ L.Sl2.symm e) hS4 fun h' acc' c' kp hS' ha => ?_⟩
  exact hR h' acc' c' (fun b o c1 c2 c3 c4 c5 e => kp b o c1 c2 c3 c4 c5 (oth b o c5 e)) hS' ha
/-- list(z), z a zip at its start -/
theorem call_list_zip {Q : Value → Shared → Prop} {z TI TO i1 i2 l1 l2 : Addr} {xs ys : Array Value} {a b : Value} (hh : A.handled = none) (D : ZipApart z TI TO i1 i2 l1 l2) 
    (hz : IsZip s.heap z TI TO .none) (hTI : IsPair s.heap TI (.ref i1) (.ref i2)) (hTO : IsPair s.heap TO a b) (h1 : s.heap.IsListIter i1 l1 0) (h2 : s.heap.IsListIter i2 l2 0) (hl1 : s.heap.IsList l1 xs) (hl2 : s.heap.IsList l2 ys) (hn : min xs.size ys.size ≤ sizeLine)
    (hQ : ∀ h' acc' c', (∀ b o, b ≠ z → b ≠ TO → b ≠ i1 → b ≠ i2 → s.heap.get? b = some o → h'.get? b = some o) → h'.get? s.heap.objs.size = some (lobj acc' c') → Acc h' (s.heap.objs.size + 1) xs ys acc' (min xs.size ys.size) → Q (.ref s.heap.objs.size) { s with heap := h' }) :
    wpAny (model prog w) A (call (.type "list") [.ref z]) Q E s := by
  have lt : ∀ {c : Addr} {o : Obj}, s.heap.get? c = some o → c < s.heap.objs.size := fun e => Heap.lt_size e
  obtain ⟨o1, g1, _⟩ := id h1
  obtain ⟨o2, g2, _⟩ := id h2
  obtain ⟨ol1, gl1, _⟩ := id hl1
  obtain ⟨ol2, gl2, _⟩ := id hl2
  refine callType_codes (Q₁ := fun obj s1 => obj = .ref s.heap.objs.size ∧ s1 = { s with heap := s.heap.push { cls := .type "list", data := .seq #[] } }) PySem.F.called_list (PySem.F.typeCall_list_1 _) PySem.F.entry_list_init
    (code_list_new _ ⟨rfl, rfl⟩) fun obj s1 h0 => ?_
  obtain ⟨rfl, rfl⟩ := h0
  have hS : (s.heap.push { cls := .type "list", data := .seq #[] }).get? s.heap.objs.size = some { cls := .type "list", data := .seq #[] } := Heap.get?_push_size _ rfl
  have old : ∀ b o, s.heap.get? b = some o → (s.heap.push { cls := .type "list", data := .seq #[] }).get? b = some o := fun b o e => Heap.get?_push_of_some _ e
  have szp : (s.heap.push { cls := .type "list", data := .seq #[] }).objs.size = s.heap.objs.size + 1 := Heap.size_push ..
  have L : Low (s.heap.push { cls := .type "list", data := .seq #[] }).objs.size z TI TO i1 i2 l1 l2 s.heap.objs.size := by
    rw [szp]
    exact ⟨Nat.lt_succ_of_lt (lt hz), Nat.lt_succ_of_lt (lt g1), Nat.lt_succ_of_lt (lt g2), Nat.lt_succ_of_lt (lt hTO), Nat.lt_succ_self _, Nat.ne_of_gt (lt hz), Nat.ne_of_gt (lt hTI), Nat.ne_of_gt (lt hTO), Nat.ne_of_gt (lt g1), Nat.ne_of_gt (lt g2), Nat.ne_of_gt (lt gl1), Nat.ne_of_gt (lt gl2)⟩
  refine ⟨⟨_, hS, rfl⟩, PySem.F.args_list_init_2 _ _, init_zip (A := A.in1) (a := a) (b := b) hh D _ hS L (old _ _ hz) (old _ _ hTI) (old _ _ hTO) (h1.at fun o e => old _ _ e) (h2.at fun o e => old _ _ e) (hl1.at fun o e => old _ _ e) (hl2.at fun o e => old _ _ e) hn fun h' acc' c' kp hS' ha => ?_⟩
  refine ⟨rfl, hQ h' acc' c' (fun b o c1 c2 c3 c4 e => kp b o c1 c2 c3 c4 (Nat.ne_of_lt (lt e)) (old _ _ e)) hS' (by rw [← szp]; exact ha)⟩
end
end DDZ

set_option Elab.async false
set_option linter.all false
set_option maxRecDepth 100000
/-! DD20: list(d.items()), list(zip(a, b)). -/
namespace DD
open PySem PySem.Spec PyProof.Rows L2
/-- new tuples of data, and a list of them -/
theorem SR.newTups {P Z H H' : Hp} {L : List Cell} {p : Addr} {ts : List Addr} {ps : List (List V)} {dss : List (List D)} (s : SR P Z H L) (ex : ∀ b o, H b = some o → H' b = some o) (hp : H p = none) (ht : ∀ t ∈ ts, H t = none) (hn : p ∉ ts) (hP : H' p = some (.lst (ts.map V.ref)))
    (hT : Paired (fun t vs => H' t = some (.tup vs)) ts ps) (hD : Paired (fun ds vs => repL Z ds vs) dss ps) : ∃ Z', Ext P Z Z' ∧ SR P Z' H' ((some (.ref p), .lst (dss.map fun ds => .d (.tuple ds))) :: L) := by
  obtain ⟨own, r, nd, k⟩ := s.ex
  have pn : ∀ {a}, H a = none → P a = none := fun {a} h => by
    cases q : P a with
    | none => rfl
    | some u => rw [s.prot _ _ q] at h; cases h
  have zn : ∀ {a}, H a = none → Z a = none := fun {a} h => by
    cases q : Z a with
    | none => rfl
    | some u => rcases s.zed _ _ q with q | ⟨_, q⟩ <;> rw [h] at q <;> cases q
  have sub : Sub0 Z (plus Z H' ts) := plus_ext fun a ha => zn (ht a ha)
  have keepO : ∀ a ∈ own, H' a = H a := fun a ha => by
    obtain ⟨o, ho⟩ := repA_there r a ha
    rw [ho]; exact ex a o ho
  have rl : ∀ {ts' : List Addr} {ps' : List (List V)} {dss' : List (List D)}, (∀ t ∈ ts', t ∈ ts) → Paired (fun t vs => H' t = some (.tup vs)) ts' ps' → Paired (fun ds vs => repL Z ds vs) dss' ps' → repSs (plus Z H' ts) H' (dss'.map fun ds => .d (.tuple ds)) (ts'.map V.ref) [] := by
    intro ts' ps' dss' hm h1 h2
    induction h1 generalizing dss' with
    | nil => cases h2; rw [List.map_nil, List.map_nil, repSs]; exact ⟨rfl, rfl⟩
    | @cons t vs ts2 ps2 h _ ih =>
      cases h2 with
      | @cons ds _ dss2 _ hd h3 =>
        rw [List.map_cons, List.map_cons, repSs]
        refine ⟨_, _, [], [], rfl, rfl, ?_, ih (fun u hu => hm u (List.mem_cons_of_mem _ hu)) h3⟩
        rw [repS, repV]
        exact ⟨rfl, t, vs, rfl, by rw [plus_in (hm t (List.mem_cons_self ..))]; exact h, repL_ext sub hd⟩
  refine ⟨plus Z H' ts, ⟨sub, fun a u e => ?_⟩, fun a o e => ex a o (s.prot a o e), fun a u e => ?_, p :: own, ⟨[p], own, rfl, repO_of ?_, repA_keep sub keepO r⟩, ?_, fun a ha => ?_⟩
  · unfold plus at e
    split at e
    · rename_i ha; exact .inr (pn (ht a ha))
    · exact .inl ⟨u, e⟩
  · unfold plus at e
    split at e
    · exact .inl e
    · rcases s.zed a u e with q | ⟨ob, q⟩
      · exact .inl (ex _ _ q)
      · exact .inr ⟨ob, ex _ _ q⟩
  · rw [repS]
    exact ⟨p, _, [], rfl, rfl, hP, rl (fun _ h => h) hT hD⟩
  · rw [List.nodup_cons]
    exact ⟨(fun ha => by obtain ⟨o, ho⟩ := repA_there r p ha; rw [hp] at ho; cases ho), nd⟩
  · rcases List.mem_cons.mp ha with rfl | ha
    · exact ⟨pn hp, by unfold plus; rw [if_neg hn]; exact zn hp⟩
    · refine ⟨(k a ha).1, ?_⟩
      unfold plus
      rw [if_neg fun hm => ?_]
      · exact (k a ha).2
      · obtain ⟨o, ho⟩ := repA_there r a ha
        rw [ht a hm] at ho
        cases ho
section
variable {X : Cx} {E : XK}
/-- the plain things of a dict of one's own -/
def plainS : List (Key × SV) → Option (List (Key × D))
  | [] => some []
  | (k, .d x) :: r => (plainS r).map ((k, x) :: ·)
  | _ :: _ => none
def itemsO : SV → Option SV
  | .dct kvs => (plainS kvs).map fun l => .lst (l.map fun q => .d (.tuple [keyD q.1, q.2]))
  | _ => none
def mUnO (g : SV → Option SV) (f : M SV) : M SV := bnd f fun x => lift (g x)
theorem plainS_rep {Z H : Hp} : ∀ {kvs : List (Key × SV)} {l : List (Key × D)} {es : List (Key × V)} {own : List Addr}, plainS kvs = some l → repSk Z H kvs es own → RelK Z l es
  | [], l, es, own, h, r => by
    cases h
    rw [repSk] at r
    rw [r.1]
    exact .nil
  | (k, x) :: kvs, l, es, own, h, r => by
    rw [repSk] at r
    obtain ⟨v, t, o1, o2, rfl, rfl, h1, h2⟩ := r
    unfold plainS at h
    split at h
    · rename_i h0; cases h0
    · rename_i k' y r' h0
      cases h0
      cases hp : plainS kvs with
      | none => rw [hp] at h; cases h
      | some l' =>
        rw [hp] at h
        cases h
        rw [repS] at h1
        exact .cons h1.2 (plainS_rep hp h2)
    · cases h
theorem relK_pairs {Z : Hp} {l : List (Key × D)} {es : List (Key × V)} (r : RelK Z l es) : Paired (fun ds vs => repL Z ds vs) (l.map fun q => [keyD q.1, q.2]) (es.map fun q => [kV q.1, q.2]) := by
  induction r with
  | nil => exact .nil
  | @cons k d v kd kv h _ ih =>
    refine .cons ?_ ih
    dsimp only
    rw [repL]
    refine ⟨_, _, rfl, ?_, ?_⟩
    · cases k <;> (show repV Z _ _; simp only [keyD, kV]; rw [repV])
    · rw [repL]; exact ⟨_, _, rfl, h, by rw [repL]⟩
theorem paired_imp {α β : Type} {F G : α → β → Prop} (h : ∀ x y, F x y → G x y) : ∀ {xs : List α} {ys : List β}, Paired F xs ys → Paired G xs ys
  | _, _, .nil => .nil
  | _, _, .cons a t => .cons (h _ _ a) (paired_imp h t)
theorem paired_map {α β γ : Type} {F : α → γ → Prop} {g : β → γ} : ∀ {xs : List α} {ys : List β}, Paired (fun x y => F x (g y)) xs ys → Paired F xs (ys.map g)
  | _, _, .nil => .nil
  | _, _, .cons h t => .cons h (paired_map t)
theorem de_listItems {e : Expr} {f : M SV} {p apos cpos pos : Pos} (hc : X.calm = true) (he : DE X E e f) (hg : Gl X "list") (hm : X.mg "list" = none) (hv : bootBuiltins "list" = some (.type "list") := by decide +kernel) (hbase : attributeBase e "items" X.env (eval e X.env) = eval e X.env := by rfl) (hline : (apos.endLine == cpos.line) = true := by rfl)
    (hs : starEach [.Call (.Attribute e "items" apos) [] [] cpos] X.env = (false, eval (.Call (.Attribute e "items" apos) [] [] cpos) X.env) :: starEach [] X.env := by rfl) : DE X E (.Call (.Name "list" p) [.Call (.Attribute e "items" apos) [] [] cpos] [] pos) (mUnO itemsO f) := by
  refine PEimp (LiI.pe_listItems hc he hg hm hv hbase hline hs) fun σ H Q ⟨sl, res, sl', P, Z, tm, q, a, k, ex⟩ => ?_
  refine run1 q a ex fun x sl1 v Z1 H1 q1 e1 a1 _ => ?_
  obtain ⟨r, hr, e⟩ := lift_inv q1
  cases e
  cases x with
  | dct kvs =>
    dsimp only [itemsO] at hr
    cases hp : plainS kvs with
    | none => rw [hp] at hr; cases hr
    | some l =>
      rw [hp] at hr
      cases hr
      obtain ⟨own, rr, nd, kk⟩ := a1.2.ex
      obtain ⟨o1, o2, e2, r1, r2⟩ := rr
      have r1 := repO_get r1
      rw [repS] at r1
      obtain ⟨d, es, o, rfl, rfl, hd, rk⟩ := r1
      have rel := plainS_rep hp rk
      refine ⟨d, es, rfl, hd, fun H' p ts h1 h2 h3 h4 h5 h6 => ?_⟩
      obtain ⟨Z2, e3, s2⟩ := SR.newTups (L := tm ++ List.zip σ sl') a1.tail.2 h1 h2 h3 h4 h5 (paired_map h6) (relK_pairs rel)
      have := k _ rfl (.ref p) Z2 H' (e1.trans e3) ⟨a1.1, by rw [List.map_map] at s2; exact s2⟩
      exact this
  | _ => cases hr

/-! ## list(zip(a, b)) -/
def tupAt (h : Heap) (b : Addr) : List V := match h.get? b with
  | some o => (match o.data with
    | .seq its _ => its.toList.filterMap absV
    | _ => [])
  | none => []
theorem vals_abs : ∀ {vs : List V} {us : List Value}, Vals vs us → us.filterMap absV = vs
  | _, _, .nil => rfl
  | _, _, .cons r t => by rw [List.filterMap_cons, r.abs, vals_abs t]
theorem tupAt_of {h : Heap} {t : Addr} {vs : List V} {its : List Value} (r : Vals vs its) (i : IsTup h t its.toArray) : tupAt h t = vs := by
  obtain ⟨o, h1, h2, n, h3⟩ := i
  unfold tupAt
  rw [h1]
  dsimp only
  rw [h3]
  dsimp only
  exact vals_abs r
theorem laid_tups {pins : List (Addr × Obj)} {σ : L2.St} {H : Hp} {s : Shared} {h' : Heap} {tk : Nat} {acc : Array Value} {c : Nat} {as : List Addr} {ps : List (List V)} {S : Addr} (I : Inv X pins σ H s) (hk : ∀ b o, s.heap.get? b = some o → h'.get? b = some o) (hS0 : s.heap.objs.size ≤ S)
    (hS : h'.get? S = some { cls := .type "list", dict := none, data := .seq acc c, slots := #[] }) (hacc : acc.toList = as.map Value.ref) (hz : as.length ≤ sizeLine) (hT : Paired (fun (t : Addr) (vs : List V) => s.heap.objs.size ≤ t ∧ t ≠ S ∧ vs.length ≤ sizeLine ∧ ∃ its, Vals vs its ∧ IsTup h' t its.toArray) as ps) :
    ∃ H' : Hp, (∀ b o, H b = some o → H' b = some o) ∧ H S = none ∧ (∀ t ∈ as, H t = none) ∧ S ∉ as ∧ H' S = some (.lst (as.map V.ref)) ∧ Paired (fun t vs => H' t = some (.tup vs)) as ps ∧ Inv X pins σ H' { s with heap := h', toks := tk } := by
  have mem : ∀ t ∈ as, s.heap.objs.size ≤ t ∧ t ≠ S ∧ (tupAt h' t).length ≤ sizeLine ∧ ∃ its, Vals (tupAt h' t) its ∧ IsTup h' t its.toArray := fun t ht => by
    obtain ⟨j, vs, _, _, h1, h2, h3, its, h4, h5⟩ := LiI.paired_ix hT ht
    rw [tupAt_of h4 h5]
    exact ⟨h1, h2, h3, its, h4, h5⟩
  have new : ∀ t ∈ as, H t = none := fun t ht => I.hok.fresh (mem t ht).1
  have newS : H S = none := I.hok.fresh hS0
  have nS : S ∉ as := fun h => (mem S h).2.1 rfl
  obtain ⟨H', hH'⟩ : ∃ H' : Hp, H' = fun b => if b = S then some (.lst (as.map V.ref)) else if b ∈ as then some (.tup (tupAt h' b)) else H b := ⟨_, rfl⟩
  have e1 : H' S = some (.lst (as.map V.ref)) := by rw [hH']; simp
  have e2 : ∀ t ∈ as, H' t = some (.tup (tupAt h' t)) := fun t ht => by rw [hH']; dsimp only; rw [if_neg (mem t ht).2.1, if_pos ht]
  have e3 : ∀ b, b ≠ S → b ∉ as → H' b = H b := fun b h1 h2 => by rw [hH']; dsimp only; rw [if_neg h1, if_neg h2]
  have kp : ∀ b u, H b = some u → H' b = some u := fun b u e => by
    rw [e3 b (fun z => by rw [z, newS] at e; cases e) fun z => by rw [new b z] at e; cases e]
    exact e
  have low : ∀ b o, s.heap.get? b = some o → b ∉ as ∧ b ≠ S := fun b o e => ⟨fun z => absurd (Heap.lt_size e) (Nat.not_lt.mpr (mem b z).1), fun z => by subst z; exact absurd (Heap.lt_size e) (Nat.not_lt.mpr hS0)⟩
  refine ⟨H', kp, newS, new, nS, e1, ?_, ?_⟩
  · have : ∀ {as' : List Addr} {ps' : List (List V)}, (∀ t ∈ as', t ∈ as) → Paired (fun (t : Addr) (vs : List V) => s.heap.objs.size ≤ t ∧ t ≠ S ∧ vs.length ≤ sizeLine ∧ ∃ its, Vals vs its ∧ IsTup h' t its.toArray) as' ps' → Paired (fun t vs => H' t = some (.tup vs)) as' ps' := by
      intro as' ps' hm h
      induction h with
      | nil => exact .nil
      | @cons t vs _ _ h _ ih =>
        obtain ⟨_, _, _, its, h4, h5⟩ := h
        refine .cons ?_ (ih fun u hu => hm u (List.mem_cons_of_mem _ hu))
        rw [e2 t (hm t (List.mem_cons_self ..)), tupAt_of h4 h5]
    exact this (fun _ h => h) hT
  · refine I.call' (ch := []) rfl ⟨fun b o q _ _ _ => hk b o q, fun b o q _ _ _ => ⟨o.slots, hk b o q⟩, fun b o q n _ => ?_, fun b o q _ => ⟨o, hk b o q⟩, fun b xs q => kp b _ q, fun b o u q => kp b _ q, fun b ps q => ⟨#[], by rw [kp b _ q]; simp⟩⟩ (fun b u q => ?_) I.bare fun b z => by simp at z
    · obtain ⟨z1, z2⟩ := low b o q
      rw [e3 b z2 z1]
      exact n
    · by_cases hb : b ∈ as
      · rw [e2 b hb] at q
        cases q
        obtain ⟨_, _, h3, its, h4, h5⟩ := mem b hb
        exact ⟨h3, its, h4, h5⟩
      · by_cases hb2 : b = S
        · subst hb2
          rw [e1] at q
          cases q
          refine ⟨by rw [List.length_map]; exact hz, acc.toList, c, by rw [hacc]; exact LiI.vals_refs as, ?_⟩
          rw [Array.toArray_toList]
          exact hS
        · rw [e3 b hb2 hb] at q
          exact (I.hok b u q).stay (fun d v _ y => hk d v y) (fun d y => kp d _ y) fun d xs y => kp d _ y
def rZipL (K : PySem.W.Frag) : List V → Hp → VK → Prop := fun vs H Q => ∃ (a b : Addr) (xs ys : List V), vs = [.ref a, .ref b] ∧ SqL K H a xs ∧ SqL K H b ys ∧
  ∀ (H' : Hp) (p : Addr) (ts : List Addr), (∀ b o, H b = some o → H' b = some o) → H p = none → (∀ t ∈ ts, H t = none) → p ∉ ts → H' p = some (.lst (ts.map V.ref)) → Paired (fun t vs => H' t = some (.tup vs)) ts (List.zipWith (fun x y => [x, y]) xs ys) → Q (.ref p) H'
def tListZip (K : PySem.W.Frag) (ta : TA) : TE := fun σ H Q => ta σ H fun vs H1 => rZipL K vs H1 Q
theorem acc_split {h : Heap} {N n : Nat} {xs ys : List V} {us ws : List Value} {acc : Array Value} (rx : Vals xs us) (ry : Vals ys ws) (hn : n = min us.length ws.length) (ha : DDZ.Acc h N us.toArray ws.toArray acc n) : ∃ as : List Addr, acc.toList = as.map Value.ref ∧
    Paired (fun (t : Addr) (vs : List V) => N ≤ t ∧ vs.length ≤ sizeLine ∧ ∃ its, Vals vs its ∧ IsTup h t its.toArray) as (List.zipWith (fun x y => [x, y]) xs ys) := by
  have : ∀ (l : List Value) (xs ys : List V) (us ws : List Value), Vals xs us → Vals ys ws → l.length = min us.length ws.length → (∀ (j : Nat) (v : Value), l[j]? = some v → ∃ (t : Addr) (x y : Value), v = .ref t ∧ N ≤ t ∧ us[j]? = some x ∧ ws[j]? = some y ∧ IsPair h t x y) →
      ∃ as : List Addr, l = as.map Value.ref ∧ Paired (fun (t : Addr) (vs : List V) => N ≤ t ∧ vs.length ≤ sizeLine ∧ ∃ its, Vals vs its ∧ IsTup h t its.toArray) as (List.zipWith (fun x y => [x, y]) xs ys) := by
    intro l
    induction l with
    | nil =>
      intro xs ys us ws rx ry hl _
      refine ⟨[], rfl, ?_⟩
      cases rx with
      | nil => exact .nil
      | cons _ _ => cases ry with
        | nil => exact .nil
        | cons _ _ => simp at hl
    | cons v l ih =>
      intro xs ys us ws rx ry hl hv
      cases rx with
      | nil => simp at hl
      | cons r1 r2 => cases ry with
        | nil => simp at hl
        | cons q1 q2 =>
          obtain ⟨t, x, y, rfl, h1, h2, h3, h4⟩ := hv 0 v rfl
          simp at h2 h3
          subst h2 h3
          obtain ⟨as, e, pr⟩ := ih _ _ _ _ r2 q2 (by simp at hl; omega) fun j v e => by
            obtain ⟨t, x, y, g1, g2, g3, g4, g5⟩ := hv (j + 1) v (by simpa using e)
            exact ⟨t, x, y, g1, g2, by simpa using g3, by simpa using g4, g5⟩
          refine ⟨t :: as, by rw [e]; rfl, ?_⟩
          rw [List.zipWith_cons_cons]
          exact .cons ⟨h1, by show 2 ≤ sizeLine; decide, [_, _], .cons r1 (.cons q1 .nil), ⟨_, h4, rfl, _, rfl⟩⟩ pr
  refine this acc.toList xs ys us ws rx ry (by rw [Array.length_toList, ha.1, hn]) fun j v e => ?_
  obtain ⟨t, x, y, g1, g2, g3, g4, g5⟩ := ha.2 j v (by simpa using e)
  exact ⟨t, x, y, g1, g2, by simpa using g3, by simpa using g4, g5⟩
theorem pe_listZip {e e2 : Expr} {ta : TA} {p p2 pos cpos : Pos} (hc : X.calm = true) (hg : Gl X "list") (hm : X.mg "list" = none) (hgz : Gl X "zip") (hmz : X.mg "zip" = none) (ha : PA X [e, e2] ta)
    (hv : bootBuiltins "list" = some (.type "list") := by decide +kernel) (hs2 : starEach [e, e2] X.env = (false, eval e X.env) :: starEach [e2] X.env := by rfl) (hpl : (backTo cpos (starEach [e2] X.env)).any (·.1) = false := by rfl)
    (hs : starEach [.Call (.Name "zip" p2) [e, e2] [] cpos] X.env = (false, eval (.Call (.Name "zip" p2) [e, e2] [] cpos) X.env) :: starEach [] X.env := by rfl) :
    PE X (.Call (.Name "list" p) [.Call (.Name "zip" p2) [e, e2] [] cpos] [] pos) (tListZip X.K ta) := by
  refine ⟨fun pins s σ H Q I h => ?_⟩
  refine wpAny_Call_Name_kw (ld_blt I hg hm hv ?_)
  refine PyProof.Rows.callWith_type1 ?_ hs rfl
  rw [hs]
  show wpAny _ _ (spliced ((false, eval (.Call (.Name "zip" p2) [e, e2] [] cpos) X.env) :: backTo pos (starEach [] X.env))) _ _ s
  refine Calls.spliced_cons ?_
  refine Call_ (ld_blt I hgz hmz PyProof.Rows.boot_zip (PyProof.Rows.callWith_type1 (thn (ha.run cpos pins s σ H _ I h) fun us s1 ⟨vs, H1, I1, r1, q1⟩ => ?_) hs2 hpl))
  obtain ⟨a, b, xs, ys, rfl, hqx, hqy, q⟩ := q1
  cases r1 with
  | cons r rr =>
    cases rr with
    | cons r' rr =>
      cases rr
      cases r
      cases r'
      obtain ⟨its, rv, p1, hz1⟩ := I1.list hqx
      obtain ⟨its2, rv2, p2', hz2⟩ := I1.list hqy
      have la : a < s1.heap.objs.size := p1.lt
      have lb : b < s1.heap.objs.size := p2'.lt
      refine call_zip_2 p1.isList p2'.isList fun h' hz hTI hTO h1 h2 hsz hk => ?_
      refine Calls.spliced_nil ?_
      have D := PySem.W.ktu_apart s1.heap.objs.size a b la lb
      refine DDZ.call_list_zip (I.ok.hd hc) D hz hTI hTO h1 h2 (p1.isList.at fun o e => hk _ _ e) (p2'.isList.at fun o e => hk _ _ e) (by
        rw [List.size_toArray, List.size_toArray, ← rv.length]
        exact Nat.le_trans (Nat.min_le_left _ _) hz1) fun h3 acc c kp hS hA => ?_
      obtain ⟨as, e1, pr⟩ := acc_split rv rv2 (by simp) hA
      have keep : ∀ b o, s1.heap.get? b = some o → h3.get? b = some o := fun b o e => by
        have lt := Heap.lt_size e
        exact kp b o (Nat.ne_of_lt (Nat.lt_of_lt_of_le lt (Nat.le_add_right _ _))) (Nat.ne_of_lt (Nat.lt_of_lt_of_le lt (Nat.le_add_right _ _))) (Nat.ne_of_lt lt) (Nat.ne_of_lt (Nat.lt_of_lt_of_le lt (Nat.le_add_right _ _))) (hk b o e)
      have lacc : as.length ≤ sizeLine := by
        have := congrArg List.length e1
        rw [List.length_map, Array.length_toList, hA.1, List.size_toArray, List.size_toArray, ← rv.length] at this
        rw [← this]
        exact Nat.le_trans (Nat.min_le_left _ _) hz1
      have pr2 : Paired (fun (t : Addr) (vs : List V) => s1.heap.objs.size ≤ t ∧ t ≠ h'.objs.size ∧ vs.length ≤ sizeLine ∧ ∃ its, Vals vs its ∧ IsTup h3 t its.toArray) as (List.zipWith (fun x y => [x, y]) xs ys) := by
        refine paired_imp (fun t vs ⟨g1, g2⟩ => ⟨?_, ?_, g2⟩) pr
        · have g1 : h'.objs.size + 1 ≤ t := g1
          rw [hsz] at g1
          exact Nat.le_trans (Nat.le_add_right _ _) (show s1.heap.objs.size + (5 + 1) ≤ t from g1)
        · exact Nat.ne_of_gt g1
      obtain ⟨H', k1, k2, k3, k4, k5, k6, J⟩ := laid_tups (tk := s1.toks) I1 keep (by rw [hsz]; exact Nat.le_add_right _ _) hS e1 lacc pr2
      exact ⟨.ref h'.objs.size, H', J, rfl, q H' _ as k1 k2 k3 k4 k5 k6⟩
def zipD : D → D → Option SV
  | .list as, .list bs => some (.lst (List.zipWith (fun a b => .d (.tuple [a, b])) as bs))
  | _, _ => none
def zipD2 : List D → Option SV
  | [a, b] => zipD a b
  | _ => none
theorem zip_pairs {Z : Hp} : ∀ {as bs : List D} {xs ys : List V}, repL Z as xs → repL Z bs ys → Paired (fun ds vs => repL Z ds vs) (List.zipWith (fun a b => [a, b]) as bs) (List.zipWith (fun x y => [x, y]) xs ys)
  | [], _, _, _, r, _ => by rw [repL] at r; subst r; exact .nil
  | _ :: _, [], _, _, r, q => by rw [repL] at q; subst q; rw [List.zipWith_nil_right, List.zipWith_nil_right]; exact .nil
  | a :: as, b :: bs, _, _, r, q => by
    rw [repL] at r
    rw [repL] at q
    obtain ⟨v, t, rfl, h1, h2⟩ := r
    obtain ⟨w, u, rfl, h3, h4⟩ := q
    rw [List.zipWith_cons_cons, List.zipWith_cons_cons]
    refine .cons ?_ (zip_pairs h2 h4)
    rw [repL]
    exact ⟨v, [w], rfl, h1, by rw [repL]; exact ⟨w, [], rfl, h3, by rw [repL]⟩⟩
theorem de_listZip {e e2 : Expr} {fa : M (List SV)} {p p2 pos cpos : Pos} (hc : X.calm = true) (hg : Gl X "list") (hm : X.mg "list" = none) (hgz : Gl X "zip") (hmz : X.mg "zip" = none) (ha : DA X E [e, e2] fa)
    (hv : bootBuiltins "list" = some (.type "list") := by decide +kernel) (hs2 : starEach [e, e2] X.env = (false, eval e X.env) :: starEach [e2] X.env := by rfl) (hpl : (backTo cpos (starEach [e2] X.env)).any (·.1) = false := by rfl)
    (hs : starEach [.Call (.Name "zip" p2) [e, e2] [] cpos] X.env = (false, eval (.Call (.Name "zip" p2) [e, e2] [] cpos) X.env) :: starEach [] X.env := by rfl) :
    DE X E (.Call (.Name "list" p) [.Call (.Name "zip" p2) [e, e2] [] cpos] [] pos) (mB zipD2 fa) := by
  refine PEimp (pe_listZip hc hg hm hgz hmz ha hv hs2 hpl hs) fun σ H Q h => ?_
  have h1 := tCB_of h
  obtain ⟨sl, res, sl', P, Z, tm, q, a, k, ex⟩ := h1
  refine ⟨sl, res, sl', P, Z, tm, q, a, fun rs er vs Z' H' l e' a' => ?_, ex⟩
  obtain ⟨ds, r, P2, Z2, L2, hg2, sr, rl, kk⟩ := k rs er vs Z' H' l e' a'
  unfold zipD2 at hg2
  split at hg2
  · rename_i d1 d2
    unfold zipD at hg2
    split at hg2
    · rename_i as bs
      cases hg2
      obtain ⟨v, w, rfl, r1, r2⟩ := repL2 rl
      rw [repV] at r1
      obtain ⟨p1, vs1, rfl, z1, rl1⟩ := r1
      rw [repV] at r2
      obtain ⟨p2, vs2, rfl, z2, rl2⟩ := r2
      refine ⟨p1, p2, vs1, vs2, rfl, sr.sqL z1, sr.sqL z2, fun H3 p ts k1 k2 k3 k4 k5 k6 => ?_⟩
      obtain ⟨Z3, e3, s3⟩ := SR.newTups sr k1 k2 k3 k4 k5 k6 (zip_pairs rl1 rl2)
      refine kk _ Z3 _ e3 ?_
      rw [List.map_zipWith] at s3
      exact s3
    · cases hg2
  · cases hg2
end
end DD

set_option Elab.async false
set_option linter.all false
set_option maxRecDepth 100000
/-! DD21: dict displays; sums of what stands in the derivations. -/
namespace DD
open PySem PySem.Spec PyProof.Rows L2
section
variable {X : Cx} {E : XK}
def mPairsD : List (M SV × M SV) → M (List (Key × D))
  | [] => ret []
  | (fk, fv) :: r => bndD fk fun y => bndD fv fun x => bnd (lift (dKey y)) fun k => bnd (mPairsD r) fun l => ret ((k, x) :: l)
def mDisp (ps : List (M SV × M SV)) : M SV := fun sl => match mPairsD ps sl with
  | some (.ok l, sl') => if l.length ≤ 15 then some (.ok (.dct ((mergeD [] l).map fun kv => (kv.1, .d kv.2))), sl') else none
  | _ => none
def trsOf (mg : Str → Option Value) (E : XK) (ps : List (M SV × M SV)) : List (TE × TE) := ps.map fun p => (tOf mg E p.1, tOf mg E p.2)
theorem tPairs_of {mg : Str → Option Value} : ∀ {ps : List (M SV × M SV)} {sl sl' : List SV} {l : List (Key × D)} {P Z H : Hp} {σ : L2.St} {tm : List Cell} {Q : List (V × V) → Hp → Prop}, mPairsD ps sl = some (.ok l, sl') → At P Z H σ sl tm →
    (∀ (kvs : List (Key × V)) Z2 H2, Ext P Z Z2 → RelK Z2 l kvs → At P Z2 H2 σ sl' tm → Q (kvs.map fun kv => (kV kv.1, kv.2)) H2) → tPairs (trsOf mg E ps) σ H Q
  | [], sl, sl', l, P, Z, H, σ, tm, Q, q, a, k => by
    cases q
    exact k [] Z H (Ext.refl _ _) .nil a
  | (fk, fv) :: r, sl, sl', l, P, Z, H, σ, tm, Q, q, a, k => by
    show tOf mg E fk σ H _
    refine run1D q a (fun c x ee => by cases ee) fun y s1 v Z1 H1 q1 e1 a1 _ => ?_
    refine run1D q1 a1 (fun c x ee => by cases ee) fun x s2 u Z2 H2 q2 e2 a2 _ => ?_
    rcases bnd_inv q2 with ⟨key, s3, hk, q3⟩ | ⟨c, z, s3, hk, e⟩
    · obtain ⟨b, hb, e⟩ := lift_inv hk
      cases e
      rcases bnd_inv q3 with ⟨l', s4, hl, q4⟩ | ⟨c, z, s4, hl, e⟩
      · cases q4
        have rk := a2.tail.d
        have rx := a2.d
        refine tPairs_of hl a2.tail.tail fun kvs Z3 H3 e3 rel a3 => ?_
        have := k ((key, u) :: kvs) Z3 H3 ((e1.trans e2).trans e3) (.cons (repV_ext e3.ext rx) rel) a3
        rw [List.map_cons] at this
        rw [kV_of hb rk]
        exact this
      · cases e
    · cases e
theorem relK_own {Z H : Hp} {kd : List (Key × D)} {kv : List (Key × V)} (r : RelK Z kd kv) : repSk Z H (kd.map fun kv => (kv.1, SV.d kv.2)) kv [] := by
  induction r with
  | nil => rw [List.map_nil, repSk]; exact ⟨rfl, rfl⟩
  | cons h _ ih => rw [List.map_cons, repSk]; exact ⟨_, _, [], [], rfl, rfl, by rw [repS]; exact ⟨rfl, h⟩, ih⟩
theorem de_disp {pos : Pos} {keys : List (Option Expr)} {values : List Expr} {ps : List (M SV × M SV)} (h : PPs X pos keys values (trsOf X.mg E ps)) (hall : keys.all (·.isSome) = true) (hl : keys.length = values.length) (h0 : keys ≠ [])
    (h15 : keys.length ≤ 15) : DE X E (.Dict keys values pos) (mDisp ps) := by
  refine PEimp (pe_disp h hall hl h0 h15) fun σ H Q ⟨sl, res, sl', P, Z, tm, q, a, k, ex⟩ p hp => ?_
  unfold mDisp at q
  split at q
  · rename_i l s1 hm
    split at q
    · rename_i hz
      cases q
      have a0 : At P Z (upd H p (.dK [])) σ sl ((some (.ref p), .dct []) :: tm) := ⟨a.1, SR.newDct (L := tm ++ List.zip σ sl) a.2 hp⟩
      refine tPairs_of hm a0 fun kvs Z2 H2 e2 rel a2 => ?_
      obtain ⟨own, ⟨o1, o2, e, r1, r2⟩, nd, kk⟩ := a2.2.ex
      have r1 := repO_get r1
      rw [repS] at r1
      obtain ⟨p', es, o, e3, rfl, hp2, rs⟩ := r1
      cases e3
      rw [repSk] at rs
      obtain ⟨rfl, rfl⟩ := rs
      subst e
      refine ⟨hp2, kvs, rfl, by rw [rel.len]; exact hz, k _ rfl _ Z2 _ e2 ⟨a2.1, ?_⟩⟩
      have relm := rel.merge (kd := []) (kv := []) .nil
      have kp : ∀ b ∈ o2, upd H2 p (.dK (mergeK [] kvs)) b = H2 b := fun b hb => upd_ne fun z => by subst z; exact (List.nodup_cons.mp nd).1 hb
      refine ⟨fun b o e => ?_, fun b u e => ?_, [p] ++ o2, ⟨[p], o2, rfl, repO_of ?_, repA_keep (Sub0.refl _) kp r2⟩, nd, kk⟩
      · have : b ≠ p := fun z => by subst z; rw [(kk b (List.mem_cons_self ..)).1] at e; cases e
        rw [upd_ne this]; exact a2.2.prot b o e
      · have : b ≠ p := fun z => by subst z; rw [(kk b (List.mem_cons_self ..)).2] at e; cases e
        rcases a2.2.zed b u e with q | ⟨ob, q⟩
        · exact .inl (by rw [upd_ne this]; exact q)
        · exact .inr ⟨ob, by rw [upd_ne this]; exact q⟩
      · rw [repS]
        exact ⟨p, _, [], rfl, rfl, upd_same, relK_own relm⟩
    · cases q
  · cases q
theorem dp_nil {pos : Pos} : PPs X pos [] [] (trsOf X.mg E []) := pps_nil
theorem dp_cons {pos : Pos} {k v : Expr} {ks : List (Option Expr)} {vs : List Expr} {fk fv : M SV} {ps : List (M SV × M SV)} (hk : DE X E k fk) (hv : DE X E v fv) (hr : PPs X pos ks vs (trsOf X.mg E ps)) : PPs X pos (some k :: ks) (v :: vs) (trsOf X.mg E ((fk, fv) :: ps)) := pps_cons hk hv hr
end
end DD
namespace DD
open PySem PySem.Spec PyProof.Rows L2
theorem fnD_ofD {P : Program} {w : World} {K : PySem.W.Frag} {mg : Str → Option Value} {base : Heap} {k : Nat} {f : Addr} {fd : FuncData} {ps : List Str} {x qual : Str} {st : Stmt} {N : List Str} {kp : List Nat} {n m : Nat} {Fd : M SV} {G : M Ctl} {dvs : List V} (F : FunD K x qual (defArgs st) (defBody st) (defScope st) dvs [] f fd) (S : FnScope N ps (defScope st)) (hn : ps.length = n) (hm : N.length = m) (hF : Fd = fnM n m kp G)
    (body : ∀ (cdv : Value) (A : Around) (outer : List Env) (s : Shared) (H : Hp) (E : XK), Room k (A.deeper (envOfC qual (defScope st) s.heap.objs.size f cdv)) → (A.deeper (envOfC qual (defScope st) s.heap.objs.size f cdv)).guards = some [] →
      DSs (cxOf (L2.CX P w) P w K mg base N qual (defScope st) f cdv A outer s H E) E kp (defBody st) G) : FnG P w K mg base (k + 1) f fd ps (spD mg n Fd) := by
  subst hn hm hF
  obtain ⟨oc, od, dV, kV, doc, pm, an, cdv, ct, osl, rfl, lk, hcd, _, _⟩ := F.ex
  exact fnD_raw lk hcd S fun A outer s H E hr hg => body cdv A outer s H E hr hg
end DD
namespace DD
open PySem PySem.Spec PyProof.Rows L2
theorem fnG_fail {P : Program} {w : World} {K : PySem.W.Frag} {mg : Str → Option Value} {base : Heap} {k n : Nat} {f : Addr} {fd : FuncData} {ps : List Str} : FnG P w K mg base k f fd ps (spD mg n fail) :=
  ⟨fun vs H Q E ⟨_, _, _, _, _, _, _, h, _⟩ => (by cases h), fun A outer s H args us vs Q E _ _ _ _ _ ⟨_, _, _, _, _, _, _, h, _⟩ => (by cases h)⟩
end DD

set_option Elab.async false
set_option linter.all false
set_option maxRecDepth 100000
/-! DD22: the end: the law's def called with the script. -/
namespace DD
open PySem PySem.Spec PyProof.Rows L2
/-- the call of the law, by a promise that wants no open guards -/
theorem callG {P : Program} {w : World} {K : PySem.W.Frag} {mg mb : Str → Option Value} {k : Nat} {fa a : Addr} {fd : FuncData} {x : Str} {sp : Sp} {t : Shared} {vs : List Value} {ns : List Int}
    (KX : K.In t.heap) (hns : t.heap.Ns mainGlobals mg) (hb : t.heap.Ns builtinsNs mb) (hbb : ∀ y : Str, y ≠ "__name__" → mb y = bootBuiltins y) (hlim : t.heap.NoLimit) (hg : t.gens = #[]) (ha : t.heap.get? a = some { cls := .type "list", data := .seq vs.toArray }) (hi : IntsAre vs ns)
    (hl : ns.length ≤ sizeLine) (hr : Room k callerA) (F : ∀ base : Heap, K.In base → base.Ns mainGlobals mg → FnG P w K mg base k fa fd [x] sp) (hbind : ∀ (s : Shared) (u : Value), BindsTo s fd ⟨[u], []⟩ [(x, u)])
    (hk0 : K.lookup a = none) (hsp : ∀ H : Hp, (∃ o, H a = some (.frz o (.lst (ns.map V.int)))) → sp [.ref a] H (fun v _ => v = .bl true) fun _ _ _ => False) (hCX : ∀ H e s', L2.CX P w [] H t (fun _ _ _ => False) e s' → False) :
    codeAny (model P w) callerA (.call (.ref fa) ⟨[.ref a], []⟩) (fun r s' => r = .ok (.ret (.bool true)) ∧ OldK t.heap s'.heap ∧ s'.os = t.os ∧ AllBare s'.gens) t := by
  have rv := vals_ints hi
  have lv := hi.length
  have main : ∀ H : Hp, (∃ o, H a = some (.frz o (.lst (ns.map V.int)))) → Only H → HOk P w H t.heap → (∀ b, H b ≠ none → b = a) → (H a ≠ none → K.lookup a = none) →
      codeAny (model P w) callerA (.call (.ref fa) ⟨[.ref a], []⟩) (fun r s' => r = .ok (.ret (.bool true)) ∧ OldK t.heap s'.heap ∧ s'.os = t.os ∧ AllBare s'.gens) t := by
    intro H hS hO hok only hK
    have bs : ∀ {b : Addr} {o : Obj}, t.heap.get? b = some o → H b = none → (hidT t.heap H).get? b = some o := fun e n => hidT_get e n
    have dn : ∀ {b : Addr} {o : Obj} {es : Array DictEntry} {ep : Nat}, t.heap.get? b = some o → o.data = .dict es ep → H b = none := fun {b o es ep} e d => by
      by_cases q : H b = none
      · exact q
      · have e2 : b = a := only b q
        rw [e2, ha] at e
        cases e
        cases d
    have nk : ∀ {b : Addr} {m : Str → Option Value}, t.heap.Ns b m → (hidT t.heap H).Ns b m := fun {b m} q => by
      obtain ⟨o, es, ep, e, d, r⟩ := q
      exact ⟨o, es, ep, bs e (dn e d), d, r⟩
    have kb : K.In (hidT t.heap H) := fun b o e => bs (KX b o e) (by
      by_cases q : H b = none
      · exact q
      · have e2 : b = a := only b q
        rw [e2] at q e
        rw [hK q] at e
        cases e)
    have md : Mod K mg (hidT t.heap H) := by
      refine ⟨kb, nk hns, ⟨mb, nk hb, hbb⟩, ?_⟩
      obtain ⟨mc, c1, c2⟩ := hlim
      exact ⟨mc, nk c1, c2⟩
    have env : Env0 P w K mg (hidT t.heap H) callerA [] t H := by
      refine ⟨rfl, md, fun b o e => of_hidT e, Nat.le_of_eq (hidT_size _ _), trivial, fun b hb => ?_, hok, .of_eq hg⟩
      exact absurd (show b ∈ ([] : List Addr) from hb) (by simp)
    refine codeAny_mono ((F _ kb (nk hns)).run callerA [] t H ⟨[.ref a], []⟩ [.ref a] [.ref a] _ _ rfl hr env (hbind t (.ref a)) (.cons rfl .nil) (hsp H hS)) fun r s' h => ?_
    match r, h with
    | .error e, h => exact (hCX H e s' h).elim
    | .ok .next, h => exact h.elim
    | .ok .brk, h => exact h.elim
    | .ok .cont, h => exact h.elim
    | .ok (.ret u), h =>
      obtain ⟨v, H2, os, bare, un, ok2, ru, q⟩ := h
      have qv : v = .bl true := q
      subst qv
      obtain rfl : u = Value.bool true := ru
      refine ⟨rfl, OldK.of_keep fun b o e => ?_, os, bare⟩
      rcases hO b with n | ⟨ob, xs, n⟩
      · refine un.keep b o e n ?_ (by simp)
        intro z
        exact absurd (show b ∈ ([] : List Addr) from z) (by simp)
      · have g1 := (hok b _ n).1
        have g2 := (ok2 b _ (un.frzs b ob _ n)).1
        rw [e] at g1
        cases g1
        exact g2
  obtain ⟨H, hH⟩ : ∃ H : Hp, H = fun b => if b = a then some (.frz { cls := .type "list", data := .seq vs.toArray } (.lst (ns.map V.int))) else none := ⟨_, rfl⟩
  have at1 : H a = some (.frz { cls := .type "list", data := .seq vs.toArray } (.lst (ns.map V.int))) := by rw [hH]; exact if_pos rfl
  have off : ∀ b, b ≠ a → H b = none := fun b hb => by rw [hH]; exact if_neg hb
  refine main H ⟨_, at1⟩ (fun b => ?_) (fun b u z => ?_) (fun b z => ?_) fun _ => hk0
  · by_cases hb : b = a
    · rw [hb]; exact .inr ⟨_, _, at1⟩
    · exact .inl (off b hb)
  · by_cases hb : b = a
    · subst hb
      rw [at1] at z
      cases z
      exact ⟨ha, by rw [List.length_map]; exact hl, vs, _, rv, ha⟩
    · rw [off b hb] at z; cases z
  · by_cases hb : b = a
    · exact hb
    · exact absurd (off b hb) z
/-- K without what stands at a -/
def del (K : PySem.W.Frag) (a : Addr) : PySem.W.Frag := List.filter (fun p => !decide (p.1 = a)) K
theorem del_at {K : PySem.W.Frag} {a : Addr} : (del K a).lookup a = none := by
  induction K with
  | nil => rfl
  | cons p r ih =>
    obtain ⟨b, x⟩ := p
    unfold del at *
    rw [List.filter_cons]
    by_cases h : b = a
    · rw [if_neg (by simp [h])]; exact ih
    · rw [if_pos (by simp [h]), List.lookup_cons]
      rw [show (a == b) = false from beq_eq_false_iff_ne.mpr (Ne.symm h)]
      exact ih
theorem del_ne {K : PySem.W.Frag} {a c : Addr} (hc : c ≠ a) : (del K a).lookup c = K.lookup c := by
  induction K with
  | nil => rfl
  | cons p r ih =>
    obtain ⟨b, x⟩ := p
    unfold del at *
    rw [List.filter_cons]
    by_cases h : b = a
    · rw [if_neg (by simp [h]), List.lookup_cons, show (c == b) = false from beq_eq_false_iff_ne.mpr (by rw [h]; exact hc)]
      exact ih
    · rw [if_pos (by simp [h]), List.lookup_cons, List.lookup_cons]
      split
      · rfl
      · exact ih
/-- K itself, or K without a list -/
def Less (K K' : PySem.W.Frag) : Prop := K' = K ∨ ∃ a o, K.lookup a = some o ∧ (o.cls = .type "list" ∧ ∃ vs n, o.data = .seq vs n) ∧ K' = del K a
theorem Less.keep {K K' : PySem.W.Frag} (h : Less K K') {c : Addr} {o : Obj} (e : K.lookup c = some o) (hc : o.cls = .type "list" → (∃ vs n, o.data = .seq vs n) → False) : K'.lookup c = some o := by
  rcases h with rfl | ⟨a, o', h1, h2, rfl⟩
  · exact e
  · rw [del_ne (fun z => by subst z; rw [h1] at e; cases e; exact hc h2.1 h2.2)]
    exact e
theorem Less.code {K K' : PySem.W.Frag} (h : Less K K') {cd : Value} {q : Str} (e : PySem.W.codeIn K cd q = true) : PySem.W.codeIn K' cd q = true := by
  cases cd with
  | ref c =>
    unfold PySem.W.codeIn at e ⊢
    dsimp only at e ⊢
    cases hk : K.lookup c with
    | none => rw [hk] at e; cases e
    | some o =>
      rw [hk] at e
      rw [h.keep hk (fun _ ⟨vs, n, hd⟩ => by
        obtain ⟨c1, d1, dt, sl⟩ := o
        dsimp only at hd
        subst hd
        cases e)]
      exact e
  | _ => exact e
/-- what stands of a def behind the top -/
def FactF (K : PySem.W.Frag) (x : Str) (st : Stmt) : Prop := ∃ (a : Addr) (oc : Value) (od : Option Addr) (kV doc pm : Value) (an : Option Addr) (cdv ct : Value) (osl : Array (Option Value)),
  PySem.W.nsIn K mainGlobals x = some (some (.ref a)) ∧ K.lookup a = some ⟨oc, od, .func (PySem.W.fnOf x x (defArgs st) (defBody st) (defScope st) .none kV doc pm an cdv ct), osl⟩ ∧ PySem.W.codeIn K cdv x = true
def FactD (K : PySem.W.Frag) (x : Str) (st : Stmt) (dvs : List V) : Prop := ∃ (a : Addr) (oc : Value) (od : Option Addr) (T : Addr) (kV doc pm : Value) (an : Option Addr) (cdv ct : Value) (osl : Array (Option Value)) (td : Option Addr) (its : Array Value) (n : Nat) (tsl : Array (Option Value)),
  PySem.W.nsIn K mainGlobals x = some (some (.ref a)) ∧ K.lookup a = some ⟨oc, od, .func (PySem.W.fnOf x x (defArgs st) (defBody st) (defScope st) (.ref T) kV doc pm an cdv ct), osl⟩ ∧ PySem.W.codeIn K cdv x = true ∧ K.lookup T = some ⟨.type "tuple", td, .seq its n, tsl⟩ ∧ Vals dvs its.toList
def adK (K : PySem.W.Frag) (x : Str) : Addr := match PySem.W.nsIn K mainGlobals x with
  | some (some (.ref a)) => a
  | _ => 0
def fdK (K : PySem.W.Frag) (x : Str) : FuncData := match K.lookup (adK K x) with
  | some ⟨_, _, .func fd, _⟩ => fd
  | _ => PySem.W.fnOf x x (defArgs (.Pass ⟨0, 0, 0, 0⟩)) [] (defScope (.Pass ⟨0, 0, 0, 0⟩)) .none .none .none .none none .none .none
section
variable {K K' : PySem.W.Frag} {x : Str} {st : Stmt} {dvs : List V} {mg : Str → Option Value} {h : Heap}
theorem adK_of {a : Addr} (e : PySem.W.nsIn K mainGlobals x = some (some (.ref a))) : adK K x = a := by unfold adK; rw [e]
theorem FactF.mk (f : FactF K x st) (hl : Less K K') : Fun K' x x st (adK K x) (fdK K x) := by
  obtain ⟨a, oc, od, kV, doc, pm, an, cdv, ct, osl, h1, h2, h3⟩ := f
  have e := adK_of h1
  have ef : fdK K x = PySem.W.fnOf x x (defArgs st) (defBody st) (defScope st) .none kV doc pm an cdv ct := by unfold fdK; rw [e, h2]
  rw [e, ef]
  have l' := hl.keep h2 (fun _ ⟨vs, n, hd⟩ => nomatch hd)
  refine ⟨⟨oc, od, kV, doc, pm, an, cdv, ct, osl, rfl, l', hl.code h3⟩, ?_⟩
  unfold PySem.W.keepIn
  dsimp only
  rw [l']
theorem FactF.glob (f : FactF K x st) (X : K.In h) (G : h.Ns mainGlobals mg) : mg x = some (.ref (adK K x)) := by
  obtain ⟨a, oc, od, kV, doc, pm, an, cdv, ct, osl, h1, _⟩ := f
  rw [adK_of h1]
  exact PySem.W.mg_of X G h1
theorem FactD.mk (f : FactD K x st dvs) (hd : dvs ≠ []) (hl : Less K K') : FunD K' x x (defArgs st) (defBody st) (defScope st) dvs [] (adK K x) (fdK K x) := by
  obtain ⟨a, oc, od, T, kV, doc, pm, an, cdv, ct, osl, td, its, n, tsl, h1, h2, h3, h4, h5⟩ := f
  have e := adK_of h1
  have ef : fdK K x = PySem.W.fnOf x x (defArgs st) (defBody st) (defScope st) (.ref T) kV doc pm an cdv ct := by unfold fdK; rw [e, h2]
  rw [e, ef]
  have l' := hl.keep h2 (fun _ ⟨vs, n, hd⟩ => nomatch hd)
  have t' := hl.keep h4 (fun hc _ => by simp at hc)
  refine ⟨⟨oc, od, _, kV, doc, pm, an, cdv, ct, osl, rfl, l', hl.code h3, .inr ⟨hd, T, _, its.toList, n, rfl, t', by simp, h5⟩, .inl rfl⟩, ?_⟩
  unfold PySem.W.keepIn
  dsimp only
  rw [l']
theorem FactD.glob (f : FactD K x st dvs) (X : K.In h) (G : h.Ns mainGlobals mg) : mg x = some (.ref (adK K x)) := by
  obtain ⟨a, oc, od, T, kV, doc, pm, an, cdv, ct, osl, td, its, n, tsl, h1, _⟩ := f
  rw [adK_of h1]
  exact PySem.W.mg_of X G h1
end
/-- what the opened top wants of the walk -/
theorem walkG {l : PySem.W.OpenLaw} {n k : Nat} {q : Program} {loose : List Str} {XP : (Str → Option Value) → Heap → Prop} {YP : World → Heap → Prop} {d : DefRec} {K : Params → PySem.W.Frag} {F : M SV} {x : Str}
    (hn : l.most = some n) (hn2 : n ≤ sizeLine) (hdf : d.params.defaults = []) (hr : Room k callerA) (hY : ∀ (w : World) (h : Heap), YP w h → (K w.params).In h)
    (G : ∀ (w : World) (mg : Str → Option Value) (fa : Addr) (h : Heap), (K w.params).In h → h.Ns mainGlobals mg → mg d.name = some (.ref fa) →
      ∃ fd : FuncData, (∀ (s : Shared) (u : Value), BindsTo s fd ⟨[u], []⟩ [(x, u)]) ∧ ∀ K', Less (K w.params) K' → ∀ base : Heap, K'.In base → base.Ns mainGlobals mg → FnG l.prog w K' mg base k fa fd [x] (spD mg 1 F))
    (hF : ∀ ns : List Int, ns.length ≤ n → ∃ sl, F [.d (.list (ns.map PyData.int))] = some (.ok (.d (.bool true)), sl)) :
    PySem.W.WalkO q loose XP YP l.row.toRowW d [] (fun f vs => PySem.call f vs) := by
  refine Att.attach_call hn hdf fun w s0 t mg mb fa o pm cd doc a vs ns A Y ho hd hcd hmg hobj hints hlen hg => ?_
  have KX := hY w _ Y
  obtain ⟨fd, hb, hG⟩ := G w mg fa _ KX A.T.g hmg
  have fin : ∀ K', Less (K w.params) K' → K'.In t.heap → K'.lookup a = none → codeAny (model l.prog w) callerA (.call (.ref fa) ⟨[.ref a], []⟩) (fun r s' => r = .ok (.ret (.bool true)) ∧ OldK t.heap s'.heap ∧ s'.os = t.os ∧ AllBare s'.gens) t := by
    intro K' hl KX' h0
    refine callG KX' A.T.g A.T.b A.T.builtins A.T.nolimit hg hobj hints (Nat.le_trans hlen hn2) hr (hG K' hl) hb h0 (fun H hS => ?_) fun H e s' h => ?_
    · obtain ⟨sl, hf⟩ := hF ns hlen
      obtain ⟨ob, hS⟩ := hS
      obtain ⟨Z, hZ⟩ : ∃ Z : Hp, Z = fun b => if b = a then some (.lst (ns.map V.int)) else none := ⟨_, rfl⟩
      have z1 : Z a = some (.lst (ns.map V.int)) := by rw [hZ]; exact if_pos rfl
      have rr : ∀ ms : List Int, repL Z (ms.map PyData.int) (ms.map V.int) := by
        intro ms
        induction ms with
        | nil => rw [List.map_nil, List.map_nil, repL]
        | cons m ms ih => rw [List.map_cons, List.map_cons, repL]; exact ⟨_, _, rfl, by rw [repV], ih⟩
      refine ⟨_, _, sl, Z, [], rfl, rfl, hf, ⟨[], [], rfl, repO_of ?_, rfl⟩, List.nodup_nil, (fun b hb => nomatch hb), (fun b u e => ?_), (fun r er v Z' H' e s => ?_), fun c y ec => nomatch ec⟩
      · rw [repS, repV]
        exact ⟨rfl, a, _, rfl, z1, rr ns⟩
      · by_cases hb : b = a
        · subst hb
          rw [z1] at e
          cases e
          exact .inr ⟨ob, hS⟩
        · rw [hZ] at e
          dsimp only at e
          rw [if_neg hb] at e
          cases e
      · cases er
        have := s.get_d
        rw [repV] at this
        exact this
    · obtain ⟨_, _, _, _, _, _, _, _, _, _, _, _, hE⟩ := h
      exact hE
  cases hk : (K w.params).lookup a with
  | none => exact fin _ (.inl rfl) KX hk
  | some o2 =>
    have e := KX a o2 hk
    rw [hobj] at e
    cases e
    refine fin (del (K w.params) a) (.inr ⟨a, _, hk, ⟨rfl, _, _, rfl⟩, rfl⟩) (fun b ob e => ?_) del_at
    by_cases hb : b = a
    · rw [hb, del_at] at e; cases e
    · rw [del_ne hb] at e; exact KX b ob e
end DD
namespace DD
open PySem PySem.Spec PyProof.Rows L2
/-- the slots named, frozen -/
def frz (i : Nat) (sl : List SV) : List SV := match sl[i]? with
  | some x => if x.full = true then sl.set i (.d x.toD) else sl
  | none => sl
def frzs (is : List Nat) (sl : List SV) : List SV := is.foldl (fun s i => frz i s) sl
theorem At.frz {P Z H : Hp} {σ : L2.St} {sl : List SV} {tm : List Cell} (i : Nat) (a : At P Z H σ sl tm) : ∃ Z', Ext P Z Z' ∧ At P Z' H σ (frz i sl) tm := by
  unfold DD.frz
  split
  · rename_i x hx
    split
    · rename_i f
      obtain ⟨ov, ho, s⟩ := a.open hx
      obtain ⟨v, rfl⟩ := s.val f
      obtain ⟨Z', ez, s'⟩ := s.freeze f
      exact ⟨Z', ez, At.close' a.1 ho s'⟩
    · exact ⟨Z, Ext.refl _ _, a⟩
  · exact ⟨Z, Ext.refl _ _, a⟩
theorem At.frzs {P H : Hp} {σ : L2.St} {tm : List Cell} : ∀ (is : List Nat) {Z : Hp} {sl : List SV}, At P Z H σ sl tm → ∃ Z', Ext P Z Z' ∧ At P Z' H σ (frzs is sl) tm
  | [], Z, _, a => ⟨Z, Ext.refl _ _, a⟩
  | i :: is, Z, sl, a => by
    obtain ⟨Z1, e1, a1⟩ := a.frz i
    obtain ⟨Z2, e2, a2⟩ := At.frzs is a1
    exact ⟨Z2, e1.trans e2, a2⟩
/-- frozen behind a statement that goes on -/
def mFrz (is : List Nat) (G : M Ctl) : M Ctl := fun sl => match G sl with
  | some (.ok .nx, sl') => some (.ok .nx, frzs is sl')
  | r => r
theorem ds_frz {X : Cx} {E : XK} {kp : List Nat} {st : Stmt} {G : M Ctl} (is : List Nat) (h : DS X E kp st G) : DS X E kp st (mFrz is G) := by
  refine PSimp h fun Dn σ H ⟨sl, res, sl', P, Z, tm, q, a, k, ex⟩ => ?_
  unfold mFrz at q
  cases hg : G sl with
  | none => rw [hg] at q; cases q
  | some r =>
    obtain ⟨r, s1⟩ := r
    rw [hg] at q
    cases r with
    | ex c x =>
      cases q
      exact ⟨sl, .ex c x, _, P, Z, tm, hg, a, (fun c ec => by cases ec), ex⟩
    | ok c =>
      cases c with
      | nx =>
        cases q
        refine ⟨sl, .ok .nx, s1, P, Z, tm, hg, a, fun c ec σ' Z' H' kk e => ?_, fun c x ee => by cases ee⟩
        cases ec
        intro a'
        obtain ⟨Z2, e2, a2⟩ := At.frzs is a'
        exact k .nx rfl σ' Z2 H' kk (e.trans e2) a2
      | bk => cases q; exact ⟨sl, _, _, P, Z, tm, hg, a, k, ex⟩
      | ct => cases q; exact ⟨sl, _, _, P, Z, tm, hg, a, k, ex⟩
      | rt v => cases q; exact ⟨sl, _, _, P, Z, tm, hg, a, k, ex⟩
end DD

set_option Elab.async false
set_option linter.all false
set_option maxRecDepth 100000
/-! DD23: evaluation of data terms, plain Lean. -/
namespace DD
open PySem (PyData Str sizeLine)
theorem run_seq {G1 G2 : M Ctl} {sl sl1 : List SV} (h : G1 sl = some (.ok .nx, sl1)) : mSeq G1 G2 sl = G2 sl1 := by
  unfold mSeq bnd
  rw [h]
theorem run_asg {f : M SV} {T : SV → M Unit} {sl sl1 sl2 : List SV} {x : SV} (h : f sl = some (.ok x, sl1)) (hT : T x sl1 = some (.ok (), sl2)) : mAsg f T sl = some (.ok .nx, sl2) := by
  unfold mAsg bnd
  rw [h]
  dsimp only
  rw [hT]
theorem run_exp {f : M SV} {sl sl1 : List SV} {x : SV} (h : f sl = some (.ok x, sl1)) : mExpr f sl = some (.ok .nx, sl1) := by
  unfold mExpr bnd
  rw [h]
  rfl
theorem run_ret {f : M SV} {sl sl1 : List SV} {x : SV} (h : f sl = some (.ok x, sl1)) : mRet f sl = some (.ok (.rt x), sl1) := by
  unfold mRet bnd
  rw [h]
  rfl
theorem run_if {α : Type} {c : M Bool} {f g : M α} {sl sl1 : List SV} {b : Bool} (h : c sl = some (.ok b, sl1)) : mIf c f g sl = if b = true then f sl1 else g sl1 := by
  unfold mIf bnd
  rw [h]
  dsimp only
  split <;> rfl
theorem run_if1 {α : Type} {c : M Bool} {f g : M α} {sl sl1 : List SV} (h : c sl = some (.ok true, sl1)) : mIf c f g sl = f sl1 := by rw [run_if h]; rfl
theorem run_if0 {α : Type} {c : M Bool} {f g : M α} {sl sl1 : List SV} (h : c sl = some (.ok false, sl1)) : mIf c f g sl = g sl1 := by rw [run_if h]; rfl
theorem run_test {f : M SV} {sl sl1 : List SV} {b : Bool} (h : f sl = some (.ok (.d (.bool b)), sl1)) : mTest f sl = some (.ok b, sl1) := by
  unfold mTest bndD bnd
  rw [h]
  rfl
theorem run_not {f : M Bool} {sl sl1 : List SV} {b : Bool} (h : f sl = some (.ok b, sl1)) : mNot f sl = some (.ok (!b), sl1) := by
  unfold mNot bnd
  rw [h]
  rfl
theorem run_or0 {f g : M Bool} {sl sl1 : List SV} (h : f sl = some (.ok false, sl1)) : mOr f g sl = g sl1 := by
  unfold mOr bnd
  rw [h]
  rfl
theorem run_or1 {f g : M Bool} {sl sl1 : List SV} (h : f sl = some (.ok true, sl1)) : mOr f g sl = some (.ok true, sl1) := by
  unfold mOr bnd
  rw [h]
  rfl
theorem run_and1 {f g : M Bool} {sl sl1 : List SV} (h : f sl = some (.ok true, sl1)) : mAnd f g sl = g sl1 := by
  unfold mAnd bnd
  rw [h]
  rfl
theorem run_and0 {f g : M Bool} {sl sl1 : List SV} (h : f sl = some (.ok false, sl1)) : mAnd f g sl = some (.ok false, sl1) := by
  unfold mAnd bnd
  rw [h]
  rfl
theorem run_andV1 {f g : M SV} {sl sl1 : List SV} (h : f sl = some (.ok (.d (.bool true)), sl1)) : mAndV f g sl = g sl1 := by
  unfold mAndV bnd
  rw [run_test h]
  rfl
theorem run_andV0 {f g : M SV} {sl sl1 : List SV} (h : f sl = some (.ok (.d (.bool false)), sl1)) : mAndV f g sl = some (.ok (.d (.bool false)), sl1) := by
  unfold mAndV bnd
  rw [run_test h]
  rfl
theorem run_cons {f : M SV} {g : M (List SV)} {sl sl1 sl2 : List SV} {x : SV} {xs : List SV} (h : f sl = some (.ok x, sl1)) (hg : g sl1 = some (.ok xs, sl2)) : mCons f g sl = some (.ok (x :: xs), sl2) := by
  unfold mCons bnd
  rw [h]
  dsimp only
  rw [hg]
  rfl
theorem run_nil {sl : List SV} : mNil sl = some (.ok [], sl) := rfl
theorem run_B {g : List D → Option SV} {fa : M (List SV)} {sl sl1 : List SV} {xs : List SV} {r : SV} (h : fa sl = some (.ok xs, sl1)) (hf : SV.fulls xs = true) (hg : g (SV.toDs xs) = some r) : mB g fa sl = some (.ok r, sl1) := by
  unfold mB bnd
  rw [h]
  dsimp only
  rw [if_pos hf, hg]
  rfl
theorem run_op {g : D → D → Option SV} {fa fb : M SV} {sl sl1 sl2 : List SV} {x y r : SV} (ha : fa sl = some (.ok x, sl1)) (hx : x.full = true) (hb : fb sl1 = some (.ok y, sl2)) (hy : y.full = true) (hg : g x.toD y.toD = some r) : mOp g fa fb sl = some (.ok r, sl2) := by
  unfold mOp bndD bnd
  rw [ha]
  dsimp only
  rw [if_pos hx, hb]
  dsimp only
  rw [if_pos hy, hg]
  rfl
theorem run_un {g : D → Option SV} {fa : M SV} {sl sl1 : List SV} {x r : SV} (ha : fa sl = some (.ok x, sl1)) (hx : x.full = true) (hg : g x.toD = some r) : mUn g fa sl = some (.ok r, sl1) := by
  unfold mUn bndD bnd
  rw [ha]
  dsimp only
  rw [if_pos hx, hg]
  rfl
theorem run_pure {g : M SV} {sl sl1 : List SV} {r : SV} (h : g (sl.map frz1) = some (.ok r, sl1)) (hs : scal r = true) : mPure g sl = some (.ok r, sl) := by
  unfold mPure
  rw [h]
  dsimp only
  rw [if_pos hs]
theorem run_pureT {g : M Bool} {sl sl1 : List SV} {b : Bool} (h : g (sl.map frz1) = some (.ok b, sl1)) : mPureT g sl = some (.ok b, sl) := by
  unfold mPureT
  rw [h]
theorem run_fgt {is : List Nat} {G : M Ctl} {sl sl1 : List SV} {c : Ctl} (h : G sl = some (.ok c, sl1)) : mFgt is G sl = some (.ok c, fgt is sl1) := by
  unfold mFgt
  rw [h]
theorem run_call {F : M SV} {dd : List D} {fa : M (List SV)} {sl sl1 sl2 : List SV} {xs : List SV} {r : SV} (h : fa sl = some (.ok xs, sl1)) (hF : F (xs ++ dd.map SV.d) = some (.ok r, sl2)) : mCall F dd fa sl = some (.ok r, sl1) := by
  unfold mCall bnd
  rw [h]
  dsimp only
  unfold mRun
  rw [hF]
/-- a def's value by its body -/
theorem run_fn {n N : Nat} {kp : List Nat} {G : M Ctl} {args sl : List SV} {r : SV} (hn : args.length = n) (h : G (args ++ List.replicate (N - n) .un) = some (.ok (.rt r), sl)) : fnM n N kp G args = some (.ok r, maskR kp 0 n sl) := by
  unfold fnM
  rw [if_pos hn, h]
theorem run_fn0 {n N : Nat} {kp : List Nat} {G : M Ctl} {args sl : List SV} (hn : args.length = n) (h : G (args ++ List.replicate (N - n) .un) = some (.ok .nx, sl)) : fnM n N kp G args = some (.ok (.d .none), maskR kp 0 n sl) := by
  unfold fnM
  rw [if_pos hn, h]
/-! ## comprehensions -/
theorem compL_map {α : Type} {vs : List Nat} {T : SV → M Unit} {t : M Bool} {f : M SV} (g : α → D) (p : α → Bool) (r : α → SV) {s0 : List SV} : ∀ (xs : List α) (acc : List SV), acc.length + xs.length ≤ sizeLine →
    (∀ x ∈ xs, ∃ s s2, T (.d (g x)) s0 = some (.ok (), s) ∧ t s = some (.ok (p x), s2) ∧ (p x = true → ∃ s3, f s2 = some (.ok (r x), s3) ∧ wipeS s3 vs = s0) ∧ (p x = false → wipeS s2 vs = s0)) →
    compL vs T t f (xs.map g) acc s0 = some (.ok (acc ++ (xs.filter p).map r), s0)
  | [], acc, _, _ => by simp [compL, ret]
  | x :: xs, acc, hl, h => by
    obtain ⟨s, s2, h1, h2, h3, h4⟩ := h x (List.mem_cons_self ..)
    have ih := fun acc' hl' => compL_map g p r xs acc' hl' fun y hy => h y (List.mem_cons_of_mem _ hy)
    rw [List.length_cons] at hl
    rw [List.map_cons]
    unfold compL
    rw [h1]
    dsimp only
    rw [h2]
    cases hp : p x with
    | true =>
      obtain ⟨s3, h5, h6⟩ := h3 hp
      dsimp only
      rw [h5]
      dsimp only
      rw [if_pos (by omega), h6, ih _ (by simp; omega), List.filter_cons, if_pos hp]
      simp
    | false =>
      dsimp only
      rw [h4 hp, ih _ (by omega), List.filter_cons, if_neg (by simp [hp])]
theorem comp_map {α : Type} {N : Nat} {vs : List Nat} {F : M (List D)} {T : SV → M Unit} {t : M Bool} {f : M SV} {sl sl1 : List SV} (xs : List α) (g : α → D) (p : α → Bool) (r : α → SV) (hF : F sl = some (.ok (xs.map g), sl1)) (hN : sl1.length = N) (hl : xs.length ≤ sizeLine)
    (h : ∀ x ∈ xs, ∃ s s2, T (.d (g x)) (wipeS sl1 vs) = some (.ok (), s) ∧ t s = some (.ok (p x), s2) ∧ (p x = true → ∃ s3, f s2 = some (.ok (r x), s3) ∧ wipeS s3 vs = wipeS sl1 vs) ∧ (p x = false → wipeS s2 vs = wipeS sl1 vs)) (hu : unwipe sl1 vs (wipeS sl1 vs) = sl1) :
    mComp N vs F T t f sl = some (.ok (.lst ((xs.filter p).map r)), sl1) := by
  unfold mComp bnd
  rw [hF]
  dsimp only
  rw [if_pos hN, compL_map g p r xs [] (by simpa using hl) h]
  dsimp only
  rw [hu, List.nil_append]
/-- all of them -/
theorem comp_all {α : Type} {N : Nat} {vs : List Nat} {F : M (List D)} {T : SV → M Unit} {f : M SV} {sl sl1 : List SV} (xs : List α) (g : α → D) (r : α → SV) (hF : F sl = some (.ok (xs.map g), sl1)) (hN : sl1.length = N) (hl : xs.length ≤ sizeLine)
    (h : ∀ x ∈ xs, ∃ s s3, T (.d (g x)) (wipeS sl1 vs) = some (.ok (), s) ∧ f s = some (.ok (r x), s3) ∧ wipeS s3 vs = wipeS sl1 vs) (hu : unwipe sl1 vs (wipeS sl1 vs) = sl1) :
    mComp N vs F T (ret true) f sl = some (.ok (.lst (xs.map r)), sl1) := by
  have := comp_map (t := ret true) (f := f) xs g (fun _ => true) r hF hN hl (fun x hx => by
    obtain ⟨s, s3, h1, h2, h3⟩ := h x hx
    exact ⟨s, s, h1, rfl, fun _ => ⟨s3, h2, h3⟩, fun e => by cases e⟩) hu
  rwa [List.filter_eq_self.mpr (fun _ _ => rfl)] at this
/-! ## loops -/
theorem forL_inv {α : Type} {T : SV → M Unit} {b : M Ctl} (g : α → D) : ∀ {xs : List α} (Inv : Nat → List SV → Prop) (h : ∀ (i : Nat) (x : α) (s : List SV), xs[i]? = some x → Inv i s → ∃ s1 s2, T (.d (g x)) s = some (.ok (), s1) ∧ b s1 = some (.ok .nx, s2) ∧ Inv (i + 1) s2) (s : List SV), Inv 0 s →
    ∃ s', forL T b (xs.map g) s = some (.ok .nx, s') ∧ Inv xs.length s'
  | [], Inv, _, s, h0 => ⟨s, rfl, h0⟩
  | x :: xs, Inv, h, s, h0 => by
    obtain ⟨s1, s2, h1, h2, h3⟩ := h 0 x s rfl h0
    obtain ⟨s', h4, h5⟩ := forL_inv g (xs := xs) (fun i => Inv (i + 1)) (fun i y t hy ht => h (i + 1) y t (by simpa using hy) ht) s2 h3
    refine ⟨s', ?_, h5⟩
    rw [List.map_cons]
    unfold forL
    rw [h1]
    dsimp only
    unfold bnd
    rw [h2]
    exact h4
theorem for_inv {α : Type} {F : M (List D)} {T : SV → M Unit} {b : M Ctl} {sl sl1 : List SV} (g : α → D) {xs : List α} (Inv : Nat → List SV → Prop) (hF : F sl = some (.ok (xs.map g), sl1)) (h0 : Inv 0 sl1) (h : ∀ (i : Nat) (x : α) (s : List SV), xs[i]? = some x → Inv i s → ∃ s1 s2, T (.d (g x)) s = some (.ok (), s1) ∧ b s1 = some (.ok .nx, s2) ∧ Inv (i + 1) s2) :
    ∃ s', mFor F T b sl = some (.ok .nx, s') ∧ Inv xs.length s' := by
  obtain ⟨s', h1, h2⟩ := forL_inv g Inv h sl1 h0
  refine ⟨s', ?_, h2⟩
  unfold mFor bnd
  rw [hF]
  exact h1
theorem forO_inv {T : SV → M Unit} {b : M Ctl} : ∀ {xs : List SV} (Inv : Nat → List SV → Prop) (h : ∀ (i : Nat) (x : SV) (s : List SV), xs[i]? = some x → Inv i s → ∃ s1 s2, T x s = some (.ok (), s1) ∧ b s1 = some (.ok .nx, s2) ∧ Inv (i + 1) s2) (s : List SV), Inv 0 s →
    ∃ s', forO T b xs s = some (.ok .nx, s') ∧ Inv xs.length s'
  | [], Inv, _, s, h0 => ⟨s, rfl, h0⟩
  | x :: xs, Inv, h, s, h0 => by
    obtain ⟨s1, s2, h1, h2, h3⟩ := h 0 x s rfl h0
    obtain ⟨s', h4, h5⟩ := forO_inv (xs := xs) (fun i => Inv (i + 1)) (fun i y t hy ht => h (i + 1) y t (by simpa using hy) ht) s2 h3
    refine ⟨s', ?_, h5⟩
    unfold forO
    rw [h1]
    dsimp only
    rw [h2]
    exact h4
/-- a while that ends: m goes down -/
theorem while_inv {c : M Bool} {b : M Ctl} (Inv : List SV → Prop) (m : List SV → Nat) (h : ∀ s, Inv s → ∃ t s1, c s = some (.ok t, s1) ∧ (t = false → s1 = s) ∧ (t = true → ∃ s2, b s1 = some (.ok .nx, s2) ∧ Inv s2 ∧ m s2 < m s)) : ∀ (n : Nat) (s : List SV), Inv s → m s < n →
    ∃ s' s1, mWhile c b n s = some (.ok .nx, s') ∧ Inv s' ∧ c s' = some (.ok false, s1)
  | 0, s, _, hn => by omega
  | n + 1, s, hi, hn => by
    obtain ⟨t, s1, h1, h2, h3⟩ := h s hi
    unfold mWhile bnd
    rw [h1]
    dsimp only
    cases t with
    | false =>
      rw [h2 rfl] at h1 ⊢
      exact ⟨s, s, rfl, hi, h1⟩
    | true =>
      obtain ⟨s2, h4, h5, h6⟩ := h3 rfl
      obtain ⟨s', s3, h7, h8, h9⟩ := while_inv Inv m h n s2 h5 (by omega)
      refine ⟨s', s3, ?_, h8, h9⟩
      rw [if_pos rfl]
      rw [h4]
      exact h7
theorem okMul_l {i j : Int} (h : -(2 ^ 64) < i) (h' : i < 2 ^ 64) : okMul i j = true := by unfold okMul; rw [decide_eq_true h, decide_eq_true h']; rfl
theorem okMul_r {i j : Int} (h : -(2 ^ 64) < j) (h' : j < 2 ^ 64) : okMul i j = true := by unfold okMul; rw [decide_eq_true h, decide_eq_true h']; simp
theorem modD_of {i j : Int} (h : j ≠ 0) : modD (.int i) (.int j) = some (.d (.int (i.fmod j))) := by
  show (if decide (j ≠ 0) = true then _ else none) = _
  rw [if_pos (decide_eq_true h)]
theorem fdivD_of {i j : Int} (h : 0 < j) (h' : j < 1073741824) : fdivD (.int i) (.int j) = some (.d (.int (i.fdiv j))) := by
  show (if okDiv i j = true then _ else none) = _
  rw [if_pos]
  unfold okDiv
  rw [decide_eq_true (by omega), decide_eq_true (by omega)]
  rfl
theorem mulD_of {i j : Int} (h : okMul i j = true) : mulD (.int i) (.int j) = some (.d (.int (i * j))) := by
  show (if okMul i j = true then _ else none) = _
  rw [if_pos h]
theorem run_seqR {G1 G2 : M Ctl} {sl sl1 : List SV} {r : SV} (h : G1 sl = some (.ok (.rt r), sl1)) : mSeq G1 G2 sl = some (.ok (.rt r), sl1) := by
  unfold mSeq bnd
  rw [h]
  rfl
theorem run_set {i : Nat} {f g : M SV} {sl s1 s2 : List SV} {x0 x k y z : SV} (h0 : sl[i]? = some x0) (hs : isSeq x0 = true) (hf : f sl = some (.ok x, s1)) (hg : g s1 = some (.ok k, s2)) (hk : k.full = true) (hy : s2[i]? = some y) (hz : setO y k.toD x = some z) : mSetItem i f g sl = some (.ok .nx, s2.set i z) := by
  unfold mSetItem bndD bnd
  rw [h0]
  dsimp only
  rw [if_pos hs, hf]
  dsimp only
  rw [hg]
  dsimp only
  rw [if_pos hk]
  simp only [hy, hz]
theorem rng_map (lo : Int) (n : Nat) : rng lo n = (List.range n).map fun i => .int (lo + (i : Nat)) := rfl
theorem rangeD_of {k : Int} (h1 : -(2 ^ 62) ≤ k) (h2 : k < 2 ^ 62) : rangeD [.d (.int k)] = some ((List.range k.toNat).map fun i => PyData.int (0 + ((i : Nat) : Int))) := by
  show (if -(2 ^ 62) ≤ k ∧ k < 2 ^ 62 then _ else none) = _
  rw [if_pos ⟨h1, h2⟩]
  rfl
theorem run_range {fa : M (List SV)} {sl sl1 : List SV} {k : Int} (h : fa sl = some (.ok [.d (.int k)], sl1)) (h1 : -(2 ^ 62) ≤ k) (h2 : k < 2 ^ 62) : mRange fa sl = some (.ok ((List.range k.toNat).map fun i => PyData.int (0 + ((i : Nat) : Int))), sl1) := by
  unfold mRange bnd
  rw [h]
  dsimp only
  rw [rangeD_of h1 h2]
  rfl
theorem run_callP {F : M SV} {dd : List D} {i : Nat} {fa : M (List SV)} {sl sl1 rest xs : List SV} {x0 y y' r : SV} (h0 : sl[i]? = some x0) (hu : isUn x0 = false) (ha : fa sl = some (.ok xs, sl1)) (hy : sl1[i]? = some y) (hF : F (y :: (xs ++ dd.map SV.d)) = some (.ok r, y' :: rest)) (hy1 : isUn y = false := by rfl) :
    mCallP F dd i fa sl = some (.ok r, sl1.set i y') := by
  unfold mCallP bnd
  rw [h0]
  dsimp only
  rw [if_neg (by rw [hu]; exact Bool.false_ne_true), ha]
  dsimp only
  unfold mLend
  rw [hy]
  dsimp only
  rw [hF]
theorem run_meth {op : MOp} {i : Nat} {fa : M (List SV)} {sl sl1 xs : List SV} {x0 x r y : SV} (h0 : sl[i]? = some x0) (hl : isLst x0 = true) (ha : fa sl = some (.ok xs, sl1)) (hx : sl1[i]? = some x) (ho : op x xs = some (r, y)) : mMeth i op fa sl = some (.ok r, sl1.set i y) := by
  unfold mMeth bnd
  rw [h0]
  dsimp only
  rw [if_pos hl, ha]
  dsimp only
  rw [hx]
  dsimp only
  rw [ho]
theorem atI_nat {α : Type} {l : List α} {r : Int} {x : α} (h : 0 ≤ r) (hx : l[r.toNat]? = some x) : L2.atI l r = some x := by
  have hl : r.toNat < l.length := (List.getElem?_eq_some_iff.mp hx).1
  unfold L2.atI L2.ixN
  rw [if_pos h, if_pos (by omega)]
  exact hx
theorem atD_list {ds : List D} {r : Int} {d : D} (h : 0 ≤ r) (hx : ds[r.toNat]? = some d) : atD (.list ds) (.int r) = some (.d d) := by
  show (L2.atI ds r).map SV.d = _
  rw [atI_nat h hx]
  rfl
theorem toDs_d : ∀ ds : List D, SV.toDs (ds.map SV.d) = ds
  | [] => rfl
  | d :: ds => by rw [List.map_cons, SV.toDs, toDs_d ds]; rfl
theorem fulls_d : ∀ ds : List D, SV.fulls (ds.map SV.d) = true
  | [] => rfl
  | d :: ds => by rw [List.map_cons, SV.fulls, fulls_d ds]; rfl
theorem full_lst (ds : List D) : (SV.lst (ds.map SV.d)).full = true := by rw [SV.full]; exact fulls_d ds
theorem toD_lst (ds : List D) : (SV.lst (ds.map SV.d)).toD = .list ds := by rw [SV.toD, toDs_d]
theorem run_name {i : Nat} {sl : List SV} {x : SV} (h : sl[i]? = some x) (hf : x.full = true) : mName i sl = some (.ok (.d x.toD), sl.set i (.d x.toD)) := by
  unfold mName
  rw [h]
  dsimp only
  rw [if_pos hf]
theorem run_itL {f : M SV} {sl sl1 : List SV} {x : SV} {ds : List D} (h : f sl = some (.ok x, sl1)) (hf : x.full = true) (hd : x.toD = .list ds) : mIt f sl = some (.ok ds, sl1) := by
  unfold mIt bndD bnd
  rw [h]
  dsimp only
  rw [if_pos hf, hd]
  rfl
theorem frz1_lst (es : List D) : frz1 (.lst (es.map SV.d)) = .d (.list es) := by
  unfold frz1
  rw [if_pos (full_lst es), toD_lst]
theorem insertO_of {es : List D} {r : Int} {y : D} (hz : es.length < sizeLine) (h0 : 0 ≤ r) (h1 : r < 2 ^ 63) : insertO (.lst (es.map SV.d)) [.d (.int r), .d y] = some (.d .none, .lst ((es.take r.toNat ++ [y] ++ es.drop r.toNat).map SV.d)) := by
  show (if _ then _ else none) = _
  rw [if_pos ⟨by rw [List.length_map]; exact hz, h0, h1⟩, List.map_append, List.map_append, List.map_take, List.map_drop]
  rfl
theorem appendO_of {es : List D} {y : D} (hz : es.length < sizeLine) : appendO (.lst (es.map SV.d)) [.d y] = some (.d .none, .lst ((es ++ [y]).map SV.d)) := by
  show (if _ then _ else none) = _
  rw [if_pos (by rw [List.length_map]; exact hz), List.map_append]
  rfl
theorem map_erase {α β : Type} (f : α → β) : ∀ (l : List α) (k : Nat), (l.map f).eraseIdx k = (l.eraseIdx k).map f
  | [], _ => rfl
  | _ :: _, 0 => rfl
  | x :: l, k + 1 => by rw [List.map_cons, List.eraseIdx_cons_succ, List.eraseIdx_cons_succ, List.map_cons, map_erase f l k]
theorem popAtO_of {es : List D} {r : Int} {y : D} (h0 : 0 ≤ r) (h1 : r < 2 ^ 63) (hy : es[r.toNat]? = some y) : popAtO (.lst (es.map SV.d)) [.d (.int r)] = some (.d y, .lst ((es.eraseIdx r.toNat).map SV.d)) := by
  show (if _ then _ else none) = _
  rw [if_pos ⟨by omega, h1⟩]
  have hl : r.toNat < es.length := (List.getElem?_eq_some_iff.mp hy).1
  have hs : PySem.seqIndex? r (es.map SV.d).length = some r.toNat := by
    unfold PySem.seqIndex?
    rw [List.length_map]
    simp only [if_neg (show ¬ r < 0 by omega)]
    rw [if_pos]
    simp
    omega
  rw [hs]
  dsimp only [Option.bind]
  rw [List.getElem?_map, hy]
  dsimp only [Option.map]
  rw [map_erase]
theorem perm_insert {α : Type} (es : List α) (y : α) (k : Nat) : (es.take k ++ [y] ++ es.drop k).Perm (es ++ [y]) := by
  rw [List.append_assoc]
  refine (List.Perm.append_left _ List.perm_append_comm).trans ?_
  rw [← List.append_assoc, List.take_append_drop]
theorem take_succ' {α : Type} {l : List α} {i : Nat} {y : α} (h : l[i]? = some y) : l.take (i + 1) = l.take i ++ [y] := by
  rw [List.take_succ, h]
  rfl
theorem run_guard {c : M Bool} {f G : M Ctl} {sl sl1 : List SV} {out : Option (Res Ctl × List SV)} (h : c sl = some (.ok false, sl1)) (k : G sl1 = out) : mSeq (mIf c f (ret .nx)) G sl = out := by
  rw [run_seq ((run_if0 h).trans rfl)]
  exact k
theorem run_frz {is : List Nat} {G : M Ctl} {sl sl1 sl2 : List SV} (h : G sl = some (.ok .nx, sl1)) (e : frzs is sl1 = sl2) : mFrz is G sl = some (.ok .nx, sl2) := by
  unfold mFrz
  rw [h]
  dsimp only
  rw [e]
theorem comp_mapD {α : Type} {N : Nat} {vs : List Nat} {F : M (List D)} {T : SV → M Unit} {t : M Bool} {f : M SV} {sl sl1 : List SV} (xs : List α) (g : α → D) (p : α → Bool) (r : α → D) (hF : F sl = some (.ok (xs.map g), sl1)) (hN : sl1.length = N) (hl : xs.length ≤ sizeLine)
    (h : ∀ x ∈ xs, ∃ s, T (.d (g x)) (wipeS sl1 vs) = some (.ok (), s) ∧ t s = some (.ok (p x), s) ∧ f s = some (.ok (.d (r x)), s) ∧ wipeS s vs = wipeS sl1 vs) (hu : unwipe sl1 vs (wipeS sl1 vs) = sl1) :
    mComp N vs F T t f sl = some (.ok (.lst (((xs.filter p).map r).map SV.d)), sl1) := by
  rw [List.map_map]
  refine comp_map xs g p (fun x => SV.d (r x)) hF hN hl (fun x hx => ?_) hu
  obtain ⟨s, h1, h2, h3, h4⟩ := h x hx
  exact ⟨s, s, h1, h2, fun _ => ⟨s, h3, h4⟩, fun _ => h4⟩
theorem comp_allD {α : Type} {N : Nat} {vs : List Nat} {F : M (List D)} {T : SV → M Unit} {f : M SV} {sl sl1 : List SV} (xs : List α) (g : α → D) (r : α → D) (hF : F sl = some (.ok (xs.map g), sl1)) (hN : sl1.length = N) (hl : xs.length ≤ sizeLine)
    (h : ∀ x ∈ xs, ∃ s, T (.d (g x)) (wipeS sl1 vs) = some (.ok (), s) ∧ f s = some (.ok (.d (r x)), s) ∧ wipeS s vs = wipeS sl1 vs) (hu : unwipe sl1 vs (wipeS sl1 vs) = sl1) :
    mComp N vs F T (ret true) f sl = some (.ok (.lst ((xs.map r).map SV.d)), sl1) := by
  rw [List.map_map]
  refine comp_all xs g (fun x => SV.d (r x)) hF hN hl (fun x hx => ?_) hu
  obtain ⟨s, h1, h3, h4⟩ := h x hx
  exact ⟨s, s, h1, h3, h4⟩
theorem allD_of (bs : List Bool) : allD [.list (bs.map PyData.bool)] = some (.d (.bool (bs.all id))) := by
  show (boolsOf (bs.map PyData.bool)).map (fun bs => SV.d (.bool (bs.all id))) = _
  rw [boolsOf_map]
  rfl
/-- all([..]) of a comprehension of truths -/
theorem run_all {f : M SV} {sl sl1 : List SV} {α : Type} {xs : List α} {r : α → Bool} (h : f sl = some (.ok (.lst ((xs.map fun x => PyData.bool (r x)).map SV.d)), sl1)) : mB allD (mCons f mNil) sl = some (.ok (.d (.bool (xs.all r))), sl1) := by
  refine run_B (run_cons h rfl) (by rw [SV.fulls, full_lst]; rfl) ?_
  have e : (xs.map fun x => PyData.bool (r x)) = (xs.map r).map PyData.bool := by rw [List.map_map]; rfl
  rw [SV.toDs, toD_lst, e]
  show allD [.list ((xs.map r).map PyData.bool)] = _
  rw [allD_of, List.all_map]
  rfl
theorem addD_list {a b : List D} (h : a.length + b.length ≤ sizeLine) : addD (.list a) (.list b) = some (.lst ((a ++ b).map SV.d)) := by
  show (if a.length + b.length ≤ sizeLine then _ else none) = _
  rw [if_pos h]
theorem frz_lst {i : Nat} {sl : List SV} {ds : List D} (h : sl[i]? = some (.lst (ds.map SV.d))) : frz i sl = sl.set i (.d (.list ds)) := by
  unfold frz
  rw [h]
  dsimp only
  rw [if_pos (full_lst ds), toD_lst]
/-- x = [..]: kept frozen -/
theorem run_asgL {f : M SV} {i : Nat} {sl sl1 : List SV} {ds : List D} (h : f sl = some (.ok (.lst (ds.map SV.d)), sl1)) (hi : i < sl1.length) : mFrz [i] (mAsg f (gSet i)) sl = some (.ok .nx, sl1.set i (.d (.list ds))) := by
  have e : gSet i (.lst (ds.map SV.d)) sl1 = some (.ok (), sl1.set i (.lst (ds.map SV.d))) := by
    unfold gSet
    rw [if_pos hi]
  refine run_frz (run_asg h e) ?_
  show frz i (sl1.set i (.lst (ds.map SV.d))) = _
  rw [frz_lst (ds := ds) (by rw [List.getElem?_set_self hi]), List.set_set]
theorem rangeD2_of {a b : Int} (h1 : -(2 ^ 62) ≤ a) (h2 : a < 2 ^ 62) (h3 : -(2 ^ 62) ≤ b) (h4 : b < 2 ^ 62) : rangeD2 [.d (.int a), .d (.int b)] = some (rng a (b - a).toNat) := by
  show (if (-(2 ^ 62) ≤ a ∧ a < 2 ^ 62) ∧ -(2 ^ 62) ≤ b ∧ b < 2 ^ 62 then _ else none) = _
  rw [if_pos ⟨⟨h1, h2⟩, h3, h4⟩]
theorem run_range2 {fa : M (List SV)} {sl sl1 : List SV} {a b : Int} (h : fa sl = some (.ok [.d (.int a), .d (.int b)], sl1)) (h1 : -(2 ^ 62) ≤ a) (h2 : a < 2 ^ 62) (h3 : -(2 ^ 62) ≤ b) (h4 : b < 2 ^ 62) : mRange2 fa sl = some (.ok (rng a (b - a).toNat), sl1) := by
  unfold mRange2 bnd
  rw [h]
  dsimp only
  rw [rangeD2_of h1 h2 h3 h4]
  rfl
/-- the first of a pair of names set by a display, frozen -/
theorem run_slice {f fh : M SV} {sl sl1 sl2 : List SV} {x : SV} {ds : List D} {h : Int} (hf : f sl = some (.ok x, sl1)) (hx : x.full = true) (hd : x.toD = .tuple ds) (hh : fh sl1 = some (.ok (.d (.int h)), sl2)) : mSlice f none (some fh) sl = some (.ok (.d (.tuple (cutD ds none (some h)))), sl2) := by
  unfold mSlice bndD bnd
  rw [hf]
  dsimp only
  rw [if_pos hx, hd]
  show bndD fh (fun d => match d with | .int i => lift (sliceD none (some i) (.tuple ds)) | _ => fail) sl1 = _
  unfold bndD bnd
  rw [hh]
  rfl
theorem putS_new {k : L2.Key} {x : SV} : ∀ {es : List (L2.Key × SV)}, (∀ p ∈ es, p.1 ≠ k) → putS es k x = some (es ++ [(k, x)])
  | [], _ => rfl
  | (k', y) :: es, h => by
    have h1 : ¬ k' = k := h (k', y) (List.mem_cons_self ..)
    unfold putS
    rw [if_neg h1, putS_new fun p hp => h p (List.mem_cons_of_mem _ hp)]
    rfl
theorem compD_map {α : Type} {vs : List Nat} {T : SV → M Unit} {fk f : M SV} (g : α → D) (k : α → Str) (r : α → D) {s0 : List SV} : ∀ (xs done : List α), (done ++ xs).length ≤ sizeLine → ((done ++ xs).map k).Nodup →
    (∀ x ∈ xs, ∃ s, T (.d (g x)) s0 = some (.ok (), s) ∧ fk s = some (.ok (.d (.str (k x))), s) ∧ f s = some (.ok (.d (r x)), s) ∧ wipeS s vs = s0) →
    compD vs T (ret true) fk f (xs.map g) (done.map fun x => (.inr (k x), .d (r x))) s0 = some (.ok ((done ++ xs).map fun x => (.inr (k x), .d (r x))), s0)
  | [], done, _, _, _ => by rw [List.append_nil]; rfl
  | x :: xs, done, hl, nd, h => by
    obtain ⟨s, h1, h2, h3, h4⟩ := h x (List.mem_cons_self ..)
    have e : (done ++ [x]) ++ xs = done ++ x :: xs := by rw [List.append_assoc]; rfl
    have ih := compD_map g k r xs (done ++ [x]) (by rw [e]; exact hl) (by rw [e]; exact nd) fun y hy => h y (List.mem_cons_of_mem _ hy)
    rw [e] at ih
    rw [List.map_cons]
    unfold compD
    rw [h1]
    dsimp only
    have e1 : bndD fk (fun y => bnd f fun z => ret (y, z)) s = some (.ok (.str (k x), .d (r x)), s) := by
      unfold bndD bnd
      rw [h2]
      dsimp only
      show bnd f _ s = _
      unfold bnd
      rw [h3]
      rfl
    show (match bndD fk (fun y => bnd f fun z => ret (y, z)) s with
        | some (.ok (y, z), sl3) => if (done.map fun x => ((.inr (k x), .d (r x)) : L2.Key × SV)).length < sizeLine then (match dKey y with
          | some key => (match putS (done.map fun x => (.inr (k x), .d (r x))) key z with
            | some acc' => compD vs T (ret true) fk f (xs.map g) acc' (wipeS sl3 vs)
            | none => none)
          | none => none) else none
        | _ => none) = _
    rw [e1]
    dsimp only
    rw [if_pos (by rw [List.length_map]; rw [List.length_append, List.length_cons] at hl; omega)]
    have hp : putS (done.map fun x => (.inr (k x), .d (r x))) (.inr (k x)) (.d (r x)) = some ((done ++ [x]).map fun x => (.inr (k x), .d (r x))) := by
      rw [putS_new (fun p hp => ?_), List.map_append]
      · rfl
      · obtain ⟨y, hy, rfl⟩ := List.mem_map.mp hp
        intro e
        have e2 : k y = k x := by simpa using e
        rw [List.map_append, List.nodup_append] at nd
        exact nd.2.2 (k y) (List.mem_map.mpr ⟨y, hy, rfl⟩) (k x) (List.mem_map.mpr ⟨x, List.mem_cons_self .., rfl⟩) e2
    show (match putS (done.map fun x => (.inr (k x), .d (r x))) (.inr (k x)) (.d (r x)) with
      | some acc' => compD vs T (ret true) fk f (xs.map g) acc' (wipeS s vs)
      | none => none) = _
    rw [hp, h4]
    exact ih
theorem dcomp_map {α : Type} {N : Nat} {vs : List Nat} {F : M (List D)} {T : SV → M Unit} {fk f : M SV} {sl sl1 : List SV} (xs : List α) (g : α → D) (k : α → Str) (r : α → D) (hF : F sl = some (.ok (xs.map g), sl1)) (hN : sl1.length = N) (hl : xs.length ≤ sizeLine) (nd : (xs.map k).Nodup)
    (h : ∀ x ∈ xs, ∃ s, T (.d (g x)) (wipeS sl1 vs) = some (.ok (), s) ∧ fk s = some (.ok (.d (.str (k x))), s) ∧ f s = some (.ok (.d (r x)), s) ∧ wipeS s vs = wipeS sl1 vs) (hu : unwipe sl1 vs (wipeS sl1 vs) = sl1) :
    mDComp N vs F T (ret true) fk f sl = some (.ok (.dct (xs.map fun x => (.inr (k x), .d (r x)))), sl1) := by
  have c := compD_map (T := T) (fk := fk) (f := f) g k r (s0 := wipeS sl1 vs) xs [] hl nd h
  unfold mDComp bnd
  rw [hF]
  dsimp only
  rw [if_pos hN]
  rw [List.map_nil, List.nil_append] at c
  rw [c]
  dsimp only
  rw [hu]
theorem toDk_map {α : Type} (xs : List α) (k : α → Str) (r : α → SV) : SV.toDk (xs.map fun x => ((.inr (k x), r x) : L2.Key × SV)) = xs.map fun x => (PyData.str (k x), (r x).toD) := by
  induction xs with
  | nil => rfl
  | cons x xs ih => rw [List.map_cons, SV.toDk, ih]; rfl
theorem fullk_map {α : Type} (xs : List α) (k : α → Str) (r : α → SV) (h : ∀ x ∈ xs, (r x).full = true) : SV.fullk (xs.map fun x => ((.inr (k x), r x) : L2.Key × SV)) = true := by
  induction xs with
  | nil => rfl
  | cons x xs ih => rw [List.map_cons, SV.fullk, ih fun y hy => h y (List.mem_cons_of_mem _ hy), h x (List.mem_cons_self ..)]; rfl
theorem frz1_dct {α : Type} (xs : List α) (k : α → Str) (r : α → SV) (h : ∀ x ∈ xs, (r x).full = true) : frz1 (.dct (xs.map fun x => (.inr (k x), r x))) = .d (.dict (xs.map fun x => (PyData.str (k x), (r x).toD))) := by
  unfold frz1
  rw [SV.full, if_pos (fullk_map xs k r h), SV.toD, toDk_map]
theorem frz_at {i : Nat} {sl : List SV} {x : SV} (h : sl[i]? = some x) (f : x.full = true) : frz i sl = sl.set i (.d x.toD) := by
  unfold frz
  rw [h]
  dsimp only
  rw [if_pos f]
theorem frzs1 (i : Nat) (sl : List SV) : frzs [i] sl = frz i sl := rfl
theorem frzs2 (i j : Nat) (sl : List SV) : frzs [i, j] sl = frz j (frz i sl) := rfl
theorem run_zip {f g : M SV} {sl sl1 sl2 : List SV} {x y : SV} {l : List D} (hf : f sl = some (.ok x, sl1)) (hx : x.full = true) (hg : g sl1 = some (.ok y, sl2)) (hy : y.full = true) (h : zipOf x.toD y.toD = some l) : mZip f g sl = some (.ok l, sl2) := by
  unfold mZip bndD bnd
  rw [hf]
  dsimp only
  rw [if_pos hx, hg]
  dsimp only
  rw [if_pos hy, h]
  rfl
theorem putS_old (G : Str → D) (s : Str) (v : D) : ∀ {ks : List Str}, ks.Nodup → s ∈ ks → putS (ks.map fun x => (.inr x, .d (G x))) (.inr s) (.d v) = some (ks.map fun x => (.inr x, .d (if x = s then v else G x)))
  | k :: ks, nd, h => by
    rw [List.nodup_cons] at nd
    rw [List.map_cons, List.map_cons]
    unfold putS
    by_cases e : k = s
    · subst e
      rw [if_pos rfl, if_neg, if_pos rfl]
      · congr 2
        refine List.map_congr_left fun x hx => ?_
        rw [if_neg (fun q => nd.1 (by rw [← q]; exact hx))]
      · intro q
        rw [List.any_eq_true] at q
        obtain ⟨p, hp, e⟩ := q
        obtain ⟨y, hy, rfl⟩ := List.mem_map.mp hp
        have : y = k := by simpa using e
        exact nd.1 (by rw [← this]; exact hy)
    · have hs : s ∈ ks := by
        rcases List.mem_cons.mp h with q | q
        · exact absurd q.symm e
        · exact q
      rw [if_neg (fun q => e (by simpa using q)), putS_old G s v nd.2 hs, if_neg e]
      rfl
theorem run_forK {i : Nat} {T : SV → M Unit} {b : M Ctl} {sl s' : List SV} {kvs : List (D × D)} (h : sl[i]? = some (.d (.dict kvs))) (hf : forL T b (keysD kvs) sl = some (.ok .nx, s')) : mForK i T b sl = some (.ok .nx, s') := by
  unfold mForK
  rw [h]
  dsimp only
  have e : sl.set i (.d (.dict kvs)) = sl := by
    obtain ⟨hi, q⟩ := List.getElem?_eq_some_iff.mp h
    rw [← q]; exact List.set_getElem_self hi
  show (match forL T b (keysD kvs) (sl.set i (.d (.dict kvs))) with
      | some (.ok c, sl') => some (Res.ok c, sl')
      | _ => none) = _
  rw [e, hf]
theorem run_compK {α : Type} {N : Nat} {vs : List Nat} {i : Nat} {T : SV → M Unit} {f : M SV} {sl : List SV} {kvs : List (D × D)} (xs : List α) (g : α → D) (r : α → SV) (h0 : sl[i]? = some (.d (.dict kvs))) (hk : keysD kvs = xs.map g) (hN : sl.length = N) (hl : xs.length ≤ sizeLine)
    (h : ∀ x ∈ xs, ∃ s s3, T (.d (g x)) (wipeS sl vs) = some (.ok (), s) ∧ f s = some (.ok (r x), s3) ∧ wipeS s3 vs = wipeS sl vs) (hu : unwipe sl vs (wipeS sl vs) = sl) : mCompK N vs i T (ret true) f sl = some (.ok (.lst (xs.map r)), sl) := by
  have c := compL_map (T := T) (t := ret true) (f := f) g (fun _ => true) r (s0 := wipeS sl vs) xs [] (by simpa using hl) (fun x hx => by
    obtain ⟨s, s3, h1, h2, h3⟩ := h x hx
    exact ⟨s, s, h1, rfl, fun _ => ⟨s3, h2, h3⟩, fun e => by cases e⟩)
  have e : sl.set i (.d (.dict kvs)) = sl := by
    obtain ⟨hi, q⟩ := List.getElem?_eq_some_iff.mp h0
    rw [← q]; exact List.set_getElem_self hi
  unfold mCompK
  rw [h0]
  dsimp only
  show (if sl.length = N then (match compL vs T (ret true) f (keysD kvs) [] (wipeS (sl.set i (.d (.dict kvs))) vs) with
      | some (.ok xs, sl') => some (Res.ok (SV.lst xs), unwipe (sl.set i (.d (.dict kvs))) vs sl')
      | _ => none) else none) = _
  rw [if_pos hN, e, hk, c]
  dsimp only
  rw [hu, List.nil_append, List.filter_eq_self.mpr (fun _ _ => rfl)]
theorem putD_new {k : L2.Key} {x : D} : ∀ {es : List (L2.Key × D)}, (∀ p ∈ es, p.1 ≠ k) → putD es k x = es ++ [(k, x)]
  | [], _ => rfl
  | (k', y) :: es, h => by
    unfold putD
    rw [if_neg (h (k', y) (List.mem_cons_self ..)), putD_new fun p hp => h p (List.mem_cons_of_mem _ hp)]
    rfl
theorem mergeD_new {α : Type} (k : α → Str) (r : α → D) : ∀ (xs done : List α), ((done ++ xs).map k).Nodup → mergeD (done.map fun x => (.inr (k x), r x)) (xs.map fun x => (.inr (k x), r x)) = (done ++ xs).map fun x => (.inr (k x), r x)
  | [], done, _ => by rw [List.append_nil]; rfl
  | x :: xs, done, nd => by
    have e : (done ++ [x]) ++ xs = done ++ x :: xs := by rw [List.append_assoc]; rfl
    have ih := mergeD_new k r xs (done ++ [x]) (by rw [e]; exact nd)
    rw [e] at ih
    rw [List.map_cons]
    show mergeD (putD (done.map fun x => (.inr (k x), r x)) (.inr (k x)) (r x)) (xs.map fun x => (.inr (k x), r x)) = _
    rw [putD_new (fun p hp => ?_)]
    · rw [← ih, List.map_append]
      rfl
    · obtain ⟨y, hy, rfl⟩ := List.mem_map.mp hp
      intro q
      have q2 : k y = k x := by simpa using q
      rw [List.map_append, List.nodup_append] at nd
      exact nd.2.2 (k y) (List.mem_map.mpr ⟨y, hy, rfl⟩) (k x) (List.mem_map.mpr ⟨x, List.mem_cons_self .., rfl⟩) q2
theorem pairsD_map {α : Type} (k : α → Str) (r : α → D) : ∀ xs : List α, pairsD (xs.map fun x => .tuple [.str (k x), r x]) = some (xs.map fun x => (.inr (k x), r x))
  | [] => rfl
  | x :: xs => by
    rw [List.map_cons, List.map_cons]
    show (dKey (.str (k x))).bind (fun key => (pairsD (xs.map fun x => .tuple [.str (k x), r x])).map ((key, r x) :: ·)) = _
    rw [pairsD_map k r xs]
    rfl
theorem dictD_map {α : Type} (k : α → Str) (r : α → D) (xs : List α) (nd : (xs.map k).Nodup) : dictD [.list (xs.map fun x => .tuple [.str (k x), r x])] = some (.dct (xs.map fun x => (.inr (k x), .d (r x)))) := by
  show (pairsD (xs.map fun x => .tuple [.str (k x), r x])).map (fun kvs => SV.dct ((mergeD [] kvs).map fun kv => (kv.1, .d kv.2))) = _
  rw [pairsD_map k r xs]
  have := mergeD_new k r xs [] (by simpa using nd)
  rw [List.map_nil, List.nil_append] at this
  show some (SV.dct ((mergeD [] (xs.map fun x => (.inr (k x), r x))).map fun kv => (kv.1, .d kv.2))) = _
  rw [this, List.map_map]
  rfl
theorem run_get {fo fk fx : M SV} {sl s1 s2 s3 : List SV} {kvs : List (D × D)} {y z : SV} {k : L2.Key} (ho : fo sl = some (.ok (.d (.dict kvs)), s1)) (hk : fk s1 = some (.ok y, s2)) (hy : y.full = true) (hx : fx s2 = some (.ok z, s3)) (hz : z.full = true) (hkk : dKey y.toD = some k) : mGet fo fk fx sl = some (.ok (.d ((lookK kvs k).getD z.toD)), s3) := by
  unfold mGet bndD bnd
  rw [ho]
  dsimp only
  show bndD fk (fun y => bndD fx fun z => lift ((dKey y).map fun k => SV.d ((lookK kvs k).getD z))) s1 = _
  unfold bndD bnd
  rw [hk]
  dsimp only
  rw [if_pos hy, hx]
  dsimp only
  rw [if_pos hz, hkk]
  rfl
end DD

set_option Elab.async false
set_option linter.all false
set_option maxRecDepth 100000
/-! DD24: data terms by what must hold: simp does the steps. -/
namespace DD
open PySem (PyData Str sizeLine)
def wp {α : Type} (f : M α) (sl : List SV) (Q : Res α → List SV → Prop) : Prop := ∃ r s, f sl = some (r, s) ∧ Q r s
theorem wp_eq {α : Type} {f : M α} {sl s : List SV} {r : Res α} : wp f sl (fun a b => a = r ∧ b = s) ↔ f sl = some (r, s) := by
  unfold wp
  constructor
  · rintro ⟨a, b, h, rfl, rfl⟩; exact h
  · intro h; exact ⟨r, s, h, rfl, rfl⟩
theorem eq_of_wp {α : Type} {f : M α} {sl s : List SV} {r : Res α} (h : wp f sl (fun a b => a = r ∧ b = s)) : f sl = some (r, s) := wp_eq.mp h
theorem wp_of_eq {α : Type} {f : M α} {sl s : List SV} {r : Res α} {Q : Res α → List SV → Prop} (h : f sl = some (r, s)) : wp f sl Q ↔ Q r s := by
  unfold wp
  rw [h]
  constructor
  · rintro ⟨a, b, h, q⟩; cases h; exact q
  · intro q; exact ⟨r, s, rfl, q⟩
theorem wp_mono {α : Type} {f : M α} {sl : List SV} {Q Q' : Res α → List SV → Prop} (h : wp f sl Q) (i : ∀ r s, Q r s → Q' r s) : wp f sl Q' := by
  obtain ⟨r, s, e, q⟩ := h
  exact ⟨r, s, e, i r s q⟩
/-- what is wanted behind a step that goes on -/
def onOk {α : Type} (Q : α → List SV → Prop) (X : Str → D → List SV → Prop) : Res α → List SV → Prop
  | .ok a, s => Q a s
  | .ex c x, s => X c x s
theorem onOk_ok {α : Type} (Q : α → List SV → Prop) (X : Str → D → List SV → Prop) (a : α) (s : List SV) : onOk Q X (.ok a) s = Q a s := rfl
theorem onOk_ex {α : Type} (Q : α → List SV → Prop) (X : Str → D → List SV → Prop) (c : Str) (x : D) (s : List SV) : onOk Q X (.ex c x) s = X c x s := rfl
@[simp] theorem ex2 {α β : Type} {a : α} {b : β} {Q : α → β → Prop} : (∃ r s, (a = r ∧ b = s) ∧ Q r s) ↔ Q a b := ⟨fun ⟨_, _, ⟨h, h'⟩, q⟩ => by subst h h'; exact q, fun q => ⟨_, _, ⟨rfl, rfl⟩, q⟩⟩
section
variable {α β : Type} {sl : List SV} {Q : Res β → List SV → Prop} {QS : Res SV → List SV → Prop} {QB : Res Bool → List SV → Prop} {QC : Res Ctl → List SV → Prop} {QL : Res (List SV) → List SV → Prop} {QU : Res Unit → List SV → Prop} {QD : Res (List D) → List SV → Prop}
theorem wp_ret (a : β) : wp (ret a) sl Q ↔ Q (.ok a) sl := wp_of_eq rfl
theorem wp_fail : wp (fail (α := β)) sl Q ↔ False := by
  unfold wp fail
  constructor
  · rintro ⟨_, _, h, _⟩; cases h
  · intro h; cases h
theorem wp_bnd (f : M α) (k : α → M β) : wp (bnd f k) sl Q ↔ wp f sl (onOk (fun a s => wp (k a) s Q) fun c x s => Q (.ex c x) s) := by
  unfold wp bnd
  constructor
  · rintro ⟨r, s, h, q⟩
    cases hf : f sl with
    | none => rw [hf] at h; cases h
    | some p =>
      obtain ⟨a, s1⟩ := p
      rw [hf] at h
      cases a with
      | ok a => exact ⟨.ok a, _, rfl, r, s, h, q⟩
      | ex c x => cases h; exact ⟨.ex c x, _, rfl, q⟩
  · rintro ⟨r, s, h, q⟩
    rw [h]
    cases r with
    | ok a => exact q
    | ex c x => exact ⟨_, _, rfl, q⟩
theorem wp_lift (o : Option β) : wp (lift o) sl Q ↔ ∃ a, o = some a ∧ Q (.ok a) sl := by
  unfold wp lift
  cases o with
  | none =>
    constructor
    · rintro ⟨_, _, h, _⟩; cases h
    · rintro ⟨_, h, _⟩; cases h
  | some a =>
    constructor
    · rintro ⟨_, _, h, q⟩; cases h; exact ⟨a, rfl, q⟩
    · rintro ⟨_, h, q⟩; cases h; exact ⟨_, _, rfl, q⟩
theorem wp_lift_some (a : β) : wp (lift (some a)) sl Q ↔ Q (.ok a) sl := wp_of_eq rfl
theorem wp_lift_none : wp (lift (none : Option β)) sl Q ↔ False := by
  rw [wp_lift]; simp
theorem wp_lift_if (c : Prop) [Decidable c] (a : β) (o : Option β) : wp (lift (if c then some a else none)) sl Q ↔ c ∧ Q (.ok a) sl := by
  by_cases h : c
  · rw [if_pos h, wp_lift_some]; simp [h]
  · rw [if_neg h, wp_lift_none]; simp [h]
theorem wp_bndD (f : M SV) (k : D → M β) : wp (bndD f k) sl Q ↔ wp f sl (onOk (fun x s => x.full = true ∧ wp (k x.toD) s Q) fun c x s => Q (.ex c x) s) := by
  unfold bndD
  rw [wp_bnd]
  have : (fun (a : SV) s => wp (if a.full = true then k a.toD else fail) s Q) = fun x s => x.full = true ∧ wp (k x.toD) s Q := by
    funext x s
    by_cases h : x.full = true
    · rw [if_pos h]; simp [h]
    · rw [if_neg h]; simp [h, wp_fail]
  rw [this]
/-! slots -/
theorem wp_name (i : Nat) : wp (mName i) sl QS ↔ ∃ x, sl[i]? = some x ∧ x.full = true ∧ QS (.ok (.d x.toD)) (sl.set i (.d x.toD)) := by
  unfold wp mName
  cases h : sl[i]? with
  | none => simp
  | some x =>
    dsimp only
    by_cases hf : x.full = true
    · rw [if_pos hf]
      constructor
      · rintro ⟨_, _, h, q⟩; cases h; exact ⟨x, rfl, hf, q⟩
      · rintro ⟨_, h, _, q⟩; cases h; exact ⟨_, _, rfl, q⟩
    · rw [if_neg hf]
      constructor
      · rintro ⟨_, _, h, q⟩; cases h
      · rintro ⟨_, h, q, _⟩; cases h; exact absurd q hf
theorem wp_move (i : Nat) : wp (mMove i) sl QS ↔ ∃ x, sl[i]? = some x ∧ isUn x = false ∧ QS (.ok x) (sl.set i .un) := by
  unfold wp mMove
  cases h : sl[i]? with
  | none => simp
  | some x => cases x <;> simp [isUn]
theorem wp_C (x : D) : wp (mC x) sl QS ↔ QS (.ok (.d x)) sl := wp_of_eq rfl
theorem wp_op (g : D → D → Option SV) (fa fb : M SV) : wp (mOp g fa fb) sl QS ↔ wp (bndD fa fun x => bndD fb fun y => lift (g x y)) sl QS := Iff.rfl
theorem wp_un (g : D → Option SV) (fa : M SV) : wp (mUn g fa) sl QS ↔ wp (bndD fa fun x => lift (g x)) sl QS := Iff.rfl
theorem wp_test (f : M SV) : wp (mTest f) sl QB ↔ wp (bndD f fun x => lift (truthD x)) sl QB := Iff.rfl
theorem wp_not (f : M Bool) : wp (mNot f) sl QB ↔ wp (bnd f fun b => ret (!b)) sl QB := Iff.rfl
theorem wp_ite {c : Prop} [Decidable c] (f g : M β) : wp (if c then f else g) sl Q ↔ if c then wp f sl Q else wp g sl Q := by split <;> rfl
theorem wp_and (f g : M Bool) : wp (mAnd f g) sl QB ↔ wp f sl (onOk (fun b s => if b = true then wp g s QB else QB (.ok false) s) fun c x s => QB (.ex c x) s) := by
  unfold mAnd
  simp only [wp_bnd, wp_ite, wp_ret]
theorem wp_or (f g : M Bool) : wp (mOr f g) sl QB ↔ wp f sl (onOk (fun b s => if b = true then QB (.ok true) s else wp g s QB) fun c x s => QB (.ex c x) s) := by
  unfold mOr
  simp only [wp_bnd, wp_ite, wp_ret]
theorem wp_andV (f g : M SV) : wp (mAndV f g) sl QS ↔ wp (mTest f) sl (onOk (fun b s => if b = true then wp g s QS else QS (.ok (.d (.bool false))) s) fun c x s => QS (.ex c x) s) := by
  unfold mAndV
  simp only [wp_bnd, wp_ite, wp_ret]
theorem wp_orV (f g : M SV) : wp (mOrV f g) sl QS ↔ wp (mTest f) sl (onOk (fun b s => if b = true then QS (.ok (.d (.bool true))) s else wp g s QS) fun c x s => QS (.ex c x) s) := by
  unfold mOrV
  simp only [wp_bnd, wp_ite, wp_ret]
theorem wp_notV (f : M SV) : wp (mNotV f) sl QS ↔ wp (mTest f) sl (onOk (fun b s => QS (.ok (.d (.bool (!b)))) s) fun c x s => QS (.ex c x) s) := by
  unfold mNotV
  simp only [wp_bnd, wp_ret]
theorem wp_if (c : M Bool) (f g : M β) : wp (mIf c f g) sl Q ↔ wp c sl (onOk (fun b s => if b = true then wp f s Q else wp g s Q) fun c x s => Q (.ex c x) s) := by
  unfold mIf
  simp only [wp_bnd, wp_ite]
theorem wp_nil : wp mNil sl QL ↔ QL (.ok []) sl := wp_of_eq rfl
theorem wp_cons (f : M SV) (g : M (List SV)) : wp (mCons f g) sl QL ↔ wp f sl (onOk (fun x s => wp g s (onOk (fun xs s => QL (.ok (x :: xs)) s) fun c x s => QL (.ex c x) s)) fun c x s => QL (.ex c x) s) := by
  unfold mCons
  simp only [wp_bnd, wp_ret]
theorem wp_mkL (xs : List SV) : wp (mkL xs) sl QS ↔ xs.length ≤ sizeLine ∧ QS (.ok (.lst xs)) sl := by
  unfold wp mkL
  by_cases h : xs.length ≤ sizeLine
  · simp [h]
  · simp [h]
theorem wp_mkT (xs : List SV) : wp (mkT xs) sl QS ↔ xs.length ≤ sizeLine ∧ QS (.ok (.tup xs)) sl := by
  unfold wp mkT
  by_cases h : xs.length ≤ sizeLine
  · simp [h]
  · simp [h]
/-! calls -/
theorem wp_call (F : M SV) (dd : List D) (fa : M (List SV)) : wp (mCall F dd fa) sl QS ↔ wp fa sl (onOk (fun xs s => wp F (xs ++ dd.map SV.d) fun r _ => QS r s) fun c x s => QS (.ex c x) s) := by
  unfold mCall
  rw [wp_bnd]
  have : (fun (xs : List SV) s => wp (mRun F (xs ++ dd.map SV.d)) s QS) = fun xs s => wp F (xs ++ dd.map SV.d) fun r _ => QS r s := by
    funext xs s
    unfold wp mRun
    cases h : F (xs ++ dd.map SV.d) with
    | none => simp
    | some p => obtain ⟨r, s'⟩ := p; cases r <;> simp
  rw [this]
theorem wp_callN (F : M SV) (g : List SV → List SV) (fa : M (List SV)) : wp (mCallN F g fa) sl QS ↔ wp fa sl (onOk (fun xs s => wp F (g xs) fun r _ => QS r s) fun c x s => QS (.ex c x) s) := by
  unfold mCallN
  rw [wp_bnd]
  have : (fun (xs : List SV) s => wp (mRun F (g xs)) s QS) = fun xs s => wp F (g xs) fun r _ => QS r s := by
    funext xs s
    unfold wp mRun
    cases h : F (g xs) with
    | none => simp
    | some p => obtain ⟨r, s'⟩ := p; cases r <;> simp
  rw [this]
/-- the argument that comes back -/
def hd1 (s : List SV) (Q : SV → Prop) : Prop := ∃ y r, s = y :: r ∧ Q y
theorem hd1_cons (y : SV) (r : List SV) (Q : SV → Prop) : hd1 (y :: r) Q ↔ Q y := by
  unfold hd1
  constructor
  · rintro ⟨_, _, h, q⟩; cases h; exact q
  · intro q; exact ⟨_, _, rfl, q⟩
theorem wp_callP (F : M SV) (dd : List D) (i : Nat) (fa : M (List SV)) : wp (mCallP F dd i fa) sl QS ↔ (∃ x, sl[i]? = some x ∧ isUn x = false) ∧ wp fa sl (onOk (fun xs s => ∃ x, s[i]? = some x ∧ wp F (x :: (xs ++ dd.map SV.d)) fun r a => hd1 a fun y => QS r (s.set i y)) fun c x s => QS (.ex c x) s) := by
  unfold mCallP
  have key : ∀ xs s, wp (mLend F i (xs ++ dd.map SV.d)) s QS ↔ ∃ x, s[i]? = some x ∧ wp F (x :: (xs ++ dd.map SV.d)) fun r a => hd1 a fun y => QS r (s.set i y) := by
    intro xs s
    unfold wp mLend
    cases h : s[i]? with
    | none => simp
    | some x =>
      simp only [Option.some.injEq, exists_eq_left']
      cases h2 : F (x :: (xs ++ dd.map SV.d)) with
      | none => simp
      | some p =>
        obtain ⟨r, s'⟩ := p
        cases s' with
        | nil => cases r <;> simp [hd1]
        | cons y s' => cases r <;> simp [hd1]
  have key2 : (fun (xs : List SV) s => wp (mLend F i (xs ++ dd.map SV.d)) s QS) = fun xs s => ∃ x, s[i]? = some x ∧ wp F (x :: (xs ++ dd.map SV.d)) fun r a => hd1 a fun y => QS r (s.set i y) := by
    funext xs s
    exact propext (key xs s)
  constructor
  · rintro ⟨r, s, h, q⟩
    cases hx : sl[i]? with
    | none => simp only [hx] at h; cases h
    | some x =>
      simp only [hx] at h
      cases hu : isUn x with
      | true => simp only [hu] at h; cases h
      | false =>
        simp only [hu] at h
        refine ⟨⟨x, rfl, hu⟩, ?_⟩
        have : wp (bnd fa fun xs => mLend F i (xs ++ dd.map SV.d)) sl QS := ⟨r, s, by simpa using h, q⟩
        rw [wp_bnd, key2] at this
        exact this
  · rintro ⟨⟨x, hx, hu⟩, h⟩
    rw [← key2, ← wp_bnd] at h
    obtain ⟨r, s, h, q⟩ := h
    refine ⟨r, s, ?_, q⟩
    simp only [hx, hu]
    simpa using h
/-! builtins -/
theorem wp_B (g : List D → Option SV) (fa : M (List SV)) : wp (mB g fa) sl QS ↔ wp fa sl (onOk (fun xs s => SV.fulls xs = true ∧ wp (lift (g (SV.toDs xs))) s QS) fun c x s => QS (.ex c x) s) := by
  unfold mB
  rw [wp_bnd]
  have : (fun (a : List SV) s => wp (if SV.fulls a = true then lift (g (SV.toDs a)) else fail) s QS) = fun xs s => SV.fulls xs = true ∧ wp (lift (g (SV.toDs xs))) s QS := by
    funext x s
    by_cases h : SV.fulls x = true
    · rw [if_pos h]; simp [h]
    · rw [if_neg h]; simp [h, wp_fail]
  rw [this]
theorem wp_unO (g : SV → Option SV) (fa : M SV) : wp (mUnO g fa) sl QS ↔ wp (bnd fa fun x => lift (g x)) sl QS := Iff.rfl
theorem wp_pure (g : M SV) : wp (mPure g) sl QS ↔ wp g (sl.map frz1) (onOk (fun r _ => scal r = true ∧ QS (.ok r) sl) fun _ _ _ => False) := by
  unfold wp mPure
  cases h : g (sl.map frz1) with
  | none => simp
  | some p =>
    obtain ⟨r, s'⟩ := p
    cases r with
    | ok r =>
      by_cases hs : scal r = true
      · simp [hs, onOk]
      · simp [hs, onOk]
    | ex c x => simp [onOk]
theorem wp_pureT (g : M Bool) : wp (mPureT g) sl QB ↔ wp g (sl.map frz1) (onOk (fun r _ => QB (.ok r) sl) fun _ _ _ => False) := by
  unfold wp mPureT
  cases h : g (sl.map frz1) with
  | none => simp
  | some p =>
    obtain ⟨r, s'⟩ := p
    cases r <;> simp [onOk]
/-! statements -/
def onCtl (N : List SV → Prop) (Q : Res Ctl → List SV → Prop) : Res Ctl → List SV → Prop
  | .ok .nx, s => N s
  | r, s => Q r s
theorem onCtl_nx (N : List SV → Prop) (Q : Res Ctl → List SV → Prop) (s : List SV) : onCtl N Q (.ok .nx) s = N s := rfl
theorem onCtl_bk (N : List SV → Prop) (Q : Res Ctl → List SV → Prop) (s : List SV) : onCtl N Q (.ok .bk) s = Q (.ok .bk) s := rfl
theorem onCtl_ct (N : List SV → Prop) (Q : Res Ctl → List SV → Prop) (s : List SV) : onCtl N Q (.ok .ct) s = Q (.ok .ct) s := rfl
theorem onCtl_rt (N : List SV → Prop) (Q : Res Ctl → List SV → Prop) (x : SV) (s : List SV) : onCtl N Q (.ok (.rt x)) s = Q (.ok (.rt x)) s := rfl
theorem onCtl_ex (N : List SV → Prop) (Q : Res Ctl → List SV → Prop) (c : Str) (x : D) (s : List SV) : onCtl N Q (.ex c x) s = Q (.ex c x) s := rfl
theorem wp_seq (G1 G2 : M Ctl) : wp (mSeq G1 G2) sl QC ↔ wp G1 sl (onCtl (fun s => wp G2 s QC) QC) := by
  unfold mSeq
  rw [wp_bnd]
  refine Iff.of_eq (congrArg _ ?_)
  funext r s
  cases r with
  | ex c x => rfl
  | ok c => cases c <;> simp only [onOk, onCtl, wp_ret]
theorem wp_fgt (is : List Nat) (G : M Ctl) : wp (mFgt is G) sl QC ↔ wp G sl (onOk (fun c s => QC (.ok c) (fgt is s)) fun c x s => QC (.ex c x) s) := by
  unfold wp mFgt
  cases h : G sl with
  | none => simp
  | some p => obtain ⟨r, s'⟩ := p; cases r <;> simp [onOk]
theorem wp_expr (f : M SV) : wp (mExpr f) sl QC ↔ wp f sl (onOk (fun _ s => QC (.ok .nx) s) fun c x s => QC (.ex c x) s) := by
  unfold mExpr
  simp only [wp_bnd, wp_ret]
theorem wp_mret (f : M SV) : wp (mRet f) sl QC ↔ wp f sl (onOk (fun x s => QC (.ok (.rt x)) s) fun c x s => QC (.ex c x) s) := by
  unfold mRet
  simp only [wp_bnd, wp_ret]
theorem wp_set (i : Nat) (x : SV) : wp (gSet i x) sl QU ↔ i < sl.length ∧ QU (.ok ()) (sl.set i x) := by
  unfold wp gSet
  by_cases h : i < sl.length <;> simp [h]
theorem wp_gsNil : wp (gsNil []) sl QU ↔ QU (.ok ()) sl := wp_of_eq rfl
theorem wp_gsCons (T : SV → M Unit) (Ts : List SV → M Unit) (x : SV) (r : List SV) : wp (gsCons T Ts (x :: r)) sl QU ↔ wp (T x) sl (onOk (fun _ s => wp (Ts r) s QU) fun c x s => QU (.ex c x) s) := by
  unfold gsCons
  simp only [wp_bnd]
theorem wp_gTupT (n : Nat) (Ts : List SV → M Unit) (ds : List D) : wp (gTupD n Ts (.d (.tuple ds))) sl QU ↔ ds.length = n ∧ wp (Ts (ds.map SV.d)) sl QU := by
  unfold gTupD
  by_cases h : ds.length = n <;> simp [h, wp_fail]
theorem wp_gTupO (n : Nat) (Ts : List SV → M Unit) (ds : List SV) : wp (gTupD n Ts (.tup ds)) sl QU ↔ ds.length = n ∧ wp (Ts ds) sl QU := by
  unfold gTupD
  by_cases h : ds.length = n <;> simp [h, wp_fail]
theorem wp_asg (f : M SV) (T : SV → M Unit) : wp (mAsg f T) sl QC ↔ wp f sl (onOk (fun x s => wp (T x) s (onOk (fun _ s => QC (.ok .nx) s) fun _ _ _ => False)) fun c x s => QC (.ex c x) s) := by
  unfold wp mAsg bnd
  cases h : f sl with
  | none => simp
  | some p =>
    obtain ⟨r, s'⟩ := p
    cases r with
    | ex c x => simp [onOk]
    | ok x =>
      dsimp only
      cases h2 : T x s' with
      | none => simp [onOk, h2]
      | some p => obtain ⟨r, s2⟩ := p; cases r <;> simp [onOk, h2]
theorem wp_frz (is : List Nat) (G : M Ctl) : wp (mFrz is G) sl QC ↔ wp G sl (onCtl (fun s => QC (.ok .nx) (frzs is s)) QC) := by
  unfold wp mFrz
  cases h : G sl with
  | none => simp
  | some p =>
    obtain ⟨r, s'⟩ := p
    cases r with
    | ex c x => simp [onCtl]
    | ok c => cases c <;> simp [onCtl]
theorem wp_par2 (i j : Nat) (fa : M (List SV)) : wp (mPar [i, j] fa) sl QC ↔ wp fa sl (onOk (fun xs s => ∃ x y, xs = [x, y] ∧ i < s.length ∧ j < s.length ∧ QC (.ok .nx) ((s.set i x).set j y)) fun c x s => QC (.ex c x) s) := by
  unfold mPar
  rw [wp_bnd]
  refine Iff.of_eq (congrArg _ ?_)
  funext r s
  cases r with
  | ex c x => rfl
  | ok xs =>
    simp only [onOk]
    match xs with
    | [] => simp [wp_fail]
    | [x] => simp [wp_fail]
    | [x, y] =>
      by_cases h : i < s.length ∧ j < s.length
      · simp [wp, h]
      · simp only [wp]
        rw [if_neg h]
        apply propext
        constructor
        · rintro ⟨_, _, h, _⟩; cases h
        · rintro ⟨x', y', e, h1, h2, q⟩; exact absurd ⟨h1, h2⟩ h
    | x :: y :: z :: r => simp [wp_fail]
theorem wp_par3 (i j l : Nat) (fa : M (List SV)) : wp (mPar [i, j, l] fa) sl QC ↔ wp fa sl (onOk (fun xs s => ∃ x y z, xs = [x, y, z] ∧ (i < s.length ∧ j < s.length ∧ l < s.length) ∧ QC (.ok .nx) (((s.set i x).set j y).set l z)) fun c x s => QC (.ex c x) s) := by
  unfold mPar
  rw [wp_bnd]
  refine Iff.of_eq (congrArg _ ?_)
  funext r s
  cases r with
  | ex c x => rfl
  | ok xs =>
    simp only [onOk]
    match xs with
    | [] => simp [wp_fail]
    | [x] => simp [wp_fail]
    | [x, y] => simp [wp_fail]
    | [x, y, z] =>
      by_cases h : i < s.length ∧ j < s.length ∧ l < s.length
      · simp only [wp, if_pos h, Option.some.injEq, Prod.mk.injEq, ex2]
        apply propext
        constructor
        · intro q; exact ⟨x, y, z, rfl, h, q⟩
        · rintro ⟨_, _, _, e, _, q⟩; cases e; exact q
      · simp only [wp]
        rw [if_neg h]
        apply propext
        constructor
        · rintro ⟨_, _, h, _⟩; cases h
        · rintro ⟨x', y', z', e, h1, q⟩; exact absurd h1 h
    | x :: y :: z :: w :: r => simp [wp_fail]
/-! what is walked -/
theorem wp_it (f : M SV) : wp (mIt f) sl QD ↔ wp (bndD f fun d => lift (itemsOf d)) sl QD := Iff.rfl
theorem wp_range (f : M (List SV)) : wp (mRange f) sl QD ↔ wp (bnd f fun xs => lift (rangeD xs)) sl QD := Iff.rfl
theorem wp_range2 (f : M (List SV)) : wp (mRange2 f) sl QD ↔ wp (bnd f fun xs => lift (rangeD2 xs)) sl QD := Iff.rfl
theorem wp_zip (f g : M SV) : wp (mZip f g) sl QD ↔ wp (bndD f fun d => bndD g fun d' => lift (zipOf d d')) sl QD := Iff.rfl
theorem wp_enum (f : M SV) : wp (mEnum f) sl QD ↔ wp (bndD f fun d => lift (match d with | .list ds => some (enumL ds) | _ => none)) sl QD := Iff.rfl
theorem wp_for (F : M (List D)) (T : SV → M Unit) (b : M Ctl) : wp (mFor F T b) sl QC ↔ wp F sl (onOk (fun ds s => wp (forL T b ds) s QC) fun c x s => QC (.ex c x) s) := by
  unfold mFor
  rw [wp_bnd]
/-! comprehensions -/
theorem wp_comp (N : Nat) (vs : List Nat) (F : M (List D)) (T : SV → M Unit) (t : M Bool) (f : M SV) : wp (mComp N vs F T t f) sl QS ↔ wp F sl (onOk (fun ds s => s.length = N ∧ wp (compL vs T t f ds []) (wipeS s vs) (onOk (fun xs s' => QS (.ok (.lst xs)) (unwipe s vs s')) fun _ _ _ => False)) fun c x s => QS (.ex c x) s) := by
  unfold mComp
  rw [wp_bnd]
  refine Iff.of_eq (congrArg _ ?_)
  funext r s
  cases r with
  | ex c x => rfl
  | ok ds =>
    simp only [onOk]
    apply propext
    unfold wp
    dsimp only
    by_cases h : s.length = N
    · rw [if_pos h]
      cases h2 : compL vs T t f ds [] (wipeS s vs) with
      | none => simp
      | some p => obtain ⟨r, s2⟩ := p; cases r <;> simp [onOk, h]
    · rw [if_neg h]; simp [h]
theorem wp_dcomp (N : Nat) (vs : List Nat) (F : M (List D)) (T : SV → M Unit) (t : M Bool) (fk f : M SV) : wp (mDComp N vs F T t fk f) sl QS ↔ wp F sl (onOk (fun ds s => s.length = N ∧ wp (compD vs T t fk f ds []) (wipeS s vs) (onOk (fun xs s' => QS (.ok (.dct xs)) (unwipe s vs s')) fun _ _ _ => False)) fun c x s => QS (.ex c x) s) := by
  unfold mDComp
  rw [wp_bnd]
  refine Iff.of_eq (congrArg _ ?_)
  funext r s
  cases r with
  | ex c x => rfl
  | ok ds =>
    simp only [onOk]
    apply propext
    unfold wp
    dsimp only
    by_cases h : s.length = N
    · rw [if_pos h]
      cases h2 : compD vs T t fk f ds [] (wipeS s vs) with
      | none => simp
      | some p => obtain ⟨r, s2⟩ := p; cases r <;> simp [onOk, h]
    · rw [if_neg h]; simp [h]
theorem wp_compK (N : Nat) (vs : List Nat) (i : Nat) (T : SV → M Unit) (t : M Bool) (f : M SV) : wp (mCompK N vs i T t f) sl QS ↔ ∃ x, sl[i]? = some x ∧ x.full = true ∧ ∃ kvs, x.toD = .dict kvs ∧ sl.length = N ∧
    wp (compL vs T t f (keysD kvs) []) (wipeS (sl.set i (.d (.dict kvs))) vs) (onOk (fun xs s' => QS (.ok (.lst xs)) (unwipe (sl.set i (.d (.dict kvs))) vs s')) fun _ _ _ => False) := by
  unfold wp mCompK
  cases h : sl[i]? with
  | none => simp
  | some x =>
    simp only [Option.some.injEq, exists_eq_left']
    by_cases hf : x.full = true
    · rw [if_pos hf]
      cases hd : x.toD with
      | dict kvs =>
        dsimp only
        by_cases h : sl.length = N
        · rw [if_pos h]
          cases h2 : compL vs T t f (keysD kvs) [] (wipeS (sl.set i (.d (.dict kvs))) vs) with
          | none => simp [h2]
          | some p => obtain ⟨r, s2⟩ := p; cases r <;> simp [onOk, h, hf, h2]
        · rw [if_neg h]; simp [h]
      | _ => simp
    · rw [if_neg hf]; simp [hf]
theorem wp_forK (i : Nat) (T : SV → M Unit) (b : M Ctl) : wp (mForK i T b) sl QC ↔ ∃ x, sl[i]? = some x ∧ x.full = true ∧ ∃ kvs, x.toD = .dict kvs ∧ wp (forL T b (keysD kvs)) (sl.set i (.d (.dict kvs))) (onOk (fun c s => QC (.ok c) s) fun _ _ _ => False) := by
  unfold wp mForK
  cases h : sl[i]? with
  | none => simp
  | some x =>
    simp only [Option.some.injEq, exists_eq_left']
    by_cases hf : x.full = true
    · rw [if_pos hf]
      cases hd : x.toD with
      | dict kvs =>
        simp only
        cases h2 : forL T b (keysD kvs) (sl.set i (.d (.dict kvs))) with
        | none => simp [h2]
        | some p => obtain ⟨r, s2⟩ := p; cases r <;> simp [onOk, hf, h2]
      | _ => simp
    · rw [if_neg hf]; simp [hf]
theorem wp_forO (f : M SV) (T : SV → M Unit) (b : M Ctl) (h : wp f sl (onOk (fun x s => ∃ xs, x = .lst xs ∧ wp (forO T b xs) s (onOk (fun c s => QC (.ok c) s) fun _ _ _ => False)) fun _ _ _ => False)) : wp (mForO f T b) sl QC := by
  obtain ⟨r, s, h1, h2⟩ := h
  cases r with
  | ex c x => exact h2.elim
  | ok x =>
    obtain ⟨xs, rfl, r2, s2, h3, h4⟩ := h2
    cases r2 with
    | ex c x => exact h4.elim
    | ok c =>
      refine ⟨.ok c, s2, ?_, h4⟩
      unfold mForO
      rw [h1]
      dsimp only
      rw [h3]
/-! slices, methods, items -/
theorem wp_slice (f : M SV) (lo hi : Option (M SV)) : wp (mSlice f lo hi) sl QS ↔ wp (bndD f fun x => mPart lo fun l => mPart hi fun h => lift (sliceD l h x)) sl QS := Iff.rfl
theorem wp_partN (k : Option Int → M SV) : wp (mPart none k) sl QS ↔ wp (k none) sl QS := Iff.rfl
theorem wp_partS (f : M SV) (k : Option Int → M SV) : wp (mPart (some f) k) sl QS ↔ wp f sl (onOk (fun x s => x.full = true ∧ ∃ i, x.toD = .int i ∧ wp (k (some i)) s QS) fun c x s => QS (.ex c x) s) := by
  unfold mPart
  simp only [wp_bndD]
  refine Iff.of_eq (congrArg _ ?_)
  funext r s
  cases r with
  | ex c x => rfl
  | ok x =>
    simp only [onOk]
    apply propext
    refine and_congr_right fun _ => ?_
    cases x.toD <;> simp [wp_fail]
theorem wp_meth (i : Nat) (op : MOp) (fa : M (List SV)) : wp (mMeth i op fa) sl QS ↔ (∃ x, sl[i]? = some x ∧ isLst x = true) ∧ wp fa sl (onOk (fun xs s => ∃ x, s[i]? = some x ∧ ∃ p, op x xs = some p ∧ QS (.ok p.1) (s.set i p.2)) fun c x s => QS (.ex c x) s) := by
  unfold mMeth
  constructor
  · rintro ⟨r, s, h, q⟩
    cases hx : sl[i]? with
    | none => simp only [hx] at h; cases h
    | some x =>
      simp only [hx] at h
      by_cases hu : isLst x = true
      · rw [if_pos hu] at h
        refine ⟨⟨x, rfl, hu⟩, ?_⟩
        have w : wp (bnd fa fun xs sl1 => match sl1[i]? with
          | some x => (match op x xs with
            | some (r, y) => some (.ok r, sl1.set i y)
            | none => none)
          | none => none) sl QS := ⟨r, s, h, q⟩
        rw [wp_bnd] at w
        refine wp_mono w fun r s h => ?_
        cases r with
        | ex c x => exact h
        | ok xs =>
          obtain ⟨r2, s2, h1, h2⟩ := h
          show ∃ x, s[i]? = some x ∧ ∃ p, op x xs = some p ∧ QS (.ok p.1) (s.set i p.2)
          dsimp only at h1
          cases hs : s[i]? with
          | none => rw [hs] at h1; cases h1
          | some y =>
            rw [hs] at h1
            dsimp only at h1
            cases ho : op y xs with
            | none => rw [ho] at h1; cases h1
            | some p =>
              rw [ho] at h1
              cases h1
              exact ⟨y, rfl, p, ho, h2⟩
      · rw [if_neg hu] at h; cases h
  · rintro ⟨⟨x, hx, hu⟩, h⟩
    have w : wp (bnd fa fun xs sl1 => match sl1[i]? with
          | some x => (match op x xs with
            | some (r, y) => some (.ok r, sl1.set i y)
            | none => none)
          | none => none) sl QS := by
      rw [wp_bnd]
      refine wp_mono h fun r s h => ?_
      cases r with
      | ex c x => exact h
      | ok xs =>
        obtain ⟨y, hs, p, ho, h2⟩ := h
        refine ⟨_, _, ?_, h2⟩
        dsimp only
        rw [hs]
        dsimp only
        rw [ho]
    obtain ⟨r, s, h1, h2⟩ := w
    refine ⟨r, s, ?_, h2⟩
    dsimp only
    rw [hx]
    dsimp only
    rw [if_pos hu]
    exact h1
theorem wp_setItem (i : Nat) (f g : M SV) : wp (mSetItem i f g) sl QC ↔ (∃ x, sl[i]? = some x ∧ isSeq x = true) ∧ wp f sl (onOk (fun x s => wp g s (onOk (fun k s2 => k.full = true ∧ ∃ y, s2[i]? = some y ∧ ∃ z, setO y k.toD x = some z ∧ QC (.ok .nx) (s2.set i z)) fun c x s => QC (.ex c x) s)) fun c x s => QC (.ex c x) s) := by
  unfold mSetItem
  have key : ∀ x, wp (bndD g fun k => fun sl2 => match sl2[i]? with
    | some y => (match setO y k x with
      | some z => some (Res.ok Ctl.nx, sl2.set i z)
      | none => none)
    | none => none) = fun s QC => wp g s (onOk (fun k s2 => k.full = true ∧ ∃ y, s2[i]? = some y ∧ ∃ z, setO y k.toD x = some z ∧ QC (.ok .nx) (s2.set i z)) fun c x s => QC (.ex c x) s) := by
    intro x
    funext s QC
    apply propext
    rw [wp_bndD]
    refine Iff.of_eq (congrArg _ ?_)
    funext r s
    cases r with
    | ex c x => rfl
    | ok k =>
      simp only [onOk]
      apply propext
      refine and_congr_right fun _ => ?_
      unfold wp
      cases hs : s[i]? with
      | none => simp [hs]
      | some y =>
        dsimp only
        cases ho : setO y k.toD x with
        | none => simp [ho, hs]
        | some z => simp [ho, hs]
  constructor
  · rintro ⟨r, s, h, q⟩
    cases hx : sl[i]? with
    | none => simp only [hx] at h; cases h
    | some x =>
      simp only [hx] at h
      by_cases hu : isSeq x = true
      · rw [if_pos hu] at h
        refine ⟨⟨x, rfl, hu⟩, ?_⟩
        have w := (wp_bnd (Q := QC) (sl := sl) f (fun x => bndD g fun k => fun sl2 => match sl2[i]? with
          | some y => (match setO y k x with
            | some z => some (Res.ok Ctl.nx, sl2.set i z)
            | none => none)
          | none => none)).mp ⟨r, s, h, q⟩
        simp only [key] at w
        exact w
      · rw [if_neg hu] at h; cases h
  · rintro ⟨⟨x, hx, hu⟩, h⟩
    have w := (wp_bnd (Q := QC) (sl := sl) f (fun x => bndD g fun k => fun sl2 => match sl2[i]? with
          | some y => (match setO y k x with
            | some z => some (Res.ok Ctl.nx, sl2.set i z)
            | none => none)
          | none => none)).mpr (by simp only [key]; exact h)
    obtain ⟨r, s, h1, h2⟩ := w
    refine ⟨r, s, ?_, h2⟩
    dsimp only
    rw [hx]
    dsimp only
    rw [if_pos hu]
    exact h1
theorem wp_get (fo fk fx : M SV) : wp (mGet fo fk fx) sl QS ↔ wp fo sl (onOk (fun o s => o.full = true ∧ ∃ kvs, o.toD = .dict kvs ∧ wp (bndD fk fun y => bndD fx fun z => lift ((dKey y).map fun k => .d ((lookK kvs k).getD z))) s QS) fun c x s => QS (.ex c x) s) := by
  unfold mGet
  rw [wp_bndD]
  refine Iff.of_eq (congrArg _ ?_)
  funext r s
  cases r with
  | ex c x => rfl
  | ok x =>
    simp only [onOk]
    apply propext
    refine and_congr_right fun _ => ?_
    cases x.toD <;> simp [wp_fail]
theorem wp_dictNew : wp mDictNew sl QS ↔ QS (.ok (.dct [])) sl := wp_of_eq rfl
theorem wp_chain (g g' : D → D → Option SV) (fa fb fc : M SV) : wp (mChain g g' fa fb fc) sl QS ↔ wp (bndD fa fun x => bndD fb fun y => bnd (lift ((g x y).bind boolSV)) fun b => if b = true then bndD fc fun z => lift (g' y z) else ret (.d (.bool false))) sl QS := Iff.rfl
/-! defs -/
theorem wp_fn (n N : Nat) (kp : List Nat) (G : M Ctl) : wp (fnM n N kp G) sl QS ↔ sl.length = n ∧ wp G (sl ++ List.replicate (N - n) .un) (onOk (fun c s => match c with
    | .rt r => QS (.ok r) (maskR kp 0 n s)
    | .nx => QS (.ok (.d .none)) (maskR kp 0 n s)
    | _ => False) fun c x s => QS (.ex c x) (maskR kp 0 n s)) := by
  unfold wp fnM
  by_cases h : sl.length = n
  · rw [if_pos h]
    cases h2 : G (sl ++ List.replicate (N - n) .un) with
    | none => simp
    | some p =>
      obtain ⟨r, s2⟩ := p
      cases r with
      | ex c x => simp [onOk, h]
      | ok c => cases c <;> simp [onOk, h]
  · rw [if_neg h]; simp [h]
end
end DD

set_option Elab.async false
set_option linter.all false
set_option maxRecDepth 100000
/-! DD26: the same with named ends, so that simp leaves what stands behind alone (written by mk26.py) -/
namespace DD
open PySem (PyData Str sizeLine)
def k_cons2 (a : SV) (Q : Res (List SV) → List SV → Prop) : Res (List SV) → List SV → Prop
  | .ok xs, s => Q (.ok (a :: xs)) s
  | .ex c x, s => Q (.ex c x) s
theorem k_cons2_ok (a : SV) (Q : Res (List SV) → List SV → Prop) (xs : List SV) (s : List SV) : k_cons2 a Q (.ok xs) s = Q (.ok (a :: xs)) s := rfl
theorem k_cons2_ex (a : SV) (Q : Res (List SV) → List SV → Prop) (c : Str) (x : D) (s : List SV) : k_cons2 a Q (.ex c x) s = Q (.ex c x) s := rfl
theorem onOk_cons2 (a : SV) (Q : Res (List SV) → List SV → Prop) : onOk (fun xs s => Q (.ok (a :: xs)) s) (fun c x s => Q (.ex c x) s) = k_cons2 a Q := funext fun r => funext fun s => by cases r <;> rfl
def k_bnd {α β : Type} (k : α → M β) (Q : Res β → List SV → Prop) : Res α → List SV → Prop
  | .ok a, s => wp (k a) s Q
  | .ex c x, s => Q (.ex c x) s
theorem k_bnd_ok {α β : Type} (k : α → M β) (Q : Res β → List SV → Prop) (a : α) (s : List SV) : k_bnd k Q (.ok a) s = (wp (k a) s Q) := rfl
theorem k_bnd_ex {α β : Type} (k : α → M β) (Q : Res β → List SV → Prop) (c : Str) (x : D) (s : List SV) : k_bnd k Q (.ex c x) s = (Q (.ex c x) s) := rfl
theorem wk_bnd {sl : List SV} {α β : Type} (k : α → M β) (Q : Res β → List SV → Prop) (f : M α) : wp (bnd f k) sl Q ↔ wp f sl (k_bnd k Q) := by
  rw [wp_bnd]
  exact Iff.of_eq (congrArg (wp f sl) (funext fun r => funext fun s => by cases r <;> first | rfl | simp only [onOk, onOk_cons2, k_bnd]))
def k_bndD {β : Type} (k : D → M β) (Q : Res β → List SV → Prop) : Res SV → List SV → Prop
  | .ok a, s => a.full = true ∧ wp (k a.toD) s Q
  | .ex c x, s => Q (.ex c x) s
theorem k_bndD_ok {β : Type} (k : D → M β) (Q : Res β → List SV → Prop) (a : SV) (s : List SV) : k_bndD k Q (.ok a) s = (a.full = true ∧ wp (k a.toD) s Q) := rfl
theorem k_bndD_ex {β : Type} (k : D → M β) (Q : Res β → List SV → Prop) (c : Str) (x : D) (s : List SV) : k_bndD k Q (.ex c x) s = (Q (.ex c x) s) := rfl
theorem wk_bndD {sl : List SV} {β : Type} (k : D → M β) (Q : Res β → List SV → Prop) (f : M SV) : wp (bndD f k) sl Q ↔ wp f sl (k_bndD k Q) := by
  rw [wp_bndD]
  exact Iff.of_eq (congrArg (wp f sl) (funext fun r => funext fun s => by cases r <;> first | rfl | simp only [onOk, onOk_cons2, k_bndD]))
def k_and (g : M Bool) (Q : Res Bool → List SV → Prop) : Res Bool → List SV → Prop
  | .ok b, s => if b = true then wp g s Q else Q (.ok false) s
  | .ex c x, s => Q (.ex c x) s
theorem k_and_ok (g : M Bool) (Q : Res Bool → List SV → Prop) (b : Bool) (s : List SV) : k_and g Q (.ok b) s = (if b = true then wp g s Q else Q (.ok false) s) := rfl
theorem k_and_ex (g : M Bool) (Q : Res Bool → List SV → Prop) (c : Str) (x : D) (s : List SV) : k_and g Q (.ex c x) s = (Q (.ex c x) s) := rfl
theorem wk_and {sl : List SV} (g : M Bool) (Q : Res Bool → List SV → Prop) (f : M Bool) : wp (mAnd f g) sl Q ↔ wp f sl (k_and g Q) := by
  rw [wp_and]
  exact Iff.of_eq (congrArg (wp f sl) (funext fun r => funext fun s => by cases r <;> first | rfl | simp only [onOk, onOk_cons2, k_and]))
def k_or (g : M Bool) (Q : Res Bool → List SV → Prop) : Res Bool → List SV → Prop
  | .ok b, s => if b = true then Q (.ok true) s else wp g s Q
  | .ex c x, s => Q (.ex c x) s
theorem k_or_ok (g : M Bool) (Q : Res Bool → List SV → Prop) (b : Bool) (s : List SV) : k_or g Q (.ok b) s = (if b = true then Q (.ok true) s else wp g s Q) := rfl
theorem k_or_ex (g : M Bool) (Q : Res Bool → List SV → Prop) (c : Str) (x : D) (s : List SV) : k_or g Q (.ex c x) s = (Q (.ex c x) s) := rfl
theorem wk_or {sl : List SV} (g : M Bool) (Q : Res Bool → List SV → Prop) (f : M Bool) : wp (mOr f g) sl Q ↔ wp f sl (k_or g Q) := by
  rw [wp_or]
  exact Iff.of_eq (congrArg (wp f sl) (funext fun r => funext fun s => by cases r <;> first | rfl | simp only [onOk, onOk_cons2, k_or]))
def k_andV (g : M SV) (Q : Res SV → List SV → Prop) : Res Bool → List SV → Prop
  | .ok b, s => if b = true then wp g s Q else Q (.ok (.d (.bool false))) s
  | .ex c x, s => Q (.ex c x) s
theorem k_andV_ok (g : M SV) (Q : Res SV → List SV → Prop) (b : Bool) (s : List SV) : k_andV g Q (.ok b) s = (if b = true then wp g s Q else Q (.ok (.d (.bool false))) s) := rfl
theorem k_andV_ex (g : M SV) (Q : Res SV → List SV → Prop) (c : Str) (x : D) (s : List SV) : k_andV g Q (.ex c x) s = (Q (.ex c x) s) := rfl
theorem wk_andV {sl : List SV} (g : M SV) (Q : Res SV → List SV → Prop) (f : M SV) : wp (mAndV f g) sl Q ↔ wp (mTest f) sl (k_andV g Q) := by
  rw [wp_andV]
  exact Iff.of_eq (congrArg (wp (mTest f) sl) (funext fun r => funext fun s => by cases r <;> first | rfl | simp only [onOk, onOk_cons2, k_andV]))
def k_orV (g : M SV) (Q : Res SV → List SV → Prop) : Res Bool → List SV → Prop
  | .ok b, s => if b = true then Q (.ok (.d (.bool true))) s else wp g s Q
  | .ex c x, s => Q (.ex c x) s
theorem k_orV_ok (g : M SV) (Q : Res SV → List SV → Prop) (b : Bool) (s : List SV) : k_orV g Q (.ok b) s = (if b = true then Q (.ok (.d (.bool true))) s else wp g s Q) := rfl
theorem k_orV_ex (g : M SV) (Q : Res SV → List SV → Prop) (c : Str) (x : D) (s : List SV) : k_orV g Q (.ex c x) s = (Q (.ex c x) s) := rfl
theorem wk_orV {sl : List SV} (g : M SV) (Q : Res SV → List SV → Prop) (f : M SV) : wp (mOrV f g) sl Q ↔ wp (mTest f) sl (k_orV g Q) := by
  rw [wp_orV]
  exact Iff.of_eq (congrArg (wp (mTest f) sl) (funext fun r => funext fun s => by cases r <;> first | rfl | simp only [onOk, onOk_cons2, k_orV]))
def k_notV (Q : Res SV → List SV → Prop) : Res Bool → List SV → Prop
  | .ok b, s => Q (.ok (.d (.bool (!b)))) s
  | .ex c x, s => Q (.ex c x) s
theorem k_notV_ok (Q : Res SV → List SV → Prop) (b : Bool) (s : List SV) : k_notV Q (.ok b) s = (Q (.ok (.d (.bool (!b)))) s) := rfl
theorem k_notV_ex (Q : Res SV → List SV → Prop) (c : Str) (x : D) (s : List SV) : k_notV Q (.ex c x) s = (Q (.ex c x) s) := rfl
theorem wk_notV {sl : List SV} (Q : Res SV → List SV → Prop) (f : M SV) : wp (mNotV f) sl Q ↔ wp (mTest f) sl (k_notV Q) := by
  rw [wp_notV]
  exact Iff.of_eq (congrArg (wp (mTest f) sl) (funext fun r => funext fun s => by cases r <;> first | rfl | simp only [onOk, onOk_cons2, k_notV]))
def k_if {β : Type} (g h : M β) (Q : Res β → List SV → Prop) : Res Bool → List SV → Prop
  | .ok b, s => if b = true then wp g s Q else wp h s Q
  | .ex c x, s => Q (.ex c x) s
theorem k_if_ok {β : Type} (g h : M β) (Q : Res β → List SV → Prop) (b : Bool) (s : List SV) : k_if g h Q (.ok b) s = (if b = true then wp g s Q else wp h s Q) := rfl
theorem k_if_ex {β : Type} (g h : M β) (Q : Res β → List SV → Prop) (c : Str) (x : D) (s : List SV) : k_if g h Q (.ex c x) s = (Q (.ex c x) s) := rfl
theorem wk_if {sl : List SV} {β : Type} (g h : M β) (Q : Res β → List SV → Prop) (f : M Bool) : wp (mIf f g h) sl Q ↔ wp f sl (k_if g h Q) := by
  rw [wp_if]
  exact Iff.of_eq (congrArg (wp f sl) (funext fun r => funext fun s => by cases r <;> first | rfl | simp only [onOk, onOk_cons2, k_if]))
def k_cons (g : M (List SV)) (Q : Res (List SV) → List SV → Prop) : Res SV → List SV → Prop
  | .ok a, s => wp g s (k_cons2 a Q)
  | .ex c x, s => Q (.ex c x) s
theorem k_cons_ok (g : M (List SV)) (Q : Res (List SV) → List SV → Prop) (a : SV) (s : List SV) : k_cons g Q (.ok a) s = (wp g s (k_cons2 a Q)) := rfl
theorem k_cons_ex (g : M (List SV)) (Q : Res (List SV) → List SV → Prop) (c : Str) (x : D) (s : List SV) : k_cons g Q (.ex c x) s = (Q (.ex c x) s) := rfl
theorem wk_cons {sl : List SV} (g : M (List SV)) (Q : Res (List SV) → List SV → Prop) (f : M SV) : wp (mCons f g) sl Q ↔ wp f sl (k_cons g Q) := by
  rw [wp_cons]
  exact Iff.of_eq (congrArg (wp f sl) (funext fun r => funext fun s => by cases r <;> first | rfl | simp only [onOk, onOk_cons2, k_cons]))
def k_call (F : M SV) (dd : List D) (Q : Res SV → List SV → Prop) : Res (List SV) → List SV → Prop
  | .ok xs, s => wp F (xs ++ dd.map SV.d) (fun r _ => Q r s)
  | .ex c x, s => Q (.ex c x) s
theorem k_call_ok (F : M SV) (dd : List D) (Q : Res SV → List SV → Prop) (xs : (List SV)) (s : List SV) : k_call F dd Q (.ok xs) s = (wp F (xs ++ dd.map SV.d) (fun r _ => Q r s)) := rfl
theorem k_call_ex (F : M SV) (dd : List D) (Q : Res SV → List SV → Prop) (c : Str) (x : D) (s : List SV) : k_call F dd Q (.ex c x) s = (Q (.ex c x) s) := rfl
theorem wk_call {sl : List SV} (F : M SV) (dd : List D) (Q : Res SV → List SV → Prop) (f : M (List SV)) : wp (mCall F dd f) sl Q ↔ wp f sl (k_call F dd Q) := by
  rw [wp_call]
  exact Iff.of_eq (congrArg (wp f sl) (funext fun r => funext fun s => by cases r <;> first | rfl | simp only [onOk, onOk_cons2, k_call]))
def k_callN (F : M SV) (g : List SV → List SV) (Q : Res SV → List SV → Prop) : Res (List SV) → List SV → Prop
  | .ok xs, s => wp F (g xs) (fun r _ => Q r s)
  | .ex c x, s => Q (.ex c x) s
theorem k_callN_ok (F : M SV) (g : List SV → List SV) (Q : Res SV → List SV → Prop) (xs : (List SV)) (s : List SV) : k_callN F g Q (.ok xs) s = (wp F (g xs) (fun r _ => Q r s)) := rfl
theorem k_callN_ex (F : M SV) (g : List SV → List SV) (Q : Res SV → List SV → Prop) (c : Str) (x : D) (s : List SV) : k_callN F g Q (.ex c x) s = (Q (.ex c x) s) := rfl
theorem wk_callN {sl : List SV} (F : M SV) (g : List SV → List SV) (Q : Res SV → List SV → Prop) (f : M (List SV)) : wp (mCallN F g f) sl Q ↔ wp f sl (k_callN F g Q) := by
  rw [wp_callN]
  exact Iff.of_eq (congrArg (wp f sl) (funext fun r => funext fun s => by cases r <;> first | rfl | simp only [onOk, onOk_cons2, k_callN]))
def k_callP (F : M SV) (dd : List D) (i : Nat) (Q : Res SV → List SV → Prop) : Res (List SV) → List SV → Prop
  | .ok xs, s => ∃ x, s[i]? = some x ∧ wp F (x :: (xs ++ dd.map SV.d)) (fun r a => hd1 a fun y => Q r (s.set i y))
  | .ex c x, s => Q (.ex c x) s
theorem k_callP_ok (F : M SV) (dd : List D) (i : Nat) (Q : Res SV → List SV → Prop) (xs : (List SV)) (s : List SV) : k_callP F dd i Q (.ok xs) s = (∃ x, s[i]? = some x ∧ wp F (x :: (xs ++ dd.map SV.d)) (fun r a => hd1 a fun y => Q r (s.set i y))) := rfl
theorem k_callP_ex (F : M SV) (dd : List D) (i : Nat) (Q : Res SV → List SV → Prop) (c : Str) (x : D) (s : List SV) : k_callP F dd i Q (.ex c x) s = (Q (.ex c x) s) := rfl
theorem wk_callP {sl : List SV} (F : M SV) (dd : List D) (i : Nat) (Q : Res SV → List SV → Prop) (f : M (List SV)) : wp (mCallP F dd i f) sl Q ↔ (∃ x, sl[i]? = some x ∧ isUn x = false) ∧ wp f sl (k_callP F dd i Q) := by
  rw [wp_callP]
  have : onOk (fun (xs : List SV) s => ∃ x, s[i]? = some x ∧ wp F (x :: (xs ++ dd.map SV.d)) fun r a => hd1 a fun y => Q r (s.set i y)) (fun c x s => Q (.ex c x) s) = k_callP F dd i Q := funext fun r => funext fun s => by cases r <;> rfl
  rw [this]
def k_B (g : List D → Option SV) (Q : Res SV → List SV → Prop) : Res (List SV) → List SV → Prop
  | .ok xs, s => SV.fulls xs = true ∧ wp (lift (g (SV.toDs xs))) s Q
  | .ex c x, s => Q (.ex c x) s
theorem k_B_ok (g : List D → Option SV) (Q : Res SV → List SV → Prop) (xs : (List SV)) (s : List SV) : k_B g Q (.ok xs) s = (SV.fulls xs = true ∧ wp (lift (g (SV.toDs xs))) s Q) := rfl
theorem k_B_ex (g : List D → Option SV) (Q : Res SV → List SV → Prop) (c : Str) (x : D) (s : List SV) : k_B g Q (.ex c x) s = (Q (.ex c x) s) := rfl
theorem wk_B {sl : List SV} (g : List D → Option SV) (Q : Res SV → List SV → Prop) (f : M (List SV)) : wp (mB g f) sl Q ↔ wp f sl (k_B g Q) := by
  rw [wp_B]
  exact Iff.of_eq (congrArg (wp f sl) (funext fun r => funext fun s => by cases r <;> first | rfl | simp only [onOk, onOk_cons2, k_B]))
def k_fgt (is : List Nat) (Q : Res Ctl → List SV → Prop) : Res Ctl → List SV → Prop
  | .ok a, s => Q (.ok a) (fgt is s)
  | .ex c x, s => Q (.ex c x) s
theorem k_fgt_ok (is : List Nat) (Q : Res Ctl → List SV → Prop) (a : Ctl) (s : List SV) : k_fgt is Q (.ok a) s = (Q (.ok a) (fgt is s)) := rfl
theorem k_fgt_ex (is : List Nat) (Q : Res Ctl → List SV → Prop) (c : Str) (x : D) (s : List SV) : k_fgt is Q (.ex c x) s = (Q (.ex c x) s) := rfl
theorem wk_fgt {sl : List SV} (is : List Nat) (Q : Res Ctl → List SV → Prop) (f : M Ctl) : wp (mFgt is f) sl Q ↔ wp f sl (k_fgt is Q) := by
  rw [wp_fgt]
  exact Iff.of_eq (congrArg (wp f sl) (funext fun r => funext fun s => by cases r <;> first | rfl | simp only [onOk, onOk_cons2, k_fgt]))
def k_expr (Q : Res Ctl → List SV → Prop) : Res SV → List SV → Prop
  | .ok a, s => Q (.ok .nx) s
  | .ex c x, s => Q (.ex c x) s
theorem k_expr_ok (Q : Res Ctl → List SV → Prop) (a : SV) (s : List SV) : k_expr Q (.ok a) s = (Q (.ok .nx) s) := rfl
theorem k_expr_ex (Q : Res Ctl → List SV → Prop) (c : Str) (x : D) (s : List SV) : k_expr Q (.ex c x) s = (Q (.ex c x) s) := rfl
theorem wk_expr {sl : List SV} (Q : Res Ctl → List SV → Prop) (f : M SV) : wp (mExpr f) sl Q ↔ wp f sl (k_expr Q) := by
  rw [wp_expr]
  exact Iff.of_eq (congrArg (wp f sl) (funext fun r => funext fun s => by cases r <;> first | rfl | simp only [onOk, onOk_cons2, k_expr]))
def k_mret (Q : Res Ctl → List SV → Prop) : Res SV → List SV → Prop
  | .ok a, s => Q (.ok (.rt a)) s
  | .ex c x, s => Q (.ex c x) s
theorem k_mret_ok (Q : Res Ctl → List SV → Prop) (a : SV) (s : List SV) : k_mret Q (.ok a) s = (Q (.ok (.rt a)) s) := rfl
theorem k_mret_ex (Q : Res Ctl → List SV → Prop) (c : Str) (x : D) (s : List SV) : k_mret Q (.ex c x) s = (Q (.ex c x) s) := rfl
theorem wk_mret {sl : List SV} (Q : Res Ctl → List SV → Prop) (f : M SV) : wp (mRet f) sl Q ↔ wp f sl (k_mret Q) := by
  rw [wp_mret]
  exact Iff.of_eq (congrArg (wp f sl) (funext fun r => funext fun s => by cases r <;> first | rfl | simp only [onOk, onOk_cons2, k_mret]))
def k_for (T : SV → M Unit) (b : M Ctl) (Q : Res Ctl → List SV → Prop) : Res (List D) → List SV → Prop
  | .ok ds, s => wp (forL T b ds) s Q
  | .ex c x, s => Q (.ex c x) s
theorem k_for_ok (T : SV → M Unit) (b : M Ctl) (Q : Res Ctl → List SV → Prop) (ds : (List D)) (s : List SV) : k_for T b Q (.ok ds) s = (wp (forL T b ds) s Q) := rfl
theorem k_for_ex (T : SV → M Unit) (b : M Ctl) (Q : Res Ctl → List SV → Prop) (c : Str) (x : D) (s : List SV) : k_for T b Q (.ex c x) s = (Q (.ex c x) s) := rfl
theorem wk_for {sl : List SV} (T : SV → M Unit) (b : M Ctl) (Q : Res Ctl → List SV → Prop) (f : M (List D)) : wp (mFor f T b) sl Q ↔ wp f sl (k_for T b Q) := by
  rw [wp_for]
  exact Iff.of_eq (congrArg (wp f sl) (funext fun r => funext fun s => by cases r <;> first | rfl | simp only [onOk, onOk_cons2, k_for]))
def k_get (g h : M SV) (Q : Res SV → List SV → Prop) : Res SV → List SV → Prop
  | .ok o, s => o.full = true ∧ ∃ kvs, o.toD = .dict kvs ∧ wp (bndD g fun y => bndD h fun z => lift ((dKey y).map fun k => .d ((lookK kvs k).getD z))) s Q
  | .ex c x, s => Q (.ex c x) s
theorem k_get_ok (g h : M SV) (Q : Res SV → List SV → Prop) (o : SV) (s : List SV) : k_get g h Q (.ok o) s = (o.full = true ∧ ∃ kvs, o.toD = .dict kvs ∧ wp (bndD g fun y => bndD h fun z => lift ((dKey y).map fun k => .d ((lookK kvs k).getD z))) s Q) := rfl
theorem k_get_ex (g h : M SV) (Q : Res SV → List SV → Prop) (c : Str) (x : D) (s : List SV) : k_get g h Q (.ex c x) s = (Q (.ex c x) s) := rfl
theorem wk_get {sl : List SV} (g h : M SV) (Q : Res SV → List SV → Prop) (f : M SV) : wp (mGet f g h) sl Q ↔ wp f sl (k_get g h Q) := by
  rw [wp_get]
  exact Iff.of_eq (congrArg (wp f sl) (funext fun r => funext fun s => by cases r <;> first | rfl | simp only [onOk, onOk_cons2, k_get]))
/-! statements -/
def k_seq (G : M Ctl) (Q : Res Ctl → List SV → Prop) : Res Ctl → List SV → Prop
  | .ok .nx, s => wp G s Q
  | r, s => Q r s
theorem k_seq_nx (G : M Ctl) (Q : Res Ctl → List SV → Prop) (s : List SV) : k_seq G Q (.ok .nx) s = wp G s Q := rfl
theorem k_seq_bk (G : M Ctl) (Q : Res Ctl → List SV → Prop) (s : List SV) : k_seq G Q (.ok .bk) s = Q (.ok .bk) s := rfl
theorem k_seq_ct (G : M Ctl) (Q : Res Ctl → List SV → Prop) (s : List SV) : k_seq G Q (.ok .ct) s = Q (.ok .ct) s := rfl
theorem k_seq_rt (G : M Ctl) (Q : Res Ctl → List SV → Prop) (x : SV) (s : List SV) : k_seq G Q (.ok (.rt x)) s = Q (.ok (.rt x)) s := rfl
theorem k_seq_ex (G : M Ctl) (Q : Res Ctl → List SV → Prop) (c : Str) (x : D) (s : List SV) : k_seq G Q (.ex c x) s = Q (.ex c x) s := rfl
theorem wk_seq {sl : List SV} (G1 G2 : M Ctl) (Q : Res Ctl → List SV → Prop) : wp (mSeq G1 G2) sl Q ↔ wp G1 sl (k_seq G2 Q) := by
  rw [wp_seq]
  refine Iff.of_eq (congrArg (wp G1 sl) (funext fun r => funext fun s => ?_))
  cases r with
  | ex c x => rfl
  | ok c => cases c <;> rfl
def k_frz (is : List Nat) (Q : Res Ctl → List SV → Prop) : Res Ctl → List SV → Prop
  | .ok .nx, s => Q (.ok .nx) (frzs is s)
  | r, s => Q r s
theorem k_frz_nx (is : List Nat) (Q : Res Ctl → List SV → Prop) (s : List SV) : k_frz is Q (.ok .nx) s = Q (.ok .nx) (frzs is s) := rfl
theorem k_frz_bk (is : List Nat) (Q : Res Ctl → List SV → Prop) (s : List SV) : k_frz is Q (.ok .bk) s = Q (.ok .bk) s := rfl
theorem k_frz_ct (is : List Nat) (Q : Res Ctl → List SV → Prop) (s : List SV) : k_frz is Q (.ok .ct) s = Q (.ok .ct) s := rfl
theorem k_frz_rt (is : List Nat) (Q : Res Ctl → List SV → Prop) (x : SV) (s : List SV) : k_frz is Q (.ok (.rt x)) s = Q (.ok (.rt x)) s := rfl
theorem k_frz_ex (is : List Nat) (Q : Res Ctl → List SV → Prop) (c : Str) (x : D) (s : List SV) : k_frz is Q (.ex c x) s = Q (.ex c x) s := rfl
theorem wk_frz {sl : List SV} (is : List Nat) (G : M Ctl) (Q : Res Ctl → List SV → Prop) : wp (mFrz is G) sl Q ↔ wp G sl (k_frz is Q) := by
  rw [wp_frz]
  refine Iff.of_eq (congrArg (wp G sl) (funext fun r => funext fun s => ?_))
  cases r with
  | ex c x => rfl
  | ok c => cases c <;> rfl
def k_asg2 (Q : Res Ctl → List SV → Prop) : Res Unit → List SV → Prop
  | .ok _, s => Q (.ok .nx) s
  | .ex _ _, _ => False
theorem k_asg2_ok (Q : Res Ctl → List SV → Prop) (u : Unit) (s : List SV) : k_asg2 Q (.ok u) s = Q (.ok .nx) s := rfl
def k_asg (T : SV → M Unit) (Q : Res Ctl → List SV → Prop) : Res SV → List SV → Prop
  | .ok a, s => wp (T a) s (k_asg2 Q)
  | .ex c x, s => Q (.ex c x) s
theorem k_asg_ok (T : SV → M Unit) (Q : Res Ctl → List SV → Prop) (a : SV) (s : List SV) : k_asg T Q (.ok a) s = wp (T a) s (k_asg2 Q) := rfl
theorem k_asg_ex (T : SV → M Unit) (Q : Res Ctl → List SV → Prop) (c : Str) (x : D) (s : List SV) : k_asg T Q (.ex c x) s = Q (.ex c x) s := rfl
theorem wk_asg {sl : List SV} (f : M SV) (T : SV → M Unit) (Q : Res Ctl → List SV → Prop) : wp (mAsg f T) sl Q ↔ wp f sl (k_asg T Q) := by
  rw [wp_asg]
  refine Iff.of_eq (congrArg (wp f sl) (funext fun r => funext fun s => ?_))
  cases r with
  | ex c x => rfl
  | ok a =>
    show wp (T a) s _ = wp (T a) s _
    refine congrArg (wp (T a) s) (funext fun r => funext fun s => ?_)
    cases r <;> rfl
def k_set (Q : Res Unit → List SV → Prop) (i : Nat) (x : SV) (s : List SV) : Prop := i < s.length ∧ Q (.ok ()) (s.set i x)
def k_gs (Ts : List SV → M Unit) (r : List SV) (Q : Res Unit → List SV → Prop) : Res Unit → List SV → Prop
  | .ok _, s => wp (Ts r) s Q
  | .ex c x, s => Q (.ex c x) s
theorem k_gs_ok (Ts : List SV → M Unit) (r : List SV) (Q : Res Unit → List SV → Prop) (u : Unit) (s : List SV) : k_gs Ts r Q (.ok u) s = wp (Ts r) s Q := rfl
theorem wk_gsCons {sl : List SV} (T : SV → M Unit) (Ts : List SV → M Unit) (x : SV) (r : List SV) (Q : Res Unit → List SV → Prop) : wp (gsCons T Ts (x :: r)) sl Q ↔ wp (T x) sl (k_gs Ts r Q) := by
  rw [wp_gsCons]
  refine Iff.of_eq (congrArg (wp (T x) sl) (funext fun r => funext fun s => ?_))
  cases r <;> rfl
def k_pure (sl : List SV) (Q : Res SV → List SV → Prop) : Res SV → List SV → Prop
  | .ok a, _ => scal a = true ∧ Q (.ok a) sl
  | .ex _ _, _ => False
theorem k_pure_ok (sl : List SV) (Q : Res SV → List SV → Prop) (a : SV) (s : List SV) : k_pure sl Q (.ok a) s = (scal a = true ∧ Q (.ok a) sl) := rfl
theorem wk_pure {sl : List SV} (g : M SV) (Q : Res SV → List SV → Prop) : wp (mPure g) sl Q ↔ wp g (sl.map frz1) (k_pure sl Q) := by
  rw [wp_pure]
  refine Iff.of_eq (congrArg (wp g (sl.map frz1)) (funext fun r => funext fun s => ?_))
  cases r <;> rfl
def k_pureT (sl : List SV) (Q : Res Bool → List SV → Prop) : Res Bool → List SV → Prop
  | .ok a, _ => Q (.ok a) sl
  | .ex _ _, _ => False
theorem k_pureT_ok (sl : List SV) (Q : Res Bool → List SV → Prop) (a : Bool) (s : List SV) : k_pureT sl Q (.ok a) s = Q (.ok a) sl := rfl
theorem wk_pureT {sl : List SV} (g : M Bool) (Q : Res Bool → List SV → Prop) : wp (mPureT g) sl Q ↔ wp g (sl.map frz1) (k_pureT sl Q) := by
  rw [wp_pureT]
  refine Iff.of_eq (congrArg (wp g (sl.map frz1)) (funext fun r => funext fun s => ?_))
  cases r <;> rfl
def k_comp2 (vs : List Nat) (s0 : List SV) (Q : Res SV → List SV → Prop) : Res (List SV) → List SV → Prop
  | .ok xs, s => Q (.ok (.lst xs)) (unwipe s0 vs s)
  | .ex _ _, _ => False
theorem k_comp2_ok (vs : List Nat) (s0 : List SV) (Q : Res SV → List SV → Prop) (xs : List SV) (s : List SV) : k_comp2 vs s0 Q (.ok xs) s = Q (.ok (.lst xs)) (unwipe s0 vs s) := rfl
def k_comp (N : Nat) (vs : List Nat) (T : SV → M Unit) (t : M Bool) (f : M SV) (Q : Res SV → List SV → Prop) : Res (List D) → List SV → Prop
  | .ok ds, s => s.length = N ∧ wp (compL vs T t f ds []) (wipeS s vs) (k_comp2 vs s Q)
  | .ex c x, s => Q (.ex c x) s
theorem k_comp_ok (N : Nat) (vs : List Nat) (T : SV → M Unit) (t : M Bool) (f : M SV) (Q : Res SV → List SV → Prop) (ds : List D) (s : List SV) : k_comp N vs T t f Q (.ok ds) s = (s.length = N ∧ wp (compL vs T t f ds []) (wipeS s vs) (k_comp2 vs s Q)) := rfl
theorem k_comp_ex (N : Nat) (vs : List Nat) (T : SV → M Unit) (t : M Bool) (f : M SV) (Q : Res SV → List SV → Prop) (c : Str) (x : D) (s : List SV) : k_comp N vs T t f Q (.ex c x) s = Q (.ex c x) s := rfl
theorem wk_comp {sl : List SV} (N : Nat) (vs : List Nat) (F : M (List D)) (T : SV → M Unit) (t : M Bool) (f : M SV) (Q : Res SV → List SV → Prop) : wp (mComp N vs F T t f) sl Q ↔ wp F sl (k_comp N vs T t f Q) := by
  rw [wp_comp]
  refine Iff.of_eq (congrArg (wp F sl) (funext fun r => funext fun s => ?_))
  cases r with
  | ex c x => rfl
  | ok ds =>
    refine congrArg (fun z => s.length = N ∧ z) ?_
    refine congrArg (wp (compL vs T t f ds []) (wipeS s vs)) (funext fun r => funext fun s => ?_)
    cases r <;> rfl
def k_dcomp2 (vs : List Nat) (s0 : List SV) (Q : Res SV → List SV → Prop) : Res (List (L2.Key × SV)) → List SV → Prop
  | .ok xs, s => Q (.ok (.dct xs)) (unwipe s0 vs s)
  | .ex _ _, _ => False
theorem k_dcomp2_ok (vs : List Nat) (s0 : List SV) (Q : Res SV → List SV → Prop) (xs : List (L2.Key × SV)) (s : List SV) : k_dcomp2 vs s0 Q (.ok xs) s = Q (.ok (.dct xs)) (unwipe s0 vs s) := rfl
def k_dcomp (N : Nat) (vs : List Nat) (T : SV → M Unit) (t : M Bool) (fk f : M SV) (Q : Res SV → List SV → Prop) : Res (List D) → List SV → Prop
  | .ok ds, s => s.length = N ∧ wp (compD vs T t fk f ds []) (wipeS s vs) (k_dcomp2 vs s Q)
  | .ex c x, s => Q (.ex c x) s
theorem k_dcomp_ok (N : Nat) (vs : List Nat) (T : SV → M Unit) (t : M Bool) (fk f : M SV) (Q : Res SV → List SV → Prop) (ds : List D) (s : List SV) : k_dcomp N vs T t fk f Q (.ok ds) s = (s.length = N ∧ wp (compD vs T t fk f ds []) (wipeS s vs) (k_dcomp2 vs s Q)) := rfl
theorem wk_dcomp {sl : List SV} (N : Nat) (vs : List Nat) (F : M (List D)) (T : SV → M Unit) (t : M Bool) (fk f : M SV) (Q : Res SV → List SV → Prop) : wp (mDComp N vs F T t fk f) sl Q ↔ wp F sl (k_dcomp N vs T t fk f Q) := by
  rw [wp_dcomp]
  refine Iff.of_eq (congrArg (wp F sl) (funext fun r => funext fun s => ?_))
  cases r with
  | ex c x => rfl
  | ok ds =>
    refine congrArg (fun z => s.length = N ∧ z) ?_
    refine congrArg (wp (compD vs T t fk f ds []) (wipeS s vs)) (funext fun r => funext fun s => ?_)
    cases r <;> rfl
def k_meth (op : MOp) (i : Nat) (Q : Res SV → List SV → Prop) : Res (List SV) → List SV → Prop
  | .ok xs, s => ∃ x, s[i]? = some x ∧ ∃ p, op x xs = some p ∧ Q (.ok p.1) (s.set i p.2)
  | .ex c x, s => Q (.ex c x) s
theorem k_meth_ok (op : MOp) (i : Nat) (Q : Res SV → List SV → Prop) (xs s : List SV) : k_meth op i Q (.ok xs) s = (∃ x, s[i]? = some x ∧ ∃ p, op x xs = some p ∧ Q (.ok p.1) (s.set i p.2)) := rfl
theorem wk_meth {sl : List SV} (i : Nat) (op : MOp) (fa : M (List SV)) (Q : Res SV → List SV → Prop) : wp (mMeth i op fa) sl Q ↔ (∃ x, sl[i]? = some x ∧ isLst x = true) ∧ wp fa sl (k_meth op i Q) := by
  rw [wp_meth]
  refine and_congr_right fun _ => Iff.of_eq (congrArg (wp fa sl) (funext fun r => funext fun s => ?_))
  cases r <;> rfl
def k_item2 (i : Nat) (x : SV) (Q : Res Ctl → List SV → Prop) : Res SV → List SV → Prop
  | .ok k, s2 => k.full = true ∧ ∃ y, s2[i]? = some y ∧ ∃ z, setO y k.toD x = some z ∧ Q (.ok .nx) (s2.set i z)
  | .ex c x, s => Q (.ex c x) s
theorem k_item2_ok (i : Nat) (x : SV) (Q : Res Ctl → List SV → Prop) (k : SV) (s2 : List SV) : k_item2 i x Q (.ok k) s2 = (k.full = true ∧ ∃ y, s2[i]? = some y ∧ ∃ z, setO y k.toD x = some z ∧ Q (.ok .nx) (s2.set i z)) := rfl
def k_item (i : Nat) (g : M SV) (Q : Res Ctl → List SV → Prop) : Res SV → List SV → Prop
  | .ok x, s => wp g s (k_item2 i x Q)
  | .ex c x, s => Q (.ex c x) s
theorem k_item_ok (i : Nat) (g : M SV) (Q : Res Ctl → List SV → Prop) (x : SV) (s : List SV) : k_item i g Q (.ok x) s = wp g s (k_item2 i x Q) := rfl
theorem wk_setItem {sl : List SV} (i : Nat) (f g : M SV) (Q : Res Ctl → List SV → Prop) : wp (mSetItem i f g) sl Q ↔ (∃ x, sl[i]? = some x ∧ isSeq x = true) ∧ wp f sl (k_item i g Q) := by
  rw [wp_setItem]
  refine and_congr_right fun _ => Iff.of_eq (congrArg (wp f sl) (funext fun r => funext fun s => ?_))
  cases r with
  | ex c x => rfl
  | ok x =>
    refine congrArg (wp g s) (funext fun r => funext fun s => ?_)
    cases r <;> rfl
def k_part (k : Option Int → M SV) (Q : Res SV → List SV → Prop) : Res SV → List SV → Prop
  | .ok x, s => x.full = true ∧ ∃ i, x.toD = .int i ∧ wp (k (some i)) s Q
  | .ex c x, s => Q (.ex c x) s
theorem k_part_ok (k : Option Int → M SV) (Q : Res SV → List SV → Prop) (x : SV) (s : List SV) : k_part k Q (.ok x) s = (x.full = true ∧ ∃ i, x.toD = .int i ∧ wp (k (some i)) s Q) := rfl
theorem wk_partS {sl : List SV} (f : M SV) (k : Option Int → M SV) (Q : Res SV → List SV → Prop) : wp (mPart (some f) k) sl Q ↔ wp f sl (k_part k Q) := by
  rw [wp_partS]
  refine Iff.of_eq (congrArg (wp f sl) (funext fun r => funext fun s => ?_))
  cases r <;> rfl
def k_fn (n : Nat) (kp : List Nat) (Q : Res SV → List SV → Prop) : Res Ctl → List SV → Prop
  | .ok (.rt r), s => Q (.ok r) (maskR kp 0 n s)
  | .ok .nx, s => Q (.ok (.d .none)) (maskR kp 0 n s)
  | .ok _, _ => False
  | .ex c x, s => Q (.ex c x) (maskR kp 0 n s)
theorem k_fn_rt (n : Nat) (kp : List Nat) (Q : Res SV → List SV → Prop) (r : SV) (s : List SV) : k_fn n kp Q (.ok (.rt r)) s = Q (.ok r) (maskR kp 0 n s) := rfl
theorem k_fn_nx (n : Nat) (kp : List Nat) (Q : Res SV → List SV → Prop) (s : List SV) : k_fn n kp Q (.ok .nx) s = Q (.ok (.d .none)) (maskR kp 0 n s) := rfl
theorem k_fn_ex (n : Nat) (kp : List Nat) (Q : Res SV → List SV → Prop) (c : Str) (x : D) (s : List SV) : k_fn n kp Q (.ex c x) s = Q (.ex c x) (maskR kp 0 n s) := rfl
theorem wk_fn {sl : List SV} (n N : Nat) (kp : List Nat) (G : M Ctl) (Q : Res SV → List SV → Prop) : wp (fnM n N kp G) sl Q ↔ sl.length = n ∧ wp G (sl ++ List.replicate (N - n) .un) (k_fn n kp Q) := by
  rw [wp_fn]
  refine and_congr_right fun _ => Iff.of_eq (congrArg (wp G _) (funext fun r => funext fun s => ?_))
  cases r with
  | ex c x => rfl
  | ok c => cases c <;> rfl
def k_par2 (i j : Nat) (Q : Res Ctl → List SV → Prop) : Res (List SV) → List SV → Prop
  | .ok xs, s => ∃ x y, xs = [x, y] ∧ i < s.length ∧ j < s.length ∧ Q (.ok .nx) ((s.set i x).set j y)
  | .ex c x, s => Q (.ex c x) s
theorem k_par2_ok (i j : Nat) (Q : Res Ctl → List SV → Prop) (x y : SV) (s : List SV) : k_par2 i j Q (.ok [x, y]) s ↔ (i < s.length ∧ j < s.length ∧ Q (.ok .nx) ((s.set i x).set j y)) := ⟨fun ⟨_, _, e, h⟩ => by cases e; exact h, fun h => ⟨_, _, rfl, h⟩⟩
theorem wk_par2 {sl : List SV} (i j : Nat) (fa : M (List SV)) (Q : Res Ctl → List SV → Prop) : wp (mPar [i, j] fa) sl Q ↔ wp fa sl (k_par2 i j Q) := by
  rw [wp_par2]
  refine Iff.of_eq (congrArg (wp fa sl) (funext fun r => funext fun s => ?_))
  cases r <;> rfl
def k_par3 (i j l : Nat) (Q : Res Ctl → List SV → Prop) : Res (List SV) → List SV → Prop
  | .ok xs, s => ∃ x y z, xs = [x, y, z] ∧ (i < s.length ∧ j < s.length ∧ l < s.length) ∧ Q (.ok .nx) (((s.set i x).set j y).set l z)
  | .ex c x, s => Q (.ex c x) s
theorem k_par3_ok (i j l : Nat) (Q : Res Ctl → List SV → Prop) (x y z : SV) (s : List SV) : k_par3 i j l Q (.ok [x, y, z]) s ↔ ((i < s.length ∧ j < s.length ∧ l < s.length) ∧ Q (.ok .nx) (((s.set i x).set j y).set l z)) := ⟨fun ⟨_, _, _, e, h⟩ => by cases e; exact h, fun h => ⟨_, _, _, rfl, h⟩⟩
theorem wk_par3 {sl : List SV} (i j l : Nat) (fa : M (List SV)) (Q : Res Ctl → List SV → Prop) : wp (mPar [i, j, l] fa) sl Q ↔ wp fa sl (k_par3 i j l Q) := by
  rw [wp_par3]
  refine Iff.of_eq (congrArg (wp fa sl) (funext fun r => funext fun s => ?_))
  cases r <;> rfl
/-- a list one's own walked -/
def k_forO (T : SV → M Unit) (b : M Ctl) (Q : Res Ctl → List SV → Prop) : Res SV → List SV → Prop
  | .ok x, s => ∃ xs, x = .lst xs ∧ wp (forO T b xs) s (onOk (fun c s => Q (.ok c) s) fun _ _ _ => False)
  | .ex _ _, _ => False
theorem k_forO_ok (T : SV → M Unit) (b : M Ctl) (Q : Res Ctl → List SV → Prop) (xs : List SV) (s : List SV) : k_forO T b Q (.ok (.lst xs)) s ↔ wp (forO T b xs) s (onOk (fun c s => Q (.ok c) s) fun _ _ _ => False) := ⟨fun ⟨_, e, h⟩ => by cases e; exact h, fun h => ⟨_, rfl, h⟩⟩
theorem wk_forO {sl : List SV} {f : M SV} {T : SV → M Unit} {b : M Ctl} {Q : Res Ctl → List SV → Prop} (h : wp f sl (k_forO T b Q)) : wp (mForO f T b) sl Q := by
  refine wp_forO f T b (wp_mono h fun r s k => ?_)
  cases r <;> exact k
end DD

set_option Elab.async false
set_option linter.all false
set_option maxRecDepth 100000
/-! DD25: leaves, loops, comprehensions. -/
namespace DD
open PySem (PyData Str sizeLine)
theorem iff_t {p : Prop} (h : p) : p ↔ True := ⟨fun _ => trivial, fun _ => h⟩
theorem frz_z (x : SV) (sl : List SV) : frz 0 (x :: sl) = (if x.full = true then .d x.toD else x) :: sl := by
  unfold frz
  by_cases h : x.full = true <;> simp [h]
theorem frz_s (i : Nat) (x : SV) (sl : List SV) : frz (i + 1) (x :: sl) = x :: frz i sl := by
  unfold frz
  simp only [List.getElem?_cons_succ]
  cases h : sl[i]? with
  | none => rfl
  | some y => dsimp only; split <;> rfl
theorem frzs_nil (sl : List SV) : frzs [] sl = sl := rfl
theorem frzs_cons (i : Nat) (is : List Nat) (sl : List SV) : frzs (i :: is) sl = frzs is (frz i sl) := rfl
theorem fgt_nil (sl : List SV) : fgt [] sl = sl := rfl
theorem fgt_cons (i : Nat) (is : List Nat) (sl : List SV) : fgt (i :: is) sl = fgt is (sl.set i .un) := rfl
theorem wipeS_nil (sl : List SV) : wipeS sl [] = sl := rfl
theorem wipeS_cons (sl : List SV) (v : Nat) (vs : List Nat) : wipeS sl (v :: vs) = (wipeS sl vs).set v .un := rfl
theorem unwipe_nil (sl t : List SV) : unwipe sl [] t = t := rfl
theorem unwipe_cons (sl t : List SV) (v : Nat) (vs : List Nat) : unwipe sl (v :: vs) t = unwipe sl vs (t.set v (sl[v]?.getD .un)) := rfl
theorem mask_0 (kp : List Nat) (i : Nat) (sl : List SV) : maskR kp i 0 sl = [] := by cases sl <;> rfl
theorem mask_s (kp : List Nat) (i n : Nat) (x : SV) (sl : List SV) : maskR kp i (n + 1) (x :: sl) = (if kp.contains i = true then x else .un) :: maskR kp (i + 1) n sl := rfl
theorem full_d (x : D) : (SV.d x).full = true := rfl
theorem full_un : SV.un.full = false := rfl
theorem full_l (xs : List SV) : (SV.lst xs).full = SV.fulls xs := by rw [SV.full]
theorem full_t (xs : List SV) : (SV.tup xs).full = SV.fulls xs := by rw [SV.full]
theorem full_k (xs : List (L2.Key × SV)) : (SV.dct xs).full = SV.fullk xs := by rw [SV.full]
theorem fulls_nil : SV.fulls [] = true := rfl
theorem fulls_cons (x : SV) (xs : List SV) : SV.fulls (x :: xs) = (x.full && SV.fulls xs) := by rw [SV.fulls]
theorem fulls_map {α : Type} (r : α → SV) (h : ∀ x, (r x).full = true) (xs : List α) : SV.fulls (xs.map r) = true := by
  induction xs with
  | nil => rfl
  | cons x xs ih => rw [List.map_cons, SV.fulls, ih, h]; rfl
theorem fulls_iff {α : Type} (r : α → SV) (xs : List α) : (SV.fulls (xs.map r) = true) ↔ ∀ x ∈ xs, (r x).full = true := by
  induction xs with
  | nil => simp [SV.fulls]
  | cons x xs ih => rw [List.map_cons, SV.fulls, Bool.and_eq_true, ih]; simp
theorem toD_d (x : D) : (SV.d x).toD = x := rfl
theorem toD_l (xs : List SV) : (SV.lst xs).toD = .list (SV.toDs xs) := by rw [SV.toD]
theorem toD_t (xs : List SV) : (SV.tup xs).toD = .tuple (SV.toDs xs) := by rw [SV.toD]
theorem toD_k (xs : List (L2.Key × SV)) : (SV.dct xs).toD = .dict (SV.toDk xs) := by rw [SV.toD]
theorem toDs_nil : SV.toDs [] = [] := rfl
theorem toDs_cons (x : SV) (xs : List SV) : SV.toDs (x :: xs) = x.toD :: SV.toDs xs := by rw [SV.toDs]
theorem toDs_map {α : Type} (r : α → SV) (xs : List α) : SV.toDs (xs.map r) = xs.map fun x => (r x).toD := by
  induction xs with
  | nil => rfl
  | cons x xs ih => rw [List.map_cons, SV.toDs, ih]; rfl
theorem toDk_nil : SV.toDk [] = [] := by rw [SV.toDk]
theorem fullk_nil : SV.fullk [] = true := by rw [SV.fullk]
theorem fullk_mapS {α : Type} (k : α → Str) (r : α → SV) (h : ∀ x, (r x).full = true) (xs : List α) : SV.fullk (xs.map fun x => ((.inr (k x), r x) : L2.Key × SV)) = true := fullk_map xs k r fun x _ => h x
theorem sz1 : 1 ≤ sizeLine := by decide
theorem sz2 : 2 ≤ sizeLine := by decide
theorem sz3 : 3 ≤ sizeLine := by decide
theorem sz4 : 4 ≤ sizeLine := by decide
theorem sz5 : 5 ≤ sizeLine := by decide
theorem sz6 : 6 ≤ sizeLine := by decide
theorem sz7 : 7 ≤ sizeLine := by decide
theorem sz8 : 8 ≤ sizeLine := by decide
theorem sz9 : 9 ≤ sizeLine := by decide
theorem sz10 : 10 ≤ sizeLine := by decide
theorem sz11 : 11 ≤ sizeLine := by decide
theorem sz12 : 12 ≤ sizeLine := by decide
theorem sy0 : 0 < sizeLine := by decide
theorem sy1 : 1 < sizeLine := by decide
theorem sy2 : 2 < sizeLine := by decide
theorem sy3 : 3 < sizeLine := by decide
theorem sy4 : 4 < sizeLine := by decide
theorem sy5 : 5 < sizeLine := by decide
theorem sy6 : 6 < sizeLine := by decide
theorem sy7 : 7 < sizeLine := by decide
theorem sy8 : 8 < sizeLine := by decide
theorem sy9 : 9 < sizeLine := by decide
theorem sy10 : 10 < sizeLine := by decide
theorem sy11 : 11 < sizeLine := by decide
theorem mapM_pairs {α : Type} (k : α → Str) (r : α → D) : ∀ xs : List α, ((xs.map fun x => (PyData.str (k x), r x)).mapM fun (p : D × D) => (dKey p.1).map fun q => (q, SV.d p.2)) = some (xs.map fun x => (.inr (k x), .d (r x)))
  | [] => rfl
  | x :: xs => by
    rw [List.map_cons, List.mapM_cons, mapM_pairs k r xs]
    rfl
theorem dict_k {α : Type} (k : α → Str) (r : α → D) (xs : List α) : dictD [.dict (xs.map fun x => (PyData.str (k x), r x))] = some (.dct (xs.map fun x => (.inr (k x), .d (r x)))) := by
  show (List.mapM (fun (p : D × D) => (dKey p.1).map fun q => (q, SV.d p.2)) (xs.map fun x => (PyData.str (k x), r x))).map SV.dct = _
  rw [mapM_pairs]
  rfl
theorem fullk_iff {α : Type} (k : α → Str) (r : α → SV) (xs : List α) : (SV.fullk (xs.map fun x => ((.inr (k x), r x) : L2.Key × SV)) = true) ↔ ∀ x ∈ xs, (r x).full = true := by
  induction xs with
  | nil => simp [SV.fullk]
  | cons x xs ih => rw [List.map_cons, SV.fullk, Bool.and_eq_true, ih]; simp [and_comm]
theorem fullk_d {α : Type} (k : α → Str) (r : α → D) (xs : List α) : SV.fullk (xs.map fun x => ((.inr (k x), .d (r x)) : L2.Key × SV)) = true := fullk_map xs k (fun x => .d (r x)) fun _ _ => rfl
theorem frz1_un : frz1 .un = .un := rfl
theorem frz1_d (x : D) : frz1 (.d x) = .d x := rfl
theorem frz1_if (x : SV) : frz1 x = if x.full = true then .d x.toD else .un := rfl
theorem scal_b (b : Bool) : scal (.d (.bool b)) = true := rfl
theorem scal_i (b : Int) : scal (.d (.int b)) = true := rfl
theorem scal_s (b : Str) : scal (.d (.str b)) = true := rfl
theorem scal_n : scal (.d .none) = true := rfl
theorem isUn_un : isUn .un = true := rfl
theorem isUn_d (x : D) : isUn (.d x) = false := rfl
theorem isUn_l (x : List SV) : isUn (.lst x) = false := rfl
theorem isUn_t (x : List SV) : isUn (.tup x) = false := rfl
theorem isUn_k (x : List (L2.Key × SV)) : isUn (.dct x) = false := rfl
theorem isLst_l (x : List SV) : isLst (.lst x) = true := rfl
theorem isLst_d (x : D) : isLst (.d x) = false := rfl
theorem isSeq_l (x : List SV) : isSeq (.lst x) = true := rfl
theorem isSeq_k (x : List (L2.Key × SV)) : isSeq (.dct x) = true := rfl
theorem truth_b (b : Bool) : truthD (.bool b) = some b := rfl
theorem boolSV_b (b : Bool) : boolSV (.d (.bool b)) = some b := rfl
/-! operations on plain things -/
theorem add_i (a b : Int) : addD (.int a) (.int b) = some (.d (.int (a + b))) := rfl
theorem add_l (a b : List D) : addD (.list a) (.list b) = if a.length + b.length ≤ sizeLine then some (.lst ((a ++ b).map SV.d)) else none := rfl
theorem add_t (a b : List D) : addD (.tuple a) (.tuple b) = if a.length + b.length ≤ sizeLine then some (.d (.tuple (a ++ b))) else none := rfl
theorem sub_i (a b : Int) : subD (.int a) (.int b) = some (.d (.int (a - b))) := rfl
theorem mul_i (a b : Int) : mulD (.int a) (.int b) = if okMul a b = true then some (.d (.int (a * b))) else none := rfl
theorem mod_i (a b : Int) : modD (.int a) (.int b) = if decide (b ≠ 0) = true then some (.d (.int (a.fmod b))) else none := rfl
theorem fdiv_i (a b : Int) : fdivD (.int a) (.int b) = if okDiv a b = true then some (.d (.int (a.fdiv b))) else none := rfl
theorem pow_i (a b : Int) : powD (.int a) (.int b) = if okPow a b = true then some (.d (.int (a ^ b.toNat))) else none := rfl
theorem neg_i (a : Int) : negD (.int a) = some (.d (.int (-a))) := rfl
theorem eq_i (a b : Int) : eqD (.int a) (.int b) = some (.d (.bool (decide (a = b)))) := by
  show some (SV.d (.bool (a == b))) = _
  congr 3
theorem ne_i (a b : Int) : neD (.int a) (.int b) = some (.d (.bool (!decide (a = b)))) := by
  show some (SV.d (.bool (!(a == b)))) = _
  congr 4
theorem eq_b (a b : Bool) : eqD (.bool a) (.bool b) = some (.d (.bool (decide (a = b)))) := by cases a <;> cases b <;> rfl
theorem ne_b (a b : Bool) : neD (.bool a) (.bool b) = some (.d (.bool (!decide (a = b)))) := by cases a <;> cases b <;> rfl
theorem shp_s {a : Str} (h : PyData.strOk a = true) : shp (.str a) = true := by
  show (PyData.canLay0 (.str a) && decide (PyData.depth (.str a) ≤ 64)) = true
  have e : PyData.canLay0 (.str a) = true := by rw [PyData.canLay0]; exact h
  rw [e]
  rfl
theorem eq_s (a b : Str) : eqD (.str a) (.str b) = some (.d (.bool (decide (a = b)))) := rfl
theorem ne_s (a b : Str) : neD (.str a) (.str b) = some (.d (.bool (!decide (a = b)))) := rfl
theorem lt_i (a b : Int) : ltD2 (.int a) (.int b) = some (.d (.bool (decide (a < b)))) := rfl
theorem lt_s (a b : Str) : ltD2 (.str a) (.str b) = some (.d (.bool (decide (a.cps.toList < b.cps.toList)))) := rfl
theorem lt_t (a b : List D) : ltD2 (.tuple a) (.tuple b) = ltT a b := rfl
theorem le_i (a b : Int) : leD (.int a) (.int b) = some (.d (.bool (decide (a ≤ b)))) := rfl
theorem gt_i (a b : Int) : gtD (.int a) (.int b) = some (.d (.bool (decide (b < a)))) := rfl
theorem ge_i (a b : Int) : geD (.int a) (.int b) = some (.d (.bool (decide (b ≤ a)))) := rfl
theorem is_n (a : D) : isD a .none = some (.d (.bool (isNoneD a))) := by cases a <;> rfl
theorem isNot_n (a : D) : isNotD a .none = some (.d (.bool (!isNoneD a))) := by cases a <;> rfl
theorem is_b (a b : Bool) : isD (.bool a) (.bool b) = some (.d (.bool (decide (a = b)))) := rfl
theorem isNot_b (a b : Bool) : isNotD (.bool a) (.bool b) = some (.d (.bool (!decide (a = b)))) := rfl
theorem isN_n : isNoneD .none = true := rfl
theorem isN_b (b : Bool) : isNoneD (.bool b) = false := rfl
theorem isN_i (b : Int) : isNoneD (.int b) = false := rfl
theorem isN_s (b : Str) : isNoneD (.str b) = false := rfl
theorem isN_l (b : List D) : isNoneD (.list b) = false := rfl
theorem isN_t (b : List D) : isNoneD (.tuple b) = false := rfl
theorem isN_d (b : List (D × D)) : isNoneD (.dict b) = false := rfl
/-! places -/
theorem atD_tup {ds : List D} {r : Int} {d : D} (h : 0 ≤ r) (hx : ds[r.toNat]? = some d) : atD (.tuple ds) (.int r) = some (.d d) := by
  show (L2.atI ds r).map SV.d = _
  rw [atI_nat h hx]
  rfl
theorem at_l0 (a : D) (l : List D) : atD (.list (a :: l)) (.int 0) = some (.d a) := atD_list (by decide) rfl
theorem at_t0 (a : D) (l : List D) : atD (.tuple (a :: l)) (.int 0) = some (.d a) := atD_tup (by decide) rfl
theorem at_t1 (a b : D) (l : List D) : atD (.tuple (a :: b :: l)) (.int 1) = some (.d b) := atD_tup (by decide) rfl
theorem at_t2 (a b c : D) (l : List D) : atD (.tuple (a :: b :: c :: l)) (.int 2) = some (.d c) := atD_tup (by decide) rfl
theorem at_t3 (a b c d : D) (l : List D) : atD (.tuple (a :: b :: c :: d :: l)) (.int 3) = some (.d d) := atD_tup (by decide) rfl
theorem at_t4 (a b c d e : D) (l : List D) : atD (.tuple (a :: b :: c :: d :: e :: l)) (.int 4) = some (.d e) := atD_tup (by decide) rfl
theorem at_l1 (a b : D) (l : List D) : atD (.list (a :: b :: l)) (.int 1) = some (.d b) := atD_list (by decide) rfl
theorem at_l2 (a b c : D) (l : List D) : atD (.list (a :: b :: c :: l)) (.int 2) = some (.d c) := atD_list (by decide) rfl
theorem at_l3 (a b c d : D) (l : List D) : atD (.list (a :: b :: c :: d :: l)) (.int 3) = some (.d d) := atD_list (by decide) rfl
theorem at_map {α : Type} (g : α → D) (xs : List α) (i : Int) : atD (.list (xs.map g)) (.int i) = (L2.atI xs i).map fun x => SV.d (g x) := by
  show (L2.atI (xs.map g) i).map SV.d = _
  unfold L2.atI
  rw [List.length_map]
  cases L2.ixN xs.length i with
  | none => rfl
  | some n => simp [Option.map_map]; rfl
theorem atI_get {α : Type} {xs : List α} {i : Int} {n : Nat} {x : α} (h : i = (n : Int)) (hx : xs[n]? = some x) : L2.atI xs i = some x := atI_nat (by omega) (by rw [h]; simpa using hx)
theorem len_l (a : List D) : lenD [.list a] = some (.d (.int (a.length : Nat))) := rfl
theorem len_t (a : List D) : lenD [.tuple a] = some (.d (.int (a.length : Nat))) := rfl
theorem len_d (a : List (D × D)) : lenD [.dict a] = some (.d (.int (a.length : Nat))) := rfl
theorem int_i (a : Int) : intCD [.int a] = some (.d (.int a)) := rfl
theorem max_2 (i j : Int) : maxD [.int i, .int j] = some (.d (.int (max i j))) := by
  show some (SV.d (.int (if j > i then j else i))) = _
  congr 3
  split <;> omega
theorem min_2 (i j : Int) : minD [.int i, .int j] = some (.d (.int (min i j))) := by
  show some (SV.d (.int (if j < i then j else i))) = _
  congr 3
  split <;> omega
theorem max_l (ns : List Int) : maxD [.list (ns.map PyData.int)] = ns.max?.map fun m => SV.d (.int m) := by
  show (intsOf (ns.map PyData.int)).bind (fun ns => ns.max?.map fun m => SV.d (.int m)) = _
  rw [intsOf_map]; rfl
theorem min_l (ns : List Int) : minD [.list (ns.map PyData.int)] = ns.min?.map fun m => SV.d (.int m) := by
  show (intsOf (ns.map PyData.int)).bind (fun ns => ns.min?.map fun m => SV.d (.int m)) = _
  rw [intsOf_map]; rfl
theorem sum_l (ns : List Int) : sumD [.list (ns.map PyData.int)] = some (.d (.int ns.sum)) := by
  show (intsOf (ns.map PyData.int)).map (fun ns => SV.d (.int ns.sum)) = _
  rw [intsOf_map]; rfl
theorem sum_l' {α : Type} (f : α → Int) (ns : List α) : sumD [.list (ns.map fun x => PyData.int (f x))] = some (.d (.int (ns.map f).sum)) := by
  rw [← sum_l, List.map_map]; rfl
theorem all_l {α : Type} (f : α → Bool) (xs : List α) : allD [.list (xs.map fun x => PyData.bool (f x))] = some (.d (.bool (xs.all f))) := by
  show (boolsOf (xs.map fun x => PyData.bool (f x))).map (fun bs => SV.d (.bool (bs.all id))) = _
  have : (xs.map fun x => PyData.bool (f x)) = (xs.map f).map PyData.bool := by rw [List.map_map]; rfl
  rw [this, boolsOf_map]
  simp
theorem any_l {α : Type} (f : α → Bool) (xs : List α) : anyD [.list (xs.map fun x => PyData.bool (f x))] = some (.d (.bool (xs.any f))) := by
  show (boolsOf (xs.map fun x => PyData.bool (f x))).map (fun bs => SV.d (.bool (bs.any id))) = _
  have : (xs.map fun x => PyData.bool (f x)) = (xs.map f).map PyData.bool := by rw [List.map_map]; rfl
  rw [this, boolsOf_map]
  simp
theorem items_l (a : List D) : itemsOf (.list a) = some a := rfl
theorem items_t (a : List D) : itemsOf (.tuple a) = some a := rfl
theorem range_1 (k : Int) : rangeD [.d (.int k)] = if -(2 ^ 62) ≤ k ∧ k < 2 ^ 62 then some (rng 0 k.toNat) else none := rfl
theorem range_2 (i j : Int) : rangeD2 [.d (.int i), .d (.int j)] = if (-(2 ^ 62) ≤ i ∧ i < 2 ^ 62) ∧ -(2 ^ 62) ≤ j ∧ j < 2 ^ 62 then some (rng i (j - i).toNat) else none := rfl
theorem slice_l (lo hi : Option Int) (ds : List D) : sliceD lo hi (.list ds) = some (.lst ((cutD ds lo hi).map SV.d)) := rfl
theorem slice_t (lo hi : Option Int) (ds : List D) : sliceD lo hi (.tuple ds) = some (.d (.tuple (cutD ds lo hi))) := rfl
theorem append_l (xs : List SV) (x : SV) : appendO (.lst xs) [x] = if xs.length < sizeLine then some (.d .none, .lst (xs ++ [x])) else none := rfl
theorem set_l (xs : List SV) (j : Int) (x : SV) : setO (.lst xs) (.int j) x = (L2.ixN xs.length j).map fun n => .lst (xs.set n x) := rfl
theorem set_k (es : List (L2.Key × SV)) (k : D) (x : SV) : setO (.dct es) k x = if es.length < sizeLine then (dKey k).bind fun key => (putS es key x).map SV.dct else none := rfl
theorem dKey_s (x : Str) : dKey (.str x) = some (.inr x) := rfl
theorem dKey_i (x : Int) : dKey (.int x) = some (.inl x) := rfl
theorem ex_if {α : Type} {c : Prop} [Decidable c] {a : α} {P : α → Prop} : (∃ x, (if c then some a else none) = some x ∧ P x) ↔ c ∧ P a := by
  by_cases h : c <;> simp [h]
theorem ord2_2 {α : Type} (a b : α) : ord2 [a, b] = [b, a] := rfl
theorem ord1_id {α : Type} (l : List α) : ord1 l = l := rfl
theorem zip_l (a b : List D) : zipOf (.list a) (.list b) = some (zipL a b) := rfl
theorem zip_t (a b : List D) : zipOf (.tuple a) (.tuple b) = some (zipL a b) := rfl
/-! ## loops -/
/-- what a turn must leave: I where it goes on -/
def onLp (I : List SV → Prop) (Q : Res Ctl → List SV → Prop) : Res Ctl → List SV → Prop
  | .ok .nx, s => I s
  | .ok .ct, s => I s
  | .ok .bk, s => Q (.ok .nx) s
  | .ok (.rt x), s => Q (.ok (.rt x)) s
  | .ex c x, s => Q (.ex c x) s
theorem onLp_nx (I : List SV → Prop) (Q : Res Ctl → List SV → Prop) (s : List SV) : onLp I Q (.ok .nx) s = I s := rfl
theorem onLp_ct (I : List SV → Prop) (Q : Res Ctl → List SV → Prop) (s : List SV) : onLp I Q (.ok .ct) s = I s := rfl
theorem onLp_bk (I : List SV → Prop) (Q : Res Ctl → List SV → Prop) (s : List SV) : onLp I Q (.ok .bk) s = Q (.ok .nx) s := rfl
theorem onLp_rt (I : List SV → Prop) (Q : Res Ctl → List SV → Prop) (x : SV) (s : List SV) : onLp I Q (.ok (.rt x)) s = Q (.ok (.rt x)) s := rfl
theorem onLp_ex (I : List SV → Prop) (Q : Res Ctl → List SV → Prop) (c : Str) (x : D) (s : List SV) : onLp I Q (.ex c x) s = Q (.ex c x) s := rfl
section
variable {α : Type} {T : SV → M Unit} {b : M Ctl} {Q : Res Ctl → List SV → Prop}
theorem wp_forL_nil {sl : List SV} : wp (forL T b []) sl Q ↔ Q (.ok .nx) sl := wp_of_eq rfl
theorem wp_forL_cons {sl : List SV} {d : D} {r : List D} (h : wp (T (.d d)) sl (onOk (fun _ s => wp b s (onLp (fun s => wp (forL T b r) s Q) Q)) fun _ _ _ => False)) : wp (forL T b (d :: r)) sl Q := by
  obtain ⟨o, s, h1, h2⟩ := h
  cases o with
  | ex c x => exact h2.elim
  | ok u =>
    obtain ⟨o, s2, h3, h4⟩ := h2
    unfold wp
    unfold forL
    rw [h1]
    dsimp only
    unfold bnd
    rw [h3]
    cases o with
    | ex c x => exact ⟨_, _, rfl, h4⟩
    | ok c => cases c with
      | nx => exact h4
      | ct => exact h4
      | bk => exact ⟨_, _, rfl, h4⟩
      | rt x => exact ⟨_, _, rfl, h4⟩
/-- over the part taken -/
theorem wp_forL (g : α → D) (Inv : List α → List SV → Prop) {xs : List α} {sl : List SV} (h0 : Inv [] sl) (step : ∀ (pre : List α) (x : α) (post : List α) (s : List SV), xs = pre ++ x :: post → Inv pre s → wp (T (.d (g x))) s (onOk (fun _ s => wp b s (onLp (Inv (pre ++ [x])) Q)) fun _ _ _ => False))
    (hend : ∀ s, Inv xs s → Q (.ok .nx) s) : wp (forL T b (xs.map g)) sl Q := by
  suffices H : ∀ (post pre : List α) (s : List SV), xs = pre ++ post → Inv pre s → wp (forL T b (post.map g)) s Q from H xs [] sl rfl h0
  intro post
  induction post with
  | nil =>
    intro pre s e hi
    rw [List.append_nil] at e
    subst e
    exact wp_forL_nil.mpr (hend s hi)
  | cons x post ih =>
    intro pre s e hi
    rw [List.map_cons]
    refine wp_forL_cons (wp_mono (step pre x post s e hi) fun r s1 h => ?_)
    cases r with
    | ex c y => exact h
    | ok u =>
      refine wp_mono h fun r s2 h => ?_
      have go : ∀ s, Inv (pre ++ [x]) s → wp (forL T b (post.map g)) s Q := fun s hs => ih (pre ++ [x]) s (by rw [e, List.append_assoc]; rfl) hs
      cases r with
      | ex c y => exact h
      | ok c => cases c with
        | nx => exact go s2 h
        | ct => exact go s2 h
        | bk => exact h
        | rt y => exact h
/-- one state a turn -/
theorem wp_forS (g : α → D) (S : List α → List SV) {xs : List α} {sl : List SV} (h0 : sl = S []) (step : ∀ (pre : List α) (x : α) (post : List α), xs = pre ++ x :: post → wp (T (.d (g x))) (S pre) (onOk (fun _ s => wp b s (onLp (fun s => s = S (pre ++ [x])) Q)) fun _ _ _ => False))
    (hend : Q (.ok .nx) (S xs)) : wp (forL T b (xs.map g)) sl Q :=
  wp_forL g (fun pre s => s = S pre) h0 (fun pre x post s e hs => by subst hs; exact step pre x post e) (fun s hs => by rw [hs]; exact hend)
theorem wp_while (c : M Bool) (Inv : List SV → Prop) (m : List SV → Nat) (h : ∀ s, Inv s → wp c s (onOk (fun t s1 => if t = true then wp b s1 (onLp (fun s2 => Inv s2 ∧ m s2 < m s) Q) else Q (.ok .nx) s1) fun c x s => Q (.ex c x) s)) : ∀ (n : Nat) (s : List SV), Inv s → m s < n → wp (mWhile c b n) s Q
  | 0, s, _, hn => by omega
  | n + 1, s, hi, hn => by
    obtain ⟨o, s1, h1, h2⟩ := h s hi
    unfold wp mWhile bnd
    rw [h1]
    cases o with
    | ex c x => exact ⟨_, _, rfl, h2⟩
    | ok t =>
      dsimp only
      cases t with
      | false => exact ⟨_, _, rfl, h2⟩
      | true =>
        obtain ⟨o, s2, h3, h4⟩ := h2
        rw [if_pos rfl, h3]
        have go : (Inv s2 ∧ m s2 < m s) → wp (mWhile c b n) s2 Q := fun q => wp_while c Inv m h n s2 q.1 (by omega)
        cases o with
        | ex c x => exact ⟨_, _, rfl, h4⟩
        | ok k => cases k with
          | nx => exact go h4
          | ct => exact go h4
          | bk => exact ⟨_, _, rfl, h4⟩
          | rt x => exact ⟨_, _, rfl, h4⟩
theorem wp_forO_nil {sl : List SV} : wp (forO T b []) sl Q ↔ Q (.ok .nx) sl := wp_of_eq rfl
/-- a list of one's own, over the part taken -/
theorem wp_forOL (g : α → SV) (Inv : List α → List SV → Prop) {xs : List α} {sl : List SV} (h0 : Inv [] sl) (step : ∀ (pre : List α) (x : α) (post : List α) (s : List SV), xs = pre ++ x :: post → Inv pre s → wp (T (g x)) s (onOk (fun _ s => wp b s (onLp (Inv (pre ++ [x])) (onOk (fun c s => Q (.ok c) s) fun _ _ _ => False))) fun _ _ _ => False))
    (hend : ∀ s, Inv xs s → Q (.ok .nx) s) : wp (forO T b (xs.map g)) sl Q := by
  suffices H : ∀ (post pre : List α) (s : List SV), xs = pre ++ post → Inv pre s → wp (forO T b (post.map g)) s Q from H xs [] sl rfl h0
  intro post
  induction post with
  | nil =>
    intro pre s e hi
    rw [List.append_nil] at e
    subst e
    exact wp_forO_nil.mpr (hend s hi)
  | cons x post ih =>
    intro pre s e hi
    rw [List.map_cons]
    obtain ⟨o, s1, h1, h2⟩ := step pre x post s e hi
    cases o with
    | ex c y => exact h2.elim
    | ok u =>
      obtain ⟨o, s2, h3, h4⟩ := h2
      have go : ∀ s, Inv (pre ++ [x]) s → wp (forO T b (post.map g)) s Q := fun s hs => ih (pre ++ [x]) s (by rw [e, List.append_assoc]; rfl) hs
      unfold wp
      unfold forO
      rw [h1]
      dsimp only
      rw [h3]
      cases o with
      | ex c y => exact h4.elim
      | ok c => cases c with
        | nx => exact go s2 h4
        | ct => exact go s2 h4
        | bk => exact ⟨_, _, rfl, h4⟩
        | rt y => exact ⟨_, _, rfl, h4⟩
end
/-! ## comprehensions -/
section
variable {α : Type} {vs : List Nat} {T : SV → M Unit} {t : M Bool} {f : M SV} {s0 : List SV} {Q : Res (List SV) → List SV → Prop}
theorem wp_compL (g : α → D) (p : α → Bool) (r : α → SV) {xs : List α} (hl : xs.length ≤ sizeLine)
    (h : ∀ x ∈ xs, wp (T (.d (g x))) s0 (onOk (fun _ s => wp t s (onOk (fun b s2 => b = p x ∧ (b = true → wp f s2 (onOk (fun y s3 => y = r x ∧ wipeS s3 vs = s0) fun _ _ _ => False)) ∧ (b = false → wipeS s2 vs = s0)) fun _ _ _ => False)) fun _ _ _ => False))
    (q : Q (.ok ((xs.filter p).map r)) s0) : wp (compL vs T t f (xs.map g) []) s0 Q := by
  have := compL_map (vs := vs) (T := T) (t := t) (f := f) g p r (s0 := s0) xs [] (by simpa using hl) fun x hx => by
    obtain ⟨o, s, h1, h2⟩ := h x hx
    cases o with
    | ex c y => exact h2.elim
    | ok u =>
      obtain ⟨o, s2, h3, h4⟩ := h2
      cases o with
      | ex c y => exact h4.elim
      | ok b =>
        obtain ⟨rfl, h4⟩ := h4
        refine ⟨s, s2, h1, h3, fun e => ?_, fun e => ?_⟩
        · obtain ⟨o, s3, h5, h6⟩ := h4.1 e
          cases o with
          | ex c y => exact h6.elim
          | ok y => obtain ⟨rfl, h6⟩ := h6; exact ⟨s3, h5, h6⟩
        · exact h4.2 e
  exact ⟨_, _, this, by simpa using q⟩
/-- plain results -/
theorem wp_compD (g : α → D) (p : α → Bool) (r : α → D) {xs : List α} (hl : xs.length ≤ sizeLine)
    (h : ∀ x ∈ xs, wp (T (.d (g x))) s0 (onOk (fun _ s => wp t s (onOk (fun b s2 => b = p x ∧ (b = true → wp f s2 (onOk (fun y s3 => y = .d (r x) ∧ wipeS s3 vs = s0) fun _ _ _ => False)) ∧ (b = false → wipeS s2 vs = s0)) fun _ _ _ => False)) fun _ _ _ => False))
    (q : Q (.ok (((xs.filter p).map r).map SV.d)) s0) : wp (compL vs T t f (xs.map g) []) s0 Q :=
  wp_compL g p (fun x => SV.d (r x)) hl h (by rw [List.map_map] at q; exact q)
/-- all of them -/
theorem wp_compA (g : α → D) (r : α → SV) {xs : List α} (hl : xs.length ≤ sizeLine)
    (h : ∀ x ∈ xs, wp (T (.d (g x))) s0 (onOk (fun _ s => wp f s (onOk (fun y s3 => y = r x ∧ wipeS s3 vs = s0) fun _ _ _ => False)) fun _ _ _ => False))
    (q : Q (.ok (xs.map r)) s0) : wp (compL vs T (ret true) f (xs.map g) []) s0 Q :=
  wp_compL g (fun _ => true) r hl (fun x hx => wp_mono (h x hx) fun o s k => by
    cases o with
    | ex c y => exact k
    | ok u => exact (wp_ret true).mpr ⟨rfl, fun _ => k, fun e => by cases e⟩) (by rw [List.filter_eq_self.mpr (fun _ _ => rfl)]; exact q)
theorem wp_compAD (g : α → D) (r : α → D) {xs : List α} (hl : xs.length ≤ sizeLine)
    (h : ∀ x ∈ xs, wp (T (.d (g x))) s0 (onOk (fun _ s => wp f s (onOk (fun y s3 => y = .d (r x) ∧ wipeS s3 vs = s0) fun _ _ _ => False)) fun _ _ _ => False))
    (q : Q (.ok ((xs.map r).map SV.d)) s0) : wp (compL vs T (ret true) f (xs.map g) []) s0 Q :=
  wp_compA g (fun x => SV.d (r x)) hl h (by rw [List.map_map] at q; exact q)
end
theorem wp_compDk {α : Type} {vs : List Nat} {T : SV → M Unit} {fk f : M SV} {s0 : List SV} {Q : Res (List (L2.Key × SV)) → List SV → Prop} (g : α → D) (k : α → Str) (r : α → D) {xs : List α} (hl : xs.length ≤ sizeLine) (nd : (xs.map k).Nodup)
    (h : ∀ x ∈ xs, ∃ s, T (.d (g x)) s0 = some (.ok (), s) ∧ fk s = some (.ok (.d (.str (k x))), s) ∧ f s = some (.ok (.d (r x)), s) ∧ wipeS s vs = s0) (q : Q (.ok (xs.map fun x => (.inr (k x), .d (r x)))) s0) : wp (compD vs T (ret true) fk f (xs.map g) []) s0 Q := by
  have c := compD_map (T := T) (fk := fk) (f := f) g k r (s0 := s0) xs [] hl nd h
  rw [List.map_nil, List.nil_append] at c
  exact ⟨_, _, c, q⟩
theorem rng_0 (n : Nat) : rng 0 n = (List.range n).map fun i => PyData.int (i : Nat) := by
  unfold rng
  simp
end DD

/-! DD27: equality of data without truths and dicts; more leaves -/
namespace DD
open PySem (PyData Str sizeLine)
open L2
def skn : Nat → D → Bool
  | _, .none => true
  | _, .int _ => true
  | _, .str s => PyData.strOk s
  | n + 1, .list ds => ds.all (skn n)
  | n + 1, .tuple ds => ds.all (skn n)
  | _, _ => false
theorem skn_shp : ∀ (n : Nat) (d : D), skn n d = true → PyData.canLay0 d = true ∧ PyData.depth d ≤ n
  | n, .none, _ => by simp [PyData.canLay0, PyData.depth]
  | n, .int _, _ => by simp [PyData.canLay0, PyData.depth]
  | n, .str s, h => by
    have : PyData.strOk s = true := by cases n <;> exact h
    simp [PyData.canLay0, PyData.depth, this]
  | 0, .list _, h => by simp [skn] at h
  | 0, .tuple _, h => by simp [skn] at h
  | 0, .bool _, h => by simp [skn] at h
  | n + 1, .bool _, h => by simp [skn] at h
  | 0, .dict _, h => by simp [skn] at h
  | n + 1, .dict _, h => by simp [skn] at h
  | n + 1, .list ds, h => by
    have h2 : ∀ d ∈ ds, skn n d = true := by simpa [skn] using h
    have h3 : PyData.canLayAll0 ds = true ∧ PyData.depthAll ds ≤ n := by
      clear h
      induction ds with
      | nil => simp [PyData.canLayAll0, PyData.depthAll]
      | cons d ds ih =>
        have a := skn_shp n d (h2 d (List.mem_cons_self ..))
        have b := ih fun x hx => h2 x (List.mem_cons_of_mem _ hx)
        simp only [PyData.canLayAll0, PyData.depthAll, a.1, b.1, Bool.and_self, true_and]
        omega
    rw [PyData.canLay0, PyData.depth]
    exact ⟨h3.1, by omega⟩
  | n + 1, .tuple ds, h => by
    have h2 : ∀ d ∈ ds, skn n d = true := by simpa [skn] using h
    have h3 : PyData.canLayAll0 ds = true ∧ PyData.depthAll ds ≤ n := by
      clear h
      induction ds with
      | nil => simp [PyData.canLayAll0, PyData.depthAll]
      | cons d ds ih =>
        have a := skn_shp n d (h2 d (List.mem_cons_self ..))
        have b := ih fun x hx => h2 x (List.mem_cons_of_mem _ hx)
        simp only [PyData.canLayAll0, PyData.depthAll, a.1, b.1, Bool.and_self, true_and]
        omega
    rw [PyData.canLay0, PyData.depth]
    exact ⟨h3.1, by omega⟩
theorem shp_of {n : Nat} {d : D} (h : skn n d = true) (hn : n ≤ 64 := by decide) : shp d = true := by
  have := skn_shp n d h
  show (PyData.canLay0 d && decide (PyData.depth d ≤ 64)) = true
  rw [this.1, decide_eq_true (by omega)]
  rfl
theorem eqv_skn : ∀ (n m : Nat) (a b : D), skn n a = true → skn m b = true → (PyData.eqv a b = true ↔ a = b) := by
  intro n
  induction n with
  | zero =>
    intro m a b ha hb
    cases a <;> cases b <;> first | simp [PyData.eqv]; done | (simp [skn] at ha; done) | (cases m <;> simp [skn] at hb; done) | simp [PyData.eqv]
  | succ n ih =>
    intro m a b ha hb
    have key : ∀ (xs ys : List D), xs.all (skn n) = true → ∀ m, ys.all (skn m) = true → (PyData.eqvAll xs ys = true ↔ xs = ys) := by
      intro xs
      induction xs with
      | nil => intro ys _ m _; cases ys <;> simp [PyData.eqvAll]
      | cons x xs ih2 =>
        intro ys hx m hy
        cases ys with
        | nil => simp [PyData.eqvAll]
        | cons y ys =>
          rw [List.all_cons, Bool.and_eq_true] at hx hy
          rw [PyData.eqvAll, Bool.and_eq_true, ih m x y hx.1 hy.1, ih2 ys hx.2 m hy.2, List.cons.injEq]
    cases a with
    | list xs =>
      cases b with
      | list ys =>
        cases m with
        | zero => simp [skn] at hb
        | succ m => rw [PyData.eqv, key xs ys (by simpa [skn] using ha) m (by simpa [skn] using hb), PyData.list.injEq]
      | _ => simp [PyData.eqv]
    | tuple xs =>
      cases b with
      | tuple ys =>
        cases m with
        | zero => simp [skn] at hb
        | succ m => rw [PyData.eqv, key xs ys (by simpa [skn] using ha) m (by simpa [skn] using hb), PyData.tuple.injEq]
      | _ => simp [PyData.eqv]
    | none => cases b <;> simp [PyData.eqv]
    | bool => simp [skn] at ha
    | int => cases b <;> first | simp [PyData.eqv]; done | (cases m <;> simp [skn] at hb; done)
    | str => cases b <;> simp [PyData.eqv]
    | dict => simp [skn] at ha
theorem eq_skn {n m : Nat} {a b : D} (ha : skn n a = true) (hb : skn m b = true) (hn : n ≤ 64 := by decide) (hm : m ≤ 64 := by decide) : eqD a b = some (.d (.bool (PyData.eqv a b))) := by
  rcases eqD_cases a b with ⟨i, j, rfl, rfl⟩ | ⟨e, _⟩
  · show some (SV.d (.bool (i == j))) = _
    rw [PyData.eqv]
  · rw [e, shp_of ha hn, shp_of hb hm]
    rfl
theorem ne_skn {n m : Nat} {a b : D} (ha : skn n a = true) (hb : skn m b = true) (hn : n ≤ 64 := by decide) (hm : m ≤ 64 := by decide) : neD a b = some (.d (.bool (!PyData.eqv a b))) := by
  rcases eqD_cases a b with ⟨i, j, rfl, rfl⟩ | ⟨_, e⟩
  · show some (SV.d (.bool (!(i == j)))) = _
    rw [PyData.eqv]
  · rw [e, shp_of ha hn, shp_of hb hm]
    rfl
theorem skn_l (n : Nat) (ds : List D) : skn (n + 1) (.list ds) = ds.all (skn n) := rfl
theorem skn_t (n : Nat) (ds : List D) : skn (n + 1) (.tuple ds) = ds.all (skn n) := rfl
theorem skn_i (n : Nat) (i : Int) : skn n (.int i) = true := by cases n <;> rfl
theorem skn_s (n : Nat) (i : Str) : skn n (.str i) = PyData.strOk i := by cases n <;> rfl
theorem skn_n (n : Nat) : skn n .none = true := by cases n <;> rfl
theorem eqv_nil (l : List D) : PyData.eqv (.list l) (.list []) = l.isEmpty := by
  rw [PyData.eqv]
  cases l <;> rfl
/-- in a list -/
theorem in_skn {n m : Nat} {x : D} {ds : List D} (hx : skn n x = true) (hd : skn m (.list ds) = true) (hn : n ≤ 64 := by decide) (hm : m ≤ 64 := by decide) : inD x (.list ds) = some (.d (.bool (ds.any fun z => PyData.eqv z x))) := by
  show (if (shp x && shp (.list ds)) = true then _ else none) = _
  rw [shp_of hx hn, shp_of hd hm]
  rfl
theorem any_skn {n m : Nat} {x : D} {ds : List D} (hx : skn n x = true) (hd : ∀ d ∈ ds, skn m d = true) : ((ds.any fun z => PyData.eqv z x) = true) ↔ x ∈ ds := by
  rw [List.any_eq_true]
  constructor
  · rintro ⟨z, hz, e⟩
    rw [eqv_skn m n z x (hd z hz) hx] at e
    rw [← e]; exact hz
  · intro h
    exact ⟨x, h, (eqv_skn m n x x (hd x h) hx).mpr rfl⟩
theorem zip2_map {α : Type} (f g : α → D) (xs : List α) : zipD2 [.list (xs.map f), .list (xs.map g)] = some (.lst ((xs.map fun x => PyData.tuple [f x, g x]).map SV.d)) := by
  show some (SV.lst (List.zipWith (fun a b => SV.d (.tuple [a, b])) (xs.map f) (xs.map g))) = _
  congr 2
  induction xs with
  | nil => rfl
  | cons x xs ih => simp only [List.map_cons, List.zipWith_cons_cons, ih]
theorem zipL_map {α : Type} (f g : α → D) (xs : List α) : zipL (xs.map f) (xs.map g) = xs.map fun x => PyData.tuple [f x, g x] := by
  unfold zipL
  induction xs with
  | nil => rfl
  | cons x xs ih => simp only [List.map_cons, List.zip_cons_cons, ih]
theorem cut_hi {α : Type} (xs : List α) (k : Nat) : cutD xs none (some (k : Int)) = xs.take k := by
  unfold cutD
  rw [HT.sIx_none, HT.sIx_nat, List.drop_zero, Nat.sub_zero]
  rcases Nat.le_total k xs.length with h | h
  · rw [Nat.min_eq_left h]
  · rw [Nat.min_eq_right h, List.take_length, List.take_of_length_le h]
theorem cut_lo {α : Type} (xs : List α) (k : Nat) : cutD xs (some (k : Int)) none = xs.drop k := by
  unfold cutD
  rw [HT.sIx_none, HT.sIx_nat]
  rcases Nat.le_total k xs.length with h | h
  · rw [Nat.min_eq_left h, List.take_of_length_le (by rw [List.length_drop]; omega)]
  · rw [Nat.min_eq_right h, Nat.sub_self, List.take_zero, List.drop_of_length_le h]
/-- a comprehension whose turns change the state -/
theorem wp_compI {α : Type} {vs : List Nat} {T : SV → M Unit} {t : M Bool} {f : M SV} {s0 : List SV} {Q : Res (List SV) → List SV → Prop} (g : α → D) (Inv : List α → List SV → List SV → Prop) {xs : List α} (hl : xs.length ≤ sizeLine) (h0 : Inv [] [] s0)
    (step : ∀ (pre : List α) (x : α) (post : List α) (acc s : List SV), xs = pre ++ x :: post → Inv pre acc s → wp (T (.d (g x))) s (onOk (fun _ s1 => wp t s1 (onOk (fun b s2 => (b = true → wp f s2 (onOk (fun y s3 => Inv (pre ++ [x]) (acc ++ [y]) (wipeS s3 vs)) fun _ _ _ => False)) ∧ (b = false → Inv (pre ++ [x]) acc (wipeS s2 vs))) fun _ _ _ => False)) fun _ _ _ => False))
    (hend : ∀ acc s, Inv xs acc s → Q (.ok acc) s) : wp (compL vs T t f (xs.map g) []) s0 Q := by
  suffices H : ∀ (post pre : List α) (acc s : List SV), xs = pre ++ post → acc.length ≤ pre.length → Inv pre acc s → wp (compL vs T t f (post.map g) acc) s Q from H xs [] [] s0 rfl (Nat.le_refl _) h0
  intro post
  induction post with
  | nil =>
    intro pre acc s e _ hi
    rw [List.append_nil] at e
    subst e
    exact (wp_of_eq rfl).mpr (hend acc s hi)
  | cons x post ih =>
    intro pre acc s e hla hi
    have hlt : acc.length < sizeLine := by rw [e, List.length_append, List.length_cons] at hl; omega
    have e' : xs = (pre ++ [x]) ++ post := by rw [e, List.append_assoc]; rfl
    obtain ⟨o, s1, h1, h2⟩ := step pre x post acc s e hi
    cases o with
    | ex c y => exact h2.elim
    | ok u =>
      obtain ⟨o, s2, h3, h4⟩ := h2
      cases o with
      | ex c y => exact h4.elim
      | ok b =>
        rw [List.map_cons]
        unfold wp
        unfold compL
        rw [h1]
        dsimp only
        rw [h3]
        cases b with
        | true =>
          obtain ⟨o, s3, h5, h6⟩ := h4.1 rfl
          cases o with
          | ex c y => exact h6.elim
          | ok y =>
            dsimp only
            rw [h5]
            dsimp only
            rw [if_pos hlt]
            exact ih (pre ++ [x]) (acc ++ [y]) _ e' (by rw [List.length_append, List.length_append]; simpa using hla) h6
        | false => exact ih (pre ++ [x]) acc _ e' (by rw [List.length_append]; omega) (h4.2 rfl)
theorem items_k {α : Type} (k : α → Str) (r : α → D) (xs : List α) : itemsO (.dct (xs.map fun x => (.inr (k x), .d (r x)))) = some (.lst ((xs.map fun x => PyData.tuple [.str (k x), r x]).map SV.d)) := by
  have e : plainS (xs.map fun x => ((.inr (k x), .d (r x)) : L2.Key × SV)) = some (xs.map fun x => (.inr (k x), r x)) := by
    induction xs with
    | nil => rfl
    | cons x xs ih => rw [List.map_cons, plainS, ih]; rfl
  show (plainS (xs.map fun x => ((.inr (k x), .d (r x)) : L2.Key × SV))).map _ = _
  rw [e, List.map_map]
  show some (SV.lst _) = _
  rw [List.map_map]
  rfl
theorem filter_none {α : Type} (l : List α) : l.filter (fun _ => false) = [] := by induction l <;> simp_all
end DD

/-! DD28: repr of small data -/
namespace DD
open PySem (PyData Str sizeLine)
structure RB (w k : Nat) (d : D) : Prop where
  short : PyData.leavesShort 13 d = true
  wt : PyData.weight d ≤ w
  sh : PyData.showable d = true
  dp : PyData.depth d ≤ k
  rk : repOk d = true
theorem RB.mono {w k w' k' : Nat} {d : D} (h : RB w k d) (hw : w ≤ w') (hk : k ≤ k') : RB w' k' d := ⟨h.short, Nat.le_trans h.wt hw, h.sh, Nat.le_trans h.dp hk, h.rk⟩
theorem rb_int {i : Int} (h : i.natAbs < 10 ^ 12) : RB 41 0 (.int i) := by
  have l2 : i.natAbs ≠ 0 → i.natAbs.log2 < 40 := fun h0 => (Nat.log2_lt h0).mpr (Nat.lt_of_lt_of_le h (by decide))
  refine ⟨?_, ?_, ?_, by simp [PyData.depth], by simp [repOk]⟩
  · rw [PyData.leavesShort]
    exact decide_eq_true (PySem.PyData.shown_int_le h)
  · rw [PyData.weight]
    split
    · omega
    · rename_i h0
      have := l2 (by simpa using h0)
      omega
  · rw [PyData.showable, decide_eq_true_eq]
    by_cases h0 : i.natAbs = 0
    · rw [h0]; decide
    · exact Nat.lt_trans (l2 h0) (by decide)
theorem rb_none : RB 0 0 .none := by
  refine ⟨?_, ?_, ?_, ?_, ?_⟩ <;> simp [PyData.leavesShort, PyData.weight, PyData.showable, PyData.depth, repOk]
theorem rb_bool (b : Bool) : RB 0 0 (.bool b) := by
  refine ⟨?_, ?_, ?_, ?_, ?_⟩ <;> simp [PyData.leavesShort, PyData.weight, PyData.showable, PyData.depth, repOk]
theorem rb_str {s : Str} (ok : PyData.strOk s = true) {w : Nat} (h : s.cps.size ≤ w) : RB w 0 (.str s) := by
  refine ⟨PySem.PyData.leavesShort_of_canLay0 13 _ (by rw [PyData.canLay0]; exact ok) (by simp [PyData.intsShort]), by simp [PyData.weight]; exact h, by simp [PyData.showable], by simp [PyData.depth], by simp [repOk]⟩
theorem rb_all {w k : Nat} : ∀ {ds : List D}, (∀ d ∈ ds, RB w k d) → PyData.leavesShortAll 13 ds = true ∧ PyData.weightAll ds ≤ ds.length * (w + 1) ∧ PyData.showableAll ds = true ∧ PyData.depthAll ds ≤ k ∧ repOks ds = true
  | [], _ => by simp [PyData.leavesShortAll, PyData.weightAll, PyData.showableAll, PyData.depthAll, repOks]
  | d :: ds, h => by
    have a := h d (List.mem_cons_self ..)
    obtain ⟨b1, b2, b3, b4, b5⟩ := rb_all (ds := ds) fun x hx => h x (List.mem_cons_of_mem _ hx)
    have c1 := a.wt
    have c2 := a.dp
    refine ⟨by simp [PyData.leavesShortAll, a.short, b1], ?_, by simp [PyData.showableAll, a.sh, b3], by simp only [PyData.depthAll]; omega, by simp [repOks, a.rk, b5]⟩
    simp only [PyData.weightAll, List.length_cons, Nat.add_mul, Nat.one_mul]
    omega
theorem rb_list {w k : Nat} {ds : List D} (h : ∀ d ∈ ds, RB w k d) : RB (ds.length * (w + 1)) (k + 1) (.list ds) := by
  obtain ⟨b1, b2, b3, b4, b5⟩ := rb_all h
  refine ⟨by rw [PyData.leavesShort]; exact b1, by rw [PyData.weight]; exact b2, by rw [PyData.showable]; exact b3, by rw [PyData.depth]; omega, by rw [repOk]; exact b5⟩
theorem rb_tup {w k : Nat} {ds : List D} (h : ∀ d ∈ ds, RB w k d) : RB (ds.length * (w + 1)) (k + 1) (.tuple ds) := by
  obtain ⟨b1, b2, b3, b4, b5⟩ := rb_all h
  refine ⟨by rw [PyData.leavesShort]; exact b1, by rw [PyData.weight]; exact b2, by rw [PyData.showable]; exact b3, by rw [PyData.depth]; omega, by rw [repOk]; exact b5⟩
theorem rb_len {w k : Nat} {d : D} (h : RB w k d) (hw : w ≤ 2 ^ 20) : d.shown.length ≤ sizeLine := PySem.PyData.shown_fits (by decide) (by decide) h.short (Nat.le_trans h.wt hw)
theorem repr_l {w k : Nat} {ds : List D} (h : RB w k (.list ds)) (hw : w ≤ 2 ^ 20) (hk : k ≤ 60) : reprD [.list ds] = some (.d (.str (PyData.shown (.list ds)))) := by
  have r := h.rk
  rw [repOk] at r
  show (if okRepr (.list ds) = true then _ else none) = _
  rw [if_pos]
  unfold okRepr
  simp only [r, h.sh, decide_eq_true (Nat.le_trans h.dp hk), decide_eq_true (rb_len h hw), Bool.and_self]
theorem repr_t {w k : Nat} {ds : List D} (h : RB w k (.tuple ds)) (hw : w ≤ 2 ^ 20) (hk : k ≤ 60) : reprD [.tuple ds] = some (.d (.str (PyData.shown (.tuple ds)))) := by
  have r := h.rk
  rw [repOk] at r
  show (if okRepr (.tuple ds) = true then _ else none) = _
  rw [if_pos]
  unfold okRepr
  simp only [r, h.sh, decide_eq_true (Nat.le_trans h.dp hk), decide_eq_true (rb_len h hw), Bool.and_self]
theorem rb_kv {w : Nat} : ∀ {kvs : List (D × D)}, (∀ p ∈ kvs, RB w 0 p.1 ∧ RB w 0 p.2) → PyData.leavesShortKv 13 kvs = true ∧ PyData.weightKv kvs ≤ kvs.length * (w + w + 2) ∧ PyData.showableKv kvs = true ∧ PyData.depthKv kvs ≤ 0
  | [], _ => by simp [PyData.leavesShortKv, PyData.weightKv, PyData.showableKv, PyData.depthKv]
  | (k, v) :: r, h => by
    obtain ⟨a, b⟩ := h (k, v) (List.mem_cons_self ..)
    obtain ⟨b1, b2, b3, b4⟩ := rb_kv (kvs := r) fun x hx => h x (List.mem_cons_of_mem _ hx)
    have c1 := a.wt
    have c2 := a.dp
    have d1 := b.wt
    have d2 := b.dp
    dsimp only at c1 c2 d1 d2
    have s1 := a.short
    have s2 := b.short
    have t1 := a.sh
    have t2 := b.sh
    dsimp only at s1 s2 t1 t2
    refine ⟨by simp [PyData.leavesShortKv, s1, s2, b1], ?_, by simp [PyData.showableKv, t1, t2, b3], by simp only [PyData.depthKv]; omega⟩
    simp only [PyData.weightKv, List.length_cons, Nat.add_mul, Nat.one_mul]
    omega
theorem repr_d {w : Nat} {kvs : List (D × D)} (h : ∀ p ∈ kvs, RB w 0 p.1 ∧ RB w 0 p.2) (hp : ∀ p ∈ kvs, plainD p.2 = true) (hw : kvs.length * (w + w + 2) ≤ 2 ^ 20) : reprD [.dict kvs] = some (.d (.str (PyData.shown (.dict kvs)))) := by
  obtain ⟨b1, b2, b3, b4⟩ := rb_kv h
  have pk : plainK kvs = true := List.all_eq_true.mpr hp
  have dk : PyData.depth (.dict kvs) ≤ 60 := by rw [PyData.depth]; omega
  have ln : (PyData.shown (.dict kvs)).length ≤ sizeLine := PySem.PyData.shown_fits (B := 13) (by decide) (by decide) (by rw [PyData.leavesShort]; exact b1) (by rw [PyData.weight]; omega)
  have sw : PyData.showable (.dict kvs) = true := by rw [PyData.showable]; exact b3
  show (if okRepr (.dict kvs) = true then _ else none) = _
  rw [if_pos]
  unfold okRepr
  simp only [pk, sw, decide_eq_true dk, decide_eq_true ln, Bool.and_self]
end DD

open DD
local macro_rules
  | `(tactic| wp_walk using $rs,*) => `(tactic| simp only [$[$rs:term],*, wk_bnd, wk_bndD, wk_and, wk_or, wk_andV, wk_orV, wk_notV, wk_if, wk_cons, wk_call, wk_callN, wk_callP, wk_B, wk_fgt, wk_expr, wk_mret, wk_for, wk_get, k_bnd_ok, k_bndD_ok, k_and_ok, k_or_ok, k_andV_ok, k_orV_ok, k_notV_ok, k_if_ok, k_cons_ok, k_call_ok, k_callN_ok, k_callP_ok, k_B_ok, k_fgt_ok, k_expr_ok, k_mret_ok, k_for_ok, k_get_ok, k_bnd_ex, k_bndD_ex, k_and_ex, k_or_ex, k_andV_ex, k_orV_ex, k_notV_ex, k_if_ex, k_cons_ex, k_call_ex, k_callN_ex, k_callP_ex, k_B_ex, k_fgt_ex, k_expr_ex, k_mret_ex, k_for_ex, k_get_ex, k_cons2_ok, k_cons2_ex, wk_seq, k_seq_nx, k_seq_bk, k_seq_ct, k_seq_rt, k_seq_ex, wk_frz, k_frz_nx, k_frz_bk, k_frz_ct, k_frz_rt, k_frz_ex, wk_asg, k_asg_ok, k_asg_ex, k_asg2_ok, wk_gsCons, k_gs_ok, wk_pure, k_pure_ok, wk_pureT, k_pureT_ok, wk_comp, k_comp_ok, k_comp_ex, k_comp2_ok, wk_dcomp, k_dcomp_ok, k_dcomp2_ok, wk_meth, k_meth_ok, wk_setItem, k_item_ok, k_item2_ok, wk_partS, k_part_ok, wk_fn, k_fn_rt, k_fn_nx, k_fn_ex, wk_par2, k_par2_ok, wk_par3, k_par3_ok, k_forO_ok, wp_ret, wp_fail, wp_lift_some, wp_lift_if, wp_lift, wp_name, wp_move, wp_C, wp_op, wp_un, wp_test, wp_not, wp_ite, wp_nil, wp_mkL, wp_mkT, hd1_cons, wp_unO, wp_set, wp_gsNil, wp_gTupT, wp_gTupO, wp_it, wp_range, wp_range2, wp_zip, wp_enum, wp_compK, wp_forK, wp_slice, wp_partN, wp_dictNew, wp_chain, onOk_ok, onOk_ex, onCtl_nx, onCtl_bk, onCtl_ct, onCtl_rt, onCtl_ex, onLp_nx, onLp_ct, onLp_bk, onLp_rt, onLp_ex, frz_z, frz_s, frzs_nil, frzs_cons, fgt_nil, fgt_cons, wipeS_nil, wipeS_cons, unwipe_nil, unwipe_cons, mask_0, mask_s, full_d, full_un, full_l, full_t, full_k, fulls_nil, fulls_cons, fulls_d, fulls_iff, toD_d, toD_l, toD_t, toD_k, toDs_nil, toDs_cons, toDs_d, toDs_map, toDk_nil, fullk_nil, frz1_un, frz1_d, frz1_if, scal_b, scal_i, scal_s, scal_n, isUn_un, isUn_d, isUn_l, isUn_t, isUn_k, isLst_l, isLst_d, isSeq_l, isSeq_k, truth_b, boolSV_b, add_i, add_l, add_t, sub_i, mul_i, mod_i, fdiv_i, pow_i, neg_i, eq_i, ne_i, eq_s, ne_s, eq_b, ne_b, lt_i, lt_s, le_i, gt_i, ge_i, is_n, isNot_n, is_b, isNot_b, isN_n, isN_b, isN_i, isN_s, isN_l, isN_t, isN_d, at_l0, at_t0, at_t1, at_t2, at_t3, at_t4, at_l1, at_l2, at_l3, len_l, len_t, len_d, int_i, max_2, min_2, items_l, items_t, range_1, range_2, slice_l, slice_t, append_l, set_k, dKey_s, dKey_i, ex_if, ord2_2, ord1_id, zip_l, zip_t, notInD, List.getElem?_cons_zero, List.getElem?_cons_succ, Option.some.injEq, PySem.PyData.int.injEq, PySem.PyData.dict.injEq, exists_eq_left', exists_eq_left, List.set_cons_zero, List.set_cons_succ, List.length_cons, List.length_nil, List.length_map, List.map_cons, List.map_nil, List.cons_append, List.nil_append, List.append_nil, if_true, if_false, reduceIte, Bool.false_eq_true, Bool.not_true, Bool.not_false, Bool.and_true, Bool.true_and, Bool.and_self, decide_eq_true_eq, decide_true, decide_false, and_true, true_and, Option.map_some, Option.bind_some, Option.getD_some, List.contains_nil, List.contains_cons, List.reduceReplicate, Bool.or_false, Bool.false_or, Nat.reduceSub, Nat.reduceAdd, Nat.reduceLT, Nat.reduceLeDiff, Nat.reduceEqDiff, Nat.reduceBEq, Nat.zero_le, List.map_id', fullk_d, fullk_iff, toDk_map, sz1, sz2, sz3, sz4, sz5, sz6, sz7, sz8, sz9, sz10, sz11, sz12, sy0, sy1, sy2, sy3, sy4, sy5, sy6, sy7, sy8, sy9, sy10, sy11, implies_true, all_l, any_l, max_l, min_l, sum_l])
  | `(tactic| wp_walk) => `(tactic| wp_walk using wp_ret)
local macro_rules
  | `(tactic| walk_at "st") => `(tactic| simp only [wk_bnd, wk_bndD, wk_and, wk_or, wk_andV, wk_orV, wk_notV, wk_if, wk_cons, wk_call, wk_callN, wk_callP, wk_B, wk_fgt, wk_expr, wk_mret, wk_for, wk_get, k_bnd_ok, k_bndD_ok, k_and_ok, k_or_ok, k_andV_ok, k_orV_ok, k_notV_ok, k_if_ok, k_cons_ok, k_call_ok, k_callN_ok, k_callP_ok, k_B_ok, k_fgt_ok, k_expr_ok, k_mret_ok, k_for_ok, k_get_ok, k_bnd_ex, k_bndD_ex, k_and_ex, k_or_ex, k_andV_ex, k_orV_ex, k_notV_ex, k_if_ex, k_cons_ex, k_call_ex, k_callN_ex, k_callP_ex, k_B_ex, k_fgt_ex, k_expr_ex, k_mret_ex, k_for_ex, k_get_ex, k_cons2_ok, k_cons2_ex, wk_seq, k_seq_bk, k_seq_ct, k_seq_rt, k_seq_ex, wk_frz, k_frz_nx, k_frz_bk, k_frz_ct, k_frz_rt, k_frz_ex, wk_asg, k_asg_ok, k_asg_ex, k_asg2_ok, wk_gsCons, k_gs_ok, wk_pure, k_pure_ok, wk_pureT, k_pureT_ok, wk_comp, k_comp_ok, k_comp_ex, k_comp2_ok, wk_dcomp, k_dcomp_ok, k_dcomp2_ok, wk_meth, k_meth_ok, wk_setItem, k_item_ok, k_item2_ok, wk_partS, k_part_ok, wk_fn, k_fn_rt, k_fn_nx, k_fn_ex, wk_par2, k_par2_ok, wk_par3, k_par3_ok, k_forO_ok, wp_ret, wp_fail, wp_lift_some, wp_lift_if, wp_lift, wp_name, wp_move, wp_C, wp_op, wp_un, wp_test, wp_not, wp_ite, wp_nil, wp_mkL, wp_mkT, hd1_cons, wp_unO, wp_set, wp_gsNil, wp_gTupT, wp_gTupO, wp_it, wp_range, wp_range2, wp_zip, wp_enum, wp_compK, wp_forK, wp_slice, wp_partN, wp_dictNew, wp_chain, onOk_ok, onOk_ex, onCtl_nx, onCtl_bk, onCtl_ct, onCtl_rt, onCtl_ex, onLp_nx, onLp_ct, onLp_bk, onLp_rt, onLp_ex, frz_z, frz_s, frzs_nil, frzs_cons, fgt_nil, fgt_cons, wipeS_nil, wipeS_cons, unwipe_nil, unwipe_cons, mask_0, mask_s, full_d, full_un, full_l, full_t, full_k, fulls_nil, fulls_cons, fulls_d, fulls_iff, toD_d, toD_l, toD_t, toD_k, toDs_nil, toDs_cons, toDs_d, toDs_map, toDk_nil, fullk_nil, frz1_un, frz1_d, frz1_if, scal_b, scal_i, scal_s, scal_n, isUn_un, isUn_d, isUn_l, isUn_t, isUn_k, isLst_l, isLst_d, isSeq_l, isSeq_k, truth_b, boolSV_b, add_i, add_l, add_t, sub_i, mul_i, mod_i, fdiv_i, pow_i, neg_i, eq_i, ne_i, eq_s, ne_s, eq_b, ne_b, lt_i, lt_s, le_i, gt_i, ge_i, is_n, isNot_n, is_b, isNot_b, isN_n, isN_b, isN_i, isN_s, isN_l, isN_t, isN_d, at_l0, at_t0, at_t1, at_t2, at_t3, at_t4, at_l1, at_l2, at_l3, len_l, len_t, len_d, int_i, max_2, min_2, items_l, items_t, range_1, range_2, slice_l, slice_t, append_l, set_k, dKey_s, dKey_i, ex_if, ord2_2, ord1_id, zip_l, zip_t, notInD, List.getElem?_cons_zero, List.getElem?_cons_succ, Option.some.injEq, PySem.PyData.int.injEq, PySem.PyData.dict.injEq, exists_eq_left', exists_eq_left, List.set_cons_zero, List.set_cons_succ, List.length_cons, List.length_nil, List.length_map, List.map_cons, List.map_nil, List.cons_append, List.nil_append, List.append_nil, if_true, if_false, reduceIte, Bool.false_eq_true, Bool.not_true, Bool.not_false, Bool.and_true, Bool.true_and, Bool.and_self, decide_eq_true_eq, decide_true, decide_false, and_true, true_and, Option.map_some, Option.bind_some, Option.getD_some, List.contains_nil, List.contains_cons, List.reduceReplicate, Bool.or_false, Bool.false_or, Nat.reduceSub, Nat.reduceAdd, Nat.reduceLT, Nat.reduceLeDiff, Nat.reduceEqDiff, Nat.reduceBEq, Nat.zero_le, List.map_id', fullk_d, fullk_iff, toDk_map, sz1, sz2, sz3, sz4, sz5, sz6, sz7, sz8, sz9, sz10, sz11, sz12, sy0, sy1, sy2, sy3, sy4, sy5, sy6, sy7, sy8, sy9, sy10, sy11, implies_true, all_l, any_l, max_l, min_l, sum_l])
set_option Elab.async false
set_option linter.all false
set_option maxRecDepth 100000
set_option maxHeartbeats 4000000
namespace K71
open PySem PySem.Spec PyProof.Rows L2 DD
def f_is_whole_b : M Ctl :=
  (mRet (mAndV (mUn (isiM "int") (mName 0)) (mNotV (mUn (isiM "bool") (mName 0)))))
def f_is_whole : M SV := fnM 1 1 [] f_is_whole_b

def f_is_count_b : M Ctl :=
  (mRet (mAndV (mCall f_is_whole [] (mCons (mName 0) mNil)) (mOp geD (mName 0) (mB maxD (mCons (mName 1) (mCons (mC (.int 0)) mNil))))))
def f_is_count : M SV := fnM 2 2 [] f_is_count_b

def f_is_word_b : M Ctl :=
  (mRet (mAndV (mUn (isiM "str") (mName 0)) (mAndV (mChain ltD2 ltD2 (mC (.int 0)) (mB lenD (mCons (mName 0) mNil)) (mC (.int 13))) (mB allD (mCons (mComp 2 [1] (mIt (mName 0)) (gSet 1) (ret true) (mChain leD leD (mC (.str "a")) (mName 1) (mC (.str "z")))) mNil)))))
def f_is_word : M SV := fnM 1 2 [] f_is_word_b

def f_is_tuple_of_b : M Ctl :=
  (mRet (mAndV (mUn (isiM "tuple") (mName 0)) (mOp eqD (mB lenD (mCons (mName 0) mNil)) (mName 1))))
def f_is_tuple_of : M SV := fnM 2 2 [] f_is_tuple_of_b

def f_is_said_b : M Ctl :=
  (mRet (mAndV (mCall f_is_tuple_of [] (mCons (mName 0) (mCons (mName 2) mNil))) (mAndV (mUn (isiM "str") (mOp atD (mName 0) (mC (.int 0)))) (mOp eqD (mOp atD (mName 0) (mC (.int 0))) (mName 1)))))
def f_is_said : M SV := fnM 3 3 [] f_is_said_b

def f_is_web_flight_b : M Ctl :=
  (mSeq (mIf (mOr (mNot (mTest (mCall f_is_tuple_of [] (mCons (mName 0) (mCons (mC (.int 4)) mNil))))) (mOr (mNot (mTest (mCall f_is_word [] (mCons (mOp atD (mName 0) (mC (.int 0))) mNil)))) (mNot (mTest (mCall f_is_whole [] (mCons (mOp atD (mName 0) (mC (.int 1))) mNil)))))) (mRet (mC (.bool false))) (ret .nx))
  (mRet (mAndV (mCall f_is_count [] (mCons (mOp atD (mName 0) (mC (.int 2))) (mCons (mC (.int 1)) mNil))) (mCall f_is_count [] (mCons (mOp atD (mName 0) (mC (.int 3))) (mCons (mOp atD (mName 0) (mC (.int 2))) mNil))))))
def f_is_web_flight : M SV := fnM 1 1 [] f_is_web_flight_b

def f_is_web_link_b : M Ctl :=
  (mSeq (mIf (mOr (mNot (mTest (mCall f_is_tuple_of [] (mCons (mName 1) (mCons (mC (.int 3)) mNil))))) (mOr (mNot (mTest (mCall f_is_word [] (mCons (mOp atD (mName 1) (mC (.int 0))) mNil)))) (mOr (mNot (mTest (mCall f_is_word [] (mCons (mOp atD (mName 1) (mC (.int 1))) mNil)))) (mNot (mTest (mCall f_is_count [.int 0] (mCons (mOp atD (mName 1) (mC (.int 2))) mNil))))))) (mRet (mC (.bool false))) (ret .nx))
  (mRet (mAndV (mOp inD (mOp atD (mName 1) (mC (.int 0))) (mName 0)) (mOp inD (mOp atD (mName 1) (mC (.int 1))) (mName 0)))))
def f_is_web_link : M SV := fnM 2 2 [] f_is_web_link_b

def f_flights_in_order_b : M Ctl :=
  (mSeq (mFrz [2] (mAsg (bnd mNil mkL) (gSet 2)))
  (mSeq (mFor (mRange (mCons (mB lenD (mCons (mName 0) mNil)) mNil)) (gSet 3) (mFgt [3, 4] (mSeq (mFrz [4] (mAsg (mComp 7 [5] (mIt (mName 0)) (gSet 5) (mTest (mOp notInD (mName 5) (mName 2))) (mName 5)) (gSet 4)))
  (mSeq (mFrz [4] (mAsg (mComp 7 [5] (mIt (mName 4)) (gSet 5) (mTest (mB allD (mCons (mComp 7 [6] (mIt (mName 1)) (gSet 6) (mTest (mOp eqD (mOp atD (mName 6) (mC (.int 1))) (mName 5))) (mOp inD (mOp atD (mName 6) (mC (.int 0))) (mName 2))) mNil))) (mName 5)) (gSet 4)))
  (mFrz [2] (mAsg (mOp addD (mName 2) (mName 4)) (gSet 2)))))))
  (mRet (mIf (mTest (mOp eqD (mB lenD (mCons (mName 2) mNil)) (mB lenD (mCons (mName 0) mNil)))) (mName 2) (mC .none)))))
def f_flights_in_order : M SV := fnM 2 7 [] f_flights_in_order_b

def f_names_of_web_b : M Ctl :=
  (mRet (mComp 2 [1] (mIt (mOp atD (mName 0) (mC (.int 1)))) (gSet 1) (ret true) (mOp atD (mName 1) (mC (.int 0)))))
def f_names_of_web : M SV := fnM 1 2 [] f_names_of_web_b

def f_is_web_b : M Ctl :=
  (mSeq (mIf (mOr (mNot (mTest (mCall f_is_said [] (mCons (mName 0) (mCons (mC (.str "web")) (mCons (mC (.int 3)) mNil)))))) (mOr (mNot (mTest (mUn (isiM "list") (mOp atD (mName 0) (mC (.int 1)))))) (mNot (mTest (mUn (isiM "list") (mOp atD (mName 0) (mC (.int 2)))))))) (mRet (mC (.bool false))) (ret .nx))
  (mSeq (mIf (mOr (mTest (mOp eqD (mB lenD (mCons (mOp atD (mName 0) (mC (.int 1))) mNil)) (mC (.int 0)))) (mNot (mTest (mB allD (mCons (mComp 6 [1] (mIt (mOp atD (mName 0) (mC (.int 1)))) (gSet 1) (ret true) (mCall f_is_web_flight [] (mCons (mName 1) mNil))) mNil))))) (mRet (mC (.bool false))) (ret .nx))
  (mSeq (mFrz [2, 3] (mAsg (bnd (mCons (mCall f_names_of_web [] (mCons (mName 0) mNil)) (mCons (mOp atD (mName 0) (mC (.int 2))) mNil)) mkT) (gTupD 2 (gsCons (gSet 2) (gsCons (gSet 3) gsNil)))))
  (mSeq (mIf (mNot (mTest (mB allD (mCons (mComp 6 [4] (mRange2 (mCons (mC (.int 1)) (mCons (mB lenD (mCons (mName 2) mNil)) mNil))) (gSet 4) (ret true) (mOp ltD2 (mOp atD (mName 2) (mOp subD (mName 4) (mC (.int 1)))) (mOp atD (mName 2) (mName 4)))) mNil)))) (mRet (mC (.bool false))) (ret .nx))
  (mSeq (mIf (mNot (mTest (mB allD (mCons (mComp 6 [5] (mIt (mName 3)) (gSet 5) (ret true) (mCall f_is_web_link [] (mCons (mName 2) (mCons (mName 5) mNil)))) mNil)))) (mRet (mC (.bool false))) (ret .nx))
  (mSeq (mIf (mNot (mTest (mB allD (mCons (mComp 6 [4] (mRange2 (mCons (mC (.int 1)) (mCons (mB lenD (mCons (mName 3) mNil)) mNil))) (gSet 4) (ret true) (mOp ltD2 (mSlice (mOp atD (mName 3) (mOp subD (mName 4) (mC (.int 1)))) none (some (mC (.int 2)))) (mSlice (mOp atD (mName 3) (mName 4)) none (some (mC (.int 2)))))) mNil)))) (mRet (mC (.bool false))) (ret .nx))
  (mRet (mOp isNotD (mCall f_flights_in_order [] (mCons (mName 2) (mCons (mName 3) mNil))) (mC .none)))))))))
def f_is_web : M SV := fnM 1 6 [] f_is_web_b

def f_check_web_b : M Ctl :=
  (mIf (mNot (mTest (mCall f_is_web [] (mCons (mName 0) mNil)))) fail (ret .nx))
def f_check_web : M SV := fnM 1 1 [] f_check_web_b

def f_is_run_of_web_b : M Ctl :=
  (mSeq (mIf (mOr (mNot (mTest (mUn (isiM "dict") (mName 1)))) (mTest (mOp neD (mB lenD (mCons (mName 1) mNil)) (mB lenD (mCons (mOp atD (mName 0) (mC (.int 1))) mNil))))) (mRet (mC (.bool false))) (ret .nx))
  (mSeq (mFor (mIt (mOp atD (mName 0) (mC (.int 1)))) (gTupD 4 (gsCons (gSet 2) (gsCons (gSet 3) (gsCons (gSet 4) (gsCons (gSet 5) gsNil))))) (mFgt [2, 3, 4, 5] (mIf (mOr (mTest (mOp notInD (mName 2) (mName 1))) (mOr (mNot (mTest (mCall f_is_count [] (mCons (mOp atD (mName 1) (mName 2)) (mCons (mName 4) mNil))))) (mTest (mOp gtD (mOp atD (mName 1) (mName 2)) (mName 5))))) (mRet (mC (.bool false))) (ret .nx))))
  (mRet (mC (.bool true)))))
def f_is_run_of_web : M SV := fnM 2 6 [] f_is_run_of_web_b

def f_is_web_course_b : M Ctl :=
  (mSeq (mExpr (mCall f_check_web [] (mCons (mName 0) mNil)))
  (mRet (mCall f_is_run_of_web [] (mCons (mName 0) (mCons (mName 1) mNil)))))
def f_is_web_course : M SV := fnM 2 2 [] f_is_web_course_b

def f_web_times_by_b : M Ctl :=
  (mSeq (mFrz [3] (mAsg (bnd (mCons mDictNew (mCons (mDComp 11 [4] (mIt (mOp atD (mName 0) (mC (.int 1)))) (gSet 4) (ret true) (mOp atD (mName 4) (mC (.int 0))) (mOp atD (mName 4) (mC (.int 1)))) mNil)) mkT) (gTupD 2 (gsCons (gSet 2) (gsCons (gSet 3) gsNil)))))
  (mSeq (mFor (mIt (mCall f_flights_in_order [] (mCons (mCall f_names_of_web [] (mCons (mName 0) mNil)) (mCons (mOp atD (mName 0) (mC (.int 2))) mNil)))) (gSet 5) (mFgt [5, 6, 10] (mSeq (mFrz [6] (mAsg (mComp 11 [7, 8, 9] (mIt (mOp atD (mName 0) (mC (.int 2)))) (gTupD 3 (gsCons (gSet 7) (gsCons (gSet 8) (gsCons (gSet 9) gsNil)))) (mTest (mOp eqD (mName 8) (mName 5))) (mPure (mOp addD (mOp atD (mOp atD (mName 2) (mName 7)) (mC (.int 1))) (mName 9)))) (gSet 6)))
  (mSeq (mAsg (mB maxD (mCons (mOp addD (bnd (mCons (mOp atD (mName 3) (mName 5)) mNil) mkL) (mName 6)) mNil)) (gSet 10))
  (mSetItem 2 (bnd (mCons (mName 10) (mCons (mOp addD (mName 10) (mOp atD (mName 1) (mName 5))) mNil)) mkT) (mName 5))))))
  (mRet (mMove 2))))
def f_web_times_by : M SV := fnM 2 11 [] f_web_times_by_b

def f_web_times_b : M Ctl :=
  (mSeq (mExpr (mCall f_check_web [] (mCons (mName 0) mNil)))
  (mSeq (mIf (mNot (mTest (mCall f_is_run_of_web [] (mCons (mName 0) (mCons (mName 1) mNil))))) fail (ret .nx))
  (mSeq (mFrz [2] (mAsg (mCall f_web_times_by [] (mCons (mName 0) (mCons (mName 1) mNil))) (gSet 2)))
  (mRet (mComp 4 [3] (mIt (mCall f_names_of_web [] (mCons (mName 0) mNil))) (gSet 3) (ret true) (mOp addD (bnd (mCons (mName 3) mNil) mkT) (mOp atD (mName 2) (mName 3))))))))
def f_web_times : M SV := fnM 2 4 [] f_web_times_b

def f_law_purse_b : M Ctl :=
  (mSeq (mAsg (mB sumD (mCons (mSlice (mName 0) (some (mName 1)) (some (mOp addD (mName 1) (mC (.int 1))))) mNil)) (gSet 2))
  (mRet (bnd (mCons (mOp modD (mB intCD (mCons (mB maxD (mCons (mOp subD (mName 2) (mOp powD (mC (.int 10)) (mC (.int 18)))) (mCons (mC (.int 0)) mNil))) mNil)) (mOp powD (mOp powD (mC (.int 10)) (mC (.int 60))) (mC (.int 8)))) (mCons (mOp modD (mB intCD (mCons (mName 2) mNil)) (mC (.int 2147483629))) (mCons (mC (.int 0)) (mCons (mName 1) mNil)))) mkL)))
def f_law_purse : M SV := fnM 2 3 [] f_law_purse_b

def f_law_mixed_b : M Ctl :=
  (mSeq (mAsg (mOp addD (mOp mulD (mName 0) (mC (.int 69069))) (mOp mulD (mOp mulD (mC (.int 104729)) (mName 1)) (mName 1))) (gSet 3))
  (mSeq (mAsg (mOp modD (mB intCD (mCons (mOp addD (mOp addD (mName 3) (mOp mulD (mC (.int 7919)) (mName 2))) (mName 1)) mNil)) (mC (.int 2147483647))) (gSet 3))
  (mSeq (mAsg (mOp modD (mB intCD (mCons (mOp addD (mOp mulD (mName 3) (mName 3)) (mC (.int 40503))) mNil)) (mC (.int 2147483629))) (gSet 3))
  (mRet (mOp modD (mB intCD (mCons (mOp mulD (mName 3) (mC (.int 48271))) mNil)) (mC (.int 2147483587)))))))
def f_law_mixed : M SV := fnM 3 4 [] f_law_mixed_b

def f_law_draw_b : M Ctl :=
  (mSeq (mIf (mPureT (mTest (mOp gtD (mOp atD (mName 0) (mC (.int 0))) (mC (.int 0))))) (mSeq (mAsg (mPure (mOp modD (mB intCD (mCons (mOp atD (mName 0) (mC (.int 0))) mNil)) (mName 1))) (gSet 2))
  (mSeq (mSetItem 0 (mPure (mOp fdivD (mOp atD (mName 0) (mC (.int 0))) (mName 1))) (mC (.int 0)))
  (mRet (mMove 2)))) (ret .nx))
  (mSeq (mAsg (mC (.int 0)) (gSet 3))
  (mSeq (mFor (mRange (mCons (mOp addD (mC (.int 1)) (mOp fdivD (mUn bitsD (mName 1)) (mC (.int 28)))) mNil)) (gSet 4) (mFgt [4] (mSeq (mSetItem 0 (mPure (mOp addD (mOp atD (mName 0) (mC (.int 2))) (mC (.int 1)))) (mC (.int 2)))
  (mAsg (mPure (mOp addD (mOp mulD (mName 3) (mC (.int 2147483587))) (mCall f_law_mixed [] (mCons (mOp atD (mName 0) (mC (.int 1))) (mCons (mOp atD (mName 0) (mC (.int 2))) (mCons (mOp atD (mName 0) (mC (.int 3))) mNil)))))) (gSet 3)))))
  (mRet (mOp modD (mB intCD (mCons (mName 3) mNil)) (mName 1))))))
def f_law_draw : M SV := fnM 2 5 [0] f_law_draw_b

def f_law_purses_b : M Ctl :=
  (mRet (mComp 3 [2] (mRange (mCons (mB maxD (mCons (mC (.int 1)) (mCons (mB minD (mCons (mName 1) (mCons (mB lenD (mCons (mName 0) mNil)) mNil))) mNil))) mNil)) (gSet 2) (ret true) (mCall f_law_purse [] (mCons (mName 0) (mCons (mName 2) mNil)))))
def f_law_purses : M SV := fnM 2 3 [] f_law_purses_b

def f_law_one_of_b : M Ctl :=
  (mRet (mOp atD (mName 1) (mCallP f_law_draw [] 0 (mCons (mB lenD (mCons (mName 1) mNil)) mNil))))
def f_law_one_of : M SV := fnM 2 2 [0] f_law_one_of_b

def f_law_shuffled_b : M Ctl :=
  (mSeq (mAsg (bnd mNil mkL) (gSet 2))
  (mSeq (mFor (mIt (mName 1)) (gSet 3) (mFgt [3] (mExpr (mMeth 2 insertO (mCons (mCallP f_law_draw [] 0 (mCons (mPure (mOp addD (mB lenD (mCons (mName 2) mNil)) (mC (.int 1)))) mNil)) (mCons (mName 3) mNil))))))
  (mRet (mMove 2))))
def f_law_shuffled : M SV := fnM 2 4 [0] f_law_shuffled_b

def f_law_exact_b (r : M SV) : M Ctl :=
  (mSeq (mIf (mTest (mUn (isiM2 "list" "tuple") (mName 0))) (mSeq (mAsg (mOp eqD (mUn (isiM "list") (mName 1)) (mUn (isiM "list") (mName 0))) (gSet 2))
  (mSeq (mFrz [3] (mAsg (mAndV (mName 2) (mOp eqD (mUn (isiM "tuple") (mName 1)) (mUn (isiM "tuple") (mName 0)))) (gSet 3)))
  (mRet (mAndV (mName 3) (mAndV (mOp eqD (mB lenD (mCons (mName 0) mNil)) (mB lenD (mCons (mName 1) mNil))) (mB allD (mCons (mComp 6 [4, 5] (mZip (mName 0) (mName 1)) (gTupD 2 (gsCons (gSet 4) (gsCons (gSet 5) gsNil))) (ret true) (mCall r [] (mCons (mName 4) (mCons (mName 5) mNil)))) mNil))))))) (ret .nx))
  (mSeq (mIf (mOr (mTest (mUn (isiM2 "list" "tuple") (mName 1))) (mTest (mOp neD (mOp isD (mName 0) (mC .none)) (mOp isD (mName 1) (mC .none))))) (mRet (mC (.bool false))) (ret .nx))
  (mSeq (mFrz [3] (mAsg (mAndV (mOp eqD (mUn (isiM "int") (mName 0)) (mUn (isiM "int") (mName 1))) (mOp eqD (mUn (isiM "str") (mName 0)) (mUn (isiM "str") (mName 1)))) (gSet 3)))
  (mRet (mAndV (mName 3) (mAndV (mOp eqD (mUn (isiM "bool") (mName 0)) (mUn (isiM "bool") (mName 1))) (mOp eqD (mName 0) (mName 1))))))))
def f_law_exact : Nat → M SV
  | 0 => fail
  | d + 1 => fnM 2 6 [] (f_law_exact_b (f_law_exact d))

def f_law_names_b : M Ctl :=
  (mSeq (mFrz [2] (mAsg (mCallP f_law_one_of [] 0 (mCons (bnd (mCons (bnd (mCons (mC (.str "ada")) (mCons (mC (.str "bob")) (mCons (mC (.str "cid")) (mCons (mC (.str "dan")) (mCons (mC (.str "eve")) (mCons (mC (.str "fox")) (mCons (mC (.str "gus")) (mCons (mC (.str "hal")) (mCons (mC (.str "ida")) (mCons (mC (.str "jon")) mNil)))))))))) mkL) (mCons (mB listD2 (mCons (mC (.str "abcdefghij")) mNil)) (mCons (bnd (mCons (mC (.str "a")) (mCons (mC (.str "ab")) (mCons (mC (.str "abc")) (mCons (mC (.str "b")) (mCons (mC (.str "ba")) (mCons (mC (.str "c")) (mCons (mC (.str "cab")) (mCons (mC (.str "d")) (mCons (mC (.str "dab")) (mCons (mC (.str "e")) mNil)))))))))) mkL) mNil))) mkL) mNil)) (gSet 2)))
  (mSeq (mAsg (mB listD2 (mCons (mName 2) mNil)) (gSet 3))
  (mSeq (mWhile (mPureT (mTest (mOp gtD (mB lenD (mCons (mName 3) mNil)) (mName 1)))) (mExpr (mMeth 3 popAtO (mCons (mCallP f_law_draw [] 0 (mCons (mPure (mB lenD (mCons (mName 3) mNil))) mNil)) mNil))) 1000000)
  (mRet (mMove 3)))))
def f_law_names : M SV := fnM 2 4 [0] f_law_names_b

def f_law_web_b : M Ctl :=
  (mSeq (mFrz [4] (mPar [4, 5, 6] (mCons (mCallP f_law_names [] 0 (mCons (mName 1) mNil)) (mCons (bnd mNil mkL) (mCons (bnd mNil mkL) mNil)))))
  (mSeq (mFrz [7] (mAsg (mCallP f_law_shuffled [] 0 (mCons (mName 4) mNil)) (gSet 7)))
  (mSeq (mFor (mIt (mName 4)) (gSet 8) (mFgt [8, 9] (mSeq (mAsg (mOp addD (mC (.int 1)) (mCallP f_law_draw [] 0 (mCons (mCallP f_law_one_of [] 0 (mCons (bnd (mCons (mC (.int 3)) (mCons (mC (.int 30)) (mCons (mName 3) mNil))) mkL) mNil)) mNil))) (gSet 9))
  (mExpr (mMeth 5 appendO (mCons (bnd (mCons (mName 8) (mCons (mOp subD (mCallP f_law_draw [] 0 (mCons (mC (.int 60)) mNil)) (mC (.int 20))) (mCons (mName 9) (mCons (mOp addD (mName 9) (mCallP f_law_draw [] 0 (mCons (mName 2) mNil))) mNil)))) mkT) mNil))))))
  (mSeq (mFor (mEnum (mName 7)) (gTupD 2 (gsCons (gSet 10) (gsCons (gSet 11) gsNil))) (mFgt [10, 11, 12] (mFor (mIt (mSlice (mName 7) none (some (mName 10)))) (gSet 12) (mFgt [12] (mIf (mTest (mOp eqD (mCallP f_law_draw [] 0 (mCons (mC (.int 3)) mNil)) (mC (.int 0)))) (mExpr (mMeth 6 appendO (mCons (bnd (mCons (mName 12) (mCons (mName 11) (mCons (mCallP f_law_draw [] 0 (mCons (mCallP f_law_one_of [] 0 (mCons (bnd (mCons (mC (.int 1)) (mCons (mC (.int 9)) (mCons (mC (.int 40)) mNil))) mkL) mNil)) mNil)) mNil))) mkT) mNil))) (ret .nx))))))
  (mRet (bnd (mCons (mC (.str "web")) (mCons (mName 5) (mCons (mB sortedD (mCons (mSlice (mCallP f_law_shuffled [] 0 (mCons (mName 6) mNil)) none (some (mC (.int 24)))) mNil)) mNil))) mkT))))))
def f_law_web : M SV := fnM 4 13 [0] f_law_web_b

def f_law_times_b : M Ctl :=
  (mSeq (mFrz [3] (mAsg (bnd (mCons mDictNew (mCons (mB dictD (mCons (mComp 11 [4] (mIt (mOp atD (mName 0) (mC (.int 1)))) (gSet 4) (ret true) (bnd (mCons (mOp atD (mName 4) (mC (.int 0))) (mCons (mName 4) mNil)) mkT)) mNil)) mNil)) mkT) (gTupD 2 (gsCons (gSet 2) (gsCons (gSet 3) gsNil)))))
  (mSeq (mForK 3 (gSet 5) (mFgt [5, 7] (mForK 3 (gSet 6) (mFgt [7] (mSeq (mFrz [7] (mAsg (mComp 11 [8, 9, 10] (mIt (mOp atD (mName 0) (mC (.int 2)))) (gTupD 3 (gsCons (gSet 8) (gsCons (gSet 9) (gsCons (gSet 10) gsNil)))) (mPureT (mAnd (mTest (mOp eqD (mName 9) (mName 6))) (mTest (mOp inD (mName 8) (mName 2))))) (mPure (mOp addD (mOp addD (mGet (mName 2) (mName 8) (mC (.int 0))) (mOp atD (mName 1) (mName 8))) (mName 10)))) (gSet 7)))
  (mSetItem 2 (mB maxD (mCons (mOp addD (bnd (mCons (mOp atD (mOp atD (mName 3) (mName 6)) (mC (.int 1))) mNil) mkL) (mName 7)) mNil)) (mName 6)))))))
  (mRet (mB dictD (mCons (mCompK 11 [6] 3 (gSet 6) (ret true) (bnd (mCons (mName 6) (mCons (bnd (mCons (mPure (mOp atD (mName 2) (mName 6))) (mCons (mPure (mOp addD (mOp atD (mName 2) (mName 6)) (mOp atD (mName 1) (mName 6)))) mNil)) mkT) mNil)) mkT)) mNil)))))
def f_law_times : M SV := fnM 2 11 [] f_law_times_b

def f_law_drawn_course_b : M Ctl :=
  (mRet (mB dictD (mCons (mComp 6 [2, 3, 4, 5] (mIt (mOp atD (mName 1) (mC (.int 1)))) (gTupD 4 (gsCons (gSet 2) (gsCons (gSet 3) (gsCons (gSet 4) (gsCons (gSet 5) gsNil))))) (ret true) (bnd (mCons (mName 2) (mCons (mOp addD (mName 4) (mCallP f_law_draw [] 0 (mCons (mOp addD (mOp subD (mName 5) (mName 4)) (mC (.int 1))) mNil))) mNil)) mkT)) mNil)))
def f_law_drawn_course : M SV := fnM 2 6 [0] f_law_drawn_course_b

def f_law_told_right_b : M Ctl :=
  (mSeq (mFrz [2] (mAsg (mCall f_law_times [] (mCons (mName 0) (mCons (mName 1) mNil))) (gSet 2)))
  (mSeq (mFrz [3] (mAsg (mComp 6 [4] (mIt (mOp atD (mName 0) (mC (.int 1)))) (gSet 4) (ret true) (mOp addD (bnd (mCons (mOp atD (mName 4) (mC (.int 0))) mNil) mkT) (mOp atD (mName 2) (mOp atD (mName 4) (mC (.int 0)))))) (gSet 3)))
  (mSeq (mAsg (mCall f_web_times [] (mCons (mName 0) (mCons (mName 1) mNil))) (gSet 5))
  (mSeq (mIf (mPureT (mOr (mNot (mTest (mCall (f_law_exact 5) [] (mCons (bnd (mCons (mName 3) (mCons (mName 3) mNil)) mkL) (mCons (bnd (mCons (mName 5) (mCons (mCallN f_web_times ord2 (mCons (mName 1) (mCons (mName 0) mNil))) mNil)) mkL) mNil))))) (mTest (mOp isNotD (mCall f_is_web_course [] (mCons (mName 0) (mCons (mName 1) mNil))) (mC (.bool true)))))) (mRet (mC (.bool false))) (ret .nx))
  (mSeq (mExpr (mMeth 5 appendO (mCons (mC .none) mNil)))
  (mRet (mCall (f_law_exact 5) [] (mCons (mName 3) (mCons (mCall f_web_times [] (mCons (mName 0) (mCons (mName 1) mNil))) mNil)))))))))
def f_law_told_right : M SV := fnM 2 6 [] f_law_told_right_b

def f_law_turned_right_b : M Ctl :=
  (mSeq (mFrz [3] (mAsg (mCallP f_law_one_of [] 0 (mCons (mComp 19 [4] (mIt (mOp atD (mName 1) (mC (.int 1)))) (gSet 4) (ret true) (mOp atD (mName 4) (mC (.int 0)))) mNil)) (gSet 3)))
  (mSeq (mFrz [5, 6] (mAsg (mOp atD (mComp 19 [4] (mIt (mOp atD (mName 1) (mC (.int 1)))) (gSet 4) (mTest (mOp eqD (mOp atD (mName 4) (mC (.int 0))) (mName 3))) (bnd (mCons (mOp atD (mName 4) (mC (.int 2))) (mCons (mOp atD (mName 4) (mC (.int 3))) mNil)) mkT)) (mC (.int 0))) (gTupD 2 (gsCons (gSet 5) (gsCons (gSet 6) gsNil)))))
  (mSeq (mFrz [8] (mAsg (bnd (mCons (mB dictD (mCons (mName 2) mNil)) (mCons (bnd (mCons (mName 3) mNil) mkL) mNil)) mkT) (gTupD 2 (gsCons (gSet 7) (gsCons (gSet 8) gsNil)))))
  (mSeq (mSetItem 7 (mOp addD (mOp atD (mName 2) (mName 3)) (mCallP f_law_draw [] 0 (mCons (mOp addD (mOp subD (mName 6) (mOp atD (mName 2) (mName 3))) (mC (.int 1))) mNil))) (mName 3))
  (mSeq (mFor (mIt (mOp atD (mName 1) (mC (.int 1)))) (gSet 9) (mFgt [9] (mFrz [8] (mAsg (mOp addD (mName 8) (mComp 19 [10, 11, 12] (mIt (mOp atD (mName 1) (mC (.int 2)))) (gTupD 3 (gsCons (gSet 10) (gsCons (gSet 11) (gsCons (gSet 12) gsNil)))) (mAnd (mTest (mOp inD (mName 10) (mName 8))) (mTest (mOp notInD (mName 11) (mName 8)))) (mName 11))) (gSet 8)))))
  (mSeq (mFrz [13] (mAsg (mB zipD2 (mCons (mCall f_web_times [] (mCons (mName 1) (mCons (mName 2) mNil))) (mCons (mCall f_web_times [] (mCons (mName 1) (mCons (mName 7) mNil))) mNil))) (gSet 13)))
  (mSeq (mFor (mIt (mName 13)) (gTupD 2 (gsCons (gSet 10) (gsCons (gSet 11) gsNil))) (mFgt [10, 11, 14] (mSeq (mFrz [14] (mAsg (mIf (mTest (mOp inD (mOp atD (mName 10) (mC (.int 0))) (mName 8))) (mPure (mOp subD (mOp atD (mName 7) (mName 3)) (mOp atD (mName 2) (mName 3)))) (mC (.int 0))) (gSet 14)))
  (mIf (mOr (mNot (mTest (mChain leD leD (mC (.int 0)) (mOp subD (mOp atD (mName 11) (mC (.int 2))) (mOp atD (mName 10) (mC (.int 2)))) (mName 14)))) (mNot (mTest (mChain leD leD (mC (.int 0)) (mOp subD (mOp atD (mName 11) (mC (.int 1))) (mOp atD (mName 10) (mC (.int 1)))) (mName 14))))) (mRet (mC (.bool false))) (ret .nx)))))
  (mSeq (mFrz [15] (mAsg (mComp 19 [4] (mIt (mOp atD (mName 1) (mC (.int 1)))) (gSet 4) (mTest (mOp eqD (mComp 19 [16] (mIt (mOp atD (mName 1) (mC (.int 2)))) (gSet 16) (mTest (mOp eqD (mOp atD (mName 16) (mC (.int 1))) (mOp atD (mName 4) (mC (.int 0))))) (mName 16)) (bnd mNil mkL))) (mOp atD (mName 4) (mC (.int 0)))) (gSet 15)))
  (mSeq (mFrz [17] (mAsg (mB dictD (mCons (mComp 19 [4] (mIt (mOp atD (mName 1) (mC (.int 1)))) (gSet 4) (ret true) (bnd (mCons (mOp atD (mName 4) (mC (.int 0))) (mCons (mOp atD (mName 4) (mC (.int 1))) mNil)) mkT)) mNil)) (gSet 17)))
  (mRet (mOp eqD (mComp 19 [18] (mIt (mCall f_web_times [] (mCons (mName 1) (mCons (mName 2) mNil)))) (gSet 18) (mAnd (mTest (mOp inD (mOp atD (mName 18) (mC (.int 0))) (mName 15))) (mTest (mOp neD (mOp atD (mName 18) (mC (.int 1))) (mOp atD (mName 17) (mOp atD (mName 18) (mC (.int 0))))))) (mName 18)) (bnd mNil mkL))))))))))))
def f_law_turned_right : M SV := fnM 3 19 [0] f_law_turned_right_b

def f_law_linked_right_b : M Ctl :=
  (mSeq (mFrz [3] (mAsg (mComp 12 [4] (mIt (mOp atD (mName 1) (mC (.int 1)))) (gSet 4) (ret true) (mOp atD (mName 4) (mC (.int 0)))) (gSet 3)))
  (mSeq (mFrz [5] (mAsg (mComp 12 [6, 7, 8] (mIt (mOp atD (mName 1) (mC (.int 2)))) (gTupD 3 (gsCons (gSet 6) (gsCons (gSet 7) (gsCons (gSet 8) gsNil)))) (ret true) (bnd (mCons (mName 6) (mCons (mName 7) mNil)) mkT)) (gSet 5)))
  (mSeq (mFrz [6, 7] (mPar [6, 7] (mCons (mCallP f_law_one_of [] 0 (mCons (mName 3) mNil)) (mCons (mCallP f_law_one_of [] 0 (mCons (mName 3) mNil)) mNil))))
  (mSeq (mFrz [9] (mAsg (mIf (mAnd (mTest (mOp notInD (bnd (mCons (mName 6) (mCons (mName 7) mNil)) mkT) (mName 5))) (mTest (mOp neD (mName 6) (mName 7)))) (bnd (mCons (mC (.str "web")) (mCons (mOp atD (mName 1) (mC (.int 1))) (mCons (mB sortedD (mCons (mOp addD (mOp atD (mName 1) (mC (.int 2))) (bnd (mCons (bnd (mCons (mName 6) (mCons (mName 7) (mCons (mCallP f_law_draw [] 0 (mCons (mC (.int 99)) mNil)) mNil))) mkT) mNil) mkL)) mNil)) mNil))) mkT) (mName 1)) (gSet 9)))
  (mSeq (mIf (mTest (mOp isNotD (mCall f_is_web [] (mCons (mName 9) mNil)) (mC (.bool true)))) (mRet (mC (.bool true))) (ret .nx))
  (mRet (mAndV (mOp eqD (mComp 12 [10, 11] (mZip (mCall f_web_times [] (mCons (mName 1) (mCons (mName 2) mNil))) (mCall f_web_times [] (mCons (mName 9) (mCons (mName 2) mNil)))) (gTupD 2 (gsCons (gSet 10) (gsCons (gSet 11) gsNil))) (mTest (mOp ltD2 (mOp atD (mName 11) (mC (.int 1))) (mOp atD (mName 10) (mC (.int 1))))) (mC (.int 1))) (bnd mNil mkL)) (mCall f_law_told_right [] (mCons (mName 9) (mCons (mName 2) mNil))))))))))
def f_law_linked_right : M SV := fnM 3 12 [0] f_law_linked_right_b

def f_law_b : M Ctl :=
  (mSeq (mForO (mCall f_law_purses [] (mCons (mName 0) (mCons (mC (.int 3)) mNil))) (gSet 1) (mFgt [1, 2, 3, 4, 6, 7] (mSeq (mFrz [2] (mAsg (mCallP f_law_web [] 1 (mCons (mOp addD (mC (.int 1)) (mCallP f_law_draw [] 1 (mCons (mC (.int 10)) mNil))) (mCons (mCallP f_law_one_of [] 1 (mCons (bnd (mCons (mC (.int 1)) (mCons (mC (.int 9)) (mCons (mOp powD (mC (.int 10)) (mC (.int 5))) mNil))) mkL) mNil)) (mCons (mCallP f_law_one_of [] 1 (mCons (bnd (mCons (mC (.int 60)) (mCons (mC (.int 800000)) mNil)) mkL) mNil)) mNil)))) (gSet 2)))
  (mSeq (mAsg (mB reprD (mCons (mName 2) mNil)) (gSet 3))
  (mSeq (mFrz [4] (mAsg (bnd (mCons (mB dictD (mCons (mCallP f_law_shuffled [] 1 (mCons (mUnO itemsO (mCallP f_law_drawn_course [] 1 (mCons (mName 2) mNil))) mNil)) mNil)) (mCons (mB dictD (mCons (mComp 9 [5] (mIt (mOp atD (mName 2) (mC (.int 1)))) (gSet 5) (ret true) (bnd (mCons (mOp atD (mName 5) (mC (.int 0))) (mCons (mOp atD (mName 5) (mC (.int 2))) mNil)) mkT)) mNil)) (mCons (mB dictD (mCons (mComp 9 [5] (mIt (mOp atD (mName 2) (mC (.int 1)))) (gSet 5) (ret true) (bnd (mCons (mOp atD (mName 5) (mC (.int 0))) (mCons (mOp atD (mName 5) (mC (.int 3))) mNil)) mkT)) mNil)) mNil))) mkL) (gSet 4)))
  (mSeq (mFor (mIt (mName 4)) (gSet 6) (mFgt [6, 7] (mSeq (mAsg (mB reprD (mCons (mName 6) mNil)) (gSet 7))
  (mSeq (mIf (mOr (mNot (mTest (mCall f_law_told_right [] (mCons (mName 2) (mCons (mName 6) mNil))))) (mOr (mNot (mTest (mCallP f_law_turned_right [] 1 (mCons (mName 2) (mCons (mName 6) mNil))))) (mNot (mTest (mCallP f_law_linked_right [] 1 (mCons (mName 2) (mCons (mName 6) mNil))))))) (mRet (mC (.bool false))) (ret .nx))
  (mIf (mTest (mOp neD (mB reprD (mCons (mName 6) mNil)) (mName 7))) (mRet (mC (.bool false))) (ret .nx))))))
  (mIf (mTest (mOp neD (mB reprD (mCons (mName 2) mNil)) (mName 3))) (mRet (mC (.bool false))) (ret .nx))))))))
  (mSeq (mFrz [8] (mAsg (bnd (mCons (mC (.str "web")) (mCons (bnd (mCons (bnd (mCons (mC (.str "inbound")) (mCons (mC (.int 0)) (mCons (mC (.int 60)) (mCons (mC (.int 90)) mNil)))) mkT) (mCons (bnd (mCons (mC (.str "outward")) (mCons (mC (.int 100)) (mCons (mC (.int 120)) (mCons (mC (.int 150)) mNil)))) mkT) (mCons (bnd (mCons (mC (.str "shuttle")) (mCons (mC (.int 10)) (mCons (mC (.int 30)) (mCons (mC (.int 100)) mNil)))) mkT) mNil))) mkL) (mCons (bnd (mCons (bnd (mCons (mC (.str "shuttle")) (mCons (mC (.str "outward")) (mCons (mC (.int 20)) mNil))) mkT) mNil) mkL) mNil))) mkT) (gSet 8)))
  (mRet (mCall (f_law_exact 5) [] (mCons (bnd (mCons (bnd (mCons (mC (.str "inbound")) (mCons (mC (.int 0)) (mCons (mC (.int 90)) mNil))) mkT) (mCons (bnd (mCons (mC (.str "outward")) (mCons (mC (.int 130)) (mCons (mC (.int 250)) mNil))) mkT) (mCons (bnd (mCons (mC (.str "shuttle")) (mCons (mC (.int 10)) (mCons (mC (.int 110)) mNil))) mkT) mNil))) mkL) (mCons (mCall f_web_times [] (mCons (mName 8) (mCons (mDisp (((mC (.str "inbound")), (mC (.int 90))) :: (((mC (.str "outward")), (mC (.int 120))) :: (((mC (.str "shuttle")), (mC (.int 100))) :: [])))) mNil))) mNil))))))
def f_law : M SV := fnM 1 9 [] f_law_b

end K71

set_option Elab.async false
set_option linter.all false
set_option maxRecDepth 100000
/-! drawing: what a purse gives -/
namespace K71
open DD
open PySem (PyData Str sizeLine)
theorem e_law_mixed (a b c : Int) (h0 : 0 ≤ b) (hb : b < 2 ^ 64) : ∃ r : Int, f_law_mixed [.d (.int a), .d (.int b), .d (.int c)] = some (.ok (.d (.int r)), [.un, .un, .un]) := by
  have m1 : okMul a 69069 = true := okMul_r (by decide) (by decide)
  have m2 : okMul 104729 b = true := okMul_l (by decide) (by decide)
  have m3 : okMul (104729 * b) b = true := okMul_r (by omega) hb
  have m4 : okMul 7919 c = true := okMul_l (by decide) (by decide)
  generalize hx : (a * 69069 + 104729 * b * b + 7919 * c + b).fmod 2147483647 = x
  have x0 : 0 ≤ x := by rw [← hx]; exact Int.fmod_nonneg_of_pos _ (by decide)
  have x1 : x < 2147483647 := by rw [← hx]; exact Int.fmod_lt_of_pos _ (by decide)
  have m5 : okMul x x = true := okMul_l (by omega) (by omega)
  generalize hy : (x * x + 40503).fmod 2147483629 = y
  have m6 : okMul y 48271 = true := okMul_r (by decide) (by decide)
  refine ⟨(y * 48271).fmod 2147483587, ?_⟩
  simp [f_law_mixed, fnM, f_law_mixed_b, mSeq, mAsg, mOp, bnd, bndD, mName, mC, ret, lift, SV.full, SV.toD, mulD, addD, DD.intD, gSet, m1, m2, m3, m4, m5, m6, mB, mCons, mNil, SV.fulls, SV.toDs, intCD, modD, mRet, maskR, hx, hy]
structure Pu where
  a : Int
  b : Int
  c : Int
  d : Int
abbrev pS (p : Pu) : SV := .lst [.d (.int p.a), .d (.int p.b), .d (.int p.c), .d (.int p.d)]
/-- n draws more may come -/
def Pok (n : Nat) (p : Pu) : Prop := 0 ≤ p.c ∧ p.c + 2 * n < 2 ^ 63
theorem Pok.mono {n m : Nat} {p : Pu} (h : Pok n p) (l : m ≤ n) : Pok m p := ⟨h.1, by have := h.2; omega⟩
theorem bits_le {m : Int} (h1 : 1 ≤ m) (h2 : m < 2 ^ 28) : PySem.Builtin.Int.intBits m ≤ 28 := by
  unfold PySem.Builtin.Int.intBits
  rw [if_neg (by simp; omega)]
  have : m.natAbs < 2 ^ 28 := by omega
  have h3 : m.natAbs.log2 < 28 := (Nat.log2_lt (by omega)).mpr this
  omega
theorem e_law_draw (n : Nat) (p : Pu) (m : Int) (h1 : 1 ≤ m) (h2 : m < 2 ^ 28) (hp : Pok (n + 1) p) : ∃ (r : Int) (p' : Pu), 0 ≤ r ∧ r < m ∧ Pok n p' ∧ f_law_draw [pS p, .d (.int m)] = some (.ok (.d (.int r)), [pS p', .un]) := by
  by_cases h : 0 < p.a
  · refine ⟨p.a.fmod m, ⟨p.a.fdiv m, p.b, p.c, p.d⟩, Int.fmod_nonneg_of_pos _ (by omega), Int.fmod_lt_of_pos _ (by omega), ⟨hp.1, by have := hp.2; show p.c + _ < _; omega⟩, ?_⟩
    have hm : m ≠ 0 := by omega
    have hd : okDiv p.a m = true := by
      unfold okDiv
      rw [decide_eq_true hm, decide_eq_true (by omega)]
      rfl
    refine run_fn (sl := [pS ⟨p.a.fdiv m, p.b, p.c, p.d⟩, .d (.int m), .un, .un, .un]) rfl (run_seqR ?_)
    have hc : mPureT (mTest (mOp gtD (mOp atD (mName 0) (mC (.int 0))) (mC (.int 0)))) [pS p, .d (.int m), .un, .un, .un] = some (.ok (decide (0 < p.a)), [pS p, .d (.int m), .un, .un, .un]) := rfl
    rw [decide_eq_true h] at hc
    refine (run_if1 hc).trans ?_
    refine (run_seq (run_asg (x := .d (.int (p.a.fmod m))) (run_pure (run_op rfl rfl rfl rfl (modD_of hm)) rfl) rfl)).trans ?_
    refine (run_seq (run_set rfl rfl (run_pure (run_op rfl rfl rfl rfl (fdivD_of (by omega) (by omega))) rfl) rfl rfl rfl rfl)).trans ?_
    rfl
  · have hm : m ≠ 0 := by omega
    have hc : mPureT (mTest (mOp gtD (mOp atD (mName 0) (mC (.int 0))) (mC (.int 0)))) [pS p, .d (.int m), .un, .un, .un] = some (.ok (decide (0 < p.a)), [pS p, .d (.int m), .un, .un, .un]) := rfl
    rw [decide_eq_false h] at hc
    generalize hk : (1 + (((PySem.Builtin.Int.intBits m : Nat) : Int).fdiv 28)) = k
    have hb := bits_le h1 h2
    have hk1 : 0 ≤ k ∧ k ≤ 2 := by
      rw [← hk, Int.fdiv_eq_ediv_of_nonneg _ (by decide)]
      omega
    obtain ⟨s', e1, x, c, rfl, c0, c1⟩ := for_inv (F := mRange (mCons (mOp addD (mC (.int 1)) (mOp fdivD (mUn bitsD (mName 1)) (mC (.int 28)))) mNil)) (T := gSet 4)
      (b := mFgt [4] (mSeq (mSetItem 0 (mPure (mOp addD (mOp atD (mName 0) (mC (.int 2))) (mC (.int 1)))) (mC (.int 2)))
        (mAsg (mPure (mOp addD (mOp mulD (mName 3) (mC (.int 2147483587))) (mCall f_law_mixed [] (mCons (mOp atD (mName 0) (mC (.int 1))) (mCons (mOp atD (mName 0) (mC (.int 2))) (mCons (mOp atD (mName 0) (mC (.int 3))) mNil)))))) (gSet 3))))
      (sl := [pS p, .d (.int m), .un, .d (.int 0), .un]) (sl1 := [pS p, .d (.int m), .un, .d (.int 0), .un]) (xs := List.range k.toNat) (fun i => PyData.int (0 + ((i : Nat) : Int)))
      (fun i s => ∃ (x c : Int), s = [pS ⟨p.a, p.b, c, p.d⟩, .d (.int m), .un, .d (.int x), .un] ∧ p.c ≤ c ∧ c ≤ p.c + i)
      (by
        have e : (mCons (mOp addD (mC (.int 1)) (mOp fdivD (mUn bitsD (mName 1)) (mC (.int 28)))) mNil) [pS p, .d (.int m), .un, .d (.int 0), .un] = some (.ok [.d (.int k)], [pS p, .d (.int m), .un, .d (.int 0), .un]) := by
          rw [← hk]
          exact run_cons (run_op rfl rfl (run_op rfl rfl rfl rfl (fdivD_of (by decide) (by decide))) rfl rfl) rfl
        exact run_range e (by omega) (by omega))
      ⟨0, p.c, rfl, Int.le_refl _, by omega⟩
      (fun i y s hy hs => by
        obtain ⟨x, c, rfl, hc0, hc1⟩ := hs
        have hi : i < 2 := by
          have := (List.getElem?_eq_some_iff.mp hy).1
          rw [List.length_range] at this
          omega
        obtain ⟨r, hmx⟩ := e_law_mixed p.b (c + 1) p.d (by have := hp.1; omega) (by have := hp.2; omega)
        refine ⟨[pS ⟨p.a, p.b, c, p.d⟩, .d (.int m), .un, .d (.int x), .d (.int (0 + ((y : Nat) : Int)))], [pS ⟨p.a, p.b, c + 1, p.d⟩, .d (.int m), .un, .d (.int (x * 2147483587 + r)), .un], rfl, ?_, x * 2147483587 + r, c + 1, rfl, by omega, by omega⟩
        refine run_fgt (sl1 := [pS ⟨p.a, p.b, c + 1, p.d⟩, .d (.int m), .un, .d (.int (x * 2147483587 + r)), .d (.int (0 + ((y : Nat) : Int)))]) ?_
        refine (run_seq (run_set rfl rfl (run_pure (run_op rfl rfl rfl rfl rfl) rfl) rfl rfl rfl rfl)).trans ?_
        exact run_asg (run_pure (run_op (run_op rfl rfl rfl rfl (mulD_of (okMul_r (by decide) (by decide)))) rfl (run_call rfl hmx) rfl rfl) rfl) rfl)
    refine ⟨x.fmod m, ⟨p.a, p.b, c, p.d⟩, Int.fmod_nonneg_of_pos _ (by omega), Int.fmod_lt_of_pos _ (by omega), ⟨by have := hp.1; show 0 ≤ c; omega, ?_⟩, ?_⟩
    · have := hp.2
      rw [List.length_range] at c1
      show c + _ < _
      omega
    · refine run_fn (sl := [pS ⟨p.a, p.b, c, p.d⟩, .d (.int m), .un, .d (.int x), .un]) rfl ?_
      refine (run_seq ((run_if0 hc).trans rfl)).trans ?_
      refine (run_seq (run_asg rfl rfl)).trans ?_
      refine (run_seq e1).trans ?_
      exact run_ret (run_op rfl rfl rfl rfl (modD_of hm))
end K71

set_option Elab.async false
set_option linter.all false
set_option maxRecDepth 100000
/-! one of, shuffled, names -/
namespace K71
open DD
open PySem (PyData Str sizeLine)
theorem e_law_one_of (n : Nat) (p : Pu) (x : SV) (ds : List D) (hx : x.full = true) (hd : x.toD = .list ds) (h0 : ds ≠ []) (hl : ds.length < 2 ^ 28) (hp : Pok (n + 1) p) :
    ∃ (d : D) (p' : Pu), d ∈ ds ∧ Pok n p' ∧ f_law_one_of [pS p, x] = some (.ok (.d d), [pS p', .un]) := by
  have hpos : 0 < ds.length := List.length_pos_iff.mpr h0
  obtain ⟨r, p', r0, r1, hp', e⟩ := e_law_draw n p ds.length (by omega) (by omega) hp
  have hr : r.toNat < ds.length := by omega
  refine ⟨ds[r.toNat], p', List.getElem_mem hr, hp', ?_⟩
  refine run_fn (sl := [pS p', .d (.list ds)]) rfl (run_ret ?_)
  have e1 : mName 1 [pS p, x] = some (.ok (.d (.list ds)), [pS p, .d (.list ds)]) := by
    rw [← hd]; exact run_name rfl hx
  refine run_op (x := .d (.list ds)) (y := .d (.int r)) e1 rfl (run_callP (xs := [.d (.int ds.length)]) (sl1 := [pS p, .d (.list ds)]) rfl rfl rfl rfl e) rfl (atD_list r0 (List.getElem?_eq_getElem hr))
theorem e_law_shuffled (n : Nat) (p : Pu) (x : SV) (ds : List D) (hx : x.full = true) (hd : x.toD = .list ds) (hl : ds.length < 2 ^ 20) (hp : Pok (n + ds.length) p) :
    ∃ (es : List D) (p' : Pu), es.Perm ds ∧ Pok n p' ∧ f_law_shuffled [pS p, x] = some (.ok (.lst (es.map SV.d)), [pS p', .un]) := by
  have e1 : mName 1 [pS p, x, .lst [], .un] = some (.ok (.d (.list ds)), [pS p, .d (.list ds), .lst [], .un]) := by
    rw [← hd]; exact run_name rfl hx
  obtain ⟨s', q1, p', es, rfl, hperm, hp'⟩ := for_inv (F := mIt (mName 1)) (T := gSet 3) (b := (mFgt [3] (mExpr (mMeth 2 insertO (mCons (mCallP f_law_draw [] 0 (mCons (mPure (mOp addD (mB lenD (mCons (mName 2) mNil)) (mC (.int 1)))) mNil)) (mCons (mName 3) mNil))))))
    (sl := [pS p, x, .lst [], .un]) (sl1 := [pS p, .d (.list ds), .lst [], .un]) (xs := ds) (fun d => d)
    (fun i s => ∃ (p' : Pu) (es : List D), s = [pS p', .d (.list ds), .lst (es.map SV.d), .un] ∧ es.Perm (ds.take i) ∧ Pok (n + (ds.length - i)) p')
    (by rw [List.map_id']; exact run_itL e1 rfl rfl) ⟨p, [], rfl, .refl _, hp⟩
    (fun i y s hy hs => by
      obtain ⟨p1, es, rfl, hperm, hp1⟩ := hs
      have hi : i < ds.length := (List.getElem?_eq_some_iff.mp hy).1
      have le : es.length = i := by rw [hperm.length_eq, List.length_take]; omega
      obtain ⟨r, p2, r0, r1, hp2, e⟩ := e_law_draw (n + (ds.length - (i + 1))) p1 (es.length + 1) (by omega) (by omega) (hp1.mono (by omega))
      have hz : es.length < sizeLine := by rw [le]; exact Nat.lt_trans (Nat.lt_trans hi hl) (by decide)
      refine ⟨[pS p1, .d (.list ds), .lst (es.map SV.d), .d y], [pS p2, .d (.list ds), .lst ((es.take r.toNat ++ [y] ++ es.drop r.toNat).map SV.d), .un], rfl, ?_, p2, _, rfl, ?_, hp2⟩
      · refine run_fgt (sl1 := [pS p2, .d (.list ds), .lst ((es.take r.toNat ++ [y] ++ es.drop r.toNat).map SV.d), .d y]) (run_exp (x := .d .none) ?_)
        have em : [pS p1, .d (.list ds), .lst (es.map SV.d), .d y].map frz1 = [frz1 (pS p1), .d (.list ds), .d (.list es), .d y] := by
          rw [← frz1_lst es]
          rfl
        have ep : mPure (mOp addD (mB lenD (mCons (mName 2) mNil)) (mC (.int 1))) [pS p1, .d (.list ds), .lst (es.map SV.d), .d y] = some (.ok (.d (.int (es.length + 1))), [pS p1, .d (.list ds), .lst (es.map SV.d), .d y]) :=
          run_pure (by rw [em]; rfl) rfl
        exact run_meth (x0 := .lst (es.map SV.d)) (r := .d .none) (sl1 := [pS p2, .d (.list ds), .lst (es.map SV.d), .d y]) rfl rfl (run_cons (run_callP (y := pS p1) rfl rfl (run_cons ep rfl) rfl e) rfl) rfl (insertO_of hz r0 (by omega))
      · rw [take_succ' hy]
        exact (perm_insert es y r.toNat).trans (hperm.append_right _))
  refine ⟨es, p', by rwa [List.take_length] at hperm, hp'.mono (by omega), ?_⟩
  refine run_fn (sl := [pS p', .d (.list ds), .un, .un]) rfl ?_
  refine (run_seq (run_asg (x := .lst []) rfl rfl)).trans ?_
  refine (run_seq q1).trans ?_
  rfl
end K71

set_option Elab.async false
set_option linter.all false
set_option maxRecDepth 100000
namespace K71
open DD
open PySem (PyData Str sizeLine)
def poolA : List Str := ["ada", "bob", "cid", "dan", "eve", "fox", "gus", "hal", "ida", "jon"]
def poolB : List Str := ["a", "b", "c", "d", "e", "f", "g", "h", "i", "j"]
def poolC : List Str := ["a", "ab", "abc", "b", "ba", "c", "cab", "d", "dab", "e"]
def len3 (s : List SV) : Nat := match s[3]? with
  | some (SV.lst xs) => xs.length
  | _ => 0
def strD (l : List Str) : List D := l.map PyData.str
theorem lenW (p : Pu) (m : Int) (d : D) (es : List D) : [pS p, .d (.int m), .d d, .lst (es.map SV.d)].map frz1 = [frz1 (pS p), .d (.int m), .d d, .d (.list es)] := by
  rw [← frz1_lst es]
  rfl
theorem e_law_names (n : Nat) (p : Pu) (m : Int) (h1 : 1 ≤ m) (h2 : m ≤ 10) (hp : Pok (n + 11) p) :
    ∃ (es : List Str) (p' : Pu), (es.Sublist poolA ∨ es.Sublist poolB ∨ es.Sublist poolC) ∧ es.length = m.toNat ∧ Pok n p' ∧ f_law_names [pS p, .d (.int m)] = some (.ok (.lst ((strD es).map SV.d)), [pS p', .un]) := by
  obtain ⟨d, p1, hd, hp1, e1⟩ := e_law_one_of (n + 10) p (.lst [.lst ((strD poolA).map SV.d), .lst ((strD poolB).map SV.d), .lst ((strD poolC).map SV.d)]) [.list (strD poolA), .list (strD poolB), .list (strD poolC)] rfl rfl (by simp) (by decide) (hp.mono (by omega))
  have hpool : ∃ pool : List Str, (pool = poolA ∨ pool = poolB ∨ pool = poolC) ∧ d = .list (strD pool) := by
    simp only [List.mem_cons, List.not_mem_nil, or_false] at hd
    rcases hd with h | h | h
    · exact ⟨_, .inl rfl, h⟩
    · exact ⟨_, .inr (.inl rfl), h⟩
    · exact ⟨_, .inr (.inr rfl), h⟩
  obtain ⟨pool, hpl, rfl⟩ := hpool
  have hlen : pool.length = 10 := by rcases hpl with rfl | rfl | rfl <;> rfl
  obtain ⟨s', s1, w1, ⟨p2, es, rfl, hsub, hm, hp2⟩, w3⟩ := while_inv (c := (mPureT (mTest (mOp gtD (mB lenD (mCons (mName 3) mNil)) (mName 1))))) (b := (mExpr (mMeth 3 popAtO (mCons (mCallP f_law_draw [] 0 (mCons (mPure (mB lenD (mCons (mName 3) mNil))) mNil)) mNil))))
    (fun s => ∃ (p' : Pu) (es : List Str), s = [pS p', .d (.int m), .d (.list (strD pool)), .lst ((strD es).map SV.d)] ∧ es.Sublist pool ∧ m ≤ es.length ∧ Pok (n + es.length) p')
    len3
    (fun s hs => by
      obtain ⟨p', es, rfl, hsub, hm, hp'⟩ := hs
      have lst : (strD es).length = es.length := by simp [strD]
      refine ⟨decide (m < es.length), _, run_pureT (by rw [lenW]; exact run_test (run_op rfl rfl rfl rfl (by rw [← lst]; rfl))), fun _ => rfl, fun ht => ?_⟩
      have hlt := of_decide_eq_true ht
      obtain ⟨r, p2, r0, r1, hp2, e⟩ := e_law_draw (n + (es.length - 1)) p' es.length (by omega) (by have := hsub.length_le; omega) (hp'.mono (by omega))
      have hr : r.toNat < es.length := by omega
      have ep : mPure (mB lenD (mCons (mName 3) mNil)) [pS p', .d (.int m), .d (.list (strD pool)), .lst ((strD es).map SV.d)] = some (.ok (.d (.int es.length)), [pS p', .d (.int m), .d (.list (strD pool)), .lst ((strD es).map SV.d)]) :=
        run_pure (by rw [lenW, ← lst]; rfl) rfl
      refine ⟨[pS p2, .d (.int m), .d (.list (strD pool)), .lst ((strD (es.eraseIdx r.toNat)).map SV.d)], run_exp (x := .d (.str es[r.toNat])) ?_, ⟨p2, _, rfl, (List.eraseIdx_sublist ..).trans hsub, ?_, ?_⟩, ?_⟩
      · have hy : (strD es)[r.toNat]? = some (.str es[r.toNat]) := by unfold strD; rw [List.getElem?_map, List.getElem?_eq_getElem hr]; rfl
        have := run_meth (i := 3) (sl1 := [pS p2, .d (.int m), .d (.list (strD pool)), .lst ((strD es).map SV.d)]) (x0 := .lst ((strD es).map SV.d)) (fa := (mCons (mCallP f_law_draw [] 0 (mCons (mPure (mB lenD (mCons (mName 3) mNil))) mNil)) mNil)) (sl := [pS p', .d (.int m), .d (.list (strD pool)), .lst ((strD es).map SV.d)]) rfl rfl
          (run_cons (run_callP (y := pS p') rfl rfl (run_cons ep rfl) rfl e) rfl) rfl (popAtO_of r0 (by have := hsub.length_le; omega) hy)
        rw [this]
        unfold strD
        rw [map_erase]
        rfl
      · rw [List.length_eraseIdx_of_lt hr]; omega
      · rw [List.length_eraseIdx_of_lt hr]; exact hp2
      · show (((strD (es.eraseIdx r.toNat)).map SV.d)).length < ((strD es).map SV.d).length
        rw [List.length_map, List.length_map]
        unfold strD
        rw [List.length_map, List.length_map, List.length_eraseIdx_of_lt hr]
        omega) 1000000 [pS p1, .d (.int m), .d (.list (strD pool)), .lst ((strD pool).map SV.d)] ⟨p1, pool, rfl, .refl _, by omega, hp1.mono (by omega)⟩ (by
        show ((strD pool).map SV.d).length < 1000000
        rw [List.length_map]
        unfold strD
        rw [List.length_map, hlen]
        decide)
  have hle : es.length = m.toNat := by
    have lst : (strD es).length = es.length := by simp [strD]
    have hc : mPureT (mTest (mOp gtD (mB lenD (mCons (mName 3) mNil)) (mName 1))) [pS p2, .d (.int m), .d (.list (strD pool)), .lst ((strD es).map SV.d)] = some (.ok (decide (m < es.length)), [pS p2, .d (.int m), .d (.list (strD pool)), .lst ((strD es).map SV.d)]) :=
      run_pureT (by rw [lenW]; exact run_test (run_op rfl rfl rfl rfl (by rw [← lst]; rfl)))
    rw [hc] at w3
    simp only [Option.some.injEq, Prod.mk.injEq, Res.ok.injEq] at w3
    have := of_decide_eq_false w3.1
    omega
  refine ⟨es, p2, by rcases hpl with rfl | rfl | rfl; exact .inl hsub; exact .inr (.inl hsub); exact .inr (.inr hsub), hle, hp2.mono (by omega), ?_⟩
  refine run_fn (sl := [pS p2, .d (.int m), .d (.list (strD pool)), .un]) rfl ?_
  refine (run_seq (run_frz (sl2 := [pS p1, .d (.int m), .d (.list (strD pool)), .un]) (run_asg (x := .d (.list (strD pool))) (sl1 := [pS p1, .d (.int m), .un, .un]) (run_callP (sl1 := [pS p, .d (.int m), .un, .un]) rfl rfl rfl rfl e1) rfl) rfl)).trans ?_
  refine (run_seq (run_asg (x := .lst ((strD pool).map SV.d)) (sl1 := [pS p1, .d (.int m), .d (.list (strD pool)), .un]) rfl rfl)).trans ?_
  refine (run_seq w1).trans ?_
  rfl
end K71

set_option Elab.async false
set_option linter.all false
set_option maxRecDepth 100000
/-! webs as typed data -/
namespace K71
open DD
open PySem (PyData Str sizeLine)
structure Fl where
  name : Str
  pl : Int
  lo : Int
  hi : Int
structure Lk where
  one : Str
  other : Str
  many : Int
abbrev flD (f : Fl) : D := .tuple [.str f.name, .int f.pl, .int f.lo, .int f.hi]
abbrev lkD (l : Lk) : D := .tuple [.str l.one, .str l.other, .int l.many]
abbrev webD (fs : List Fl) (ls : List Lk) : D := .tuple [.str "web", .list (fs.map flD), .list (ls.map lkD)]
abbrev namesF (fs : List Fl) : List Str := fs.map Fl.name
structure Wd (s : Str) : Prop where
  ok : PyData.strOk s = true
  wd : f_is_word [.d (.str s)] = some (.ok (.d (.bool true)), [.un])
theorem wd_pool {s : Str} (h : s ∈ poolA ∨ s ∈ poolB ∨ s ∈ poolC) : Wd s := by
  unfold poolA poolB poolC at h
  simp only [List.mem_cons, List.not_mem_nil, or_false] at h
  rcases h with (h | h | h | h | h | h | h | h | h | h) | (h | h | h | h | h | h | h | h | h | h) | (h | h | h | h | h | h | h | h | h | h) <;> subst h <;> exact ⟨by decide +kernel, rfl⟩
/-! ### texts -/
theorem shp_str {a : Str} (h : PyData.strOk a = true) : shp (.str a) = true := by
  show (PyData.canLay0 (.str a) && decide (PyData.depth (.str a) ≤ 64)) = true
  have e : PyData.canLay0 (.str a) = true := by rw [PyData.canLay0]; exact h
  rw [e]
  rfl
theorem eqD_str {a b : Str} (ha : PyData.strOk a = true) (hb : PyData.strOk b = true) : eqD (.str a) (.str b) = some (.d (.bool (a == b))) := by
  rfl
theorem eqD_int (a b : Int) : eqD (.int a) (.int b) = some (.d (.bool (a == b))) := rfl
theorem neD_int (a b : Int) : neD (.int a) (.int b) = some (.d (.bool (!(a == b)))) := rfl
theorem depth_strs : ∀ l : List Str, PyData.depthAll (strD l) ≤ 1
  | [] => by show PyData.depthAll [] ≤ 1; simp [PyData.depthAll]
  | s :: l => by
    have := depth_strs l
    show PyData.depthAll (.str s :: strD l) ≤ 1
    simp only [PyData.depthAll, PyData.depth]
    omega
theorem lay_strs : ∀ l : List Str, (∀ s ∈ l, PyData.strOk s = true) → PyData.canLayAll0 (strD l) = true
  | [], _ => rfl
  | s :: l, h => by
    have := lay_strs l fun x hx => h x (List.mem_cons_of_mem _ hx)
    show PyData.canLayAll0 (.str s :: strD l) = true
    simp only [PyData.canLayAll0, PyData.canLay0, this, h s (List.mem_cons_self ..), Bool.and_self]
theorem shp_strs {l : List Str} (h : ∀ s ∈ l, PyData.strOk s = true) : shp (.list (strD l)) = true := by
  show (PyData.canLay0 (.list (strD l)) && decide (PyData.depth (.list (strD l)) ≤ 64)) = true
  have h2 := depth_strs l
  have e : PyData.canLay0 (.list (strD l)) = true := by rw [PyData.canLay0]; exact lay_strs l h
  have e2 : PyData.depth (.list (strD l)) ≤ 64 := by rw [PyData.depth]; omega
  rw [e, decide_eq_true e2]
  rfl
theorem any_strs (x : Str) : ∀ l : List Str, ((strD l).any fun z => PyData.eqv z (.str x)) = decide (x ∈ l)
  | [] => by simp [strD]
  | s :: l => by
    have ih := any_strs x l
    show ((.str s :: strD l : List D).any fun z => PyData.eqv z (.str x)) = _
    rw [List.any_cons, ih]
    have e : PyData.eqv (.str s) (.str x) = (s == x) := by rw [PyData.eqv]
    rw [e, Bool.eq_iff_iff, Bool.or_eq_true, beq_iff_eq, decide_eq_true_eq, decide_eq_true_eq, List.mem_cons]
    exact or_congr eq_comm Iff.rfl
theorem inD_strs {x : Str} {l : List Str} (hx : PyData.strOk x = true) (h : ∀ s ∈ l, PyData.strOk s = true) : inD (.str x) (.list (strD l)) = some (.d (.bool (decide (x ∈ l)))) := by
  show (if (shp (.str x) && shp (.list (strD l))) = true then some (SV.d (.bool ((strD l).any fun z => PyData.eqv z (.str x)))) else none) = _
  rw [if_pos (by rw [shp_strs h, shp_str hx]; rfl), any_strs]
theorem notInD_strs {x : Str} {l : List Str} (hx : PyData.strOk x = true) (h : ∀ s ∈ l, PyData.strOk s = true) : notInD (.str x) (.list (strD l)) = some (.d (.bool (!decide (x ∈ l)))) := by
  unfold notInD
  rw [inD_strs hx h]
  rfl
/-! ### is_web_flight, is_web_link -/
theorem e_is_count (i j : Int) (h : j ≤ i) (h0 : 0 ≤ i) : f_is_count [.d (.int i), .d (.int j)] = some (.ok (.d (.bool true)), [.un, .un]) := by
  have e : f_is_count [.d (.int i), .d (.int j)] = some (.ok (.d (.bool (decide ((if 0 > j then 0 else j) ≤ i)))), [.un, .un]) := rfl
  rw [e, decide_eq_true (by split <;> omega)]
theorem e_is_web_flight (f : Fl) (hw : Wd f.name) (h1 : 1 ≤ f.lo) (h2 : f.lo ≤ f.hi) : f_is_web_flight [.d (flD f)] = some (.ok (.d (.bool true)), [.un]) := by
  refine run_fn (sl := [.d (flD f)]) rfl (run_guard (sl1 := [.d (flD f)]) ?_ ?_)
  · refine (run_or0 (run_not (run_test (b := true) rfl))).trans ?_
    refine (run_or0 (sl1 := [.d (flD f)]) (run_not (run_test (b := true) (run_call (xs := [.d (.str f.name)]) rfl hw.wd)))).trans ?_
    rfl
  · refine run_ret ((run_andV1 (sl1 := [.d (flD f)]) (run_call (xs := [.d (.int f.lo), .d (.int 1)]) rfl (e_is_count _ _ h1 (by omega)))).trans ?_)
    exact run_call (xs := [.d (.int f.hi), .d (.int f.lo)]) rfl (e_is_count _ _ h2 (by omega))
theorem e_is_web_link (ns : List Str) (l : Lk) (hn : ∀ s ∈ ns, Wd s) (h3 : 0 ≤ l.many) (h4 : l.one ∈ ns) (h5 : l.other ∈ ns) : f_is_web_link [.d (.list (strD ns)), .d (lkD l)] = some (.ok (.d (.bool true)), [.un, .un]) := by
  have h1 := hn _ h4
  have h2 := hn _ h5
  refine run_fn (sl := [.d (.list (strD ns)), .d (lkD l)]) rfl (run_guard (sl1 := [.d (.list (strD ns)), .d (lkD l)]) ?_ ?_)
  · refine (run_or0 (run_not (run_test (b := true) rfl))).trans ?_
    refine (run_or0 (sl1 := [.d (.list (strD ns)), .d (lkD l)]) (run_not (run_test (b := true) (run_call (xs := [.d (.str l.one)]) rfl h1.wd)))).trans ?_
    refine (run_or0 (sl1 := [.d (.list (strD ns)), .d (lkD l)]) (run_not (run_test (b := true) (run_call (xs := [.d (.str l.other)]) rfl h2.wd)))).trans ?_
    exact run_not (run_test (b := true) (run_call (xs := [.d (.int l.many)]) rfl (e_is_count _ 0 h3 h3)))
  · have i1 : inD (.str l.one) (.list (strD ns)) = some (.d (.bool true)) := by rw [inD_strs h1.ok (fun s hs => (hn s hs).ok), decide_eq_true h4]
    have i2 : inD (.str l.other) (.list (strD ns)) = some (.d (.bool true)) := by rw [inD_strs h2.ok (fun s hs => (hn s hs).ok), decide_eq_true h5]
    refine run_ret ((run_andV1 (sl1 := [.d (.list (strD ns)), .d (lkD l)]) (run_op (x := .d (.str l.one)) (y := .d (.list (strD ns))) rfl rfl rfl rfl i1)).trans ?_)
    exact run_op (x := .d (.str l.other)) (y := .d (.list (strD ns))) rfl rfl rfl rfl i2
end K71

set_option Elab.async false
set_option linter.all false
set_option maxRecDepth 100000
/-! flights in order -/
namespace K71
open DD
open PySem (PyData Str sizeLine)
def rdy (ls : List Lk) (ns found : List Str) : List Str := (ns.filter fun x => !decide (x ∈ found)).filter fun x => (ls.filter fun l => l.other == x).all fun l => decide (l.one ∈ found)
def fio (ls : List Lk) (ns : List Str) : Nat → List Str
  | 0 => []
  | k + 1 => fio ls ns k ++ rdy ls ns (fio ls ns k)
theorem rdy_mem {ls : List Lk} {ns found : List Str} {x : Str} (h : x ∈ rdy ls ns found) : x ∈ ns ∧ x ∉ found ∧ ∀ l ∈ ls, l.other = x → l.one ∈ found := by
  unfold rdy at h
  simp only [List.mem_filter, Bool.not_eq_true', decide_eq_false_iff_not, List.all_eq_true, beq_iff_eq, decide_eq_true_eq] at h
  exact ⟨h.1.1, h.1.2, fun l hl e => h.2 l ⟨hl, e⟩⟩
theorem mem_rdy {ls : List Lk} {ns found : List Str} {x : Str} (h1 : x ∈ ns) (h2 : x ∉ found) (h3 : ∀ l ∈ ls, l.other = x → l.one ∈ found) : x ∈ rdy ls ns found := by
  unfold rdy
  simp only [List.mem_filter, Bool.not_eq_true', decide_eq_false_iff_not, List.all_eq_true, beq_iff_eq, decide_eq_true_eq]
  exact ⟨⟨h1, h2⟩, fun l hl => h3 l hl.1 hl.2⟩
theorem fio_sub {ls : List Lk} {ns : List Str} : ∀ k, ∀ x ∈ fio ls ns k, x ∈ ns
  | 0, x, h => by cases h
  | k + 1, x, h => by
    rcases List.mem_append.mp h with h | h
    · exact fio_sub k x h
    · exact (rdy_mem h).1
theorem fio_nodup {ls : List Lk} {ns : List Str} (nd : ns.Nodup) : ∀ k, (fio ls ns k).Nodup
  | 0 => List.nodup_nil
  | k + 1 => by
    refine List.nodup_append.mpr ⟨fio_nodup nd k, ?_, fun a ha b hb e => ?_⟩
    · unfold rdy
      exact (nd.filter _).filter _
    · subst e
      exact (rdy_mem hb).2.1 ha
theorem nodup_len {α : Type} [DecidableEq α] : ∀ {a b : List α}, a.Nodup → (∀ x ∈ a, x ∈ b) → a.length ≤ b.length
  | [], _, _, _ => Nat.zero_le _
  | x :: a, b, nd, h => by
    rw [List.nodup_cons] at nd
    have hx : x ∈ b := h x (List.mem_cons_self ..)
    have := nodup_len (b := b.erase x) nd.2 fun y hy => (List.mem_erase_of_ne (fun e => nd.1 (by rw [← e]; exact hy))).mpr (h y (List.mem_cons_of_mem _ hy))
    rw [List.length_erase_of_mem hx] at this
    have := List.length_pos_of_mem hx
    rw [List.length_cons]
    omega
theorem fio_len {ls : List Lk} {ns : List Str} (nd : ns.Nodup) (k : Nat) : (fio ls ns k).length ≤ ns.length :=
  nodup_len (fio_nodup nd k) fun x h => fio_sub k x h
section
variable {fsn : List Str} {ls : List Lk}
/-- what is needed of the text -/
structure NamesOk (ns : List Str) (ls : List Lk) : Prop where
  wd : ∀ s ∈ ns, Wd s
  nd : ns.Nodup
  len : ns.length ≤ 1000
  len2 : ls.length ≤ 1000
  ends : ∀ l ∈ ls, l.one ∈ ns ∧ l.other ∈ ns
theorem lenSt (l : List Str) : (strD l).length = l.length := by simp [strD]
abbrev NL (ns : List Str) (ls : List Lk) : List SV := [.d (.list (strD ns)), .d (.list (ls.map lkD))]
theorem e_flights_in_order' {ns : List Str} {ls : List Lk} (ok : NamesOk ns ls) (x0 : SV) (hx : x0.full = true) (hd : x0.toD = .list (strD ns)) : f_flights_in_order [x0, .d (.list (ls.map lkD))] = some (.ok (.d (if (fio ls ns ns.length).length = ns.length then .list (strD (fio ls ns ns.length)) else .none)), [.un, .un]) := by
  have okF : ∀ k, ∀ s ∈ fio ls ns k, PyData.strOk s = true := fun k s h => (ok.wd s (fio_sub k s h)).ok
  have big : (1000 : Nat) ≤ sizeLine := by decide
  obtain ⟨s', q1, rfl⟩ := for_inv (F := (mRange (mCons (mB lenD (mCons (mName 0) mNil)) mNil))) (T := gSet 3)
    (b := (mFgt [3, 4] (mSeq (mFrz [4] (mAsg (mComp 7 [5] (mIt (mName 0)) (gSet 5) (mTest (mOp notInD (mName 5) (mName 2))) (mName 5)) (gSet 4)))
      (mSeq (mFrz [4] (mAsg (mComp 7 [5] (mIt (mName 4)) (gSet 5) (mTest (mB allD (mCons (mComp 7 [6] (mIt (mName 1)) (gSet 6) (mTest (mOp eqD (mOp atD (mName 6) (mC (.int 1))) (mName 5))) (mOp inD (mOp atD (mName 6) (mC (.int 0))) (mName 2))) mNil))) (mName 5)) (gSet 4)))
      (mFrz [2] (mAsg (mOp addD (mName 2) (mName 4)) (gSet 2)))))))
    (sl := [x0, .d (.list (ls.map lkD)), .d (.list []), .un, .un, .un, .un]) (sl1 := NL ns ls ++ [.d (.list []), .un, .un, .un, .un]) (xs := List.range ns.length) (fun i => PyData.int (0 + ((i : Nat) : Int)))
    (fun i s => s = NL ns ls ++ [.d (.list (strD (fio ls ns i))), .un, .un, .un, .un])
    (by
      have e1 : mName 0 [x0, .d (.list (ls.map lkD)), .d (.list []), .un, .un, .un, .un] = some (.ok (.d (.list (strD ns))), NL ns ls ++ [.d (.list []), .un, .un, .un, .un]) := by
        rw [← hd]; exact (run_name rfl hx).trans (by rw [hd]; rfl)
      have := run_range (fa := (mCons (mB lenD (mCons (mName 0) mNil)) mNil)) (sl := [x0, .d (.list (ls.map lkD)), .d (.list []), .un, .un, .un, .un]) (sl1 := NL ns ls ++ [.d (.list []), .un, .un, .un, .un]) (k := ns.length) (by
        rw [← lenSt ns]
        exact run_cons (run_B (run_cons e1 rfl) rfl rfl) rfl) (by omega) (by have := ok.len; omega)
      rw [Int.toNat_natCast] at this
      exact this) rfl
    (fun i y s hy hs => by
      subst hs
      obtain ⟨F, hF⟩ : ∃ F, F = fio ls ns i := ⟨_, rfl⟩
      have okf := okF i
      rw [← hF] at okf ⊢
      refine ⟨_, NL ns ls ++ [.d (.list (strD (F ++ rdy ls ns F))), .un, .un, .un, .un], rfl, ?_, by rw [hF]; rfl⟩
      obtain ⟨yv, hyv⟩ : ∃ v : SV, v = .d (.int (0 + ((y : Nat) : Int))) := ⟨_, rfl⟩
      have c1 := comp_mapD (N := 7) (vs := [5]) (F := mIt (mName 0)) (T := gSet 5) (t := mTest (mOp notInD (mName 5) (mName 2))) (f := mName 5) (sl := NL ns ls ++ [.d (.list (strD F)), yv, .un, .un, .un]) (sl1 := NL ns ls ++ [.d (.list (strD F)), yv, .un, .un, .un]) ns PyData.str (fun x => !decide (x ∈ F)) PyData.str rfl rfl (Nat.le_trans ok.len big)
        (fun x hx => ⟨NL ns ls ++ [.d (.list (strD F)), yv, .un, .d (.str x), .un], rfl, run_test (run_op (x := .d (.str x)) (y := .d (.list (strD F))) rfl rfl rfl rfl (notInD_strs (ok.wd x hx).ok okf)), rfl, rfl⟩) rfl
      obtain ⟨R0, hR0⟩ : ∃ R, R = ns.filter (fun x => !decide (x ∈ F)) := ⟨_, rfl⟩
      rw [← hR0] at c1
      have wR : ∀ x ∈ R0, x ∈ ns := fun x hx => by rw [hR0] at hx; exact (List.mem_filter.mp hx).1
      have c2 := comp_mapD (N := 7) (vs := [5]) (F := mIt (mName 4)) (T := gSet 5) (t := (mTest (mB allD (mCons (mComp 7 [6] (mIt (mName 1)) (gSet 6) (mTest (mOp eqD (mOp atD (mName 6) (mC (.int 1))) (mName 5))) (mOp inD (mOp atD (mName 6) (mC (.int 0))) (mName 2))) mNil)))) (f := mName 5)
        (sl := NL ns ls ++ [.d (.list (strD F)), yv, .d (.list (strD R0)), .un, .un]) (sl1 := NL ns ls ++ [.d (.list (strD F)), yv, .d (.list (strD R0)), .un, .un]) R0 PyData.str (fun x => (ls.filter fun l => l.other == x).all fun l => decide (l.one ∈ F)) PyData.str rfl rfl (by
          rw [hR0]
          exact Nat.le_trans (List.length_filter_le _ _) (Nat.le_trans ok.len big))
        (fun x hx => ⟨NL ns ls ++ [.d (.list (strD F)), yv, .d (.list (strD R0)), .d (.str x), .un], rfl, run_test (run_all (comp_mapD ls lkD (fun l => l.other == x) (fun l => .bool (decide (l.one ∈ F))) rfl rfl (Nat.le_trans ok.len2 big)
          (fun l hl => ⟨NL ns ls ++ [.d (.list (strD F)), yv, .d (.list (strD R0)), .d (.str x), .d (lkD l)], rfl,
            run_test (run_op (x := .d (.str l.other)) (y := .d (.str x)) rfl rfl rfl rfl (eqD_str (ok.wd _ (ok.ends l hl).2).ok (ok.wd x (wR x hx)).ok)),
            run_op (x := .d (.str l.one)) (y := .d (.list (strD F))) rfl rfl rfl rfl (inD_strs (ok.wd _ (ok.ends l hl).1).ok okf), rfl⟩) rfl)), rfl, rfl⟩) rfl
      have eR : R0.filter (fun x => (ls.filter fun l => l.other == x).all fun l => decide (l.one ∈ F)) = rdy ls ns F := by rw [hR0]; rfl
      rw [eR] at c2
      have lz : (strD F).length + (strD (rdy ls ns F)).length ≤ sizeLine := by
        rw [lenSt, lenSt]
        have h1 := fio_len (ls := ls) ok.nd (i + 1)
        rw [show fio ls ns (i + 1) = F ++ rdy ls ns F by rw [hF]; rfl, List.length_append] at h1
        exact Nat.le_trans h1 (Nat.le_trans ok.len big)
      refine run_fgt (sl1 := NL ns ls ++ [.d (.list (strD (F ++ rdy ls ns F))), yv, .d (.list (strD (rdy ls ns F))), .un, .un]) ?_
      rw [← hyv]
      refine (run_seq (run_asgL c1 (by show 4 < 7; decide))).trans ?_
      refine (run_seq (run_asgL c2 (by show 4 < 7; decide))).trans ?_
      have e3 := run_asgL (i := 2) (f := mOp addD (mName 2) (mName 4)) (sl := NL ns ls ++ [.d (.list (strD F)), yv, .d (.list (strD (rdy ls ns F))), .un, .un]) (sl1 := NL ns ls ++ [.d (.list (strD F)), yv, .d (.list (strD (rdy ls ns F))), .un, .un]) (run_op (x := .d (.list (strD F))) (y := .d (.list (strD (rdy ls ns F)))) rfl rfl rfl rfl (addD_list lz)) (by show 2 < 7; decide)
      refine e3.trans ?_
      unfold strD
      rw [← List.map_append]
      rfl)
  rw [List.length_range] at q1
  generalize fio ls ns ns.length = FF at q1 ⊢
  suffices h : f_flights_in_order_b [x0, .d (.list (ls.map lkD)), .un, .un, .un, .un, .un] = some (.ok (.rt (.d (if FF.length = ns.length then .list (strD FF) else .none))), NL ns ls ++ [.d (.list (strD FF)), .un, .un, .un, .un]) from
    run_fn (n := 2) (N := 7) (kp := []) (G := f_flights_in_order_b) (args := [x0, .d (.list (ls.map lkD))]) rfl h
  have e0 : mFrz [2] (mAsg (bnd mNil mkL) (gSet 2)) [x0, .d (.list (ls.map lkD)), .un, .un, .un, .un, .un] = some (.ok .nx, [x0, .d (.list (ls.map lkD)), .d (.list []), .un, .un, .un, .un]) := run_frz (run_asg (x := .lst []) rfl rfl) rfl
  refine (run_seq e0).trans ?_
  refine (run_seq q1).trans ?_
  refine run_ret ?_
  have hc : mTest (mOp eqD (mB lenD (mCons (mName 2) mNil)) (mB lenD (mCons (mName 0) mNil))) (NL ns ls ++ [.d (.list (strD (FF))), .un, .un, .un, .un]) = some (.ok (decide ((FF).length = ns.length)), NL ns ls ++ [.d (.list (strD (FF))), .un, .un, .un, .un]) := by
    have key : (((strD FF).length : Int) == ((strD ns).length : Int)) = decide (FF.length = ns.length) := by
      rw [lenSt, lenSt, Bool.eq_iff_iff, beq_iff_eq, decide_eq_true_eq]
      omega
    exact run_test (run_op (x := .d (.int (strD FF).length)) (y := .d (.int (strD ns).length)) rfl rfl rfl rfl (by rw [← key]; exact eqD_int _ _))
  rw [run_if hc]
  by_cases h : (FF).length = ns.length
  · rw [if_pos h, decide_eq_true h]; rfl
  · rw [if_neg h, decide_eq_false h]; rfl
theorem e_flights_in_order {ns : List Str} {ls : List Lk} (ok : NamesOk ns ls) : f_flights_in_order (NL ns ls) = some (.ok (.d (if (fio ls ns ns.length).length = ns.length then .list (strD (fio ls ns ns.length)) else .none)), [.un, .un]) := e_flights_in_order' ok _ rfl rfl
end
end K71

set_option Elab.async false
set_option linter.all false
set_option maxRecDepth 100000
/-! is_web -/
namespace K71
open DD
open PySem (PyData Str sizeLine)
theorem strD_names (fs : List Fl) : (fs.map fun f => PyData.str f.name) = strD (namesF fs) := by
  unfold strD namesF
  rw [List.map_map]
  rfl
theorem e_names_of_web (fs : List Fl) (ls : List Lk) (h : fs.length ≤ 1000) : f_names_of_web [.d (webD fs ls)] = some (.ok (.lst ((strD (namesF fs)).map SV.d)), [.un]) := by
  have c := comp_allD (N := 2) (vs := [1]) (F := mIt (mOp atD (mName 0) (mC (.int 1)))) (T := gSet 1) (f := mOp atD (mName 1) (mC (.int 0))) (sl := [.d (webD fs ls), .un]) (sl1 := [.d (webD fs ls), .un]) fs flD (fun f => PyData.str f.name) rfl rfl (Nat.le_trans h (by decide))
    (fun f hf => ⟨[.d (webD fs ls), .d (flD f)], rfl, rfl, rfl⟩) rfl
  rw [strD_names] at c
  exact run_fn (n := 1) (N := 2) (kp := []) (G := f_names_of_web_b) (args := [.d (webD fs ls)]) rfl (run_ret c)
def sLt (a b : Str) : Bool := decide (a.cps.toList < b.cps.toList)
def pk (l : Lk) : List IK := [.inr l.one.cps.toList, .inr l.other.cps.toList]
structure WebIn (fs : List Fl) (ls : List Lk) : Prop where
  nm : NamesOk (namesF fs) ls
  ne : fs ≠ []
  fl : ∀ f ∈ fs, 1 ≤ f.lo ∧ f.lo ≤ f.hi
  mn : ∀ l ∈ ls, 0 ≤ l.many
  asc : ∀ (i : Nat) (a b : Str), (namesF fs)[i]? = some a → (namesF fs)[i + 1]? = some b → sLt a b = true
  ascL : ∀ (i : Nat) (a b : Lk), ls[i]? = some a → ls[i + 1]? = some b → kLt (pk a) (pk b) = true
theorem e_is_said (fs : List Fl) (ls : List Lk) : f_is_said [.d (webD fs ls), .d (.str "web"), .d (.int 3)] = some (.ok (.d (.bool true)), [.un, .un, .un]) := by
  have h : f_is_said_b [.d (webD fs ls), .d (.str "web"), .d (.int 3)] = some (.ok (.rt (.d (.bool true))), [.d (webD fs ls), .d (.str "web"), .d (.int 3)]) := by
    refine run_ret ((run_andV1 (sl1 := [.d (webD fs ls), .d (.str "web"), .d (.int 3)]) rfl).trans ?_)
    refine (run_andV1 (sl1 := [.d (webD fs ls), .d (.str "web"), .d (.int 3)]) rfl).trans ?_
    exact run_op (x := .d (.str "web")) (y := .d (.str "web")) rfl rfl rfl rfl (eqD_str (by decide +kernel) (by decide +kernel))
  exact run_fn (n := 3) (N := 3) (kp := []) (G := f_is_said_b) (args := [.d (webD fs ls), .d (.str "web"), .d (.int 3)]) rfl h
/-- the places of range(1, n) -/
theorem run_range1 {fa : M (List SV)} {sl sl1 : List SV} {n : Nat} (h : fa sl = some (.ok [.d (.int 1), .d (.int n)], sl1)) (hn : n < 2 ^ 62) : mRange2 fa sl = some (.ok ((List.range (n - 1)).map fun i => PyData.int (1 + ((i : Nat) : Int))), sl1) := by
  rw [run_range2 h (by omega) (by omega) (by omega) (by omega), show ((n : Int) - 1).toNat = n - 1 by omega]
  rfl
theorem at_prev {ds : List D} {i : Nat} {d : D} (h : ds[i]? = some d) : atD (.list ds) (.int (1 + (i : Int) - 1)) = some (.d d) := atD_list (by omega) (by rw [show (1 + (i : Int) - 1).toNat = i by omega]; exact h)
theorem at_here {ds : List D} {i : Nat} {d : D} (h : ds[i + 1]? = some d) : atD (.list ds) (.int (1 + (i : Int))) = some (.d d) := atD_list (by omega) (by rw [show (1 + (i : Int)).toNat = i + 1 by omega]; exact h)
theorem ltT_pk (a b : Lk) : ltD2 (.tuple [.str a.one, .str a.other]) (.tuple [.str b.one, .str b.other]) = some (.d (.bool (kLt (pk a) (pk b)))) := rfl
theorem getS {l : List Str} {i : Nat} {s : Str} (h : l[i]? = some s) : (strD l)[i]? = some (.str s) := by unfold strD; rw [List.getElem?_map, h]; rfl
theorem getL {l : List Lk} {i : Nat} {s : Lk} (h : l[i]? = some s) : (l.map lkD)[i]? = some (lkD s) := by rw [List.getElem?_map, h]; rfl
theorem all_true {α : Type} {xs : List α} {r : α → Bool} (h : ∀ x ∈ xs, r x = true) : xs.all r = true := List.all_eq_true.mpr h
theorem e_is_web {fs : List Fl} {ls : List Lk} (w : WebIn fs ls) : f_is_web [.d (webD fs ls)] = some (.ok (.d (.bool (decide ((fio ls (namesF fs) (namesF fs).length).length = (namesF fs).length)))), [.un]) := by
  have big : (1000 : Nat) ≤ sizeLine := by decide
  have lf : fs.length ≤ 1000 := by have := w.nm.len; simpa using this
  obtain ⟨W, hW⟩ : ∃ W : SV, W = .d (webD fs ls) := ⟨_, rfl⟩
  obtain ⟨NS, hNS⟩ : ∃ NS, NS = namesF fs := ⟨_, rfl⟩
  have okN := w.nm
  have asc := w.asc
  rw [← hNS] at okN asc ⊢
  have s1 : f_names_of_web [.d (webD fs ls)] = some (.ok (.lst ((strD NS).map SV.d)), [.un]) := by rw [hNS]; exact e_names_of_web fs ls lf
  have fin : f_is_web_b [.d (webD fs ls), .un, .un, .un, .un, .un] = some (.ok (.rt (.d (.bool (decide ((fio ls NS NS.length).length = NS.length))))), [.d (webD fs ls), .un, .d (.list (strD NS)), .d (.list (ls.map lkD)), .un, .un]) := by
    refine run_guard (sl1 := [.d (webD fs ls), .un, .un, .un, .un, .un]) ?_ (run_guard (sl1 := [.d (webD fs ls), .un, .un, .un, .un, .un]) ?_ ?_)
    · refine (run_or0 (run_not (run_test (b := true) (run_call (xs := [.d (webD fs ls), .d (.str "web"), .d (.int 3)]) rfl (e_is_said fs ls))))).trans ?_
      rfl
    · have h0 : (((fs.map flD).length : Int) == 0) = false := by
        rw [List.length_map, beq_eq_false_iff_ne]
        have := List.length_pos_iff.mpr w.ne
        omega
      refine (run_or0 (sl1 := [.d (webD fs ls), .un, .un, .un, .un, .un]) (run_test (run_op (x := .d (.int (fs.map flD).length)) (y := .d (.int 0)) rfl rfl rfl rfl (by rw [← h0]; exact eqD_int _ _)))).trans ?_
      refine run_not (b := true) (run_test ?_)
      have c := comp_allD (N := 6) (vs := [1]) (F := mIt (mOp atD (mName 0) (mC (.int 1)))) (T := gSet 1) (f := mCall f_is_web_flight [] (mCons (mName 1) mNil)) (sl := [.d (webD fs ls), .un, .un, .un, .un, .un]) (sl1 := [.d (webD fs ls), .un, .un, .un, .un, .un]) fs flD (fun _ => PyData.bool true) rfl rfl (Nat.le_trans lf big)
        (fun f hf => ⟨[.d (webD fs ls), .d (flD f), .un, .un, .un, .un], rfl, run_call (xs := [.d (flD f)]) rfl (e_is_web_flight f (okN.wd _ (by rw [hNS]; exact List.mem_map.mpr ⟨f, hf, rfl⟩)) (w.fl f hf).1 (w.fl f hf).2), rfl⟩) rfl
      have := run_all (r := fun _ => true) c
      rwa [all_true (fun _ _ => rfl)] at this
    · have e0 : mFrz [2, 3] (mAsg (bnd (mCons (mCall f_names_of_web [] (mCons (mName 0) mNil)) (mCons (mOp atD (mName 0) (mC (.int 2))) mNil)) mkT) (gTupD 2 (gsCons (gSet 2) (gsCons (gSet 3) gsNil)))) [.d (webD fs ls), .un, .un, .un, .un, .un] =
          some (.ok .nx, [.d (webD fs ls), .un, .d (.list (strD NS)), .d (.list (ls.map lkD)), .un, .un]) := by
        have eg : bnd (mCons (mCall f_names_of_web [] (mCons (mName 0) mNil)) (mCons (mOp atD (mName 0) (mC (.int 2))) mNil)) mkT [.d (webD fs ls), .un, .un, .un, .un, .un] = some (.ok (.tup [.lst ((strD NS).map SV.d), .d (.list (ls.map lkD))]), [.d (webD fs ls), .un, .un, .un, .un, .un]) := by
          have e1 : mCons (mCall f_names_of_web [] (mCons (mName 0) mNil)) (mCons (mOp atD (mName 0) (mC (.int 2))) mNil) [.d (webD fs ls), .un, .un, .un, .un, .un] = some (.ok [.lst ((strD NS).map SV.d), .d (.list (ls.map lkD))], [.d (webD fs ls), .un, .un, .un, .un, .un]) :=
            run_cons (run_call (xs := [.d (webD fs ls)]) rfl s1) rfl
          unfold bnd
          rw [e1]
          rfl
        refine run_frz (sl1 := [.d (webD fs ls), .un, .lst ((strD NS).map SV.d), .d (.list (ls.map lkD)), .un, .un]) (run_asg eg rfl) ?_
        show frz 3 (frz 2 _) = _
        rw [frz_lst (i := 2) (ds := strD NS) rfl]
        rfl
      refine (run_seq e0).trans ?_
      refine run_guard (sl1 := [.d (webD fs ls), .un, .d (.list (strD NS)), .d (.list (ls.map lkD)), .un, .un]) ?_ (run_guard (sl1 := [.d (webD fs ls), .un, .d (.list (strD NS)), .d (.list (ls.map lkD)), .un, .un]) ?_ (run_guard (sl1 := [.d (webD fs ls), .un, .d (.list (strD NS)), .d (.list (ls.map lkD)), .un, .un]) ?_ ?_))
      · refine run_not (b := true) (run_test ?_)
        have c := comp_allD (N := 6) (vs := [4]) (F := (mRange2 (mCons (mC (.int 1)) (mCons (mB lenD (mCons (mName 2) mNil)) mNil)))) (T := gSet 4) (f := (mOp ltD2 (mOp atD (mName 2) (mOp subD (mName 4) (mC (.int 1)))) (mOp atD (mName 2) (mName 4))))
          (sl := [.d (webD fs ls), .un, .d (.list (strD NS)), .d (.list (ls.map lkD)), .un, .un]) (sl1 := [.d (webD fs ls), .un, .d (.list (strD NS)), .d (.list (ls.map lkD)), .un, .un]) (List.range (NS.length - 1)) (fun i => PyData.int (1 + ((i : Nat) : Int))) (fun _ => PyData.bool true)
          (run_range1 (by rw [← lenSt NS]; rfl) (by have := okN.len; omega)) rfl (by rw [List.length_range]; exact Nat.le_trans (Nat.sub_le _ _) (Nat.le_trans okN.len big)) (fun i hi => by
            have hi2 := List.mem_range.mp hi
            have h1 : i < NS.length := by omega
            have h2 : i + 1 < NS.length := by omega
            have lt := asc i _ _ (List.getElem?_eq_getElem h1) (List.getElem?_eq_getElem h2)
            refine ⟨[.d (webD fs ls), .un, .d (.list (strD NS)), .d (.list (ls.map lkD)), .d (.int (1 + (i : Int))), .un], rfl, run_op (x := .d (.str NS[i])) (y := .d (.str NS[i + 1])) (run_op (x := .d (.list (strD NS))) (y := .d (.int (1 + (i : Int) - 1))) rfl rfl rfl rfl (at_prev (getS (List.getElem?_eq_getElem h1)))) rfl
              (run_op (x := .d (.list (strD NS))) (y := .d (.int (1 + (i : Int)))) rfl rfl rfl rfl (at_here (getS (List.getElem?_eq_getElem h2)))) rfl ?_, rfl⟩
            unfold sLt at lt
            show some (SV.d (.bool (decide (NS[i].cps.toList < NS[i + 1].cps.toList)))) = _
            rw [lt]) rfl
        have := run_all (r := fun _ => true) c
        rwa [all_true (fun _ _ => rfl)] at this
      · refine run_not (b := true) (run_test ?_)
        have c := comp_allD (N := 6) (vs := [5]) (F := mIt (mName 3)) (T := gSet 5) (f := (mCall f_is_web_link [] (mCons (mName 2) (mCons (mName 5) mNil))))
          (sl := [.d (webD fs ls), .un, .d (.list (strD NS)), .d (.list (ls.map lkD)), .un, .un]) (sl1 := [.d (webD fs ls), .un, .d (.list (strD NS)), .d (.list (ls.map lkD)), .un, .un]) ls lkD (fun _ => PyData.bool true) rfl rfl (Nat.le_trans okN.len2 big)
          (fun l hl => ⟨[.d (webD fs ls), .un, .d (.list (strD NS)), .d (.list (ls.map lkD)), .un, .d (lkD l)], rfl, run_call (xs := [.d (.list (strD NS)), .d (lkD l)]) rfl (e_is_web_link NS l okN.wd (w.mn l hl) (okN.ends l hl).1 (okN.ends l hl).2), rfl⟩) rfl
        have := run_all (r := fun _ => true) c
        rwa [all_true (fun _ _ => rfl)] at this
      · refine run_not (b := true) (run_test ?_)
        have c := comp_allD (N := 6) (vs := [4]) (F := (mRange2 (mCons (mC (.int 1)) (mCons (mB lenD (mCons (mName 3) mNil)) mNil)))) (T := gSet 4) (f := (mOp ltD2 (mSlice (mOp atD (mName 3) (mOp subD (mName 4) (mC (.int 1)))) none (some (mC (.int 2)))) (mSlice (mOp atD (mName 3) (mName 4)) none (some (mC (.int 2))))))
          (sl := [.d (webD fs ls), .un, .d (.list (strD NS)), .d (.list (ls.map lkD)), .un, .un]) (sl1 := [.d (webD fs ls), .un, .d (.list (strD NS)), .d (.list (ls.map lkD)), .un, .un]) (List.range (ls.length - 1)) (fun i => PyData.int (1 + ((i : Nat) : Int))) (fun _ => PyData.bool true)
          (run_range1 (by rw [← List.length_map (f := lkD)]; rfl) (by have := okN.len2; omega)) rfl (by rw [List.length_range]; exact Nat.le_trans (Nat.sub_le _ _) (Nat.le_trans okN.len2 big)) (fun i hi => by
            have hi2 := List.mem_range.mp hi
            have h1 : i < ls.length := by omega
            have h2 : i + 1 < ls.length := by omega
            have lt := w.ascL i _ _ (List.getElem?_eq_getElem h1) (List.getElem?_eq_getElem h2)
            refine ⟨[.d (webD fs ls), .un, .d (.list (strD NS)), .d (.list (ls.map lkD)), .d (.int (1 + (i : Int))), .un], rfl, run_op (x := .d (.tuple [.str ls[i].one, .str ls[i].other])) (y := .d (.tuple [.str ls[i + 1].one, .str ls[i + 1].other]))
              (run_slice (x := .d (lkD ls[i])) (ds := [.str ls[i].one, .str ls[i].other, .int ls[i].many]) (h := 2) (run_op (x := .d (.list (ls.map lkD))) (y := .d (.int (1 + (i : Int) - 1))) rfl rfl rfl rfl (at_prev (getL (List.getElem?_eq_getElem h1)))) rfl rfl rfl) rfl
              (run_slice (x := .d (lkD ls[i + 1])) (ds := [.str ls[i + 1].one, .str ls[i + 1].other, .int ls[i + 1].many]) (h := 2) (run_op (x := .d (.list (ls.map lkD))) (y := .d (.int (1 + (i : Int)))) rfl rfl rfl rfl (at_here (getL (List.getElem?_eq_getElem h2)))) rfl rfl rfl) rfl ?_, rfl⟩
            rw [← lt]
            exact ltT_pk _ _) rfl
        have := run_all (r := fun _ => true) c
        rwa [all_true (fun _ _ => rfl)] at this
      · refine run_ret ?_
        have ef := e_flights_in_order okN
        refine run_op (x := .d (if (fio ls NS NS.length).length = NS.length then .list (strD (fio ls NS NS.length)) else .none)) (y := .d .none) (run_call (xs := NL NS ls) rfl ef) rfl rfl rfl ?_
        show isNotD _ .none = _
        by_cases h : (fio ls NS NS.length).length = NS.length
        · rw [decide_eq_true h]
          show isNotD (if _ then _ else _) .none = _
          rw [if_pos h]
          rfl
        · rw [decide_eq_false h]
          show isNotD (if _ then _ else _) .none = _
          rw [if_neg h]
          rfl
  exact run_fn (n := 1) (N := 6) (kp := []) (G := f_is_web_b) (args := [.d (webD fs ls)]) rfl fin
end K71

set_option Elab.async false
set_option linter.all false
set_option maxRecDepth 100000
/-! courses, check_web, is_run_of_web -/
namespace K71
open DD
open PySem (PyData Str sizeLine)
abbrev crsD (ks : List Str) (c : Str → Int) : D := .dict (ks.map fun s => (PyData.str s, PyData.int (c s)))
theorem look_map {α : Type} (ks : List Str) (g : Str → D) (s : Str) : lookK (ks.map fun s => (PyData.str s, g s)) (.inr s) = if s ∈ ks then some (g s) else none := by
  unfold lookK
  induction ks with
  | nil => rfl
  | cons k ks ih =>
    rw [List.map_cons, List.find?_cons]
    by_cases h : k = s
    · subst h
      have : decide (dKey (PyData.str k) = some (.inr k)) = true := decide_eq_true rfl
      simp [this]
    · have e : decide (dKey (PyData.str k) = some (.inr s)) = false := decide_eq_false (fun q => h (by simpa [dKey] using q))
      simp only [e]
      rw [ih]
      have : (s ∈ k :: ks) ↔ s ∈ ks := by
        rw [List.mem_cons]
        constructor
        · rintro (q | q)
          · exact absurd q.symm h
          · exact q
        · exact .inr
      by_cases h2 : s ∈ ks
      · rw [if_pos h2, if_pos (this.mpr h2)]
      · rw [if_neg h2, if_neg (fun q => h2 (this.mp q))]
theorem at_crs {ks : List Str} {c : Str → Int} {s : Str} (h : s ∈ ks) : atD (crsD ks c) (.str s) = some (.d (.int (c s))) := by
  show (lookK (ks.map fun s => (PyData.str s, PyData.int (c s))) (.inr s)).map SV.d = _
  rw [look_map (α := Nat) ks (fun s => PyData.int (c s)) s, if_pos h]
  rfl
theorem notIn_crs {ks : List Str} {c : Str → Int} {s : Str} (h : s ∈ ks) : notInD (.str s) (crsD ks c) = some (.d (.bool false)) := by
  unfold notInD
  have e : inD (.str s) (crsD ks c) = some (.d (.bool (lookK (ks.map fun s => (PyData.str s, PyData.int (c s))) (.inr s)).isSome)) := rfl
  rw [e, look_map (α := Nat) ks (fun s => PyData.int (c s)) s, if_pos h]
  rfl
/-- a course of the web -/
structure CrsOk (fs : List Fl) (ks : List Str) (c : Str → Int) : Prop where
  perm : ks.Perm (namesF fs)
  lo : ∀ f ∈ fs, f.lo ≤ c f.name
  hi : ∀ f ∈ fs, c f.name ≤ f.hi
theorem e_check_web {fs : List Fl} {ls : List Lk} (w : WebIn fs ls) (t : (fio ls (namesF fs) (namesF fs).length).length = (namesF fs).length) : f_check_web [.d (webD fs ls)] = some (.ok (.d .none), [.un]) := by
  have e := e_is_web w
  rw [decide_eq_true t] at e
  have h : f_check_web_b [.d (webD fs ls)] = some (.ok .nx, [.d (webD fs ls)]) :=
    (run_if0 (sl1 := [.d (webD fs ls)]) (run_not (b := true) (run_test (run_call (xs := [.d (webD fs ls)]) rfl e)))).trans rfl
  exact run_fn0 (n := 1) (N := 1) (kp := []) (G := f_check_web_b) (args := [.d (webD fs ls)]) rfl h
theorem e_is_run {fs : List Fl} {ls : List Lk} {ks : List Str} {c : Str → Int} (w : WebIn fs ls) (k : CrsOk fs ks c) : f_is_run_of_web [.d (webD fs ls), .d (crsD ks c)] = some (.ok (.d (.bool true)), [.un, .un]) := by
  have hk : ∀ f ∈ fs, f.name ∈ ks := fun f hf => k.perm.mem_iff.mpr (List.mem_map.mpr ⟨f, hf, rfl⟩)
  have lk : (ks.map fun s => (PyData.str s, PyData.int (c s))).length = (fs.map flD).length := by
    rw [List.length_map, List.length_map, k.perm.length_eq, List.length_map]
  obtain ⟨W, hW⟩ : ∃ W, W = webD fs ls := ⟨_, rfl⟩
  obtain ⟨C, hC⟩ : ∃ C, C = crsD ks c := ⟨_, rfl⟩
  obtain ⟨s', q1, rfl⟩ := for_inv (F := (mIt (mOp atD (mName 0) (mC (.int 1))))) (T := (gTupD 4 (gsCons (gSet 2) (gsCons (gSet 3) (gsCons (gSet 4) (gsCons (gSet 5) gsNil))))))
    (b := (mFgt [2, 3, 4, 5] (mIf (mOr (mTest (mOp notInD (mName 2) (mName 1))) (mOr (mNot (mTest (mCall f_is_count [] (mCons (mOp atD (mName 1) (mName 2)) (mCons (mName 4) mNil))))) (mTest (mOp gtD (mOp atD (mName 1) (mName 2)) (mName 5))))) (mRet (mC (.bool false))) (ret .nx))))
    (sl := [.d (webD fs ls), .d (crsD ks c), .un, .un, .un, .un]) (sl1 := [.d (webD fs ls), .d (crsD ks c), .un, .un, .un, .un]) (xs := fs) flD
    (fun i s => s = [.d (webD fs ls), .d (crsD ks c), .un, .un, .un, .un]) rfl rfl
    (fun i f s hf hs => by
      subst hs
      have hm : f ∈ fs := List.mem_of_getElem? hf
      have h1 := (w.fl f hm).1
      have h2 := k.lo f hm
      have h3 := k.hi f hm
      refine ⟨[.d (webD fs ls), .d (crsD ks c), .d (.str f.name), .d (.int f.pl), .d (.int f.lo), .d (.int f.hi)], [.d (webD fs ls), .d (crsD ks c), .un, .un, .un, .un], rfl, ?_, rfl⟩
      refine run_fgt (sl1 := [.d (webD fs ls), .d (crsD ks c), .d (.str f.name), .d (.int f.pl), .d (.int f.lo), .d (.int f.hi)]) ?_
      refine (run_if0 (sl1 := [.d (webD fs ls), .d (crsD ks c), .d (.str f.name), .d (.int f.pl), .d (.int f.lo), .d (.int f.hi)]) ?_).trans rfl
      have ea : mOp atD (mName 1) (mName 2) [.d (webD fs ls), .d (crsD ks c), .d (.str f.name), .d (.int f.pl), .d (.int f.lo), .d (.int f.hi)] = some (.ok (.d (.int (c f.name))), [.d (webD fs ls), .d (crsD ks c), .d (.str f.name), .d (.int f.pl), .d (.int f.lo), .d (.int f.hi)]) :=
        run_op (x := .d (crsD ks c)) (y := .d (.str f.name)) rfl rfl rfl rfl (at_crs (hk f hm))
      refine (run_or0 (run_test (run_op (x := .d (.str f.name)) (y := .d (crsD ks c)) rfl rfl rfl rfl (notIn_crs (hk f hm))))).trans ?_
      refine (run_or0 (run_not (b := true) (run_test (run_call (xs := [.d (.int (c f.name)), .d (.int f.lo)]) (run_cons ea rfl) (e_is_count _ _ h2 (by omega)))))).trans ?_
      refine run_test (run_op (x := .d (.int (c f.name))) (y := .d (.int f.hi)) ea rfl rfl rfl ?_)
      show some (SV.d (.bool (decide (f.hi < c f.name)))) = _
      rw [decide_eq_false (by omega)])
  have h : f_is_run_of_web_b [.d (webD fs ls), .d (crsD ks c), .un, .un, .un, .un] = some (.ok (.rt (.d (.bool true))), [.d (webD fs ls), .d (crsD ks c), .un, .un, .un, .un]) := by
    refine run_guard (sl1 := [.d (webD fs ls), .d (crsD ks c), .un, .un, .un, .un]) ?_ ?_
    · refine (run_or0 (sl1 := [.d (webD fs ls), .d (crsD ks c), .un, .un, .un, .un]) rfl).trans ?_
      refine run_test (run_op (x := .d (.int (ks.map fun s => (PyData.str s, PyData.int (c s))).length)) (y := .d (.int (fs.map flD).length)) rfl rfl rfl rfl ?_)
      refine (neD_int _ _).trans ?_
      rw [lk]
      simp
    · exact (run_seq q1).trans rfl
  exact run_fn (n := 2) (N := 6) (kp := []) (G := f_is_run_of_web_b) (args := [.d (webD fs ls), .d (crsD ks c)]) rfl h
end K71

set_option Elab.async false
set_option linter.all false
set_option maxRecDepth 100000
/-! the times of a web -/
namespace K71
open DD
open PySem (PyData Str sizeLine)
abbrev planD (fs : List Fl) : D := .dict (fs.map fun f => (PyData.str f.name, PyData.int f.pl))
def plF (fs : List Fl) (s : Str) : Int := ((fs.find? fun f => decide (f.name = s)).map Fl.pl).getD 0
theorem look_plan (fs : List Fl) (s : Str) (h : s ∈ namesF fs) : lookK (fs.map fun f => (PyData.str f.name, PyData.int f.pl)) (.inr s) = some (.int (plF fs s)) := by
  unfold lookK plF
  induction fs with
  | nil => cases h
  | cons f fs ih =>
    rw [List.map_cons, List.find?_cons, List.find?_cons]
    by_cases e : f.name = s
    · have e1 : dKey (PyData.str f.name) = some (.inr s) := by rw [e]; rfl
      rw [decide_eq_true e1, decide_eq_true e]
      rfl
    · have e1 : decide (dKey (PyData.str f.name) = some (.inr s)) = false := decide_eq_false (fun q => e (by simpa [dKey] using q))
      simp only [e1, e, decide_false]
      refine ih ?_
      rcases List.mem_cons.mp h with q | q
      · exact absurd q.symm e
      · exact q
theorem at_plan {fs : List Fl} {s : Str} (h : s ∈ namesF fs) : atD (planD fs) (.str s) = some (.d (.int (plF fs s))) := by
  show (lookK (fs.map fun f => (PyData.str f.name, PyData.int f.pl)) (.inr s)).map SV.d = _
  rw [look_plan fs s h]
  rfl
/-- what a flight waits for -/
def waits (ls : List Lk) (c T : Str → Int) (s : Str) : List Int := (ls.filter fun l => l.other == s).map fun l => T l.one + c l.one + l.many
def Sol (fs : List Fl) (ls : List Lk) (c T : Str → Int) (ns : List Str) : Prop := ∀ s ∈ ns, (plF fs s :: waits ls c T s).max? = some (T s)
def Topo (ls : List Lk) (order : List Str) : Prop := ∀ (i : Nat) (s : Str), order[i]? = some s → ∀ l ∈ ls, l.other = s → l.one ∈ order.take i
abbrev fndS (c T : Str → Int) (done : List Str) : SV := .dct (done.map fun s => (.inr s, .tup [.d (.int (T s)), .d (.int (T s + c s))]))
abbrev fndD (c T : Str → Int) (done : List Str) : D := .dict (done.map fun s => (PyData.str s, .tuple [.int (T s), .int (T s + c s)]))
theorem frz_fnd (c T : Str → Int) (done : List Str) : frz1 (fndS c T done) = .d (fndD c T done) :=
  frz1_dct done (fun s => s) (fun s => .tup [.d (.int (T s)), .d (.int (T s + c s))]) fun _ _ => rfl
theorem at_fnd {c T : Str → Int} {done : List Str} {s : Str} (h : s ∈ done) : atD (fndD c T done) (.str s) = some (.d (.tuple [.int (T s), .int (T s + c s)])) := by
  show (lookK (done.map fun s => (PyData.str s, PyData.tuple [.int (T s), .int (T s + c s)])) (.inr s)).map SV.d = _
  rw [look_map (α := Nat) done (fun s => PyData.tuple [.int (T s), .int (T s + c s)]) s, if_pos h]
  rfl
theorem maxD_of {ns : List Int} {m : Int} (h : ns.max? = some m) : maxD [.list (ns.map PyData.int)] = some (.d (.int m)) := by
  show (intsOf (ns.map PyData.int)).bind (fun ns => ns.max?.map fun m => SV.d (.int m)) = _
  rw [intsOf_map]
  show ns.max?.map (fun m => SV.d (.int m)) = _
  rw [h]
  rfl
theorem nodup_take {l : List Str} {i : Nat} {s : Str} (nd : l.Nodup) (h : l[i]? = some s) : s ∉ l.take i := by
  obtain ⟨hi, e⟩ := List.getElem?_eq_some_iff.mp h
  intro q
  have n2 := nd
  rw [← List.take_append_drop i l, List.drop_eq_getElem_cons hi, List.nodup_append] at n2
  exact n2.2.2 s q l[i] (List.mem_cons_self ..) e.symm
theorem e_web_times_by {fs : List Fl} {ls : List Lk} {ks : List Str} {c T : Str → Int} {order : List Str} (w : WebIn fs ls) (k : CrsOk fs ks c) (ho : order = fio ls (namesF fs) (namesF fs).length) (hl : order.length = (namesF fs).length) (tp : Topo ls order) (nd : order.Nodup) (so : Sol fs ls c T order) :
    f_web_times_by [.d (webD fs ls), .d (crsD ks c)] = some (.ok (fndS c T order), [.un, .un]) := by
  have big : (1000 : Nat) ≤ sizeLine := by decide
  have lf : fs.length ≤ 1000 := by have := w.nm.len; simpa using this
  have sub : ∀ s ∈ order, s ∈ namesF fs := fun s hs => fio_sub _ s (by rw [← ho]; exact hs)
  have hk : ∀ s ∈ namesF fs, s ∈ ks := fun s hs => k.perm.mem_iff.mpr hs
  have e_ord : f_flights_in_order (NL (namesF fs) ls) = some (.ok (.d (.list (strD order))), [.un, .un]) := by
    rw [e_flights_in_order w.nm, if_pos (by rw [← ho]; exact hl), ← ho]
  have e_nm := e_names_of_web fs ls lf
  obtain ⟨W, hW⟩ : ∃ W : SV, W = .d (webD fs ls) := ⟨_, rfl⟩
  -- the start
  have c0 := dcomp_map (N := 11) (vs := [4]) (F := mIt (mOp atD (mName 0) (mC (.int 1)))) (T := gSet 4) (fk := mOp atD (mName 4) (mC (.int 0))) (f := mOp atD (mName 4) (mC (.int 1))) (sl := [.d (webD fs ls), .d (crsD ks c), .un, .un, .un, .un, .un, .un, .un, .un, .un]) (sl1 := [.d (webD fs ls), .d (crsD ks c), .un, .un, .un, .un, .un, .un, .un, .un, .un])
    fs flD Fl.name (fun f => PyData.int f.pl) rfl rfl (Nat.le_trans lf big) w.nm.nd (fun f hf => ⟨[.d (webD fs ls), .d (crsD ks c), .un, .un, .d (flD f), .un, .un, .un, .un, .un, .un], rfl, rfl, rfl, rfl⟩) rfl
  have e0 : mFrz [3] (mAsg (bnd (mCons mDictNew (mCons (mDComp 11 [4] (mIt (mOp atD (mName 0) (mC (.int 1)))) (gSet 4) (ret true) (mOp atD (mName 4) (mC (.int 0))) (mOp atD (mName 4) (mC (.int 1)))) mNil)) mkT) (gTupD 2 (gsCons (gSet 2) (gsCons (gSet 3) gsNil)))) [.d (webD fs ls), .d (crsD ks c), .un, .un, .un, .un, .un, .un, .un, .un, .un] =
      some (.ok .nx, [.d (webD fs ls), .d (crsD ks c), .dct [], .d (planD fs), .un, .un, .un, .un, .un, .un, .un]) := by
    have eg : bnd (mCons mDictNew (mCons (mDComp 11 [4] (mIt (mOp atD (mName 0) (mC (.int 1)))) (gSet 4) (ret true) (mOp atD (mName 4) (mC (.int 0))) (mOp atD (mName 4) (mC (.int 1)))) mNil)) mkT [.d (webD fs ls), .d (crsD ks c), .un, .un, .un, .un, .un, .un, .un, .un, .un] =
        some (.ok (.tup [.dct [], .dct (fs.map fun f => (.inr f.name, .d (.int f.pl)))]), [.d (webD fs ls), .d (crsD ks c), .un, .un, .un, .un, .un, .un, .un, .un, .un]) := by
      have := run_cons (f := mDictNew) (sl := [.d (webD fs ls), .d (crsD ks c), .un, .un, .un, .un, .un, .un, .un, .un, .un]) (x := .dct []) rfl (run_cons c0 run_nil)
      unfold bnd
      rw [this]
      rfl
    refine run_frz (sl1 := [.d (webD fs ls), .d (crsD ks c), .dct [], .dct (fs.map fun f => (.inr f.name, .d (.int f.pl))), .un, .un, .un, .un, .un, .un, .un]) (run_asg eg rfl) ?_
    have hf : (SV.dct (fs.map fun f => ((.inr f.name, .d (.int f.pl)) : L2.Key × SV))).full = true := by rw [SV.full]; exact fullk_map fs Fl.name (fun f => .d (.int f.pl)) fun _ _ => rfl
    have ht : (SV.dct (fs.map fun f => ((.inr f.name, .d (.int f.pl)) : L2.Key × SV))).toD = planD fs := by rw [SV.toD, toDk_map fs Fl.name (fun f => .d (.int f.pl))]; rfl
    rw [frzs1, frz_at (i := 3) (x := .dct (fs.map fun f => (.inr f.name, .d (.int f.pl)))) rfl hf, ht]
    rfl
  obtain ⟨s', q1, rfl⟩ := for_inv (F := (mIt (mCall f_flights_in_order [] (mCons (mCall f_names_of_web [] (mCons (mName 0) mNil)) (mCons (mOp atD (mName 0) (mC (.int 2))) mNil))))) (T := gSet 5)
    (b := (mFgt [5, 6, 10] (mSeq (mFrz [6] (mAsg (mComp 11 [7, 8, 9] (mIt (mOp atD (mName 0) (mC (.int 2)))) (gTupD 3 (gsCons (gSet 7) (gsCons (gSet 8) (gsCons (gSet 9) gsNil)))) (mTest (mOp eqD (mName 8) (mName 5))) (mPure (mOp addD (mOp atD (mOp atD (mName 2) (mName 7)) (mC (.int 1))) (mName 9)))) (gSet 6)))
      (mSeq (mAsg (mB maxD (mCons (mOp addD (bnd (mCons (mOp atD (mName 3) (mName 5)) mNil) mkL) (mName 6)) mNil)) (gSet 10))
      (mSetItem 2 (bnd (mCons (mName 10) (mCons (mOp addD (mName 10) (mOp atD (mName 1) (mName 5))) mNil)) mkT) (mName 5))))))
    (sl := [.d (webD fs ls), .d (crsD ks c), .dct [], .d (planD fs), .un, .un, .un, .un, .un, .un, .un]) (sl1 := [.d (webD fs ls), .d (crsD ks c), .dct [], .d (planD fs), .un, .un, .un, .un, .un, .un, .un]) (xs := order) PyData.str
    (fun i s => s = [.d (webD fs ls), .d (crsD ks c), fndS c T (order.take i), .d (planD fs), .un, .un, .un, .un, .un, .un, .un])
    (by
      refine run_itL (x := .d (.list (strD order))) (run_call (sl2 := [.un, .un]) (xs := [.lst ((strD (namesF fs)).map SV.d), .d (.list (ls.map lkD))]) (run_cons (run_call (xs := [.d (webD fs ls)]) rfl e_nm) rfl) ?_) rfl rfl
      rw [List.map_nil, List.append_nil]
      have := e_flights_in_order' w.nm (.lst ((strD (namesF fs)).map SV.d)) (full_lst _) (toD_lst _)
      rw [if_pos (by rw [← ho]; exact hl), ← ho] at this
      exact this) rfl
    (fun i s t hs ht => by
      subst ht
      have hi : i < order.length := (List.getElem?_eq_some_iff.mp hs).1
      have hm : s ∈ order := List.mem_of_getElem? hs
      have hn := sub s hm
      have prior : ∀ l ∈ ls, l.other = s → l.one ∈ order.take i := tp i s hs
      have hnot : s ∉ order.take i := nodup_take nd hs
      have okS : ∀ x ∈ namesF fs, PyData.strOk x = true := fun x hx => (w.nm.wd x hx).ok
      have c1 := comp_map (N := 11) (vs := [7, 8, 9]) (F := mIt (mOp atD (mName 0) (mC (.int 2)))) (T := (gTupD 3 (gsCons (gSet 7) (gsCons (gSet 8) (gsCons (gSet 9) gsNil))))) (t := mTest (mOp eqD (mName 8) (mName 5))) (f := mPure (mOp addD (mOp atD (mOp atD (mName 2) (mName 7)) (mC (.int 1))) (mName 9)))
        (sl := [.d (webD fs ls), .d (crsD ks c), fndS c T (order.take i), .d (planD fs), .un, .d (.str s), .un, .un, .un, .un, .un]) (sl1 := [.d (webD fs ls), .d (crsD ks c), fndS c T (order.take i), .d (planD fs), .un, .d (.str s), .un, .un, .un, .un, .un])
        ls lkD (fun l => l.other == s) (fun l => SV.d (.int (T l.one + c l.one + l.many))) rfl rfl (Nat.le_trans w.nm.len2 big) (fun l hl => by
          refine ⟨[.d (webD fs ls), .d (crsD ks c), fndS c T (order.take i), .d (planD fs), .un, .d (.str s), .un, .d (.str l.one), .d (.str l.other), .d (.int l.many), .un], [.d (webD fs ls), .d (crsD ks c), fndS c T (order.take i), .d (planD fs), .un, .d (.str s), .un, .d (.str l.one), .d (.str l.other), .d (.int l.many), .un], rfl,
            run_test (run_op (x := .d (.str l.other)) (y := .d (.str s)) rfl rfl rfl rfl (eqD_str (okS _ (w.nm.ends l hl).2) (okS s hn))), fun hp => ?_, fun _ => rfl⟩
          have hin := prior l hl (by simpa using hp)
          refine ⟨[.d (webD fs ls), .d (crsD ks c), fndS c T (order.take i), .d (planD fs), .un, .d (.str s), .un, .d (.str l.one), .d (.str l.other), .d (.int l.many), .un], run_pure (sl1 := [.d (webD fs ls), .d (crsD ks c), .d (fndD c T (order.take i)), .d (planD fs), .un, .d (.str s), .un, .d (.str l.one), .d (.str l.other), .d (.int l.many), .un]) ?_ rfl, rfl⟩
          have em : ([.d (webD fs ls), .d (crsD ks c), fndS c T (order.take i), .d (planD fs), .un, .d (.str s), .un, .d (.str l.one), .d (.str l.other), .d (.int l.many), .un] : List SV).map frz1 = [.d (webD fs ls), .d (crsD ks c), .d (fndD c T (order.take i)), .d (planD fs), .un, .d (.str s), .un, .d (.str l.one), .d (.str l.other), .d (.int l.many), .un] := by
            rw [← frz_fnd c T (order.take i)]
            rfl
          rw [em]
          exact run_op (x := .d (.int (T l.one + c l.one))) (y := .d (.int l.many)) (run_op (x := .d (.tuple [.int (T l.one), .int (T l.one + c l.one)])) (y := .d (.int 1)) (run_op (x := .d (fndD c T (order.take i))) (y := .d (.str l.one)) rfl rfl rfl rfl (at_fnd hin)) rfl rfl rfl rfl) rfl rfl rfl rfl) rfl
      have ew : ((ls.filter fun l => l.other == s).map fun l => SV.d (.int (T l.one + c l.one + l.many))) = ((waits ls c T s).map PyData.int).map SV.d := by
        unfold waits
        rw [List.map_map, List.map_map]
        rfl
      rw [ew] at c1
      have mx := so s hm
      have eT : order.take (i + 1) = order.take i ++ [s] := take_succ' hs
      refine ⟨[.d (webD fs ls), .d (crsD ks c), fndS c T (order.take i), .d (planD fs), .un, .d (.str s), .un, .un, .un, .un, .un], [.d (webD fs ls), .d (crsD ks c), fndS c T (order.take (i + 1)), .d (planD fs), .un, .un, .un, .un, .un, .un, .un], rfl, ?_, rfl⟩
      refine run_fgt (sl1 := [.d (webD fs ls), .d (crsD ks c), fndS c T (order.take (i + 1)), .d (planD fs), .un, .d (.str s), .d (.list ((waits ls c T s).map PyData.int)), .un, .un, .un, .d (.int (T s))]) ?_
      refine (run_seq (run_asgL c1 (by show 6 < 11; decide))).trans ?_
      have lw : ([PyData.int (plF fs s)] : List D).length + ((waits ls c T s).map PyData.int).length ≤ sizeLine := by
        rw [List.length_map]
        unfold waits
        rw [List.length_map]
        have h1 := List.length_filter_le (fun l : Lk => l.other == s) ls
        have h2 := w.nm.len2
        have h3 : (2000 : Nat) ≤ sizeLine := by decide
        show 1 + _ ≤ _
        omega
      have ea : mOp addD (bnd (mCons (mOp atD (mName 3) (mName 5)) mNil) mkL) (mName 6) [.d (webD fs ls), .d (crsD ks c), fndS c T (order.take i), .d (planD fs), .un, .d (.str s), .d (.list ((waits ls c T s).map PyData.int)), .un, .un, .un, .un] =
          some (.ok (.lst (((plF fs s :: waits ls c T s).map PyData.int).map SV.d)), [.d (webD fs ls), .d (crsD ks c), fndS c T (order.take i), .d (planD fs), .un, .d (.str s), .d (.list ((waits ls c T s).map PyData.int)), .un, .un, .un, .un]) := by
        have e1 : mCons (mOp atD (mName 3) (mName 5)) mNil [.d (webD fs ls), .d (crsD ks c), fndS c T (order.take i), .d (planD fs), .un, .d (.str s), .d (.list ((waits ls c T s).map PyData.int)), .un, .un, .un, .un] = some (.ok [.d (.int (plF fs s))], [.d (webD fs ls), .d (crsD ks c), fndS c T (order.take i), .d (planD fs), .un, .d (.str s), .d (.list ((waits ls c T s).map PyData.int)), .un, .un, .un, .un]) :=
          run_cons (run_op (x := .d (planD fs)) (y := .d (.str s)) rfl rfl rfl rfl (at_plan hn)) run_nil
        have e2 : bnd (mCons (mOp atD (mName 3) (mName 5)) mNil) mkL [.d (webD fs ls), .d (crsD ks c), fndS c T (order.take i), .d (planD fs), .un, .d (.str s), .d (.list ((waits ls c T s).map PyData.int)), .un, .un, .un, .un] = some (.ok (.lst [.d (.int (plF fs s))]), [.d (webD fs ls), .d (crsD ks c), fndS c T (order.take i), .d (planD fs), .un, .d (.str s), .d (.list ((waits ls c T s).map PyData.int)), .un, .un, .un, .un]) := by
          unfold bnd
          rw [e1]
          rfl
        exact run_op (x := .lst [.d (.int (plF fs s))]) (y := .d (.list ((waits ls c T s).map PyData.int))) e2 rfl rfl rfl (addD_list lw)
      refine (run_seq (run_asg (x := .d (.int (T s))) (run_B (run_cons ea run_nil) (by rw [SV.fulls, full_lst]; rfl) (by rw [SV.toDs, toD_lst]; exact maxD_of mx)) rfl)).trans ?_
      have e6 : bnd (mCons (mName 10) (mCons (mOp addD (mName 10) (mOp atD (mName 1) (mName 5))) mNil)) mkT [.d (webD fs ls), .d (crsD ks c), fndS c T (order.take i), .d (planD fs), .un, .d (.str s), .d (.list ((waits ls c T s).map PyData.int)), .un, .un, .un, .d (.int (T s))] =
          some (.ok (.tup [.d (.int (T s)), .d (.int (T s + c s))]), [.d (webD fs ls), .d (crsD ks c), fndS c T (order.take i), .d (planD fs), .un, .d (.str s), .d (.list ((waits ls c T s).map PyData.int)), .un, .un, .un, .d (.int (T s))]) := by
        have e5 : mCons (mName 10) (mCons (mOp addD (mName 10) (mOp atD (mName 1) (mName 5))) mNil) [.d (webD fs ls), .d (crsD ks c), fndS c T (order.take i), .d (planD fs), .un, .d (.str s), .d (.list ((waits ls c T s).map PyData.int)), .un, .un, .un, .d (.int (T s))] =
            some (.ok [.d (.int (T s)), .d (.int (T s + c s))], [.d (webD fs ls), .d (crsD ks c), fndS c T (order.take i), .d (planD fs), .un, .d (.str s), .d (.list ((waits ls c T s).map PyData.int)), .un, .un, .un, .d (.int (T s))]) :=
          run_cons rfl (run_cons (run_op (x := .d (.int (T s))) (y := .d (.int (c s))) rfl rfl (run_op (x := .d (crsD ks c)) (y := .d (.str s)) rfl rfl rfl rfl (at_crs (hk s hn))) rfl rfl) run_nil)
        unfold bnd
        rw [e5]
        rfl
      have ez : setO (fndS c T (order.take i)) (.str s) (.tup [.d (.int (T s)), .d (.int (T s + c s))]) = some (fndS c T (order.take (i + 1))) := by
        show (if ((order.take i).map fun s => ((.inr s, .tup [.d (.int (T s)), .d (.int (T s + c s))]) : L2.Key × SV)).length < sizeLine then (putS _ (.inr s) _).map SV.dct else none) = _
        rw [if_pos (by
          rw [List.length_map, List.length_take]
          have := nodup_len nd sub
          have h2 := w.nm.len
          have h3 : (1000 : Nat) < sizeLine := by decide
          omega), putS_new (fun p hp => ?_)]
        · rw [eT]
          show some (SV.dct _) = some (SV.dct _)
          rw [List.map_append]
          rfl
        · obtain ⟨y, hy, rfl⟩ := List.mem_map.mp hp
          intro q
          have q2 : y = s := by simpa using q
          exact hnot (by rw [← q2]; exact hy)
      exact (run_set (i := 2) (x0 := fndS c T (order.take i)) (y := fndS c T (order.take i)) rfl rfl e6 (k := .d (.str s)) rfl rfl rfl ez).trans rfl)
  have h : f_web_times_by_b [.d (webD fs ls), .d (crsD ks c), .un, .un, .un, .un, .un, .un, .un, .un, .un] = some (.ok (.rt (fndS c T order)), [.d (webD fs ls), .d (crsD ks c), .un, .d (planD fs), .un, .un, .un, .un, .un, .un, .un]) := by
    rw [List.take_length] at q1
    refine (run_seq e0).trans ((run_seq q1).trans ?_)
    rfl
  exact run_fn (n := 2) (N := 11) (kp := []) (G := f_web_times_by_b) (args := [.d (webD fs ls), .d (crsD ks c)]) rfl h
end K71

set_option Elab.async false
set_option linter.all false
set_option maxRecDepth 100000
/-! web_times; orders and solutions -/
namespace K71
open DD
open PySem (PyData Str sizeLine)
abbrev rowD (c T : Str → Int) (s : Str) : D := .tuple [.str s, .int (T s), .int (T s + c s)]
abbrev rowsD (c T : Str → Int) (ns : List Str) : List D := ns.map (rowD c T)
theorem fnd_full (c T : Str → Int) (done : List Str) : (fndS c T done).full = true := by
  rw [SV.full]
  exact fullk_map done (fun s => s) (fun s => .tup [.d (.int (T s)), .d (.int (T s + c s))]) fun _ _ => rfl
theorem fnd_toD (c T : Str → Int) (done : List Str) : (fndS c T done).toD = fndD c T done := by
  rw [SV.toD, toDk_map done (fun s => s) (fun s => .tup [.d (.int (T s)), .d (.int (T s + c s))])]
  rfl
/-- what a right web with a course is -/
structure Good (fs : List Fl) (ls : List Lk) (ks : List Str) (c T : Str → Int) (order : List Str) : Prop where
  w : WebIn fs ls
  k : CrsOk fs ks c
  ho : order = fio ls (namesF fs) (namesF fs).length
  hl : order.length = (namesF fs).length
  tp : Topo ls order
  nd : order.Nodup
  so : Sol fs ls c T order
theorem Good.all {fs : List Fl} {ls : List Lk} {ks : List Str} {c T : Str → Int} {order : List Str} (g : Good fs ls ks c T order) : ∀ s ∈ namesF fs, s ∈ order := by
  intro s hs
  by_cases h : s ∈ order
  · exact h
  · exfalso
    have n : (s :: order).Nodup := List.nodup_cons.mpr ⟨h, g.nd⟩
    have := nodup_len n fun x hx => by
      rcases List.mem_cons.mp hx with rfl | hx
      · exact hs
      · exact fio_sub _ x (by rw [← g.ho]; exact hx)
    rw [List.length_cons, g.hl] at this
    omega
theorem e_web_times {fs : List Fl} {ls : List Lk} {ks : List Str} {c T : Str → Int} {order : List Str} (g : Good fs ls ks c T order) : f_web_times [.d (webD fs ls), .d (crsD ks c)] = some (.ok (.lst ((rowsD c T (namesF fs)).map SV.d)), [.un, .un]) := by
  have lf : fs.length ≤ 1000 := by have := g.w.nm.len; simpa using this
  have ew := e_check_web g.w (by rw [← g.ho]; exact g.hl)
  have er := e_is_run g.w g.k
  have et := e_web_times_by g.w g.k g.ho g.hl g.tp g.nd g.so
  have en := e_names_of_web fs ls lf
  have c1 := comp_allD (N := 4) (vs := [3]) (F := mIt (mCall f_names_of_web [] (mCons (mName 0) mNil))) (T := gSet 3) (f := mOp addD (bnd (mCons (mName 3) mNil) mkT) (mOp atD (mName 2) (mName 3)))
    (sl := [.d (webD fs ls), .d (crsD ks c), .d (fndD c T order), .un]) (sl1 := [.d (webD fs ls), .d (crsD ks c), .d (fndD c T order), .un]) (namesF fs) PyData.str (rowD c T)
    (run_itL (run_call (xs := [.d (webD fs ls)]) rfl en) (full_lst _) (toD_lst _)) rfl (Nat.le_trans g.w.nm.len (by decide))
    (fun s hs => ⟨[.d (webD fs ls), .d (crsD ks c), .d (fndD c T order), .d (.str s)], rfl, run_op (x := .tup [.d (.str s)]) (y := .d (.tuple [.int (T s), .int (T s + c s)])) rfl rfl (run_op (x := .d (fndD c T order)) (y := .d (.str s)) rfl rfl rfl rfl (at_fnd (g.all s hs))) rfl rfl, rfl⟩) rfl
  have e2 : mFrz [2] (mAsg (mCall f_web_times_by [] (mCons (mName 0) (mCons (mName 1) mNil))) (gSet 2)) [.d (webD fs ls), .d (crsD ks c), .un, .un] = some (.ok .nx, [.d (webD fs ls), .d (crsD ks c), .d (fndD c T order), .un]) := by
    refine run_frz (sl1 := [.d (webD fs ls), .d (crsD ks c), fndS c T order, .un]) (run_asg (run_call (xs := [.d (webD fs ls), .d (crsD ks c)]) rfl et) rfl) ?_
    rw [frzs1, frz_at (i := 2) (x := fndS c T order) rfl (fnd_full c T order), fnd_toD]
    rfl
  have h : f_web_times_b [.d (webD fs ls), .d (crsD ks c), .un, .un] = some (.ok (.rt (.lst ((rowsD c T (namesF fs)).map SV.d))), [.d (webD fs ls), .d (crsD ks c), .d (fndD c T order), .un]) := by
    refine (run_seq (run_exp (x := .d .none) (run_call (xs := [.d (webD fs ls)]) rfl ew))).trans ?_
    refine run_guard (sl1 := [.d (webD fs ls), .d (crsD ks c), .un, .un]) (run_not (b := true) (run_test (run_call (xs := [.d (webD fs ls), .d (crsD ks c)]) rfl er))) ?_
    exact (run_seq e2).trans (run_ret c1)
  exact run_fn (n := 2) (N := 4) (kp := []) (G := f_web_times_b) (args := [.d (webD fs ls), .d (crsD ks c)]) rfl h
/-! ### orders -/
theorem rdy_topo {ls : List Lk} {ns : List Str} : ∀ k, Topo ls (fio ls ns k)
  | 0 => fun i s h => by simp [fio] at h
  | k + 1 => by
    intro i s h l hl e
    have ih := rdy_topo (ls := ls) (ns := ns) k
    show l.one ∈ (fio ls ns k ++ rdy ls ns (fio ls ns k)).take i
    have h' : (fio ls ns k ++ rdy ls ns (fio ls ns k))[i]? = some s := h
    rw [List.take_append]
    by_cases hi : i < (fio ls ns k).length
    · rw [List.getElem?_append_left hi] at h'
      exact List.mem_append_left _ (ih i s h' l hl e)
    · rw [List.getElem?_append_right (by omega)] at h'
      have m := rdy_mem (List.mem_of_getElem? h')
      rw [List.take_of_length_le (by omega)]
      exact List.mem_append_left _ (m.2.2 l hl e)
/-- where some order does, the program finds all -/
theorem fio_complete {ls : List Lk} {ns order : List Str} (hp : order.Perm ns) (tp : Topo ls order) : ∀ k, ∀ x ∈ order.take k, x ∈ fio ls ns k
  | 0, x, h => by simp at h
  | k + 1, x, h => by
    by_cases hin : x ∈ fio ls ns k
    · exact List.mem_append_left _ hin
    · have hx : order[k]? = some x := by
        rw [List.take_succ] at h
        rcases List.mem_append.mp h with h | h
        · exact absurd (fio_complete hp tp k x h) hin
        · cases q : order[k]? with
          | none => rw [q] at h; simp at h
          | some y => rw [q] at h; simp at h; rw [h]
      refine List.mem_append_right _ (mem_rdy (hp.mem_iff.mp (List.mem_of_getElem? hx)) hin fun l hl e => fio_complete hp tp k _ (tp k x hx l hl e))
theorem fio_whole {ls : List Lk} {ns order : List Str} (nd : ns.Nodup) (hp : order.Perm ns) (tp : Topo ls order) : (fio ls ns ns.length).length = ns.length := by
  refine Nat.le_antisymm (fio_len nd _) (nodup_len nd fun x hx => ?_)
  refine fio_complete hp tp ns.length x ?_
  rw [← hp.length_eq, List.take_length]
  exact hp.mem_iff.mpr hx
/-- a solution over an order -/
theorem sol_exists (fs : List Fl) (ls : List Lk) (c : Str → Int) : ∀ (order : List Str), order.Nodup → Topo ls order → ∃ T : Str → Int, Sol fs ls c T order := by
  intro order
  induction h : order.length generalizing order with
  | zero =>
    intro _ _
    have : order = [] := List.length_eq_zero_iff.mp h
    subst this
    exact ⟨fun _ => 0, fun s hs => nomatch hs⟩
  | succ n ih =>
    intro nd tp
    have hne : order ≠ [] := fun e => by rw [e] at h; cases h
    obtain ⟨pre, s, rfl⟩ : ∃ pre s, order = pre ++ [s] := ⟨order.dropLast, order.getLast hne, (List.dropLast_concat_getLast hne).symm⟩
    have hp : pre.length = n := by rw [List.length_append] at h; simpa using h
    have ndp := (List.nodup_append.mp nd).1
    have hs : s ∉ pre := fun q => (List.nodup_append.mp nd).2.2 s q s (by simp) rfl
    obtain ⟨T, hT⟩ := ih pre hp ndp (fun i x hx l hl e => by
      have hi := (List.getElem?_eq_some_iff.mp hx).1
      have := tp i x (by rw [List.getElem?_append_left hi]; exact hx) l hl e
      rwa [List.take_append_of_le_length (by omega)] at this)
    obtain ⟨m, hm⟩ : ∃ m, (plF fs s :: waits ls c T s).max? = some m := by
      cases q : (plF fs s :: waits ls c T s).max? with
      | none => simp at q
      | some m => exact ⟨m, rfl⟩
    have prior : ∀ l ∈ ls, ∀ x ∈ pre ++ [s], l.other = x → l.one ≠ s := by
      intro l hl x hx e e2
      obtain ⟨i, hi, ei⟩ := List.getElem_of_mem hx
      have := tp i x (by rw [List.getElem?_eq_getElem hi, ei]) l hl e
      rw [e2] at this
      have h2 : i ≤ pre.length := by rw [List.length_append] at hi; simp at hi; omega
      rw [List.take_append_of_le_length h2] at this
      exact hs (List.mem_of_mem_take this)
    have weq : ∀ x ∈ pre ++ [s], waits ls c (fun y => if y = s then m else T y) x = waits ls c T x := fun x hx => by
      unfold waits
      refine List.map_congr_left fun l hl => ?_
      obtain ⟨h1, h2⟩ := List.mem_filter.mp hl
      have := prior l h1 x hx (by simpa using h2)
      dsimp only
      rw [if_neg this]
    refine ⟨fun y => if y = s then m else T y, fun x hx => ?_⟩
    rw [weq x hx]
    dsimp only
    rcases List.mem_append.mp hx with hx2 | hx2
    · rw [if_neg (fun q => hs (by rw [← q]; exact hx2))]
      exact hT x hx2
    · have : x = s := by simpa using hx2
      rw [this, if_pos rfl]
      exact hm
theorem good_of {fs : List Fl} {ls : List Lk} {ks : List Str} {c : Str → Int} (w : WebIn fs ls) (k : CrsOk fs ks c) (h : (fio ls (namesF fs) (namesF fs).length).length = (namesF fs).length) : ∃ T order, Good fs ls ks c T order := by
  have nd := fio_nodup (ls := ls) w.nm.nd (namesF fs).length
  have tp := rdy_topo (ls := ls) (ns := namesF fs) (namesF fs).length
  obtain ⟨T, hT⟩ := sol_exists fs ls c _ nd tp
  exact ⟨T, _, w, k, rfl, h, tp, nd, hT⟩
end K71

set_option Elab.async false
set_option linter.all false
set_option maxRecDepth 100000
/-! exactly alike -/
namespace K71
open DD
open PySem (PyData Str sizeLine)
def Exs (n : Nat) (d : D) : Prop := ∀ x y : SV, x.full = true → y.full = true → x.toD = d → y.toD = d → f_law_exact n [x, y] = some (.ok (.d (.bool true)), [.un, .un])
theorem zipL_same (xs : List D) : zipL xs xs = xs.map fun x => PyData.tuple [x, x] := by
  unfold zipL
  induction xs with
  | nil => rfl
  | cons x xs ih => rw [List.zip_cons_cons, List.map_cons, List.map_cons, ih]
theorem run_name2 {x y : SV} {d e : D} {r : List SV} (hx : x.full = true) (hd : x.toD = d) : mName 0 (x :: y :: r) = some (.ok (.d d), .d d :: y :: r) := by
  rw [← hd]; exact run_name rfl hx
theorem run_name3 {x y : SV} {d e : D} {r : List SV} (hx : y.full = true) (hd : y.toD = d) : mName 1 (x :: y :: r) = some (.ok (.d d), x :: .d d :: r) := by
  rw [← hd]; exact run_name rfl hx
theorem exs_int (n : Nat) (i : Int) : Exs (n + 1) (.int i) := fun x y hx hy dx dy => by
  have e0 : mName 0 [x, y, .un, .un, .un, .un] = some (.ok (.d (.int i)), [.d (.int i), y, .un, .un, .un, .un]) := run_name2 (e := .none) hx dx
  have e1 : mName 1 [.d (.int i), y, .un, .un, .un, .un] = some (.ok (.d (.int i)), [.d (.int i), .d (.int i), .un, .un, .un, .un]) := run_name3 (e := .none) hy dy
  have h : f_law_exact_b (f_law_exact n) [x, y, .un, .un, .un, .un] = some (.ok (.rt (.d (.bool true))), [.d (.int i), .d (.int i), .un, .d (.bool true), .un, .un]) := by
    refine run_guard (sl1 := [.d (.int i), y, .un, .un, .un, .un]) (run_test (run_un e0 rfl rfl)) (run_guard (sl1 := [.d (.int i), .d (.int i), .un, .un, .un, .un]) ((run_or0 (run_test (run_un e1 rfl rfl))).trans rfl) ?_)
    refine (run_seq (run_frz (sl2 := [.d (.int i), .d (.int i), .un, .d (.bool true), .un, .un]) (run_asg (x := .d (.bool true)) (sl1 := [.d (.int i), .d (.int i), .un, .un, .un, .un]) rfl rfl) rfl)).trans ?_
    refine run_ret ((run_andV1 (sl1 := [.d (.int i), .d (.int i), .un, .d (.bool true), .un, .un]) rfl).trans ((run_andV1 (sl1 := [.d (.int i), .d (.int i), .un, .d (.bool true), .un, .un]) rfl).trans ?_))
    exact run_op (x := .d (.int i)) (y := .d (.int i)) rfl rfl rfl rfl ((eqD_int i i).trans (by rw [beq_self_eq_true]))
  exact run_fn (n := 2) (N := 6) (kp := []) (args := [x, y]) rfl h
theorem exs_str (n : Nat) (i : Str) (ok : PyData.strOk i = true) : Exs (n + 1) (.str i) := fun x y hx hy dx dy => by
  have e0 : mName 0 [x, y, .un, .un, .un, .un] = some (.ok (.d (.str i)), [.d (.str i), y, .un, .un, .un, .un]) := run_name2 (e := .none) hx dx
  have e1 : mName 1 [.d (.str i), y, .un, .un, .un, .un] = some (.ok (.d (.str i)), [.d (.str i), .d (.str i), .un, .un, .un, .un]) := run_name3 (e := .none) hy dy
  have h : f_law_exact_b (f_law_exact n) [x, y, .un, .un, .un, .un] = some (.ok (.rt (.d (.bool true))), [.d (.str i), .d (.str i), .un, .d (.bool true), .un, .un]) := by
    refine run_guard (sl1 := [.d (.str i), y, .un, .un, .un, .un]) (run_test (run_un e0 rfl rfl)) (run_guard (sl1 := [.d (.str i), .d (.str i), .un, .un, .un, .un]) ((run_or0 (run_test (run_un e1 rfl rfl))).trans rfl) ?_)
    refine (run_seq (run_frz (sl2 := [.d (.str i), .d (.str i), .un, .d (.bool true), .un, .un]) (run_asg (x := .d (.bool true)) (sl1 := [.d (.str i), .d (.str i), .un, .un, .un, .un]) rfl rfl) rfl)).trans ?_
    refine run_ret ((run_andV1 (sl1 := [.d (.str i), .d (.str i), .un, .d (.bool true), .un, .un]) rfl).trans ((run_andV1 (sl1 := [.d (.str i), .d (.str i), .un, .d (.bool true), .un, .un]) rfl).trans ?_))
    exact run_op (x := .d (.str i)) (y := .d (.str i)) rfl rfl rfl rfl ((eqD_str ok ok).trans (by rw [beq_self_eq_true]))
  exact run_fn (n := 2) (N := 6) (kp := []) (args := [x, y]) rfl h
theorem exs_seq (n : Nat) (xs : List D) (d : D) (hd : d = .list xs ∨ d = .tuple xs) (hl : xs.length ≤ sizeLine) (h : ∀ x ∈ xs, Exs n x) : Exs (n + 1) d := fun x y hx hy dx dy => by
  have e0 : mName 0 [x, y, .un, .un, .un, .un] = some (.ok (.d d), [.d d, y, .un, .un, .un, .un]) := run_name2 (e := .none) hx dx
  have e1 : mName 1 [.d d, y, .un, .un, .un, .un] = some (.ok (.d d), [.d d, .d d, .un, .un, .un, .un]) := run_name3 (e := .none) hy dy
  obtain ⟨b, hb1, hb2, hb3⟩ : ∃ b : Bool, isiM "list" d = some (.d (.bool b)) ∧ isiM "tuple" d = some (.d (.bool (!b))) ∧ isiM2 "list" "tuple" d = some (.d (.bool true)) := by
    rcases hd with rfl | rfl
    · exact ⟨true, rfl, rfl, rfl⟩
    · exact ⟨false, rfl, rfl, rfl⟩
  have hz : zipOf d d = some (xs.map fun x => PyData.tuple [x, x]) := by
    rw [← zipL_same]
    rcases hd with rfl | rfl <;> rfl
  have hle : lenD [d] = some (.d (.int xs.length)) := by rcases hd with rfl | rfl <;> rfl
  have eb : ∀ b : Bool, eqD (.bool b) (.bool b) = some (.d (.bool true)) := fun b => by cases b <;> rfl
  have c := comp_allD (N := 6) (vs := [4, 5]) (F := mZip (mName 0) (mName 1)) (T := gTupD 2 (gsCons (gSet 4) (gsCons (gSet 5) gsNil))) (f := mCall (f_law_exact n) [] (mCons (mName 4) (mCons (mName 5) mNil))) (sl := [.d d, .d d, .d (.bool true), .d (.bool true), .un, .un]) (sl1 := [.d d, .d d, .d (.bool true), .d (.bool true), .un, .un]) xs (fun x => PyData.tuple [x, x]) (fun _ => PyData.bool true)
    (run_zip (x := .d d) (y := .d d) rfl rfl rfl rfl hz) rfl hl
    (fun x hx => ⟨[.d d, .d d, .d (.bool true), .d (.bool true), .d x, .d x], rfl, run_call (xs := [.d x, .d x]) rfl (h x hx _ _ rfl rfl rfl rfl), rfl⟩) rfl
  have c2 := run_all (r := fun _ => true) c
  rw [all_true (fun _ _ => rfl)] at c2
  have hh : f_law_exact_b (f_law_exact n) [x, y, .un, .un, .un, .un] = some (.ok (.rt (.d (.bool true))), [.d d, .d d, .d (.bool true), .d (.bool true), .un, .un]) := by
    refine run_seqR ((run_if1 (sl1 := [.d d, y, .un, .un, .un, .un]) (run_test (run_un e0 rfl hb3))).trans ?_)
    refine (run_seq (run_asg (x := .d (.bool true)) (sl1 := [.d d, .d d, .un, .un, .un, .un]) (run_op (x := .d (.bool b)) (y := .d (.bool b)) (run_un e1 rfl hb1) rfl (run_un rfl rfl hb1) rfl (eb b)) rfl)).trans ?_
    refine (run_seq (run_frz (sl2 := [.d d, .d d, .d (.bool true), .d (.bool true), .un, .un]) (run_asg (x := .d (.bool true)) (sl1 := [.d d, .d d, .d (.bool true), .un, .un, .un]) ((run_andV1 rfl).trans (run_op (x := .d (.bool !b)) (y := .d (.bool !b)) (run_un rfl rfl hb2) rfl (run_un rfl rfl hb2) rfl (eb (!b)))) rfl) rfl)).trans ?_
    refine run_ret ((run_andV1 (sl1 := [.d d, .d d, .d (.bool true), .d (.bool true), .un, .un]) rfl).trans ((run_andV1 (sl1 := [.d d, .d d, .d (.bool true), .d (.bool true), .un, .un]) ?_).trans c2))
    exact run_op (x := .d (.int xs.length)) (y := .d (.int xs.length)) (run_B (xs := [.d d]) rfl rfl hle) rfl (run_B (xs := [.d d]) rfl rfl hle) rfl ((eqD_int _ _).trans (by rw [beq_self_eq_true]))
  exact run_fn (n := 2) (N := 6) (kp := []) (args := [x, y]) rfl hh
theorem exs_row (n : Nat) (c T : Str → Int) (s : Str) (ok : PyData.strOk s = true) : Exs (n + 2) (rowD c T s) :=
  exs_seq (n + 1) _ _ (.inr rfl) (by show 3 ≤ sizeLine; decide) fun x hx => by
    simp only [List.mem_cons, List.not_mem_nil, or_false] at hx
    rcases hx with rfl | rfl | rfl
    · exact exs_str n s ok
    · exact exs_int n _
    · exact exs_int n _
theorem exs_rows (n : Nat) (c T : Str → Int) (ns : List Str) (ok : ∀ s ∈ ns, PyData.strOk s = true) (hl : ns.length ≤ 1000) : Exs (n + 3) (.list (rowsD c T ns)) :=
  exs_seq (n + 2) _ _ (.inl rfl) (by rw [List.length_map]; exact Nat.le_trans hl (by decide)) fun x hx => by
    obtain ⟨s, hs, rfl⟩ := List.mem_map.mp hx
    exact exs_row n c T s (ok s hs)
end K71

set_option Elab.async false
set_option linter.all false
set_option maxRecDepth 100000
/-! the law's own times: one step -/
namespace K71
open DD
open PySem (PyData Str sizeLine)
abbrev flsD (fs : List Fl) : D := .dict (fs.map fun f => (PyData.str f.name, flD f))
theorem at_fls (fs : List Fl) (s : Str) (h : s ∈ namesF fs) : ∃ f : Fl, f.pl = plF fs s ∧ atD (flsD fs) (.str s) = some (.d (flD f)) := by
  have : ∃ f : Fl, f.pl = plF fs s ∧ lookK (fs.map fun f => (PyData.str f.name, flD f)) (.inr s) = some (flD f) := by
    unfold lookK plF
    induction fs with
    | nil => cases h
    | cons f fs ih =>
      rw [List.map_cons, List.find?_cons, List.find?_cons]
      by_cases e : f.name = s
      · have e1 : dKey (PyData.str f.name) = some (.inr s) := by rw [e]; rfl
        rw [decide_eq_true e1, decide_eq_true e]
        exact ⟨f, rfl, rfl⟩
      · have e1 : ¬ dKey (PyData.str f.name) = some (.inr s) := fun q => e (by simpa [dKey] using q)
        rw [decide_eq_false e1, decide_eq_false e]
        refine ih ?_
        rcases List.mem_cons.mp h with q | q
        · exact absurd q.symm e
        · exact q
  obtain ⟨f, h1, h2⟩ := this
  refine ⟨f, h1, ?_⟩
  show (lookK (fs.map fun f => (PyData.str f.name, flD f)) (.inr s)).map SV.d = _
  rw [h2]
  rfl
abbrev goS (G : Str → Int) (ks : List Str) : SV := .dct (ks.map fun s => (.inr s, .d (.int (G s))))
theorem frz_go (G : Str → Int) (ks : List Str) : frz1 (goS G ks) = .d (crsD ks G) := frz1_dct ks (fun s => s) (fun s => .d (.int (G s))) fun _ _ => rfl
/-- what the law lets a flight wait for, as far as it knows -/
def waitsG (ls : List Lk) (c G : Str → Int) (ks : List Str) (s : Str) : List Int := (ls.filter fun l => (l.other == s) && decide (l.one ∈ ks)).map fun l => G l.one + c l.one + l.many
abbrev stT (fs : List Fl) (ls : List Lk) (kc : List Str) (c G : Str → Int) (ks : List Str) (a b w : SV) : List SV := [.d (webD fs ls), .d (crsD kc c), goS G ks, .d (flsD fs), .un, a, b, w, .un, .un, .un]
theorem step_times {fs : List Fl} {ls : List Lk} {kc ks : List Str} {c G : Str → Int} (w : WebIn fs ls) (k : CrsOk fs kc c) (nd : ks.Nodup) (lk : ks.length ≤ 1000) {s : Str} (hs : s ∈ namesF fs) (a : SV) (v : Int) (hv : (plF fs s :: waitsG ls c G ks s).max? = some v) (hks : ∀ x ∈ ks, x ∈ namesF fs) :
    (mSeq (mFrz [7] (mAsg (mComp 11 [8, 9, 10] (mIt (mOp atD (mName 0) (mC (.int 2)))) (gTupD 3 (gsCons (gSet 8) (gsCons (gSet 9) (gsCons (gSet 10) gsNil)))) (mPureT (mAnd (mTest (mOp eqD (mName 9) (mName 6))) (mTest (mOp inD (mName 8) (mName 2))))) (mPure (mOp addD (mOp addD (mGet (mName 2) (mName 8) (mC (.int 0))) (mOp atD (mName 1) (mName 8))) (mName 10)))) (gSet 7)))
      (mSetItem 2 (mB maxD (mCons (mOp addD (bnd (mCons (mOp atD (mOp atD (mName 3) (mName 6)) (mC (.int 1))) mNil) mkL) (mName 7)) mNil)) (mName 6))) (stT fs ls kc c G ks a (.d (.str s)) .un) =
    some (.ok .nx, stT fs ls kc c (fun x => if x = s then v else G x) (if s ∈ ks then ks else ks ++ [s]) a (.d (.str s)) (.d (.list ((waitsG ls c G ks s).map PyData.int)))) := by
  have big : (1000 : Nat) ≤ sizeLine := by decide
  have okS : ∀ x ∈ namesF fs, PyData.strOk x = true := fun x hx => (w.nm.wd x hx).ok
  have hkc : ∀ x ∈ namesF fs, x ∈ kc := fun x hx => k.perm.mem_iff.mpr hx
  have em : ∀ l : Lk, ([.d (webD fs ls), .d (crsD kc c), goS G ks, .d (flsD fs), .un, a, .d (.str s), .un, .d (.str l.one), .d (.str l.other), .d (.int l.many)] : List SV).map frz1 = [.d (webD fs ls), .d (crsD kc c), .d (crsD ks G), .d (flsD fs), .un, frz1 a, .d (.str s), .un, .d (.str l.one), .d (.str l.other), .d (.int l.many)] := fun l => by
    rw [← frz_go G ks]
    rfl
  have c1 := comp_map (N := 11) (vs := [8, 9, 10]) (F := mIt (mOp atD (mName 0) (mC (.int 2)))) (T := (gTupD 3 (gsCons (gSet 8) (gsCons (gSet 9) (gsCons (gSet 10) gsNil))))) (t := (mPureT (mAnd (mTest (mOp eqD (mName 9) (mName 6))) (mTest (mOp inD (mName 8) (mName 2)))))) (f := (mPure (mOp addD (mOp addD (mGet (mName 2) (mName 8) (mC (.int 0))) (mOp atD (mName 1) (mName 8))) (mName 10))))
    (sl := stT fs ls kc c G ks a (.d (.str s)) .un) (sl1 := stT fs ls kc c G ks a (.d (.str s)) .un) ls lkD (fun l => (l.other == s) && decide (l.one ∈ ks)) (fun l => SV.d (.int (G l.one + c l.one + l.many))) rfl rfl (Nat.le_trans w.nm.len2 big) (fun l hl => by
      obtain ⟨h1, h2⟩ := w.nm.ends l hl
      refine ⟨[.d (webD fs ls), .d (crsD kc c), goS G ks, .d (flsD fs), .un, a, .d (.str s), .un, .d (.str l.one), .d (.str l.other), .d (.int l.many)], _, rfl, run_pureT (sl1 := [.d (webD fs ls), .d (crsD kc c), .d (crsD ks G), .d (flsD fs), .un, frz1 a, .d (.str s), .un, .d (.str l.one), .d (.str l.other), .d (.int l.many)]) ?_, fun hp => ?_, fun _ => rfl⟩
      · rw [em l]
        have e1 : mTest (mOp eqD (mName 9) (mName 6)) [.d (webD fs ls), .d (crsD kc c), .d (crsD ks G), .d (flsD fs), .un, frz1 a, .d (.str s), .un, .d (.str l.one), .d (.str l.other), .d (.int l.many)] = some (.ok (l.other == s), [.d (webD fs ls), .d (crsD kc c), .d (crsD ks G), .d (flsD fs), .un, frz1 a, .d (.str s), .un, .d (.str l.one), .d (.str l.other), .d (.int l.many)]) :=
          run_test (run_op (x := .d (.str l.other)) (y := .d (.str s)) rfl rfl rfl rfl (eqD_str (okS _ h2) (okS s hs)))
        have e2 : mTest (mOp inD (mName 8) (mName 2)) [.d (webD fs ls), .d (crsD kc c), .d (crsD ks G), .d (flsD fs), .un, frz1 a, .d (.str s), .un, .d (.str l.one), .d (.str l.other), .d (.int l.many)] = some (.ok (decide (l.one ∈ ks)), [.d (webD fs ls), .d (crsD kc c), .d (crsD ks G), .d (flsD fs), .un, frz1 a, .d (.str s), .un, .d (.str l.one), .d (.str l.other), .d (.int l.many)]) := by
          refine run_test (run_op (x := .d (.str l.one)) (y := .d (crsD ks G)) rfl rfl rfl rfl ?_)
          have e : inD (.str l.one) (crsD ks G) = some (.d (.bool (lookK (ks.map fun s => (PyData.str s, PyData.int (G s))) (.inr l.one)).isSome)) := rfl
          refine e.trans ?_
          rw [look_map (α := Nat) ks (fun s => PyData.int (G s)) l.one]
          by_cases q : l.one ∈ ks
          · rw [if_pos q, decide_eq_true q]; rfl
          · rw [if_neg q, decide_eq_false q]; rfl
        cases hq : (l.other == s) with
        | true => rw [hq] at e1; rw [Bool.true_and]; exact (run_and1 e1).trans e2
        | false => rw [hq] at e1; rw [Bool.false_and]; exact run_and0 e1
      · rw [Bool.and_eq_true, decide_eq_true_eq] at hp
        refine ⟨_, run_pure (sl1 := [.d (webD fs ls), .d (crsD kc c), .d (crsD ks G), .d (flsD fs), .un, frz1 a, .d (.str s), .un, .d (.str l.one), .d (.str l.other), .d (.int l.many)]) ?_ rfl, rfl⟩
        rw [em l]
        have eg : mGet (mName 2) (mName 8) (mC (.int 0)) [.d (webD fs ls), .d (crsD kc c), .d (crsD ks G), .d (flsD fs), .un, frz1 a, .d (.str s), .un, .d (.str l.one), .d (.str l.other), .d (.int l.many)] = some (.ok (.d (.int (G l.one))), [.d (webD fs ls), .d (crsD kc c), .d (crsD ks G), .d (flsD fs), .un, frz1 a, .d (.str s), .un, .d (.str l.one), .d (.str l.other), .d (.int l.many)]) := by
          refine (run_get (y := .d (.str l.one)) (z := .d (.int 0)) (k := .inr l.one) rfl rfl rfl rfl rfl rfl).trans ?_
          rw [look_map (α := Nat) ks (fun s => PyData.int (G s)) l.one, if_pos hp.2]
          rfl
        exact run_op (x := .d (.int (G l.one + c l.one))) (y := .d (.int l.many)) (run_op (x := .d (.int (G l.one))) (y := .d (.int (c l.one))) eg rfl (run_op (x := .d (crsD kc c)) (y := .d (.str l.one)) rfl rfl rfl rfl (at_crs (hkc _ h1))) rfl rfl) rfl rfl rfl rfl) rfl
  have ew : ((ls.filter fun l => (l.other == s) && decide (l.one ∈ ks)).map fun l => SV.d (.int (G l.one + c l.one + l.many))) = ((waitsG ls c G ks s).map PyData.int).map SV.d := by
    unfold waitsG
    rw [List.map_map, List.map_map]
    rfl
  rw [ew] at c1
  refine (run_seq (run_asgL c1 (by show 7 < 11; decide))).trans ?_
  obtain ⟨f, fp, hf⟩ := at_fls fs s hs
  obtain ⟨WL, hWL⟩ : ∃ l, l = (waitsG ls c G ks s).map PyData.int := ⟨_, rfl⟩
  have lw : ([PyData.int (plF fs s)] : List D).length + ((waitsG ls c G ks s).map PyData.int).length ≤ sizeLine := by
    rw [List.length_map]
    unfold waitsG
    rw [List.length_map]
    have h1 := List.length_filter_le (fun l : Lk => (l.other == s) && decide (l.one ∈ ks)) ls
    have h2 := w.nm.len2
    have h3 : (2000 : Nat) ≤ sizeLine := by decide
    show 1 + _ ≤ _
    omega
  have ea : mOp addD (bnd (mCons (mOp atD (mOp atD (mName 3) (mName 6)) (mC (.int 1))) mNil) mkL) (mName 7) (stT fs ls kc c G ks a (.d (.str s)) (.d (.list ((waitsG ls c G ks s).map PyData.int)))) =
      some (.ok (.lst (((plF fs s :: waitsG ls c G ks s).map PyData.int).map SV.d)), stT fs ls kc c G ks a (.d (.str s)) (.d (.list ((waitsG ls c G ks s).map PyData.int)))) := by
    have e1 : mCons (mOp atD (mOp atD (mName 3) (mName 6)) (mC (.int 1))) mNil (stT fs ls kc c G ks a (.d (.str s)) (.d (.list ((waitsG ls c G ks s).map PyData.int)))) = some (.ok [.d (.int (plF fs s))], stT fs ls kc c G ks a (.d (.str s)) (.d (.list ((waitsG ls c G ks s).map PyData.int)))) := by
      rw [← fp]
      exact run_cons (run_op (x := .d (flD f)) (y := .d (.int 1)) (run_op (x := .d (flsD fs)) (y := .d (.str s)) rfl rfl rfl rfl hf) rfl rfl rfl rfl) run_nil
    have e2 : bnd (mCons (mOp atD (mOp atD (mName 3) (mName 6)) (mC (.int 1))) mNil) mkL (stT fs ls kc c G ks a (.d (.str s)) (.d (.list ((waitsG ls c G ks s).map PyData.int)))) = some (.ok (.lst [.d (.int (plF fs s))]), stT fs ls kc c G ks a (.d (.str s)) (.d (.list ((waitsG ls c G ks s).map PyData.int)))) := by
      unfold bnd
      rw [e1]
      rfl
    exact run_op (x := .lst [.d (.int (plF fs s))]) (y := .d (.list ((waitsG ls c G ks s).map PyData.int))) e2 rfl rfl rfl (addD_list lw)
  have eM : mB maxD (mCons (mOp addD (bnd (mCons (mOp atD (mOp atD (mName 3) (mName 6)) (mC (.int 1))) mNil) mkL) (mName 7)) mNil) (stT fs ls kc c G ks a (.d (.str s)) (.d (.list ((waitsG ls c G ks s).map PyData.int)))) = some (.ok (.d (.int v)), stT fs ls kc c G ks a (.d (.str s)) (.d (.list ((waitsG ls c G ks s).map PyData.int)))) :=
    run_B (run_cons ea run_nil) (by rw [SV.fulls, full_lst]; rfl) (by rw [SV.toDs, toD_lst]; exact maxD_of hv)
  have ez : setO (goS G ks) (.str s) (.d (.int v)) = some (goS (fun x => if x = s then v else G x) (if s ∈ ks then ks else ks ++ [s])) := by
    show (if (ks.map fun s => ((.inr s, .d (.int (G s))) : L2.Key × SV)).length < sizeLine then (putS _ (.inr s) _).map SV.dct else none) = _
    rw [if_pos (by rw [List.length_map]; exact Nat.lt_of_le_of_lt lk (by decide))]
    by_cases q : s ∈ ks
    · rw [if_pos q, putS_old (fun x => PyData.int (G x)) s (.int v) nd q]
      show some (SV.dct _) = some (SV.dct _)
      congr 2
      refine List.map_congr_left fun x _ => ?_
      by_cases e : x = s
      · simp only [if_pos e]
      · simp only [if_neg e]
    · rw [if_neg q, putS_new (fun p hp => ?_)]
      · have e1 : (ks.map fun x => ((.inr x, .d (.int (if x = s then v else G x))) : L2.Key × SV)) = ks.map fun x => (.inr x, .d (.int (G x))) := List.map_congr_left fun x hx => by rw [if_neg (fun e : x = s => q (by rw [← e]; exact hx))]
        have e2 : ([s].map fun x => ((.inr x, .d (.int (if x = s then v else G x))) : L2.Key × SV)) = [(.inr s, .d (.int v))] := by simp
        show some (SV.dct _) = some (SV.dct ((ks ++ [s]).map fun x => (.inr x, .d (.int (if x = s then v else G x)))))
        rw [List.map_append, e1, e2]
      · obtain ⟨y, hy, rfl⟩ := List.mem_map.mp hp
        intro e
        have e2 : y = s := by simpa using e
        exact q (by rw [← e2]; exact hy)
  exact (run_set (i := 2) (x0 := goS G ks) (y := goS G ks) rfl rfl eM (k := .d (.str s)) rfl rfl rfl ez).trans rfl
end K71

set_option Elab.async false
set_option linter.all false
set_option maxRecDepth 100000
/-! the law's own times: the rounds -/
namespace K71
open DD
open PySem (PyData Str sizeLine)
theorem max_some (a : Int) (l : List Int) : ∃ v, (a :: l).max? = some v := by
  cases q : (a :: l).max? with
  | none => simp at q
  | some m => exact ⟨m, rfl⟩
/-- right as far as round r and place j -/
def Right (order ns : List Str) (T G : Str → Int) (r j : Nat) : Prop := ∀ (i : Nat) (x : Str), order[i]? = some x → (i < r ∨ (i = r ∧ x ∈ ns.take j)) → G x = T x
def ksAt (ns : List Str) (r j : Nat) : List Str := if r = 0 then ns.take j else ns
theorem ks_sub {ns : List Str} {r j : Nat} : ∀ x ∈ ksAt ns r j, x ∈ ns := fun x h => by
  unfold ksAt at h
  split at h
  · exact List.mem_of_mem_take h
  · exact h
theorem ks_nodup {ns : List Str} (nd : ns.Nodup) (r j : Nat) : (ksAt ns r j).Nodup := by
  unfold ksAt
  split
  · exact nd.sublist (List.take_sublist _ _)
  · exact nd
theorem ks_next {ns : List Str} (nd : ns.Nodup) {r j : Nat} {s : Str} (h : ns[j]? = some s) : (if s ∈ ksAt ns r j then ksAt ns r j else ksAt ns r j ++ [s]) = ksAt ns r (j + 1) := by
  unfold ksAt
  by_cases hr : r = 0
  · rw [if_pos hr, if_pos hr, if_neg (nodup_take nd h), take_succ' h]
  · rw [if_neg hr, if_neg hr, if_pos (List.mem_of_getElem? h)]
/-- the step keeps what is right -/
theorem right_step {fs : List Fl} {ls : List Lk} {kc : List Str} {c T G : Str → Int} {order : List Str} (g : Good fs ls kc c T order) {r j : Nat} {s : Str} (h : (namesF fs)[j]? = some s) (R : Right order (namesF fs) T G r j) {v : Int} (hv : (plF fs s :: waitsG ls c G (ksAt (namesF fs) r j) s).max? = some v) :
    Right order (namesF fs) T (fun x => if x = s then v else G x) r (j + 1) := by
  intro i x hx hi
  dsimp only
  by_cases e : x = s
  · subst e
    rw [if_pos rfl]
    have hm : x ∈ order := List.mem_of_getElem? hx
    have hle : i ≤ r := by omega
    have so := g.so x hm
    have ew : waitsG ls c G (ksAt (namesF fs) r j) x = waits ls c T x := by
      unfold waitsG waits
      have pre : ∀ l ∈ ls, l.other = x → ∃ i', i' < i ∧ order[i']? = some l.one := fun l hl ho => by
        have := g.tp i x hx l hl ho
        obtain ⟨i', hi', e'⟩ := List.getElem_of_mem this
        rw [List.length_take] at hi'
        rw [List.getElem_take] at e'
        exact ⟨i', by omega, by rw [← e']; exact List.getElem?_eq_getElem (by omega)⟩
      have ef : (ls.filter fun l => (l.other == x) && decide (l.one ∈ ksAt (namesF fs) r j)) = ls.filter fun l => l.other == x := by
        refine List.filter_congr fun l hl => ?_
        cases q : (l.other == x) with
        | false => rfl
        | true =>
          obtain ⟨i', h1, h2⟩ := pre l hl (by simpa using q)
          have hr : r ≠ 0 := by omega
          rw [Bool.true_and]
          refine decide_eq_true ?_
          unfold ksAt
          rw [if_neg hr]
          exact (g.w.nm.ends l hl).1
      rw [ef]
      refine List.map_congr_left fun l hl => ?_
      obtain ⟨h1, h2⟩ := List.mem_filter.mp hl
      obtain ⟨i', h3, h4⟩ := pre l h1 (by simpa using h2)
      rw [R i' l.one h4 (.inl (by omega))]
    rw [ew, so] at hv
    exact (Option.some.inj hv).symm
  · rw [if_neg e]
    refine R i x hx ?_
    rcases hi with hi | ⟨h1, h2⟩
    · exact .inl hi
    · refine .inr ⟨h1, ?_⟩
      rw [take_succ' h] at h2
      rcases List.mem_append.mp h2 with h2 | h2
      · exact h2
      · exact absurd (by simpa using h2) e
end K71

set_option Elab.async false
set_option linter.all false
set_option maxRecDepth 100000
/-! the law's own times, whole -/
namespace K71
open DD
open PySem (PyData Str sizeLine)
theorem run_tup {g : M (List SV)} {sl sl1 xs : List SV} (h : g sl = some (.ok xs, sl1)) (hz : xs.length ≤ sizeLine) : bnd g mkT sl = some (.ok (.tup xs), sl1) := by
  unfold bnd
  rw [h]
  show (if xs.length ≤ sizeLine then some (Res.ok (SV.tup xs), sl1) else none) = _
  rw [if_pos hz]
theorem run_lst {g : M (List SV)} {sl sl1 xs : List SV} (h : g sl = some (.ok xs, sl1)) (hz : xs.length ≤ sizeLine) : bnd g mkL sl = some (.ok (.lst xs), sl1) := by
  unfold bnd
  rw [h]
  show (if xs.length ≤ sizeLine then some (Res.ok (SV.lst xs), sl1) else none) = _
  rw [if_pos hz]
abbrev timD (c T : Str → Int) (ns : List Str) : D := .dict (ns.map fun s => (PyData.str s, .tuple [.int (T s), .int (T s + c s)]))
abbrev timS (c T : Str → Int) (ns : List Str) : SV := .dct (ns.map fun s => (.inr s, .d (.tuple [.int (T s), .int (T s + c s)])))
theorem keys_fls (fs : List Fl) : keysD (fs.map fun f => (PyData.str f.name, flD f)) = (namesF fs).map PyData.str := by
  unfold keysD
  rw [List.map_map, List.map_map]
  rfl
abbrev inB : M Ctl := (mFgt [7] (mSeq (mFrz [7] (mAsg (mComp 11 [8, 9, 10] (mIt (mOp atD (mName 0) (mC (.int 2)))) (gTupD 3 (gsCons (gSet 8) (gsCons (gSet 9) (gsCons (gSet 10) gsNil)))) (mPureT (mAnd (mTest (mOp eqD (mName 9) (mName 6))) (mTest (mOp inD (mName 8) (mName 2))))) (mPure (mOp addD (mOp addD (mGet (mName 2) (mName 8) (mC (.int 0))) (mOp atD (mName 1) (mName 8))) (mName 10)))) (gSet 7)))
      (mSetItem 2 (mB maxD (mCons (mOp addD (bnd (mCons (mOp atD (mOp atD (mName 3) (mName 6)) (mC (.int 1))) mNil) mkL) (mName 7)) mNil)) (mName 6))))
theorem ks_len {fs : List Fl} {ls : List Lk} (w : WebIn fs ls) (r j : Nat) : (ksAt (namesF fs) r j).length ≤ 1000 := Nat.le_trans (nodup_len (ks_nodup w.nm.nd r j) ks_sub) w.nm.len
theorem round_times {fs : List Fl} {ls : List Lk} {kc : List Str} {c T : Str → Int} {order : List Str} (g : Good fs ls kc c T order) (r : Nat) (a b0 : SV) (G : Str → Int) (R : Right order (namesF fs) T G r 0) :
    ∃ (G' : Str → Int) (b : SV), mForK 3 (gSet 6) inB (stT fs ls kc c G (ksAt (namesF fs) r 0) a b0 .un) = some (.ok .nx, stT fs ls kc c G' (ksAt (namesF fs) r (namesF fs).length) a b .un) ∧ Right order (namesF fs) T G' r (namesF fs).length := by
  obtain ⟨s', h1, G', b, rfl, h2⟩ := forL_inv (T := gSet 6) (b := inB) PyData.str (xs := namesF fs) (fun j s => ∃ (G' : Str → Int) (b : SV), s = stT fs ls kc c G' (ksAt (namesF fs) r j) a b .un ∧ Right order (namesF fs) T G' r j)
    (fun j s t hs ht => by
      obtain ⟨G1, b1, rfl, R1⟩ := ht
      have hm : s ∈ namesF fs := List.mem_of_getElem? hs
      obtain ⟨v, hv⟩ := max_some (plF fs s) (waitsG ls c G1 (ksAt (namesF fs) r j) s)
      have st := step_times g.w g.k (ks_nodup g.w.nm.nd r j) (ks_len g.w r j) hm a v hv ks_sub
      rw [ks_next g.w.nm.nd hs] at st
      exact ⟨stT fs ls kc c G1 (ksAt (namesF fs) r j) a (.d (.str s)) .un, stT fs ls kc c (fun x => if x = s then v else G1 x) (ksAt (namesF fs) r (j + 1)) a (.d (.str s)) .un, rfl, run_fgt st, _, _, rfl, right_step g hs R1 hv⟩)
    (stT fs ls kc c G (ksAt (namesF fs) r 0) a b0 .un) ⟨G, b0, rfl, R⟩
  exact ⟨G', b, run_forK (kvs := fs.map fun f => (PyData.str f.name, flD f)) rfl (by rw [keys_fls]; exact h1), h2⟩
theorem ks_end (ns : List Str) (r : Nat) : ksAt ns r ns.length = ns := by
  unfold ksAt
  split
  · rw [List.take_length]
  · rfl
theorem right_end {order ns : List Str} {T G : Str → Int} {r : Nat} (hp : ∀ x ∈ order, x ∈ ns) (R : Right order ns T G r ns.length) : Right order ns T G (r + 1) 0 := fun i x hx hi => by
  refine R i x hx ?_
  rcases hi with hi | ⟨h1, h2⟩
  · by_cases q : i < r
    · exact .inl q
    · refine .inr ⟨by omega, ?_⟩
      rw [List.take_length]
      exact hp x (List.mem_of_getElem? hx)
  · simp at h2
theorem Good.sub {fs : List Fl} {ls : List Lk} {ks : List Str} {c T : Str → Int} {order : List Str} (g : Good fs ls ks c T order) : ∀ s ∈ order, s ∈ namesF fs := fun x hx => fio_sub _ x (by rw [← g.ho]; exact hx)
theorem rounds_times {fs : List Fl} {ls : List Lk} {kc : List Str} {c T : Str → Int} {order : List Str} (g : Good fs ls kc c T order) :
    ∃ (G : Str → Int) (b : SV), mForK 3 (gSet 5) (mFgt [5, 7] (mForK 3 (gSet 6) inB)) (stT fs ls kc c T [] .un .un .un) = some (.ok .nx, stT fs ls kc c G (namesF fs) .un b .un) ∧ ∀ x ∈ namesF fs, G x = T x := by
  have ne : 0 < (namesF fs).length := by
    rw [List.length_map]
    exact List.length_pos_iff.mpr g.w.ne
  obtain ⟨s', h1, G, b, rfl, R⟩ := forL_inv (T := gSet 5) (b := mFgt [5, 7] (mForK 3 (gSet 6) inB)) PyData.str (xs := namesF fs) (fun r s => ∃ (G : Str → Int) (b : SV), s = stT fs ls kc c G (ksAt (namesF fs) r 0) .un b .un ∧ Right order (namesF fs) T G r 0)
    (fun r s t hs ht => by
      obtain ⟨G1, b1, rfl, R1⟩ := ht
      obtain ⟨G2, b2, e2, R2⟩ := round_times g r (.d (.str s)) b1 G1 R1
      rw [ks_end] at e2
      have ek : ksAt (namesF fs) (r + 1) 0 = namesF fs := if_neg (by omega)
      exact ⟨stT fs ls kc c G1 (ksAt (namesF fs) r 0) (.d (.str s)) b1 .un, stT fs ls kc c G2 (ksAt (namesF fs) (r + 1) 0) .un b2 .un, rfl, by rw [ek]; exact run_fgt e2, G2, b2, rfl, right_end g.sub R2⟩)
    (stT fs ls kc c T [] .un .un .un) ⟨T, .un, rfl, fun i x hx hi => rfl⟩
  have ek : ksAt (namesF fs) (namesF fs).length 0 = namesF fs := if_neg (by omega)
  rw [ek] at h1
  refine ⟨G, b, run_forK (kvs := fs.map fun f => (PyData.str f.name, flD f)) rfl (by rw [keys_fls]; exact h1), fun x hx => ?_⟩
  obtain ⟨i, hi, e⟩ := List.getElem_of_mem (g.all x hx)
  exact R i x (by rw [List.getElem?_eq_getElem hi, e]) (.inl (by rw [← g.hl]; exact hi))
theorem toDs_tup {α : Type} (xs : List α) (g : α → SV) (hf : ∀ x, (g x).full = true) : SV.toDs (xs.map g) = xs.map fun x => (g x).toD := by
  induction xs with
  | nil => rfl
  | cons x xs ih => rw [List.map_cons, SV.toDs, ih]; rfl
theorem fulls_tup {α : Type} (xs : List α) (g : α → SV) (hf : ∀ x, (g x).full = true) : SV.fulls (xs.map g) = true := by
  induction xs with
  | nil => rfl
  | cons x xs ih => rw [List.map_cons, SV.fulls, ih, hf x]; rfl
theorem run_dictT {α : Type} {fa : M SV} {sl sl1 : List SV} (xs : List α) (g : α → SV) (k : α → Str) (r : α → D) (hf : ∀ x, (g x).full = true) (hg : ∀ x, (g x).toD = .tuple [.str (k x), r x]) (nd : (xs.map k).Nodup) (h : fa sl = some (.ok (.lst (xs.map g)), sl1)) :
    mB dictD (mCons fa mNil) sl = some (.ok (.dct (xs.map fun x => (.inr (k x), .d (r x)))), sl1) := by
  refine run_B (run_cons h run_nil) (by rw [SV.fulls, SV.full, fulls_tup xs g hf]; rfl) ?_
  rw [SV.toDs, SV.toD, toDs_tup xs g hf, show (fun x => (g x).toD) = fun x => PyData.tuple [.str (k x), r x] from funext hg]
  exact dictD_map k r xs nd
theorem e_law_times {fs : List Fl} {ls : List Lk} {kc : List Str} {c T : Str → Int} {order : List Str} (g : Good fs ls kc c T order) : f_law_times [.d (webD fs ls), .d (crsD kc c)] = some (.ok (timS c T (namesF fs)), [.un, .un]) := by
  have lf : fs.length ≤ 1000 := by have := g.w.nm.len; simpa using this
  have big : (1000 : Nat) ≤ sizeLine := by decide
  have hkc : ∀ x ∈ namesF fs, x ∈ kc := fun x hx => g.k.perm.mem_iff.mpr hx
  obtain ⟨G, b, e1, hG⟩ := rounds_times g
  have c0 := comp_all (N := 11) (vs := [4]) (F := mIt (mOp atD (mName 0) (mC (.int 1)))) (T := gSet 4) (f := (bnd (mCons (mOp atD (mName 4) (mC (.int 0))) (mCons (mName 4) mNil)) mkT)) (sl := [.d (webD fs ls), .d (crsD kc c), .un, .un, .un, .un, .un, .un, .un, .un, .un]) (sl1 := [.d (webD fs ls), .d (crsD kc c), .un, .un, .un, .un, .un, .un, .un, .un, .un]) fs flD (fun f => SV.tup [.d (.str f.name), .d (flD f)]) rfl rfl (Nat.le_trans lf big)
    (fun f hf => ⟨[.d (webD fs ls), .d (crsD kc c), .un, .un, .d (flD f), .un, .un, .un, .un, .un, .un], _, rfl, rfl, rfl⟩) rfl
  have c1 := run_dictT fs (fun f => SV.tup [.d (.str f.name), .d (flD f)]) Fl.name flD (fun _ => rfl) (fun _ => rfl) g.w.nm.nd c0
  have e0 : mFrz [3] (mAsg (bnd (mCons mDictNew (mCons (mB dictD (mCons (mComp 11 [4] (mIt (mOp atD (mName 0) (mC (.int 1)))) (gSet 4) (ret true) (bnd (mCons (mOp atD (mName 4) (mC (.int 0))) (mCons (mName 4) mNil)) mkT)) mNil)) mNil)) mkT) (gTupD 2 (gsCons (gSet 2) (gsCons (gSet 3) gsNil)))) [.d (webD fs ls), .d (crsD kc c), .un, .un, .un, .un, .un, .un, .un, .un, .un] =
      some (.ok .nx, stT fs ls kc c T [] .un .un .un) := by
    have eg : bnd (mCons mDictNew (mCons (mB dictD (mCons (mComp 11 [4] (mIt (mOp atD (mName 0) (mC (.int 1)))) (gSet 4) (ret true) (bnd (mCons (mOp atD (mName 4) (mC (.int 0))) (mCons (mName 4) mNil)) mkT)) mNil)) mNil)) mkT [.d (webD fs ls), .d (crsD kc c), .un, .un, .un, .un, .un, .un, .un, .un, .un] =
        some (.ok (.tup [.dct [], .dct (fs.map fun f => (.inr f.name, .d (flD f)))]), [.d (webD fs ls), .d (crsD kc c), .un, .un, .un, .un, .un, .un, .un, .un, .un]) := by
      exact run_tup (run_cons (f := mDictNew) (sl := [.d (webD fs ls), .d (crsD kc c), .un, .un, .un, .un, .un, .un, .un, .un, .un]) (x := .dct []) rfl (run_cons c1 run_nil)) (by show 2 ≤ sizeLine; decide)
    refine run_frz (sl1 := [.d (webD fs ls), .d (crsD kc c), .dct [], .dct (fs.map fun f => (.inr f.name, .d (flD f))), .un, .un, .un, .un, .un, .un, .un]) (run_asg eg rfl) ?_
    have hf : (SV.dct (fs.map fun f => ((.inr f.name, .d (flD f)) : L2.Key × SV))).full = true := by rw [SV.full]; exact fullk_map fs Fl.name (fun f => .d (flD f)) fun _ _ => rfl
    have ht : (SV.dct (fs.map fun f => ((.inr f.name, .d (flD f)) : L2.Key × SV))).toD = flsD fs := by rw [SV.toD, toDk_map fs Fl.name (fun f => .d (flD f))]; rfl
    rw [frzs1, frz_at (i := 3) (x := .dct (fs.map fun f => (.inr f.name, .d (flD f)))) rfl hf, ht]
    rfl
  have em : ∀ x : Str, ([.d (webD fs ls), .d (crsD kc c), goS G (namesF fs), .d (flsD fs), .un, .un, .d (.str x), .un, .un, .un, .un] : List SV).map frz1 = [.d (webD fs ls), .d (crsD kc c), .d (crsD (namesF fs) G), .d (flsD fs), .un, .un, .d (.str x), .un, .un, .un, .un] := fun x => by
    rw [← frz_go G (namesF fs)]
    rfl
  have c2 := run_compK (N := 11) (vs := [6]) (i := 3) (T := gSet 6) (f := (bnd (mCons (mName 6) (mCons (bnd (mCons (mPure (mOp atD (mName 2) (mName 6))) (mCons (mPure (mOp addD (mOp atD (mName 2) (mName 6)) (mOp atD (mName 1) (mName 6)))) mNil)) mkT) mNil)) mkT)) (sl := stT fs ls kc c G (namesF fs) .un b .un) (kvs := fs.map fun f => (PyData.str f.name, flD f)) (namesF fs) PyData.str
    (fun x => SV.tup [.d (.str x), .tup [.d (.int (G x)), .d (.int (G x + c x))]]) rfl (keys_fls fs) rfl (Nat.le_trans g.w.nm.len big) (fun x hx => by
      have ag : ∀ q : List SV, mOp atD (mName 2) (mName 6) [.d (webD fs ls), .d (crsD kc c), .d (crsD (namesF fs) G), .d (flsD fs), .un, .un, .d (.str x), .un, .un, .un, .un] = some (.ok (.d (.int (G x))), [.d (webD fs ls), .d (crsD kc c), .d (crsD (namesF fs) G), .d (flsD fs), .un, .un, .d (.str x), .un, .un, .un, .un]) := fun _ =>
        run_op (x := .d (crsD (namesF fs) G)) (y := .d (.str x)) rfl rfl rfl rfl (at_crs hx)
      have p1 : mPure (mOp atD (mName 2) (mName 6)) [.d (webD fs ls), .d (crsD kc c), goS G (namesF fs), .d (flsD fs), .un, .un, .d (.str x), .un, .un, .un, .un] = some (.ok (.d (.int (G x))), [.d (webD fs ls), .d (crsD kc c), goS G (namesF fs), .d (flsD fs), .un, .un, .d (.str x), .un, .un, .un, .un]) :=
        run_pure (by rw [em x]; exact ag []) rfl
      have p2 : mPure (mOp addD (mOp atD (mName 2) (mName 6)) (mOp atD (mName 1) (mName 6))) [.d (webD fs ls), .d (crsD kc c), goS G (namesF fs), .d (flsD fs), .un, .un, .d (.str x), .un, .un, .un, .un] = some (.ok (.d (.int (G x + c x))), [.d (webD fs ls), .d (crsD kc c), goS G (namesF fs), .d (flsD fs), .un, .un, .d (.str x), .un, .un, .un, .un]) :=
        run_pure (by rw [em x]; exact run_op (x := .d (.int (G x))) (y := .d (.int (c x))) (ag []) rfl (run_op (x := .d (crsD kc c)) (y := .d (.str x)) rfl rfl rfl rfl (at_crs (hkc x hx))) rfl rfl) rfl
      exact ⟨[.d (webD fs ls), .d (crsD kc c), goS G (namesF fs), .d (flsD fs), .un, .un, .d (.str x), .un, .un, .un, .un], _, rfl,
        run_tup (run_cons rfl (run_cons (run_tup (run_cons p1 (run_cons p2 run_nil)) (by show 2 ≤ sizeLine; decide)) run_nil)) (by show 2 ≤ sizeLine; decide), rfl⟩) rfl
  have c3 := run_dictT (namesF fs) (fun x => SV.tup [.d (.str x), .tup [.d (.int (G x)), .d (.int (G x + c x))]]) (fun s => s) (fun x => PyData.tuple [.int (G x), .int (G x + c x)]) (fun _ => rfl) (fun _ => rfl) (by rw [List.map_id']; exact g.w.nm.nd) c2
  have eT : ((namesF fs).map fun x => ((.inr x, .d (.tuple [.int (G x), .int (G x + c x)])) : L2.Key × SV)) = (namesF fs).map fun x => (.inr x, .d (.tuple [.int (T x), .int (T x + c x)])) := List.map_congr_left fun x hx => by rw [hG x hx]
  rw [eT] at c3
  have h : f_law_times_b [.d (webD fs ls), .d (crsD kc c), .un, .un, .un, .un, .un, .un, .un, .un, .un] = some (.ok (.rt (timS c T (namesF fs))), stT fs ls kc c G (namesF fs) .un b .un) :=
    (run_seq e0).trans ((run_seq e1).trans (run_ret c3))
  exact run_fn (n := 2) (N := 11) (kp := []) (G := f_law_times_b) (args := [.d (webD fs ls), .d (crsD kc c)]) rfl h
end K71

set_option Elab.async false
set_option linter.all false
set_option maxRecDepth 100000
/-! told right -/
namespace K71
open DD
open PySem (PyData Str sizeLine)
theorem run_callN {F : M SV} {g : List SV → List SV} {fa : M (List SV)} {sl sl1 s2 xs : List SV} {r : SV} (h : fa sl = some (.ok xs, sl1)) (hF : F (g xs) = some (.ok r, s2)) : mCallN F g fa sl = some (.ok r, sl1) := by
  unfold mCallN bnd
  rw [h]
  dsimp only
  unfold mRun
  rw [hF]
theorem e_is_web_course {fs : List Fl} {ls : List Lk} {ks : List Str} {c T : Str → Int} {order : List Str} (g : Good fs ls ks c T order) : f_is_web_course [.d (webD fs ls), .d (crsD ks c)] = some (.ok (.d (.bool true)), [.un, .un]) := by
  have ew := e_check_web g.w (by rw [← g.ho]; exact g.hl)
  have er := e_is_run g.w g.k
  have h : f_is_web_course_b [.d (webD fs ls), .d (crsD ks c)] = some (.ok (.rt (.d (.bool true))), [.d (webD fs ls), .d (crsD ks c)]) :=
    (run_seq (run_exp (x := .d .none) (run_call (xs := [.d (webD fs ls)]) rfl ew))).trans (run_ret (run_call (xs := [.d (webD fs ls), .d (crsD ks c)]) rfl er))
  exact run_fn (n := 2) (N := 2) (kp := []) (G := f_is_web_course_b) (args := [.d (webD fs ls), .d (crsD ks c)]) rfl h
theorem tim_full (c T : Str → Int) (ns : List Str) : (timS c T ns).full = true := by
  rw [SV.full]
  exact fullk_map ns (fun s => s) (fun s => .d (.tuple [.int (T s), .int (T s + c s)])) fun _ _ => rfl
theorem tim_toD (c T : Str → Int) (ns : List Str) : (timS c T ns).toD = timD c T ns := by
  rw [SV.toD, toDk_map ns (fun s => s) (fun s => .d (.tuple [.int (T s), .int (T s + c s)]))]
  rfl
theorem at_tim {c T : Str → Int} {ns : List Str} {s : Str} (h : s ∈ ns) : atD (timD c T ns) (.str s) = some (.d (.tuple [.int (T s), .int (T s + c s)])) := at_fnd h
theorem e_told_right {fs : List Fl} {ls : List Lk} {ks : List Str} {c T : Str → Int} {order : List Str} (g : Good fs ls ks c T order) : f_law_told_right [.d (webD fs ls), .d (crsD ks c)] = some (.ok (.d (.bool true)), [.un, .un]) := by
  have lf : fs.length ≤ 1000 := by have := g.w.nm.len; simpa using this
  have big : (1000 : Nat) ≤ sizeLine := by decide
  have okS : ∀ x ∈ namesF fs, PyData.strOk x = true := fun x hx => (g.w.nm.wd x hx).ok
  have e1 := e_law_times g
  have e2 := e_web_times g
  have e3 := e_is_web_course g
  obtain ⟨RW, hRW⟩ : ∃ R, R = rowsD c T (namesF fs) := ⟨_, rfl⟩
  have hl : RW.length ≤ 1000 := by rw [hRW, List.length_map]; exact g.w.nm.len
  have ex3 : Exs 3 (.list RW) := by rw [hRW]; exact exs_rows 0 c T (namesF fs) okS g.w.nm.len
  have ex5 : Exs 5 (.list RW) := by rw [hRW]; exact exs_rows 2 c T (namesF fs) okS g.w.nm.len
  have ex4 : Exs 4 (.list RW) := by rw [hRW]; exact exs_rows 1 c T (namesF fs) okS g.w.nm.len
  have exx : Exs 5 (.list [.list RW, .list RW]) := exs_seq 4 _ _ (.inl rfl) (by show 2 ≤ sizeLine; decide) fun x hx => by
    simp only [List.mem_cons, List.not_mem_nil, or_false, or_self] at hx
    rw [hx]
    exact ex4
  rw [← hRW] at e2
  have c1 := comp_allD (N := 6) (vs := [4]) (F := mIt (mOp atD (mName 0) (mC (.int 1)))) (T := gSet 4) (f := mOp addD (bnd (mCons (mOp atD (mName 4) (mC (.int 0))) mNil) mkT) (mOp atD (mName 2) (mOp atD (mName 4) (mC (.int 0)))))
    (sl := [.d (webD fs ls), .d (crsD ks c), .d (timD c T (namesF fs)), .un, .un, .un]) (sl1 := [.d (webD fs ls), .d (crsD ks c), .d (timD c T (namesF fs)), .un, .un, .un]) fs flD (fun f => rowD c T f.name) rfl rfl (Nat.le_trans lf big)
    (fun f hf => ⟨[.d (webD fs ls), .d (crsD ks c), .d (timD c T (namesF fs)), .un, .d (flD f), .un], rfl,
      run_op (x := .tup [.d (.str f.name)]) (y := .d (.tuple [.int (T f.name), .int (T f.name + c f.name)])) rfl rfl (run_op (x := .d (timD c T (namesF fs))) (y := .d (.str f.name)) rfl rfl rfl rfl (at_tim (List.mem_map.mpr ⟨f, hf, rfl⟩))) rfl rfl, rfl⟩) rfl
  have er : (fs.map fun f => rowD c T f.name) = RW := by rw [hRW, rowsD, List.map_map]; rfl
  rw [er] at c1
  have s2 : mFrz [2] (mAsg (mCall f_law_times [] (mCons (mName 0) (mCons (mName 1) mNil))) (gSet 2)) [.d (webD fs ls), .d (crsD ks c), .un, .un, .un, .un] = some (.ok .nx, [.d (webD fs ls), .d (crsD ks c), .d (timD c T (namesF fs)), .un, .un, .un]) := by
    refine run_frz (sl1 := [.d (webD fs ls), .d (crsD ks c), timS c T (namesF fs), .un, .un, .un]) (run_asg (run_call (xs := [.d (webD fs ls), .d (crsD ks c)]) rfl e1) rfl) ?_
    rw [frzs1, frz_at (i := 2) (x := timS c T (namesF fs)) rfl (tim_full c T _), tim_toD]
    rfl
  have em : ([.d (webD fs ls), .d (crsD ks c), .d (timD c T (namesF fs)), .d (.list RW), .un, .lst (RW.map SV.d)] : List SV).map frz1 = [.d (webD fs ls), .d (crsD ks c), .d (timD c T (namesF fs)), .d (.list RW), .un, .d (.list RW)] :=
    congrArg (fun z => ([.d (webD fs ls), .d (crsD ks c), .d (timD c T (namesF fs)), .d (.list RW), .un, z] : List SV)) (frz1_lst RW)
  have ct : (mPureT (mOr (mNot (mTest (mCall (f_law_exact 5) [] (mCons (bnd (mCons (mName 3) (mCons (mName 3) mNil)) mkL) (mCons (bnd (mCons (mName 5) (mCons (mCallN f_web_times ord2 (mCons (mName 1) (mCons (mName 0) mNil))) mNil)) mkL) mNil))))) (mTest (mOp isNotD (mCall f_is_web_course [] (mCons (mName 0) (mCons (mName 1) mNil))) (mC (.bool true))))))
      [.d (webD fs ls), .d (crsD ks c), .d (timD c T (namesF fs)), .d (.list RW), .un, .lst (RW.map SV.d)] = some (.ok false, [.d (webD fs ls), .d (crsD ks c), .d (timD c T (namesF fs)), .d (.list RW), .un, .lst (RW.map SV.d)]) := by
    refine run_pureT (sl1 := [.d (webD fs ls), .d (crsD ks c), .d (timD c T (namesF fs)), .d (.list RW), .un, .d (.list RW)]) ?_
    rw [em]
    refine (run_or0 (sl1 := [.d (webD fs ls), .d (crsD ks c), .d (timD c T (namesF fs)), .d (.list RW), .un, .d (.list RW)]) (run_not (b := true) (run_test (run_call (sl2 := [.un, .un]) (xs := [.lst [.d (.list RW), .d (.list RW)], .lst [.d (.list RW), .lst (RW.map SV.d)]]) (run_cons (run_lst (xs := [.d (.list RW), .d (.list RW)]) rfl (by show 2 ≤ sizeLine; decide)) (run_cons (run_lst (xs := [.d (.list RW), .lst (RW.map SV.d)]) (run_cons rfl (run_cons (run_callN (xs := [.d (crsD ks c), .d (webD fs ls)]) rfl e2) run_nil)) (by show 2 ≤ sizeLine; decide)) run_nil)) ?_)))).trans ?_
    · have f1 : (SV.lst [.d (.list RW), .lst (RW.map SV.d)]).full = true := by
        show (true && ((SV.lst (RW.map SV.d)).full && true)) = true
        rw [full_lst]
        rfl
      have f2 : (SV.lst [.d (.list RW), .lst (RW.map SV.d)]).toD = .list [.list RW, .list RW] := by
        rw [← toD_lst RW]
        rfl
      exact exx _ _ rfl f1 rfl f2
    · exact run_test (run_op (x := .d (.bool true)) (y := .d (.bool true)) (run_call (xs := [.d (webD fs ls), .d (crsD ks c)]) rfl e3) rfl rfl rfl rfl)
  have h : f_law_told_right_b [.d (webD fs ls), .d (crsD ks c), .un, .un, .un, .un] = some (.ok (.rt (.d (.bool true))), [.d (webD fs ls), .d (crsD ks c), .d (timD c T (namesF fs)), .d (.list RW), .un, .lst ((RW ++ [PyData.none]).map SV.d)]) := by
    refine (run_seq s2).trans ((run_seq (run_asgL c1 (by show 3 < 6; decide))).trans ?_)
    refine (run_seq (run_asg (x := .lst (RW.map SV.d)) (sl1 := [.d (webD fs ls), .d (crsD ks c), .d (timD c T (namesF fs)), .d (.list RW), .un, .un]) (run_call (xs := [.d (webD fs ls), .d (crsD ks c)]) rfl e2) rfl)).trans ?_
    refine run_guard ct ?_
    refine (run_seq (run_exp (x := .d .none) (run_meth (i := 5) (x0 := .lst (RW.map SV.d)) (sl1 := [.d (webD fs ls), .d (crsD ks c), .d (timD c T (namesF fs)), .d (.list RW), .un, .lst (RW.map SV.d)]) rfl rfl (run_cons rfl run_nil) rfl (appendO_of (Nat.lt_of_le_of_lt hl (by decide)))))).trans ?_
    exact run_ret (run_call (sl2 := [.un, .un]) (xs := [.d (.list RW), .lst (RW.map SV.d)]) (run_cons rfl (run_cons (run_call (xs := [.d (webD fs ls), .d (crsD ks c)]) rfl e2) run_nil)) (ex5 _ _ rfl (full_lst RW) rfl (toD_lst RW)))
  exact run_fn (n := 2) (N := 6) (kp := []) (G := f_law_told_right_b) (args := [.d (webD fs ls), .d (crsD ks c)]) rfl h
end K71

set_option Elab.async false
set_option linter.all false
set_option maxRecDepth 100000
/-! one flight takes longer: the plain law -/
namespace K71
open DD
open PySem (PyData Str sizeLine)
theorem max_le {a m M d : Int} {l L : List Int} (h : (a :: l).max? = some m) (H : (a :: L).max? = some M) (hd : 0 ≤ d) (hl : ∀ y ∈ L, ∃ x ∈ l, y ≤ x + d) : M ≤ m + d := by
  rw [List.max?_eq_some_iff] at h H
  rcases List.mem_cons.mp H.1 with e | e
  · have := h.2 a (List.mem_cons_self ..)
    omega
  · obtain ⟨x, hx, hy⟩ := hl M e
    have := h.2 x (List.mem_cons_of_mem _ hx)
    omega
theorem wait_mem {ls : List Lk} {c T : Str → Int} {s : Str} {y : Int} (h : y ∈ waits ls c T s) : ∃ l ∈ ls, l.other = s ∧ y = T l.one + c l.one + l.many := by
  unfold waits at h
  obtain ⟨l, hl, e⟩ := List.mem_map.mp h
  obtain ⟨h1, h2⟩ := List.mem_filter.mp hl
  exact ⟨l, h1, by simpa using h2, e.symm⟩
theorem mem_wait {ls : List Lk} {c T : Str → Int} {s : Str} {l : Lk} (h : l ∈ ls) (e : l.other = s) : T l.one + c l.one + l.many ∈ waits ls c T s := by
  unfold waits
  exact List.mem_map.mpr ⟨l, List.mem_filter.mpr ⟨h, by simpa using e⟩, rfl⟩
/-- two solutions over one order: what is known of those ahead is known -/
theorem sol_le {fs : List Fl} {ls : List Lk} {c T c' T' : Str → Int} {order : List Str} (so : Sol fs ls c T order) (so' : Sol fs ls c' T' order) {s : Str} (hs : s ∈ order) {d : Int} (hd : 0 ≤ d) (h : ∀ l ∈ ls, l.other = s → T' l.one + c' l.one ≤ T l.one + c l.one + d) : T' s ≤ T s + d := by
  refine max_le (so s hs) (so' s hs) hd fun y hy => ?_
  obtain ⟨l, h1, h2, rfl⟩ := wait_mem hy
  exact ⟨_, mem_wait h1 h2, by have := h l h1 h2; omega⟩
theorem prior_at {ls : List Lk} {order : List Str} (tp : Topo ls order) {i : Nat} {s : Str} (hs : order[i]? = some s) {l : Lk} (hl : l ∈ ls) (e : l.other = s) : ∃ i', i' < i ∧ order[i']? = some l.one := by
  have := tp i s hs l hl e
  obtain ⟨i', hi', e'⟩ := List.getElem_of_mem this
  rw [List.length_take] at hi'
  rw [List.getElem_take] at e'
  exact ⟨i', by omega, by rw [← e']; exact List.getElem?_eq_getElem (by omega)⟩
theorem pos_inj {l : List Str} (nd : l.Nodup) {i j : Nat} {s : Str} (h : l[i]? = some s) (h' : l[j]? = some s) : i = j := by
  rcases Nat.lt_trichotomy i j with q | q | q
  · exfalso
    refine nodup_take nd h' ?_
    have : (l.take j)[i]? = some s := by rw [List.getElem?_take_of_lt q]; exact h
    exact List.mem_of_getElem? this
  · exact q
  · exfalso
    refine nodup_take nd h ?_
    have : (l.take i)[j]? = some s := by rw [List.getElem?_take_of_lt q]; exact h'
    exact List.mem_of_getElem? this
/-- the flight `name` takes d longer -/
theorem longer {fs : List Fl} {ls : List Lk} {c T c' T' : Str → Int} {order : List Str} (tp : Topo ls order) (nd : order.Nodup) (so : Sol fs ls c T order) (so' : Sol fs ls c' T' order) {name : Str} {p : Nat} (hp : order[p]? = some name) {d : Int} (hd : 0 ≤ d) (hc : ∀ x, x ≠ name → c' x = c x) (hn : c' name = c name + d) :
    ∀ (n i : Nat), i < n → ∀ s, order[i]? = some s → T s ≤ T' s ∧ T' s ≤ T s + d ∧ (i ≤ p → T' s = T s)
  | 0, i, h, _, _ => by omega
  | n + 1, i, h, s, hs => by
    have hm := List.mem_of_getElem? hs
    have ih := longer tp nd so so' hp hd hc hn n
    have ahead : ∀ l ∈ ls, l.other = s → T l.one + c l.one ≤ T' l.one + c' l.one ∧ T' l.one + c' l.one ≤ T l.one + c l.one + d ∧ (i ≤ p → T' l.one + c' l.one = T l.one + c l.one) := fun l hl e => by
      obtain ⟨j, hj, ej⟩ := prior_at tp hs hl e
      obtain ⟨a1, a2, a3⟩ := ih j (by omega) l.one ej
      by_cases q : l.one = name
      · have jp : j = p := pos_inj nd ej (by rw [q]; exact hp)
        have a4 := a3 (by omega)
        rw [q] at a4 ⊢
        rw [hn]
        exact ⟨by omega, by omega, fun hip => by omega⟩
      · rw [hc _ q]
        exact ⟨by omega, by omega, fun hip => by rw [a3 (by omega)]⟩
    have u1 := sol_le so so' hm hd fun l hl e => (ahead l hl e).2.1
    have u2 := sol_le so' so hm (Int.le_refl 0) fun l hl e => by have := (ahead l hl e).1; omega
    refine ⟨by omega, u1, fun hip => ?_⟩
    have u3 := sol_le so so' hm (Int.le_refl 0) fun l hl e => by have := (ahead l hl e).2.2 hip; omega
    omega
/-- who is not behind it keeps its time -/
theorem not_behind {fs : List Fl} {ls : List Lk} {c T c' T' : Str → Int} {order : List Str} (tp : Topo ls order) (so : Sol fs ls c T order) (so' : Sol fs ls c' T' order) {name : Str} (hc : ∀ x, x ≠ name → c' x = c x) (B : Str → Prop) (hB : B name) (cl : ∀ l ∈ ls, B l.one → B l.other) :
    ∀ (n i : Nat), i < n → ∀ s, order[i]? = some s → ¬ B s → T' s = T s
  | 0, i, h, _, _, _ => by omega
  | n + 1, i, h, s, hs, hb => by
    have hm := List.mem_of_getElem? hs
    have ahead : ∀ l ∈ ls, l.other = s → T' l.one + c' l.one = T l.one + c l.one := fun l hl e => by
      obtain ⟨j, hj, ej⟩ := prior_at tp hs hl e
      have nb : ¬ B l.one := fun q => hb (by rw [← e]; exact cl l hl q)
      rw [not_behind tp so so' hc B hB cl n j (by omega) l.one ej nb, hc _ fun q => nb (by rw [q]; exact hB)]
    have u1 := sol_le so so' hm (Int.le_refl 0) fun l hl e => by have := ahead l hl e; omega
    have u2 := sol_le so' so hm (Int.le_refl 0) fun l hl e => by have := ahead l hl e; omega
    omega
end K71

set_option Elab.async false
set_option linter.all false
set_option maxRecDepth 100000
/-! who is behind -/
namespace K71
open DD
open PySem (PyData Str sizeLine)
def nextB (ls : List Lk) (B : List Str) : List Str := B ++ (ls.filter fun l => decide (l.one ∈ B) && !decide (l.other ∈ B)).map Lk.other
def behB (ls : List Lk) (name : Str) : Nat → List Str
  | 0 => [name]
  | k + 1 => nextB ls (behB ls name k)
theorem beh_mono {ls : List Lk} {name x : Str} : ∀ {k m : Nat}, k ≤ m → x ∈ behB ls name k → x ∈ behB ls name m := by
  intro k m h hx
  induction h with
  | refl => exact hx
  | step _ ih => exact List.mem_append_left _ ih
theorem beh_next {ls : List Lk} {name : Str} {k : Nat} {l : Lk} (hl : l ∈ ls) (h : l.one ∈ behB ls name k) : l.other ∈ behB ls name (k + 1) := by
  by_cases q : l.other ∈ behB ls name k
  · exact List.mem_append_left _ q
  · refine List.mem_append_right _ (List.mem_map.mpr ⟨l, List.mem_filter.mpr ⟨hl, ?_⟩, rfl⟩)
    simp [h, q]
theorem beh_in {ls : List Lk} {name x : Str} {k : Nat} (h : x ∈ behB ls name (k + 1)) : x ∈ behB ls name k ∨ ∃ l ∈ ls, l.one ∈ behB ls name k ∧ l.other = x := by
  rcases List.mem_append.mp h with h | h
  · exact .inl h
  · obtain ⟨l, hl, e⟩ := List.mem_map.mp h
    obtain ⟨h1, h2⟩ := List.mem_filter.mp hl
    rw [Bool.and_eq_true, decide_eq_true_eq] at h2
    exact .inr ⟨l, h1, h2.1, e⟩
/-- whoever is behind is so by his place at the latest -/
theorem beh_rank {ls : List Lk} {order : List Str} (tp : Topo ls order) {name : Str} : ∀ (m i : Nat) (x : Str), order[i]? = some x → x ∈ behB ls name m → x ∈ behB ls name i
  | 0, i, x, _, h => beh_mono (Nat.zero_le _) h
  | m + 1, i, x, hx, h => by
    rcases beh_in h with h | ⟨l, hl, h1, e⟩
    · exact beh_rank tp m i x hx h
    · obtain ⟨j, hj, ej⟩ := prior_at tp hx hl e
      have := beh_rank tp m j _ ej h1
      rw [← e]
      exact beh_mono (by omega) (beh_next hl this)
theorem beh_closed {ls : List Lk} {order : List Str} (tp : Topo ls order) {name : Str} (all : ∀ l ∈ ls, l.other ∈ order) {l : Lk} (hl : l ∈ ls) (h : l.one ∈ behB ls name order.length) : l.other ∈ behB ls name order.length := by
  obtain ⟨i, hi, e⟩ := List.getElem_of_mem (all l hl)
  obtain ⟨j, hj, ej⟩ := prior_at tp (i := i) (by rw [List.getElem?_eq_getElem hi, e]) hl rfl
  exact beh_mono (by omega) (beh_next hl (beh_rank tp _ j _ ej h))
theorem beh_self {ls : List Lk} {name : Str} (k : Nat) : name ∈ behB ls name k := beh_mono (Nat.zero_le k) (List.mem_cons_self ..)
end K71

set_option Elab.async false
set_option linter.all false
set_option maxRecDepth 100000
/-! links in order -/
namespace K71
open DD
open PySem (PyData Str sizeLine)
theorem item_total {a b : IK} (h : PyProof.Rows.itemLt b a = false) (hne : a ≠ b) : PyProof.Rows.itemLt a b = true := by
  cases q : PyProof.Rows.itemLt a b with
  | true => rfl
  | false => exact absurd (PyProof.Rows.itemOrd.total a b q h) hne
/-- sorted whole, apart in the first two: sorted by the first two -/
theorem pk_lt {a b : Lk} (h : leT (lkD a) (lkD b) = true) (hne : pk a ≠ pk b) : kLt (pk a) (pk b) = true := by
  have h2 : kLt [.inr b.one.cps.toList, .inr b.other.cps.toList, .inl b.many] [.inr a.one.cps.toList, .inr a.other.cps.toList, .inl a.many] = false := by
    have : (!kLt (tk (lkD b)) (tk (lkD a))) = true := h
    rw [Bool.not_eq_true'] at this
    exact this
  unfold pk
  rw [kLt_cons] at h2 ⊢
  by_cases e : (Sum.inr a.one.cps.toList : IK) = .inr b.one.cps.toList
  · rw [if_pos e.symm] at h2
    rw [if_pos e]
    rw [kLt_cons] at h2 ⊢
    by_cases e2 : (Sum.inr a.other.cps.toList : IK) = .inr b.other.cps.toList
    · exact absurd (by unfold pk; rw [e, e2]) hne
    · rw [if_neg (fun q => e2 q.symm)] at h2
      rw [if_neg e2]
      exact item_total h2 e2
  · rw [if_neg (fun q => e q.symm)] at h2
    rw [if_neg e]
    exact item_total h2 e
/-- a sorted list of links whose pairs are apart -/
theorem asc_links {ls : List Lk} (h : (ls.map lkD).Pairwise fun a b => leT a b = true) (nd : (ls.map pk).Nodup) : ∀ (i : Nat) (a b : Lk), ls[i]? = some a → ls[i + 1]? = some b → kLt (pk a) (pk b) = true := by
  intro i a b ha hb
  obtain ⟨i1, e1⟩ := List.getElem?_eq_some_iff.mp ha
  obtain ⟨i2, e2⟩ := List.getElem?_eq_some_iff.mp hb
  rw [List.pairwise_map, List.pairwise_iff_getElem] at h
  have h1 := h i (i + 1) i1 i2 (Nat.lt_succ_self i)
  rw [e1, e2] at h1
  refine pk_lt h1 fun q => ?_
  have n2 := nd
  have g1 : (ls.map pk)[i]? = some (pk a) := by rw [List.getElem?_map, ha]; rfl
  have g2 : (ls.map pk)[i + 1]? = some (pk a) := by rw [List.getElem?_map, hb, q]; rfl
  obtain ⟨j1, f1⟩ := List.getElem?_eq_some_iff.mp g1
  obtain ⟨j2, f2⟩ := List.getElem?_eq_some_iff.mp g2
  have := List.pairwise_iff_getElem.mp n2 i (i + 1) j1 j2 (Nat.lt_succ_self i)
  rw [f1, f2] at this
  exact this rfl
end K71

set_option Elab.async false
set_option linter.all false
set_option maxRecDepth 100000
/-! one link more: no time earlier -/
namespace K71
open DD
open PySem (PyData Str sizeLine)
theorem more_links {fs : List Fl} {ls ls' : List Lk} {c T T' : Str → Int} {order order' : List Str} (tp : Topo ls' order') (so : Sol fs ls c T order) (so' : Sol fs ls' c T' order') (hsub : ∀ l ∈ ls, l ∈ ls') (hall : ∀ x ∈ order', x ∈ order) : ∀ (n i : Nat), i < n → ∀ s, order'[i]? = some s → T s ≤ T' s
  | 0, i, h, _, _ => by omega
  | n + 1, i, h, s, hs => by
    have hm := List.mem_of_getElem? hs
    have h1 := so s (hall s hm)
    have h2 := so' s hm
    have : T s ≤ T' s + 0 := max_le h2 h1 (Int.le_refl 0) fun y hy => by
      obtain ⟨l, hl, e, rfl⟩ := wait_mem hy
      obtain ⟨j, hj, ej⟩ := prior_at tp hs (hsub l hl) e
      have ih := more_links tp so so' hsub hall n j (by omega) l.one ej
      exact ⟨_, mem_wait (hsub l hl) e, by omega⟩
    omega
end K71

set_option Elab.async false
set_option linter.all false
set_option maxRecDepth 100000
/-! the purses -/
namespace K71
open DD
open PySem (PyData Str sizeLine)
theorem powD_of {i j : Int} (h : okPow i j = true) : powD (.int i) (.int j) = some (.d (.int (i ^ j.toNat))) := by
  show (if okPow i j = true then _ else none) = _
  rw [if_pos h]
theorem sum_cut (ns : List Int) (lo hi : Option Int) : sumD [.list (cutD (ns.map PyData.int) lo hi)] = some (.d (.int (cutD ns lo hi).sum)) := by
  have e : cutD (ns.map PyData.int) lo hi = (cutD ns lo hi).map PyData.int := by
    unfold cutD
    rw [List.length_map, List.map_take, List.map_drop]
  rw [e]
  show (intsOf ((cutD ns lo hi).map PyData.int)).map (fun ns => SV.d (.int ns.sum)) = _
  rw [intsOf_map]
  rfl
theorem e_law_purse (ns : List Int) (i : Nat) : ∃ p : Pu, p.c = 0 ∧ f_law_purse [.d (.list (ns.map PyData.int)), .d (.int i)] = some (.ok (pS p), [.un, .un]) := by
  obtain ⟨S, hS⟩ : ∃ S, S = (cutD ns (some (i : Int)) (some ((i : Int) + 1))).sum := ⟨_, rfl⟩
  obtain ⟨B, hB⟩ : ∃ B : Int, B = ((10 : Int) ^ 60) ^ 8 := ⟨_, rfl⟩
  have hB0 : B ≠ 0 := by rw [hB]; decide
  have p1 : powD (.int 10) (.int 18) = some (.d (.int (10 ^ 18))) := powD_of (by decide +kernel)
  have p2 : powD (.int 10) (.int 60) = some (.d (.int (10 ^ 60))) := powD_of (by decide +kernel)
  have p3 : powD (.int (10 ^ 60)) (.int 8) = some (.d (.int B)) := by rw [hB]; exact powD_of (by decide +kernel)
  obtain ⟨M, hM⟩ : ∃ M : Int, M = if (0 : Int) > S - 10 ^ 18 then 0 else S - 10 ^ 18 := ⟨_, rfl⟩
  refine ⟨⟨M.fmod B, S.fmod 2147483629, 0, i⟩, rfl, ?_⟩
  have e1 : mSlice (mName 0) (some (mName 1)) (some (mOp addD (mName 1) (mC (.int 1)))) [.d (.list (ns.map PyData.int)), .d (.int i), .un] = some (.ok (.lst ((cutD (ns.map PyData.int) (some (i : Int)) (some ((i : Int) + 1))).map SV.d)), [.d (.list (ns.map PyData.int)), .d (.int i), .un]) := rfl
  have e2 : mB sumD (mCons (mSlice (mName 0) (some (mName 1)) (some (mOp addD (mName 1) (mC (.int 1))))) mNil) [.d (.list (ns.map PyData.int)), .d (.int i), .un] = some (.ok (.d (.int S)), [.d (.list (ns.map PyData.int)), .d (.int i), .un]) :=
    run_B (run_cons e1 run_nil) (by rw [SV.fulls, full_lst]; rfl) (by rw [SV.toDs, toD_lst, hS]; exact sum_cut ns _ _)
  have a1 : mOp modD (mB intCD (mCons (mB maxD (mCons (mOp subD (mName 2) (mOp powD (mC (.int 10)) (mC (.int 18)))) (mCons (mC (.int 0)) mNil))) mNil)) (mOp powD (mOp powD (mC (.int 10)) (mC (.int 60))) (mC (.int 8))) [.d (.list (ns.map PyData.int)), .d (.int i), .d (.int S)] = some (.ok (.d (.int (M.fmod B))), [.d (.list (ns.map PyData.int)), .d (.int i), .d (.int S)]) := by
    have q1 := run_op (fa := mC (.int 10)) (fb := mC (.int 18)) (sl := [.d (.list (ns.map PyData.int)), .d (.int i), .d (.int S)]) (x := .d (.int 10)) (y := .d (.int 18)) rfl rfl rfl rfl p1
    have q2 := run_op (g := subD) (fa := mName 2) (sl := [.d (.list (ns.map PyData.int)), .d (.int i), .d (.int S)]) (x := .d (.int S)) (r := .d (.int (S - 10 ^ 18))) rfl rfl q1 rfl rfl
    have q3 : mB maxD (mCons (mOp subD (mName 2) (mOp powD (mC (.int 10)) (mC (.int 18)))) (mCons (mC (.int 0)) mNil)) [.d (.list (ns.map PyData.int)), .d (.int i), .d (.int S)] = some (.ok (.d (.int M)), [.d (.list (ns.map PyData.int)), .d (.int i), .d (.int S)]) :=
      run_B (run_cons q2 (run_cons (x := .d (.int 0)) rfl run_nil)) rfl (by rw [hM]; rfl)
    have q4 := run_B (g := intCD) (r := .d (.int M)) (run_cons q3 run_nil) rfl rfl
    have q5 := run_op (g := powD) (fa := mC (.int 10)) (fb := mC (.int 60)) (sl := [.d (.list (ns.map PyData.int)), .d (.int i), .d (.int S)]) (x := .d (.int 10)) (y := .d (.int 60)) rfl rfl rfl rfl p2
    have q6 := run_op (g := powD) (fb := mC (.int 8)) (y := .d (.int 8)) q5 rfl rfl rfl p3
    exact run_op q4 rfl q6 rfl (modD_of hB0)
  have h : f_law_purse_b [.d (.list (ns.map PyData.int)), .d (.int i), .un] = some (.ok (.rt (pS ⟨M.fmod B, S.fmod 2147483629, 0, i⟩)), [.d (.list (ns.map PyData.int)), .d (.int i), .d (.int S)]) := by
    refine (run_seq (run_asg e2 rfl)).trans (run_ret (run_lst (run_cons a1 (run_cons (x := .d (.int (S.fmod 2147483629))) (run_op (x := .d (.int S)) (y := .d (.int 2147483629)) rfl rfl rfl rfl (modD_of (by decide))) (run_cons (x := .d (.int 0)) rfl (run_cons (x := .d (.int i)) rfl run_nil)))) (by show 4 ≤ sizeLine; decide)))
  exact run_fn (n := 2) (N := 3) (kp := []) (G := f_law_purse_b) (args := [.d (.list (ns.map PyData.int)), .d (.int i)]) rfl h
end K71

set_option Elab.async false
set_option linter.all false
set_option maxRecDepth 100000
namespace K71
open DD
open PySem (PyData Str sizeLine)
theorem e_law_purses (ns : List Int) (hl : ns.length ≤ 1000) : ∃ ps : List Pu, (∀ p ∈ ps, p.c = 0) ∧ ps.length ≤ 3 ∧ f_law_purses [.d (.list (ns.map PyData.int)), .d (.int 3)] = some (.ok (.lst (ps.map pS)), [.un, .un]) := by
  have hx : ∀ i : Nat, ∃ p : Pu, p.c = 0 ∧ f_law_purse [.d (.list (ns.map PyData.int)), .d (.int (0 + ((i : Nat) : Int)))] = some (.ok (pS p), [.un, .un]) := fun i => by
    rw [Int.zero_add]
    exact e_law_purse ns i
  obtain ⟨F, hF⟩ := Classical.axiomOfChoice hx
  obtain ⟨m, hm⟩ : ∃ m : Int, m = if (ns.length : Int) < 3 then (ns.length : Int) else 3 := ⟨_, rfl⟩
  obtain ⟨k, hk⟩ : ∃ k : Int, k = if m > 1 then m else 1 := ⟨_, rfl⟩
  have k3 : 1 ≤ k ∧ k ≤ 3 := by
    rw [hk, hm]
    split <;> split <;> omega
  have el : mB lenD (mCons (mName 0) mNil) [.d (.list (ns.map PyData.int)), .d (.int 3), .un] = some (.ok (.d (.int ns.length)), [.d (.list (ns.map PyData.int)), .d (.int 3), .un]) := by
    rw [← List.length_map (f := PyData.int)]
    rfl
  have em : mB minD (mCons (mName 1) (mCons (mB lenD (mCons (mName 0) mNil)) mNil)) [.d (.list (ns.map PyData.int)), .d (.int 3), .un] = some (.ok (.d (.int m)), [.d (.list (ns.map PyData.int)), .d (.int 3), .un]) :=
    run_B (run_cons (x := .d (.int 3)) rfl (run_cons el run_nil)) rfl (by rw [hm]; rfl)
  have ek : mB maxD (mCons (mC (.int 1)) (mCons (mB minD (mCons (mName 1) (mCons (mB lenD (mCons (mName 0) mNil)) mNil))) mNil)) [.d (.list (ns.map PyData.int)), .d (.int 3), .un] = some (.ok (.d (.int k)), [.d (.list (ns.map PyData.int)), .d (.int 3), .un]) :=
    run_B (run_cons (x := .d (.int 1)) rfl (run_cons em run_nil)) rfl (by rw [hk]; rfl)
  have lz : (List.range k.toNat).length ≤ sizeLine := by
    rw [List.length_range]
    have : (3 : Nat) ≤ sizeLine := by decide
    omega
  have c := comp_all (N := 3) (vs := [2]) (T := gSet 2) (f := mCall f_law_purse [] (mCons (mName 0) (mCons (mName 2) mNil))) (List.range k.toNat) (fun i => PyData.int (0 + ((i : Nat) : Int))) (fun i => pS (F i)) (run_range (run_cons ek run_nil) (by omega) (by omega)) rfl lz
    (fun i _ => ⟨[.d (.list (ns.map PyData.int)), .d (.int 3), .d (.int (0 + ((i : Nat) : Int)))], _, rfl, run_call (xs := [.d (.list (ns.map PyData.int)), .d (.int (0 + ((i : Nat) : Int)))]) rfl (hF i).2, rfl⟩) rfl
  refine ⟨(List.range k.toNat).map F, fun p hp => ?_, by rw [List.length_map, List.length_range]; omega, ?_⟩
  · obtain ⟨i, _, rfl⟩ := List.mem_map.mp hp
    exact (hF i).1
  · rw [List.map_map]
    exact run_fn (n := 2) (N := 3) (kp := []) (G := f_law_purses_b) (args := [.d (.list (ns.map PyData.int)), .d (.int 3)]) rfl (run_ret c)
end K71

/-! drawing, by what must hold -/
namespace K71
open DD
open PySem (PyData Str sizeLine)
theorem wp_draw (n : Nat) (p : Pu) (m : Int) {Q : Res SV → List SV → Prop} (h1 : 1 ≤ m) (h2 : m < 2 ^ 28) (hp : Pok (n + 1) p) (q : ∀ r p', 0 ≤ r → r < m → Pok n p' → Q (.ok (.d (.int r))) [pS p', .un]) : wp f_law_draw [pS p, .d (.int m)] Q := by
  obtain ⟨r, p', h3, h4, h5, e⟩ := e_law_draw n p m h1 h2 hp
  exact ⟨_, _, e, q r p' h3 h4 h5⟩
theorem wp_one_of (n : Nat) (p : Pu) (x : SV) (ds : List D) {Q : Res SV → List SV → Prop} (hx : x.full = true) (hd : x.toD = .list ds) (h0 : ds ≠ []) (hl : ds.length < 2 ^ 28) (hp : Pok (n + 1) p) (q : ∀ d p', d ∈ ds → Pok n p' → Q (.ok (.d d)) [pS p', .un]) : wp f_law_one_of [pS p, x] Q := by
  obtain ⟨r, p', h3, h4, e⟩ := e_law_one_of n p x ds hx hd h0 hl hp
  exact ⟨_, _, e, q r p' h3 h4⟩
theorem wp_shuffled (n : Nat) (p : Pu) (x : SV) (ds : List D) {Q : Res SV → List SV → Prop} (hx : x.full = true) (hd : x.toD = .list ds) (hl : ds.length < 2 ^ 20) (hp : Pok (n + ds.length) p) (q : ∀ (es : List D) p', es.Perm ds → Pok n p' → Q (.ok (.lst (es.map SV.d))) [pS p', .un]) : wp f_law_shuffled [pS p, x] Q := by
  obtain ⟨r, p', h3, h4, e⟩ := e_law_shuffled n p x ds hx hd hl hp
  exact ⟨_, _, e, q r p' h3 h4⟩
end K71

/-! turned right -/
namespace K71
open DD
open PySem (PyData Str sizeLine)
theorem crs_same (ks : List Str) (c c' : Str → Int) (h : ∀ s ∈ ks, c s = c' s) : crsD ks c = crsD ks c' := by
  unfold crsD
  congr 1
  exact List.map_congr_left fun s hs => by rw [h s hs]
theorem eq_of_name {fs : List Fl} (nd : (namesF fs).Nodup) {f f' : Fl} (h : f ∈ fs) (h' : f' ∈ fs) (e : f.name = f'.name) : f = f' := by
  induction fs with
  | nil => cases h
  | cons a fs ih =>
    rw [namesF, List.map_cons, List.nodup_cons] at nd
    rcases List.mem_cons.mp h with q | h <;> rcases List.mem_cons.mp h' with q' | h'
    · rw [q, q']
    · rw [← q, e] at nd; exact absurd (List.mem_map.mpr ⟨f', h', rfl⟩) nd.1
    · rw [← q', ← e] at nd; exact absurd (List.mem_map.mpr ⟨f, h, rfl⟩) nd.1
    · exact ih nd.2 h h'
theorem wp_turned {fs : List Fl} {ls : List Lk} {ks : List Str} {c T : Str → Int} {order : List Str} (g : Good fs ls ks c T order) (n : Nat) (p : Pu) (hp : Pok (n + 2) p) (hb : ∀ f ∈ fs, f.hi < 2 ^ 27) {Q : Res SV → List SV → Prop} (q : ∀ p', Pok n p' → Q (.ok (.d (.bool true))) [pS p', .un, .un]) :
    wp f_law_turned_right [pS p, .d (webD fs ls), .d (crsD ks c)] Q := by
  have big : (2000000 : Nat) ≤ sizeLine := by decide
  have lf : fs.length ≤ 1000 := by have := g.w.nm.len; simpa using this
  have ll := g.w.nm.len2
  have okS : ∀ x ∈ namesF fs, PyData.strOk x = true := fun x hx => (g.w.nm.wd x hx).ok
  have okf : ∀ f ∈ fs, PyData.strOk f.name = true := fun f hf => okS _ (List.mem_map.mpr ⟨f, hf, rfl⟩)
  have nk : ks.Nodup := g.k.perm.nodup_iff.mpr g.w.nm.nd
  have lk : ks.length ≤ 1000 := by rw [g.k.perm.length_eq]; exact g.w.nm.len
  have hk : ∀ s ∈ namesF fs, s ∈ ks := fun s hs => g.k.perm.mem_iff.mpr hs
  unfold f_law_turned_right f_law_turned_right_b
  wp_walk
  refine wp_compAD flD (fun f => .str f.name) (by omega) (fun f hf => by wp_walk) ?_
  wp_walk
  refine wp_one_of (n + 1) p _ (fs.map fun f => .str f.name) (by wp_walk) (by wp_walk) (by simpa using g.w.ne) (by rw [List.length_map]; omega) hp fun d p1 hd hp1 => ?_
  obtain ⟨f0, hf0, rfl⟩ := List.mem_map.mp hd
  have in0 : f0.name ∈ namesF fs := List.mem_map.mpr ⟨f0, hf0, rfl⟩
  wp_walk
  refine wp_compL flD (fun f => decide (f.name = f0.name)) (fun f => .tup [.d (.int f.lo), .d (.int f.hi)]) (by omega) (fun f hf => by wp_walk) ?_
  wp_walk
  obtain ⟨f1, fr, e1⟩ : ∃ f1 fr, fs.filter (fun f => decide (f.name = f0.name)) = f1 :: fr := by
    cases e : fs.filter (fun f => decide (f.name = f0.name)) with
    | nil => exact absurd (List.mem_filter.mpr ⟨hf0, by simp⟩ : f0 ∈ fs.filter (fun f => decide (f.name = f0.name))) (by rw [e]; simp)
    | cons a b => exact ⟨a, b, rfl⟩
  have m1 : f1 ∈ fs ∧ f1.name = f0.name := by
    have : f1 ∈ fs.filter (fun f => decide (f.name = f0.name)) := by rw [e1]; exact List.mem_cons_self ..
    simpa using this
  have hlo := g.k.lo f1 m1.1
  have hhi := g.k.hi f1 m1.1
  have hb1 := hb f1 m1.1
  have hl1 := g.w.fl f1 m1.1
  rw [m1.2] at hlo hhi
  wp_walk using e1, dict_k (fun s : Str => s), at_crs (hk _ in0)
  refine wp_draw n p1 _ (by omega) (by omega) hp1 fun r p2 r0 r1 hp2 => ?_
  obtain ⟨c', hc'⟩ : ∃ c' : Str → Int, c' = fun x => if x = f0.name then c f0.name + r else c x := ⟨_, rfl⟩
  have ep : ∀ v, putS (ks.map fun x => (.inr x, .d (.int (c x)))) (.inr f0.name) (.d v) = some (ks.map fun x => (.inr x, .d (if x = f0.name then v else .int (c x)))) := fun v => putS_old (fun x => .int (c x)) f0.name v nk (hk _ in0)
  have ec : (ks.map fun x => ((.inr x, .d (if x = f0.name then PyData.int (c f0.name + r) else .int (c x))) : L2.Key × SV)) = ks.map fun x => (.inr x, .d (.int (c' x))) := List.map_congr_left fun x _ => by
    rw [hc']
    dsimp only
    split <;> rfl
  wp_walk using ep, ec, at_crs (hk _ in0)
  refine ⟨by omega, ?_⟩
  have k' : CrsOk fs ks c' := by
    refine ⟨g.k.perm, fun f hf => ?_, fun f hf => ?_⟩ <;> rw [hc'] <;> dsimp only <;> split
    · rename_i e
      have := eq_of_name g.w.nm.nd hf m1.1 (e.trans m1.2.symm)
      subst this; omega
    · exact g.k.lo f hf
    · rename_i e
      have := eq_of_name g.w.nm.nd hf m1.1 (e.trans m1.2.symm)
      subst this; omega
    · exact g.k.hi f hf
  obtain ⟨T', order', g'⟩ := good_of g.w k' (by rw [← g.ho]; exact g.hl)
  have eo : order = order' := g.ho.trans g'.ho.symm
  subst eo
  have lo : order.length = fs.length := by rw [g.hl]; simp
  have hcn : ∀ x, x ≠ f0.name → c' x = c x := fun x hx => by rw [hc']; exact if_neg hx
  have hcs : c' f0.name = c f0.name + r := by rw [hc']; exact if_pos rfl
  have B : ∀ k, ∀ s ∈ behB ls f0.name k, PyData.strOk s = true := by
    intro k
    induction k with
    | zero => intro s hs; rw [List.mem_singleton.mp hs]; exact okS _ in0
    | succ k ih =>
      intro s hs
      rcases beh_in hs with h | ⟨l, hl, _, e⟩
      · exact ih s h
      · rw [← e]; exact okS _ (g.w.nm.ends l hl).2
  have LB : ∀ k, (behB ls f0.name k).length ≤ 1 + k * 1000 := by
    intro k
    induction k with
    | zero => simp [behB]
    | succ k ih =>
      have h := List.length_filter_le (fun l : Lk => decide (l.one ∈ behB ls f0.name k) && !decide (l.other ∈ behB ls f0.name k)) ls
      show (behB ls f0.name k ++ List.map Lk.other _).length ≤ _
      rw [List.length_append, List.length_map]
      omega
  refine wp_forS flD (fun pre => [pS p2, .d (webD fs ls), .d (crsD ks c), .d (.str f0.name), .un, .d (.int f1.lo), .d (.int f1.hi), .dct (ks.map fun x => (.inr x, .d (.int (c' x)))), .d (.list (strD (behB ls f0.name pre.length))), .un, .un, .un, .un, .un, .un, .un, .un, .un, .un]) rfl ?_ ?_
  · intro pre x post e
    have okb := B pre.length
    have lb := LB pre.length
    have lp : pre.length ≤ 1000 := by rw [e, List.length_append] at lf; omega
    simp only [List.length_append, List.length_cons, List.length_nil, Nat.reduceAdd, behB, nextB]
    generalize behB ls f0.name pre.length = F at okb lb ⊢
    wp_walk
    refine wp_compD lkD (fun l => decide (l.one ∈ F) && !decide (l.other ∈ F)) (fun l => .str l.other) (by omega) (fun l hl => ?_) ?_
    · have h1 := okS _ (g.w.nm.ends l hl).1
      have h2 := okS _ (g.w.nm.ends l hl).2
      wp_walk using inD_strs h1 okb, inD_strs h2 okb
      split <;> simp_all
    wp_walk
    have h := List.length_filter_le (fun l : Lk => decide (l.one ∈ F) && !decide (l.other ∈ F)) ls
    refine ⟨by rw [lenSt]; omega, ?_⟩
    rw [show strD (F ++ (ls.filter fun l => decide (l.one ∈ F) && !decide (l.other ∈ F)).map Lk.other) = strD F ++ (ls.filter fun l => decide (l.one ∈ F) && !decide (l.other ∈ F)).map (fun l => .str l.other) by simp [strD]]
  generalize hB : behB ls f0.name fs.length = BH
  have okB : ∀ s ∈ BH, PyData.strOk s = true := fun s hs => B _ s (by rw [hB]; exact hs)
  have c0 : f0.name ∈ ks := hk _ in0
  have okn : ∀ s ∈ namesF fs, PyData.strOk s = true := okS
  obtain ⟨pi, hpi, epi⟩ := List.getElem_of_mem (g.all _ in0)
  have lg := longer g.tp g.nd g.so g'.so (p := pi) (by rw [List.getElem?_eq_getElem hpi, epi]) (d := r) r0 hcn hcs order.length
  have nb := not_behind g.tp g.so g'.so hcn (fun x => x ∈ BH) (by rw [← hB]; exact beh_self _) (fun l hl h => by
    rw [← hB, ← lo] at h ⊢
    exact beh_closed g.tp (fun l hl => g.all _ (g.w.nm.ends l hl).2) hl h) order.length
  have main : ∀ s ∈ namesF fs, ∀ m, m = (if s ∈ BH then r else 0) → 0 ≤ T' s - T s ∧ T' s - T s ≤ m ∧ 0 ≤ T' s + c' s - (T s + c s) ∧ T' s + c' s - (T s + c s) ≤ m := by
    intro s hs m hm
    obtain ⟨i, hi, ei⟩ := List.getElem_of_mem (g.all _ hs)
    have es : order[i]? = some s := by rw [List.getElem?_eq_getElem hi, ei]
    have a := lg i hi s es
    have b := nb i hi s es
    by_cases q : s = f0.name
    · subst q
      have : f0.name ∈ BH := by rw [← hB]; exact beh_self _
      rw [if_pos this] at hm
      have ip : i = pi := pos_inj g.nd es (by rw [List.getElem?_eq_getElem hpi, epi])
      have := a.2.2 (by omega)
      rw [hcs]
      omega
    · rw [hcn s q]
      by_cases q2 : s ∈ BH
      · rw [if_pos q2] at hm
        omega
      · rw [if_neg q2] at hm
        have := b q2
        omega
  wp_walk using wp_of_eq (e_web_times g), wp_of_eq (e_web_times g'), zip2_map
  refine wp_forS (fun s => .tuple [rowD c T s, rowD c' T' s]) (fun pre => [pS p2, .d (webD fs ls), .d (crsD ks c), .d (.str f0.name), .un, .d (.int f1.lo), .d (.int f1.hi), .d (crsD ks c'), .d (.list (strD BH)), .un, .un, .un, .un, .d (.list ((namesF fs).map fun s => .tuple [rowD c T s, rowD c' T' s])), .un, .un, .un, .un, .un]) rfl ?_ ?_
  · intro pre s post e
    have hs : s ∈ namesF fs := by rw [e]; simp
    have M := main s hs
    wp_walk using inD_strs (okS s hs) okB
    split
    · rename_i hin
      wp_walk using at_crs c0
      have m := M r (by rw [if_pos hin])
      rw [hcs]
      have h1 : T' s + c' s - (T s + c s) ≤ c f0.name + r - c f0.name := by omega
      have h2 : T' s - T s ≤ c f0.name + r - c f0.name := by omega
      simp only [m.1, m.2.2.1, h1, h2, decide_true, Bool.not_true, Bool.false_eq_true, if_false, if_true]
    · rename_i hin
      wp_walk
      have m := M 0 (by rw [if_neg hin])
      simp only [m.1, m.2.2.1, m.2.1, m.2.2.2, decide_true, Bool.not_true, Bool.false_eq_true, if_false, if_true]
  wp_walk
  refine wp_compD flD (fun f => (ls.filter fun l => decide (l.other = f.name)).isEmpty) (fun f => .str f.name) (by omega) (fun f hf => ?_) ?_
  · wp_walk
    refine wp_compD lkD (fun l => decide (l.other = f.name)) lkD (by omega) (fun l hl => by wp_walk) ?_
    have sk : skn 2 (.list ((ls.filter fun l => decide (l.other = f.name)).map lkD)) = true := by
      rw [skn_l, List.all_map, List.all_eq_true]
      intro l hl
      have := (List.mem_filter.mp hl).1
      have a := okS _ (g.w.nm.ends l this).1
      have b := okS _ (g.w.nm.ends l this).2
      simp [skn_t, skn_i, skn_s, a, b]
    wp_walk using eq_skn (m := 1) (b := .list []) sk rfl, eqv_nil, List.isEmpty_map
  wp_walk
  generalize hA : (fs.filter fun f => (ls.filter fun l => decide (l.other = f.name)).isEmpty) = A
  have okA : ∀ f ∈ A, f ∈ fs ∧ ls.filter (fun l => decide (l.other = f.name)) = [] := fun f hf => by
    rw [← hA] at hf
    simpa using hf
  refine wp_compA flD (fun f => .tup [.d (.str f.name), .d (.int f.pl)]) (by omega) (fun f hf => by wp_walk) ?_
  wp_walk
  wp_walk using dictD_map (fun f : Fl => f.name) (fun f => .int f.pl) fs g.w.nm.nd, wp_of_eq (e_web_times g)
  refine wp_compD (rowD c T) (fun _ => false) (rowD c T) (by have := g.w.nm.len; omega) (fun s hs => ?_) ?_
  · have eA : A.map (fun f => PyData.str f.name) = strD (A.map Fl.name) := by simp [strD]
    have okA2 : ∀ x ∈ A.map Fl.name, PyData.strOk x = true := fun x hx => by
      obtain ⟨f, hf, rfl⟩ := List.mem_map.mp hx
      exact okf f (okA f hf).1
    wp_walk using eA, inD_strs (okS s hs) okA2
    split
    · rename_i hin
      obtain ⟨f, hf, ef⟩ := List.mem_map.mp hin
      have e0 := (okA f hf).2
      have so := g.so s (g.all s hs)
      have ew : waits ls c T s = [] := by
        unfold waits
        rw [← ef, show (fun l : Lk => l.other == f.name) = fun l => decide (l.other = f.name) from funext fun l => rfl, e0]
        rfl
      rw [ew] at so
      have eT : T s = plF fs s := by simpa using so.symm
      wp_walk using at_plan hs, eT
    · wp_walk
  · wp_walk using filter_none, eq_skn (n := 1) (m := 1) (a := .list []) (b := .list []) rfl rfl, eqv_nil, List.isEmpty_nil
    exact q p2 hp2
end K71

/-! links sorted; linked right -/
namespace K71
open DD
open PySem (PyData Str sizeLine)
theorem lk_ok (a b : Lk) : okTup (tk (lkD a)) (lkD b) = true := rfl
theorem srt_links (ls : List Lk) (nd : (ls.map pk).Nodup) : ∃ ls' : List Lk, ls'.Perm ls ∧ sortedD [.list (ls.map lkD)] = some (.lst ((ls'.map lkD).map SV.d)) ∧ (∀ (i : Nat) (a b : Lk), ls'[i]? = some a → ls'[i + 1]? = some b → kLt (pk a) (pk b) = true) := by
  refine ⟨ls.mergeSort fun a b => leT (lkD a) (lkD b), List.mergeSort_perm _ _, ?_, ?_⟩
  · rw [List.map_mergeSort (s := leT) fun a _ b _ => rfl]
    show sortedTD (ls.map lkD) = _
    unfold sortedTD
    rw [if_pos]
    · rfl
    · rw [List.all_eq_true]
      intro d hd
      obtain ⟨b, hb, rfl⟩ := List.mem_map.mp hd
      cases ls with
      | nil => cases hb
      | cons a r => exact lk_ok a b
  · have p := List.mergeSort_perm ls fun a b => leT (lkD a) (lkD b)
    refine asc_links ?_ ((p.map pk).nodup_iff.mpr nd)
    rw [List.map_mergeSort (s := leT) fun a _ b _ => rfl]
    exact List.pairwise_mergeSort leT_trans leT_total _
theorem str_inj {a b : Str} (h : a.cps.toList = b.cps.toList) : a = b := by
  cases a; cases b
  simp only [PySem.Str.mk.injEq]
  exact Array.toList_inj.mp h
theorem pk_inj {a b : Lk} (h : pk a = pk b) : a.one = b.one ∧ a.other = b.other := by
  unfold pk at h
  simp only [List.cons.injEq, Sum.inr.injEq, and_true] at h
  exact ⟨str_inj h.1, str_inj h.2⟩
theorem WebIn.with {fs : List Fl} {ls ls' : List Lk} (w : WebIn fs ls) (hl : ls'.length ≤ 1000) (he : ∀ l ∈ ls', l.one ∈ namesF fs ∧ l.other ∈ namesF fs) (hm : ∀ l ∈ ls', 0 ≤ l.many) (ha : ∀ (i : Nat) (a b : Lk), ls'[i]? = some a → ls'[i + 1]? = some b → kLt (pk a) (pk b) = true) : WebIn fs ls' :=
  ⟨⟨w.nm.wd, w.nm.nd, w.nm.len, hl, he⟩, w.ne, w.fl, hm, w.asc, ha⟩
theorem wp_linked {fs : List Fl} {ls : List Lk} {ks : List Str} {c T : Str → Int} {order : List Str} (g : Good fs ls ks c T order) (nd : (ls.map pk).Nodup) (l24 : ls.length ≤ 24) (n : Nat) (p : Pu) (hp : Pok (n + 3) p) {Q : Res SV → List SV → Prop} (q : ∀ p', Pok n p' → Q (.ok (.d (.bool true))) [pS p', .un, .un]) :
    wp f_law_linked_right [pS p, .d (webD fs ls), .d (crsD ks c)] Q := by
  have big : (2000 : Nat) ≤ sizeLine := by decide
  have lf : fs.length ≤ 1000 := by have := g.w.nm.len; simpa using this
  have okS : ∀ x ∈ namesF fs, PyData.strOk x = true := fun x hx => (g.w.nm.wd x hx).ok
  unfold f_law_linked_right f_law_linked_right_b
  wp_walk
  refine wp_compAD flD (fun f => .str f.name) (by omega) (fun f hf => by wp_walk) ?_
  wp_walk
  refine wp_compA lkD (fun l => .tup [.d (.str l.one), .d (.str l.other)]) (by omega) (fun f hf => by wp_walk) ?_
  wp_walk
  refine wp_one_of (n + 2) p _ (fs.map fun f => .str f.name) rfl rfl (by simpa using g.w.ne) (by rw [List.length_map]; omega) hp fun d p1 hd hp1 => ?_
  obtain ⟨f1, hf1, rfl⟩ := List.mem_map.mp hd
  have in1 : f1.name ∈ namesF fs := List.mem_map.mpr ⟨f1, hf1, rfl⟩
  wp_walk
  refine wp_one_of (n + 1) p1 _ (fs.map fun f => .str f.name) rfl rfl (by simpa using g.w.ne) (by rw [List.length_map]; omega) hp1 fun d p2 hd2 hp2 => ?_
  obtain ⟨f2, hf2, rfl⟩ := List.mem_map.mp hd2
  have in2 : f2.name ∈ namesF fs := List.mem_map.mpr ⟨f2, hf2, rfl⟩
  walk_at "st"
  rw [k_seq_nx, wk_seq]
  refine wp_mono (Q := fun r s => ∃ ls' p', Pok n p' ∧ WebIn fs ls' ∧ (∀ l ∈ ls, l ∈ ls') ∧ r = .ok .nx ∧ s = [pS p', .d (webD fs ls), .d (crsD ks c), .d (.list (fs.map fun f => .str f.name)), .un, .d (.list (ls.map fun l => .tuple [.str l.one, .str l.other])), .d (.str f1.name), .d (.str f2.name), .un, .d (webD fs ls'), .un, .un]) ?_ ?_
  · have s1 : skn 1 (.tuple [.str f1.name, .str f2.name]) = true := by simp [skn_t, skn_s, okS _ in1, okS _ in2]
    have s2 : ∀ d ∈ ls.map (fun l : Lk => PyData.tuple [.str l.one, .str l.other]), skn 1 d = true := fun d hd => by
      obtain ⟨l, hl, rfl⟩ := List.mem_map.mp hd
      simp [skn_t, skn_s, okS _ (g.w.nm.ends l hl).1, okS _ (g.w.nm.ends l hl).2]
    have s3 : skn 2 (.list (ls.map fun l : Lk => PyData.tuple [.str l.one, .str l.other])) = true := by
      rw [skn_l, List.all_eq_true]; exact s2
    have key := any_skn s1 s2
    wp_walk using in_skn s1 s3
    split
    · wp_walk
      split
      · rename_i h1 h2
        wp_walk
        refine wp_draw n p2 99 (by decide) (by decide) hp2 fun r p3 r0 r1 hp3 => ?_
        wp_walk
        obtain ⟨L, hL⟩ : ∃ L : Lk, L = ⟨f1.name, f2.name, r⟩ := ⟨_, rfl⟩
        have eL : ls.map lkD ++ [PyData.tuple [.str f1.name, .str f2.name, .int r]] = (ls ++ [L]).map lkD := by rw [hL]; simp
        have nd2 : ((ls ++ [L]).map pk).Nodup := by
          rw [List.map_append, List.nodup_append]
          refine ⟨nd, by simp, fun a ha b hb e => ?_⟩
          obtain ⟨l, hl, rfl⟩ := List.mem_map.mp ha
          simp only [List.map_cons, List.map_nil, List.mem_singleton] at hb
          rw [hb] at e
          have := pk_inj e
          rw [hL] at this
          rw [Bool.not_eq_true', ← Bool.not_eq_true, key] at h1
          exact h1 (List.mem_map.mpr ⟨l, hl, by rw [this.1, this.2]⟩)
        obtain ⟨ls', hp', e', asc'⟩ := srt_links (ls ++ [L]) nd2
        rw [eL, e']
        refine ⟨by omega, _, rfl, ls', p3, hp3, ?_, fun l hl => hp'.mem_iff.mpr (List.mem_append_left _ hl), ?_⟩
        · refine g.w.with (by rw [hp'.length_eq, List.length_append]; simp; omega) (fun l hl => ?_) (fun l hl => ?_) asc'
          · rcases List.mem_append.mp (hp'.mem_iff.mp hl) with h | h
            · exact g.w.nm.ends l h
            · rw [List.mem_singleton.mp h, hL]; exact ⟨in1, in2⟩
          · rcases List.mem_append.mp (hp'.mem_iff.mp hl) with h | h
            · exact g.w.mn l h
            · rw [List.mem_singleton.mp h, hL]; exact r0
        · wp_walk
      · wp_walk
        exact ⟨ls, p2, hp2.mono (by omega), g.w, fun _ h => h, rfl⟩
    · wp_walk
      exact ⟨ls, p2, hp2.mono (by omega), g.w, fun _ h => h, rfl⟩
  · rintro _ _ ⟨ls', p3, hp3, w', hsub, rfl, rfl⟩
    wp_walk using wp_of_eq (e_is_web w')
    split
    · exact q p3 hp3
    · rename_i hw
      have hw : (fio ls' (namesF fs) (namesF fs).length).length = (namesF fs).length := by simpa using hw
      obtain ⟨T', order', g'⟩ := good_of w' g.k hw
      have mr := more_links g'.tp g.so g'.so hsub (fun x hx => g.all x (g'.sub x hx)) order'.length
      wp_walk using wp_of_eq (e_web_times g), wp_of_eq (e_web_times g'), zipL_map, wp_of_eq (e_told_right g')
      refine wp_compD (fun s => .tuple [rowD c T s, rowD c T' s]) (fun _ => false) (fun _ => .none) (by have := g.w.nm.len; omega) (fun s hs => ?_) ?_
      · obtain ⟨i, hi, ei⟩ := List.getElem_of_mem (g'.all _ hs)
        have a := mr i hi s (by rw [List.getElem?_eq_getElem hi, ei])
        wp_walk
        simp only [show ¬ T' s < T s by omega, decide_false, Bool.false_eq_true, false_implies, implies_true, and_self]
      · wp_walk using filter_none, eq_skn (n := 1) (m := 1) (a := .list []) (b := .list []) rfl rfl, eqv_nil, List.isEmpty_nil, wp_of_eq (e_told_right g')
        exact q p3 hp3
end K71

/-! the web that is drawn: names, flights, links -/
namespace K71
open DD
open PySem (PyData Str sizeLine)
/-! places in an order -/
theorem lt_trans_s {a b c : Str} (h : sLt a b = true) (h' : sLt b c = true) : sLt a c = true := by
  unfold sLt at *
  rw [decide_eq_true_eq] at *
  exact List.lt_trans h h'
def sortedS (l : List Str) : Prop := l.Pairwise fun a b => sLt a b = true
theorem pools : sortedS poolA ∧ sortedS poolB ∧ sortedS poolC := by
  refine ⟨?_, ?_, ?_⟩ <;> unfold sortedS <;> decide +kernel
theorem pool_sorted {es : List Str} (h : es.Sublist poolA ∨ es.Sublist poolB ∨ es.Sublist poolC) : sortedS es := by
  obtain ⟨a, b, c⟩ := pools
  rcases h with h | h | h
  · exact List.Pairwise.sublist h a
  · exact List.Pairwise.sublist h b
  · exact List.Pairwise.sublist h c
theorem pool_wd {es : List Str} (h : es.Sublist poolA ∨ es.Sublist poolB ∨ es.Sublist poolC) : ∀ s ∈ es, Wd s := fun s hs => by
  rcases h with h | h | h
  · exact wd_pool (.inl (h.subset hs))
  · exact wd_pool (.inr (.inl (h.subset hs)))
  · exact wd_pool (.inr (.inr (h.subset hs)))
theorem pool_short {es : List Str} (h : es.Sublist poolA ∨ es.Sublist poolB ∨ es.Sublist poolC) : ∀ s ∈ es, s.cps.size ≤ 3 := fun s hs => by
  have key : ∀ s ∈ poolA ++ poolB ++ poolC, s.cps.size ≤ 3 := by decide +kernel
  refine key s ?_
  rw [List.mem_append, List.mem_append]
  rcases h with h | h | h
  · exact .inl (.inl (h.subset hs))
  · exact .inl (.inr (h.subset hs))
  · exact .inr (h.subset hs)
theorem sorted_nodup {l : List Str} (h : sortedS l) : l.Nodup := by
  refine List.Pairwise.imp (fun {a b} hab e => ?_) h
  subst e
  unfold sLt at hab
  rw [decide_eq_true_eq] at hab
  exact List.lt_irrefl _ hab
theorem sorted_asc {l : List Str} (h : sortedS l) (i : Nat) (a b : Str) (ha : l[i]? = some a) (hb : l[i + 1]? = some b) : sLt a b = true := by
  obtain ⟨i1, e1⟩ := List.getElem?_eq_some_iff.mp ha
  obtain ⟨i2, e2⟩ := List.getElem?_eq_some_iff.mp hb
  have := List.pairwise_iff_getElem.mp h i (i + 1) i1 i2 (Nat.lt_succ_self i)
  rwa [e1, e2] at this
/-! back from data -/
def unS : D → Str
  | .str s => s
  | _ => ""
def unL : D → Lk
  | .tuple [.str a, .str b, .int m] => ⟨a, b, m⟩
  | _ => ⟨"", "", 0⟩
theorem perm_str {es : List D} {l : List Str} (h : es.Perm (strD l)) : ∃ l', es = strD l' ∧ l'.Perm l := by
  refine ⟨es.map unS, ?_, ?_⟩
  · unfold strD
    rw [List.map_map]
    conv => lhs; rw [← List.map_id es]
    refine List.map_congr_left fun d hd => ?_
    obtain ⟨s, _, rfl⟩ := List.mem_map.mp (h.mem_iff.mp hd)
    rfl
  · have := h.map unS
    unfold strD at this
    rw [List.map_map] at this
    have e : (unS ∘ PyData.str) = id := rfl
    rwa [e, List.map_id] at this
theorem perm_lk {es : List D} {l : List Lk} (h : es.Perm (l.map lkD)) : ∃ l' : List Lk, es = l'.map lkD ∧ l'.Perm l := by
  refine ⟨es.map unL, ?_, ?_⟩
  · rw [List.map_map]
    conv => lhs; rw [← List.map_id es]
    refine List.map_congr_left fun d hd => ?_
    obtain ⟨s, _, rfl⟩ := List.mem_map.mp (h.mem_iff.mp hd)
    rfl
  · have := h.map unL
    rw [List.map_map] at this
    have e : (unL ∘ lkD) = id := rfl
    rwa [e, List.map_id] at this
theorem enumL_str (l : List Str) : enumL (strD l) = l.zipIdx.map fun p => PyData.tuple [.int (p.2 : Nat), .str p.1] := by
  unfold enumL strD
  rw [List.zipIdx_map, List.map_map]
  rfl
/-- links between places of an order, up to (J, I) -/
structure LinkIn (order : List Str) (J I : Nat) (ls : List Lk) : Prop where
  at_ : ∀ l ∈ ls, 0 ≤ l.many ∧ l.many < 40 ∧ ∃ i j, order[i]? = some l.one ∧ order[j]? = some l.other ∧ i < j ∧ (j < J ∨ (j = J ∧ i < I))
  nd : (ls.map pk).Nodup
theorem LinkIn.mono {order : List Str} {J I J' I' : Nat} {ls : List Lk} (h : LinkIn order J I ls) (hm : J < J' ∨ (J = J' ∧ I ≤ I')) : LinkIn order J' I' ls :=
  ⟨fun l hl => by
    obtain ⟨a, b, i, j, c, d, e, f⟩ := h.at_ l hl
    exact ⟨a, b, i, j, c, d, e, by omega⟩, h.nd⟩
theorem LinkIn.add {order : List Str} (no : order.Nodup) {J I : Nat} {ls : List Lk} (h : LinkIn order J I ls) {a b : Str} {m : Int} (h0 : 0 ≤ m) (h1 : m < 40) (ha : order[I]? = some a) (hb : order[J]? = some b) (hij : I < J) : LinkIn order J (I + 1) (ls ++ [⟨a, b, m⟩]) := by
  refine ⟨fun l hl => ?_, ?_⟩
  · rcases List.mem_append.mp hl with hl | hl
    · obtain ⟨p, q, i, j, c, d, e, f⟩ := h.at_ l hl
      exact ⟨p, q, i, j, c, d, e, by omega⟩
    · rw [List.mem_singleton.mp hl]
      exact ⟨h0, h1, I, J, ha, hb, hij, .inr ⟨rfl, Nat.lt_succ_self _⟩⟩
  · rw [List.map_append, List.nodup_append]
    refine ⟨h.nd, by simp, fun x hx y hy e => ?_⟩
    obtain ⟨l, hl, rfl⟩ := List.mem_map.mp hx
    simp only [List.map_cons, List.map_nil, List.mem_singleton] at hy
    rw [hy] at e
    obtain ⟨e1, e2⟩ := pk_inj e
    obtain ⟨_, _, i, j, c, d, _, f⟩ := h.at_ l hl
    dsimp only at e1 e2
    rw [e1] at c
    rw [e2] at d
    have := pos_inj no c ha
    have := pos_inj no d hb
    omega
abbrev flS (f : Fl) : SV := .tup [.d (.str f.name), .d (.int f.pl), .d (.int f.lo), .d (.int f.hi)]
abbrev lkS (l : Lk) : SV := .tup [.d (.str l.one), .d (.str l.other), .d (.int l.many)]
structure FlOk (f : Fl) : Prop where
  lo : 1 ≤ f.lo
  hi : f.lo ≤ f.hi
  top : f.hi < 2 ^ 27
  pl : f.pl.natAbs < 100
end K71

namespace K71
open DD
open PySem (PyData Str sizeLine)
/-- a drawn web -/
structure Web (fs : List Fl) (ls : List Lk) : Prop where
  w : WebIn fs ls
  whole : (fio ls (namesF fs) (namesF fs).length).length = (namesF fs).length
  nd : (ls.map pk).Nodup
  l24 : ls.length ≤ 24
  l10 : fs.length ≤ 10
  fl : ∀ f ∈ fs, FlOk f
  mn : ∀ l ∈ ls, l.many < 40
  short : ∀ s ∈ namesF fs, s.cps.size ≤ 3
theorem wp_web (n : Nat) (p : Pu) (many wide far : Int) (hm : 1 ≤ many ∧ many ≤ 10) (hw : 1 ≤ wide ∧ wide ≤ 100000) (hf : 1 ≤ far ∧ far ≤ 800000) (hp : Pok (n + 500) p) {Q : Res SV → List SV → Prop}
    (q : ∀ x fs ls p', x.full = true → x.toD = webD fs ls → isUn x = false → Web fs ls → Pok n p' → Q (.ok x) [pS p', .un, .un, .un]) : wp f_law_web [pS p, .d (.int many), .d (.int wide), .d (.int far)] Q := by
  have big : (1000 : Nat) < sizeLine := by decide
  unfold f_law_web f_law_web_b
  wp_walk
  obtain ⟨ns, p1, hpool, hlen, hp1, e1⟩ := e_law_names (n + 480) p many hm.1 hm.2 (hp.mono (by omega))
  wp_walk using wp_of_eq e1
  have okn := fun s hs => (pool_wd hpool s hs).ok
  have lns : ns.length ≤ 10 := by omega
  have srt := pool_sorted hpool
  have ndn := sorted_nodup srt
  refine wp_shuffled (n + 470) p1 _ (strD ns) rfl rfl (by rw [lenSt]; omega) (hp1.mono (by rw [lenSt]; omega)) fun es p2 hpe hp2 => ?_
  obtain ⟨order, rfl, hperm⟩ := perm_str hpe
  have ndo := hperm.nodup_iff.mpr ndn
  have lo : order.length ≤ 10 := by rw [hperm.length_eq]; exact lns
  wp_walk
  refine wp_forL PyData.str (fun pre s => ∃ p' fs, namesF fs = pre ∧ (∀ f ∈ fs, FlOk f) ∧ Pok (n + 410 + 4 * (10 - pre.length)) p' ∧ s = [pS p', .d (.int many), .d (.int wide), .d (.int far), .d (.list (strD ns)), .lst (fs.map flS), .lst [], .d (.list (strD order)), .un, .un, .un, .un, .un]) ⟨p2, [], rfl, (fun _ h => nomatch h), hp2.mono (by omega), rfl⟩ ?_ ?_
  · rintro pre x post s e ⟨p3, fs, efs, okf, hp3, rfl⟩
    have lp : pre.length < 10 := by rw [e, List.length_append, List.length_cons] at lns; omega
    have lfs : fs.length = pre.length := by rw [← efs]; simp
    wp_walk
    refine wp_one_of _ p3 _ [.int 3, .int 30, .int far] rfl rfl (by simp) (show 3 < 2 ^ 28 by decide) (hp3.mono (m := n + 410 + 4 * (9 - pre.length) + 3 + 1) (by omega)) fun d p4 hd hp4 => ?_
    obtain ⟨v, hv, rfl⟩ : ∃ v : Int, (1 ≤ v ∧ v ≤ 800000) ∧ d = .int v := by
      simp only [List.mem_cons, List.not_mem_nil, or_false] at hd
      rcases hd with rfl | rfl | rfl
      · exact ⟨3, by decide, rfl⟩
      · exact ⟨30, by decide, rfl⟩
      · exact ⟨far, hf, rfl⟩
    wp_walk
    refine wp_draw _ p4 v (by omega) (by omega) hp4 fun r1 p5 a0 a1 hp5 => ?_
    wp_walk
    refine wp_draw _ p5 60 (by omega) (by omega) hp5 fun r2 p6 b0 b1 hp6 => ?_
    wp_walk
    refine wp_draw _ p6 wide (by omega) (by omega) hp6 fun r3 p7 c0 c1 hp7 => ?_
    wp_walk
    refine ⟨by omega, p7, fs ++ [⟨x, r2 - 20, 1 + r1, 1 + r1 + r3⟩], ?_, ?_, ?_, ?_⟩
    · unfold namesF at *
      rw [List.map_append, efs]; rfl
    · intro f hf'
      rcases List.mem_append.mp hf' with h | h
      · exact okf f h
      · rw [List.mem_singleton.mp h]
        exact ⟨by show 1 ≤ 1 + r1; omega, by show 1 + r1 ≤ 1 + r1 + r3; omega, by show 1 + r1 + r3 < _; omega, by show (r2 - 20).natAbs < 100; omega⟩
    · refine hp7.mono ?_
      rw [List.length_append, List.length_singleton]; omega
    · rw [List.map_append]; rfl
  rintro s ⟨p3, fs, efs, okf, hp3, rfl⟩
  subst efs
  have lf10 : fs.length ≤ 10 := by simpa using lns
  wp_walk
  rw [enumL_str]
  refine wp_forL (fun p : Str × Nat => PyData.tuple [.int (p.2 : Nat), .str p.1]) (fun pre s => ∃ p' ls, LinkIn order pre.length 0 ls ∧ ls.length ≤ 10 * pre.length ∧ Pok (n + 110 + 30 * (10 - pre.length)) p' ∧
    s = [pS p', .d (.int many), .d (.int wide), .d (.int far), .d (.list (strD (namesF fs))), .lst (fs.map flS), .lst (ls.map lkS), .d (.list (strD order)), .un, .un, .un, .un, .un]) ⟨p3, [], ⟨(fun _ h => nomatch h), List.nodup_nil⟩, by simp, hp3.mono (by simp), rfl⟩ ?_ ?_
  · rintro pre ⟨x, k⟩ post s e ⟨p4, ls, hli, hll, hp4, rfl⟩
    have ex : order[pre.length]? = some x ∧ k = pre.length := by
      have h : (order.zipIdx)[pre.length]? = some (x, k) := by rw [e]; simp
      rw [List.getElem?_zipIdx] at h
      cases q : order[pre.length]? with
      | none => rw [q] at h; cases h
      | some y => rw [q] at h; simp at h; exact ⟨by rw [h.1], h.2.symm⟩
    obtain ⟨ex, rfl⟩ := ex
    have lp : pre.length < 10 := Nat.lt_of_lt_of_le (List.getElem?_eq_some_iff.mp ex).1 lo
    have lp2 : pre.length < order.length := (List.getElem?_eq_some_iff.mp ex).1
    wp_walk using cut_hi
    rw [show (strD order).take pre.length = (order.take pre.length).map PyData.str from by unfold strD; rw [List.map_take]]
    refine wp_forL PyData.str (fun pr s => ∃ p' ls, LinkIn order pre.length pr.length ls ∧ ls.length ≤ 10 * pre.length + pr.length ∧ Pok (n + 110 + 30 * (9 - pre.length) + 3 * (10 - pr.length)) p' ∧
      s = [pS p', .d (.int many), .d (.int wide), .d (.int far), .d (.list (strD (namesF fs))), .lst (fs.map flS), .lst (ls.map lkS), .d (.list (strD order)), .un, .un, .d (.int (pre.length : Nat)), .d (.str x), .un]) ⟨p4, ls, hli, by simpa using hll, hp4.mono (by simp; omega), rfl⟩ ?_ ?_
    · rintro pr y pst s e2 ⟨p5, ls2, hli2, hll2, hp5, rfl⟩
      have ey : order[pr.length]? = some y ∧ pr.length < pre.length := by
        have h : (order.take pre.length)[pr.length]? = some y := by rw [e2]; simp
        rw [List.getElem?_take] at h
        split at h
        · rename_i hh; exact ⟨h, hh⟩
        · cases h
      wp_walk
      refine wp_draw (n + 110 + 30 * (9 - pre.length) + 3 * (9 - pr.length) + 2) p5 3 (by omega) (by omega) (hp5.mono (by omega)) fun r1 p6 a0 a1 hp6 => ?_
      wp_walk
      split
      · wp_walk
        refine wp_one_of _ p6 _ [.int 1, .int 9, .int 40] rfl rfl (by simp) (show 3 < 2 ^ 28 by decide) hp6 fun d p7 hd hp7 => ?_
        obtain ⟨v, hv, rfl⟩ : ∃ v : Int, (1 ≤ v ∧ v ≤ 40) ∧ d = .int v := by
          simp only [List.mem_cons, List.not_mem_nil, or_false] at hd
          rcases hd with rfl | rfl | rfl
          · exact ⟨1, by decide, rfl⟩
          · exact ⟨9, by decide, rfl⟩
          · exact ⟨40, by decide, rfl⟩
        wp_walk
        refine wp_draw _ p7 v (by omega) (by omega) hp7 fun r2 p8 b0 b1 hp8 => ?_
        wp_walk
        refine ⟨by omega, p8, ls2 ++ [⟨y, x, r2⟩], ?_, ?_, ?_, ?_⟩
        · rw [List.length_append, List.length_singleton]
          exact hli2.add ndo b0 (by omega) ey.1 ex ey.2
        · rw [List.length_append, List.length_append, List.length_singleton, List.length_singleton]; omega
        · refine hp8.mono ?_
          rw [List.length_append, List.length_singleton]; omega
        · rw [List.map_append]; rfl
      · wp_walk
        refine ⟨p6, ls2, hli2.mono (by rw [List.length_append, List.length_singleton]; omega), ?_, ?_, rfl⟩
        · rw [List.length_append, List.length_singleton]; omega
        · refine hp6.mono ?_
          rw [List.length_append, List.length_singleton]; omega
    · rintro s ⟨p5, ls2, hli2, hll2, hp5, rfl⟩
      have lt : (order.take pre.length).length = pre.length := by rw [List.length_take]; omega
      rw [lt] at hll2 hp5
      wp_walk
      refine ⟨p5, ls2, hli2.mono (by rw [List.length_append, List.length_singleton]; omega), ?_, ?_, rfl⟩
      · rw [List.length_append, List.length_singleton]; omega
      · refine hp5.mono ?_
        rw [List.length_append, List.length_singleton]; omega
  rintro s ⟨p4, ls, hli, hll, hp4, rfl⟩
  rw [List.length_zipIdx] at hli hll hp4
  wp_walk
  have eS : (SV.lst (ls.map lkS)).toD = .list (ls.map lkD) := by wp_walk
  refine wp_shuffled n p4 _ (ls.map lkD) (by wp_walk) (by wp_walk) (by rw [List.length_map]; omega) (hp4.mono (by rw [List.length_map]; omega)) fun es p5 hpe hp5 => ?_
  obtain ⟨ls1, rfl, hpl⟩ := perm_lk hpe
  wp_walk
  rw [show ((24 : Int)) = ((24 : Nat) : Int) from rfl, cut_hi, ← List.map_take]
  have nd1 : ((ls1.take 24).map pk).Nodup := by
    refine List.Nodup.sublist ((List.take_sublist 24 ls1).map pk) ?_
    exact (hpl.map pk).nodup_iff.mpr hli.nd
  obtain ⟨ls', hp', e', asc'⟩ := srt_links _ nd1
  have mem' : ∀ l ∈ ls', l ∈ ls := fun l hl => hpl.mem_iff.mp (List.mem_of_mem_take (hp'.mem_iff.mp hl))
  have l24 : ls'.length ≤ 24 := by rw [hp'.length_eq, List.length_take]; omega
  wp_walk using e'
  refine q _ fs ls' p5 ?_ ?_ rfl ?_ hp5
  · wp_walk
  · wp_walk
  · have hin : ∀ s ∈ order, s ∈ namesF fs := fun s hs => hperm.mem_iff.mp hs
    have w : WebIn fs ls' := by
      refine ⟨⟨fun s hs => pool_wd hpool s hs, ndn, by simpa using (by omega : fs.length ≤ 1000), by omega, fun l hl => ?_⟩, ?_, fun f hf => ⟨(okf f hf).lo, (okf f hf).hi⟩, fun l hl => (hli.at_ l (mem' l hl)).1, sorted_asc srt, asc'⟩
      · obtain ⟨_, _, i, j, c, d, _⟩ := hli.at_ l (mem' l hl)
        exact ⟨hin _ (List.mem_of_getElem? c), hin _ (List.mem_of_getElem? d)⟩
      · intro h
        rw [h] at hlen
        simp at hlen
        omega
    refine ⟨w, fio_whole ndn hperm ?_, (hp'.map pk).nodup_iff.mpr nd1, l24, lf10, okf, fun l hl => (hli.at_ l (mem' l hl)).2.1, pool_short hpool⟩
    intro i s hs l hl hls
    obtain ⟨_, _, i', j', c, d, hij, _⟩ := hli.at_ l (mem' l hl)
    rw [hls] at d
    have := pos_inj ndo d hs
    refine List.mem_of_getElem? (i := i') ?_
    rw [List.getElem?_take, if_pos (by omega)]
    exact c
end K71

namespace K71
open DD
open PySem (PyData Str sizeLine)
theorem wp_course {fs : List Fl} {ls : List Lk} (w : Web fs ls) (n : Nat) (p : Pu) (hp : Pok (n + 10) p) {Q : Res SV → List SV → Prop}
    (q : ∀ (c : Str → Int) p', (∀ f ∈ fs, f.lo ≤ c f.name ∧ c f.name ≤ f.hi) → Pok n p' → Q (.ok (.dct (fs.map fun f => (.inr f.name, .d (.int (c f.name)))))) [pS p', .un]) : wp f_law_drawn_course [pS p, .d (webD fs ls)] Q := by
  have big : (1000 : Nat) < sizeLine := by decide
  have l10 := w.l10
  unfold f_law_drawn_course f_law_drawn_course_b
  wp_walk
  refine wp_compI flD (fun pre acc s => ∃ (c : Str → Int) (p' : Pu), (∀ f ∈ pre, f.lo ≤ c f.name ∧ c f.name ≤ f.hi) ∧ Pok (n + (10 - pre.length)) p' ∧ acc = pre.map (fun f => .tup [.d (.str f.name), .d (.int (c f.name))]) ∧ s = [pS p', .d (webD fs ls), .un, .un, .un, .un])
    (by omega) ⟨fun _ => 0, p, (fun _ h => nomatch h), by simpa using hp, rfl, rfl⟩ ?_ ?_
  · rintro pre x post acc s e ⟨c, p1, hc, hp1, rfl, rfl⟩
    have lp : pre.length < 10 := by rw [e, List.length_append, List.length_cons] at l10; omega
    have hx : x ∈ fs := by rw [e]; simp
    have fx := w.fl x hx
    have a1 := fx.lo
    have a2 := fx.hi
    have a3 := fx.top
    wp_walk
    refine ⟨fun _ => ?_, by simp⟩
    refine wp_draw (n + (9 - pre.length)) p1 _ (by omega) (by omega) (hp1.mono (by omega)) fun r p2 b0 b1 hp2 => ?_
    wp_walk
    have nx : x.name ∉ namesF pre := by
      have nd := w.w.nm.nd
      rw [e] at nd
      unfold namesF at nd ⊢
      rw [List.map_append, List.nodup_append] at nd
      exact fun h => nd.2.2 _ h _ (List.mem_cons_self ..) rfl
    refine ⟨fun s => if s = x.name then x.lo + r else c s, p2, ?_, ?_, ?_, rfl⟩
    · intro f hf
      dsimp only
      rcases List.mem_append.mp hf with hf | hf
      · rw [if_neg (fun h => nx (by rw [← h]; exact List.mem_map.mpr ⟨f, hf, rfl⟩))]
        exact hc f hf
      · rw [List.mem_singleton.mp hf, if_pos rfl]
        omega
    · refine hp2.mono ?_
      rw [List.length_append, List.length_singleton]; omega
    · rw [List.map_append]
      congr 1
      · refine List.map_congr_left fun f hf => ?_
        dsimp only
        rw [if_neg (fun h => nx (by rw [← h]; exact List.mem_map.mpr ⟨f, hf, rfl⟩))]
      · simp
  · rintro acc s ⟨c, p1, hc, hp1, rfl, rfl⟩
    wp_walk using dictD_map (fun f : Fl => f.name) (fun f => .int (c f.name)) fs w.w.nm.nd
    exact q c p1 hc (hp1.mono (by omega))
end K71

namespace K71
open DD
open PySem (PyData Str sizeLine)
theorem web_repr {fs : List Fl} {ls : List Lk} (w : Web fs ls) : reprD [webD fs ls] = some (.d (.str (PyData.shown (webD fs ls)))) := by
  have ok := fun s hs => (w.w.nm.wd s hs).ok
  have h1 : ∀ d ∈ fs.map flD, RB 200 1 d := fun d hd => by
    obtain ⟨f, hf, rfl⟩ := List.mem_map.mp hd
    have a := w.fl f hf
    have a1 := a.lo
    have a2 := a.hi
    have a3 := a.top
    have a4 := a.pl
    have hn : f.name ∈ namesF fs := List.mem_map.mpr ⟨f, hf, rfl⟩
    refine (rb_tup (w := 41) (k := 0) fun x hx => ?_).mono (by simp) (by omega)
    simp only [List.mem_cons, List.not_mem_nil, or_false] at hx
    rcases hx with rfl | rfl | rfl | rfl
    · exact rb_str (ok _ hn) (Nat.le_trans (w.short _ hn) (by decide))
    · exact rb_int (by omega)
    · exact rb_int (by omega)
    · exact rb_int (by omega)
  have h2 : ∀ d ∈ ls.map lkD, RB 200 1 d := fun d hd => by
    obtain ⟨l, hl, rfl⟩ := List.mem_map.mp hd
    have a := w.mn l hl
    have b := w.w.mn l hl
    have e := w.w.nm.ends l hl
    refine (rb_tup (w := 41) (k := 0) fun x hx => ?_).mono (by simp) (by omega)
    simp only [List.mem_cons, List.not_mem_nil, or_false] at hx
    rcases hx with rfl | rfl | rfl
    · exact rb_str (ok _ e.1) (Nat.le_trans (w.short _ e.1) (by decide))
    · exact rb_str (ok _ e.2) (Nat.le_trans (w.short _ e.2) (by decide))
    · exact rb_int (by omega)
  have l1 := w.l10
  have l2 := w.l24
  refine repr_t (w := 3 * (6000 + 1)) (k := 3) ?_ (by decide) (by decide)
  refine (rb_tup (w := 6000) (k := 2) fun x hx => ?_).mono (by simp) (by omega)
  simp only [List.mem_cons, List.not_mem_nil, or_false] at hx
  rcases hx with rfl | rfl | rfl
  · exact (rb_str (w := 3) (by decide +kernel) (by decide +kernel)).mono (by decide) (by decide)
  · exact (rb_list h1).mono (by rw [List.length_map]; omega) (by decide)
  · exact (rb_list h2).mono (by rw [List.length_map]; omega) (by decide)
theorem crs_repr {fs : List Fl} {ls : List Lk} (w : Web fs ls) {ks : List Str} {c : Str → Int} (k : CrsOk fs ks c) : reprD [crsD ks c] = some (.d (.str (PyData.shown (crsD ks c)))) := by
  have ok := fun s hs => (w.w.nm.wd s hs).ok
  have hm : ∀ s ∈ ks, s ∈ namesF fs := fun s hs => k.perm.mem_iff.mp hs
  have lk : ks.length ≤ 10 := by rw [k.perm.length_eq]; simpa using w.l10
  refine repr_d (w := 41) (fun p hp => ?_) (fun p hp => ?_) (by rw [List.length_map]; omega)
  · obtain ⟨s, hs, rfl⟩ := List.mem_map.mp hp
    refine ⟨rb_str (ok _ (hm s hs)) (Nat.le_trans (w.short _ (hm s hs)) (by decide)), rb_int ?_⟩
    obtain ⟨f, hf, rfl⟩ := List.mem_map.mp (hm s hs)
    have a := w.fl f hf
    have a1 := a.lo
    have a3 := a.top
    have b1 := k.lo f hf
    have b2 := k.hi f hf
    omega
  · obtain ⟨s, hs, rfl⟩ := List.mem_map.mp hp
    rfl
theorem wp_purses (ns : List Int) (hl : ns.length ≤ 1000) {Q : Res SV → List SV → Prop} (q : ∀ ps : List Pu, (∀ p ∈ ps, Pok 1000 p) → ps.length ≤ 3 → Q (.ok (.lst (ps.map pS))) [.un, .un]) : wp f_law_purses [.d (.list (ns.map PyData.int)), .d (.int 3)] Q := by
  obtain ⟨ps, h1, h2, e⟩ := e_law_purses ns hl
  exact ⟨_, _, e, q ps (fun p hp => by unfold Pok; rw [h1 p hp]; decide) h2⟩
/-- a course of the web as data -/
theorem crs_of {fs : List Fl} {c : Str → Int} {xs : List Fl} (hp : xs.Perm fs) (h : ∀ f ∈ fs, f.lo ≤ c f.name ∧ c f.name ≤ f.hi) : CrsOk fs (xs.map Fl.name) c := ⟨hp.map Fl.name, fun f hf => (h f hf).1, fun f hf => (h f hf).2⟩
theorem crs_fl (xs : List Fl) (c : Str → Int) (g : Fl → Int) (h : ∀ f ∈ xs, g f = c f.name) : (PyData.dict (xs.map fun f => (PyData.str f.name, PyData.int (g f)))) = crsD (xs.map Fl.name) c := by
  unfold crsD
  rw [List.map_map]
  congr 1
  exact List.map_congr_left fun f hf => by simp [h f hf]
theorem fun_of {fs : List Fl} (nd : (namesF fs).Nodup) (g : Fl → Int) : ∃ c : Str → Int, ∀ f ∈ fs, g f = c f.name := by
  refine ⟨fun s => ((fs.find? fun f => decide (f.name = s)).map g).getD 0, fun f hf => ?_⟩
  cases e : fs.find? fun x => decide (x.name = f.name) with
  | none =>
    exfalso
    have := List.find?_eq_none.mp e f hf
    simp at this
  | some x =>
    have h1 := List.find?_some e
    have h2 := List.mem_of_find?_eq_some e
    have := eq_of_name nd h2 hf (by simpa using h1)
    dsimp only
    rw [e, this]; rfl
end K71

namespace K71
open DD
open PySem (PyData Str sizeLine)
def unF (fs : List Fl) : D → Fl
  | .tuple [.str s, _] => (fs.find? fun f => decide (f.name = s)).getD ⟨"", 0, 0, 0⟩
  | _ => ⟨"", 0, 0, 0⟩
theorem perm_fl {fs : List Fl} (nd : (namesF fs).Nodup) (r : Fl → D) {es : List D} (h : es.Perm (fs.map fun f => PyData.tuple [.str f.name, r f])) : ∃ fs' : List Fl, es = fs'.map (fun f => PyData.tuple [.str f.name, r f]) ∧ fs'.Perm fs := by
  have key : ∀ f ∈ fs, unF fs (.tuple [.str f.name, r f]) = f := fun f hf => by
    show (fs.find? fun x => decide (x.name = f.name)).getD _ = f
    cases e : fs.find? fun x => decide (x.name = f.name) with
    | none =>
      have := List.find?_eq_none.mp e f hf
      simp at this
    | some x => exact eq_of_name nd (List.mem_of_find?_eq_some e) hf (by simpa using List.find?_some e)
  refine ⟨es.map (unF fs), ?_, ?_⟩
  · rw [List.map_map]
    conv => lhs; rw [← List.map_id es]
    refine List.map_congr_left fun d hd => ?_
    obtain ⟨f, hf, rfl⟩ := List.mem_map.mp (h.mem_iff.mp hd)
    show _ = (fun f => PyData.tuple [.str f.name, r f]) (unF fs _)
    rw [key f hf]
    rfl
  · have := h.map (unF fs)
    rw [List.map_map] at this
    refine this.trans ?_
    have e : fs.map (unF fs ∘ fun f => PyData.tuple [.str f.name, r f]) = fs := by
      conv => rhs; rw [← List.map_id fs]
      exact List.map_congr_left fun f hf => key f hf
    rw [e]
theorem wp_law (ns : List Int) (hl : ns.length ≤ 1000) : wp f_law [.d (.list (ns.map PyData.int))] fun r _ => r = .ok (.d (.bool true)) := by
  have big : (1000 : Nat) < sizeLine := by decide
  unfold f_law f_law_b
  wp_walk
  refine wk_forO ?_
  wp_walk
  refine wp_purses ns hl fun ps hps lps => ?_
  wp_walk
  refine wp_forOL pS (fun pre s => s = [.d (.list (ns.map PyData.int)), .un, .un, .un, .un, .un, .un, .un, .un]) rfl ?_ ?_
  · rintro pre p post s e rfl
    have hp : Pok 1000 p := hps p (by rw [e]; simp)
    wp_walk
    refine wp_draw 999 p 10 (by decide) (by decide) hp fun r p1 a0 a1 hp1 => ?_
    wp_walk
    refine ⟨by decide +kernel, ?_⟩
    refine wp_one_of 998 p1 _ [.int 1, .int 9, .int 100000] rfl rfl (by simp) (show 3 < 2 ^ 28 by decide) hp1 fun d p2 hd hp2 => ?_
    obtain ⟨v, hv, rfl⟩ : ∃ v : Int, (1 ≤ v ∧ v ≤ 100000) ∧ d = .int v := by
      simp only [List.mem_cons, List.not_mem_nil, or_false] at hd
      rcases hd with rfl | rfl | rfl
      · exact ⟨1, by decide, rfl⟩
      · exact ⟨9, by decide, rfl⟩
      · exact ⟨100000, by decide, rfl⟩
    wp_walk
    refine wp_one_of 997 p2 _ [.int 60, .int 800000] rfl rfl (by simp) (show 2 < 2 ^ 28 by decide) hp2 fun d p3 hd hp3 => ?_
    obtain ⟨u, hu, rfl⟩ : ∃ v : Int, (1 ≤ v ∧ v ≤ 800000) ∧ d = .int v := by
      simp only [List.mem_cons, List.not_mem_nil, or_false] at hd
      rcases hd with rfl | rfl
      · exact ⟨60, by decide, rfl⟩
      · exact ⟨800000, by decide, rfl⟩
    wp_walk
    refine wp_web 400 p3 (1 + r) v u (by omega) hv hu (hp3.mono (by omega)) fun x fs ls p4 hx hxd _ W hp4 => ?_
    wp_walk using hx, hxd, web_repr W
    refine wp_course W 380 p4 (hp4.mono (by omega)) fun c p5 hc hp5 => ?_
    wp_walk using items_k (fun f : Fl => f.name) (fun f => .int (c f.name))
    have l10 := W.l10
    refine wp_shuffled 360 p5 _ (fs.map fun f => PyData.tuple [.str f.name, .int (c f.name)]) (full_lst _) (toD_lst _) (by rw [List.length_map]; omega) (hp5.mono (by rw [List.length_map]; omega)) fun es p6 hpe hp6 => ?_
    obtain ⟨fs', rfl, hpf⟩ := perm_fl W.w.nm.nd (fun f => .int (c f.name)) hpe
    have nd' : (fs'.map Fl.name).Nodup := (hpf.map Fl.name).nodup_iff.mpr W.w.nm.nd
    wp_walk using dictD_map (fun f : Fl => f.name) (fun f => .int (c f.name)) fs' nd'
    refine wp_compA flD (fun f => .tup [.d (.str f.name), .d (.int f.lo)]) (by omega) (fun f hf => by wp_walk) ?_
    wp_walk using dictD_map (fun f : Fl => f.name) (fun f => .int f.lo) fs W.w.nm.nd
    refine wp_compA flD (fun f => .tup [.d (.str f.name), .d (.int f.hi)]) (by omega) (fun f hf => by wp_walk) ?_
    wp_walk using dictD_map (fun f : Fl => f.name) (fun f => .int f.hi) fs W.w.nm.nd
    obtain ⟨cl, hcl⟩ := fun_of W.w.nm.nd Fl.lo
    obtain ⟨ch, hch⟩ := fun_of W.w.nm.nd Fl.hi
    have k1 : CrsOk fs (fs'.map Fl.name) c := crs_of hpf hc
    have k2 : CrsOk fs (fs.map Fl.name) cl := crs_of (.refl _) fun f hf => by rw [← hcl f hf]; exact ⟨Int.le_refl _, (W.fl f hf).hi⟩
    have k3 : CrsOk fs (fs.map Fl.name) ch := crs_of (.refl _) fun f hf => by rw [← hch f hf]; exact ⟨(W.fl f hf).hi, Int.le_refl _⟩
    have e1 := crs_fl fs' c (fun f => c f.name) (fun _ _ => rfl)
    have e2 := crs_fl fs cl Fl.lo hcl
    have e3 := crs_fl fs ch Fl.hi hch
    rw [e1, e2, e3]
    obtain ⟨cs, hcs⟩ : ∃ cs : List (List Str × (Str → Int)), cs = [(fs'.map Fl.name, c), (fs.map Fl.name, cl), (fs.map Fl.name, ch)] := ⟨_, rfl⟩
    have hk : ∀ x ∈ cs, CrsOk fs x.1 x.2 := fun x hx => by
      rw [hcs] at hx
      simp only [List.mem_cons, List.not_mem_nil, or_false] at hx
      rcases hx with rfl | rfl | rfl
      · exact k1
      · exact k2
      · exact k3
    have lcs : cs.length = 3 := by rw [hcs]; rfl
    rw [show [crsD (fs'.map Fl.name) c, crsD (fs.map Fl.name) cl, crsD (fs.map Fl.name) ch] = cs.map fun x => crsD x.1 x.2 by rw [hcs]; rfl]
    refine wp_forL (fun x : List Str × (Str → Int) => crsD x.1 x.2) (fun pre s => ∃ p', Pok (10 + 10 * (3 - pre.length)) p' ∧ s = [.d (.list (ns.map PyData.int)), pS p', .d (webD fs ls), .d (.str (PyData.shown (webD fs ls))), .d (.list (cs.map fun x => crsD x.1 x.2)), .un, .un, .un, .un]) ⟨p6, hp6.mono (by simp), rfl⟩ ?_ ?_
    · rintro pr ⟨ks, c'⟩ pst s e' ⟨p7, hp7, rfl⟩
      have lp : pr.length < 3 := by rw [e', List.length_append, List.length_cons] at lcs; omega
      have K : CrsOk fs ks c' := hk (ks, c') (by rw [e']; simp)
      obtain ⟨T, order, G⟩ := good_of W.w K W.whole
      wp_walk using crs_repr W K, wp_of_eq (e_told_right G)
      refine wp_turned G (10 + 10 * (2 - pr.length) + 8) p7 (hp7.mono (by omega)) (fun f hf => (W.fl f hf).top) fun p8 hp8 => ?_
      wp_walk
      refine wp_linked G W.nd W.l24 (10 + 10 * (2 - pr.length)) p8 (hp8.mono (by omega)) fun p9 hp9 => ?_
      wp_walk using crs_repr W K
      refine ⟨p9, hp9.mono ?_, rfl⟩
      rw [List.length_append, List.length_singleton]; omega
    · rintro s ⟨p7, hp7, rfl⟩
      wp_walk using web_repr W
  · rintro s rfl
    have e1 : f_web_times [.d (.tuple [.str "web", .list [.tuple [.str "inbound", .int 0, .int 60, .int 90], .tuple [.str "outward", .int 100, .int 120, .int 150], .tuple [.str "shuttle", .int 10, .int 30, .int 100]], .list [.tuple [.str "shuttle", .str "outward", .int 20]]]),
        .dct [(.inr "inbound", .d (.int 90)), (.inr "outward", .d (.int 120)), (.inr "shuttle", .d (.int 100))]] = some (.ok (.lst [.d (.tuple [.str "inbound", .int 0, .int 90]), .d (.tuple [.str "outward", .int 130, .int 250]), .d (.tuple [.str "shuttle", .int 10, .int 110])]), [.un, .un]) := by kernel_rfl
    wp_walk
    refine (wp_of_eq (r := .ok (.dct [(.inr "inbound", .d (.int 90)), (.inr "outward", .d (.int 120)), (.inr "shuttle", .d (.int 100))])) (s := [.d (.list (ns.map PyData.int)), .un, .un, .un, .un, .un, .un, .un, _]) rfl).mpr ?_
    wp_walk using wp_of_eq e1
    refine (wp_of_eq (r := .ok (.d (.bool true))) (s := [.un, .un]) rfl).mpr ?_
    wp_walk
end K71

namespace K71
open DD
theorem plain (ns : List Int) (h : ns.length ≤ 63) : ∃ sl, f_law [.d (.list (ns.map PySem.PyData.int))] = some (.ok (.d (.bool true)), sl) := by
  obtain ⟨r, s, e, hr⟩ := wp_law ns (by omega)
  subst hr
  exact ⟨s, e⟩
end K71

set_option Elab.async false
set_option linter.all false
set_option maxRecDepth 100000
set_option maxHeartbeats 4000000
namespace K71
open PySem PySem.Spec PyProof.Rows L2 DD
def topS (i : Nat) : Stmt := PySem.Challenge.pw_eachdelay_k71_whole_times_of_webs.main.body.getD i (.Pass ⟨0, 0, 0, 0⟩)
theorem hu1 {k : Nat} {A : Around} (hr : Room k A) : A.units + 1 < cLine := by have := hr.units; omega
theorem hu65 {k : Nat} {A : Around} (hr : Room k A) : A.units + 65 < cLine := by have := hr.un; omega
structure Txt (K : PySem.W.Frag) (mg : Str → Option Value) (ad : Str → Addr) (fdn : Str → FuncData) : Prop where
  n_all : mg "all" = none
  n_bool : mg "bool" = none
  n_dict : mg "dict" = none
  n_enumerate : mg "enumerate" = none
  n_int : mg "int" = none
  n_isinstance : mg "isinstance" = none
  n_len : mg "len" = none
  n_list : mg "list" = none
  n_max : mg "max" = none
  n_min : mg "min" = none
  n_range : mg "range" = none
  n_repr : mg "repr" = none
  n_sorted : mg "sorted" = none
  n_str : mg "str" = none
  n_sum : mg "sum" = none
  n_tuple : mg "tuple" = none
  n_zip : mg "zip" = none
  s_is_whole : Fun K "is_whole" "is_whole" (topS 4) (ad "is_whole") (fdn "is_whole")
  m_is_whole : mg "is_whole" = some (.ref (ad "is_whole"))
  s_is_count : FunD K "is_count" "is_count" (defArgs (topS 5)) (defBody (topS 5)) (defScope (topS 5)) [.int 0] [] (ad "is_count") (fdn "is_count")
  m_is_count : mg "is_count" = some (.ref (ad "is_count"))
  s_is_word : Fun K "is_word" "is_word" (topS 6) (ad "is_word") (fdn "is_word")
  m_is_word : mg "is_word" = some (.ref (ad "is_word"))
  s_is_tuple_of : Fun K "is_tuple_of" "is_tuple_of" (topS 7) (ad "is_tuple_of") (fdn "is_tuple_of")
  m_is_tuple_of : mg "is_tuple_of" = some (.ref (ad "is_tuple_of"))
  s_is_said : Fun K "is_said" "is_said" (topS 8) (ad "is_said") (fdn "is_said")
  m_is_said : mg "is_said" = some (.ref (ad "is_said"))
  s_is_web_flight : Fun K "is_web_flight" "is_web_flight" (topS 12) (ad "is_web_flight") (fdn "is_web_flight")
  m_is_web_flight : mg "is_web_flight" = some (.ref (ad "is_web_flight"))
  s_is_web_link : Fun K "is_web_link" "is_web_link" (topS 13) (ad "is_web_link") (fdn "is_web_link")
  m_is_web_link : mg "is_web_link" = some (.ref (ad "is_web_link"))
  s_flights_in_order : Fun K "flights_in_order" "flights_in_order" (topS 14) (ad "flights_in_order") (fdn "flights_in_order")
  m_flights_in_order : mg "flights_in_order" = some (.ref (ad "flights_in_order"))
  s_names_of_web : Fun K "names_of_web" "names_of_web" (topS 15) (ad "names_of_web") (fdn "names_of_web")
  m_names_of_web : mg "names_of_web" = some (.ref (ad "names_of_web"))
  s_is_web : Fun K "is_web" "is_web" (topS 16) (ad "is_web") (fdn "is_web")
  m_is_web : mg "is_web" = some (.ref (ad "is_web"))
  s_check_web : Fun K "check_web" "check_web" (topS 17) (ad "check_web") (fdn "check_web")
  m_check_web : mg "check_web" = some (.ref (ad "check_web"))
  s_is_run_of_web : Fun K "is_run_of_web" "is_run_of_web" (topS 18) (ad "is_run_of_web") (fdn "is_run_of_web")
  m_is_run_of_web : mg "is_run_of_web" = some (.ref (ad "is_run_of_web"))
  s_is_web_course : Fun K "is_web_course" "is_web_course" (topS 19) (ad "is_web_course") (fdn "is_web_course")
  m_is_web_course : mg "is_web_course" = some (.ref (ad "is_web_course"))
  s_web_times_by : Fun K "web_times_by" "web_times_by" (topS 20) (ad "web_times_by") (fdn "web_times_by")
  m_web_times_by : mg "web_times_by" = some (.ref (ad "web_times_by"))
  s_web_times : Fun K "web_times" "web_times" (topS 21) (ad "web_times") (fdn "web_times")
  m_web_times : mg "web_times" = some (.ref (ad "web_times"))
  s__law_purse : Fun K "_law_purse" "_law_purse" (topS 23) (ad "_law_purse") (fdn "_law_purse")
  m__law_purse : mg "_law_purse" = some (.ref (ad "_law_purse"))
  s__law_mixed : Fun K "_law_mixed" "_law_mixed" (topS 24) (ad "_law_mixed") (fdn "_law_mixed")
  m__law_mixed : mg "_law_mixed" = some (.ref (ad "_law_mixed"))
  s__law_draw : Fun K "_law_draw" "_law_draw" (topS 25) (ad "_law_draw") (fdn "_law_draw")
  m__law_draw : mg "_law_draw" = some (.ref (ad "_law_draw"))
  s__law_purses : Fun K "_law_purses" "_law_purses" (topS 26) (ad "_law_purses") (fdn "_law_purses")
  m__law_purses : mg "_law_purses" = some (.ref (ad "_law_purses"))
  s__law_one_of : Fun K "_law_one_of" "_law_one_of" (topS 27) (ad "_law_one_of") (fdn "_law_one_of")
  m__law_one_of : mg "_law_one_of" = some (.ref (ad "_law_one_of"))
  s__law_shuffled : Fun K "_law_shuffled" "_law_shuffled" (topS 28) (ad "_law_shuffled") (fdn "_law_shuffled")
  m__law_shuffled : mg "_law_shuffled" = some (.ref (ad "_law_shuffled"))
  s__law_exact : Fun K "_law_exact" "_law_exact" (topS 29) (ad "_law_exact") (fdn "_law_exact")
  m__law_exact : mg "_law_exact" = some (.ref (ad "_law_exact"))
  s__law_names : Fun K "_law_names" "_law_names" (topS 30) (ad "_law_names") (fdn "_law_names")
  m__law_names : mg "_law_names" = some (.ref (ad "_law_names"))
  s__law_web : Fun K "_law_web" "_law_web" (topS 31) (ad "_law_web") (fdn "_law_web")
  m__law_web : mg "_law_web" = some (.ref (ad "_law_web"))
  s__law_times : Fun K "_law_times" "_law_times" (topS 32) (ad "_law_times") (fdn "_law_times")
  m__law_times : mg "_law_times" = some (.ref (ad "_law_times"))
  s__law_drawn_course : Fun K "_law_drawn_course" "_law_drawn_course" (topS 33) (ad "_law_drawn_course") (fdn "_law_drawn_course")
  m__law_drawn_course : mg "_law_drawn_course" = some (.ref (ad "_law_drawn_course"))
  s__law_told_right : Fun K "_law_told_right" "_law_told_right" (topS 34) (ad "_law_told_right") (fdn "_law_told_right")
  m__law_told_right : mg "_law_told_right" = some (.ref (ad "_law_told_right"))
  s__law_turned_right : Fun K "_law_turned_right" "_law_turned_right" (topS 35) (ad "_law_turned_right") (fdn "_law_turned_right")
  m__law_turned_right : mg "_law_turned_right" = some (.ref (ad "_law_turned_right"))
  s__law_linked_right : Fun K "_law_linked_right" "_law_linked_right" (topS 36) (ad "_law_linked_right") (fdn "_law_linked_right")
  m__law_linked_right : mg "_law_linked_right" = some (.ref (ad "_law_linked_right"))
  s_law : Fun K "law" "law" (topS 37) (ad "law") (fdn "law")
  m_law : mg "law" = some (.ref (ad "law"))
section
variable {P : Program} {w : World} {K : PySem.W.Frag} {mg : Str → Option Value} {base : Heap} {ad : Str → Addr} {fdn : Str → FuncData}
theorem Txt.b_web_times_course_web (T : Txt K mg ad fdn) : ∀ (s : Shared) (ws : List Value), K.In s.heap → (ord2 ws).length = (["web", "course"] : List Str).length → BindsTo s (fdn "web_times") ⟨[], (["course", "web"] : List Str).zip ws⟩ (List.zip ["web", "course"] (ord2 ws)) := fun s ws _ h => by
  obtain ⟨oc, od, kV, doc, pm, an, cdv, ct, osl, e, lk, hcd⟩ := T.s_web_times.ex
  rw [e]
  match ws, h with
  | [_, _], _ => exact BindsTo.of_eq rfl
theorem scf_is_whole : FnScope ["value"] ["value"] (defScope (topS 4)) := ⟨rfl, rfl, rfl, by decide +kernel, rfl, by decide +kernel, by decide +kernel⟩
theorem Txt.kp_is_whole (T : Txt K mg ad fdn) : PySem.W.keepIn K (.ref (ad "is_whole")) = true := T.s_is_whole.kp
theorem Txt.b_is_whole (T : Txt K mg ad fdn) : Binds K (fdn "is_whole") ["value"] [] := T.s_is_whole.binds fun _ _ _ _ _ _ us hl => match us, hl with | [_], _ => rfl
theorem Txt.g_is_whole (T : Txt K mg ad fdn) : FnG P w K mg base 1 (ad "is_whole") (fdn "is_whole") ["value"] (spD mg 1 f_is_whole) :=
  fnD_of (kp := []) (G := f_is_whole_b) T.s_is_whole scf_is_whole rfl rfl rfl fun cdv A outer s H E hr hg => by
  have nd := (scf_is_whole).nd
  exact (dss_one (ds_ret (de_and (de_isi kit_int rfl T.n_isinstance (de_name (pv 0)) rfl T.n_int (by decide +kernel)) (de_one (de_not (de_isi kit_bool rfl T.n_isinstance (de_name (pv 0)) rfl T.n_bool (by decide +kernel)))))))
theorem scf_is_count : FnScope ["value", "least"] ["value", "least"] (defScope (topS 5)) := ⟨rfl, rfl, rfl, by decide +kernel, rfl, by decide +kernel, by decide +kernel⟩
theorem Txt.kp_is_count (T : Txt K mg ad fdn) : PySem.W.keepIn K (.ref (ad "is_count")) = true := T.s_is_count.kp
theorem Txt.b_is_count_d0 (T : Txt K mg ad fdn) : ∃ ds, Vals [] ds ∧ Binds K (fdn "is_count") ["value", "least"] ds := T.s_is_count.binds1 2 1 (by simp) rfl fun _ _ _ _ _ _ _ us its hu hi => match us, its, hu, hi with | [_, _], [_], _, _ => ⟨_, rfl, rfl⟩
theorem Txt.b_is_count_d1 (T : Txt K mg ad fdn) : ∃ ds, Vals [.int 0] ds ∧ Binds K (fdn "is_count") ["value", "least"] ds := T.s_is_count.binds1 1 0 (by simp) rfl fun _ _ _ _ _ _ _ us its hu hi => match us, its, hu, hi with | [_], [_], _, _ => ⟨_, rfl, rfl⟩
theorem Txt.g_is_count (T : Txt K mg ad fdn) : FnG P w K mg base 2 (ad "is_count") (fdn "is_count") ["value", "least"] (spD mg 2 f_is_count) :=
  fnD_ofD (kp := []) (G := f_is_count_b) T.s_is_count scf_is_count rfl rfl rfl fun cdv A outer s H E hr hg => by
  have nd := (scf_is_count).nd
  exact (dss_one (ds_ret (de_and (de_call (T.g_is_whole) hg (hr.mono (by first | decide | omega)) rfl T.m_is_whole T.kp_is_whole T.b_is_whole .nil passesD Dfl.nil (da_cons (de_name (pv 0)) da_nil) (mCons_len mNil_len)) (de_one (de_cmp (op_geDD) (de_name (pv 0)) (de_callB (cd_max rfl) rfl T.n_max (by decide +kernel) (da_cons (de_name (pv 1)) (da_cons de_int da_nil))) (nomark _))))))
theorem scf_is_word : FnScope ["value", "sign"] ["value"] (defScope (topS 6)) := ⟨rfl, rfl, rfl, by decide +kernel, rfl, by decide +kernel, by decide +kernel⟩
theorem Txt.kp_is_word (T : Txt K mg ad fdn) : PySem.W.keepIn K (.ref (ad "is_word")) = true := T.s_is_word.kp
theorem Txt.b_is_word (T : Txt K mg ad fdn) : Binds K (fdn "is_word") ["value"] [] := T.s_is_word.binds fun _ _ _ _ _ _ us hl => match us, hl with | [_], _ => rfl
theorem Txt.g_is_word (T : Txt K mg ad fdn) : FnG P w K mg base 1 (ad "is_word") (fdn "is_word") ["value"] (spD mg 1 f_is_word) :=
  fnD_of (kp := []) (G := f_is_word_b) T.s_is_word scf_is_word rfl rfl rfl fun cdv A outer s H E hr hg => by
  have nd := (scf_is_word).nd
  exact (dss_one (ds_ret (de_and (de_isi kit_str rfl T.n_isinstance (de_name (pv 0)) rfl T.n_str (by decide +kernel)) (de_and (de_chain (op_ltDD2 (hu1 hr)) (op_ltDD2 (hu1 hr)) de_int (de_callB (cd_len) rfl T.n_len (by decide +kernel) (da_cons (de_name (pv 0)) da_nil)) de_int) (de_one (de_callB (cd_all rfl) rfl T.n_all (by decide +kernel) (da_cons (de_comp (own := [("sign", 1)]) rfl nd (di_seq (de_name (pv 0))) (blkOk_by (by change blkC ["value", "sign"] (defScope (topS 6)) _ _ = true; decide +kernel)) (fun _ _ _ _ _ => (dg_name (pg_name (i := 1) nd rfl (by first | exact .inl rfl | exact .inr rfl)) (by change ¬ _ ∈ others 2 [1]; decide))) (fun _ _ _ _ _ => pts_yes) (fun _ _ _ _ _ => (de_chain (op_leDD) (op_leDD) de_str (de_name (pv 1)) de_str)) (by decide) (by change ∀ v ∈ ([1] : List Nat), v < 2; decide)) da_nil)))))))
theorem scf_is_tuple_of : FnScope ["value", "size"] ["value", "size"] (defScope (topS 7)) := ⟨rfl, rfl, rfl, by decide +kernel, rfl, by decide +kernel, by decide +kernel⟩
theorem Txt.kp_is_tuple_of (T : Txt K mg ad fdn) : PySem.W.keepIn K (.ref (ad "is_tuple_of")) = true := T.s_is_tuple_of.kp
theorem Txt.b_is_tuple_of (T : Txt K mg ad fdn) : Binds K (fdn "is_tuple_of") ["value", "size"] [] := T.s_is_tuple_of.binds fun _ _ _ _ _ _ us hl => match us, hl with | [_, _], _ => rfl
theorem Txt.g_is_tuple_of (T : Txt K mg ad fdn) : FnG P w K mg base 1 (ad "is_tuple_of") (fdn "is_tuple_of") ["value", "size"] (spD mg 2 f_is_tuple_of) :=
  fnD_of (kp := []) (G := f_is_tuple_of_b) T.s_is_tuple_of scf_is_tuple_of rfl rfl rfl fun cdv A outer s H E hr hg => by
  have nd := (scf_is_tuple_of).nd
  exact (dss_one (ds_ret (de_and (de_isi kit_tuple rfl T.n_isinstance (de_name (pv 0)) rfl T.n_tuple (by decide +kernel)) (de_one (de_cmp (op_eqDD hr.units) (de_callB (cd_len) rfl T.n_len (by decide +kernel) (da_cons (de_name (pv 0)) da_nil)) (de_name (pv 1)) (nomark _))))))
theorem scf_is_said : FnScope ["value", "word", "size"] ["value", "word", "size"] (defScope (topS 8)) := ⟨rfl, rfl, rfl, by decide +kernel, rfl, by decide +kernel, by decide +kernel⟩
theorem Txt.kp_is_said (T : Txt K mg ad fdn) : PySem.W.keepIn K (.ref (ad "is_said")) = true := T.s_is_said.kp
theorem Txt.b_is_said (T : Txt K mg ad fdn) : Binds K (fdn "is_said") ["value", "word", "size"] [] := T.s_is_said.binds fun _ _ _ _ _ _ us hl => match us, hl with | [_, _, _], _ => rfl
theorem Txt.g_is_said (T : Txt K mg ad fdn) : FnG P w K mg base 2 (ad "is_said") (fdn "is_said") ["value", "word", "size"] (spD mg 3 f_is_said) :=
  fnD_of (kp := []) (G := f_is_said_b) T.s_is_said scf_is_said rfl rfl rfl fun cdv A outer s H E hr hg => by
  have nd := (scf_is_said).nd
  exact (dss_one (ds_ret (de_and (de_call (T.g_is_tuple_of) hg (hr.mono (by first | decide | omega)) rfl T.m_is_tuple_of T.kp_is_tuple_of T.b_is_tuple_of .nil passesD Dfl.nil (da_cons (de_name (pv 0)) (da_cons (de_name (pv 2)) da_nil)) (mCons_len (mCons_len mNil_len))) (de_and (de_isi kit_str rfl T.n_isinstance (de_sub (hu1 hr) (de_name (pv 0)) de_int (fun _ _ => rfl)) rfl T.n_str (by decide +kernel)) (de_one (de_cmp (op_eqDD hr.units) (de_sub (hu1 hr) (de_name (pv 0)) de_int (fun _ _ => rfl)) (de_name (pv 1)) (nomark _)))))))
theorem scf_is_web_flight : FnScope ["value"] ["value"] (defScope (topS 12)) := ⟨rfl, rfl, rfl, by decide +kernel, rfl, by decide +kernel, by decide +kernel⟩
theorem Txt.kp_is_web_flight (T : Txt K mg ad fdn) : PySem.W.keepIn K (.ref (ad "is_web_flight")) = true := T.s_is_web_flight.kp
theorem Txt.b_is_web_flight (T : Txt K mg ad fdn) : Binds K (fdn "is_web_flight") ["value"] [] := T.s_is_web_flight.binds fun _ _ _ _ _ _ us hl => match us, hl with | [_], _ => rfl
theorem Txt.g_is_web_flight (T : Txt K mg ad fdn) : FnG P w K mg base 3 (ad "is_web_flight") (fdn "is_web_flight") ["value"] (spD mg 1 f_is_web_flight) :=
  fnD_of (kp := []) (G := f_is_web_flight_b) T.s_is_web_flight scf_is_web_flight rfl rfl rfl fun cdv A outer s H E hr hg => by
  have nd := (scf_is_web_flight).nd
  exact (dss_cons (ds_if (dt_w (dw_or (dt_not (dt_val (de_call (T.g_is_tuple_of) hg (hr.mono (by first | decide | omega)) rfl T.m_is_tuple_of T.kp_is_tuple_of T.b_is_tuple_of .nil passesD Dfl.nil (da_cons (de_name (pv 0)) (da_cons de_int da_nil)) (mCons_len (mCons_len mNil_len))))) (dw_or (dt_not (dt_val (de_call (T.g_is_word) hg (hr.mono (by first | decide | omega)) rfl T.m_is_word T.kp_is_word T.b_is_word .nil passesD Dfl.nil (da_cons (de_sub (hu1 hr) (de_name (pv 0)) de_int (fun _ _ => rfl)) da_nil) (mCons_len mNil_len)))) (dw_or1 (dt_not (dt_val (de_call (T.g_is_whole) hg (hr.mono (by first | decide | omega)) rfl T.m_is_whole T.kp_is_whole T.b_is_whole .nil passesD Dfl.nil (da_cons (de_sub (hu1 hr) (de_name (pv 0)) de_int (fun _ _ => rfl)) da_nil) (mCons_len mNil_len)))))))) (dss_one (ds_ret de_bool)) dss_nil)
  (dss_one (ds_ret (de_and (de_callX (T.g_is_count) hg (hr.mono (by first | decide | omega)) rfl T.m_is_count T.kp_is_count T.b_is_count_d0 passesD Dfl.nil (da_cons (de_sub (hu1 hr) (de_name (pv 0)) de_int (fun _ _ => rfl)) (da_cons de_int da_nil)) (lenA (mCons_len (mCons_len mNil_len)) rfl)) (de_one (de_callX (T.g_is_count) hg (hr.mono (by first | decide | omega)) rfl T.m_is_count T.kp_is_count T.b_is_count_d0 passesD Dfl.nil (da_cons (de_sub (hu1 hr) (de_name (pv 0)) de_int (fun _ _ => rfl)) (da_cons (de_sub (hu1 hr) (de_name (pv 0)) de_int (fun _ _ => rfl)) da_nil)) (lenA (mCons_len (mCons_len mNil_len)) rfl)))))))
theorem scf_is_web_link : FnScope ["names", "value"] ["names", "value"] (defScope (topS 13)) := ⟨rfl, rfl, rfl, by decide +kernel, rfl, by decide +kernel, by decide +kernel⟩
theorem Txt.kp_is_web_link (T : Txt K mg ad fdn) : PySem.W.keepIn K (.ref (ad "is_web_link")) = true := T.s_is_web_link.kp
theorem Txt.b_is_web_link (T : Txt K mg ad fdn) : Binds K (fdn "is_web_link") ["names", "value"] [] := T.s_is_web_link.binds fun _ _ _ _ _ _ us hl => match us, hl with | [_, _], _ => rfl
theorem Txt.g_is_web_link (T : Txt K mg ad fdn) : FnG P w K mg base 3 (ad "is_web_link") (fdn "is_web_link") ["names", "value"] (spD mg 2 f_is_web_link) :=
  fnD_of (kp := []) (G := f_is_web_link_b) T.s_is_web_link scf_is_web_link rfl rfl rfl fun cdv A outer s H E hr hg => by
  have nd := (scf_is_web_link).nd
  exact (dss_cons (ds_if (dt_w (dw_or (dt_not (dt_val (de_call (T.g_is_tuple_of) hg (hr.mono (by first | decide | omega)) rfl T.m_is_tuple_of T.kp_is_tuple_of T.b_is_tuple_of .nil passesD Dfl.nil (da_cons (de_name (pv 1)) (da_cons de_int da_nil)) (mCons_len (mCons_len mNil_len))))) (dw_or (dt_not (dt_val (de_call (T.g_is_word) hg (hr.mono (by first | decide | omega)) rfl T.m_is_word T.kp_is_word T.b_is_word .nil passesD Dfl.nil (da_cons (de_sub (hu1 hr) (de_name (pv 1)) de_int (fun _ _ => rfl)) da_nil) (mCons_len mNil_len)))) (dw_or (dt_not (dt_val (de_call (T.g_is_word) hg (hr.mono (by first | decide | omega)) rfl T.m_is_word T.kp_is_word T.b_is_word .nil passesD Dfl.nil (da_cons (de_sub (hu1 hr) (de_name (pv 1)) de_int (fun _ _ => rfl)) da_nil) (mCons_len mNil_len)))) (dw_or1 (dt_not (dt_val (de_callX (T.g_is_count) hg (hr.mono (by first | decide | omega)) rfl T.m_is_count T.kp_is_count T.b_is_count_d1 passesD (dfl_int 0) (da_cons (de_sub (hu1 hr) (de_name (pv 1)) de_int (fun _ _ => rfl)) da_nil) (lenA (mCons_len mNil_len) rfl))))))))) (dss_one (ds_ret de_bool)) dss_nil)
  (dss_one (ds_ret (de_and (de_in (hu65 hr) (de_sub (hu1 hr) (de_name (pv 1)) de_int (fun _ _ => rfl)) (de_name (pv 0))) (de_one (de_in (hu65 hr) (de_sub (hu1 hr) (de_name (pv 1)) de_int (fun _ _ => rfl)) (de_name (pv 0))))))))
theorem scf_flights_in_order : FnScope ["names", "links", "found", "turn", "ready", "name", "link"] ["names", "links"] (defScope (topS 14)) := ⟨rfl, rfl, rfl, by decide +kernel, rfl, by decide +kernel, by decide +kernel⟩
theorem Txt.kp_flights_in_order (T : Txt K mg ad fdn) : PySem.W.keepIn K (.ref (ad "flights_in_order")) = true := T.s_flights_in_order.kp
theorem Txt.b_flights_in_order (T : Txt K mg ad fdn) : Binds K (fdn "flights_in_order") ["names", "links"] [] := T.s_flights_in_order.binds fun _ _ _ _ _ _ us hl => match us, hl with | [_, _], _ => rfl
theorem Txt.g_flights_in_order (T : Txt K mg ad fdn) : FnG P w K mg base 1 (ad "flights_in_order") (fdn "flights_in_order") ["names", "links"] (spD mg 2 f_flights_in_order) :=
  fnD_of (kp := []) (G := f_flights_in_order_b) T.s_flights_in_order scf_flights_in_order rfl rfl rfl fun cdv A outer s H E hr hg => by
  have nd := (scf_flights_in_order).nd
  exact (dss_cons (ds_frz [2] (ds_set (i := 2) nd rfl (.inr rfl) (by decide) (de_list da_nil)))
  (dss_cons (ds_for ownD rfl (di_range rfl T.n_range (da_cons (de_callB (cd_len) rfl T.n_len (by decide +kernel) (da_cons (de_name (pv 0)) da_nil)) da_nil)) (dg_name (pg_name (i := 3) nd rfl (by first | exact .inl rfl | exact .inr rfl)) (by decide)) (dss_fgt [3, 4] (dss_cons (ds_frz [4] (ds_setComp (own := [("name", 5)]) (i := 4) rfl nd rfl rfl (sw_true rfl rfl rfl (by decide +kernel)) (by decide) (di_seq (de_name (pv 0))) (blkOk_by (by change blkC ["names", "links", "found", "turn", "ready", "name", "link"] (defScope (topS 14)) _ _ = true; decide +kernel)) (fun _ _ _ _ _ => (dg_name (pg_name (i := 5) nd rfl (by first | exact .inl rfl | exact .inr rfl)) (by change ¬ _ ∈ others 7 [5]; decide))) (fun _ _ _ _ _ => (pts_one (dt_notIn (hu65 hr) (de_name (pv 5)) (de_name (pv 2))))) (fun _ _ _ _ _ => (de_name (pv 5))) (by decide) (by change ∀ v ∈ ([5] : List Nat), v < 7; decide)))
  (dss_cons (ds_frz [4] (ds_setComp (own := [("name", 5)]) (i := 4) rfl nd rfl rfl (sw_true rfl rfl rfl (by decide +kernel)) (by decide) (di_seq (de_name (pv 4))) (blkOk_by (by change blkC ["names", "links", "found", "turn", "ready", "name", "link"] (defScope (topS 14)) _ _ = true; decide +kernel)) (fun _ _ _ _ _ => (dg_name (pg_name (i := 5) nd rfl (by first | exact .inl rfl | exact .inr rfl)) (by change ¬ _ ∈ others 7 [5]; decide))) (fun _ _ _ _ _ => (pts_one (dt_val (de_callB (cd_all rfl) rfl T.n_all (by decide +kernel) (da_cons (de_comp (own := [("link", 6)]) rfl nd (di_seq (de_name (pv 1))) (blkOk_by (by kernel_rfl)) (fun _ _ _ _ _ => (dg_name (pg_name (i := 6) nd rfl (by first | exact .inl rfl | exact .inr rfl)) (by change ¬ _ ∈ others 7 [6]; decide))) (fun _ _ _ _ _ => (pts_one (dt_cmp (op_eqDD hr.units) (de_sub (hu1 hr) (de_name (pv 6)) de_int (fun _ _ => rfl)) (de_name (pv 5)) (nomark _)))) (fun _ _ _ _ _ => (de_in (hu65 hr) (de_sub (hu1 hr) (de_name (pv 6)) de_int (fun _ _ => rfl)) (de_name (pv 2)))) (by decide) (by change ∀ v ∈ ([6] : List Nat), v < 7; decide)) da_nil))))) (fun _ _ _ _ _ => (de_name (pv 5))) (by decide) (by change ∀ v ∈ ([5] : List Nat), v < 7; decide)))
  (dss_one (ds_frz [2] (ds_set (i := 2) nd rfl (.inr rfl) (by decide) (de_op op_addD (de_name (pv 2)) (de_name (pv 4))))))))))
  (dss_one (ds_ret (de_ifExp (dt_cmp (op_eqDD hr.units) (de_callB (cd_len) rfl T.n_len (by decide +kernel) (da_cons (de_name (pv 2)) da_nil)) (de_callB (cd_len) rfl T.n_len (by decide +kernel) (da_cons (de_name (pv 0)) da_nil)) (nomark _)) (de_name (pv 2)) de_none)))))
theorem scf_names_of_web : FnScope ["web", "flight"] ["web"] (defScope (topS 15)) := ⟨rfl, rfl, rfl, by decide +kernel, rfl, by decide +kernel, by decide +kernel⟩
theorem Txt.kp_names_of_web (T : Txt K mg ad fdn) : PySem.W.keepIn K (.ref (ad "names_of_web")) = true := T.s_names_of_web.kp
theorem Txt.b_names_of_web (T : Txt K mg ad fdn) : Binds K (fdn "names_of_web") ["web"] [] := T.s_names_of_web.binds fun _ _ _ _ _ _ us hl => match us, hl with | [_], _ => rfl
theorem Txt.g_names_of_web (T : Txt K mg ad fdn) : FnG P w K mg base 1 (ad "names_of_web") (fdn "names_of_web") ["web"] (spD mg 1 f_names_of_web) :=
  fnD_of (kp := []) (G := f_names_of_web_b) T.s_names_of_web scf_names_of_web rfl rfl rfl fun cdv A outer s H E hr hg => by
  have nd := (scf_names_of_web).nd
  exact (dss_one (ds_ret (de_comp (own := [("flight", 1)]) rfl nd (di_seq (de_sub (hu1 hr) (de_name (pv 0)) de_int (fun _ _ => rfl))) (blkOk_by (by change blkC ["web", "flight"] (defScope (topS 15)) _ _ = true; decide +kernel)) (fun _ _ _ _ _ => (dg_name (pg_name (i := 1) nd rfl (by first | exact .inl rfl | exact .inr rfl)) (by change ¬ _ ∈ others 2 [1]; decide))) (fun _ _ _ _ _ => pts_yes) (fun _ _ _ _ _ => (de_sub (hu1 hr) (de_name (pv 1)) de_int (fun _ _ => rfl))) (by decide) (by change ∀ v ∈ ([1] : List Nat), v < 2; decide))))
theorem scf_is_web : FnScope ["value", "flight", "names", "links", "at", "link"] ["value"] (defScope (topS 16)) := ⟨rfl, rfl, rfl, by decide +kernel, rfl, by decide +kernel, by decide +kernel⟩
theorem Txt.kp_is_web (T : Txt K mg ad fdn) : PySem.W.keepIn K (.ref (ad "is_web")) = true := T.s_is_web.kp
theorem Txt.b_is_web (T : Txt K mg ad fdn) : Binds K (fdn "is_web") ["value"] [] := T.s_is_web.binds fun _ _ _ _ _ _ us hl => match us, hl with | [_], _ => rfl
theorem Txt.g_is_web (T : Txt K mg ad fdn) : FnG P w K mg base 4 (ad "is_web") (fdn "is_web") ["value"] (spD mg 1 f_is_web) :=
  fnD_of (kp := []) (G := f_is_web_b) T.s_is_web scf_is_web rfl rfl rfl fun cdv A outer s H E hr hg => by
  have nd := (scf_is_web).nd
  exact (dss_cons (ds_if (dt_w (dw_or (dt_not (dt_val (de_call (T.g_is_said) hg (hr.mono (by first | decide | omega)) rfl T.m_is_said T.kp_is_said T.b_is_said .nil passesD Dfl.nil (da_cons (de_name (pv 0)) (da_cons de_str (da_cons de_int da_nil))) (mCons_len (mCons_len (mCons_len mNil_len)))))) (dw_or (dt_not (dt_val (de_isi kit_list rfl T.n_isinstance (de_sub (hu1 hr) (de_name (pv 0)) de_int (fun _ _ => rfl)) rfl T.n_list (by decide +kernel)))) (dw_or1 (dt_not (dt_val (de_isi kit_list rfl T.n_isinstance (de_sub (hu1 hr) (de_name (pv 0)) de_int (fun _ _ => rfl)) rfl T.n_list (by decide +kernel)))))))) (dss_one (ds_ret de_bool)) dss_nil)
  (dss_cons (ds_if (dt_w (dw_or (dt_cmp (op_eqDD hr.units) (de_callB (cd_len) rfl T.n_len (by decide +kernel) (da_cons (de_sub (hu1 hr) (de_name (pv 0)) de_int (fun _ _ => rfl)) da_nil)) de_int (nomark _)) (dw_or1 (dt_not (dt_val (de_callB (cd_all rfl) rfl T.n_all (by decide +kernel) (da_cons (de_comp (own := [("flight", 1)]) rfl nd (di_seq (de_sub (hu1 hr) (de_name (pv 0)) de_int (fun _ _ => rfl))) (blkOk_by (by change blkC ["value", "flight", "names", "links", "at", "link"] (defScope (topS 16)) _ _ = true; decide +kernel)) (fun _ _ _ _ _ => (dg_name (pg_name (i := 1) nd rfl (by first | exact .inl rfl | exact .inr rfl)) (by change ¬ _ ∈ others 6 [1]; decide))) (fun _ _ _ _ _ => pts_yes) (fun _ _ _ _ _ => (de_call (T.g_is_web_flight) hg (hr.mono (by first | decide | omega)) rfl T.m_is_web_flight T.kp_is_web_flight T.b_is_web_flight .nil passL Dfl.nil (da_cons (de_name (pv 1)) da_nil) (mCons_len mNil_len))) (by decide) (by change ∀ v ∈ ([1] : List Nat), v < 6; decide)) da_nil))))))) (dss_one (ds_ret de_bool)) dss_nil)
  (dss_cons (ds_frz [2, 3] (ds_asg (de_tuple (da_cons (de_call (T.g_names_of_web) hg (hr.mono (by first | decide | omega)) rfl T.m_names_of_web T.kp_names_of_web T.b_names_of_web .nil passesD Dfl.nil (da_cons (de_name (pv 0)) da_nil) (mCons_len mNil_len)) (da_cons (de_sub (hu1 hr) (de_name (pv 0)) de_int (fun _ _ => rfl)) da_nil))) (dg_tup rfl (dgs_cons (dg_name (pg_name (i := 2) nd rfl (by first | exact .inl rfl | exact .inr rfl)) (by decide)) (dgs_cons (dg_name (pg_name (i := 3) nd rfl (by first | exact .inl rfl | exact .inr rfl)) (by decide)) dgs_nil)))))
  (dss_cons (ds_if (dt_not (dt_val (de_callB (cd_all rfl) rfl T.n_all (by decide +kernel) (da_cons (de_comp (own := [("at", 4)]) rfl nd (di_range2 rfl T.n_range (da_cons de_int (da_cons (de_callB (cd_len) rfl T.n_len (by decide +kernel) (da_cons (de_name (pv 2)) da_nil)) da_nil))) (blkOk_by (by change blkC ["value", "flight", "names", "links", "at", "link"] (defScope (topS 16)) _ _ = true; decide +kernel)) (fun _ _ _ _ _ => (dg_name (pg_name (i := 4) nd rfl (by first | exact .inl rfl | exact .inr rfl)) (by change ¬ _ ∈ others 6 [4]; decide))) (fun _ _ _ _ _ => pts_yes) (fun _ _ _ _ _ => (de_cmp (op_ltDD2 (hu1 hr)) (de_sub (hu1 hr) (de_name (pv 2)) (de_op op_subD (de_name (pv 4)) de_int) (fun _ _ => rfl)) (de_sub (hu1 hr) (de_name (pv 2)) (de_name (pv 4)) (fun _ _ => rfl)) (nomark _))) (by decide) (by change ∀ v ∈ ([4] : List Nat), v < 6; decide)) da_nil)))) (dss_one (ds_ret de_bool)) dss_nil)
  (dss_cons (ds_if (dt_not (dt_val (de_callB (cd_all rfl) rfl T.n_all (by decide +kernel) (da_cons (de_comp (own := [("link", 5)]) rfl nd (di_seq (de_name (pv 3))) (blkOk_by (by change blkC ["value", "flight", "names", "links", "at", "link"] (defScope (topS 16)) _ _ = true; decide +kernel)) (fun _ _ _ _ _ => (dg_name (pg_name (i := 5) nd rfl (by first | exact .inl rfl | exact .inr rfl)) (by change ¬ _ ∈ others 6 [5]; decide))) (fun _ _ _ _ _ => pts_yes) (fun _ _ _ _ _ => (de_call (T.g_is_web_link) hg (hr.mono (by first | decide | omega)) rfl T.m_is_web_link T.kp_is_web_link T.b_is_web_link .nil passL Dfl.nil (da_cons (de_name (pv 2)) (da_cons (de_name (pv 5)) da_nil)) (mCons_len (mCons_len mNil_len)))) (by decide) (by change ∀ v ∈ ([5] : List Nat), v < 6; decide)) da_nil)))) (dss_one (ds_ret de_bool)) dss_nil)
  (dss_cons (ds_if (dt_not (dt_val (de_callB (cd_all rfl) rfl T.n_all (by decide +kernel) (da_cons (de_comp (own := [("at", 4)]) rfl nd (di_range2 rfl T.n_range (da_cons de_int (da_cons (de_callB (cd_len) rfl T.n_len (by decide +kernel) (da_cons (de_name (pv 3)) da_nil)) da_nil))) (blkOk_by (by change blkC ["value", "flight", "names", "links", "at", "link"] (defScope (topS 16)) _ _ = true; decide +kernel)) (fun _ _ _ _ _ => (dg_name (pg_name (i := 4) nd rfl (by first | exact .inl rfl | exact .inr rfl)) (by change ¬ _ ∈ others 6 [4]; decide))) (fun _ _ _ _ _ => pts_yes) (fun _ _ _ _ _ => (de_cmp (op_ltDD2 (hu1 hr)) (de_slice (de_sub (hu1 hr) (de_name (pv 3)) (de_op op_subD (de_name (pv 4)) de_int) (fun _ _ => rfl)) dp_none (dp_some de_int)) (de_slice (de_sub (hu1 hr) (de_name (pv 3)) (de_name (pv 4)) (fun _ _ => rfl)) dp_none (dp_some de_int)) (nomark _))) (by decide) (by change ∀ v ∈ ([4] : List Nat), v < 6; decide)) da_nil)))) (dss_one (ds_ret de_bool)) dss_nil)
  (dss_one (ds_ret (de_cmp (op_isNotDD) (de_call (T.g_flights_in_order) hg (hr.mono (by first | decide | omega)) rfl T.m_flights_in_order T.kp_flights_in_order T.b_flights_in_order .nil passesD Dfl.nil (da_cons (de_name (pv 2)) (da_cons (de_name (pv 3)) da_nil)) (mCons_len (mCons_len mNil_len))) de_none (nomark _))))))))))
theorem scf_check_web : FnScope ["value"] ["value"] (defScope (topS 17)) := ⟨rfl, rfl, rfl, by decide +kernel, rfl, by decide +kernel, by decide +kernel⟩
theorem Txt.kp_check_web (T : Txt K mg ad fdn) : PySem.W.keepIn K (.ref (ad "check_web")) = true := T.s_check_web.kp
theorem Txt.b_check_web (T : Txt K mg ad fdn) : Binds K (fdn "check_web") ["value"] [] := T.s_check_web.binds fun _ _ _ _ _ _ us hl => match us, hl with | [_], _ => rfl
theorem Txt.g_check_web (T : Txt K mg ad fdn) : FnG P w K mg base 5 (ad "check_web") (fdn "check_web") ["value"] (spD mg 1 f_check_web) :=
  fnD_of (kp := []) (G := f_check_web_b) T.s_check_web scf_check_web rfl rfl rfl fun cdv A outer s H E hr hg => by
  have nd := (scf_check_web).nd
  exact (dss_one (ds_if (dt_not (dt_val (de_call (T.g_is_web) hg (hr.mono (by first | decide | omega)) rfl T.m_is_web T.kp_is_web T.b_is_web .nil passesD Dfl.nil (da_cons (de_name (pv 0)) da_nil) (mCons_len mNil_len)))) (dss_one ds_fail) dss_nil))
theorem scf_is_run_of_web : FnScope ["web", "value", "name", "planned", "low", "high"] ["web", "value"] (defScope (topS 18)) := ⟨rfl, rfl, rfl, by decide +kernel, rfl, by decide +kernel, by decide +kernel⟩
theorem Txt.kp_is_run_of_web (T : Txt K mg ad fdn) : PySem.W.keepIn K (.ref (ad "is_run_of_web")) = true := T.s_is_run_of_web.kp
theorem Txt.b_is_run_of_web (T : Txt K mg ad fdn) : Binds K (fdn "is_run_of_web") ["web", "value"] [] := T.s_is_run_of_web.binds fun _ _ _ _ _ _ us hl => match us, hl with | [_, _], _ => rfl
theorem Txt.g_is_run_of_web (T : Txt K mg ad fdn) : FnG P w K mg base 3 (ad "is_run_of_web") (fdn "is_run_of_web") ["web", "value"] (spD mg 2 f_is_run_of_web) :=
  fnD_of (kp := []) (G := f_is_run_of_web_b) T.s_is_run_of_web scf_is_run_of_web rfl rfl rfl fun cdv A outer s H E hr hg => by
  have nd := (scf_is_run_of_web).nd
  exact (dss_cons (ds_if (dt_w (dw_or (dt_not (dt_val (de_isi kit_dict rfl T.n_isinstance (de_name (pv 1)) rfl T.n_dict (by decide +kernel)))) (dw_or1 (dt_cmp (op_neDD hr.units) (de_callB (cd_len) rfl T.n_len (by decide +kernel) (da_cons (de_name (pv 1)) da_nil)) (de_callB (cd_len) rfl T.n_len (by decide +kernel) (da_cons (de_sub (hu1 hr) (de_name (pv 0)) de_int (fun _ _ => rfl)) da_nil)) (nomark _))))) (dss_one (ds_ret de_bool)) dss_nil)
  (dss_cons (ds_for ownD rfl (di_seq (de_sub (hu1 hr) (de_name (pv 0)) de_int (fun _ _ => rfl))) (dg_tup rfl (dgs_cons (dg_name (pg_name (i := 2) nd rfl (by first | exact .inl rfl | exact .inr rfl)) (by decide)) (dgs_cons (dg_name (pg_name (i := 3) nd rfl (by first | exact .inl rfl | exact .inr rfl)) (by decide)) (dgs_cons (dg_name (pg_name (i := 4) nd rfl (by first | exact .inl rfl | exact .inr rfl)) (by decide)) (dgs_cons (dg_name (pg_name (i := 5) nd rfl (by first | exact .inl rfl | exact .inr rfl)) (by decide)) dgs_nil))))) (dss_fgt [2, 3, 4, 5] (dss_one (ds_if (dt_w (dw_or (dt_notIn (hu65 hr) (de_name (pv 2)) (de_name (pv 1))) (dw_or (dt_not (dt_val (de_callX (T.g_is_count) hg (hr.mono (by first | decide | omega)) rfl T.m_is_count T.kp_is_count T.b_is_count_d0 passesD Dfl.nil (da_cons (de_sub (hu1 hr) (de_name (pv 1)) (de_name (pv 2)) (fun _ _ => rfl)) (da_cons (de_name (pv 4)) da_nil)) (lenA (mCons_len (mCons_len mNil_len)) rfl)))) (dw_or1 (dt_cmp (op_gtDD) (de_sub (hu1 hr) (de_name (pv 1)) (de_name (pv 2)) (fun _ _ => rfl)) (de_name (pv 5)) (nomark _)))))) (dss_one (ds_ret de_bool)) dss_nil))))
  (dss_one (ds_ret de_bool))))
theorem scf_is_web_course : FnScope ["web", "value"] ["web", "value"] (defScope (topS 19)) := ⟨rfl, rfl, rfl, by decide +kernel, rfl, by decide +kernel, by decide +kernel⟩
theorem Txt.kp_is_web_course (T : Txt K mg ad fdn) : PySem.W.keepIn K (.ref (ad "is_web_course")) = true := T.s_is_web_course.kp
theorem Txt.b_is_web_course (T : Txt K mg ad fdn) : Binds K (fdn "is_web_course") ["web", "value"] [] := T.s_is_web_course.binds fun _ _ _ _ _ _ us hl => match us, hl with | [_, _], _ => rfl
theorem Txt.g_is_web_course (T : Txt K mg ad fdn) : FnG P w K mg base 6 (ad "is_web_course") (fdn "is_web_course") ["web", "value"] (spD mg 2 f_is_web_course) :=
  fnD_of (kp := []) (G := f_is_web_course_b) T.s_is_web_course scf_is_web_course rfl rfl rfl fun cdv A outer s H E hr hg => by
  have nd := (scf_is_web_course).nd
  exact (dss_cons (ds_expr (de_call (T.g_check_web) hg (hr.mono (by first | decide | omega)) rfl T.m_check_web T.kp_check_web T.b_check_web .nil passesD Dfl.nil (da_cons (de_name (pv 0)) da_nil) (mCons_len mNil_len)))
  (dss_one (ds_ret (de_call (T.g_is_run_of_web) hg (hr.mono (by first | decide | omega)) rfl T.m_is_run_of_web T.kp_is_run_of_web T.b_is_run_of_web .nil passesD Dfl.nil (da_cons (de_name (pv 0)) (da_cons (de_name (pv 1)) da_nil)) (mCons_len (mCons_len mNil_len))))))
theorem scf_web_times_by : FnScope ["web", "course", "found", "planned", "flight", "name", "waits", "one", "other", "many", "goes"] ["web", "course"] (defScope (topS 20)) := ⟨rfl, rfl, rfl, by decide +kernel, rfl, by decide +kernel, by decide +kernel⟩
theorem Txt.kp_web_times_by (T : Txt K mg ad fdn) : PySem.W.keepIn K (.ref (ad "web_times_by")) = true := T.s_web_times_by.kp
theorem Txt.b_web_times_by (T : Txt K mg ad fdn) : Binds K (fdn "web_times_by") ["web", "course"] [] := T.s_web_times_by.binds fun _ _ _ _ _ _ us hl => match us, hl with | [_, _], _ => rfl
theorem Txt.g_web_times_by (T : Txt K mg ad fdn) : FnG P w K mg base 2 (ad "web_times_by") (fdn "web_times_by") ["web", "course"] (spD mg 2 f_web_times_by) :=
  fnD_of (kp := []) (G := f_web_times_by_b) T.s_web_times_by scf_web_times_by rfl rfl rfl fun cdv A outer s H E hr hg => by
  have nd := (scf_web_times_by).nd
  exact (dss_cons (ds_frz [3] (ds_asg (de_tuple (da_cons de_dictNew (da_cons (de_dcomp (own := [("flight", 4)]) rfl nd (di_seq (de_sub (hu1 hr) (de_name (pv 0)) de_int (fun _ _ => rfl))) (blkOk_by (by change blkC ["web", "course", "found", "planned", "flight", "name", "waits", "one", "other", "many", "goes"] (defScope (topS 20)) _ _ = true; decide +kernel)) (fun _ _ _ _ _ => (dg_name (pg_name (i := 4) nd rfl (by first | exact .inl rfl | exact .inr rfl)) (by change ¬ _ ∈ others 11 [4]; decide))) (fun _ _ _ _ _ => pts_yes) (fun _ _ _ _ _ => (de_sub (hu1 hr) (de_name (pv 4)) de_int (fun _ _ => rfl))) (fun _ _ _ _ _ => (de_sub (hu1 hr) (de_name (pv 4)) de_int (fun _ _ => rfl))) (by decide) (by change ∀ v ∈ ([4] : List Nat), v < 11; decide)) da_nil))) (dg_tup rfl (dgs_cons (dg_name (pg_name (i := 2) nd rfl (by first | exact .inl rfl | exact .inr rfl)) (by decide)) (dgs_cons (dg_name (pg_name (i := 3) nd rfl (by first | exact .inl rfl | exact .inr rfl)) (by decide)) dgs_nil)))))
  (dss_cons (ds_for ownD rfl (di_seq (de_call (T.g_flights_in_order) hg (hr.mono (by first | decide | omega)) rfl T.m_flights_in_order T.kp_flights_in_order T.b_flights_in_order .nil passesD Dfl.nil (da_cons (de_call (T.g_names_of_web) hg (hr.mono (by first | decide | omega)) rfl T.m_names_of_web T.kp_names_of_web T.b_names_of_web .nil passesD Dfl.nil (da_cons (de_name (pv 0)) da_nil) (mCons_len mNil_len)) (da_cons (de_sub (hu1 hr) (de_name (pv 0)) de_int (fun _ _ => rfl)) da_nil)) (mCons_len (mCons_len mNil_len)))) (dg_name (pg_name (i := 5) nd rfl (by first | exact .inl rfl | exact .inr rfl)) (by decide)) (dss_fgt [5, 6, 10] (dss_cons (ds_frz [6] (ds_setComp (own := [("one", 7), ("other", 8), ("many", 9)]) (i := 6) rfl nd rfl rfl (sw_true rfl rfl rfl (by decide +kernel)) (by decide) (di_seq (de_sub (hu1 hr) (de_name (pv 0)) de_int (fun _ _ => rfl))) (blkOk_by (by change blkC ["web", "course", "found", "planned", "flight", "name", "waits", "one", "other", "many", "goes"] (defScope (topS 20)) _ _ = true; decide +kernel)) (fun _ _ _ _ _ => (dg_tup rfl (dgs_cons (dg_name (pg_name (i := 7) nd rfl (by first | exact .inl rfl | exact .inr rfl)) (by change ¬ _ ∈ others 11 [7, 8, 9]; decide)) (dgs_cons (dg_name (pg_name (i := 8) nd rfl (by first | exact .inl rfl | exact .inr rfl)) (by change ¬ _ ∈ others 11 [7, 8, 9]; decide)) (dgs_cons (dg_name (pg_name (i := 9) nd rfl (by first | exact .inl rfl | exact .inr rfl)) (by change ¬ _ ∈ others 11 [7, 8, 9]; decide)) dgs_nil))))) (fun _ _ _ _ _ => (pts_one (dt_cmp (op_eqDD hr.units) (de_name (pv 8)) (de_name (pv 5)) (nomark _)))) (fun _ _ _ _ _ => (de_pure (de_op op_addD (de_sub (hu1 hr) (de_sub (hu1 hr) (de_name (pv 2)) (de_name (pv 7)) (fun _ _ => rfl)) de_int (fun _ _ => rfl)) (de_name (pv 9))))) (by decide) (by change ∀ v ∈ ([7, 8, 9] : List Nat), v < 11; decide)))
  (dss_cons (ds_set (i := 10) nd rfl (.inl rfl) (by decide) (de_callB (cd_max rfl) rfl T.n_max (by decide +kernel) (da_cons (de_op op_addD (de_list (da_cons (de_sub (hu1 hr) (de_name (pv 3)) (de_name (pv 5)) (fun _ _ => rfl)) da_nil)) (de_name (pv 6))) da_nil)))
  (dss_one (ds_setItem (hu1 hr) (pv 2) (de_name (pv 5)) (de_tuple (da_cons (de_name (pv 10)) (da_cons (de_op op_addD (de_name (pv 10)) (de_sub (hu1 hr) (de_name (pv 1)) (de_name (pv 5)) (fun _ _ => rfl))) da_nil)))))))))
  (dss_one (ds_ret (de_move (pv 2))))))
theorem scf_web_times : FnScope ["web", "course", "times", "name"] ["web", "course"] (defScope (topS 21)) := ⟨rfl, rfl, rfl, by decide +kernel, rfl, by decide +kernel, by decide +kernel⟩
theorem Txt.kp_web_times (T : Txt K mg ad fdn) : PySem.W.keepIn K (.ref (ad "web_times")) = true := T.s_web_times.kp
theorem Txt.b_web_times (T : Txt K mg ad fdn) : Binds K (fdn "web_times") ["web", "course"] [] := T.s_web_times.binds fun _ _ _ _ _ _ us hl => match us, hl with | [_, _], _ => rfl
theorem Txt.g_web_times (T : Txt K mg ad fdn) : FnG P w K mg base 6 (ad "web_times") (fdn "web_times") ["web", "course"] (spD mg 2 f_web_times) :=
  fnD_of (kp := []) (G := f_web_times_b) T.s_web_times scf_web_times rfl rfl rfl fun cdv A outer s H E hr hg => by
  have nd := (scf_web_times).nd
  exact (dss_cons (ds_expr (de_call (T.g_check_web) hg (hr.mono (by first | decide | omega)) rfl T.m_check_web T.kp_check_web T.b_check_web .nil passesD Dfl.nil (da_cons (de_name (pv 0)) da_nil) (mCons_len mNil_len)))
  (dss_cons (ds_if (dt_not (dt_val (de_call (T.g_is_run_of_web) hg (hr.mono (by first | decide | omega)) rfl T.m_is_run_of_web T.kp_is_run_of_web T.b_is_run_of_web .nil passesD Dfl.nil (da_cons (de_name (pv 0)) (da_cons (de_name (pv 1)) da_nil)) (mCons_len (mCons_len mNil_len))))) (dss_one ds_fail) dss_nil)
  (dss_cons (ds_frz [2] (ds_set (i := 2) nd rfl (.inr rfl) (by decide) (de_call (T.g_web_times_by) hg (hr.mono (by first | decide | omega)) rfl T.m_web_times_by T.kp_web_times_by T.b_web_times_by .nil passesD Dfl.nil (da_cons (de_name (pv 0)) (da_cons (de_name (pv 1)) da_nil)) (mCons_len (mCons_len mNil_len)))))
  (dss_one (ds_ret (de_comp (own := [("name", 3)]) rfl nd (di_seq (de_call (T.g_names_of_web) hg (hr.mono (by first | decide | omega)) rfl T.m_names_of_web T.kp_names_of_web T.b_names_of_web .nil passesD Dfl.nil (da_cons (de_name (pv 0)) da_nil) (mCons_len mNil_len))) (blkOk_by (by change blkC ["web", "course", "times", "name"] (defScope (topS 21)) _ _ = true; decide +kernel)) (fun _ _ _ _ _ => (dg_name (pg_name (i := 3) nd rfl (by first | exact .inl rfl | exact .inr rfl)) (by change ¬ _ ∈ others 4 [3]; decide))) (fun _ _ _ _ _ => pts_yes) (fun _ _ _ _ _ => (de_op op_addD (de_tuple (da_cons (de_name (pv 3)) da_nil)) (de_sub (hu1 hr) (de_name (pv 2)) (de_name (pv 3)) (fun _ _ => rfl)))) (by decide) (by change ∀ v ∈ ([3] : List Nat), v < 4; decide)))))))
theorem scf_law_purse : FnScope ["script", "at", "seed"] ["script", "at"] (defScope (topS 23)) := ⟨rfl, rfl, rfl, by decide +kernel, rfl, by decide +kernel, by decide +kernel⟩
theorem Txt.kp__law_purse (T : Txt K mg ad fdn) : PySem.W.keepIn K (.ref (ad "_law_purse")) = true := T.s__law_purse.kp
theorem Txt.b__law_purse (T : Txt K mg ad fdn) : Binds K (fdn "_law_purse") ["script", "at"] [] := T.s__law_purse.binds fun _ _ _ _ _ _ us hl => match us, hl with | [_, _], _ => rfl
theorem Txt.g__law_purse (T : Txt K mg ad fdn) : FnG P w K mg base 1 (ad "_law_purse") (fdn "_law_purse") ["script", "at"] (spD mg 2 f_law_purse) :=
  fnD_of (kp := []) (G := f_law_purse_b) T.s__law_purse scf_law_purse rfl rfl rfl fun cdv A outer s H E hr hg => by
  have nd := (scf_law_purse).nd
  exact (dss_cons (ds_set (i := 2) nd rfl (.inl rfl) (by decide) (de_callB (cd_sum rfl) rfl T.n_sum (by decide +kernel) (da_cons (de_slice (de_name (pv 0)) (dp_some (de_name (pv 1))) (dp_some (de_op op_addD (de_name (pv 1)) de_int))) da_nil)))
  (dss_one (ds_ret (de_list (da_cons (de_op op_modD (de_callTy (cd_int) rfl T.n_int (by decide +kernel) (da_cons (de_callB (cd_max rfl) rfl T.n_max (by decide +kernel) (da_cons (de_op op_subD (de_name (pv 2)) (de_op op_powD de_int de_int)) (da_cons de_int da_nil))) da_nil)) (de_op op_powD (de_op op_powD de_int de_int) de_int)) (da_cons (de_op op_modD (de_callTy (cd_int) rfl T.n_int (by decide +kernel) (da_cons (de_name (pv 2)) da_nil)) de_int) (da_cons de_int (da_cons (de_name (pv 1)) da_nil))))))))
theorem scf_law_mixed : FnScope ["seed", "spin", "at", "mixed"] ["seed", "spin", "at"] (defScope (topS 24)) := ⟨rfl, rfl, rfl, by decide +kernel, rfl, by decide +kernel, by decide +kernel⟩
theorem Txt.kp__law_mixed (T : Txt K mg ad fdn) : PySem.W.keepIn K (.ref (ad "_law_mixed")) = true := T.s__law_mixed.kp
theorem Txt.b__law_mixed (T : Txt K mg ad fdn) : Binds K (fdn "_law_mixed") ["seed", "spin", "at"] [] := T.s__law_mixed.binds fun _ _ _ _ _ _ us hl => match us, hl with | [_, _, _], _ => rfl
theorem Txt.g__law_mixed (T : Txt K mg ad fdn) : FnG P w K mg base 1 (ad "_law_mixed") (fdn "_law_mixed") ["seed", "spin", "at"] (spD mg 3 f_law_mixed) :=
  fnD_of (kp := []) (G := f_law_mixed_b) T.s__law_mixed scf_law_mixed rfl rfl rfl fun cdv A outer s H E hr hg => by
  have nd := (scf_law_mixed).nd
  exact (dss_cons (ds_set (i := 3) nd rfl (.inl rfl) (by decide) (de_op op_addD (de_op op_mulD (de_name (pv 0)) de_int) (de_op op_mulD (de_op op_mulD de_int (de_name (pv 1))) (de_name (pv 1)))))
  (dss_cons (ds_set (i := 3) nd rfl (.inl rfl) (by decide) (de_op op_modD (de_callTy (cd_int) rfl T.n_int (by decide +kernel) (da_cons (de_op op_addD (de_op op_addD (de_name (pv 3)) (de_op op_mulD de_int (de_name (pv 2)))) (de_name (pv 1))) da_nil)) de_int))
  (dss_cons (ds_set (i := 3) nd rfl (.inl rfl) (by decide) (de_op op_modD (de_callTy (cd_int) rfl T.n_int (by decide +kernel) (da_cons (de_op op_addD (de_op op_mulD (de_name (pv 3)) (de_name (pv 3))) de_int) da_nil)) de_int))
  (dss_one (ds_ret (de_op op_modD (de_callTy (cd_int) rfl T.n_int (by decide +kernel) (da_cons (de_op op_mulD (de_name (pv 3)) de_int) da_nil)) de_int))))))
theorem scf_law_draw : FnScope ["purse", "many", "drawn", "found", "piece"] ["purse", "many"] (defScope (topS 25)) := ⟨rfl, rfl, rfl, by decide +kernel, rfl, by decide +kernel, by decide +kernel⟩
theorem Txt.kp__law_draw (T : Txt K mg ad fdn) : PySem.W.keepIn K (.ref (ad "_law_draw")) = true := T.s__law_draw.kp
theorem Txt.b__law_draw (T : Txt K mg ad fdn) : Binds K (fdn "_law_draw") ["purse", "many"] [] := T.s__law_draw.binds fun _ _ _ _ _ _ us hl => match us, hl with | [_, _], _ => rfl
theorem Txt.g__law_draw (T : Txt K mg ad fdn) : FnG P w K mg base 2 (ad "_law_draw") (fdn "_law_draw") ["purse", "many"] (spD mg 2 f_law_draw) :=
  fnD_of (kp := [0]) (G := f_law_draw_b) T.s__law_draw scf_law_draw rfl rfl rfl fun cdv A outer s H E hr hg => by
  have nd := (scf_law_draw).nd
  exact (dss_cons (ds_if (dt_pure (dt_cmp (op_gtDD) (de_sub (hu1 hr) (de_name (pv 0)) de_int (fun _ _ => rfl)) de_int (nomark _))) (dss_cons (ds_set (i := 2) nd rfl (.inl rfl) (by decide) (de_pure (de_op op_modD (de_callTy (cd_int) rfl T.n_int (by decide +kernel) (da_cons (de_sub (hu1 hr) (de_name (pv 0)) de_int (fun _ _ => rfl)) da_nil)) (de_name (pv 1)))))
  (dss_cons (ds_setItem (hu1 hr) (pv 0) de_int (de_pure (de_op op_fdivD (de_sub (hu1 hr) (de_name (pv 0)) de_int (fun _ _ => rfl)) (de_name (pv 1)))))
  (dss_one (ds_ret (de_move (pv 2)))))) dss_nil)
  (dss_cons (ds_set (i := 3) nd rfl (.inl rfl) (by decide) de_int)
  (dss_cons (ds_for ownD rfl (di_range rfl T.n_range (da_cons (de_op op_addD de_int (de_op op_fdivD (de_bits (de_name (pv 1))) de_int)) da_nil)) (dg_name (pg_name (i := 4) nd rfl (by first | exact .inl rfl | exact .inr rfl)) (by decide)) (dss_fgt [4] (dss_cons (ds_setItem (hu1 hr) (pv 0) de_int (de_pure (de_op op_addD (de_sub (hu1 hr) (de_name (pv 0)) de_int (fun _ _ => rfl)) de_int)))
  (dss_one (ds_set (i := 3) nd rfl (.inl rfl) (by decide) (de_pure (de_op op_addD (de_op op_mulD (de_name (pv 3)) de_int) (de_call (T.g__law_mixed) hg (hr.mono (by first | decide | omega)) rfl T.m__law_mixed T.kp__law_mixed T.b__law_mixed .nil passesD Dfl.nil (da_cons (de_sub (hu1 hr) (de_name (pv 0)) de_int (fun _ _ => rfl)) (da_cons (de_sub (hu1 hr) (de_name (pv 0)) de_int (fun _ _ => rfl)) (da_cons (de_sub (hu1 hr) (de_name (pv 0)) de_int (fun _ _ => rfl)) da_nil))) (mCons_len (mCons_len (mCons_len mNil_len)))))))))))
  (dss_one (ds_ret (de_op op_modD (de_callTy (cd_int) rfl T.n_int (by decide +kernel) (da_cons (de_name (pv 3)) da_nil)) (de_name (pv 1))))))))
theorem scf_law_purses : FnScope ["script", "few", "at"] ["script", "few"] (defScope (topS 26)) := ⟨rfl, rfl, rfl, by decide +kernel, rfl, by decide +kernel, by decide +kernel⟩
theorem Txt.kp__law_purses (T : Txt K mg ad fdn) : PySem.W.keepIn K (.ref (ad "_law_purses")) = true := T.s__law_purses.kp
theorem Txt.b__law_purses (T : Txt K mg ad fdn) : Binds K (fdn "_law_purses") ["script", "few"] [] := T.s__law_purses.binds fun _ _ _ _ _ _ us hl => match us, hl with | [_, _], _ => rfl
theorem Txt.g__law_purses (T : Txt K mg ad fdn) : FnG P w K mg base 2 (ad "_law_purses") (fdn "_law_purses") ["script", "few"] (spD mg 2 f_law_purses) :=
  fnD_of (kp := []) (G := f_law_purses_b) T.s__law_purses scf_law_purses rfl rfl rfl fun cdv A outer s H E hr hg => by
  have nd := (scf_law_purses).nd
  exact (dss_one (ds_ret (de_comp (own := [("at", 2)]) rfl nd (di_range rfl T.n_range (da_cons (de_callB (cd_max rfl) rfl T.n_max (by decide +kernel) (da_cons de_int (da_cons (de_callB (cd_min rfl) rfl T.n_min (by decide +kernel) (da_cons (de_name (pv 1)) (da_cons (de_callB (cd_len) rfl T.n_len (by decide +kernel) (da_cons (de_name (pv 0)) da_nil)) da_nil))) da_nil))) da_nil)) (blkOk_by (by change blkC ["script", "few", "at"] (defScope (topS 26)) _ _ = true; decide +kernel)) (fun _ _ _ _ _ => (dg_name (pg_name (i := 2) nd rfl (by first | exact .inl rfl | exact .inr rfl)) (by change ¬ _ ∈ others 3 [2]; decide))) (fun _ _ _ _ _ => pts_yes) (fun _ _ _ _ _ => (de_call (T.g__law_purse) hg (hr.mono (by first | decide | omega)) rfl T.m__law_purse T.kp__law_purse T.b__law_purse .nil passL Dfl.nil (da_cons (de_name (pv 0)) (da_cons (de_name (pv 2)) da_nil)) (mCons_len (mCons_len mNil_len)))) (by decide) (by change ∀ v ∈ ([2] : List Nat), v < 3; decide))))
theorem scf_law_one_of : FnScope ["purse", "some"] ["purse", "some"] (defScope (topS 27)) := ⟨rfl, rfl, rfl, by decide +kernel, rfl, by decide +kernel, by decide +kernel⟩
theorem Txt.kp__law_one_of (T : Txt K mg ad fdn) : PySem.W.keepIn K (.ref (ad "_law_one_of")) = true := T.s__law_one_of.kp
theorem Txt.b__law_one_of (T : Txt K mg ad fdn) : Binds K (fdn "_law_one_of") ["purse", "some"] [] := T.s__law_one_of.binds fun _ _ _ _ _ _ us hl => match us, hl with | [_, _], _ => rfl
theorem Txt.g__law_one_of (T : Txt K mg ad fdn) : FnG P w K mg base 3 (ad "_law_one_of") (fdn "_law_one_of") ["purse", "some"] (spD mg 2 f_law_one_of) :=
  fnD_of (kp := [0]) (G := f_law_one_of_b) T.s__law_one_of scf_law_one_of rfl rfl rfl fun cdv A outer s H E hr hg => by
  have nd := (scf_law_one_of).nd
  exact (dss_one (ds_ret (de_sub (hu1 hr) (de_name (pv 1)) (de_callP (T.g__law_draw) hg (hr.mono (by first | decide | omega)) rfl T.m__law_draw T.kp__law_draw T.b__law_draw .nil passesD Dfl.nil (pv 0) (da_cons (de_callB (cd_len) rfl T.n_len (by decide +kernel) (da_cons (de_name (pv 1)) da_nil)) da_nil) (lenP (mCons_len mNil_len) rfl)) (fun _ _ => rfl))))
theorem scf_law_shuffled : FnScope ["purse", "some", "found", "item"] ["purse", "some"] (defScope (topS 28)) := ⟨rfl, rfl, rfl, by decide +kernel, rfl, by decide +kernel, by decide +kernel⟩
theorem Txt.kp__law_shuffled (T : Txt K mg ad fdn) : PySem.W.keepIn K (.ref (ad "_law_shuffled")) = true := T.s__law_shuffled.kp
theorem Txt.b__law_shuffled (T : Txt K mg ad fdn) : Binds K (fdn "_law_shuffled") ["purse", "some"] [] := T.s__law_shuffled.binds fun _ _ _ _ _ _ us hl => match us, hl with | [_, _], _ => rfl
theorem Txt.g__law_shuffled (T : Txt K mg ad fdn) : FnG P w K mg base 3 (ad "_law_shuffled") (fdn "_law_shuffled") ["purse", "some"] (spD mg 2 f_law_shuffled) :=
  fnD_of (kp := [0]) (G := f_law_shuffled_b) T.s__law_shuffled scf_law_shuffled rfl rfl rfl fun cdv A outer s H E hr hg => by
  have nd := (scf_law_shuffled).nd
  exact (dss_cons (ds_set (i := 2) nd rfl (.inl rfl) (by decide) (de_list da_nil))
  (dss_cons (ds_for ownD rfl (di_seq (de_name (pv 1))) (dg_name (pg_name (i := 3) nd rfl (by first | exact .inl rfl | exact .inr rfl)) (by decide)) (dss_fgt [3] (dss_one (ds_expr (de_meth PySem.F.slot_list_insert PySem.F.type_list_insert md_insert (pv 2) (da_cons (de_callP (T.g__law_draw) hg (hr.mono (by first | decide | omega)) rfl T.m__law_draw T.kp__law_draw T.b__law_draw .nil passesD Dfl.nil (pv 0) (da_cons (de_pure (de_op op_addD (de_callB (cd_len) rfl T.n_len (by decide +kernel) (da_cons (de_name (pv 2)) da_nil)) de_int)) da_nil) (lenP (mCons_len mNil_len) rfl)) (da_cons (de_name (pv 3)) da_nil)))))))
  (dss_one (ds_ret (de_move (pv 2))))))
theorem scf_law_exact : FnScope ["mine", "theirs", "is_list", "is_like", "a", "b"] ["mine", "theirs"] (defScope (topS 29)) := ⟨rfl, rfl, rfl, by decide +kernel, rfl, by decide +kernel, by decide +kernel⟩
theorem Txt.kp__law_exact (T : Txt K mg ad fdn) : PySem.W.keepIn K (.ref (ad "_law_exact")) = true := T.s__law_exact.kp
theorem Txt.b__law_exact (T : Txt K mg ad fdn) : Binds K (fdn "_law_exact") ["mine", "theirs"] [] := T.s__law_exact.binds fun _ _ _ _ _ _ us hl => match us, hl with | [_, _], _ => rfl
theorem Txt.g__law_exact (T : Txt K mg ad fdn) : ∀ d : Nat, FnG P w K mg base (0 + d) (ad "_law_exact") (fdn "_law_exact") ["mine", "theirs"] (spD mg 2 (f_law_exact d))
  | 0 => fnG_fail
  | d + 1 => fnD_of (k := 0 + d) (kp := []) (G := f_law_exact_b (f_law_exact d)) T.s__law_exact scf_law_exact rfl rfl rfl fun cdv A outer s H E hr hg => by
    have ih := Txt.g__law_exact T d
    have nd := (scf_law_exact).nd
    exact (dss_cons (ds_if (dt_val (de_isi2 kit_list kit_tuple rfl T.n_isinstance (de_name (pv 0)) rfl T.n_list (by decide +kernel) rfl T.n_tuple (by decide +kernel))) (dss_cons (ds_set (i := 2) nd rfl (.inl rfl) (by decide) (de_cmp (op_eqDD hr.units) (de_isi kit_list rfl T.n_isinstance (de_name (pv 1)) rfl T.n_list (by decide +kernel)) (de_isi kit_list rfl T.n_isinstance (de_name (pv 0)) rfl T.n_list (by decide +kernel)) (nomark _)))
  (dss_cons (ds_frz [3] (ds_set (i := 3) nd rfl (.inl rfl) (by decide) (de_and (de_name (pv 2)) (de_one (de_cmp (op_eqDD hr.units) (de_isi kit_tuple rfl T.n_isinstance (de_name (pv 1)) rfl T.n_tuple (by decide +kernel)) (de_isi kit_tuple rfl T.n_isinstance (de_name (pv 0)) rfl T.n_tuple (by decide +kernel)) (nomark _))))))
  (dss_one (ds_ret (de_and (de_name (pv 3)) (de_and (de_cmp (op_eqDD hr.units) (de_callB (cd_len) rfl T.n_len (by decide +kernel) (da_cons (de_name (pv 0)) da_nil)) (de_callB (cd_len) rfl T.n_len (by decide +kernel) (da_cons (de_name (pv 1)) da_nil)) (nomark _)) (de_one (de_callB (cd_all rfl) rfl T.n_all (by decide +kernel) (da_cons (de_comp (own := [("a", 4), ("b", 5)]) rfl nd (di_zip rfl T.n_zip (de_name (pv 0)) (de_name (pv 1))) (blkOk_by (by change blkC ["mine", "theirs", "is_list", "is_like", "a", "b"] (defScope (topS 29)) _ _ = true; decide +kernel)) (fun _ _ _ _ _ => (dg_tup rfl (dgs_cons (dg_name (pg_name (i := 4) nd rfl (by first | exact .inl rfl | exact .inr rfl)) (by change ¬ _ ∈ others 6 [4, 5]; decide)) (dgs_cons (dg_name (pg_name (i := 5) nd rfl (by first | exact .inl rfl | exact .inr rfl)) (by change ¬ _ ∈ others 6 [4, 5]; decide)) dgs_nil)))) (fun _ _ _ _ _ => pts_yes) (fun _ _ _ _ _ => (de_call ih hg (hr.mono (by first | decide | omega)) rfl T.m__law_exact T.kp__law_exact T.b__law_exact .nil passL Dfl.nil (da_cons (de_name (pv 4)) (da_cons (de_name (pv 5)) da_nil)) (mCons_len (mCons_len mNil_len)))) (by decide) (by change ∀ v ∈ ([4, 5] : List Nat), v < 6; decide)) da_nil))))))))) dss_nil)
  (dss_cons (ds_if (dt_w (dw_or (dt_val (de_isi2 kit_list kit_tuple rfl T.n_isinstance (de_name (pv 1)) rfl T.n_list (by decide +kernel) rfl T.n_tuple (by decide +kernel))) (dw_or1 (dt_cmp (op_neDD hr.units) (de_cmp (op_isDD) (de_name (pv 0)) de_none (nomark _)) (de_cmp (op_isDD) (de_name (pv 1)) de_none (nomark _)) (nomark _))))) (dss_one (ds_ret de_bool)) dss_nil)
  (dss_cons (ds_frz [3] (ds_set (i := 3) nd rfl (.inl rfl) (by decide) (de_and (de_cmp (op_eqDD hr.units) (de_isi kit_int rfl T.n_isinstance (de_name (pv 0)) rfl T.n_int (by decide +kernel)) (de_isi kit_int rfl T.n_isinstance (de_name (pv 1)) rfl T.n_int (by decide +kernel)) (nomark _)) (de_one (de_cmp (op_eqDD hr.units) (de_isi kit_str rfl T.n_isinstance (de_name (pv 0)) rfl T.n_str (by decide +kernel)) (de_isi kit_str rfl T.n_isinstance (de_name (pv 1)) rfl T.n_str (by decide +kernel)) (nomark _))))))
  (dss_one (ds_ret (de_and (de_name (pv 3)) (de_and (de_cmp (op_eqDD hr.units) (de_isi kit_bool rfl T.n_isinstance (de_name (pv 0)) rfl T.n_bool (by decide +kernel)) (de_isi kit_bool rfl T.n_isinstance (de_name (pv 1)) rfl T.n_bool (by decide +kernel)) (nomark _)) (de_one (de_cmp (op_eqDD hr.units) (de_name (pv 0)) (de_name (pv 1)) (nomark _))))))))))
theorem scf_law_names : FnScope ["purse", "many", "pool", "found"] ["purse", "many"] (defScope (topS 30)) := ⟨rfl, rfl, rfl, by decide +kernel, rfl, by decide +kernel, by decide +kernel⟩
theorem Txt.kp__law_names (T : Txt K mg ad fdn) : PySem.W.keepIn K (.ref (ad "_law_names")) = true := T.s__law_names.kp
theorem Txt.b__law_names (T : Txt K mg ad fdn) : Binds K (fdn "_law_names") ["purse", "many"] [] := T.s__law_names.binds fun _ _ _ _ _ _ us hl => match us, hl with | [_, _], _ => rfl
theorem Txt.g__law_names (T : Txt K mg ad fdn) : FnG P w K mg base 4 (ad "_law_names") (fdn "_law_names") ["purse", "many"] (spD mg 2 f_law_names) :=
  fnD_of (kp := [0]) (G := f_law_names_b) T.s__law_names scf_law_names rfl rfl rfl fun cdv A outer s H E hr hg => by
  have nd := (scf_law_names).nd
  exact (dss_cons (ds_frz [2] (ds_set (i := 2) nd rfl (.inl rfl) (by decide) (de_callP (T.g__law_one_of) hg (hr.mono (by first | decide | omega)) rfl T.m__law_one_of T.kp__law_one_of T.b__law_one_of .nil passesD Dfl.nil (pv 0) (da_cons (de_list (da_cons (de_list (da_cons de_str (da_cons de_str (da_cons de_str (da_cons de_str (da_cons de_str (da_cons de_str (da_cons de_str (da_cons de_str (da_cons de_str (da_cons de_str da_nil))))))))))) (da_cons (de_callTy (cd_list2 rfl) rfl T.n_list (by decide +kernel) (da_cons de_str da_nil)) (da_cons (de_list (da_cons de_str (da_cons de_str (da_cons de_str (da_cons de_str (da_cons de_str (da_cons de_str (da_cons de_str (da_cons de_str (da_cons de_str (da_cons de_str da_nil))))))))))) da_nil)))) da_nil) (lenP (mCons_len mNil_len) rfl))))
  (dss_cons (ds_set (i := 3) nd rfl (.inl rfl) (by decide) (de_callTy (cd_list2 rfl) rfl T.n_list (by decide +kernel) (da_cons (de_name (pv 2)) da_nil)))
  (dss_cons (ds_while 1000000 ownD (dt_pure (dt_cmp (op_gtDD) (de_callB (cd_len) rfl T.n_len (by decide +kernel) (da_cons (de_name (pv 3)) da_nil)) (de_name (pv 1)) (nomark _))) (dss_one (ds_expr (de_meth PySem.F.slot_list_pop PySem.F.type_list_pop md_popAt (pv 3) (da_cons (de_callP (T.g__law_draw) hg (hr.mono (by first | decide | omega)) rfl T.m__law_draw T.kp__law_draw T.b__law_draw .nil passesD Dfl.nil (pv 0) (da_cons (de_pure (de_callB (cd_len) rfl T.n_len (by decide +kernel) (da_cons (de_name (pv 3)) da_nil))) da_nil) (lenP (mCons_len mNil_len) rfl)) da_nil)))))
  (dss_one (ds_ret (de_move (pv 3)))))))
theorem scf_law_web : FnScope ["purse", "many", "wide", "far", "names", "flights", "links", "order", "name", "low", "at", "other", "one"] ["purse", "many", "wide", "far"] (defScope (topS 31)) := ⟨rfl, rfl, rfl, by decide +kernel, rfl, by decide +kernel, by decide +kernel⟩
theorem Txt.kp__law_web (T : Txt K mg ad fdn) : PySem.W.keepIn K (.ref (ad "_law_web")) = true := T.s__law_web.kp
theorem Txt.b__law_web (T : Txt K mg ad fdn) : Binds K (fdn "_law_web") ["purse", "many", "wide", "far"] [] := T.s__law_web.binds fun _ _ _ _ _ _ us hl => match us, hl with | [_, _, _, _], _ => rfl
theorem Txt.g__law_web (T : Txt K mg ad fdn) : FnG P w K mg base 5 (ad "_law_web") (fdn "_law_web") ["purse", "many", "wide", "far"] (spD mg 4 f_law_web) :=
  fnD_of (kp := [0]) (G := f_law_web_b) T.s__law_web scf_law_web rfl rfl rfl fun cdv A outer s H E hr hg => by
  have nd := (scf_law_web).nd
  exact (dss_cons (ds_frz [4] (ds_par3 (i := 4) (j := 5) (m := 6) rfl nd rfl rfl rfl (by decide) (by decide) (by decide) (by decide) (by decide) (by decide) rfl rfl rfl (da_cons (de_callP (T.g__law_names) hg (hr.mono (by first | decide | omega)) rfl T.m__law_names T.kp__law_names T.b__law_names .nil passesD Dfl.nil (pv 0) (da_cons (de_name (pv 1)) da_nil) (lenP (mCons_len mNil_len) rfl)) (da_cons (de_list da_nil) (da_cons (de_list da_nil) da_nil))) rfl))
  (dss_cons (ds_frz [7] (ds_set (i := 7) nd rfl (.inl rfl) (by decide) (de_callP (T.g__law_shuffled) hg (hr.mono (by first | decide | omega)) rfl T.m__law_shuffled T.kp__law_shuffled T.b__law_shuffled .nil passesD Dfl.nil (pv 0) (da_cons (de_name (pv 4)) da_nil) (lenP (mCons_len mNil_len) rfl))))
  (dss_cons (ds_for ownD rfl (di_seq (de_name (pv 4))) (dg_name (pg_name (i := 8) nd rfl (by first | exact .inl rfl | exact .inr rfl)) (by decide)) (dss_fgt [8, 9] (dss_cons (ds_set (i := 9) nd rfl (.inl rfl) (by decide) (de_op op_addD de_int (de_callP (T.g__law_draw) hg (hr.mono (by first | decide | omega)) rfl T.m__law_draw T.kp__law_draw T.b__law_draw .nil passesD Dfl.nil (pv 0) (da_cons (de_callP (T.g__law_one_of) hg (hr.mono (by first | decide | omega)) rfl T.m__law_one_of T.kp__law_one_of T.b__law_one_of .nil passesD Dfl.nil (pv 0) (da_cons (de_list (da_cons de_int (da_cons de_int (da_cons (de_name (pv 3)) da_nil)))) da_nil) (lenP (mCons_len mNil_len) rfl)) da_nil) (lenP (mCons_len mNil_len) rfl))))
  (dss_one (ds_expr (de_meth PySem.F.slot_list_append PySem.F.type_list_append md_append (pv 5) (da_cons (de_tuple (da_cons (de_name (pv 8)) (da_cons (de_op op_subD (de_callP (T.g__law_draw) hg (hr.mono (by first | decide | omega)) rfl T.m__law_draw T.kp__law_draw T.b__law_draw .nil passesD Dfl.nil (pv 0) (da_cons de_int da_nil) (lenP (mCons_len mNil_len) rfl)) de_int) (da_cons (de_name (pv 9)) (da_cons (de_op op_addD (de_name (pv 9)) (de_callP (T.g__law_draw) hg (hr.mono (by first | decide | omega)) rfl T.m__law_draw T.kp__law_draw T.b__law_draw .nil passesD Dfl.nil (pv 0) (da_cons (de_name (pv 2)) da_nil) (lenP (mCons_len mNil_len) rfl))) da_nil))))) da_nil)))))))
  (dss_cons (ds_for ownD rfl (di_enum rfl T.n_enumerate (de_name (pv 7))) (dg_tup rfl (dgs_cons (dg_name (pg_name (i := 10) nd rfl (by first | exact .inl rfl | exact .inr rfl)) (by decide)) (dgs_cons (dg_name (pg_name (i := 11) nd rfl (by first | exact .inl rfl | exact .inr rfl)) (by decide)) dgs_nil))) (dss_fgt [10, 11, 12] (dss_one (ds_for ownD rfl (di_seq (de_slice (de_name (pv 7)) dp_none (dp_some (de_name (pv 10))))) (dg_name (pg_name (i := 12) nd rfl (by first | exact .inl rfl | exact .inr rfl)) (by decide)) (dss_fgt [12] (dss_one (ds_if (dt_cmp (op_eqDD hr.units) (de_callP (T.g__law_draw) hg (hr.mono (by first | decide | omega)) rfl T.m__law_draw T.kp__law_draw T.b__law_draw .nil passesD Dfl.nil (pv 0) (da_cons de_int da_nil) (lenP (mCons_len mNil_len) rfl)) de_int (nomark _)) (dss_one (ds_expr (de_meth PySem.F.slot_list_append PySem.F.type_list_append md_append (pv 6) (da_cons (de_tuple (da_cons (de_name (pv 12)) (da_cons (de_name (pv 11)) (da_cons (de_callP (T.g__law_draw) hg (hr.mono (by first | decide | omega)) rfl T.m__law_draw T.kp__law_draw T.b__law_draw .nil passesD Dfl.nil (pv 0) (da_cons (de_callP (T.g__law_one_of) hg (hr.mono (by first | decide | omega)) rfl T.m__law_one_of T.kp__law_one_of T.b__law_one_of .nil passesD Dfl.nil (pv 0) (da_cons (de_list (da_cons de_int (da_cons de_int (da_cons de_int da_nil)))) da_nil) (lenP (mCons_len mNil_len) rfl)) da_nil) (lenP (mCons_len mNil_len) rfl)) da_nil)))) da_nil)))) dss_nil)))))))
  (dss_one (ds_ret (de_tuple (da_cons de_str (da_cons (de_name (pv 5)) (da_cons (de_callB (cd_sorted) rfl T.n_sorted (by decide +kernel) (da_cons (de_slice (de_callP (T.g__law_shuffled) hg (hr.mono (by first | decide | omega)) rfl T.m__law_shuffled T.kp__law_shuffled T.b__law_shuffled .nil passesD Dfl.nil (pv 0) (da_cons (de_name (pv 6)) da_nil) (lenP (mCons_len mNil_len) rfl)) dp_none (dp_some de_int)) da_nil)) da_nil))))))))))
theorem scf_law_times : FnScope ["web", "course", "goes", "flights", "flight", "spin", "name", "waits", "one", "other", "many"] ["web", "course"] (defScope (topS 32)) := ⟨rfl, rfl, rfl, by decide +kernel, rfl, by decide +kernel, by decide +kernel⟩
theorem Txt.kp__law_times (T : Txt K mg ad fdn) : PySem.W.keepIn K (.ref (ad "_law_times")) = true := T.s__law_times.kp
theorem Txt.b__law_times (T : Txt K mg ad fdn) : Binds K (fdn "_law_times") ["web", "course"] [] := T.s__law_times.binds fun _ _ _ _ _ _ us hl => match us, hl with | [_, _], _ => rfl
theorem Txt.g__law_times (T : Txt K mg ad fdn) : FnG P w K mg base 1 (ad "_law_times") (fdn "_law_times") ["web", "course"] (spD mg 2 f_law_times) :=
  fnD_of (kp := []) (G := f_law_times_b) T.s__law_times scf_law_times rfl rfl rfl fun cdv A outer s H E hr hg => by
  have nd := (scf_law_times).nd
  exact (dss_cons (ds_frz [3] (ds_asg (de_tuple (da_cons de_dictNew (da_cons (de_callTy (cd_dict rfl) rfl T.n_dict (by decide +kernel) (da_cons (de_comp (own := [("flight", 4)]) rfl nd (di_seq (de_sub (hu1 hr) (de_name (pv 0)) de_int (fun _ _ => rfl))) (blkOk_by (by change blkC ["web", "course", "goes", "flights", "flight", "spin", "name", "waits", "one", "other", "many"] (defScope (topS 32)) _ _ = true; decide +kernel)) (fun _ _ _ _ _ => (dg_name (pg_name (i := 4) nd rfl (by first | exact .inl rfl | exact .inr rfl)) (by change ¬ _ ∈ others 11 [4]; decide))) (fun _ _ _ _ _ => pts_yes) (fun _ _ _ _ _ => (de_tuple (da_cons (de_sub (hu1 hr) (de_name (pv 4)) de_int (fun _ _ => rfl)) (da_cons (de_name (pv 4)) da_nil)))) (by decide) (by change ∀ v ∈ ([4] : List Nat), v < 11; decide)) da_nil)) da_nil))) (dg_tup rfl (dgs_cons (dg_name (pg_name (i := 2) nd rfl (by first | exact .inl rfl | exact .inr rfl)) (by decide)) (dgs_cons (dg_name (pg_name (i := 3) nd rfl (by first | exact .inl rfl | exact .inr rfl)) (by decide)) dgs_nil)))))
  (dss_cons (ds_forK (i := 3) ownD rfl (pv 3) (dg_name (pg_name (i := 5) nd rfl (by first | exact .inl rfl | exact .inr rfl)) (by decide)) (dss_fgt [5, 7] (dss_one (ds_forK (i := 3) ownD rfl (pv 3) (dg_name (pg_name (i := 6) nd rfl (by first | exact .inl rfl | exact .inr rfl)) (by decide)) (dss_fgt [7] (dss_cons (ds_frz [7] (ds_setComp (own := [("one", 8), ("other", 9), ("many", 10)]) (i := 7) rfl nd rfl rfl (sw_true rfl rfl rfl (by decide +kernel)) (by decide) (di_seq (de_sub (hu1 hr) (de_name (pv 0)) de_int (fun _ _ => rfl))) (blkOk_by (by change blkC ["web", "course", "goes", "flights", "flight", "spin", "name", "waits", "one", "other", "many"] (defScope (topS 32)) _ _ = true; decide +kernel)) (fun _ _ _ _ _ => (dg_tup rfl (dgs_cons (dg_name (pg_name (i := 8) nd rfl (by first | exact .inl rfl | exact .inr rfl)) (by change ¬ _ ∈ others 11 [8, 9, 10]; decide)) (dgs_cons (dg_name (pg_name (i := 9) nd rfl (by first | exact .inl rfl | exact .inr rfl)) (by change ¬ _ ∈ others 11 [8, 9, 10]; decide)) (dgs_cons (dg_name (pg_name (i := 10) nd rfl (by first | exact .inl rfl | exact .inr rfl)) (by change ¬ _ ∈ others 11 [8, 9, 10]; decide)) dgs_nil))))) (fun _ _ _ _ _ => (pts_one (dt_pure (dt_w (dw_and (dt_cmp (op_eqDD hr.units) (de_name (pv 9)) (de_name (pv 6)) (nomark _)) (dw_and1 (dt_in (hu65 hr) (de_name (pv 8)) (de_name (pv 2))))))))) (fun _ _ _ _ _ => (de_pure (de_op op_addD (de_op op_addD (de_get (hu1 hr) (de_name (pv 2)) (de_name (pv 8)) de_int ⟨rfl, rfl, rfl, rfl⟩) (de_sub (hu1 hr) (de_name (pv 1)) (de_name (pv 8)) (fun _ _ => rfl))) (de_name (pv 10))))) (by decide) (by change ∀ v ∈ ([8, 9, 10] : List Nat), v < 11; decide)))
  (dss_one (ds_setItem (hu1 hr) (pv 2) (de_name (pv 6)) (de_callB (cd_max rfl) rfl T.n_max (by decide +kernel) (da_cons (de_op op_addD (de_list (da_cons (de_sub (hu1 hr) (de_sub (hu1 hr) (de_name (pv 3)) (de_name (pv 6)) (fun _ _ => rfl)) de_int (fun _ _ => rfl)) da_nil)) (de_name (pv 7))) da_nil))))))))))
  (dss_one (ds_ret (de_callTy (cd_dict rfl) rfl T.n_dict (by decide +kernel) (da_cons (de_compK (own := [("name", 6)]) (i := 3) rfl nd (pv 3) (blkOk_by (by change blkC ["web", "course", "goes", "flights", "flight", "spin", "name", "waits", "one", "other", "many"] (defScope (topS 32)) _ _ = true; decide +kernel)) (fun _ _ _ _ _ => (dg_name (pg_name (i := 6) nd rfl (by first | exact .inl rfl | exact .inr rfl)) (by change ¬ _ ∈ others 11 [6]; decide))) (fun _ _ _ _ _ => pts_yes) (fun _ _ _ _ _ => (de_tuple (da_cons (de_name (pv 6)) (da_cons (de_tuple (da_cons (de_pure (de_sub (hu1 hr) (de_name (pv 2)) (de_name (pv 6)) (fun _ _ => rfl))) (da_cons (de_pure (de_op op_addD (de_sub (hu1 hr) (de_name (pv 2)) (de_name (pv 6)) (fun _ _ => rfl)) (de_sub (hu1 hr) (de_name (pv 1)) (de_name (pv 6)) (fun _ _ => rfl)))) da_nil))) da_nil)))) (by decide) (by change ∀ v ∈ ([6] : List Nat), v < 11; decide)) da_nil))))))
theorem scf_law_drawn_course : FnScope ["purse", "web", "name", "planned", "low", "high"] ["purse", "web"] (defScope (topS 33)) := ⟨rfl, rfl, rfl, by decide +kernel, rfl, by decide +kernel, by decide +kernel⟩
theorem Txt.kp__law_drawn_course (T : Txt K mg ad fdn) : PySem.W.keepIn K (.ref (ad "_law_drawn_course")) = true := T.s__law_drawn_course.kp
theorem Txt.b__law_drawn_course (T : Txt K mg ad fdn) : Binds K (fdn "_law_drawn_course") ["purse", "web"] [] := T.s__law_drawn_course.binds fun _ _ _ _ _ _ us hl => match us, hl with | [_, _], _ => rfl
theorem Txt.g__law_drawn_course (T : Txt K mg ad fdn) : FnG P w K mg base 3 (ad "_law_drawn_course") (fdn "_law_drawn_course") ["purse", "web"] (spD mg 2 f_law_drawn_course) :=
  fnD_of (kp := [0]) (G := f_law_drawn_course_b) T.s__law_drawn_course scf_law_drawn_course rfl rfl rfl fun cdv A outer s H E hr hg => by
  have nd := (scf_law_drawn_course).nd
  exact (dss_one (ds_ret (de_callTy (cd_dict rfl) rfl T.n_dict (by decide +kernel) (da_cons (de_comp (own := [("name", 2), ("planned", 3), ("low", 4), ("high", 5)]) rfl nd (di_seq (de_sub (hu1 hr) (de_name (pv 1)) de_int (fun _ _ => rfl))) (blkOk_by (by change blkC ["purse", "web", "name", "planned", "low", "high"] (defScope (topS 33)) _ _ = true; decide +kernel)) (fun _ _ _ _ _ => (dg_tup rfl (dgs_cons (dg_name (pg_name (i := 2) nd rfl (by first | exact .inl rfl | exact .inr rfl)) (by change ¬ _ ∈ others 6 [2, 3, 4, 5]; decide)) (dgs_cons (dg_name (pg_name (i := 3) nd rfl (by first | exact .inl rfl | exact .inr rfl)) (by change ¬ _ ∈ others 6 [2, 3, 4, 5]; decide)) (dgs_cons (dg_name (pg_name (i := 4) nd rfl (by first | exact .inl rfl | exact .inr rfl)) (by change ¬ _ ∈ others 6 [2, 3, 4, 5]; decide)) (dgs_cons (dg_name (pg_name (i := 5) nd rfl (by first | exact .inl rfl | exact .inr rfl)) (by change ¬ _ ∈ others 6 [2, 3, 4, 5]; decide)) dgs_nil)))))) (fun _ _ _ _ _ => pts_yes) (fun _ _ _ _ _ => (de_tuple (da_cons (de_name (pv 2)) (da_cons (de_op op_addD (de_name (pv 4)) (de_callP (T.g__law_draw) hg (hr.mono (by first | decide | omega)) rfl T.m__law_draw T.kp__law_draw T.b__law_draw .nil passL Dfl.nil (pv 0) (da_cons (de_op op_addD (de_op op_subD (de_name (pv 5)) (de_name (pv 4))) de_int) da_nil) (lenP (mCons_len mNil_len) rfl))) da_nil)))) (by decide) (by change ∀ v ∈ ([2, 3, 4, 5] : List Nat), v < 6; decide)) da_nil))))
theorem scf_law_told_right : FnScope ["web", "course", "times", "due", "flight", "told"] ["web", "course"] (defScope (topS 34)) := ⟨rfl, rfl, rfl, by decide +kernel, rfl, by decide +kernel, by decide +kernel⟩
theorem Txt.kp__law_told_right (T : Txt K mg ad fdn) : PySem.W.keepIn K (.ref (ad "_law_told_right")) = true := T.s__law_told_right.kp
theorem Txt.b__law_told_right (T : Txt K mg ad fdn) : Binds K (fdn "_law_told_right") ["web", "course"] [] := T.s__law_told_right.binds fun _ _ _ _ _ _ us hl => match us, hl with | [_, _], _ => rfl
theorem Txt.g__law_told_right (T : Txt K mg ad fdn) : FnG P w K mg base 7 (ad "_law_told_right") (fdn "_law_told_right") ["web", "course"] (spD mg 2 f_law_told_right) :=
  fnD_of (kp := []) (G := f_law_told_right_b) T.s__law_told_right scf_law_told_right rfl rfl rfl fun cdv A outer s H E hr hg => by
  have nd := (scf_law_told_right).nd
  exact (dss_cons (ds_frz [2] (ds_set (i := 2) nd rfl (.inr rfl) (by decide) (de_call (T.g__law_times) hg (hr.mono (by first | decide | omega)) rfl T.m__law_times T.kp__law_times T.b__law_times .nil passesD Dfl.nil (da_cons (de_name (pv 0)) (da_cons (de_name (pv 1)) da_nil)) (mCons_len (mCons_len mNil_len)))))
  (dss_cons (ds_frz [3] (ds_setComp (own := [("flight", 4)]) (i := 3) rfl nd rfl rfl (sw_true rfl rfl rfl (by decide +kernel)) (by decide) (di_seq (de_sub (hu1 hr) (de_name (pv 0)) de_int (fun _ _ => rfl))) (blkOk_by (by change blkC ["web", "course", "times", "due", "flight", "told"] (defScope (topS 34)) _ _ = true; decide +kernel)) (fun _ _ _ _ _ => (dg_name (pg_name (i := 4) nd rfl (by first | exact .inl rfl | exact .inr rfl)) (by change ¬ _ ∈ others 6 [4]; decide))) (fun _ _ _ _ _ => pts_yes) (fun _ _ _ _ _ => (de_op op_addD (de_tuple (da_cons (de_sub (hu1 hr) (de_name (pv 4)) de_int (fun _ _ => rfl)) da_nil)) (de_sub (hu1 hr) (de_name (pv 2)) (de_sub (hu1 hr) (de_name (pv 4)) de_int (fun _ _ => rfl)) (fun _ _ => rfl)))) (by decide) (by change ∀ v ∈ ([4] : List Nat), v < 6; decide)))
  (dss_cons (ds_set (i := 5) nd rfl (.inl rfl) (by decide) (de_call (T.g_web_times) hg (hr.mono (by first | decide | omega)) rfl T.m_web_times T.kp_web_times T.b_web_times .nil passesD Dfl.nil (da_cons (de_name (pv 0)) (da_cons (de_name (pv 1)) da_nil)) (mCons_len (mCons_len mNil_len))))
  (dss_cons (ds_if (dt_pure (dt_w (dw_or (dt_not (dt_val (de_call (T.g__law_exact 5) hg (hr.mono (by first | decide | omega)) rfl T.m__law_exact T.kp__law_exact T.b__law_exact .nil passesD Dfl.nil (da_cons (de_list (da_cons (de_name (pv 3)) (da_cons (de_name (pv 3)) da_nil))) (da_cons (de_list (da_cons (de_name (pv 5)) (da_cons (de_callN order2 (T.g_web_times) hg (hr.mono (by first | decide | omega)) rfl T.m_web_times T.kp_web_times T.b_web_times_course_web passesD (dk_cons (de_name (pv 1)) (dk_cons (de_name (pv 0)) dk_nil)) (mCons_len (mCons_len mNil_len))) da_nil))) da_nil)) (mCons_len (mCons_len mNil_len))))) (dw_or1 (dt_cmp (op_isNotDD) (de_call (T.g_is_web_course) hg (hr.mono (by first | decide | omega)) rfl T.m_is_web_course T.kp_is_web_course T.b_is_web_course .nil passesD Dfl.nil (da_cons (de_name (pv 0)) (da_cons (de_name (pv 1)) da_nil)) (mCons_len (mCons_len mNil_len))) de_bool (nomark _)))))) (dss_one (ds_ret de_bool)) dss_nil)
  (dss_cons (ds_expr (de_meth PySem.F.slot_list_append PySem.F.type_list_append md_append (pv 5) (da_cons de_none da_nil)))
  (dss_one (ds_ret (de_call (T.g__law_exact 5) hg (hr.mono (by first | decide | omega)) rfl T.m__law_exact T.kp__law_exact T.b__law_exact .nil passesD Dfl.nil (da_cons (de_name (pv 3)) (da_cons (de_call (T.g_web_times) hg (hr.mono (by first | decide | omega)) rfl T.m_web_times T.kp_web_times T.b_web_times .nil passesD Dfl.nil (da_cons (de_name (pv 0)) (da_cons (de_name (pv 1)) da_nil)) (mCons_len (mCons_len mNil_len))) da_nil)) (mCons_len (mCons_len mNil_len))))))))))
theorem scf_law_turned_right : FnScope ["purse", "web", "course", "name", "flight", "low", "high", "longer", "behind", "spin", "one", "other", "many", "rows", "more", "alone", "link", "planned", "row"] ["purse", "web", "course"] (defScope (topS 35)) := ⟨rfl, rfl, rfl, by decide +kernel, rfl, by decide +kernel, by decide +kernel⟩
theorem Txt.kp__law_turned_right (T : Txt K mg ad fdn) : PySem.W.keepIn K (.ref (ad "_law_turned_right")) = true := T.s__law_turned_right.kp
theorem Txt.b__law_turned_right (T : Txt K mg ad fdn) : Binds K (fdn "_law_turned_right") ["purse", "web", "course"] [] := T.s__law_turned_right.binds fun _ _ _ _ _ _ us hl => match us, hl with | [_, _, _], _ => rfl
theorem Txt.g__law_turned_right (T : Txt K mg ad fdn) : FnG P w K mg base 7 (ad "_law_turned_right") (fdn "_law_turned_right") ["purse", "web", "course"] (spD mg 3 f_law_turned_right) :=
  fnD_of (kp := [0]) (G := f_law_turned_right_b) T.s__law_turned_right scf_law_turned_right rfl rfl rfl fun cdv A outer s H E hr hg => by
  have nd := (scf_law_turned_right).nd
  exact (dss_cons (ds_frz [3] (ds_set (i := 3) nd rfl (.inr rfl) (by decide) (de_callP (T.g__law_one_of) hg (hr.mono (by first | decide | omega)) rfl T.m__law_one_of T.kp__law_one_of T.b__law_one_of .nil passesD Dfl.nil (pv 0) (da_cons (de_comp (own := [("flight", 4)]) rfl nd (di_seq (de_sub (hu1 hr) (de_name (pv 1)) de_int (fun _ _ => rfl))) (blkOk_by (by change blkC ["purse", "web", "course", "name", "flight", "low", "high", "longer", "behind", "spin", "one", "other", "many", "rows", "more", "alone", "link", "planned", "row"] (defScope (topS 35)) _ _ = true; decide +kernel)) (fun _ _ _ _ _ => (dg_name (pg_name (i := 4) nd rfl (by first | exact .inl rfl | exact .inr rfl)) (by change ¬ _ ∈ others 19 [4]; decide))) (fun _ _ _ _ _ => pts_yes) (fun _ _ _ _ _ => (de_sub (hu1 hr) (de_name (pv 4)) de_int (fun _ _ => rfl))) (by decide) (by change ∀ v ∈ ([4] : List Nat), v < 19; decide)) da_nil) (lenP (mCons_len mNil_len) rfl))))
  (dss_cons (ds_frz [5, 6] (ds_asg (de_sub (hu1 hr) (de_comp (own := [("flight", 4)]) rfl nd (di_seq (de_sub (hu1 hr) (de_name (pv 1)) de_int (fun _ _ => rfl))) (blkOk_by (by change blkC ["purse", "web", "course", "name", "flight", "low", "high", "longer", "behind", "spin", "one", "other", "many", "rows", "more", "alone", "link", "planned", "row"] (defScope (topS 35)) _ _ = true; decide +kernel)) (fun _ _ _ _ _ => (dg_name (pg_name (i := 4) nd rfl (by first | exact .inl rfl | exact .inr rfl)) (by change ¬ _ ∈ others 19 [4]; decide))) (fun _ _ _ _ _ => (pts_one (dt_cmp (op_eqDD hr.units) (de_sub (hu1 hr) (de_name (pv 4)) de_int (fun _ _ => rfl)) (de_name (pv 3)) (nomark _)))) (fun _ _ _ _ _ => (de_tuple (da_cons (de_sub (hu1 hr) (de_name (pv 4)) de_int (fun _ _ => rfl)) (da_cons (de_sub (hu1 hr) (de_name (pv 4)) de_int (fun _ _ => rfl)) da_nil)))) (by decide) (by change ∀ v ∈ ([4] : List Nat), v < 19; decide)) de_int (fun _ _ => rfl)) (dg_tup rfl (dgs_cons (dg_name (pg_name (i := 5) nd rfl (by first | exact .inl rfl | exact .inr rfl)) (by decide)) (dgs_cons (dg_name (pg_name (i := 6) nd rfl (by first | exact .inl rfl | exact .inr rfl)) (by decide)) dgs_nil)))))
  (dss_cons (ds_frz [8] (ds_asg (de_tuple (da_cons (de_callTy (cd_dict rfl) rfl T.n_dict (by decide +kernel) (da_cons (de_name (pv 2)) da_nil)) (da_cons (de_list (da_cons (de_name (pv 3)) da_nil)) da_nil))) (dg_tup rfl (dgs_cons (dg_name (pg_name (i := 7) nd rfl (by first | exact .inl rfl | exact .inr rfl)) (by decide)) (dgs_cons (dg_name (pg_name (i := 8) nd rfl (by first | exact .inl rfl | exact .inr rfl)) (by decide)) dgs_nil)))))
  (dss_cons (ds_setItem (hu1 hr) (pv 7) (de_name (pv 3)) (de_op op_addD (de_sub (hu1 hr) (de_name (pv 2)) (de_name (pv 3)) (fun _ _ => rfl)) (de_callP (T.g__law_draw) hg (hr.mono (by first | decide | omega)) rfl T.m__law_draw T.kp__law_draw T.b__law_draw .nil passesD Dfl.nil (pv 0) (da_cons (de_op op_addD (de_op op_subD (de_name (pv 6)) (de_sub (hu1 hr) (de_name (pv 2)) (de_name (pv 3)) (fun _ _ => rfl))) de_int) da_nil) (lenP (mCons_len mNil_len) rfl))))
  (dss_cons (ds_for ownD rfl (di_seq (de_sub (hu1 hr) (de_name (pv 1)) de_int (fun _ _ => rfl))) (dg_name (pg_name (i := 9) nd rfl (by first | exact .inl rfl | exact .inr rfl)) (by decide)) (dss_fgt [9] (dss_one (ds_frz [8] (ds_set (i := 8) nd rfl (.inr rfl) (by decide) (de_op op_addD (de_name (pv 8)) (de_comp (own := [("one", 10), ("other", 11), ("many", 12)]) rfl nd (di_seq (de_sub (hu1 hr) (de_name (pv 1)) de_int (fun _ _ => rfl))) (blkOk_by (by change blkC ["purse", "web", "course", "name", "flight", "low", "high", "longer", "behind", "spin", "one", "other", "many", "rows", "more", "alone", "link", "planned", "row"] (defScope (topS 35)) _ _ = true; decide +kernel)) (fun _ _ _ _ _ => (dg_tup rfl (dgs_cons (dg_name (pg_name (i := 10) nd rfl (by first | exact .inl rfl | exact .inr rfl)) (by change ¬ _ ∈ others 19 [10, 11, 12]; decide)) (dgs_cons (dg_name (pg_name (i := 11) nd rfl (by first | exact .inl rfl | exact .inr rfl)) (by change ¬ _ ∈ others 19 [10, 11, 12]; decide)) (dgs_cons (dg_name (pg_name (i := 12) nd rfl (by first | exact .inl rfl | exact .inr rfl)) (by change ¬ _ ∈ others 19 [10, 11, 12]; decide)) dgs_nil))))) (fun _ _ _ _ _ => (pts_one (dt_w (dw_and (dt_in (hu65 hr) (de_name (pv 10)) (de_name (pv 8))) (dw_and1 (dt_notIn (hu65 hr) (de_name (pv 11)) (de_name (pv 8)))))))) (fun _ _ _ _ _ => (de_name (pv 11))) (by decide) (by change ∀ v ∈ ([10, 11, 12] : List Nat), v < 19; decide))))))))
  (dss_cons (ds_frz [13] (ds_set (i := 13) nd rfl (.inl rfl) (by decide) (de_listZip rfl rfl T.n_list rfl T.n_zip (da_cons (de_call (T.g_web_times) hg (hr.mono (by first | decide | omega)) rfl T.m_web_times T.kp_web_times T.b_web_times .nil passesD Dfl.nil (da_cons (de_name (pv 1)) (da_cons (de_name (pv 2)) da_nil)) (mCons_len (mCons_len mNil_len))) (da_cons (de_call (T.g_web_times) hg (hr.mono (by first | decide | omega)) rfl T.m_web_times T.kp_web_times T.b_web_times .nil passesD Dfl.nil (da_cons (de_name (pv 1)) (da_cons (de_name (pv 7)) da_nil)) (mCons_len (mCons_len mNil_len))) da_nil)))))
  (dss_cons (ds_for ownD rfl (di_seq (de_name (pv 13))) (dg_tup rfl (dgs_cons (dg_name (pg_name (i := 10) nd rfl (by first | exact .inl rfl | exact .inr rfl)) (by decide)) (dgs_cons (dg_name (pg_name (i := 11) nd rfl (by first | exact .inl rfl | exact .inr rfl)) (by decide)) dgs_nil))) (dss_fgt [10, 11, 14] (dss_cons (ds_frz [14] (ds_set (i := 14) nd rfl (.inl rfl) (by decide) (de_ifExp (dt_in (hu65 hr) (de_sub (hu1 hr) (de_name (pv 10)) de_int (fun _ _ => rfl)) (de_name (pv 8))) (de_pure (de_op op_subD (de_sub (hu1 hr) (de_name (pv 7)) (de_name (pv 3)) (fun _ _ => rfl)) (de_sub (hu1 hr) (de_name (pv 2)) (de_name (pv 3)) (fun _ _ => rfl)))) de_int)))
  (dss_one (ds_if (dt_w (dw_or (dt_not (dt_chain (op_leDD) (op_leDD) de_int (de_op op_subD (de_sub (hu1 hr) (de_name (pv 11)) de_int (fun _ _ => rfl)) (de_sub (hu1 hr) (de_name (pv 10)) de_int (fun _ _ => rfl))) (de_name (pv 14)))) (dw_or1 (dt_not (dt_chain (op_leDD) (op_leDD) de_int (de_op op_subD (de_sub (hu1 hr) (de_name (pv 11)) de_int (fun _ _ => rfl)) (de_sub (hu1 hr) (de_name (pv 10)) de_int (fun _ _ => rfl))) (de_name (pv 14))))))) (dss_one (ds_ret de_bool)) dss_nil)))))
  (dss_cons (ds_frz [15] (ds_set (i := 15) nd rfl (.inr rfl) (by decide) (de_comp (own := [("flight", 4)]) rfl nd (di_seq (de_sub (hu1 hr) (de_name (pv 1)) de_int (fun _ _ => rfl))) (blkOk_by (by change blkC ["purse", "web", "course", "name", "flight", "low", "high", "longer", "behind", "spin", "one", "other", "many", "rows", "more", "alone", "link", "planned", "row"] (defScope (topS 35)) _ _ = true; decide +kernel)) (fun _ _ _ _ _ => (dg_name (pg_name (i := 4) nd rfl (by first | exact .inl rfl | exact .inr rfl)) (by change ¬ _ ∈ others 19 [4]; decide))) (fun _ _ _ _ _ => (pts_one (dt_cmp (op_eqDD hr.units) (de_comp (own := [("link", 16)]) rfl nd (di_seq (de_sub (hu1 hr) (de_name (pv 1)) de_int (fun _ _ => rfl))) (blkOk_by (by kernel_rfl)) (fun _ _ _ _ _ => (dg_name (pg_name (i := 16) nd rfl (by first | exact .inl rfl | exact .inr rfl)) (by change ¬ _ ∈ others 19 [16]; decide))) (fun _ _ _ _ _ => (pts_one (dt_cmp (op_eqDD hr.units) (de_sub (hu1 hr) (de_name (pv 16)) de_int (fun _ _ => rfl)) (de_sub (hu1 hr) (de_name (pv 4)) de_int (fun _ _ => rfl)) (nomark _)))) (fun _ _ _ _ _ => (de_name (pv 16))) (by decide) (by change ∀ v ∈ ([16] : List Nat), v < 19; decide)) (de_list da_nil) (nomark _)))) (fun _ _ _ _ _ => (de_sub (hu1 hr) (de_name (pv 4)) de_int (fun _ _ => rfl))) (by decide) (by change ∀ v ∈ ([4] : List Nat), v < 19; decide))))
  (dss_cons (ds_frz [17] (ds_set (i := 17) nd rfl (.inr rfl) (by decide) (de_callTy (cd_dict rfl) rfl T.n_dict (by decide +kernel) (da_cons (de_comp (own := [("flight", 4)]) rfl nd (di_seq (de_sub (hu1 hr) (de_name (pv 1)) de_int (fun _ _ => rfl))) (blkOk_by (by change blkC ["purse", "web", "course", "name", "flight", "low", "high", "longer", "behind", "spin", "one", "other", "many", "rows", "more", "alone", "link", "planned", "row"] (defScope (topS 35)) _ _ = true; decide +kernel)) (fun _ _ _ _ _ => (dg_name (pg_name (i := 4) nd rfl (by first | exact .inl rfl | exact .inr rfl)) (by change ¬ _ ∈ others 19 [4]; decide))) (fun _ _ _ _ _ => pts_yes) (fun _ _ _ _ _ => (de_tuple (da_cons (de_sub (hu1 hr) (de_name (pv 4)) de_int (fun _ _ => rfl)) (da_cons (de_sub (hu1 hr) (de_name (pv 4)) de_int (fun _ _ => rfl)) da_nil)))) (by decide) (by change ∀ v ∈ ([4] : List Nat), v < 19; decide)) da_nil))))
  (dss_one (ds_ret (de_cmp (op_eqDD hr.units) (de_comp (own := [("row", 18)]) rfl nd (di_seq (de_call (T.g_web_times) hg (hr.mono (by first | decide | omega)) rfl T.m_web_times T.kp_web_times T.b_web_times .nil passesD Dfl.nil (da_cons (de_name (pv 1)) (da_cons (de_name (pv 2)) da_nil)) (mCons_len (mCons_len mNil_len)))) (blkOk_by (by change blkC ["purse", "web", "course", "name", "flight", "low", "high", "longer", "behind", "spin", "one", "other", "many", "rows", "more", "alone", "link", "planned", "row"] (defScope (topS 35)) _ _ = true; decide +kernel)) (fun _ _ _ _ _ => (dg_name (pg_name (i := 18) nd rfl (by first | exact .inl rfl | exact .inr rfl)) (by change ¬ _ ∈ others 19 [18]; decide))) (fun _ _ _ _ _ => (pts_one (dt_w (dw_and (dt_in (hu65 hr) (de_sub (hu1 hr) (de_name (pv 18)) de_int (fun _ _ => rfl)) (de_name (pv 15))) (dw_and1 (dt_cmp (op_neDD hr.units) (de_sub (hu1 hr) (de_name (pv 18)) de_int (fun _ _ => rfl)) (de_sub (hu1 hr) (de_name (pv 17)) (de_sub (hu1 hr) (de_name (pv 18)) de_int (fun _ _ => rfl)) (fun _ _ => rfl)) (nomark _))))))) (fun _ _ _ _ _ => (de_name (pv 18))) (by decide) (by change ∀ v ∈ ([18] : List Nat), v < 19; decide)) (de_list da_nil) (nomark _)))))))))))))
theorem scf_law_linked_right : FnScope ["purse", "web", "course", "names", "flight", "pairs", "one", "other", "many", "more", "row", "late"] ["purse", "web", "course"] (defScope (topS 36)) := ⟨rfl, rfl, rfl, by decide +kernel, rfl, by decide +kernel, by decide +kernel⟩
theorem Txt.kp__law_linked_right (T : Txt K mg ad fdn) : PySem.W.keepIn K (.ref (ad "_law_linked_right")) = true := T.s__law_linked_right.kp
theorem Txt.b__law_linked_right (T : Txt K mg ad fdn) : Binds K (fdn "_law_linked_right") ["purse", "web", "course"] [] := T.s__law_linked_right.binds fun _ _ _ _ _ _ us hl => match us, hl with | [_, _, _], _ => rfl
theorem Txt.g__law_linked_right (T : Txt K mg ad fdn) : FnG P w K mg base 8 (ad "_law_linked_right") (fdn "_law_linked_right") ["purse", "web", "course"] (spD mg 3 f_law_linked_right) :=
  fnD_of (kp := [0]) (G := f_law_linked_right_b) T.s__law_linked_right scf_law_linked_right rfl rfl rfl fun cdv A outer s H E hr hg => by
  have nd := (scf_law_linked_right).nd
  exact (dss_cons (ds_frz [3] (ds_setComp (own := [("flight", 4)]) (i := 3) rfl nd rfl rfl (sw_true rfl rfl rfl (by decide +kernel)) (by decide) (di_seq (de_sub (hu1 hr) (de_name (pv 1)) de_int (fun _ _ => rfl))) (blkOk_by (by change blkC ["purse", "web", "course", "names", "flight", "pairs", "one", "other", "many", "more", "row", "late"] (defScope (topS 36)) _ _ = true; decide +kernel)) (fun _ _ _ _ _ => (dg_name (pg_name (i := 4) nd rfl (by first | exact .inl rfl | exact .inr rfl)) (by change ¬ _ ∈ others 12 [4]; decide))) (fun _ _ _ _ _ => pts_yes) (fun _ _ _ _ _ => (de_sub (hu1 hr) (de_name (pv 4)) de_int (fun _ _ => rfl))) (by decide) (by change ∀ v ∈ ([4] : List Nat), v < 12; decide)))
  (dss_cons (ds_frz [5] (ds_setComp (own := [("one", 6), ("other", 7), ("many", 8)]) (i := 5) rfl nd rfl rfl (sw_true rfl rfl rfl (by decide +kernel)) (by decide) (di_seq (de_sub (hu1 hr) (de_name (pv 1)) de_int (fun _ _ => rfl))) (blkOk_by (by change blkC ["purse", "web", "course", "names", "flight", "pairs", "one", "other", "many", "more", "row", "late"] (defScope (topS 36)) _ _ = true; decide +kernel)) (fun _ _ _ _ _ => (dg_tup rfl (dgs_cons (dg_name (pg_name (i := 6) nd rfl (by first | exact .inl rfl | exact .inr rfl)) (by change ¬ _ ∈ others 12 [6, 7, 8]; decide)) (dgs_cons (dg_name (pg_name (i := 7) nd rfl (by first | exact .inl rfl | exact .inr rfl)) (by change ¬ _ ∈ others 12 [6, 7, 8]; decide)) (dgs_cons (dg_name (pg_name (i := 8) nd rfl (by first | exact .inl rfl | exact .inr rfl)) (by change ¬ _ ∈ others 12 [6, 7, 8]; decide)) dgs_nil))))) (fun _ _ _ _ _ => pts_yes) (fun _ _ _ _ _ => (de_tuple (da_cons (de_name (pv 6)) (da_cons (de_name (pv 7)) da_nil)))) (by decide) (by change ∀ v ∈ ([6, 7, 8] : List Nat), v < 12; decide)))
  (dss_cons (ds_frz [6, 7] (ds_par (i := 6) (j := 7) rfl nd rfl rfl (by decide) (by decide) (by decide) rfl rfl (da_cons (de_callP (T.g__law_one_of) hg (hr.mono (by first | decide | omega)) rfl T.m__law_one_of T.kp__law_one_of T.b__law_one_of .nil passesD Dfl.nil (pv 0) (da_cons (de_name (pv 3)) da_nil) (lenP (mCons_len mNil_len) rfl)) (da_cons (de_callP (T.g__law_one_of) hg (hr.mono (by first | decide | omega)) rfl T.m__law_one_of T.kp__law_one_of T.b__law_one_of .nil passesD Dfl.nil (pv 0) (da_cons (de_name (pv 3)) da_nil) (lenP (mCons_len mNil_len) rfl)) da_nil)) rfl))
  (dss_cons (ds_frz [9] (ds_set (i := 9) nd rfl (.inl rfl) (by decide) (de_ifExp (dt_w (dw_and (dt_notIn (hu65 hr) (de_tuple (da_cons (de_name (pv 6)) (da_cons (de_name (pv 7)) da_nil))) (de_name (pv 5))) (dw_and1 (dt_cmp (op_neDD hr.units) (de_name (pv 6)) (de_name (pv 7)) (nomark _))))) (de_tuple (da_cons de_str (da_cons (de_sub (hu1 hr) (de_name (pv 1)) de_int (fun _ _ => rfl)) (da_cons (de_callB (cd_sorted) rfl T.n_sorted (by decide +kernel) (da_cons (de_op op_addD (de_sub (hu1 hr) (de_name (pv 1)) de_int (fun _ _ => rfl)) (de_list (da_cons (de_tuple (da_cons (de_name (pv 6)) (da_cons (de_name (pv 7)) (da_cons (de_callP (T.g__law_draw) hg (hr.mono (by first | decide | omega)) rfl T.m__law_draw T.kp__law_draw T.b__law_draw .nil passesD Dfl.nil (pv 0) (da_cons de_int da_nil) (lenP (mCons_len mNil_len) rfl)) da_nil)))) da_nil))) da_nil)) da_nil)))) (de_name (pv 1)))))
  (dss_cons (ds_if (dt_cmp (op_isNotDD) (de_call (T.g_is_web) hg (hr.mono (by first | decide | omega)) rfl T.m_is_web T.kp_is_web T.b_is_web .nil passesD Dfl.nil (da_cons (de_name (pv 9)) da_nil) (mCons_len mNil_len)) de_bool (nomark _)) (dss_one (ds_ret de_bool)) dss_nil)
  (dss_one (ds_ret (de_and (de_cmp (op_eqDD hr.units) (de_comp (own := [("row", 10), ("late", 11)]) rfl nd (di_zip rfl T.n_zip (de_call (T.g_web_times) hg (hr.mono (by first | decide | omega)) rfl T.m_web_times T.kp_web_times T.b_web_times .nil passesD Dfl.nil (da_cons (de_name (pv 1)) (da_cons (de_name (pv 2)) da_nil)) (mCons_len (mCons_len mNil_len))) (de_call (T.g_web_times) hg (hr.mono (by first | decide | omega)) rfl T.m_web_times T.kp_web_times T.b_web_times .nil passesD Dfl.nil (da_cons (de_name (pv 9)) (da_cons (de_name (pv 2)) da_nil)) (mCons_len (mCons_len mNil_len)))) (blkOk_by (by change blkC ["purse", "web", "course", "names", "flight", "pairs", "one", "other", "many", "more", "row", "late"] (defScope (topS 36)) _ _ = true; decide +kernel)) (fun _ _ _ _ _ => (dg_tup rfl (dgs_cons (dg_name (pg_name (i := 10) nd rfl (by first | exact .inl rfl | exact .inr rfl)) (by change ¬ _ ∈ others 12 [10, 11]; decide)) (dgs_cons (dg_name (pg_name (i := 11) nd rfl (by first | exact .inl rfl | exact .inr rfl)) (by change ¬ _ ∈ others 12 [10, 11]; decide)) dgs_nil)))) (fun _ _ _ _ _ => (pts_one (dt_cmp (op_ltDD2 (hu1 hr)) (de_sub (hu1 hr) (de_name (pv 11)) de_int (fun _ _ => rfl)) (de_sub (hu1 hr) (de_name (pv 10)) de_int (fun _ _ => rfl)) (nomark _)))) (fun _ _ _ _ _ => de_int) (by decide) (by change ∀ v ∈ ([10, 11] : List Nat), v < 12; decide)) (de_list da_nil) (nomark _)) (de_one (de_call (T.g__law_told_right) hg (hr.mono (by first | decide | omega)) rfl T.m__law_told_right T.kp__law_told_right T.b__law_told_right .nil passesD Dfl.nil (da_cons (de_name (pv 9)) (da_cons (de_name (pv 2)) da_nil)) (mCons_len (mCons_len mNil_len))))))))))))
theorem scf_law : FnScope ["script", "purse", "web", "kept", "courses", "flight", "course", "shown", "known"] ["script"] (defScope (topS 37)) := ⟨rfl, rfl, rfl, by decide +kernel, rfl, by decide +kernel, by decide +kernel⟩
theorem Txt.kp_law (T : Txt K mg ad fdn) : PySem.W.keepIn K (.ref (ad "law")) = true := T.s_law.kp
theorem Txt.b_law (T : Txt K mg ad fdn) : Binds K (fdn "law") ["script"] [] := T.s_law.binds fun _ _ _ _ _ _ us hl => match us, hl with | [_], _ => rfl
theorem Txt.g_law (T : Txt K mg ad fdn) : FnG P w K mg base 9 (ad "law") (fdn "law") ["script"] (spD mg 1 f_law) :=
  fnD_of (kp := []) (G := f_law_b) T.s_law scf_law rfl rfl rfl fun cdv A outer s H E hr hg => by
  have nd := (scf_law).nd
  exact (dss_cons (ds_forO ownD rfl (de_call (T.g__law_purses) hg (hr.mono (by first | decide | omega)) rfl T.m__law_purses T.kp__law_purses T.b__law_purses .nil passesD Dfl.nil (da_cons (de_name (pv 0)) (da_cons de_int da_nil)) (mCons_len (mCons_len mNil_len))) (dg_name (pg_name (i := 1) nd rfl (by first | exact .inl rfl | exact .inr rfl)) (by decide)) (dss_fgt [1, 2, 3, 4, 6, 7] (dss_cons (ds_frz [2] (ds_set (i := 2) nd rfl (.inl rfl) (by decide) (de_callP (T.g__law_web) hg (hr.mono (by first | decide | omega)) rfl T.m__law_web T.kp__law_web T.b__law_web .nil passesD Dfl.nil (pv 1) (da_cons (de_op op_addD de_int (de_callP (T.g__law_draw) hg (hr.mono (by first | decide | omega)) rfl T.m__law_draw T.kp__law_draw T.b__law_draw .nil passesD Dfl.nil (pv 1) (da_cons de_int da_nil) (lenP (mCons_len mNil_len) rfl))) (da_cons (de_callP (T.g__law_one_of) hg (hr.mono (by first | decide | omega)) rfl T.m__law_one_of T.kp__law_one_of T.b__law_one_of .nil passesD Dfl.nil (pv 1) (da_cons (de_list (da_cons de_int (da_cons de_int (da_cons (de_op op_powD de_int de_int) da_nil)))) da_nil) (lenP (mCons_len mNil_len) rfl)) (da_cons (de_callP (T.g__law_one_of) hg (hr.mono (by first | decide | omega)) rfl T.m__law_one_of T.kp__law_one_of T.b__law_one_of .nil passesD Dfl.nil (pv 1) (da_cons (de_list (da_cons de_int (da_cons de_int da_nil))) da_nil) (lenP (mCons_len mNil_len) rfl)) da_nil))) (lenP (mCons_len (mCons_len (mCons_len mNil_len))) rfl))))
  (dss_cons (ds_set (i := 3) nd rfl (.inl rfl) (by decide) (de_callB (cd_repr hg hr.units) rfl T.n_repr (by decide +kernel) (da_cons (de_name (pv 2)) da_nil)))
  (dss_cons (ds_frz [4] (ds_set (i := 4) nd rfl (.inl rfl) (by decide) (de_list (da_cons (de_callTy (cd_dict rfl) rfl T.n_dict (by decide +kernel) (da_cons (de_callP (T.g__law_shuffled) hg (hr.mono (by first | decide | omega)) rfl T.m__law_shuffled T.kp__law_shuffled T.b__law_shuffled .nil passesD Dfl.nil (pv 1) (da_cons (de_listItems rfl (de_callP (T.g__law_drawn_course) hg (hr.mono (by first | decide | omega)) rfl T.m__law_drawn_course T.kp__law_drawn_course T.b__law_drawn_course .nil passesD Dfl.nil (pv 1) (da_cons (de_name (pv 2)) da_nil) (lenP (mCons_len mNil_len) rfl)) rfl T.n_list) da_nil) (lenP (mCons_len mNil_len) rfl)) da_nil)) (da_cons (de_callTy (cd_dict rfl) rfl T.n_dict (by decide +kernel) (da_cons (de_comp (own := [("flight", 5)]) rfl nd (di_seq (de_sub (hu1 hr) (de_name (pv 2)) de_int (fun _ _ => rfl))) (blkOk_by (by change blkC ["script", "purse", "web", "kept", "courses", "flight", "course", "shown", "known"] (defScope (topS 37)) _ _ = true; decide +kernel)) (fun _ _ _ _ _ => (dg_name (pg_name (i := 5) nd rfl (by first | exact .inl rfl | exact .inr rfl)) (by change ¬ _ ∈ others 9 [5]; decide))) (fun _ _ _ _ _ => pts_yes) (fun _ _ _ _ _ => (de_tuple (da_cons (de_sub (hu1 hr) (de_name (pv 5)) de_int (fun _ _ => rfl)) (da_cons (de_sub (hu1 hr) (de_name (pv 5)) de_int (fun _ _ => rfl)) da_nil)))) (by decide) (by change ∀ v ∈ ([5] : List Nat), v < 9; decide)) da_nil)) (da_cons (de_callTy (cd_dict rfl) rfl T.n_dict (by decide +kernel) (da_cons (de_comp (own := [("flight", 5)]) rfl nd (di_seq (de_sub (hu1 hr) (de_name (pv 2)) de_int (fun _ _ => rfl))) (blkOk_by (by change blkC ["script", "purse", "web", "kept", "courses", "flight", "course", "shown", "known"] (defScope (topS 37)) _ _ = true; decide +kernel)) (fun _ _ _ _ _ => (dg_name (pg_name (i := 5) nd rfl (by first | exact .inl rfl | exact .inr rfl)) (by change ¬ _ ∈ others 9 [5]; decide))) (fun _ _ _ _ _ => pts_yes) (fun _ _ _ _ _ => (de_tuple (da_cons (de_sub (hu1 hr) (de_name (pv 5)) de_int (fun _ _ => rfl)) (da_cons (de_sub (hu1 hr) (de_name (pv 5)) de_int (fun _ _ => rfl)) da_nil)))) (by decide) (by change ∀ v ∈ ([5] : List Nat), v < 9; decide)) da_nil)) da_nil))))))
  (dss_cons (ds_for ownD rfl (di_seq (de_name (pv 4))) (dg_name (pg_name (i := 6) nd rfl (by first | exact .inl rfl | exact .inr rfl)) (by decide)) (dss_fgt [6, 7] (dss_cons (ds_set (i := 7) nd rfl (.inl rfl) (by decide) (de_callB (cd_repr hg hr.units) rfl T.n_repr (by decide +kernel) (da_cons (de_name (pv 6)) da_nil)))
  (dss_cons (ds_if (dt_w (dw_or (dt_not (dt_val (de_call (T.g__law_told_right) hg (hr.mono (by first | decide | omega)) rfl T.m__law_told_right T.kp__law_told_right T.b__law_told_right .nil passesD Dfl.nil (da_cons (de_name (pv 2)) (da_cons (de_name (pv 6)) da_nil)) (mCons_len (mCons_len mNil_len))))) (dw_or (dt_not (dt_val (de_callP (T.g__law_turned_right) hg (hr.mono (by first | decide | omega)) rfl T.m__law_turned_right T.kp__law_turned_right T.b__law_turned_right .nil passesD Dfl.nil (pv 1) (da_cons (de_name (pv 2)) (da_cons (de_name (pv 6)) da_nil)) (lenP (mCons_len (mCons_len mNil_len)) rfl)))) (dw_or1 (dt_not (dt_val (de_callP (T.g__law_linked_right) hg (hr.mono (by first | decide | omega)) rfl T.m__law_linked_right T.kp__law_linked_right T.b__law_linked_right .nil passesD Dfl.nil (pv 1) (da_cons (de_name (pv 2)) (da_cons (de_name (pv 6)) da_nil)) (lenP (mCons_len (mCons_len mNil_len)) rfl)))))))) (dss_one (ds_ret de_bool)) dss_nil)
  (dss_one (ds_if (dt_cmp (op_neDD hr.units) (de_callB (cd_repr hg hr.units) rfl T.n_repr (by decide +kernel) (da_cons (de_name (pv 6)) da_nil)) (de_name (pv 7)) (nomark _)) (dss_one (ds_ret de_bool)) dss_nil))))))
  (dss_one (ds_if (dt_cmp (op_neDD hr.units) (de_callB (cd_repr hg hr.units) rfl T.n_repr (by decide +kernel) (da_cons (de_name (pv 2)) da_nil)) (de_name (pv 3)) (nomark _)) (dss_one (ds_ret de_bool)) dss_nil))))))))
  (dss_cons (ds_frz [8] (ds_set (i := 8) nd rfl (.inl rfl) (by decide) (de_tuple (da_cons de_str (da_cons (de_list (da_cons (de_tuple (da_cons de_str (da_cons de_int (da_cons de_int (da_cons de_int da_nil))))) (da_cons (de_tuple (da_cons de_str (da_cons de_int (da_cons de_int (da_cons de_int da_nil))))) (da_cons (de_tuple (da_cons de_str (da_cons de_int (da_cons de_int (da_cons de_int da_nil))))) da_nil)))) (da_cons (de_list (da_cons (de_tuple (da_cons de_str (da_cons de_str (da_cons de_int da_nil)))) da_nil)) da_nil))))))
  (dss_one (ds_ret (de_call (T.g__law_exact 5) hg (hr.mono (by first | decide | omega)) rfl T.m__law_exact T.kp__law_exact T.b__law_exact .nil passesD Dfl.nil (da_cons (de_list (da_cons (de_tuple (da_cons de_str (da_cons de_int (da_cons de_int da_nil)))) (da_cons (de_tuple (da_cons de_str (da_cons de_int (da_cons de_int da_nil)))) (da_cons (de_tuple (da_cons de_str (da_cons de_int (da_cons de_int da_nil)))) da_nil)))) (da_cons (de_call (T.g_web_times) hg (hr.mono (by first | decide | omega)) rfl T.m_web_times T.kp_web_times T.b_web_times .nil passesD Dfl.nil (da_cons (de_name (pv 8)) (da_cons (de_disp (dp_cons de_str de_int (dp_cons de_str de_int (dp_cons de_str de_int dp_nil))) rfl rfl (by simp) (by decide)) da_nil)) (mCons_len (mCons_len mNil_len))) da_nil)) (mCons_len (mCons_len mNil_len)))))))
end
theorem txt_all {K : PySem.W.Frag} {mg : Str → Option Value} {h : Heap} (X : K.In h) (G : h.Ns mainGlobals mg)
    (z_all : PySem.W.nsIn K mainGlobals "all" = some none)
    (z_bool : PySem.W.nsIn K mainGlobals "bool" = some none)
    (z_dict : PySem.W.nsIn K mainGlobals "dict" = some none)
    (z_enumerate : PySem.W.nsIn K mainGlobals "enumerate" = some none)
    (z_int : PySem.W.nsIn K mainGlobals "int" = some none)
    (z_isinstance : PySem.W.nsIn K mainGlobals "isinstance" = some none)
    (z_len : PySem.W.nsIn K mainGlobals "len" = some none)
    (z_list : PySem.W.nsIn K mainGlobals "list" = some none)
    (z_max : PySem.W.nsIn K mainGlobals "max" = some none)
    (z_min : PySem.W.nsIn K mainGlobals "min" = some none)
    (z_range : PySem.W.nsIn K mainGlobals "range" = some none)
    (z_repr : PySem.W.nsIn K mainGlobals "repr" = some none)
    (z_sorted : PySem.W.nsIn K mainGlobals "sorted" = some none)
    (z_str : PySem.W.nsIn K mainGlobals "str" = some none)
    (z_sum : PySem.W.nsIn K mainGlobals "sum" = some none)
    (z_tuple : PySem.W.nsIn K mainGlobals "tuple" = some none)
    (z_zip : PySem.W.nsIn K mainGlobals "zip" = some none)
    (h_is_whole : FactF K "is_whole" (topS 4))
    (h_is_count : FactD K "is_count" (topS 5) [.int 0])
    (h_is_word : FactF K "is_word" (topS 6))
    (h_is_tuple_of : FactF K "is_tuple_of" (topS 7))
    (h_is_said : FactF K "is_said" (topS 8))
    (h_is_web_flight : FactF K "is_web_flight" (topS 12))
    (h_is_web_link : FactF K "is_web_link" (topS 13))
    (h_flights_in_order : FactF K "flights_in_order" (topS 14))
    (h_names_of_web : FactF K "names_of_web" (topS 15))
    (h_is_web : FactF K "is_web" (topS 16))
    (h_check_web : FactF K "check_web" (topS 17))
    (h_is_run_of_web : FactF K "is_run_of_web" (topS 18))
    (h_is_web_course : FactF K "is_web_course" (topS 19))
    (h_web_times_by : FactF K "web_times_by" (topS 20))
    (h_web_times : FactF K "web_times" (topS 21))
    (h__law_purse : FactF K "_law_purse" (topS 23))
    (h__law_mixed : FactF K "_law_mixed" (topS 24))
    (h__law_draw : FactF K "_law_draw" (topS 25))
    (h__law_purses : FactF K "_law_purses" (topS 26))
    (h__law_one_of : FactF K "_law_one_of" (topS 27))
    (h__law_shuffled : FactF K "_law_shuffled" (topS 28))
    (h__law_exact : FactF K "_law_exact" (topS 29))
    (h__law_names : FactF K "_law_names" (topS 30))
    (h__law_web : FactF K "_law_web" (topS 31))
    (h__law_times : FactF K "_law_times" (topS 32))
    (h__law_drawn_course : FactF K "_law_drawn_course" (topS 33))
    (h__law_told_right : FactF K "_law_told_right" (topS 34))
    (h__law_turned_right : FactF K "_law_turned_right" (topS 35))
    (h__law_linked_right : FactF K "_law_linked_right" (topS 36))
    (h_law : FactF K "law" (topS 37)) : ∀ K', Less K K' → Txt K' mg (adK K) (fdK K) := fun K' hl => {
  n_all := PySem.W.mg_none_of X G z_all
  n_bool := PySem.W.mg_none_of X G z_bool
  n_dict := PySem.W.mg_none_of X G z_dict
  n_enumerate := PySem.W.mg_none_of X G z_enumerate
  n_int := PySem.W.mg_none_of X G z_int
  n_isinstance := PySem.W.mg_none_of X G z_isinstance
  n_len := PySem.W.mg_none_of X G z_len
  n_list := PySem.W.mg_none_of X G z_list
  n_max := PySem.W.mg_none_of X G z_max
  n_min := PySem.W.mg_none_of X G z_min
  n_range := PySem.W.mg_none_of X G z_range
  n_repr := PySem.W.mg_none_of X G z_repr
  n_sorted := PySem.W.mg_none_of X G z_sorted
  n_str := PySem.W.mg_none_of X G z_str
  n_sum := PySem.W.mg_none_of X G z_sum
  n_tuple := PySem.W.mg_none_of X G z_tuple
  n_zip := PySem.W.mg_none_of X G z_zip
  s_is_whole := h_is_whole.mk hl
  m_is_whole := h_is_whole.glob X G
  s_is_count := h_is_count.mk (by simp) hl
  m_is_count := h_is_count.glob X G
  s_is_word := h_is_word.mk hl
  m_is_word := h_is_word.glob X G
  s_is_tuple_of := h_is_tuple_of.mk hl
  m_is_tuple_of := h_is_tuple_of.glob X G
  s_is_said := h_is_said.mk hl
  m_is_said := h_is_said.glob X G
  s_is_web_flight := h_is_web_flight.mk hl
  m_is_web_flight := h_is_web_flight.glob X G
  s_is_web_link := h_is_web_link.mk hl
  m_is_web_link := h_is_web_link.glob X G
  s_flights_in_order := h_flights_in_order.mk hl
  m_flights_in_order := h_flights_in_order.glob X G
  s_names_of_web := h_names_of_web.mk hl
  m_names_of_web := h_names_of_web.glob X G
  s_is_web := h_is_web.mk hl
  m_is_web := h_is_web.glob X G
  s_check_web := h_check_web.mk hl
  m_check_web := h_check_web.glob X G
  s_is_run_of_web := h_is_run_of_web.mk hl
  m_is_run_of_web := h_is_run_of_web.glob X G
  s_is_web_course := h_is_web_course.mk hl
  m_is_web_course := h_is_web_course.glob X G
  s_web_times_by := h_web_times_by.mk hl
  m_web_times_by := h_web_times_by.glob X G
  s_web_times := h_web_times.mk hl
  m_web_times := h_web_times.glob X G
  s__law_purse := h__law_purse.mk hl
  m__law_purse := h__law_purse.glob X G
  s__law_mixed := h__law_mixed.mk hl
  m__law_mixed := h__law_mixed.glob X G
  s__law_draw := h__law_draw.mk hl
  m__law_draw := h__law_draw.glob X G
  s__law_purses := h__law_purses.mk hl
  m__law_purses := h__law_purses.glob X G
  s__law_one_of := h__law_one_of.mk hl
  m__law_one_of := h__law_one_of.glob X G
  s__law_shuffled := h__law_shuffled.mk hl
  m__law_shuffled := h__law_shuffled.glob X G
  s__law_exact := h__law_exact.mk hl
  m__law_exact := h__law_exact.glob X G
  s__law_names := h__law_names.mk hl
  m__law_names := h__law_names.glob X G
  s__law_web := h__law_web.mk hl
  m__law_web := h__law_web.glob X G
  s__law_times := h__law_times.mk hl
  m__law_times := h__law_times.glob X G
  s__law_drawn_course := h__law_drawn_course.mk hl
  m__law_drawn_course := h__law_drawn_course.glob X G
  s__law_told_right := h__law_told_right.mk hl
  m__law_told_right := h__law_told_right.glob X G
  s__law_turned_right := h__law_turned_right.mk hl
  m__law_turned_right := h__law_turned_right.glob X G
  s__law_linked_right := h__law_linked_right.mk hl
  m__law_linked_right := h__law_linked_right.glob X G
  s_law := h_law.mk hl
  m_law := h_law.glob X G }
theorem all_G {P : Program} {w : World} {K : PySem.W.Frag} {mg : Str → Option Value} {fa : Addr} (T : ∀ K', Less K K' → Txt K' mg (adK K) (fdK K)) (hfa : mg "law" = some (.ref fa)) : ∃ fd : FuncData, (∀ (s : Shared) (u : Value), BindsTo s fd ⟨[u], []⟩ [("script", u)]) ∧
    ∀ K', Less K K' → ∀ base : Heap, K'.In base → base.Ns mainGlobals mg → FnG P w K' mg base 9 fa fd ["script"] (spD mg 1 f_law) := by
  have T0 := T K (.inl rfl)
  have e := hfa.symm.trans T0.m_law
  cases e
  refine ⟨fdK K "law", fun s u => ?_, fun K' hl base _ _ => (T K' hl).g_law⟩
  obtain ⟨oc, od, kV, doc, pm, an, cdv, ct, osl, e, _⟩ := T0.s_law.ex
  rw [e]
  exact BindsTo.of_eq rfl
end K71

set_option Elab.async false
set_option linter.all false
set_option maxRecDepth 100000
open PySem PySem.W PyProof.Rows
set_option maxHeartbeats 0
open_top hd for PySem.Challenge.rw_eachdelay_k71_whole_times_of_webs
theorem PySem.Challenge.cw_eachdelay_k71_whole_times_of_webs_holds : PySem.Challenge.rw_eachdelay_k71_whole_times_of_webs.Holds :=
  hd (by
  k_fill
  refine DD.walkG (l := PySem.Challenge.rw_eachdelay_k71_whole_times_of_webs) (n := 63) (k := 9) (F := K71.f_law) (x := "script") rfl (by decide) rfl ⟨rfl, by decide, by decide⟩ (fun w h Y => PySem.W.kIn_of Y) ?G K71.plain
  case G =>
    intro w mg fa h KX G hmg
    refine K71.all_G (K71.txt_all KX G ?_ ?_ ?_ ?_ ?_ ?_ ?_ ?_ ?_ ?_ ?_ ?_ ?_ ?_ ?_ ?_ ?_ ?_ ?_ ?_ ?_ ?_ ?_ ?_ ?_ ?_ ?_ ?_ ?_ ?_ ?_ ?_ ?_ ?_ ?_ ?_ ?_ ?_ ?_ ?_ ?_ ?_ ?_ ?_ ?_ ?_ ?_) hmg
    · k_is
    · k_is
    · k_is
    · k_is
    · k_is
    · k_is
    · k_is
    · k_is
    · k_is
    · k_is
    · k_is
    · k_is
    · k_is
    · k_is
    · k_is
    · k_is
    · k_is
    · exact ⟨_, _, _, _, _, _, _, _, _, _, by k_is, by k_is, by k_is⟩
    · exact ⟨_, _, _, _, _, _, _, _, _, _, _, _, _, _, _, by k_is, by k_is, by k_is, by k_is, .cons ⟨_, rfl⟩ .nil⟩
    · exact ⟨_, _, _, _, _, _, _, _, _, _, by k_is, by k_is, by k_is⟩
    · exact ⟨_, _, _, _, _, _, _, _, _, _, by k_is, by k_is, by k_is⟩
    · exact ⟨_, _, _, _, _, _, _, _, _, _, by k_is, by k_is, by k_is⟩
    · exact ⟨_, _, _, _, _, _, _, _, _, _, by k_is, by k_is, by k_is⟩
    · exact ⟨_, _, _, _, _, _, _, _, _, _, by k_is, by k_is, by k_is⟩
    · exact ⟨_, _, _, _, _, _, _, _, _, _, by k_is, by k_is, by k_is⟩
    · exact ⟨_, _, _, _, _, _, _, _, _, _, by k_is, by k_is, by k_is⟩
    · exact ⟨_, _, _, _, _, _, _, _, _, _, by k_is, by k_is, by k_is⟩
    · exact ⟨_, _, _, _, _, _, _, _, _, _, by k_is, by k_is, by k_is⟩
    · exact ⟨_, _, _, _, _, _, _, _, _, _, by k_is, by k_is, by k_is⟩
    · exact ⟨_, _, _, _, _, _, _, _, _, _, by k_is, by k_is, by k_is⟩
    · exact ⟨_, _, _, _, _, _, _, _, _, _, by k_is, by k_is, by k_is⟩
    · exact ⟨_, _, _, _, _, _, _, _, _, _, by k_is, by k_is, by k_is⟩
    · exact ⟨_, _, _, _, _, _, _, _, _, _, by k_is, by k_is, by k_is⟩
    · exact ⟨_, _, _, _, _, _, _, _, _, _, by k_is, by k_is, by k_is⟩
    · exact ⟨_, _, _, _, _, _, _, _, _, _, by k_is, by k_is, by k_is⟩
    · exact ⟨_, _, _, _, _, _, _, _, _, _, by k_is, by k_is, by k_is⟩
    · exact ⟨_, _, _, _, _, _, _, _, _, _, by k_is, by k_is, by k_is⟩
    · exact ⟨_, _, _, _, _, _, _, _, _, _, by k_is, by k_is, by k_is⟩
    · exact ⟨_, _, _, _, _, _, _, _, _, _, by k_is, by k_is, by k_is⟩
    · exact ⟨_, _, _, _, _, _, _, _, _, _, by k_is, by k_is, by k_is⟩
    · exact ⟨_, _, _, _, _, _, _, _, _, _, by k_is, by k_is, by k_is⟩
    · exact ⟨_, _, _, _, _, _, _, _, _, _, by k_is, by k_is, by k_is⟩
    · exact ⟨_, _, _, _, _, _, _, _, _, _, by k_is, by k_is, by k_is⟩
    · exact ⟨_, _, _, _, _, _, _, _, _, _, by k_is, by k_is, by k_is⟩
    · exact ⟨_, _, _, _, _, _, _, _, _, _, by k_is, by k_is, by k_is⟩
    · exact ⟨_, _, _, _, _, _, _, _, _, _, by k_is, by k_is, by k_is⟩
    · exact ⟨_, _, _, _, _, _, _, _, _, _, by k_is, by k_is, by k_is⟩
  )

