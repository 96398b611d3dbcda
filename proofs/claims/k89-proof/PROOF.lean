import PyProof.Rows.All
import Wide.All
import OpenK.AllK
import Wide.FinOn
import HandS.ForMost
import HandS.Exc
import HandS.ExcOwn
import HandS.TryOnly
import HandS.WordsExc
import HandS.TupAny
import HandS.Wide
import HandS.IsInst
import HandS.Zip
import HandS.Conv
import HandS.ExcIs
import HandS.HeadEnd
import HandS.HeadHook2
import KE.KDictPairs
import HandS.Style
import HandS.Strs
import HandS.TupSets
import PyProof.Rows.SortShellAny
import KE.SortData
import HandS.Deep
import HandS.More
import HandS.SetFor
import KE.GoesEnum
import HandS.TupMul
import HandS.ExcValue
import HandS.Head2
import PySem.Challenge.RW_lettershares_k89_whole_judged
set_option Elab.async false
set_option linter.all false
set_option maxRecDepth 100000
set_option maxHeartbeats 0
/-! A layer of plain values over the hand layer, the program's defs in it, what they compute, and the law. By an AI agent, no person has read it; unjudged. -/
/-! A layer of plain values over the hand layer: what an expression or a statement does to values, the heap out of sight. -/
namespace VL
open PySem PySem.Spec PyProof.Rows L2

/-- plain values: no addresses -/
inductive D where
  | non | bl (b : Bool) | int (i : Int) | str (x : Str) | tup (xs : List D) | lst (xs : List D) | pr (xs : List D) | ll (xs : List D) | dct (kvs : List (Key × D)) | atm (n : Str) | exc (c : Str)

/-- what is fixed through a law: the written part, what atoms stand for, where an error's class stands -/
structure Yc where
  K : PySem.W.Frag
  at_ : V → Str → Prop
  ca : Str → Addr

/-- an exception of the class at C, which is held as a value -/
def ExH (C a : Addr) : HO := .ext fun h => ∃ (oe : Obj) (vs : Array Value), h.get? a = some oe ∧ Zc (.ref C) none oe ∧ oe.data = .fields vs
/-- a tuple whose very object is known, without attributes of its own -/
def TupS (H : Hp) (a : Addr) (xs : List V) : Prop := ∃ o, H a = some (.frz o (.tup xs)) ∧ o.dict = none
theorem TupS.seq {K : PySem.W.Frag} {H : Hp} {a : Addr} {xs : List V} (h : TupS H a xs) : SqT K H a xs := by
  obtain ⟨o, h, _⟩ := h
  exact .inl (.inr ⟨o, h⟩)
theorem TupS.mono {H H' : Hp} {a : Addr} {xs : List V} (e : Same H H') (h : TupS H a xs) : TupS H' a xs := by
  obtain ⟨o, h, q⟩ := h
  exact ⟨o, e _ _ h, q⟩
mutual
inductive Rep (Y : Yc) (H : Hp) : V → D → Prop
  | non : Rep Y H .non .non
  | bl (b : Bool) : Rep Y H (.bl b) (.bl b)
  | int (i : Int) : Rep Y H (.int i) (.int i)
  | str (x : Str) : Rep Y H (.str x) (.str x)
  | lst {a : Addr} {xs : List V} {ds : List D} : H a = some (.lst xs) → RepL Y H xs ds → Rep Y H (.ref a) (.lst ds)
  | ll {a : Addr} {xs : List V} {ds : List D} : SqL Y.K H a xs → RepL Y H xs ds → Rep Y H (.ref a) (.ll ds)
  | tup {a : Addr} {xs : List V} {ds : List D} : TupS H a xs → RepL Y H xs ds → Rep Y H (.ref a) (.tup ds)
  | pr {a : Addr} {xs : List V} {ds : List D} : SqT Y.K H a xs → RepL Y H xs ds → Rep Y H (.ref a) (.pr ds)
  | dct {a : Addr} {kvs : List (Key × V)} {ds : List (Key × D)} : Rd H a (.dK kvs) → RepK Y H kvs ds → Rep Y H (.ref a) (.dct ds)
  | atm {v : V} {n : Str} : Y.at_ v n → Rep Y H v (.atm n)
  | exc {a : Addr} {c : Str} : H a = some (ExH (Y.ca c) a) → Rep Y H (.ref a) (.exc c)
inductive RepL (Y : Yc) (H : Hp) : List V → List D → Prop
  | nil : RepL Y H [] []
  | cons {v : V} {vs : List V} {d : D} {ds : List D} : Rep Y H v d → RepL Y H vs ds → RepL Y H (v :: vs) (d :: ds)
inductive RepK (Y : Yc) (H : Hp) : List (Key × V) → List (Key × D) → Prop
  | nil : RepK Y H [] []
  | cons {k : Key} {v : V} {vs : List (Key × V)} {d : D} {ds : List (Key × D)} : Rep Y H v d → RepK Y H vs ds → RepK Y H ((k, v) :: vs) ((k, d) :: ds)
end

theorem sqt_same {K : PySem.W.Frag} {H H' : Hp} {a : Addr} {xs : List V} (e : Same H H') (h : SqT K H a xs) : SqT K H' a xs := by
  rcases h with (h | ⟨o, h⟩) | h
  · exact .inl (.inl (e _ _ h))
  · exact .inl (.inr ⟨o, e _ _ h⟩)
  · exact .inr h

theorem rd_same {H H' : Hp} {a : Addr} {u : HO} (e : Same H H') (h : Rd H a u) : Rd H' a u := by
  rcases h with h | ⟨o, h⟩
  · exact .inl (e _ _ h)
  · exact .inr ⟨o, e _ _ h⟩
mutual
theorem Rep.mono {Y : Yc} {H H' : Hp} (e : Same H H') : ∀ {d : D} {v : V}, Rep Y H v d → Rep Y H' v d
  | .non, _, h => by cases h; exact .non
  | .bl b, _, h => by cases h; exact .bl b
  | .int i, _, h => by cases h; exact .int i
  | .str x, _, h => by cases h; exact .str x
  | .lst ds, _, h => by
    cases h with
    | lst hs ha => exact .lst (e _ _ hs) (RepL.mono e ha)
  | .ll ds, _, h => by
    cases h with
    | ll hs ha => exact .ll (e.seq hs) (RepL.mono e ha)
  | .tup ds, _, h => by
    cases h with
    | tup hs ha => exact .tup (hs.mono e) (RepL.mono e ha)
  | .pr ds, _, h => by
    cases h with
    | pr hs ha => exact .pr (sqt_same e hs) (RepL.mono e ha)
  | .dct ds, _, h => by
    cases h with
    | dct hs ha => exact .dct (rd_same e hs) (RepK.mono e ha)
  | .atm n, _, h => by
    cases h with
    | atm q => exact .atm q
  | .exc n, _, h => by
    cases h with
    | exc q => exact .exc (e _ _ q)
theorem RepL.mono {Y : Yc} {H H' : Hp} (e : Same H H') : ∀ {ds : List D} {vs : List V}, RepL Y H vs ds → RepL Y H' vs ds
  | [], _, h => by cases h; exact .nil
  | d :: ds, _, h => by
    cases h with
    | cons h1 h2 => exact .cons (Rep.mono e h1) (RepL.mono e h2)
theorem RepK.mono {Y : Yc} {H H' : Hp} (e : Same H H') : ∀ {ds : List (Key × D)} {vs : List (Key × V)}, RepK Y H vs ds → RepK Y H' vs ds
  | [], _, h => by cases h; exact .nil
  | (k, d) :: ds, _, h => by
    cases h with
    | cons h1 h2 => exact .cons (Rep.mono e h1) (RepK.mono e h2)
end

theorem RepL.length {Y : Yc} {H : Hp} : ∀ {vs : List V} {ds : List D}, RepL Y H vs ds → vs.length = ds.length
  | _, _, .nil => rfl
  | _, _, .cons _ h => by rw [List.length_cons, List.length_cons, RepL.length h]
theorem RepL.get {Y : Yc} {H : Hp} : ∀ {vs : List V} {ds : List D}, RepL Y H vs ds → ∀ {i : Nat} {d : D}, ds[i]? = some d → ∃ v, vs[i]? = some v ∧ Rep Y H v d
  | _, _, .nil, i, d, h => by simp at h
  | _, _, .cons h1 h2, 0, d, h => by
    have e := Option.some.inj h
    subst e
    exact ⟨_, rfl, h1⟩
  | _, _, .cons h1 h2, i + 1, d, h => RepL.get h2 (i := i) h
theorem RepL.append {Y : Yc} {H : Hp} : ∀ {vs : List V} {ds : List D}, RepL Y H vs ds → ∀ {vs' : List V} {ds' : List D}, RepL Y H vs' ds' → RepL Y H (vs ++ vs') (ds ++ ds')
  | _, _, .nil, _, _, h => h
  | _, _, .cons h1 h2, _, _, h => .cons h1 (RepL.append h2 h)
theorem RepL.take {Y : Yc} {H : Hp} : ∀ {vs : List V} {ds : List D} (n : Nat), RepL Y H vs ds → RepL Y H (vs.take n) (ds.take n)
  | _, _, 0, _ => .nil
  | _, _, n + 1, .nil => .nil
  | _, _, n + 1, .cons h1 h2 => .cons h1 (RepL.take n h2)
theorem RepL.drop {Y : Yc} {H : Hp} : ∀ {vs : List V} {ds : List D} (n : Nat), RepL Y H vs ds → RepL Y H (vs.drop n) (ds.drop n)
  | _, _, 0, h => h
  | _, _, n + 1, .nil => .nil
  | _, _, n + 1, .cons h1 h2 => RepL.drop n h2
theorem RepL.set {Y : Yc} {H : Hp} {v : V} {d : D} (r : Rep Y H v d) : ∀ {vs : List V} {ds : List D} (n : Nat), RepL Y H vs ds → RepL Y H (vs.set n v) (ds.set n d)
  | _, _, _, .nil => .nil
  | _, _, 0, .cons h1 h2 => .cons r h2
  | _, _, n + 1, .cons h1 h2 => .cons h1 (RepL.set r n h2)
theorem RepL.eraseIdx {Y : Yc} {H : Hp} : ∀ {vs : List V} {ds : List D} (n : Nat), RepL Y H vs ds → RepL Y H (vs.eraseIdx n) (ds.eraseIdx n)
  | _, _, _, .nil => .nil
  | _, _, 0, .cons h1 h2 => h2
  | _, _, n + 1, .cons h1 h2 => .cons h1 (RepL.eraseIdx n h2)
theorem RepL.ints {Y : Yc} {H : Hp} : ∀ {ns : List Int} {vs : List V}, RepL Y H vs (ns.map D.int) → vs = ns.map V.int
  | [], _, h => by cases h; rfl
  | n :: ns, _, h => by
    cases h with
    | cons h1 h2 =>
      cases h1
      rw [RepL.ints h2]
      rfl
theorem RepL.strs {Y : Yc} {H : Hp} : ∀ {ns : List Str} {vs : List V}, RepL Y H vs (ns.map D.str) → vs = ns.map V.str
  | [], _, h => by cases h; rfl
  | n :: ns, _, h => by
    cases h with
    | cons h1 h2 =>
      cases h1
      rw [RepL.strs h2]
      rfl
theorem RepL.bls {Y : Yc} {H : Hp} : ∀ {ns : List Bool} {vs : List V}, RepL Y H vs (ns.map D.bl) → vs = ns.map V.bl
  | [], _, h => by cases h; rfl
  | n :: ns, _, h => by
    cases h with
    | cons h1 h2 =>
      cases h1
      rw [RepL.bls h2]
      rfl
theorem RepL.of_ints {Y : Yc} {H : Hp} : ∀ (ns : List Int), RepL Y H (ns.map V.int) (ns.map D.int)
  | [] => .nil
  | n :: ns => .cons (.int n) (RepL.of_ints ns)
theorem RepL.of_strs {Y : Yc} {H : Hp} : ∀ (ns : List Str), RepL Y H (ns.map V.str) (ns.map D.str)
  | [] => .nil
  | n :: ns => .cons (.str n) (RepL.of_strs ns)

/-! ### growth -/
/-- from (Hs, H) to (Hs', H'): what was stays, what is new among the steady stands where nothing stood -/
structure Grow (Hs H Hs' H' : Hp) : Prop where
  ss : Same Hs Hs'
  hh : Same H H'
  sh : Same Hs' H'
  nw : ∀ b o, Hs' b = some o → Hs b = some o ∨ H b = none
theorem Grow.refl {Hs H : Hp} (h : Same Hs H) : Grow Hs H Hs H := ⟨.refl _, .refl _, h, fun _ _ q => .inl q⟩
theorem Grow.trans {Hs H Hs1 H1 Hs2 H2 : Hp} (a : Grow Hs H Hs1 H1) (b : Grow Hs1 H1 Hs2 H2) : Grow Hs H Hs2 H2 :=
  ⟨a.ss.trans b.ss, a.hh.trans b.hh, b.sh, fun c o q => by
    rcases b.nw c o q with h | h
    · exact a.nw c o h
    · exact .inr (a.hh.free h)⟩
theorem same_new {H : Hp} {p : Addr} {o : HO} (h : H p = none) : Same H (upd H p o) := fun b x e => by
  rw [upd_ne (ne_of_none e h)]
  exact e
/-- a new object, steady from now on -/
theorem Grow.new {Hs H : Hp} {p : Addr} (o : HO) (h : Same Hs H) (hp : H p = none) : Grow Hs H (upd Hs p o) (upd H p o) := by
  have hs : Hs p = none := h.free hp
  refine ⟨same_new hs, same_new hp, fun b x e => ?_, fun b x e => ?_⟩
  · by_cases hb : b = p
    · rw [hb, upd_same] at e
      rw [hb, upd_same]
      exact e
    · rw [upd_ne hb] at e
      rw [upd_ne hb]
      exact h b x e
  · by_cases hb : b = p
    · rw [hb]
      exact .inr hp
    · rw [upd_ne hb] at e
      exact .inl e
/-- the heap alone grows -/
theorem Grow.heap {Hs H H' : Hp} (h : Same Hs H) (g : Same H H') : Grow Hs H Hs H' := ⟨.refl _, g, h.trans g, fun _ _ q => .inl q⟩

/-! ### a dict locked while it is walked -/
def lk (a : Addr) (od : Obj) (u : HO) (H : Hp) : Hp := fun b => if b = a then (match H b with
  | some _ => some (.frz od u)
  | none => none) else H b
theorem lk_at {a : Addr} {od : Obj} {u o : HO} {H : Hp} (h : H a = some o) : lk a od u H a = some (.frz od u) := by
  unfold lk
  rw [if_pos rfl, h]
theorem lk_no {a : Addr} {od : Obj} {u : HO} {H : Hp} (h : H a = none) : lk a od u H a = none := by
  unfold lk
  rw [if_pos rfl, h]
theorem lk_ne {a b : Addr} {od : Obj} {u : HO} {H : Hp} (h : b ≠ a) : lk a od u H b = H b := by
  unfold lk
  rw [if_neg h]
theorem lk_upd {a : Addr} {od : Obj} {u o : HO} {H : Hp} (h : H a = some o) : lk a od u H = upd H a (.frz od u) := by
  funext b
  by_cases hb : b = a
  · rw [hb, lk_at h, upd_same]
  · rw [lk_ne hb, upd_ne hb]
theorem lk_none {a b : Addr} {od : Obj} {u : HO} {H : Hp} (h : H b = none) : lk a od u H b = none := by
  by_cases hb : b = a
  · rw [hb] at h ⊢
    exact lk_no h
  · rw [lk_ne hb]
    exact h
theorem lk_same {a : Addr} {od : Obj} {u : HO} {H H' : Hp} (e : Same H H') : Same (lk a od u H) (lk a od u H') := fun b o h => by
  by_cases hb : b = a
  · rw [hb] at h ⊢
    cases q : H a with
    | none =>
      rw [lk_no q] at h
      cases h
    | some x =>
      rw [lk_at q] at h
      rw [lk_at (e _ _ q)]
      exact h
  · rw [lk_ne hb] at h ⊢
    exact e _ _ h
theorem Grow.lk {Hs H Hs' H' : Hp} (g : Grow Hs H Hs' H') (a : Addr) (od : Obj) (u : HO) : Grow (lk a od u Hs) (VL.lk a od u H) (VL.lk a od u Hs') (VL.lk a od u H') := by
  refine ⟨lk_same g.ss, lk_same g.hh, lk_same g.sh, fun b o h => ?_⟩
  by_cases hb : b = a
  · rw [hb] at h ⊢
    cases q : Hs' a with
    | none =>
      rw [lk_no q] at h
      cases h
    | some x =>
      rw [lk_at q] at h
      rcases g.nw a x q with z | z
      · exact .inl (by rw [lk_at z]; exact h)
      · exact .inr (lk_no z)
  · rw [lk_ne hb] at h ⊢
    rw [lk_ne hb]
    exact g.nw b o h
/-- H' is H but for the dict at a, which may be locked in either -/
structure Lkd (a : Addr) (kvs : List (Key × V)) (H H' : Hp) : Prop where
  ne : ∀ b, b ≠ a → H' b = H b
  a1 : Rd H a (.dK kvs)
  a2 : Rd H' a (.dK kvs)
theorem Lkd.rd {a b : Addr} {kvs : List (Key × V)} {H H' : Hp} {u : HO} (l : Lkd a kvs H H') (h : Rd H b u) (hu : ∀ o v, u ≠ .frz o v) : Rd H' b u := by
  by_cases hb : b = a
  · subst hb
    have e : u = .dK kvs := by
      rcases h with h | ⟨o, h⟩
      · rcases l.a1 with q | ⟨o', q⟩
        · rw [h] at q
          exact Option.some.inj q
        · rw [h] at q
          exact absurd (Option.some.inj q) (hu _ _)
      · rcases l.a1 with q | ⟨o', q⟩
        · rw [h] at q
          cases q
        · rw [h] at q
          have q' := Option.some.inj q
          injection q'
    rw [e]
    exact l.a2
  · rcases h with h | ⟨o, h⟩
    · exact .inl (by rw [l.ne b hb]; exact h)
    · exact .inr ⟨o, by rw [l.ne b hb]; exact h⟩
theorem Lkd.tups {a b : Addr} {kvs : List (Key × V)} {H H' : Hp} {xs : List V} (l : Lkd a kvs H H') (h : TupS H b xs) : TupS H' b xs := by
  obtain ⟨o, h, q⟩ := h
  have hb : b ≠ a := fun e => by
    subst e
    rcases l.a1 with z | ⟨o', z⟩
    · rw [h] at z
      cases z
    · rw [h] at z
      have z' := Option.some.inj z
      injection z' with _ z'
      cases z'
  exact ⟨o, by rw [l.ne b hb]; exact h, q⟩
theorem Lkd.exts {a b : Addr} {kvs : List (Key × V)} {H H' : Hp} {φ : Heap → Prop} (l : Lkd a kvs H H') (h : H b = some (.ext φ)) : H' b = some (.ext φ) := by
  have hb : b ≠ a := fun e => by
    subst e
    rcases l.a1 with z | ⟨o', z⟩
    · rw [h] at z
      cases z
    · rw [h] at z
      cases z
  rw [l.ne b hb]
  exact h
theorem Lkd.lsts {a b : Addr} {kvs : List (Key × V)} {H H' : Hp} {xs : List V} (l : Lkd a kvs H H') (h : H b = some (.lst xs)) : H' b = some (.lst xs) := by
  have hb : b ≠ a := fun e => by
    subst e
    rcases l.a1 with z | ⟨o', z⟩
    · rw [h] at z
      cases z
    · rw [h] at z
      cases z
  rw [l.ne b hb]
  exact h
mutual
theorem Rep.lkd {Y : Yc} {a : Addr} {kvs : List (Key × V)} {H H' : Hp} (l : Lkd a kvs H H') : ∀ {d : D} {v : V}, Rep Y H v d → Rep Y H' v d
  | .non, _, h => by cases h; exact .non
  | .bl b, _, h => by cases h; exact .bl b
  | .int i, _, h => by cases h; exact .int i
  | .str x, _, h => by cases h; exact .str x
  | .lst ds, _, h => by
    cases h with
    | lst hs ha => exact .lst (l.lsts hs) (RepL.lkd l ha)
  | .ll ds, _, h => by
    cases h with
    | ll hs ha =>
      rcases hs with hs | hs
      · exact .ll (.inl (l.rd hs fun _ _ z => nomatch z)) (RepL.lkd l ha)
      · exact .ll (.inr hs) (RepL.lkd l ha)
  | .tup ds, _, h => by
    cases h with
    | tup hs ha => exact .tup (l.tups hs) (RepL.lkd l ha)
  | .pr ds, _, h => by
    cases h with
    | pr hs ha =>
      rcases hs with hs | hs
      · exact .pr (.inl (l.rd hs fun _ _ z => nomatch z)) (RepL.lkd l ha)
      · exact .pr (.inr hs) (RepL.lkd l ha)
  | .dct ds, _, h => by
    cases h with
    | dct hs ha => exact .dct (l.rd hs fun _ _ z => nomatch z) (RepK.lkd l ha)
  | .atm n, _, h => by
    cases h with
    | atm q => exact .atm q
  | .exc n, _, h => by
    cases h with
    | exc q => exact .exc (l.exts q)
theorem RepL.lkd {Y : Yc} {a : Addr} {kvs : List (Key × V)} {H H' : Hp} (l : Lkd a kvs H H') : ∀ {ds : List D} {vs : List V}, RepL Y H vs ds → RepL Y H' vs ds
  | [], _, h => by cases h; exact .nil
  | d :: ds, _, h => by
    cases h with
    | cons h1 h2 => exact .cons (Rep.lkd l h1) (RepL.lkd l h2)
theorem RepK.lkd {Y : Yc} {a : Addr} {kvs : List (Key × V)} {H H' : Hp} (l : Lkd a kvs H H') : ∀ {ds : List (Key × D)} {vs : List (Key × V)}, RepK Y H vs ds → RepK Y H' vs ds
  | [], _, h => by cases h; exact .nil
  | (k, d) :: ds, _, h => by
    cases h with
    | cons h1 h2 => exact .cons (Rep.lkd l h1) (RepK.lkd l h2)
end

/-! ### the values by slots -/
/-- what a def's own name alone holds, and may change: a list, a dict, a dict of lists that are its own -/
inductive OD where
  | L (ds : List D) | K (kvs : List (Key × D)) | KL (kvs : List (Key × List D))
def OD.d : OD → D
  | .L ds => .lst ds
  | .K kvs => .dct kvs
  | .KL kvs => .dct (kvs.map fun kv => (kv.1, .lst kv.2))
inductive OwnRep (Y : Yc) (Hs : Hp) : HO → OD → Prop
  | L {xs : List V} {ds : List D} : RepL Y Hs xs ds → OwnRep Y Hs (.lst xs) (.L ds)
  | K {kvs : List (Key × V)} {ds : List (Key × D)} : RepK Y Hs kvs ds → OwnRep Y Hs (.dK kvs) (.K ds)
theorem OwnRep.mono {Y : Yc} {H H' : Hp} {u : HO} {o : OD} (e : Same H H') (h : OwnRep Y H u o) : OwnRep Y H' u o := by
  cases h with
  | L h => exact .L (h.mono e)
  | K h => exact .K (h.mono e)
theorem OwnRep.rep {Y : Yc} {H : Hp} {u : HO} {o : OD} {p : Addr} (h : OwnRep Y H u o) (hp : H p = some u) : Rep Y H (.ref p) o.d := by
  cases h with
  | L h => exact .lst hp h
  | K h => exact .dct (.inl hp) h

/-- an object's attribute: a plain value, or a list that is its own -/
inductive FV where
  | v (d : D) | l (ds : List D)
/-- what a name holds: nothing known, a plain value, what is its own, an object that is its own -/
inductive Slot where
  | no | dat (d : D) | own (o : OD) | obj (C : Str) (fs : List (Str × FV))
abbrev Env := List Slot
def Slot.big : Slot → Bool
  | .own _ => true
  | .obj _ _ => true
  | _ => false
/-- a dict's own lists, and where they stand -/
inductive KLs (Y : Yc) (Hs H : Hp) : List (Key × V) → List (Key × List D) → List Addr → Prop
  | nil : KLs Y Hs H [] [] []
  | cons {k : Key} {q : Addr} {xs : List V} {ds : List D} {vs : List (Key × V)} {ks : List (Key × List D)} {qs : List Addr} : H q = some (.lst xs) → RepL Y Hs xs ds → KLs Y Hs H vs ks qs → KLs Y Hs H ((k, .ref q) :: vs) ((k, ds) :: ks) (q :: qs)
/-- an object's attributes, and where its own lists stand -/
inductive Fds (Y : Yc) (Hs H : Hp) : List (Str × V) → List (Str × FV) → List Addr → Prop
  | nil : Fds Y Hs H [] [] []
  | v {f : Str} {v : V} {d : D} {vs : List (Str × V)} {fs : List (Str × FV)} {qs : List Addr} : Rep Y Hs v d → Fds Y Hs H vs fs qs → Fds Y Hs H ((f, v) :: vs) ((f, .v d) :: fs) qs
  | l {f : Str} {q : Addr} {xs : List V} {ds : List D} {vs : List (Str × V)} {fs : List (Str × FV)} {qs : List Addr} : H q = some (.lst xs) → RepL Y Hs xs ds → Fds Y Hs H vs fs qs → Fds Y Hs H ((f, .ref q) :: vs) ((f, .l ds) :: fs) (q :: qs)
/-- what stands at p is this slot's own; fp: all its objects -/
inductive Own (Y : Yc) (Hs H : Hp) : Addr → List Addr → Slot → Prop
  | one {p : Addr} {u : HO} {o : OD} : H p = some u → OwnRep Y Hs u o → Own Y Hs H p [p] (.own o)
  | KL {p : Addr} {vs : List (Key × V)} {ks : List (Key × List D)} {qs : List Addr} : H p = some (.dK vs) → KLs Y Hs H vs ks qs → (p :: qs).Nodup → Own Y Hs H p (p :: qs) (.own (.KL ks))
  | obj {p dx : Addr} {C : Str} {vs : List (Str × V)} {fs : List (Str × FV)} {qs : List Addr} : H p = some (.ins (Y.ca C) dx vs) → H dx = some (.own p) → Fds Y Hs H vs fs qs → (p :: dx :: qs).Nodup → Own Y Hs H p (p :: dx :: qs) (.obj C fs)
theorem KLs.mono {Y : Yc} {Hs Hs' H H' : Hp} (e : Same Hs Hs') : ∀ {vs : List (Key × V)} {ks : List (Key × List D)} {qs : List Addr}, KLs Y Hs H vs ks qs → (∀ q ∈ qs, ∀ u, H q = some u → H' q = some u) → KLs Y Hs' H' vs ks qs
  | _, _, _, .nil, _ => .nil
  | _, _, _, .cons h1 h2 h3, h => .cons (h _ (List.mem_cons_self ..) _ h1) (h2.mono e) (h3.mono e fun q m => h q (List.mem_cons_of_mem _ m))
theorem Fds.mono {Y : Yc} {Hs Hs' H H' : Hp} (e : Same Hs Hs') : ∀ {vs : List (Str × V)} {ks : List (Str × FV)} {qs : List Addr}, Fds Y Hs H vs ks qs → (∀ q ∈ qs, ∀ u, H q = some u → H' q = some u) → Fds Y Hs' H' vs ks qs
  | _, _, _, .nil, _ => .nil
  | _, _, _, .v h1 h3, h => .v (h1.mono e) (h3.mono e h)
  | _, _, _, .l h1 h2 h3, h => .l (h _ (List.mem_cons_self ..) _ h1) (h2.mono e) (h3.mono e fun q m => h q (List.mem_cons_of_mem _ m))
/-- the objects themselves kept -/
theorem Own.mono {Y : Yc} {Hs Hs' H H' : Hp} {p : Addr} {fp : List Addr} {s : Slot} (e : Same Hs Hs') (h : ∀ q ∈ fp, ∀ u, H q = some u → H' q = some u) (x : Own Y Hs H p fp s) : Own Y Hs' H' p fp s := by
  cases x with
  | one h1 h2 => exact .one (h _ (List.mem_cons_self ..) _ h1) (h2.mono e)
  | KL h1 h2 h3 => exact .KL (h _ (List.mem_cons_self ..) _ h1) (h2.mono e fun q m => h q (List.mem_cons_of_mem _ m)) h3
  | obj h1 h2 h3 h4 => exact .obj (h _ (List.mem_cons_self ..) _ h1) (h _ (List.mem_cons_of_mem _ (List.mem_cons_self ..)) _ h2) (h3.mono e fun q m => h q (List.mem_cons_of_mem _ (List.mem_cons_of_mem _ m))) h4
theorem KLs.dom {Y : Yc} {Hs H : Hp} : ∀ {vs : List (Key × V)} {ks : List (Key × List D)} {qs : List Addr}, KLs Y Hs H vs ks qs → ∀ q ∈ qs, ∃ u, H q = some u
  | _, _, _, .nil, q, m => by cases m
  | _, _, _, .cons h1 h2 h3, q, m => by
    rcases List.mem_cons.mp m with e | m
    · exact ⟨_, by rw [e]; exact h1⟩
    · exact h3.dom q m
theorem Fds.dom {Y : Yc} {Hs H : Hp} : ∀ {vs : List (Str × V)} {ks : List (Str × FV)} {qs : List Addr}, Fds Y Hs H vs ks qs → ∀ q ∈ qs, ∃ u, H q = some u
  | _, _, _, .nil, q, m => by cases m
  | _, _, _, .v h1 h3, q, m => h3.dom q m
  | _, _, _, .l h1 h2 h3, q, m => by
    rcases List.mem_cons.mp m with e | m
    · exact ⟨_, by rw [e]; exact h1⟩
    · exact h3.dom q m
theorem Own.dom {Y : Yc} {Hs H : Hp} {p : Addr} {fp : List Addr} {s : Slot} (x : Own Y Hs H p fp s) : ∀ q ∈ fp, ∃ u, H q = some u := fun q m => by
  cases x with
  | one h1 h2 =>
    rw [List.mem_singleton.mp m]
    exact ⟨_, h1⟩
  | KL h1 h2 h3 =>
    rcases List.mem_cons.mp m with e | m
    · exact ⟨_, by rw [e]; exact h1⟩
    · exact h2.dom q m
  | obj h1 h2 h3 h4 =>
    rcases List.mem_cons.mp m with e | m
    · exact ⟨_, by rw [e]; exact h1⟩
    · rcases List.mem_cons.mp m with e | m
      · exact ⟨_, by rw [e]; exact h2⟩
      · exact h3.dom q m
theorem Own.mem {Y : Yc} {Hs H : Hp} {p : Addr} {fp : List Addr} {s : Slot} (x : Own Y Hs H p fp s) : p ∈ fp := by
  cases x <;> exact List.mem_cons_self ..
theorem Own.big {Y : Yc} {Hs H : Hp} {p : Addr} {fp : List Addr} {s : Slot} (x : Own Y Hs H p fp s) : s.big = true := by
  cases x <;> rfl

/-- the footprints, one of them so -/
def setF (F : Nat → List Addr) (i : Nat) (fp : List Addr) : Nat → List Addr := fun j => if j = i then fp else F j
theorem setF_same {F : Nat → List Addr} {i : Nat} {fp : List Addr} : setF F i fp i = fp := by
  unfold setF
  rw [if_pos rfl]
theorem setF_ne {F : Nat → List Addr} {i j : Nat} {fp : List Addr} (h : j ≠ i) : setF F i fp j = F j := by
  unfold setF
  rw [if_neg h]
structure Ok (Y : Yc) (E0 : Hp × Hp) (tm : List Addr) (ρ : Env) (σ : L2.St) (Hs H : Hp) : Prop where
  gr : Grow E0.1 E0.2 Hs H
  len : ρ.length = σ.length
  dat : ∀ (i : Nat) (d : D), ρ[i]? = some (.dat d) → ∃ v, σ[i]? = some (some v) ∧ Rep Y Hs v d
  own : ∃ F : Nat → List Addr, (∀ (i : Nat) (s : Slot), ρ[i]? = some s → s.big = true → (∃ p, σ[i]? = some (some (.ref p)) ∧ Own Y Hs H p (F i) s) ∧ ∀ q ∈ F i, Hs q = none ∧ E0.2 q = none) ∧
    (∀ (i j : Nat) (s s' : Slot) (q : Addr), ρ[i]? = some s → s.big = true → ρ[j]? = some s' → s'.big = true → q ∈ F i → q ∈ F j → i = j) ∧
    ∀ p ∈ tm, ∀ (i : Nat) (s : Slot), ρ[i]? = some s → s.big = true → p ∉ F i
  tmp : ∀ p ∈ tm, Hs p = none ∧ E0.2 p = none ∧ ∃ u, H p = some u

section
variable {Y : Yc} {E0 : Hp × Hp} {tm : List Addr} {ρ : Env} {σ : L2.St} {Hs H Hs' H' : Hp}
theorem Ok.sh (k : Ok Y E0 tm ρ σ Hs H) : Same Hs H := k.gr.sh
theorem Grow.fr {Hs H Hs' H' : Hp} (g : Grow Hs H Hs' H') {p : Addr} {u : HO} (h1 : Hs p = none) (h2 : H p = some u) : Hs' p = none := by
  cases e : Hs' p with
  | none => rfl
  | some o =>
    rcases g.nw p o e with q | q
    · rw [h1] at q; cases q
    · rw [h2] at q; cases q
theorem Ok.grow (k : Ok Y E0 tm ρ σ Hs H) (g : Grow Hs H Hs' H') : Ok Y E0 tm ρ σ Hs' H' := by
  obtain ⟨F, f1, f2, f3⟩ := k.own
  refine ⟨k.gr.trans g, k.len, fun i d h => ?_, ⟨F, fun i s h hb => ?_, f2, f3⟩, fun p hp => ?_⟩
  · obtain ⟨v, h1, h2⟩ := k.dat i d h
    exact ⟨v, h1, h2.mono g.ss⟩
  · obtain ⟨⟨p, h1, h2⟩, h3⟩ := f1 i s h hb
    exact ⟨⟨p, h1, h2.mono g.ss fun q _ u hu => g.hh _ _ hu⟩, fun q hq => by
      obtain ⟨u, hu⟩ := h2.dom q hq
      exact ⟨g.fr (h3 q hq).1 hu, (h3 q hq).2⟩⟩
  · obtain ⟨h1, h2, ⟨u, h3⟩⟩ := k.tmp p hp
    exact ⟨g.fr h1 h3, h2, u, g.hh _ _ h3⟩
/-- what the name i holds, and how it may be changed -/
theorem Ok.at {i : Nat} {s : Slot} (k : Ok Y E0 tm ρ σ Hs H) (h : ρ[i]? = some s) (hb : s.big = true) : ∃ p fp, σ[i]? = some (some (.ref p)) ∧ Own Y Hs H p fp s ∧ (∀ q ∈ fp, Hs q = none ∧ E0.2 q = none) ∧
    (∀ H' s' fp', (∀ b, b ∉ fp → ∀ u, H b = some u → H' b = some u) → (∀ q ∈ fp', q ∈ fp ∨ H q = none) → Own Y Hs H' p fp' s' → Ok Y E0 tm (ρ.set i s') σ Hs H') ∧
    ∀ H' s', (∀ b, b ∉ fp → ∀ u, H b = some u → H' b = some u) → s'.big = false → (∀ d, s' ≠ .dat d) → Ok Y E0 tm (ρ.set i s') σ Hs H' := by
  obtain ⟨F, f1, f2, f3⟩ := k.own
  obtain ⟨⟨p, h1, h2⟩, h3⟩ := f1 i s h hb
  have hi : i < ρ.length := (List.getElem?_eq_some_iff.mp h).1
  have gr' : ∀ {H' : Hp}, (∀ b, b ∉ F i → ∀ u, H b = some u → H' b = some u) → Grow E0.1 E0.2 Hs H' := fun {H'} hk => by
    refine ⟨k.gr.ss, fun b x e => hk b (fun m => ?_) x (k.gr.hh b x e), fun b x e => hk b (fun m => ?_) x (k.sh b x e), k.gr.nw⟩
    · rw [(h3 b m).2] at e; cases e
    · rw [(h3 b m).1] at e; cases e
  have other : ∀ {H' : Hp} {j : Nat} {s2 : Slot}, (∀ b, b ∉ F i → ∀ u, H b = some u → H' b = some u) → i ≠ j → ρ[j]? = some s2 → s2.big = true → (∃ p, σ[j]? = some (some (.ref p)) ∧ Own Y Hs H' p (F j) s2) ∧ ∀ q ∈ F j, Hs q = none ∧ E0.2 q = none := fun {H' j s2} hk hij hj hb2 => by
    obtain ⟨⟨p2, q1, q2⟩, q3⟩ := f1 j s2 hj hb2
    exact ⟨⟨p2, q1, q2.mono (.refl _) fun q hq u hu => hk q (fun m => hij (f2 i j s s2 q h hb hj hb2 m hq)) u hu⟩, q3⟩
  have tm' : ∀ {H' : Hp}, (∀ b, b ∉ F i → ∀ u, H b = some u → H' b = some u) → ∀ p ∈ tm, Hs p = none ∧ E0.2 p = none ∧ ∃ u, H' p = some u := fun {H'} hk p hp => by
    obtain ⟨q1, q2, u, q3⟩ := k.tmp p hp
    exact ⟨q1, q2, u, hk p (f3 p hp i s h hb) u q3⟩
  refine ⟨p, F i, h1, h2, h3, fun H' s' fp' hk hf x => ?_, fun H' s' hk hs hd => ?_⟩
  · refine ⟨gr' hk, by rw [List.length_set]; exact k.len, fun j d hj => ?_, ⟨setF F i fp', fun j s2 hj hb2 => ?_, fun a b s1 s2 q ha b1 hb' b2 m1 m2 => ?_, fun q hq j s2 hj hb2 => ?_⟩, tm' hk⟩
    · by_cases hij : i = j
      · subst hij
        rw [List.getElem?_set_self hi] at hj
        have hj := Option.some.inj hj
        have := x.big
        rw [hj] at this
        cases this
      · rw [List.getElem?_set_ne hij] at hj
        exact k.dat j d hj
    · by_cases hij : i = j
      · subst hij
        rw [List.getElem?_set_self hi] at hj
        have hj := Option.some.inj hj
        subst hj
        rw [setF_same]
        refine ⟨⟨p, h1, x⟩, fun q hq => ?_⟩
        rcases hf q hq with m | m
        · exact h3 q m
        · exact ⟨k.sh.free m, k.gr.hh.free m⟩
      · rw [List.getElem?_set_ne hij] at hj
        rw [setF_ne (Ne.symm hij)]
        exact other hk hij hj hb2
    · have key : ∀ {j : Nat} {s2 : Slot} {q : Addr}, i ≠ j → ρ[j]? = some s2 → s2.big = true → q ∈ fp' → q ∈ F j → False := fun {j s2 q} hij hj hb2 m1 m2 => by
        rcases hf q m1 with m | m
        · exact hij (f2 i j s s2 q h hb hj hb2 m m2)
        · obtain ⟨⟨p2, q1, q2⟩, _⟩ := f1 j s2 hj hb2
          obtain ⟨u, hu⟩ := q2.dom q m2
          rw [m] at hu
          cases hu
      by_cases hia : i = a
      · subst hia
        by_cases hib : i = b
        · exact hib
        · rw [List.getElem?_set_ne hib] at hb'
          rw [setF_same] at m1
          rw [setF_ne (Ne.symm hib)] at m2
          exact (key hib hb' b2 m1 m2).elim
      · rw [List.getElem?_set_ne hia] at ha
        rw [setF_ne (Ne.symm hia)] at m1
        by_cases hib : i = b
        · subst hib
          rw [setF_same] at m2
          exact (key hia ha b1 m2 m1).elim
        · rw [List.getElem?_set_ne hib] at hb'
          rw [setF_ne (Ne.symm hib)] at m2
          exact f2 a b s1 s2 q ha b1 hb' b2 m1 m2
    · by_cases hij : i = j
      · subst hij
        rw [setF_same]
        intro m
        rcases hf q m with m | m
        · exact f3 q hq i s h hb m
        · obtain ⟨_, _, u, hu⟩ := k.tmp q hq
          rw [m] at hu
          cases hu
      · rw [List.getElem?_set_ne hij] at hj
        rw [setF_ne (Ne.symm hij)]
        exact f3 q hq j s2 hj hb2
  · have nb : ∀ {j : Nat} {s2 : Slot}, (ρ.set i s')[j]? = some s2 → s2.big = true → i ≠ j ∧ ρ[j]? = some s2 := fun {j s2} hj hb2 => by
      by_cases hij : i = j
      · subst hij
        rw [List.getElem?_set_self hi] at hj
        have hj := Option.some.inj hj
        subst hj
        rw [hs] at hb2
        cases hb2
      · rw [List.getElem?_set_ne hij] at hj
        exact ⟨hij, hj⟩
    refine ⟨gr' hk, by rw [List.length_set]; exact k.len, fun j d hj => ?_, ⟨F, fun j s2 hj hb2 => ?_, fun a b s1 s2 q ha b1 hb' b2 m1 m2 => ?_, fun q hq j s2 hj hb2 => ?_⟩, tm' hk⟩
    · by_cases hij : i = j
      · subst hij
        rw [List.getElem?_set_self hi] at hj
        exact absurd (Option.some.inj hj) (hd d)
      · rw [List.getElem?_set_ne hij] at hj
        exact k.dat j d hj
    · obtain ⟨n1, n2⟩ := nb hj hb2
      exact other hk n1 n2 hb2
    · exact f2 a b s1 s2 q (nb ha b1).2 b1 (nb hb' b2).2 b2 m1 m2
    · exact f3 q hq j s2 (nb hj hb2).2 hb2
/-- the steady heap with some objects more -/
def addH (Hs H : Hp) (fp : List Addr) : Hp := fun b => if b ∈ fp then H b else Hs b
theorem addH_in {Hs H : Hp} {fp : List Addr} {b : Addr} (h : b ∈ fp) : addH Hs H fp b = H b := by
  unfold addH
  rw [if_pos h]
theorem addH_out {Hs H : Hp} {fp : List Addr} {b : Addr} (h : b ∉ fp) : addH Hs H fp b = Hs b := by
  unfold addH
  rw [if_neg h]
theorem KLs.rep {Y : Yc} {Hs H Hn : Hp} (e : Same Hs Hn) : ∀ {vs : List (Key × V)} {ks : List (Key × List D)} {qs : List Addr}, KLs Y Hs H vs ks qs → (∀ q ∈ qs, ∀ u, H q = some u → Hn q = some u) → RepK Y Hn vs (ks.map fun kv => (kv.1, D.lst kv.2))
  | _, _, _, .nil, _ => .nil
  | _, _, _, .cons h1 h2 h3, h => .cons (.lst (h _ (List.mem_cons_self ..) _ h1) (h2.mono e)) (h3.rep e fun q m => h q (List.mem_cons_of_mem _ m))
/-- the name i gives its object away: it is steady from now on -/
theorem Ok.freeze {i : Nat} {o : OD} (k : Ok Y E0 tm ρ σ Hs H) (h : ρ[i]? = some (.own o)) :
    ∃ p Hs', σ[i]? = some (some (.ref p)) ∧ Ok Y E0 tm (ρ.set i (.dat o.d)) σ Hs' H ∧ Same Hs Hs' ∧ Rep Y Hs' (.ref p) o.d := by
  obtain ⟨F, f1, f2, f3⟩ := k.own
  obtain ⟨⟨p, h1, h2⟩, h3⟩ := f1 i _ h rfl
  have hi : i < ρ.length := (List.getElem?_eq_some_iff.mp h).1
  have ss : Same Hs (addH Hs H (F i)) := fun b x e => by
    rw [addH_out (fun m => by rw [(h3 b m).1] at e; cases e)]
    exact e
  have rp : Rep Y (addH Hs H (F i)) (.ref p) o.d := by
    generalize hf : F i = fp at h2 h3 ss
    have inn : ∀ q ∈ fp, ∀ u, H q = some u → addH Hs H fp q = some u := fun q m u e => by rw [addH_in m]; exact e
    cases h2 with
    | one q1 q2 => exact (q2.mono ss).rep (inn _ (List.mem_cons_self ..) _ q1)
    | KL q1 q2 q3 => exact .dct (.inl (inn _ (List.mem_cons_self ..) _ q1)) (q2.rep ss fun q m => inn q (List.mem_cons_of_mem _ m))
  have nb : ∀ {j : Nat} {s2 : Slot}, (ρ.set i (.dat o.d))[j]? = some s2 → s2.big = true → i ≠ j ∧ ρ[j]? = some s2 := fun {j s2} hj hb2 => by
    by_cases hij : i = j
    · subst hij
      rw [List.getElem?_set_self hi] at hj
      have hj := Option.some.inj hj
      subst hj
      cases hb2
    · rw [List.getElem?_set_ne hij] at hj
      exact ⟨hij, hj⟩
  refine ⟨p, addH Hs H (F i), h1, ⟨⟨k.gr.ss.trans ss, k.gr.hh, fun b x e => ?_, fun b x e => ?_⟩, by rw [List.length_set]; exact k.len, fun j d hj => ?_, ⟨F, fun j s2 hj hb2 => ?_, fun a b s1 s2 q ha b1 hb' b2 m1 m2 => ?_, fun q hq j s2 hj hb2 => ?_⟩, fun q hq => ?_⟩, ss, rp⟩
  · by_cases hb : b ∈ F i
    · rw [addH_in hb] at e
      exact e
    · rw [addH_out hb] at e
      exact k.sh b x e
  · by_cases hb : b ∈ F i
    · exact .inr (h3 b hb).2
    · rw [addH_out hb] at e
      exact k.gr.nw b x e
  · by_cases hij : i = j
    · subst hij
      rw [List.getElem?_set_self hi] at hj
      cases hj
      exact ⟨_, h1, rp⟩
    · rw [List.getElem?_set_ne hij] at hj
      obtain ⟨v, q1, q2⟩ := k.dat j d hj
      exact ⟨v, q1, q2.mono ss⟩
  · obtain ⟨n1, n2⟩ := nb hj hb2
    obtain ⟨⟨p2, q1, q2⟩, q3⟩ := f1 j s2 n2 hb2
    exact ⟨⟨p2, q1, q2.mono ss fun q _ u hu => hu⟩, fun q hq => ⟨by rw [addH_out (fun m => n1 (f2 i j _ s2 q h rfl n2 hb2 m hq))]; exact (q3 q hq).1, (q3 q hq).2⟩⟩
  · exact f2 a b s1 s2 q (nb ha b1).2 b1 (nb hb' b2).2 b2 m1 m2
  · exact f3 q hq j s2 (nb hj hb2).2 hb2
  · obtain ⟨q1, q2, q3⟩ := k.tmp q hq
    exact ⟨by rw [addH_out (f3 q hq i _ h rfl)]; exact q1, q2, q3⟩
/-- the object of the name i is changed -/
theorem Ok.write {i : Nat} {o o' : OD} {p : Addr} {u' : HO} (k : Ok Y E0 tm ρ σ Hs H) (h : ρ[i]? = some (.own o)) (hs : σ[i]? = some (some (.ref p))) (r : OwnRep Y Hs u' o') : Ok Y E0 tm (ρ.set i (.own o')) σ Hs (upd H p u') := by
  obtain ⟨p', fp, h1, h2, h3, h4, _⟩ := k.at h rfl
  have ep : p' = p := by
    rw [hs] at h1
    injection h1 with h1
    injection h1 with h1
    injection h1 with h1
    exact h1.symm
  subst ep
  have hm := h2.mem
  exact h4 _ _ [p'] (fun b hb u hu => by rw [upd_ne (fun z => hb (by rw [z]; exact hm))]; exact hu) (fun q hq => by rw [List.mem_singleton.mp hq]; exact .inl hm) (.one upd_same r)
/-- a plain value is stored in the slot i -/
theorem Ok.put {i : Nat} {v : V} {d : D} (k : Ok Y E0 tm ρ σ Hs H) (r : Rep Y Hs v d) : Ok Y E0 tm (ρ.set i (.dat d)) (σ.set i (some v)) Hs H := by
  obtain ⟨F, f1, f2, f3⟩ := k.own
  have lt : ∀ {j : Nat} {s : Slot}, (ρ.set i (.dat d))[j]? = some s → j < ρ.length := fun hj => by
    have := (List.getElem?_eq_some_iff.mp hj).1
    rwa [List.length_set] at this
  have nb : ∀ {j : Nat} {s2 : Slot}, (ρ.set i (.dat d))[j]? = some s2 → s2.big = true → i ≠ j ∧ ρ[j]? = some s2 := fun {j s2} hj hb2 => by
    by_cases hij : i = j
    · subst hij
      rw [List.getElem?_set_self (lt hj)] at hj
      have hj := Option.some.inj hj
      subst hj
      cases hb2
    · rw [List.getElem?_set_ne hij] at hj
      exact ⟨hij, hj⟩
  refine ⟨k.gr, by rw [List.length_set, List.length_set]; exact k.len, fun j e hj => ?_, ⟨F, fun j s2 hj hb2 => ?_, fun a b s1 s2 q ha b1 hb' b2 m1 m2 => ?_, fun q hq j s2 hj hb2 => ?_⟩, k.tmp⟩
  · by_cases hij : i = j
    · subst hij
      have hi := lt hj
      rw [List.getElem?_set_self hi] at hj
      cases hj
      exact ⟨v, List.getElem?_set_self (by rw [← k.len]; exact hi), r⟩
    · rw [List.getElem?_set_ne hij] at hj
      rw [List.getElem?_set_ne hij]
      exact k.dat j e hj
  · obtain ⟨n1, n2⟩ := nb hj hb2
    rw [List.getElem?_set_ne n1]
    exact f1 j s2 n2 hb2
  · exact f2 a b s1 s2 q (nb ha b1).2 b1 (nb hb' b2).2 b2 m1 m2
  · exact f3 q hq j s2 (nb hj hb2).2 hb2
/-- objects that no name holds yet become the name i's own -/
theorem Ok.putOwn {i : Nat} {p : Addr} {fp : List Addr} {s : Slot} (k : Ok Y E0 tm ρ σ Hs H) (e : Same H H') (hf : ∀ q ∈ fp, H q = none ∨ (q ∈ tm ∧ ∀ (j : Nat) (s2 : Slot), ρ[j]? = some s2 → s2.big = true → True)) (x : Own Y Hs H' p fp s)
    (hn : ∀ q ∈ fp, q ∉ tm) : Ok Y E0 tm (ρ.set i s) (σ.set i (some (.ref p))) Hs H' := by
  have hf : ∀ q ∈ fp, H q = none := fun q m => by
    rcases hf q m with z | z
    · exact z
    · exact absurd z.1 (hn q m)
  have k' := k.grow (Grow.heap k.sh e)
  obtain ⟨F, f1, f2, f3⟩ := k.own
  have lt : ∀ {j : Nat} {s2 : Slot}, (ρ.set i s)[j]? = some s2 → j < ρ.length := fun hj => by
    have := (List.getElem?_eq_some_iff.mp hj).1
    rwa [List.length_set] at this
  have old : ∀ {j : Nat} {s2 : Slot} {q : Addr}, ρ[j]? = some s2 → s2.big = true → q ∈ F j → q ∉ fp := fun {j s2 q} hj hb2 m m2 => by
    obtain ⟨⟨p2, q1, q2⟩, _⟩ := f1 j s2 hj hb2
    obtain ⟨u, hu⟩ := q2.dom q m
    rw [hf q m2] at hu
    cases hu
  refine ⟨k'.gr, by rw [List.length_set, List.length_set]; exact k.len, fun j d hj => ?_, ⟨setF F i fp, fun j s2 hj hb2 => ?_, fun a b s1 s2 q ha b1 hb' b2 m1 m2 => ?_, fun q hq j s2 hj hb2 => ?_⟩, k'.tmp⟩
  · by_cases hij : i = j
    · subst hij
      rw [List.getElem?_set_self (lt hj)] at hj
      have hj := Option.some.inj hj
      have := x.big
      rw [hj] at this
      cases this
    · rw [List.getElem?_set_ne hij] at hj
      rw [List.getElem?_set_ne hij]
      exact k.dat j d hj
  · by_cases hij : i = j
    · subst hij
      have hi := lt hj
      rw [List.getElem?_set_self hi] at hj
      have hj := Option.some.inj hj
      subst hj
      rw [setF_same]
      exact ⟨⟨p, List.getElem?_set_self (by rw [← k.len]; exact hi), x⟩, fun q hq => ⟨k.sh.free (hf q hq), k.gr.hh.free (hf q hq)⟩⟩
    · rw [List.getElem?_set_ne hij] at hj
      rw [List.getElem?_set_ne hij, setF_ne (Ne.symm hij)]
      obtain ⟨⟨p2, q1, q2⟩, q3⟩ := f1 j s2 hj hb2
      exact ⟨⟨p2, q1, q2.mono (.refl _) fun q _ u hu => e _ _ hu⟩, q3⟩
  · by_cases hia : i = a
    · subst hia
      by_cases hib : i = b
      · exact hib
      · rw [List.getElem?_set_ne hib] at hb'
        rw [setF_same] at m1
        rw [setF_ne (Ne.symm hib)] at m2
        exact absurd m1 (old hb' b2 m2)
    · rw [List.getElem?_set_ne hia] at ha
      rw [setF_ne (Ne.symm hia)] at m1
      by_cases hib : i = b
      · subst hib
        rw [setF_same] at m2
        exact absurd m2 (old ha b1 m1)
      · rw [List.getElem?_set_ne hib] at hb'
        rw [setF_ne (Ne.symm hib)] at m2
        exact f2 a b s1 s2 q ha b1 hb' b2 m1 m2
  · by_cases hij : i = j
    · subst hij
      rw [setF_same]
      exact fun m => hn q m hq
    · rw [List.getElem?_set_ne hij] at hj
      rw [setF_ne (Ne.symm hij)]
      exact f3 q hq j s2 hj hb2
/-- a new object, the name i's own -/
theorem Ok.putNew {i : Nat} {p : Addr} {u : HO} {o : OD} (k : Ok Y E0 tm ρ σ Hs H) (hp : H p = none) (r : OwnRep Y Hs u o) : Ok Y E0 tm (ρ.set i (.own o)) (σ.set i (some (.ref p))) Hs (upd H p u) :=
  k.putOwn (same_new hp) (fun q hq => by rw [List.mem_singleton.mp hq]; exact .inl hp) (.one upd_same r) fun q hq m => by
    obtain ⟨_, _, w, hw⟩ := k.tmp q m
    rw [List.mem_singleton.mp hq, hp] at hw
    cases hw
/-- slots forgotten -/
theorem Ok.forget {ρ' : Env} {σ' : L2.St} (k : Ok Y E0 tm ρ σ Hs H) (hl : ρ'.length = σ'.length) (hd : ∀ (i : Nat) (s : Slot), ρ'[i]? = some s → s ≠ .no → ρ[i]? = some s ∧ σ'[i]? = σ[i]?) : Ok Y E0 tm ρ' σ' Hs H := by
  obtain ⟨F, f1, f2, f3⟩ := k.own
  have nb : ∀ {j : Nat} {s : Slot}, ρ'[j]? = some s → s.big = true → ρ[j]? = some s ∧ σ'[j]? = σ[j]? := fun {j s} hj hb => hd j s hj (by intro z; subst z; cases hb)
  refine ⟨k.gr, hl, fun i d h => ?_, ⟨F, fun i s h hb => ?_, fun a b s1 s2 q ha b1 hb' b2 m1 m2 => ?_, fun q hq j s2 hj hb2 => ?_⟩, k.tmp⟩
  · obtain ⟨h1, h2⟩ := hd i _ h (by intro z; cases z)
    rw [h2]
    exact k.dat i d h1
  · obtain ⟨h1, h2⟩ := nb h hb
    rw [h2]
    exact f1 i s h1 hb
  · exact f2 a b s1 s2 q (nb ha b1).1 b1 (nb hb' b2).1 b2 m1 m2
  · exact f3 q hq j s2 (nb hj hb2).1 hb2
/-- a temporary object -/
theorem Ok.tmpNew {p : Addr} {u : HO} (k : Ok Y E0 tm ρ σ Hs H) (hp : H p = none) : Ok Y E0 (p :: tm) ρ σ Hs (upd H p u) := by
  have hh : Same H (upd H p u) := same_new hp
  have k' := k.grow (Grow.heap k.sh hh)
  obtain ⟨F, f1, f2, f3⟩ := k.own
  refine ⟨k'.gr, k.len, k.dat, ⟨F, fun i s h hb => ?_, f2, fun q hq i s h hb => ?_⟩, fun q hq => ?_⟩
  · obtain ⟨⟨p2, q1, q2⟩, q3⟩ := f1 i s h hb
    exact ⟨⟨p2, q1, q2.mono (.refl _) fun q _ u hu => hh _ _ hu⟩, q3⟩
  · rcases List.mem_cons.mp hq with e | hq
    · subst e
      intro m
      obtain ⟨⟨p2, q1, q2⟩, q3⟩ := f1 i s h hb
      obtain ⟨w, hw⟩ := q2.dom q m
      rw [hp] at hw
      cases hw
    · exact f3 q hq i s h hb
  · rcases List.mem_cons.mp hq with e | hq
    · subst e
      exact ⟨k.sh.free hp, k.gr.hh.free hp, u, upd_same⟩
    · exact k'.tmp q hq
/-- .. changed -/
theorem Ok.tmpWrite {p : Addr} {u : HO} (k : Ok Y E0 (p :: tm) ρ σ Hs H) (hn : p ∉ tm) : Ok Y E0 (p :: tm) ρ σ Hs (upd H p u) := by
  obtain ⟨h1, h2, u0, h3⟩ := k.tmp p (List.mem_cons_self ..)
  obtain ⟨F, f1, f2, f3⟩ := k.own
  refine ⟨⟨k.gr.ss, fun b x e => ?_, fun b x e => ?_, k.gr.nw⟩, k.len, k.dat, ⟨F, fun i s h hb => ?_, f2, f3⟩, fun q hq => ?_⟩
  · rw [upd_ne (ne_of_none e h2)]
    exact k.gr.hh b x e
  · rw [upd_ne (ne_of_none e h1)]
    exact k.sh b x e
  · obtain ⟨⟨p2, q1, q2⟩, q3⟩ := f1 i s h hb
    exact ⟨⟨p2, q1, q2.mono (.refl _) fun q m w hw => by rw [upd_ne (fun z => f3 p (List.mem_cons_self ..) i s h hb (by rw [← z]; exact m))]; exact hw⟩, q3⟩
  · rcases List.mem_cons.mp hq with e | hq
    · subst e
      exact ⟨h1, h2, u, upd_same⟩
    · obtain ⟨q1, q2, w, q3⟩ := k.tmp q (List.mem_cons_of_mem _ hq)
      have nq : q ≠ p := fun e => hn (by rw [← e]; exact hq)
      exact ⟨q1, q2, w, by rw [upd_ne nq]; exact q3⟩
/-- .. given away -/
theorem Ok.tmpDone {p : Addr} {u : HO} (k : Ok Y E0 (p :: tm) ρ σ Hs H) (hn : p ∉ tm) (hu : H p = some u) : Ok Y E0 tm ρ σ (upd Hs p u) H ∧ Same Hs (upd Hs p u) := by
  obtain ⟨h1, h2, _⟩ := k.tmp p (List.mem_cons_self ..)
  obtain ⟨F, f1, f2, f3⟩ := k.own
  have ss : Same Hs (upd Hs p u) := same_new h1
  refine ⟨⟨⟨k.gr.ss.trans ss, k.gr.hh, fun b x e => ?_, fun b x e => ?_⟩, k.len, fun j d hj => ?_, ⟨F, fun i s h hb => ?_, f2, fun q hq => f3 q (List.mem_cons_of_mem _ hq)⟩, fun q hq => ?_⟩, ss⟩
  · by_cases hb : b = p
    · rw [hb, upd_same] at e
      rw [hb, hu]
      exact e
    · rw [upd_ne hb] at e
      exact k.sh b x e
  · by_cases hb : b = p
    · rw [hb]
      exact .inr h2
    · rw [upd_ne hb] at e
      exact k.gr.nw b x e
  · obtain ⟨v, q1, q2⟩ := k.dat j d hj
    exact ⟨v, q1, q2.mono ss⟩
  · obtain ⟨⟨p2, q1, q2⟩, q3⟩ := f1 i s h hb
    exact ⟨⟨p2, q1, q2.mono ss fun q _ w hw => hw⟩, fun q hq => ⟨by rw [upd_ne (fun z => f3 p (List.mem_cons_self ..) i s h hb (by rw [← z]; exact hq))]; exact (q3 q hq).1, (q3 q hq).2⟩⟩
  · obtain ⟨q1, q2, q3⟩ := k.tmp q (List.mem_cons_of_mem _ hq)
    have nq : q ≠ p := fun e => hn (by rw [← e]; exact hq)
    exact ⟨by rw [upd_ne nq]; exact q1, q2, q3⟩
/-- .. kept out: it becomes the name i's own (a comprehension given to a name) -/
theorem Ok.tmpDrop {p : Addr} (k : Ok Y E0 (p :: tm) ρ σ Hs H) : Ok Y E0 tm ρ σ Hs H := by
  obtain ⟨F, f1, f2, f3⟩ := k.own
  exact ⟨k.gr, k.len, k.dat, ⟨F, f1, f2, fun q hq => f3 q (List.mem_cons_of_mem _ hq)⟩, fun q hq => k.tmp q (List.mem_cons_of_mem _ hq)⟩
/-- a temporary object becomes the slot i's own -/
theorem Ok.tmpPut {i : Nat} {p : Addr} {u : HO} {o : OD} (k : Ok Y E0 (p :: tm) ρ σ Hs H) (hn : p ∉ tm) (hu : H p = some u) (r : OwnRep Y Hs u o) : Ok Y E0 tm (ρ.set i (.own o)) (σ.set i (some (.ref p))) Hs H := by
  obtain ⟨h1, h2, _⟩ := k.tmp p (List.mem_cons_self ..)
  obtain ⟨F, f1, f2, f3⟩ := k.own
  have lt : ∀ {j : Nat} {s2 : Slot}, (ρ.set i (.own o))[j]? = some s2 → j < ρ.length := fun hj => by
    have := (List.getElem?_eq_some_iff.mp hj).1
    rwa [List.length_set] at this
  refine ⟨k.gr, by rw [List.length_set, List.length_set]; exact k.len, fun j d hj => ?_, ⟨setF F i [p], fun j s2 hj hb2 => ?_, fun a b s1 s2 q ha b1 hb' b2 m1 m2 => ?_, fun q hq j s2 hj hb2 => ?_⟩, fun q hq => k.tmp q (List.mem_cons_of_mem _ hq)⟩
  · by_cases hij : i = j
    · subst hij
      rw [List.getElem?_set_self (lt hj)] at hj
      cases hj
    · rw [List.getElem?_set_ne hij] at hj
      rw [List.getElem?_set_ne hij]
      exact k.dat j d hj
  · by_cases hij : i = j
    · subst hij
      have hi := lt hj
      rw [List.getElem?_set_self hi] at hj
      have hj := Option.some.inj hj
      subst hj
      rw [setF_same]
      exact ⟨⟨p, List.getElem?_set_self (by rw [← k.len]; exact hi), .one hu r⟩, fun q hq => by rw [List.mem_singleton.mp hq]; exact ⟨h1, h2⟩⟩
    · rw [List.getElem?_set_ne hij] at hj
      rw [List.getElem?_set_ne hij, setF_ne (Ne.symm hij)]
      exact f1 j s2 hj hb2
  · by_cases hia : i = a
    · subst hia
      by_cases hib : i = b
      · exact hib
      · rw [List.getElem?_set_ne hib] at hb'
        rw [setF_same] at m1
        rw [setF_ne (Ne.symm hib)] at m2
        rw [List.mem_singleton.mp m1] at m2
        exact absurd m2 (f3 p (List.mem_cons_self ..) b s2 hb' b2)
    · rw [List.getElem?_set_ne hia] at ha
      rw [setF_ne (Ne.symm hia)] at m1
      by_cases hib : i = b
      · subst hib
        rw [setF_same] at m2
        rw [List.mem_singleton.mp m2] at m1
        exact absurd m1 (f3 p (List.mem_cons_self ..) a s1 ha b1)
      · rw [List.getElem?_set_ne hib] at hb'
        rw [setF_ne (Ne.symm hib)] at m2
        exact f2 a b s1 s2 q ha b1 hb' b2 m1 m2
  · by_cases hij : i = j
    · subst hij
      rw [setF_same]
      exact fun m => hn (by rw [← List.mem_singleton.mp m]; exact hq)
    · rw [List.getElem?_set_ne hij] at hj
      rw [setF_ne (Ne.symm hij)]
      exact f3 q (List.mem_cons_of_mem _ hq) j s2 hj hb2
theorem KLs.lkd {Y : Yc} {a : Addr} {kvs : List (Key × V)} {Hs Hs' H H' : Hp} (l : Lkd a kvs Hs Hs') : ∀ {vs : List (Key × V)} {ks : List (Key × List D)} {qs : List Addr}, KLs Y Hs H vs ks qs → (∀ q ∈ qs, ∀ u, H q = some u → H' q = some u) → KLs Y Hs' H' vs ks qs
  | _, _, _, .nil, _ => .nil
  | _, _, _, .cons h1 h2 h3, h => .cons (h _ (List.mem_cons_self ..) _ h1) (h2.lkd l) (h3.lkd l fun q m => h q (List.mem_cons_of_mem _ m))
theorem Fds.lkd {Y : Yc} {a : Addr} {kvs : List (Key × V)} {Hs Hs' H H' : Hp} (l : Lkd a kvs Hs Hs') : ∀ {vs : List (Str × V)} {ks : List (Str × FV)} {qs : List Addr}, Fds Y Hs H vs ks qs → (∀ q ∈ qs, ∀ u, H q = some u → H' q = some u) → Fds Y Hs' H' vs ks qs
  | _, _, _, .nil, _ => .nil
  | _, _, _, .v h1 h3, h => .v (h1.lkd l) (h3.lkd l h)
  | _, _, _, .l h1 h2 h3, h => .l (h _ (List.mem_cons_self ..) _ h1) (h2.lkd l) (h3.lkd l fun q m => h q (List.mem_cons_of_mem _ m))
theorem Own.lkd {Y : Yc} {a : Addr} {kvs : List (Key × V)} {Hs Hs' H H' : Hp} {p : Addr} {fp : List Addr} {s : Slot} (l : Lkd a kvs Hs Hs') (h : ∀ q ∈ fp, ∀ u, H q = some u → H' q = some u) (x : Own Y Hs H p fp s) : Own Y Hs' H' p fp s := by
  cases x with
  | one h1 h2 =>
    refine .one (h _ (List.mem_cons_self ..) _ h1) ?_
    cases h2 with
    | L r => exact .L (r.lkd l)
    | K r => exact .K (r.lkd l)
  | KL h1 h2 h3 => exact .KL (h _ (List.mem_cons_self ..) _ h1) (h2.lkd l fun q m => h q (List.mem_cons_of_mem _ m)) h3
  | obj h1 h2 h3 h4 => exact .obj (h _ (List.mem_cons_self ..) _ h1) (h _ (List.mem_cons_of_mem _ (List.mem_cons_self ..)) _ h2) (h3.lkd l fun q m => h q (List.mem_cons_of_mem _ (List.mem_cons_of_mem _ m))) h4
/-- into the lock -/
theorem Ok.lock {a : Addr} {od : Obj} {kvs : List (Key × V)} (k : Ok Y E0 tm ρ σ Hs H) (h : Hs a = some (.dK kvs)) : Ok Y (lk a od (.dK kvs) E0.1, lk a od (.dK kvs) E0.2) tm ρ σ (lk a od (.dK kvs) Hs) (lk a od (.dK kvs) H) := by
  have l : Lkd a kvs Hs (lk a od (.dK kvs) Hs) := ⟨fun b hb => lk_ne hb, .inl h, .inr ⟨od, lk_at h⟩⟩
  have ne : ∀ {b : Addr}, Hs b = none → b ≠ a := fun e z => by
    rw [z, h] at e
    cases e
  obtain ⟨F, f1, f2, f3⟩ := k.own
  refine ⟨k.gr.lk a od _, k.len, fun i d hi => ?_, ⟨F, fun i s hi hb => ?_, f2, f3⟩, fun p hp => ?_⟩
  · obtain ⟨v, h1, h2⟩ := k.dat i d hi
    exact ⟨v, h1, h2.lkd l⟩
  · obtain ⟨⟨p, h1, h2⟩, h3⟩ := f1 i s hi hb
    exact ⟨⟨p, h1, h2.lkd l fun q m u hu => by rw [lk_ne (ne (h3 q m).1)]; exact hu⟩, fun q m => ⟨lk_none (h3 q m).1, lk_none (h3 q m).2⟩⟩
  · obtain ⟨h1, h2, u, h3⟩ := k.tmp p hp
    exact ⟨lk_none h1, lk_none h2, u, by rw [lk_ne (ne h1)]; exact h3⟩
/-- out of it -/
theorem Ok.unlock {a : Addr} {od : Obj} {kvs : List (Key × V)} {Hs0 H0 : Hp} (k0 : Grow E0.1 E0.2 Hs0 H0) (h : Hs0 a = some (.dK kvs)) (k : Ok Y (lk a od (.dK kvs) E0.1, lk a od (.dK kvs) E0.2) tm ρ σ Hs H) (hl : Hs a = some (.frz od (.dK kvs))) :
    Ok Y E0 tm ρ σ (upd Hs a (.dK kvs)) (upd H a (.dK kvs)) := by
  have hl2 : H a = some (.frz od (.dK kvs)) := k.sh _ _ hl
  have l : Lkd a kvs Hs (upd Hs a (.dK kvs)) := ⟨fun b hb => upd_ne hb, .inr ⟨od, hl⟩, .inl upd_same⟩
  have ne : ∀ {b : Addr}, Hs b = none → b ≠ a := fun e z => by
    rw [z, hl] at e
    cases e
  have back : ∀ {b : Addr} {o : HO} {K : Hp}, lk a od (.dK kvs) K b = none → K b = none := fun {b o K} e => by
    by_cases hb : b = a
    · rw [hb] at e ⊢
      cases q : K a with
      | none => rfl
      | some x =>
        rw [lk_at q] at e
        cases e
    · rw [lk_ne hb] at e
      exact e
  obtain ⟨F, f1, f2, f3⟩ := k.own
  refine ⟨⟨fun b o e => ?_, fun b o e => ?_, fun b o e => ?_, fun b o e => ?_⟩, k.len, fun i d hi => ?_, ⟨F, fun i s hi hb => ?_, f2, f3⟩, fun p hp => ?_⟩
  · by_cases hb : b = a
    · rw [hb] at e ⊢
      rw [k0.ss _ _ e] at h
      rw [upd_same]
      exact h.symm
    · rw [upd_ne hb]
      exact k.gr.ss b o ((lk_ne (H := E0.1) hb).trans e)
  · by_cases hb : b = a
    · rw [hb] at e ⊢
      have q := k0.sh _ _ h
      rw [k0.hh _ _ e] at q
      rw [upd_same]
      exact q.symm
    · rw [upd_ne hb]
      exact k.gr.hh b o ((lk_ne (H := E0.2) hb).trans e)
  · by_cases hb : b = a
    · rw [hb, upd_same] at e
      rw [hb, upd_same]
      exact e
    · rw [upd_ne hb] at e ⊢
      exact k.sh _ _ e
  · by_cases hb : b = a
    · rw [hb, upd_same] at e
      rw [hb]
      have e' := Option.some.inj e
      subst e'
      exact k0.nw a _ h
    · rw [upd_ne hb] at e
      rcases k.gr.nw b o e with q | q
      · exact .inl ((lk_ne (H := E0.1) hb).symm.trans q)
      · exact .inr ((lk_ne (H := E0.2) hb).symm.trans q)
  · obtain ⟨v, h1, h2⟩ := k.dat i d hi
    exact ⟨v, h1, h2.lkd l⟩
  · obtain ⟨⟨p, h1, h2⟩, h3⟩ := f1 i s hi hb
    exact ⟨⟨p, h1, h2.lkd l fun q m u hu => by rw [upd_ne (ne (h3 q m).1)]; exact hu⟩, fun q m => ⟨by rw [upd_ne (ne (h3 q m).1)]; exact (h3 q m).1, back (o := .own a) (h3 q m).2⟩⟩
  · obtain ⟨h1, h2, u, h3⟩ := k.tmp p hp
    have np := ne h1
    exact ⟨by rw [upd_ne np]; exact h1, back (o := u) h2, u, by rw [upd_ne np]; exact h3⟩
end
end VL

namespace VL
open PySem PySem.Spec PyProof.Rows L2

/-- what an expression comes to -/
inductive RE (α : Type) where
  | bad | ok (a : α) (ρ : Env) | err (c : Str) (ρ : Env)
abbrev EM (α : Type) := Env → RE α
def RE.bind {α β : Type} : RE α → (α → EM β) → RE β
  | .bad, _ => .bad
  | .ok a ρ, g => g a ρ
  | .err c ρ, _ => .err c ρ

/-- atoms and errors, without the written part -/
structure Yo where
  at_ : V → Str → Prop
  ca : Str → Addr
abbrev yc (X : Cx) (y : Yo) : Yc := ⟨X.K, y.at_, y.ca⟩

def PostR {α β : Type} (Y : Yc) (W : WX) (R : Hp → β → α → Prop) (E0 : Hp × Hp) (tm : List Addr) (σ : L2.St) (Hs H : Hp) (Q : β → Hp → Prop) : RE α → Prop
  | .bad => False
  | .ok a ρ' => ∀ b Hs' H', Ok Y E0 tm ρ' σ Hs' H' → Same Hs Hs' → Same H H' → R Hs' b a → Q b H'
  | .err c ρ' => ∀ Hs' H', Ok Y E0 tm ρ' σ Hs' H' → Same Hs Hs' → Same H H' → W (.ref (Y.ca c)) none σ H'

/-- the reading that a function of the values makes -/
def tE {α β : Type} (Y : Yc) (W : WX) (R : Hp → β → α → Prop) (f : EM α) : L2.St → Hp → (β → Hp → Prop) → Prop := fun σ H Q =>
  ∃ E0 tm ρ Hs, Ok Y E0 tm ρ σ Hs H ∧ PostR Y W R E0 tm σ Hs H Q (f ρ)

abbrev rEq1 {α : Type} : Hp → α → α → Prop := fun _ b a => b = a
/-- an expression, by values -/
def VE (X : Cx) (y : Yo) (W : WX) (e : Expr) (f : EM D) : Prop := PE X e (tE (yc X y) W (fun Hs v d => Rep (yc X y) Hs v d) f)
def VA (X : Cx) (y : Yo) (W : WX) (es : List Expr) (f : EM (List D)) : Prop := PA X es (tE (yc X y) W (fun Hs v d => RepL (yc X y) Hs v d) f)
def VT (X : Cx) (y : Yo) (W : WX) (e : Expr) (f : EM Bool) : Prop := PT X e (tE (yc X y) W rEq1 f)
def VW (X : Cx) (y : Yo) (W : WX) (e : Expr) (f : EM Bool) : Prop := PW X e (tE (yc X y) W rEq1 f)
def VP (X : Cx) (y : Yo) (W : WX) (e : Option Expr) (f : EM (Option Int)) : Prop := PO X e (tE (yc X y) W rEq1 f)

theorem pe_weak {X : Cx} {e : Expr} {t t' : TE} (h : PE X e t) (i : ∀ σ H Q, t' σ H Q → t σ H Q) : PE X e t' := ⟨fun pins s σ H Q I q => h.run pins s σ H Q I (i _ _ _ q)⟩
theorem pa_weak {X : Cx} {e : List Expr} {t t' : TA} (h : PA X e t) (i : ∀ σ H Q, t' σ H Q → t σ H Q) : PA X e t' := ⟨fun pos pins s σ H Q I q => h.run pos pins s σ H Q I (i _ _ _ q)⟩
theorem pt_weak {X : Cx} {e : Expr} {t t' : TT} (h : PT X e t) (i : ∀ σ H Q, t' σ H Q → t σ H Q) : PT X e t' := ⟨fun pins s σ H Q I q => h.run pins s σ H Q I (i _ _ _ q)⟩
theorem pw_weak {X : Cx} {e : Expr} {t t' : TT} (h : PW X e t) (i : ∀ σ H Q, t' σ H Q → t σ H Q) : PW X e t' := ⟨fun wh pins s σ H Q I q => h.run wh pins s σ H Q I (i _ _ _ q)⟩
theorem ps_weak {X : Cx} {st : Stmt} {t t' : TS} (h : PS X st t) (i : ∀ D σ H, t' D σ H → t D σ H) : PS X st t' := ⟨fun pins s σ H D I q => h.run pins s σ H D I (i _ _ _ q)⟩
theorem pss_weak {X : Cx} {st : List Stmt} {t t' : TS} (h : PSs X st t) (i : ∀ D σ H, t' D σ H → t D σ H) : PSs X st t' := ⟨fun pins s σ H D I q => h.run pins s σ H D I (i _ _ _ q)⟩

section
variable {α β γ δ : Type} {Y : Yc} {W : WX} {R : Hp → β → α → Prop} {R2 : Hp → δ → γ → Prop} {E0 : Hp × Hp} {tm : List Addr} {ρ : Env} {σ : L2.St} {Hs H Hs1 H1 : Hp}
theorem PostR.shift {Q : β → Hp → Prop} {r : RE α} (p : PostR Y W R E0 tm σ Hs H Q r) (e : Same Hs Hs1) (e' : Same H H1) : PostR Y W R E0 tm σ Hs1 H1 Q r := by
  cases r with
  | bad => exact p
  | ok a ρ' => exact fun b Hs' H' k s s' r => p b Hs' H' k (e.trans s) (e'.trans s') r
  | err c ρ' => exact fun Hs' H' k s s' => p Hs' H' k (e.trans s) (e'.trans s')
/-- one reading, then another -/
theorem tE.bind {f : EM α} {g : α → EM γ} {Q : δ → Hp → Prop} {Q1 : β → Hp → Prop} (k : Ok Y E0 tm ρ σ Hs H) (p : PostR Y W R2 E0 tm σ Hs H Q ((f ρ).bind g))
    (c : ∀ a ρ1 b Hs1 H1, Ok Y E0 tm ρ1 σ Hs1 H1 → Same Hs Hs1 → Same H H1 → R Hs1 b a → PostR Y W R2 E0 tm σ Hs1 H1 Q (g a ρ1) → Q1 b H1) : tE Y W R f σ H Q1 := by
  refine ⟨E0, tm, ρ, Hs, k, ?_⟩
  cases e : f ρ with
  | bad =>
    rw [e] at p
    exact p.elim
  | err cc ρ' =>
    rw [e] at p
    exact p
  | ok a ρ1 =>
    rw [e] at p
    intro b Hs1 H1 k1 s s' r
    exact c a ρ1 b Hs1 H1 k1 s s' r (PostR.shift p s s')
theorem tE.bindE {f : EM α} {g : α → EM γ} {Q : δ → Hp → Prop} {Q1 : β → Hp → Prop} (k : Ok Y E0 tm ρ σ Hs H) (p : PostR Y W R2 E0 tm σ Hs H Q ((f ρ).bind g))
    (c : ∀ a ρ1 b Hs1 H1, f ρ = .ok a ρ1 → Ok Y E0 tm ρ1 σ Hs1 H1 → Same Hs Hs1 → Same H H1 → R Hs1 b a → PostR Y W R2 E0 tm σ Hs1 H1 Q (g a ρ1) → Q1 b H1) : tE Y W R f σ H Q1 := by
  refine ⟨E0, tm, ρ, Hs, k, ?_⟩
  cases e : f ρ with
  | bad =>
    rw [e] at p
    exact p.elim
  | err cc ρ' =>
    rw [e] at p
    exact p
  | ok a ρ1 =>
    rw [e] at p
    intro b Hs1 H1 k1 s s' r
    exact c a ρ1 b Hs1 H1 e k1 s s' r (PostR.shift p s s')
theorem PostR.fin {Q : β → Hp → Prop} {a : α} {b : β} (p : PostR Y W R E0 tm σ Hs H Q (.ok a ρ)) (k : Ok Y E0 tm ρ σ Hs H) (r : R Hs b a) : Q b H := p b Hs H k (.refl _) (.refl _) r
theorem PostR.finG {Q : β → Hp → Prop} {a : α} {b : β} (p : PostR Y W R E0 tm σ Hs H Q (.ok a ρ)) (k : Ok Y E0 tm ρ σ Hs H) (g : Grow Hs H Hs1 H1) (r : R Hs1 b a) : Q b H1 := p b Hs1 H1 (k.grow g) g.ss g.hh r
end

/-! ### names, constants -/
def e_name (i : Nat) : EM D := fun ρ => match ρ[i]? with
  | some (.dat d) => .ok d ρ
  | some (.own o) => .ok o.d (ρ.set i (.dat o.d))
  | _ => .bad
def e_k (d : D) : EM D := fun ρ => .ok d ρ
section
variable {X : Cx} {y : Yo} {W : WX}
theorem ve_name (i : Nat) {x : Str} {pos : Pos} (hN : X.N[i]? = some x := by rfl) (hv : Vis X.env.scope x := by first | exact Or.inl rfl | exact Or.inr (Or.inl rfl) | exact Or.inr (Or.inr rfl)) (hd : (x == ("__debug__" : Str)) = false := by decide)
    (hcd : (x == ("__classdict__" : Str)) = false := by decide) : VE X y W (.Name x pos) (e_name i) := by
  refine pe_weak (pe_var (i := i) hN hv hd hcd) fun σ H Q ⟨E0, tm, ρ, Hs, k, p⟩ => ?_
  unfold e_name at p
  cases e : ρ[i]? with
  | none => rw [e] at p; exact p.elim
  | some s =>
    rw [e] at p
    cases s with
    | no => exact p.elim
    | obj _ _ => exact p.elim
    | dat d =>
      obtain ⟨v, h1, h2⟩ := k.dat i d e
      exact ⟨v, h1, p.fin k h2⟩
    | own o =>
      obtain ⟨q, Hs', h1, h2, h3, h4⟩ := k.freeze e
      exact ⟨_, h1, p _ Hs' H h2 h3 (.refl _) h4⟩
theorem ve_c {e : Expr} {v : V} {d : D} (h : PE X e (tC v)) (r : ∀ Y H, Rep Y H v d) : VE X y W e (e_k d) := by
  refine pe_weak h fun σ H Q ⟨E0, tm, ρ, Hs, k, p⟩ => ?_
  exact PostR.fin p k (r _ _)
theorem ve_int {i j pos} : VE X y W (.Constant (.int i) j pos) (e_k (.int i)) := ve_c pe_int fun _ _ => .int i
theorem ve_str {i j pos} : VE X y W (.Constant (.str i) j pos) (e_k (.str i)) := ve_c pe_str fun _ _ => .str i
theorem ve_bl {i j pos} : VE X y W (.Constant (.bool i) j pos) (e_k (.bl i)) := ve_c pe_bl fun _ _ => .bl i
theorem ve_non {j pos} : VE X y W (.Constant .none j pos) (e_k .non) := ve_c pe_non fun _ _ => .non
theorem ve_gstr {x z : Str} {pos : Pos} (hg : Gl X x) (hm : ∃ t, X.mg x = some (.str z t)) (hd : (x == ("__debug__" : Str)) = false := by decide) : VE X y W (.Name x pos) (e_k (.str z)) := by
  obtain ⟨t, hm⟩ := hm
  exact ve_c (pe_glob (v := .str z) hg hm ⟨t, rfl⟩ hd) fun _ _ => .str z
theorem ve_gint {x : Str} {z : Int} {pos : Pos} (hg : Gl X x) (hm : ∃ t, X.mg x = some (.int z t)) (hd : (x == ("__debug__" : Str)) = false := by decide) : VE X y W (.Name x pos) (e_k (.int z)) := by
  obtain ⟨t, hm⟩ := hm
  exact ve_c (pe_glob (v := .int z) hg hm ⟨t, rfl⟩ hd) fun _ _ => .int z
end

/-! ### operators -/
/-- a two-place operation by values -/
def OpOk (Y : Yc) (r : R2) (h : D → D → Option D) : Prop := ∀ (Hs H : Hp) (vx vy : V) (x w z : D) (Q : VK), Same Hs H → Rep Y Hs vx x → Rep Y Hs vy w → h x w = some z →
  (∀ v Hs' H', Grow Hs H Hs' H' → Rep Y Hs' v z → Q v H') → r vx vy H Q
def o2 {α : Type} (o : Option α) : EM α := fun ρ => match o with
  | some z => .ok z ρ
  | none => .bad
def e_op (h : D → D → Option D) (f g : EM D) : EM D := fun ρ => (f ρ).bind fun x ρ1 => (g ρ1).bind fun w => o2 (h x w)
section
variable {X : Cx} {y : Yo} {W : WX} {a b c : Expr} {f g : EM D} {pos : Pos} {h : D → D → Option D} {r : R2}
theorem tOp_of (Y : Yc) (hs : OpOk Y r h) {σ : L2.St} {H : Hp} {Q : VK} (q : tE Y W (fun Hs v d => Rep Y Hs v d) (e_op h f g) σ H Q) :
    tOp r (tE Y W (fun Hs v d => Rep Y Hs v d) f) (tE Y W (fun Hs v d => Rep Y Hs v d) g) σ H Q := by
  obtain ⟨E0, tm, ρ, Hs, k, p⟩ := q
  refine tE.bind k p fun x ρ1 v Hs1 H1 k1 s1 s1' r1 p1 => ?_
  refine tE.bind k1 p1 fun w ρ2 u Hs2 H2 k2 s2 s2' r2 p2 => ?_
  unfold o2 at p2
  cases e : h x w with
  | none => rw [e] at p2; exact p2.elim
  | some z =>
    rw [e] at p2
    exact hs Hs2 H2 v u x w z Q k2.sh (r1.mono s2) r2 e fun v Hs' H' gr rr => p2.finG k2 gr rr
theorem ve_op {op : Operator} (ho : OpR X (binaryOp op) r) (hs : OpOk (yc X y) r h) (ha : VE X y W a f) (hb : VE X y W b g) : VE X y W (.BinOp a op b pos) (e_op h f g) :=
  pe_weak (pe_op ho ha hb) fun _ _ _ q => tOp_of _ hs q
theorem ve_cmp {op : CmpOp} (ho : OpR X (compareOp op) r) (hs : OpOk (yc X y) r h) (ha : VE X y W a f) (hb : VE X y W b g) (hm : behindInMarks op b = false) : VE X y W (.Compare a [op] [b] pos) (e_op h f g) :=
  pe_weak (pe_cmpR ho ha hb hm) fun _ _ _ q => tOp_of _ hs q
/-- a test of an expression that gives True or False -/
def t_val (f : EM D) : EM Bool := fun ρ => (f ρ).bind fun d => o2 (match d with | .bl b => some b | _ => none)
theorem vt_val {e : Expr} (hf : VE X y W e f) (he : ∀ whole, isTrue e X.env whole = (do let v ← whole; standAt e.pos; holding [v] (truthy v)) := by intro _; rfl) : VT X y W e (t_val f) := by
  refine pt_weak (pt_val hf he) fun σ H Q ⟨E0, tm, ρ, Hs, k, p⟩ => ?_
  refine tE.bind k p fun d ρ1 v Hs1 H1 k1 s1 s1' r1 p1 => ?_
  unfold o2 at p1
  cases r1 with
  | bl b => exact ⟨b, rfl, p1.fin k1 rfl⟩
  | _ => exact p1.elim
theorem vt_cmp {op : CmpOp} (ho : OpR X (compareOp op) r) (hs : OpOk (yc X y) r h) (ha : VE X y W a f) (hb : VE X y W b g) (hm : behindInMarks op b = false) : VT X y W (.Compare a [op] [b] pos) (t_val (e_op h f g)) := by
  refine pt_weak (pt_cmpR ho ha hb hm) fun σ H Q ⟨E0, tm, ρ, Hs, k, p⟩ => ?_
  refine tOp_of _ hs ?_
  refine tE.bind k p fun d ρ1 v Hs1 H1 k1 s1 s1' r1 p1 => ?_
  unfold o2 at p1
  cases r1 with
  | bl b => exact ⟨b, rfl, p1.fin k1 rfl⟩
  | _ => exact p1.elim
/-- the truth of any value -/
def truD : D → Option Bool
  | .non => some false
  | .bl b => some b
  | .int i => some (i != 0)
  | .str x => if x.length ≤ 16777216 then some ((x.length : Int) != 0) else none
  | .tup xs => some (!xs.isEmpty)
  | .lst xs => some (!xs.isEmpty)
  | .pr xs => some (!xs.isEmpty)
  | .ll xs => some (!xs.isEmpty)
  | .dct kvs => none
  | .atm _ => none
  | .exc _ => none
theorem RepL.isEmpty {Y : Yc} {H : Hp} {vs : List V} {ds : List D} (r : RepL Y H vs ds) : vs.isEmpty = ds.isEmpty := by cases r <;> rfl
theorem RepK.isEmpty {Y : Yc} {H : Hp} {vs : List (Key × V)} {ds : List (Key × D)} (r : RepK Y H vs ds) : vs.isEmpty = ds.isEmpty := by cases r <;> rfl
theorem truD_ok {Y : Yc} {Hs H : Hp} {v : V} {d : D} {b : Bool} (e : Same Hs H) (r : Rep Y Hs v d) (h : truD d = some b) : TruV Y.K v H b := by
  cases r with
  | non => exact (Option.some.inj h).symm
  | bl b => exact (Option.some.inj h).symm
  | int i => exact (Option.some.inj h).symm
  | str x =>
    by_cases hl : x.length ≤ 16777216
    · have h' : (if x.length ≤ 16777216 then some ((x.length : Int) != 0) else none) = some b := h
      rw [if_pos hl] at h'
      exact ⟨by rw [sizeLine_eq]; exact hl, (Option.some.inj h').symm⟩
    · have h' : (if x.length ≤ 16777216 then some ((x.length : Int) != 0) else none) = some b := h
      rw [if_neg hl] at h'
      cases h'
  | lst hs hr => exact .inl ⟨_, SqL.of (e _ _ hs), by rw [hr.isEmpty]; exact (Option.some.inj h).symm⟩
  | ll hs hr => exact .inl ⟨_, e.seq hs, by rw [hr.isEmpty]; exact (Option.some.inj h).symm⟩
  | tup hs hr => exact .inr (.inl ⟨_, (hs.mono e).seq, by rw [hr.isEmpty]; exact (Option.some.inj h).symm⟩)
  | pr hs hr => exact .inr (.inl ⟨_, sqt_same e hs, by rw [hr.isEmpty]; exact (Option.some.inj h).symm⟩)
  | dct hs hr => cases h
  | atm q => cases h
  | exc q => cases h
def t_tru (f : EM D) : EM Bool := fun ρ => (f ρ).bind fun d => o2 (truD d)
theorem vt_tru {e : Expr} (hf : VE X y W e f) (he : ∀ whole, isTrue e X.env whole = (do let v ← whole; standAt e.pos; holding [v] (truthy v)) := by intro _; rfl) : VT X y W e (t_tru f) := by
  refine pt_weak (pt_truth hf he) fun σ H Q ⟨E0, tm, ρ, Hs, k, p⟩ => ?_
  refine tE.bind k p fun d ρ1 v Hs1 H1 k1 s1 s1' r1 p1 => ?_
  unfold o2 at p1
  cases e : truD d with
  | none => rw [e] at p1; exact p1.elim
  | some b =>
    rw [e] at p1
    exact ⟨b, truD_ok k1.sh r1 e, p1.fin k1 rfl⟩
/-! and, or, not; chains; a if c else b -/
def t_and (f g : EM Bool) : EM Bool := fun ρ => (f ρ).bind fun b ρ1 => if b = true then g ρ1 else .ok false ρ1
def t_or (f g : EM Bool) : EM Bool := fun ρ => (f ρ).bind fun b ρ1 => if b = true then .ok true ρ1 else g ρ1
def t_not (f : EM Bool) : EM Bool := fun ρ => (f ρ).bind fun b ρ1 => .ok (!b) ρ1
variable {tf tg : EM Bool} {rest : List Expr}
theorem vw_and1 (ha : VT X y W a tf) : VW X y W (.BoolOp .And [a] pos) tf := pw_and1 ha
theorem vw_or1 (ha : VT X y W a tf) : VW X y W (.BoolOp .Or [a] pos) tf := pw_or1 ha
theorem vw_and (ha : VT X y W a tf) (hb : VW X y W (.BoolOp .And (b :: rest) pos) tg) : VW X y W (.BoolOp .And (a :: b :: rest) pos) (t_and tf tg) := by
  refine pw_weak (pw_and ha hb) fun σ H Q ⟨E0, tm, ρ, Hs, k, p⟩ => ?_
  refine tE.bind k p fun d ρ1 v Hs1 H1 k1 s1 s1' r1 p1 => ?_
  subst r1
  cases v with
  | true => exact ⟨E0, tm, ρ1, Hs1, k1, p1⟩
  | false => exact p1.fin k1 rfl
theorem vw_or (ha : VT X y W a tf) (hb : VW X y W (.BoolOp .Or (b :: rest) pos) tg) : VW X y W (.BoolOp .Or (a :: b :: rest) pos) (t_or tf tg) := by
  refine pw_weak (pw_or ha hb) fun σ H Q ⟨E0, tm, ρ, Hs, k, p⟩ => ?_
  refine tE.bind k p fun d ρ1 v Hs1 H1 k1 s1 s1' r1 p1 => ?_
  subst r1
  cases v with
  | true => exact p1.fin k1 rfl
  | false => exact ⟨E0, tm, ρ1, Hs1, k1, p1⟩
theorem vt_w {e : Expr} (h : VW X y W e tf) : VT X y W e tf := PW.pt h
theorem vt_not (ha : VT X y W a tf) : VT X y W (.UnaryOp .Not a pos) (t_not tf) := by
  refine pt_weak (pt_not ha) fun σ H Q ⟨E0, tm, ρ, Hs, k, p⟩ => ?_
  refine tE.bind k p fun d ρ1 v Hs1 H1 k1 s1 s1' r1 p1 => ?_
  subst r1
  exact p1.fin k1 rfl
/-- .. as values -/
def e_and (f g : EM D) : EM D := fun ρ => (f ρ).bind fun d ρ1 => match d with
  | .bl true => g ρ1
  | .bl false => .ok (.bl false) ρ1
  | _ => .bad
def e_or (f g : EM D) : EM D := fun ρ => (f ρ).bind fun d ρ1 => match d with
  | .bl true => .ok (.bl true) ρ1
  | .bl false => g ρ1
  | _ => .bad
def e_not (f : EM D) : EM D := fun ρ => (f ρ).bind fun d ρ1 => match d with
  | .bl b => .ok (.bl (!b)) ρ1
  | _ => .bad
theorem ve_one {op} (ha : VE X y W a f) : VE X y W (.BoolOp op [a] pos) f := pe_one ha
theorem ve_and (ha : VE X y W a f) (hb : VE X y W (.BoolOp .And (b :: rest) pos) g) : VE X y W (.BoolOp .And (a :: b :: rest) pos) (e_and f g) := by
  refine pe_weak (pe_and ha hb) fun σ H Q ⟨E0, tm, ρ, Hs, k, p⟩ => ?_
  refine tE.bind k p fun d ρ1 v Hs1 H1 k1 s1 s1' r1 p1 => ?_
  cases r1 with
  | bl c =>
    refine ⟨c, rfl, ?_⟩
    cases c with
    | true => exact ⟨E0, tm, ρ1, Hs1, k1, p1⟩
    | false => exact p1.fin k1 (.bl false)
  | _ => exact p1.elim
theorem ve_or (ha : VE X y W a f) (hb : VE X y W (.BoolOp .Or (b :: rest) pos) g) : VE X y W (.BoolOp .Or (a :: b :: rest) pos) (e_or f g) := by
  refine pe_weak (pe_or ha hb) fun σ H Q ⟨E0, tm, ρ, Hs, k, p⟩ => ?_
  refine tE.bind k p fun d ρ1 v Hs1 H1 k1 s1 s1' r1 p1 => ?_
  cases r1 with
  | bl c =>
    refine ⟨c, rfl, ?_⟩
    cases c with
    | true => exact p1.fin k1 (.bl true)
    | false => exact ⟨E0, tm, ρ1, Hs1, k1, p1⟩
  | _ => exact p1.elim
theorem ve_not (ha : VE X y W a f) : VE X y W (.UnaryOp .Not a pos) (e_not f) := by
  refine pe_weak (pe_not ha) fun σ H Q ⟨E0, tm, ρ, Hs, k, p⟩ => ?_
  refine tE.bind k p fun d ρ1 v Hs1 H1 k1 s1 s1' r1 p1 => ?_
  cases r1 with
  | bl c => exact ⟨c, rfl, p1.fin k1 (.bl (!c))⟩
  | _ => exact p1.elim
def e_if (t : EM Bool) (f g : EM D) : EM D := fun ρ => (t ρ).bind fun b ρ1 => if b = true then f ρ1 else g ρ1
theorem ve_if (hc : VT X y W c tf) (ha : VE X y W a f) (hb : VE X y W b g) : VE X y W (.IfExp c a b pos) (e_if tf f g) := by
  refine pe_weak (pe_ifExp hc ha hb) fun σ H Q ⟨E0, tm, ρ, Hs, k, p⟩ => ?_
  refine tE.bind k p fun d ρ1 v Hs1 H1 k1 s1 s1' r1 p1 => ?_
  subst r1
  cases v with
  | true => exact ⟨E0, tm, ρ1, Hs1, k1, p1⟩
  | false => exact ⟨E0, tm, ρ1, Hs1, k1, p1⟩
/-- a op b op' c -/
def e_chain (h h' : D → D → Option D) (f g q : EM D) : EM D := fun ρ => (f ρ).bind fun x ρ1 => (g ρ1).bind fun w ρ2 => match h x w with
  | some (.bl true) => (q ρ2).bind fun z => o2 (h' w z)
  | some (.bl false) => .ok (.bl false) ρ2
  | _ => .bad
theorem tChain_of (Y : Yc) {r' : R2} {h' : D → D → Option D} {q : EM D} (hs : OpOk Y r h) (hs' : OpOk Y r' h') {σ : L2.St} {H : Hp} {Q : VK} (z : tE Y W (fun Hs v d => Rep Y Hs v d) (e_chain h h' f g q) σ H Q) :
    tChain r r' (tE Y W (fun Hs v d => Rep Y Hs v d) f) (tE Y W (fun Hs v d => Rep Y Hs v d) g) (tE Y W (fun Hs v d => Rep Y Hs v d) q) σ H Q := by
  obtain ⟨E0, tm, ρ, Hs, k, p⟩ := z
  refine tE.bind k p fun x ρ1 v Hs1 H1 k1 s1 s1' r1 p1 => ?_
  refine tE.bind k1 p1 fun w ρ2 u Hs2 H2 k2 s2 s2' r2 p2 => ?_
  cases e : h x w with
  | none => rw [e] at p2; exact p2.elim
  | some t =>
    rw [e] at p2
    refine hs Hs2 H2 v u x w t _ k2.sh (r1.mono s2) r2 e fun v' Hs' H' gr rr => ?_
    cases rr with
    | bl b =>
      refine ⟨b, rfl, ?_⟩
      cases b with
      | false => exact p2.finG k2 gr (.bl false)
      | true =>
        have k3 := k2.grow gr
        refine tE.bind k3 (PostR.shift p2 gr.ss gr.hh) fun z ρ3 u3 Hs3 H3 k3 s3 s3' r3 p3 => ?_
        unfold o2 at p3
        cases e3 : h' w z with
        | none => rw [e3] at p3; exact p3.elim
        | some t3 =>
          rw [e3] at p3
          exact hs' Hs3 H3 u u3 w z t3 Q k3.sh ((r2.mono gr.ss).mono s3) r3 e3 fun v Hs' H' gr rr => p3.finG k3 gr rr
    | _ => exact p2.elim
theorem ve_chain {op op' : CmpOp} {r' : R2} {h' : D → D → Option D} {q : EM D} (ho : OpR X (compareOp op) r) (ho' : OpR X (compareOp op') r') (hs : OpOk (yc X y) r h) (hs' : OpOk (yc X y) r' h') (ha : VE X y W a f) (hb : VE X y W b g) (hc : VE X y W c q)
    (hm : lastMarks [op, op'] [b, c] = false := by with_unfolding_all rfl) : VE X y W (.Compare a [op, op'] [b, c] pos) (e_chain h h' f g q) :=
  pe_weak (pe_chain ho ho' ha hb hc hm) fun _ _ _ z => tChain_of _ hs hs' z
theorem vt_chain {op op' : CmpOp} {r' : R2} {h' : D → D → Option D} {q : EM D} (ho : OpR X (compareOp op) r) (ho' : OpR X (compareOp op') r') (hs : OpOk (yc X y) r h) (hs' : OpOk (yc X y) r' h') (ha : VE X y W a f) (hb : VE X y W b g) (hc : VE X y W c q)
    (hm : lastMarks [op, op'] [b, c] = false := by with_unfolding_all rfl) : VT X y W (.Compare a [op, op'] [b, c] pos) (t_val (e_chain h h' f g q)) := by
  refine pt_weak (pt_chain ho ho' ha hb hc hm) fun σ H Q ⟨E0, tm, ρ, Hs, k, p⟩ => ?_
  refine tChain_of _ hs hs' ?_
  refine tE.bind k p fun d ρ1 v Hs1 H1 k1 s1 s1' r1 p1 => ?_
  unfold o2 at p1
  cases r1 with
  | bl b => exact ⟨b, rfl, p1.fin k1 rfl⟩
  | _ => exact p1.elim
end

/-! ### argument lists, displays -/
def a_nil : EM (List D) := fun ρ => .ok [] ρ
def a_cons (f : EM D) (g : EM (List D)) : EM (List D) := fun ρ => (f ρ).bind fun x ρ1 => (g ρ1).bind fun xs ρ2 => .ok (x :: xs) ρ2
section
variable {X : Cx} {y : Yo} {W : WX} {e : Expr} {es : List Expr} {f : EM D} {g : EM (List D)} {pos : Pos}
theorem va_nil : VA X y W [] a_nil := pa_weak pa_nil fun σ H Q ⟨E0, tm, ρ, Hs, k, p⟩ => PostR.fin p k .nil
theorem va_cons (ha : VE X y W e f) (hr : VA X y W es g) (hs : starEach (e :: es) X.env = (false, eval e X.env) :: starEach es X.env := by rfl) : VA X y W (e :: es) (a_cons f g) := by
  refine pa_weak (pa_cons ha hr hs) fun σ H Q ⟨E0, tm, ρ, Hs, k, p⟩ => ?_
  refine tE.bind k p fun x ρ1 v Hs1 H1 k1 s1 s1' r1 p1 => ?_
  refine tE.bind k1 p1 fun xs ρ2 vs Hs2 H2 k2 s2 s2' r2 p2 => ?_
  exact p2.fin k2 (.cons (r1.mono s2) r2)
def e_tup (g : EM (List D)) : EM D := fun ρ => (g ρ).bind fun xs => o2 (if xs.length ≤ 16777216 then some (.tup xs) else none)
/-- a tuple display, its object known -/
theorem pe_tupS {x1} {t : TA} (h : PA X es t) : PE X (.Tuple es x1 pos) (fun σ H Q => t σ H fun xs H1 => xs.length ≤ sizeLine ∧ ∀ p o, H1 p = none → o.dict = none → Q (.ref p) (upd H1 p (.frz o (.tup xs)))) := by
  refine PE.mk fun pins s σ H Q I hq => ?_
  refine wpAny_Tuple_spliced (thn (h.run pos pins s σ H _ I hq) fun us s1 ⟨xs, H1, I1, r, hz, q⟩ => ⟨r.length ▸ hz, ?_⟩)
  have at1 : (s1.heap.push { cls := .type "tuple", data := .seq us.toArray }).get? s1.heap.objs.size = some { cls := .type "tuple", data := .seq us.toArray } := Heap.get?_push_size _ rfl
  refine ⟨.ref s1.heap.objs.size, _, I1.laid (t' := s1.toks) (o := .frz { cls := .type "tuple", data := .seq us.toArray } (.tup xs)) (fun b u e => Heap.get?_push_of_some _ e) (Nat.le_refl _) ⟨at1, ?_⟩, rfl, q _ _ (I1.hok.fresh (Nat.le_refl _)) rfl⟩
  exact ⟨hz, us, r, ⟨_, at1, rfl, _, rfl⟩⟩
theorem ve_tup {x1} (h : VA X y W es g) : VE X y W (.Tuple es x1 pos) (e_tup g) := by
  refine pe_weak (pe_tupS h) fun σ H Q ⟨E0, tm, ρ, Hs, k, p⟩ => ?_
  refine tE.bind k p fun xs ρ1 vs Hs1 H1 k1 s1 s1' r1 p1 => ?_
  unfold o2 at p1
  by_cases hl : xs.length ≤ 16777216
  · rw [if_pos hl] at p1
    refine ⟨by rw [r1.length, sizeLine_eq]; exact hl, fun a o ha ho => ?_⟩
    have gr := Grow.new (.frz o (.tup vs)) k1.sh ha
    exact p1.finG k1 gr (.tup ⟨o, upd_same, ho⟩ (r1.mono gr.ss))
  · rw [if_neg hl] at p1
    exact p1.elim
def e_lst (g : EM (List D)) : EM D := fun ρ => (g ρ).bind fun xs => o2 (if xs.length ≤ 16777216 then some (.lst xs) else none)
theorem ve_lst (h : VA X y W es g) : VE X y W (.List es pos) (e_lst g) := by
  refine pe_weak (pe_lst h) fun σ H Q ⟨E0, tm, ρ, Hs, k, p⟩ => ?_
  refine tE.bind k p fun xs ρ1 vs Hs1 H1 k1 s1 s1' r1 p1 => ?_
  unfold o2 at p1
  by_cases hl : xs.length ≤ 16777216
  · rw [if_pos hl] at p1
    refine ⟨by rw [r1.length, sizeLine_eq]; exact hl, fun a ha => ?_⟩
    have gr := Grow.new (.lst vs) k1.sh ha
    exact p1.finG k1 gr (.lst upd_same (r1.mono gr.ss))
  · rw [if_neg hl] at p1
    exact p1.elim

/-! ### calls of built-ins, of defs -/
/-- a call by values -/
def ClOk (Y : Yc) (r : List V → Hp → VK → Prop) (h : List D → Option D) : Prop := ∀ (Hs H : Hp) (vs : List V) (ds : List D) (z : D) (Q : VK), Same Hs H → RepL Y Hs vs ds → h ds = some z →
  (∀ v Hs' H', Grow Hs H Hs' H' → Rep Y Hs' v z → Q v H') → r vs H Q
def e_cb (h : List D → Option D) (g : EM (List D)) : EM D := fun ρ => (g ρ).bind fun xs => o2 (h xs)
variable {x : Str} {p0 : Pos} {id T : String} {r : List V → Hp → VK → Prop} {h : List D → Option D}
theorem tCB_of (Y : Yc) (hs : ClOk Y r h) {σ : L2.St} {H : Hp} {Q : VK} (q : tE Y W (fun Hs v d => Rep Y Hs v d) (e_cb h g) σ H Q) :
    tCB r (tE Y W (fun Hs v d => RepL Y Hs v d) g) σ H Q := by
  obtain ⟨E0, tm, ρ, Hs, k, p⟩ := q
  refine tE.bind k p fun xs ρ1 vs Hs1 H1 k1 s1 s1' r1 p1 => ?_
  unfold o2 at p1
  cases e : h xs with
  | none => rw [e] at p1; exact p1.elim
  | some z =>
    rw [e] at p1
    exact hs Hs1 H1 vs xs z Q k1.sh r1 e fun v Hs' H' gr rr => p1.finG k1 gr rr
theorem ve_cb (hc : CallR X (.builtin id) r) (hs : ClOk (yc X y) r h) (hm : X.mg x = none) (hv : bootBuiltins x = some (.builtin id)) (ha : VA X y W (e :: es) g) (hg : Gl X x := by rfl) (hn : x ≠ "__name__" := by decide) (hdb : (x == ("__debug__" : Str)) = false := by decide)
    (he : starEach (e :: es) X.env = (false, eval e X.env) :: starEach es X.env := by rfl) (hpl : (backTo pos (starEach es X.env)).any (·.1) = false := by rfl) : VE X y W (.Call (.Name x p0) (e :: es) [] pos) (e_cb h g) :=
  pe_weak (pe_callB hc hg hm hv ha hn hdb he hpl) fun _ _ _ q => tCB_of _ hs q
theorem ve_ct (hc : CallR X (.type T) r) (hs : ClOk (yc X y) r h) (hm : X.mg x = none) (hv : bootBuiltins x = some (.type T)) (ha : VA X y W (e :: es) g) (hg : Gl X x := by rfl) (hn : x ≠ "__name__" := by decide) (hdb : (x == ("__debug__" : Str)) = false := by decide)
    (he : starEach (e :: es) X.env = (false, eval e X.env) :: starEach es X.env := by rfl) (hpl : (backTo pos (starEach es X.env)).any (·.1) = false := by rfl) : VE X y W (.Call (.Name x p0) (e :: es) [] pos) (e_cb h g) :=
  pe_weak (pe_callTy hc hg hm hv ha hn hdb he hpl) fun _ _ _ q => tCB_of _ hs q

/-- what a def of plain values comes to -/
inductive RF where
  | bad | ok (d : D) | err (c : Str)
/-- its promise -/
def spV (Y : Yc) (n : Nat) (F : List D → RF) : Sp := fun vs H Q E => ∃ Hs ds, Same Hs H ∧ RepL Y Hs vs ds ∧ ds.length = n ∧ (match F ds with
  | .bad => False
  | .ok d => ∀ v Hs' H', Grow Hs H Hs' H' → Rep Y Hs' v d → Q v H'
  | .err c => ∀ H', Same H H' → E (.ref (Y.ca c)) none H')
/-- a def that may be called by its name -/
structure Cl (P : Program) (w : World) (K : PySem.W.Frag) (mg : Str → Option Value) (base : Heap) (y : Yo) (k : Nat) (x : Str) (n : Nat) (F : List D → RF) : Prop where
  ex : ∃ (f : Addr) (fd : FuncData) (ps : List Str), FnOk P w K mg base (L2.CX P w) k f fd ps (spV ⟨K, y.at_, y.ca⟩ n F) ∧ mg x = some (.ref f) ∧ PySem.W.keepIn K (.ref f) = true ∧ Binds K fd ps []
/-- where one stands in a body -/
structure Cv (X : Cx) (W : WX) (k : Nat) : Prop where
  calm : X.calm = true
  hp : PassesOwn (model X.prog X.w) X.A X.env X.xe
  tk : Takes X W
  nd : X.N.Nodup
  room : Room k X.A
def e_call (F : List D → RF) (n : Nat) (g : EM (List D)) : EM D := fun ρ => (g ρ).bind fun xs ρ1 => if xs.length = n then (match F xs with
  | .bad => .bad
  | .ok d => .ok d ρ1
  | .err c => .err c ρ1) else .bad
theorem ve_call {F : List D → RF} {n k j : Nat} (c : Cl X.prog X.w X.K X.mg X.base y k x n F) (v : Cv X W j) (ha : VA X y W (e :: es) g) (hk : k ≤ j := by decide) (hg : Gl X x := by rfl)
    (hdb : (x == ("__debug__" : Str)) = false := by decide) (he : starEach (e :: es) X.env = (false, eval e X.env) :: starEach es X.env := by rfl) (hpl : (backTo pos (starEach es X.env)).any (·.1) = false := by rfl) :
    VE X y W (.Call (.Name x p0) (e :: es) [] pos) (e_call F n g) := by
  obtain ⟨f, fd, ps, FO, hm, kp, b⟩ := c.ex
  refine pe_weak (pe_callS (E := WE W) FO (v.room.mono hk) hg hm kp b (fun σ => passAt v.tk σ) ha hdb he hpl) fun σ H Q ⟨E0, tm, ρ, Hs, k, p⟩ => ?_
  refine tE.bind k p fun xs ρ1 vs Hs1 H1 k1 s1 s1' r1 p1 => ?_
  by_cases hl : xs.length = n
  · rw [if_pos hl] at p1
    refine ⟨Hs1, xs, k1.sh, r1, hl, ?_⟩
    cases eF : F xs with
    | bad => rw [eF] at p1; exact p1.elim
    | ok d =>
      rw [eF] at p1
      exact fun v Hs' H' gr rr => p1.finG k1 gr rr
    | err c =>
      rw [eF] at p1
      intro H' s'
      have gr := Grow.heap k1.sh s'
      exact p1 Hs1 H' (k1.grow gr) gr.ss gr.hh
  · rw [if_neg hl] at p1
    exact p1.elim
end
end VL

namespace VL
open PySem PySem.Spec PyProof.Rows L2

/-! ### statements -/
inductive RS where
  | bad | next (ρ : Env) | ret (d : D) | brk (ρ : Env) | cont (ρ : Env) | err (c : Str) (ρ : Env)
abbrev SM := Env → RS
/-- from an expression into a statement -/
def RE.to {α : Type} : RE α → (α → SM) → RS
  | .bad, _ => .bad
  | .ok a ρ, g => g a ρ
  | .err c ρ, _ => .err c ρ
def RS.then : RS → SM → RS
  | .next ρ, g => g ρ
  | r, _ => r

def PostS (Y : Yc) (W : WX) (E0 : Hp × Hp) (Hs : Hp) (D : Ends) : RS → Prop
  | .bad => False
  | .next ρ' => ∀ σ' Hs' H', Ok Y E0 [] ρ' σ' Hs' H' → Same Hs Hs' → D.nx σ' H'
  | .ret d => ∀ v Hs' H', Grow E0.1 E0.2 Hs' H' → Rep Y Hs' v d → D.rt v H'
  | .brk ρ' => ∀ σ' Hs' H', Ok Y E0 [] ρ' σ' Hs' H' → Same Hs Hs' → D.bk σ' H'
  | .cont ρ' => ∀ σ' Hs' H', Ok Y E0 [] ρ' σ' Hs' H' → Same Hs Hs' → D.ct σ' H'
  | .err c ρ' => ∀ σ' Hs' H', Ok Y E0 [] ρ' σ' Hs' H' → Same Hs Hs' → W (.ref (Y.ca c)) none σ' H'
def tS (Y : Yc) (W : WX) (g : SM) : TS := fun D σ H => ∃ E0 ρ Hs, Ok Y E0 [] ρ σ Hs H ∧ PostS Y W E0 Hs D (g ρ)
def VS (X : Cx) (y : Yo) (W : WX) (st : Stmt) (g : SM) : Prop := PS X st (tS (yc X y) W g)
def VSs (X : Cx) (y : Yo) (W : WX) (st : List Stmt) (g : SM) : Prop := PSs X st (tS (yc X y) W g)

section
variable {α β : Type} {Y : Yc} {W : WX} {R : Hp → β → α → Prop} {E0 : Hp × Hp} {ρ : Env} {σ : L2.St} {Hs H Hs1 H1 : Hp} {D : Ends}
theorem PostS.shift {r : RS} (p : PostS Y W E0 Hs D r) (e : Same Hs Hs1) : PostS Y W E0 Hs1 D r := by
  cases r with
  | bad => exact p
  | next ρ' => exact fun σ' Hs' H' k s => p σ' Hs' H' k (e.trans s)
  | ret d => exact p
  | brk ρ' => exact fun σ' Hs' H' k s => p σ' Hs' H' k (e.trans s)
  | cont ρ' => exact fun σ' Hs' H' k s => p σ' Hs' H' k (e.trans s)
  | err c ρ' => exact fun σ' Hs' H' k s => p σ' Hs' H' k (e.trans s)
theorem tS.bind {f : EM α} {g : α → SM} {Q1 : β → Hp → Prop} (k : Ok Y E0 [] ρ σ Hs H) (p : PostS Y W E0 Hs D ((f ρ).to g))
    (c : ∀ a ρ1 b Hs1 H1, Ok Y E0 [] ρ1 σ Hs1 H1 → Same Hs Hs1 → Same H H1 → R Hs1 b a → PostS Y W E0 Hs1 D (g a ρ1) → Q1 b H1) : tE Y W R f σ H Q1 := by
  refine ⟨E0, [], ρ, Hs, k, ?_⟩
  cases e : f ρ with
  | bad =>
    rw [e] at p
    exact p.elim
  | err cc ρ' =>
    rw [e] at p
    exact fun Hs' H' k1 s s' => p σ Hs' H' k1 s
  | ok a ρ1 =>
    rw [e] at p
    exact fun b Hs1 H1 k1 s s' r => c a ρ1 b Hs1 H1 k1 s s' r (PostS.shift p s)
end

def s_next : SM := fun ρ => .next ρ
def s_seq (f g : SM) : SM := fun ρ => (f ρ).then g
def s_expr (f : EM D) : SM := fun ρ => (f ρ).to fun _ ρ1 => .next ρ1
def s_ret (f : EM D) : SM := fun ρ => (f ρ).to fun d _ => .ret d
def s_if (t : EM Bool) (f g : SM) : SM := fun ρ => (t ρ).to fun b ρ1 => if b = true then f ρ1 else g ρ1
def s_set (i : Nat) (f : EM D) : SM := fun ρ => (f ρ).to fun d ρ1 => .next (ρ1.set i (.dat d))
def s_brk : SM := fun ρ => .brk ρ
def s_cont : SM := fun ρ => .cont ρ
def s_raise (c : Str) : SM := fun ρ => .err c ρ
section
variable {X : Cx} {y : Yo} {W : WX} {e c : Expr} {st : Stmt} {rest a b : List Stmt} {f : EM D} {tf : EM Bool} {g h : SM} {pos : Pos}
theorem vss_nil : VSs X y W [] s_next := pss_weak pss_nil fun D σ H ⟨E0, ρ, Hs, k, p⟩ => p σ Hs H k (.refl _)
theorem vss_cons (h1 : VS X y W st g) (h2 : VSs X y W rest h) : VSs X y W (st :: rest) (s_seq g h) := by
  refine pss_weak (pss_cons h1 h2) fun D σ H ⟨E0, ρ, Hs, k, p⟩ => ⟨E0, ρ, Hs, k, ?_⟩
  unfold s_seq at p
  cases e : g ρ with
  | bad => rw [e] at p; exact p
  | next ρ' =>
    rw [e] at p
    intro σ' Hs' H' k' s'
    exact ⟨E0, ρ', Hs', k', PostS.shift p s'⟩
  | ret d => rw [e] at p; exact p
  | brk ρ' => rw [e] at p; exact p
  | cont ρ' => rw [e] at p; exact p
  | err c ρ' => rw [e] at p; exact p
theorem vss_one (h1 : VS X y W st g) : VSs X y W [st] g := pss_one h1
theorem vs_pass : VS X y W (.Pass pos) s_next := ps_weak ps_pass fun D σ H ⟨E0, ρ, Hs, k, p⟩ => p σ Hs H k (.refl _)
theorem vs_break : VS X y W (.Break pos) s_brk := ps_weak ps_break fun D σ H ⟨E0, ρ, Hs, k, p⟩ => p σ Hs H k (.refl _)
theorem vs_cont : VS X y W (.Continue pos) s_cont := ps_weak ps_continue fun D σ H ⟨E0, ρ, Hs, k, p⟩ => p σ Hs H k (.refl _)
theorem vs_expr (he : VE X y W e f) (hs : swapsWith e none pos.line X.env = pure false := by rfl) : VS X y W (.Expr e pos) (s_expr f) := by
  refine ps_weak (ps_expr he hs) fun D σ H ⟨E0, ρ, Hs, k, p⟩ => ?_
  exact tS.bind k p fun d ρ1 v Hs1 H1 k1 s1 s1' r1 p1 => p1 σ Hs1 H1 k1 (.refl _)
theorem vs_ret (he : VE X y W e f) : VS X y W (.Return (some e) pos) (s_ret f) := by
  refine ps_weak (ps_ret he) fun D σ H ⟨E0, ρ, Hs, k, p⟩ => ?_
  exact tS.bind k p fun d ρ1 v Hs1 H1 k1 s1 s1' r1 p1 => p1 v Hs1 H1 k1.gr r1
theorem vs_if (hc : VT X y W c tf) (ha : VSs X y W a g) (hb : VSs X y W b h) : VS X y W (.If c a b pos) (s_if tf g h) := by
  refine ps_weak (ps_if hc ha hb) fun D σ H ⟨E0, ρ, Hs, k, p⟩ => ?_
  refine tS.bind k p fun d ρ1 v Hs1 H1 k1 s1 s1' r1 p1 => ?_
  subst r1
  cases v with
  | true => exact ⟨E0, ρ1, Hs1, k1, p1⟩
  | false => exact ⟨E0, ρ1, Hs1, k1, p1⟩
theorem vs_set (i : Nat) {x : Str} {pos' : Pos} {j : Nat} (v : Cv X W j) (he : VE X y W e f) (hi : X.N[i]? = some x := by rfl) (hx : Loc X.env.scope x := by first | exact Or.inl rfl | exact Or.inr rfl) (hs : swapsWith e (some (.Name x pos')) pos.line X.env = pure false := by rfl)
    (hf : X.fn x = true ∨ X.env.scope.names.lookup x = some .local := by first | exact .inl rfl | exact .inr rfl) : VS X y W (.Assign [.Name x pos'] e pos) (s_set i f) := by
  refine ps_weak (ps_set (i := i) v.nd hi hx he hs hf) fun D σ H ⟨E0, ρ, Hs, k, p⟩ => ?_
  exact tS.bind k p fun d ρ1 v Hs1 H1 k1 s1 s1' r1 p1 => p1 _ Hs1 H1 (k1.put r1) (.refl _)
/-- a, b = c, d: plain local names -/
def s_par (i j : Nat) (g : EM (List D)) : SM := fun ρ => (g ρ).to fun ds ρ1 => match ds with
  | [c, d] => .next ((ρ1.set i (.dat c)).set j (.dat d))
  | _ => .bad
theorem vs_par (i j : Nat) {x z : Str} {a b : Expr} {ga : EM (List D)} {px py pt : Pos} {kt k2 pt2} {n : Nat} (v : Cv X W n) (ha : VA X y W [a, b] ga) (hi : X.N[i]? = some x := by rfl) (hj : X.N[j]? = some z := by rfl) (hij : i ≠ j := by decide)
    (hx : X.env.scope.names.lookup x = some .local := by rfl) (hy : X.env.scope.names.lookup z = some .local := by rfl)
    (hw : swappedStores [.Tuple [.Name x px, .Name z py] kt pt] (.Tuple [a, b] k2 pt2) X.env = pure (some [x, z]) := by rfl)
    (hs : swapsWithSole [.Tuple [.Name x px, .Name z py] kt pt] (.Tuple [a, b] k2 pt2) pos.line X.env = pure false := by rfl) :
    VS X y W (.Assign [.Tuple [.Name x px, .Name z py] kt pt] (.Tuple [a, b] k2 pt2) pos) (s_par i j ga) := by
  refine ps_weak (ps_par (i := i) (j := j) v.calm v.nd hi hj hij hx hy ha hw hs) fun D σ H ⟨E0, ρ, Hs, k, p⟩ => ?_
  refine tS.bind k p fun ds ρ1 vs Hs1 H1 k1 s1 s1' r1 p1 => ?_
  cases r1 with
  | nil => exact p1.elim
  | cons q1 q2 =>
    cases q2 with
    | nil => exact p1.elim
    | cons q2 q3 =>
      cases q3 with
      | cons _ _ => exact p1.elim
      | nil => exact ⟨_, _, rfl, p1 _ Hs1 H1 ((k1.put q1).put q2) (.refl _)⟩
/-- raise C('text') -/
theorem vs_raise {x m : Str} {cd : Addr} {j : Nat} {p1 p2 p3 : Pos} {jj : Nat} {bmB : List Value} {B newId initId : String} (v : Cv X W j) (F : ExcBaseFacts B newId initId bmB) (q : PySem.W.excIn X.K (y.ca x) bmB newId = true) (gC : X.mg x = some (.ref (y.ca x))) (kC : PySem.W.keepIn X.K (.ref (y.ca x)) = true)
    (h1 : PySem.W.subIn X.K (.ref (y.ca x)) (.type "BaseException") = some true) (h2 : PySem.W.typeIn X.K (.ref (y.ca x)) = some (.type "type")) (hg : Gl X x := by rfl) (hdb : (x == ("__debug__" : Str)) = false := by decide) :
    VS X y W (.Raise (some (.Call (.Name x p1) [.Constant (.str m) jj p2] [] p3)) none pos) (s_raise x) :=
  ps_weak (ps_raise v.calm v.tk (pmk_own F q gC kC (raises_own h1 h2) hg hdb)) fun D σ H ⟨E0, ρ, Hs, k, p⟩ => p σ Hs H k (.refl _)
end

/-! ### targets -/
/-- a target, by values; is: the slots that it stores to -/
def VG (X : Cx) (y : Yo) (target : Expr) (is : List Nat) (gf : D → Env → Option Env) : Prop :=
  PG X target (fun v σ H Q => ∃ E0 tm ρ Hs d ρ', Ok (yc X y) E0 tm ρ σ Hs H ∧ Rep (yc X y) Hs v d ∧ gf d ρ = some ρ' ∧
    ∀ σ', Ok (yc X y) E0 tm ρ' σ' Hs H → (∀ i, i ∉ is → σ'[i]? = σ[i]?) → σ'.length = σ.length → Q σ' H)
def VGs (X : Cx) (y : Yo) (ts : List Expr) (is : List Nat) (gf : List D → Env → Option Env) : Prop :=
  PGs X ts (fun vs σ H Q => ∃ E0 tm ρ Hs ds ρ', Ok (yc X y) E0 tm ρ σ Hs H ∧ RepL (yc X y) Hs vs ds ∧ gf ds ρ = some ρ' ∧
    ∀ σ', Ok (yc X y) E0 tm ρ' σ' Hs H → (∀ i, i ∉ is → σ'[i]? = σ[i]?) → σ'.length = σ.length → Q σ' H)
theorem pg_weak {X : Cx} {e : Expr} {t t' : TG} (h : PG X e t) (i : ∀ v σ H Q, t' v σ H Q → t v σ H Q) : PG X e t' := ⟨fun pins s σ H v u Q I r q => h.run pins s σ H v u Q I r (i _ _ _ _ q)⟩
theorem pgs_weak {X : Cx} {e : List Expr} {t t' : TGs} (h : PGs X e t) (i : ∀ v σ H Q, t' v σ H Q → t v σ H Q) : PGs X e t' := ⟨fun pins s σ H v u Q I r q => h.run pins s σ H v u Q I r (i _ _ _ _ q)⟩
def g_name (i : Nat) : D → Env → Option Env := fun d ρ => some (ρ.set i (.dat d))
def gs_nil : List D → Env → Option Env := fun ds ρ => match ds with
  | [] => some ρ
  | _ => none
def gs_cons (g : D → Env → Option Env) (h : List D → Env → Option Env) : List D → Env → Option Env := fun ds ρ => match ds with
  | d :: r => (match g d ρ with
    | some ρ1 => h r ρ1
    | none => none)
  | [] => none
def g_tup (n : Nat) (h : List D → Env → Option Env) : D → Env → Option Env := fun d ρ => match d with
  | .tup ds => if ds.length = n then h ds ρ else none
  | .pr ds => if ds.length = n then h ds ρ else none
  | _ => none
section
variable {X : Cx} {y : Yo} {pos : Pos}
theorem vg_name (i : Nat) {x : Str} (hN : X.N.Nodup) (hi : X.N[i]? = some x := by rfl) (hx : Loc X.env.scope x := by first | exact Or.inl rfl | exact Or.inr rfl)
    (hf : X.fn x = true ∨ X.env.scope.names.lookup x = some .local := by first | exact .inl rfl | exact .inr rfl) : VG X y (.Name x pos) [i] (g_name i) := by
  refine pg_weak (pg_name (i := i) hN hi hx hf) fun v σ H Q ⟨E0, tm, ρ, Hs, d, ρ', k, r, e, q⟩ => ?_
  have e' := Option.some.inj e
  subst e'
  refine q _ (k.put r) (fun j hj => ?_) List.length_set
  exact List.getElem?_set_ne (fun z => hj (by rw [z]; exact List.mem_cons_self))
theorem vgs_nil : VGs X y [] [] gs_nil := by
  refine pgs_weak pgs_nil fun vs σ H Q ⟨E0, tm, ρ, Hs, ds, ρ', k, r, e, q⟩ => ?_
  cases r with
  | nil =>
    have e' := Option.some.inj e
    subst e'
    exact ⟨rfl, q σ k (fun _ _ => rfl) rfl⟩
  | cons _ _ => cases e
theorem vgs_cons {e : Expr} {es : List Expr} {is js : List Nat} {g : D → Env → Option Env} {h : List D → Env → Option Env} (h1 : VG X y e is g) (h2 : VGs X y es js h)
    (hs : (assignEach (e :: es) X.env).map (·.2) = assign e X.env :: (assignEach es X.env).map (·.2) := by rfl) : VGs X y (e :: es) (is ++ js) (gs_cons g h) := by
  refine pgs_weak (pgs_cons h1 h2 hs) fun vs σ H Q ⟨E0, tm, ρ, Hs, ds, ρ', k, r, e, q⟩ => ?_
  cases r with
  | nil => cases e
  | @cons v vs d ds r1 r2 =>
    have e' : (match g d ρ with
      | some ρ1 => h ds ρ1
      | none => none) = some ρ' := e
    cases eg : g d ρ with
    | none => rw [eg] at e'; cases e'
    | some ρ1 =>
      rw [eg] at e'
      refine ⟨_, _, rfl, E0, tm, ρ, Hs, d, ρ1, k, r1, eg, fun σ1 k1 n1 l1 => ?_⟩
      refine ⟨E0, tm, ρ1, Hs, ds, ρ', k1, r2, e', fun σ2 k2 n2 l2 => q σ2 k2 (fun i hi => ?_) (l2.trans l1)⟩
      rw [n2 i fun z => hi (List.mem_append_right _ z), n1 i fun z => hi (List.mem_append_left _ z)]
theorem vg_tup {es : List Expr} {kk : Nat} {n : Nat} {is : List Nat} {h : List D → Env → Option Env} (hc : X.calm = true) (h1 : VGs X y es is h) (hn : (assignEach es X.env).length = n := by rfl) (hst : (assignEach es X.env).findIdx? (·.1) = none := by rfl) :
    VG X y (.Tuple es kk pos) is (g_tup n h) := by
  refine pg_weak (pg_tup (n := n) hc h1 hn hst) fun v σ H Q ⟨E0, tm, ρ, Hs, d, ρ', k, r, e, q⟩ => ?_
  cases r with
  | @tup a xs ds hq hr =>
    have e' : (if ds.length = n then h ds ρ else none) = some ρ' := e
    by_cases hl : ds.length = n
    · rw [if_pos hl] at e'
      exact ⟨a, xs, rfl, (hq.mono k.sh).seq, by rw [hr.length]; exact hl, E0, tm, ρ, Hs, ds, ρ', k, hr, e', q⟩
    · rw [if_neg hl] at e'
      cases e'
  | @pr a xs ds hq hr =>
    have e' : (if ds.length = n then h ds ρ else none) = some ρ' := e
    by_cases hl : ds.length = n
    · rw [if_pos hl] at e'
      exact ⟨a, xs, rfl, sqt_same k.sh hq, by rw [hr.length]; exact hl, E0, tm, ρ, Hs, ds, ρ', k, hr, e', q⟩
    · rw [if_neg hl] at e'
      cases e'
  | _ => cases e
end

/-! ### what is walked -/
/-- J yields the values ds -/
def Wk (Y : Yc) (J : It) (Hs : Hp) (ds : List D) : Prop := ∀ Hsi Hi, Same Hs Hsi → Same Hsi Hi →
  (∀ (i : Nat) (d : D), ds[i]? = some d → J.go i Hi ∧ ∀ x H', J.yld i Hi x H' → ∃ Hs'', Grow Hsi Hi Hs'' H' ∧ Rep Y Hs'' x d) ∧ ∀ i : Nat, ds.length ≤ i → J.stop i Hi
def tI (Y : Yc) (W : WX) (f : EM (List D)) : TI := fun σ H R => ∃ E0 tm ρ Hs, Ok Y E0 tm ρ σ Hs H ∧ (match f ρ with
  | .bad => False
  | .ok ds ρ' => ∀ J Hs' H', Ok Y E0 tm ρ' σ Hs' H' → Same Hs Hs' → Same H H' → Wk Y J Hs' ds → R J H'
  | .err c ρ' => ∀ Hs' H', Ok Y E0 tm ρ' σ Hs' H' → Same Hs Hs' → Same H H' → W (.ref (Y.ca c)) none σ H')
def VI (X : Cx) (y : Yo) (W : WX) (tg iter : Expr) (f : EM (List D)) : Prop := PI X tg iter (tI (yc X y) W f)
theorem pi_weak {X : Cx} {tg e : Expr} {t t' : TI} (h : PI X tg e t) (i : ∀ σ H Q, t' σ H Q → t σ H Q) : PI X tg e t' := ⟨fun pins s σ H Q I q => h.run pins s σ H Q I (i _ _ _ q)⟩
section
variable {X : Cx} {y : Yo} {W : WX} {tg e e2 : Expr} {f : EM D} {pos : Pos}
theorem tI.of {α β : Type} {Y : Yc} {W : WX} {R : Hp → β → α → Prop} {E0 : Hp × Hp} {tm : List Addr} {ρ : Env} {σ : L2.St} {Hs H : Hp} {f : EM α} {g : α → EM (List D)} {Q1 : β → Hp → Prop} {RR : It → Hp → Prop} (k : Ok Y E0 tm ρ σ Hs H)
    (p : match (f ρ).bind g with
      | .bad => False
      | .ok ds ρ' => ∀ J Hs' H', Ok Y E0 tm ρ' σ Hs' H' → Same Hs Hs' → Same H H' → Wk Y J Hs' ds → RR J H'
      | .err c ρ' => ∀ Hs' H', Ok Y E0 tm ρ' σ Hs' H' → Same Hs Hs' → Same H H' → W (.ref (Y.ca c)) none σ H')
    (c : ∀ a ρ1 b Hs1 H1, Ok Y E0 tm ρ1 σ Hs1 H1 → Same Hs Hs1 → Same H H1 → R Hs1 b a → f ρ = .ok a ρ1 →
      (match g a ρ1 with
      | .bad => False
      | .ok ds ρ' => ∀ J Hs' H', Ok Y E0 tm ρ' σ Hs' H' → Same Hs1 Hs' → Same H1 H' → Wk Y J Hs' ds → RR J H'
      | .err c ρ' => ∀ Hs' H', Ok Y E0 tm ρ' σ Hs' H' → Same Hs1 Hs' → Same H1 H' → W (.ref (Y.ca c)) none σ H') → Q1 b H1) : tE Y W R f σ H Q1 := by
  refine ⟨E0, tm, ρ, Hs, k, ?_⟩
  cases e : f ρ with
  | bad =>
    rw [e] at p
    exact p.elim
  | err cc ρ' =>
    rw [e] at p
    exact p
  | ok a ρ1 =>
    rw [e] at p
    intro b Hs1 H1 k1 s s' r
    refine c a ρ1 b Hs1 H1 k1 s s' r e ?_
    have p' : match g a ρ1 with
      | .bad => False
      | .ok ds ρ' => ∀ J Hs' H', Ok Y E0 tm ρ' σ Hs' H' → Same Hs Hs' → Same H H' → Wk Y J Hs' ds → RR J H'
      | .err c ρ' => ∀ Hs' H', Ok Y E0 tm ρ' σ Hs' H' → Same Hs Hs' → Same H H' → W (.ref (Y.ca c)) none σ H' := p
    cases e2 : g a ρ1 with
    | bad => rw [e2] at p'; exact p'
    | ok ds ρ' =>
      rw [e2] at p'
      exact fun J Hs' H' k2 s2 s2' w => p' J Hs' H' k2 (s.trans s2) (s'.trans s2') w
    | err c ρ' =>
      rw [e2] at p'
      exact fun Hs' H' k2 s2 s2' => p' Hs' H' k2 (s.trans s2) (s'.trans s2')
theorem wk_list {Y : Yc} {a : Addr} {xs : List V} {ds : List D} {Hs : Hp} (h : SqL Y.K Hs a xs) (r : RepL Y Hs xs ds) : Wk Y (Itl Y.K a) Hs ds := fun Hsi Hi s s' => by
  have hi : SqL Y.K Hi a xs := (s.trans s').seq h
  refine ⟨fun i d hd => ?_, fun i hi' => ⟨xs, hi, by rw [r.length]; exact hi'⟩⟩
  obtain ⟨v, h1, h2⟩ := r.get hd
  refine ⟨⟨xs, v, hi, h1⟩, fun x H' q => ?_⟩
  obtain ⟨e, q⟩ := q
  subst e
  have ex : x = v := Option.some.inj ((q xs hi).symm.trans h1)
  subst ex
  exact ⟨Hsi, .refl s', h2.mono s⟩
theorem wk_tup {Y : Yc} {a : Addr} {xs : List V} {ds : List D} {Hs : Hp} (h : SqT Y.K Hs a xs) (r : RepL Y Hs xs ds) : Wk Y (Itt Y.K a) Hs ds := fun Hsi Hi s s' => by
  have hi : SqT Y.K Hi a xs := sqt_same (s.trans s') h
  refine ⟨fun i d hd => ?_, fun i hi' => ⟨xs, hi, by rw [r.length]; exact hi'⟩⟩
  obtain ⟨v, h1, h2⟩ := r.get hd
  refine ⟨⟨xs, v, hi, h1⟩, fun x H' q => ?_⟩
  obtain ⟨e, q⟩ := q
  subst e
  have ex : x = v := Option.some.inj ((q xs hi).symm.trans h1)
  subst ex
  exact ⟨Hsi, .refl s', h2.mono s⟩
/-- a list or a tuple, walked -/
def iSeq (K : PySem.W.Frag) (tl : TE) : TI := fun σ H R => tl σ H fun x H1 => ∃ a, x = .ref a ∧ (((∃ xs, SqL K H1 a xs) ∧ R (Itl K a) H1) ∨ ((∃ xs, SqT K H1 a xs) ∧ R (Itt K a) H1))
theorem pi_seq {l : Expr} {tl : TE} (hl : PE X l tl) : PI X tg l (iSeq X.K tl) := by
  refine ⟨fun pins s σ H R I h => ?_⟩
  refine thn (hl.run pins s σ H _ I h) fun v s1 ⟨x, H1, I1, r1, q1⟩ => ?_
  obtain ⟨a, e, q⟩ := q1
  subst e
  cases r1
  have fpk : ∀ b ∈ [s1.heap.objs.size], FpOk X pins H1 b := fun b hb => by
    have e : b = s1.heap.objs.size := by simpa using hb
    subst e
    exact I1.fpOk (Nat.le_refl _) (I1.hok.fresh (Nat.le_refl _))
  rcases q with ⟨⟨xs, hq⟩, q⟩ | ⟨⟨xs, hq⟩, q⟩
  · obtain ⟨its, rv, p, hz⟩ := I1.list hq
    exact wpAny_pyIter_list p.isList ⟨s1.heap.objs.size, [s1.heap.objs.size], _, _, H1, rfl, I1.kept (t' := s1.toks) fun b o e => Heap.get?_push_of_some _ e, turn_list a _, ⟨_, Heap.get?_push_size _ rfl, rfl, rfl⟩, fpk, q⟩
  · obtain ⟨its, rv, p, hz⟩ := I1.tuple hq
    exact wpAny_pyIter_tuple (show s1.heap.IsTuple a its.toArray from p) ⟨s1.heap.objs.size, [s1.heap.objs.size], _, _, H1, rfl, I1.kept (t' := s1.toks) fun b o e => Heap.get?_push_of_some _ e, turn_tuple a _, ⟨_, Heap.get?_push_size _ rfl, rfl, rfl⟩, fpk, q⟩
/-- the items of a list or a tuple -/
def seqD : D → Option (List D)
  | .lst ds => some ds
  | .tup ds => some ds
  | .pr ds => some ds
  | .ll ds => some ds
  | _ => none
def i_seq (f : EM D) : EM (List D) := fun ρ => (f ρ).bind fun d => o2 (seqD d)
theorem vi_seq (h : VE X y W e f) : VI X y W tg e (i_seq f) := by
  refine pi_weak (pi_seq h) fun σ H R ⟨E0, tm, ρ, Hs, k, p⟩ => ?_
  refine tI.of k p fun d ρ1 v Hs1 H1 k1 s1 s1' r1 _ p1 => ?_
  cases r1 with
  | @lst a xs ds hq hr => exact ⟨a, rfl, .inl ⟨⟨xs, SqL.of (k1.sh _ _ hq)⟩, p1 _ Hs1 H1 k1 (.refl _) (.refl _) (wk_list (SqL.of hq) hr)⟩⟩
  | @ll a xs ds hq hr => exact ⟨a, rfl, .inl ⟨⟨xs, k1.sh.seq hq⟩, p1 _ Hs1 H1 k1 (.refl _) (.refl _) (wk_list hq hr)⟩⟩
  | @tup a xs ds hq hr => exact ⟨a, rfl, .inr ⟨⟨xs, (hq.mono k1.sh).seq⟩, p1 _ Hs1 H1 k1 (.refl _) (.refl _) (wk_tup hq.seq hr)⟩⟩
  | @pr a xs ds hq hr => exact ⟨a, rfl, .inr ⟨⟨xs, sqt_same k1.sh hq⟩, p1 _ Hs1 H1 k1 (.refl _) (.refl _) (wk_tup hq hr)⟩⟩
  | _ => exact p1.elim
/-- a text, sign by sign -/
def signsD (x : Str) : List D := x.cps.toList.map fun c => .str ⟨#[c]⟩
def i_str (f : EM D) : EM (List D) := fun ρ => (f ρ).bind fun d => o2 (match d with | .str x => some (signsD x) | _ => none)
theorem vi_str (h : VE X y W e f) : VI X y W tg e (i_str f) := by
  refine pi_weak (pi_str h) fun σ H R ⟨E0, tm, ρ, Hs, k, p⟩ => ?_
  refine tI.of k p fun d ρ1 v Hs1 H1 k1 s1 s1' r1 _ p1 => ?_
  cases r1 with
  | str x =>
    refine ⟨x, rfl, p1 _ Hs1 H1 k1 (.refl _) (.refl _) fun Hsi Hi s s' => ⟨fun i d hd => ?_, fun i hi => ?_⟩⟩
    · unfold signsD at hd
      rw [List.getElem?_map] at hd
      cases ec : x.cps.toList[i]? with
      | none => rw [ec] at hd; cases hd
      | some c =>
        rw [ec] at hd
        have ed := Option.some.inj hd
        subst ed
        have hlt : i < x.cps.size := by
          have := (List.getElem?_eq_some_iff.mp ec).1
          simpa using this
        refine ⟨hlt, fun v H' q => ?_⟩
        obtain ⟨e1, c', e2, e3⟩ := q
        subst e1
        have : c' = c := by
          have e4 : x.cps[i]? = some c := by simpa using ec
          rw [e2] at e4
          exact Option.some.inj e4
        subst this
        subst e3
        exact ⟨Hsi, .refl s', .str _⟩
    · show x.cps.size ≤ i
      have : x.cps.toList.length = (signsD x).length := by unfold signsD; rw [List.length_map]
      rw [← this] at hi
      simpa using hi
  | _ => exact p1.elim
/-- range(n), range(m, n) -/
def rangeD (lo : Int) (n : Nat) : List D := (List.range n).map fun (i : Nat) => .int (lo + (i : Int))
theorem wk_range {Y : Yc} {Hs : Hp} (lo : Int) (n : Nat) : Wk Y (Itr lo n) Hs (rangeD lo n) := fun Hsi Hi s s' => by
  refine ⟨fun i d hd => ?_, fun i hi => ?_⟩
  · unfold rangeD at hd
    rw [List.getElem?_map] at hd
    cases er : (List.range n)[i]? with
    | none => rw [er] at hd; cases hd
    | some j =>
      rw [er] at hd
      obtain ⟨h1, h2⟩ := List.getElem?_eq_some_iff.mp er
      rw [List.getElem_range] at h2
      rw [List.length_range] at h1
      have ed := Option.some.inj hd
      subst ed
      subst h2
      refine ⟨h1, fun v H' q => ?_⟩
      obtain ⟨e1, e2⟩ := q
      subst e1
      subst e2
      exact ⟨Hsi, .refl s', .int _⟩
  · unfold rangeD at hi
    rw [List.length_map, List.length_range] at hi
    exact hi
def i_range1 (g : EM (List D)) : EM (List D) := fun ρ => (g ρ).bind fun ds => o2 (match ds with
  | [.int n] => if -(2 ^ 62) ≤ n ∧ n < 2 ^ 62 then some (rangeD 0 n.toNat) else none
  | _ => none)
theorem vi_range1 {g : EM (List D)} {p : Pos} (hm : X.mg "range" = none) (ha : VA X y W [e] g) (hg : Gl X "range" := by rfl) (hs : starEach [e] X.env = [(false, eval e X.env)] := by rfl) : VI X y W tg (.Call (.Name "range" p) [e] [] pos) (i_range1 g) := by
  refine pi_weak (pi_range1 hg hm ha hs) fun σ H R ⟨E0, tm, ρ, Hs, k, p⟩ => ?_
  refine tI.of k p fun ds ρ1 vs Hs1 H1 k1 s1 s1' r1 _ p1 => ?_
  cases r1 with
  | nil => exact p1.elim
  | cons q1 q2 =>
    cases q2 with
    | cons _ _ => cases q1 <;> exact p1.elim
    | nil =>
      cases q1 with
      | int n =>
        by_cases hb : -(2 ^ 62) ≤ n ∧ n < 2 ^ 62
        · have p2 : match o2 (if -(2 ^ 62) ≤ n ∧ n < 2 ^ 62 then some (rangeD 0 n.toNat) else none) ρ1 with
            | .bad => False
            | .ok ds ρ' => ∀ J Hs' H', Ok (yc X y) E0 tm ρ' σ Hs' H' → Same Hs1 Hs' → Same H1 H' → Wk (yc X y) J Hs' ds → R J H'
            | .err c ρ' => ∀ Hs' H', Ok (yc X y) E0 tm ρ' σ Hs' H' → Same Hs1 Hs' → Same H1 H' → W (.ref ((yc X y).ca c)) none σ H' := p1
          rw [if_pos hb] at p2
          exact ⟨n, rfl, hb.1, hb.2, p2 _ Hs1 H1 k1 (.refl _) (.refl _) (wk_range 0 n.toNat)⟩
        · have p2 : match o2 (if -(2 ^ 62) ≤ n ∧ n < 2 ^ 62 then some (rangeD 0 n.toNat) else none) ρ1 with
            | .bad => False
            | .ok ds ρ' => ∀ J Hs' H', Ok (yc X y) E0 tm ρ' σ Hs' H' → Same Hs1 Hs' → Same H1 H' → Wk (yc X y) J Hs' ds → R J H'
            | .err c ρ' => ∀ Hs' H', Ok (yc X y) E0 tm ρ' σ Hs' H' → Same Hs1 Hs' → Same H1 H' → W (.ref ((yc X y).ca c)) none σ H' := p1
          rw [if_neg hb] at p2
          exact p2.elim
      | _ => exact p1.elim
def i_range2 (g : EM (List D)) : EM (List D) := fun ρ => (g ρ).bind fun ds => o2 (match ds with
  | [.int m, .int n] => if (-(2 ^ 62) ≤ m ∧ m < 2 ^ 62) ∧ -(2 ^ 62) ≤ n ∧ n < 2 ^ 62 then some (rangeD m (n - m).toNat) else none
  | _ => none)
/-- zip of two lists or two tuples -/
def zipD : List D → List D → List D
  | a :: as, b :: bs => .pr [a, b] :: zipD as bs
  | _, _ => []
theorem zipD_get : ∀ {as bs : List D} {i : Nat} {d : D}, (zipD as bs)[i]? = some d → ∃ a b, as[i]? = some a ∧ bs[i]? = some b ∧ d = .pr [a, b]
  | [], _, i, d, h => by simp [zipD] at h
  | _ :: _, [], i, d, h => by simp [zipD] at h
  | a :: as, b :: bs, 0, d, h => by
    have e := Option.some.inj h
    exact ⟨a, b, rfl, rfl, e.symm⟩
  | a :: as, b :: bs, i + 1, d, h => zipD_get (as := as) (bs := bs) (i := i) h
theorem zipD_len : ∀ {as bs : List D} {i : Nat}, (zipD as bs).length ≤ i → as.length ≤ i ∨ bs.length ≤ i
  | [], _, i, h => .inl (Nat.zero_le _)
  | _ :: _, [], i, h => .inr (Nat.zero_le _)
  | a :: as, b :: bs, 0, h => absurd h (by simp [zipD])
  | a :: as, b :: bs, i + 1, h => by
    have h' : (zipD as bs).length ≤ i := Nat.le_of_succ_le_succ h
    rcases zipD_len h' with q | q
    · exact .inl (Nat.succ_le_succ q)
    · exact .inr (Nat.succ_le_succ q)
def i_zip (g : EM (List D)) : EM (List D) := fun ρ => (g ρ).bind fun ds => o2 (match ds with
  | [.lst as, .lst bs] => some (zipD as bs)
  | [.tup as, .tup bs] => some (zipD as bs)
  | _ => none)
theorem wk_zip {Y : Yc} {a b : Addr} {xs ys : List V} {as bs : List D} {Hs : Hp} (h1 : SqL Y.K Hs a xs) (h2 : SqL Y.K Hs b ys) (r1 : RepL Y Hs xs as) (r2 : RepL Y Hs ys bs) : Wk Y (Itz Y.K a b) Hs (zipD as bs) := fun Hsi Hi s s' => by
  have k1 := (s.trans s').seq h1
  have k2 := (s.trans s').seq h2
  refine ⟨fun i d hd => ?_, fun i hi => ⟨xs, ys, k1, k2, ?_⟩⟩
  · obtain ⟨da, db, e1, e2, e3⟩ := zipD_get hd
    subst e3
    obtain ⟨va, q1, q2⟩ := r1.get e1
    obtain ⟨vb, q3, q4⟩ := r2.get e2
    refine ⟨⟨xs, ys, va, vb, k1, k2, q1, q3⟩, fun v H' q => ?_⟩
    obtain ⟨T, x, z, e4, nT, e5, f1, f2⟩ := q
    subst e4
    subst e5
    have ex : x = va := Option.some.inj ((f1 _ k1).symm.trans q1)
    have ez : z = vb := Option.some.inj ((f2 _ k2).symm.trans q3)
    subst ex
    subst ez
    have gr := Grow.new (.tup [x, z]) s' nT
    exact ⟨_, gr, .pr (SqT.of upd_same) (.cons ((q2.mono s).mono gr.ss) (.cons ((q4.mono s).mono gr.ss) .nil))⟩
  · rcases zipD_len hi with q | q
    · exact .inl (by rw [r1.length]; exact q)
    · exact .inr (by rw [r2.length]; exact q)
theorem wk_zipT {Y : Yc} {a b : Addr} {xs ys : List V} {as bs : List D} {Hs : Hp} (h1 : SqT Y.K Hs a xs) (h2 : SqT Y.K Hs b ys) (r1 : RepL Y Hs xs as) (r2 : RepL Y Hs ys bs) : Wk Y (RZ.ItzT Y.K a b) Hs (zipD as bs) := fun Hsi Hi s s' => by
  have k1 := sqt_same (s.trans s') h1
  have k2 := sqt_same (s.trans s') h2
  refine ⟨fun i d hd => ?_, fun i hi => ⟨xs, ys, k1, k2, ?_⟩⟩
  · obtain ⟨da, db, e1, e2, e3⟩ := zipD_get hd
    subst e3
    obtain ⟨va, q1, q2⟩ := r1.get e1
    obtain ⟨vb, q3, q4⟩ := r2.get e2
    refine ⟨⟨xs, ys, va, vb, k1, k2, q1, q3⟩, fun v H' q => ?_⟩
    obtain ⟨T, x, z, e4, nT, e5, f1, f2⟩ := q
    subst e4
    subst e5
    have ex : x = va := Option.some.inj ((f1 _ k1).symm.trans q1)
    have ez : z = vb := Option.some.inj ((f2 _ k2).symm.trans q3)
    subst ex
    subst ez
    have gr := Grow.new (.tup [x, z]) s' nT
    exact ⟨_, gr, .pr (SqT.of upd_same) (.cons ((q2.mono s).mono gr.ss) (.cons ((q4.mono s).mono gr.ss) .nil))⟩
  · rcases zipD_len hi with q | q
    · exact .inl (by rw [r1.length]; exact q)
    · exact .inr (by rw [r2.length]; exact q)
theorem vi_zip {g : EM (List D)} {p tpos : Pos} {elts : List Expr} {kk : Nat} (hm : X.mg "zip" = none) (ha : VA X y W [e, e2] g) (hg : Gl X "zip" := by rfl)
    (hs : starEach [e, e2] X.env = (false, eval e X.env) :: starEach [e2] X.env := by rfl) (hpl : (backTo pos (starEach [e2] X.env)).any (·.1) = false := by rfl) : VI X y W (.Tuple elts kk tpos) (.Call (.Name "zip" p) [e, e2] [] pos) (i_zip g) := by
  refine pi_weak (RZ.pi_zipA hg hm ha hs hpl) fun σ H R ⟨E0, tm, ρ, Hs, k, p⟩ => ?_
  refine tI.of k p fun ds ρ1 vs Hs1 H1 k1 s1 s1' r1 _ p1 => ?_
  cases r1 with
  | nil => exact p1.elim
  | cons q1 q2 =>
    cases q2 with
    | nil => cases q1 <;> exact p1.elim
    | cons q2 q3 =>
      cases q3 with
      | cons _ _ => cases q1 <;> cases q2 <;> exact p1.elim
      | nil =>
        cases q1 with
        | lst h1 r1 =>
          cases q2 with
          | lst h2 r2 => exact ⟨_, _, _, _, rfl, .inl ⟨SqL.of (k1.sh _ _ h1), SqL.of (k1.sh _ _ h2), p1 _ Hs1 H1 k1 (.refl _) (.refl _) (wk_zip (SqL.of h1) (SqL.of h2) r1 r2)⟩⟩
          | _ => exact p1.elim
        | tup h1 r1 =>
          cases q2 with
          | tup h2 r2 => exact ⟨_, _, _, _, rfl, .inr ⟨(h1.mono k1.sh).seq, (h2.mono k1.sh).seq, p1 _ Hs1 H1 k1 (.refl _) (.refl _) (wk_zipT h1.seq h2.seq r1 r2)⟩⟩
          | _ => exact p1.elim
        | _ => cases q2 <;> exact p1.elim
end

/-! ### for -/
def forD (tg : D → Env → Option Env) (body : SM) : List D → SM
  | [], ρ => .next ρ
  | d :: ds, ρ => match tg d ρ with
    | none => .bad
    | some ρ1 => match body ρ1 with
      | .next ρ2 => forD tg body ds ρ2
      | .cont ρ2 => forD tg body ds ρ2
      | .brk ρ2 => .next ρ2
      | .ret d => .ret d
      | .err c ρ2 => .err c ρ2
      | .bad => .bad
def s_for (it : EM (List D)) (tg : D → Env → Option Env) (body : SM) : SM := fun ρ => (it ρ).to fun ds => forD tg body ds
section
variable {X : Cx} {y : Yo} {W : WX} {tg iter : Expr} {body : List Stmt} {itf : EM (List D)} {is : List Nat} {gf : D → Env → Option Env} {g : SM} {pos : Pos}
theorem vs_for {j : Nat} (v : Cv X W j) (hi : VI X y W tg iter itf) (hg : VG X y tg is gf) (hb : VSs X y W body g) (hs : ∀ x, foldedSetIterable iter X.env x = pure x := by intro _; rfl) : VS X y W (.For tg iter body [] pos) (s_for itf gf g) := by
  refine ps_weak (ps_for v.hp v.calm hi hg hb hs) fun D σ H ⟨E0, ρ, Hs, k, p⟩ => ?_
  refine ⟨E0, [], ρ, Hs, k, ?_⟩
  unfold s_for at p
  cases e : itf ρ with
  | bad => rw [e] at p; exact p.elim
  | err c ρ' =>
    rw [e] at p
    exact fun Hs' H' k' s s' => p σ Hs' H' k' s
  | ok ds ρ1 =>
    rw [e] at p
    have p : PostS (yc X y) W E0 Hs D (forD gf g ds ρ1) := p
    intro J Hs1 H1 k1 s1 s1' w
    refine ⟨fun i m σ' H' => i + m = ds.length ∧ ∃ ρi Hsi, Ok (yc X y) E0 [] ρi σ' Hsi H' ∧ Same Hs1 Hsi ∧ PostS (yc X y) W E0 Hsi D (forD gf g (ds.drop i) ρi), ⟨ds.length, Nat.zero_add _, ρ1, Hs1, k1, .refl _, PostS.shift p s1⟩, ?_⟩
    rintro i m σ' H' ⟨em, ρi, Hsi, ki, si, pi⟩
    obtain ⟨wg, ws⟩ := w Hsi H' si ki.sh
    by_cases hlt : i < ds.length
    · have hd : ds.drop i = ds[i] :: ds.drop (i + 1) := List.drop_eq_getElem_cons hlt
      rw [hd] at pi
      obtain ⟨go, yl⟩ := wg i ds[i] (List.getElem?_eq_getElem hlt)
      refine .inr ⟨go, fun σ2 H2 => ∃ ρj Hsj, Ok (yc X y) E0 [] ρj σ2 Hsj H2 ∧ Same Hs1 Hsj ∧ PostS (yc X y) W E0 Hsj D (forD gf g (ds.drop (i + 1)) ρj), ?_, ?_⟩
      · rintro σ2 H2 ⟨ρj, Hsj, kj, sj, pj⟩
        exact ⟨m - 1, by omega, by omega, ρj, Hsj, kj, sj, pj⟩
      · intro x H2 hy
        obtain ⟨Hs2, gr, rx⟩ := yl x H2 hy
        have k2 := ki.grow gr
        have pi2 := PostS.shift pi gr.ss
        have pi' : PostS (yc X y) W E0 Hs2 D (match gf ds[i] ρi with
          | none => .bad
          | some ρ1 => match g ρ1 with
            | .next ρ2 => forD gf g (ds.drop (i + 1)) ρ2
            | .cont ρ2 => forD gf g (ds.drop (i + 1)) ρ2
            | .brk ρ2 => .next ρ2
            | .ret d => .ret d
            | .err c ρ2 => .err c ρ2
            | .bad => .bad) := pi2
        cases eg : gf ds[i] ρi with
        | none => rw [eg] at pi'; exact pi'.elim
        | some ρ3 =>
          rw [eg] at pi'
          refine ⟨E0, [], ρi, Hs2, ds[i], ρ3, k2, rx, eg, fun σ3 k3 n3 l3 => ?_⟩
          refine ⟨E0, ρ3, Hs2, k3, ?_⟩
          have pi3 : PostS (yc X y) W E0 Hs2 D (match g ρ3 with
            | .next ρ2 => forD gf g (ds.drop (i + 1)) ρ2
            | .cont ρ2 => forD gf g (ds.drop (i + 1)) ρ2
            | .brk ρ2 => .next ρ2
            | .ret d => .ret d
            | .err c ρ2 => .err c ρ2
            | .bad => .bad) := pi'
          cases eb : g ρ3 with
          | bad => rw [eb] at pi3; exact pi3
          | next ρ4 =>
            rw [eb] at pi3
            exact fun σ4 Hs4 H4 k4 s4 => ⟨ρ4, Hs4, k4, (si.trans gr.ss).trans s4, PostS.shift pi3 s4⟩
          | cont ρ4 =>
            rw [eb] at pi3
            exact fun σ4 Hs4 H4 k4 s4 => ⟨ρ4, Hs4, k4, (si.trans gr.ss).trans s4, PostS.shift pi3 s4⟩
          | brk ρ4 =>
            rw [eb] at pi3
            exact fun σ4 Hs4 H4 k4 s4 => pi3 σ4 Hs4 H4 k4 s4
          | ret d => rw [eb] at pi3; exact pi3
          | err c ρ4 => rw [eb] at pi3; exact pi3
    · have hd : ds.drop i = [] := List.drop_eq_nil_of_le (by omega)
      rw [hd] at pi
      exact .inl ⟨ws i (by omega), pi σ' Hsi H' ki (.refl _)⟩

/-! ### while -/
def whileD (c : EM Bool) (body : SM) : Nat → SM
  | 0, _ => .bad
  | n + 1, ρ => match c ρ with
    | .bad => .bad
    | .err x ρ1 => .err x ρ1
    | .ok b ρ1 => if b = true then (match body ρ1 with
      | .next ρ2 => whileD c body n ρ2
      | .cont ρ2 => whileD c body n ρ2
      | .brk ρ2 => .next ρ2
      | .ret d => .ret d
      | .err c ρ2 => .err c ρ2
      | .bad => .bad) else .next ρ1
def s_while (fuel : Env → Nat) (c : EM Bool) (body : SM) : SM := fun ρ => whileD c body (fuel ρ) ρ
theorem vs_while {j : Nat} {c : Expr} {tf : EM Bool} (v : Cv X W j) (fuel : Env → Nat) (hc : VT X y W c tf) (hb : VSs X y W body g) : VS X y W (.While c body [] pos) (s_while fuel tf g) := by
  refine ps_weak (ps_while v.hp hc hb) fun D σ H ⟨E0, ρ, Hs, k, p⟩ => ?_
  refine ⟨fun m σ' H' => ∃ ρi Hsi, Ok (yc X y) E0 [] ρi σ' Hsi H' ∧ PostS (yc X y) W E0 Hsi D (whileD tf g m ρi), ⟨fuel ρ, ρ, Hs, k, p⟩, ?_⟩
  rintro m σ' H' ⟨ρi, Hsi, ki, pi⟩
  cases m with
  | zero => exact pi.elim
  | succ n =>
    have pi' : PostS (yc X y) W E0 Hsi D (match tf ρi with
      | .bad => .bad
      | .err x ρ1 => .err x ρ1
      | .ok b ρ1 => if b = true then (match g ρ1 with
        | .next ρ2 => whileD tf g n ρ2
        | .cont ρ2 => whileD tf g n ρ2
        | .brk ρ2 => .next ρ2
        | .ret d => .ret d
        | .err c ρ2 => .err c ρ2
        | .bad => .bad) else .next ρ1) := pi
    refine ⟨E0, [], ρi, Hsi, ki, ?_⟩
    cases et : tf ρi with
    | bad => rw [et] at pi'; exact pi'
    | err x ρ1 =>
      rw [et] at pi'
      exact fun Hs' H2 k' s s' => pi' σ' Hs' H2 k' s
    | ok b ρ1 =>
      rw [et] at pi'
      intro b' Hs1 H1 k1 s1 s1' eb
      subst eb
      cases b' with
      | false => exact pi' σ' Hs1 H1 k1 s1
      | true =>
        have pi3 : PostS (yc X y) W E0 Hsi D (match g ρ1 with
          | .next ρ2 => whileD tf g n ρ2
          | .cont ρ2 => whileD tf g n ρ2
          | .brk ρ2 => .next ρ2
          | .ret d => .ret d
          | .err c ρ2 => .err c ρ2
          | .bad => .bad) := pi'
        have pi4 := PostS.shift pi3 s1
        refine (show (if true = true then _ else _) from ?_)
        rw [if_pos rfl]
        refine ⟨fun σ2 H2 => ∃ ρj Hsj, Ok (yc X y) E0 [] ρj σ2 Hsj H2 ∧ PostS (yc X y) W E0 Hsj D (whileD tf g n ρj), fun σ2 H2 ⟨ρj, Hsj, kj, pj⟩ => ⟨n, Nat.lt_succ_self n, ρj, Hsj, kj, pj⟩, E0, ρ1, Hs1, k1, ?_⟩
        cases eg : g ρ1 with
        | bad => rw [eg] at pi4; exact pi4
        | next ρ4 =>
          rw [eg] at pi4
          exact fun σ4 Hs4 H4 k4 s4 => ⟨ρ4, Hs4, k4, PostS.shift pi4 s4⟩
        | cont ρ4 =>
          rw [eg] at pi4
          exact fun σ4 Hs4 H4 k4 s4 => ⟨ρ4, Hs4, k4, PostS.shift pi4 s4⟩
        | brk ρ4 =>
          rw [eg] at pi4
          exact fun σ4 Hs4 H4 k4 s4 => pi4 σ4 Hs4 H4 k4 s4
        | ret d => rw [eg] at pi4; exact pi4
        | err c ρ4 => rw [eg] at pi4; exact pi4
end
end VL

namespace VL
open PySem PySem.Spec PyProof.Rows L2

/-! ### new objects -/
def PostN (Y : Yc) (W : WX) (E0 : Hp × Hp) (tm : List Addr) (σ : L2.St) (Hs H : Hp) (Q : VK) : RE OD → Prop
  | .bad => False
  | .ok o ρ' => ∀ p u Hs1 H1, Ok Y E0 (p :: tm) ρ' σ Hs1 H1 → p ∉ tm → Same Hs Hs1 → Same H H1 → H1 p = some u → OwnRep Y Hs1 u o → Q (.ref p) H1
  | .err c ρ' => ∀ Hs' H', Ok Y E0 tm ρ' σ Hs' H' → Same Hs Hs' → Same H H' → W (.ref (Y.ca c)) none σ H'
def tN (Y : Yc) (W : WX) (f : EM OD) : TE := fun σ H Q => ∃ E0 tm ρ Hs, Ok Y E0 tm ρ σ Hs H ∧ PostN Y W E0 tm σ Hs H Q (f ρ)
/-- an expression that makes a new object -/
def VN (X : Cx) (y : Yo) (W : WX) (e : Expr) (f : EM OD) : Prop := PE X e (tN (yc X y) W f)
theorem PostN.shift {Y : Yc} {W : WX} {E0 : Hp × Hp} {tm : List Addr} {σ : L2.St} {Hs H Hs1 H1 : Hp} {Q : VK} {r : RE OD} (p : PostN Y W E0 tm σ Hs H Q r) (e : Same Hs Hs1) (e' : Same H H1) : PostN Y W E0 tm σ Hs1 H1 Q r := by
  cases r with
  | bad => exact p
  | ok a ρ' => exact fun q u Hs' H' k hn s s' hu r => p q u Hs' H' k hn (e.trans s) (e'.trans s') hu r
  | err c ρ' => exact fun Hs' H' k s s' => p Hs' H' k (e.trans s) (e'.trans s')
theorem PostN.new {Y : Yc} {W : WX} {E0 : Hp × Hp} {tm : List Addr} {ρ : Env} {σ : L2.St} {Hs H : Hp} {Q : VK} {o : OD} {u : HO} {p : Addr} (q : PostN Y W E0 tm σ Hs H Q (.ok o ρ)) (k : Ok Y E0 tm ρ σ Hs H) (hp : H p = none) (r : OwnRep Y Hs u o) : Q (.ref p) (upd H p u) := by
  refine q p u Hs (upd H p u) (k.tmpNew hp) (fun hm => ?_) (.refl _) (same_new hp) upd_same r
  obtain ⟨_, _, u', h⟩ := k.tmp p hm
  rw [hp] at h
  cases h
/-- a reading, then a new object -/
theorem tN.bind {α β : Type} {Y : Yc} {W : WX} {R : Hp → β → α → Prop} {E0 : Hp × Hp} {tm : List Addr} {ρ : Env} {σ : L2.St} {Hs H : Hp} {f : EM α} {g : α → EM OD} {Q : VK} {Q1 : β → Hp → Prop} (k : Ok Y E0 tm ρ σ Hs H) (p : PostN Y W E0 tm σ Hs H Q ((f ρ).bind g))
    (c : ∀ a ρ1 b Hs1 H1, Ok Y E0 tm ρ1 σ Hs1 H1 → Same Hs Hs1 → Same H H1 → R Hs1 b a → PostN Y W E0 tm σ Hs1 H1 Q (g a ρ1) → Q1 b H1) : tE Y W R f σ H Q1 := by
  refine ⟨E0, tm, ρ, Hs, k, ?_⟩
  cases e : f ρ with
  | bad =>
    rw [e] at p
    exact p.elim
  | err cc ρ' =>
    rw [e] at p
    exact p
  | ok a ρ1 =>
    rw [e] at p
    exact fun b Hs1 H1 k1 s s' r => c a ρ1 b Hs1 H1 k1 s s' r (PostN.shift p s s')
def e_new (f : EM OD) : EM D := fun ρ => (f ρ).bind fun o ρ1 => .ok o.d ρ1
def s_setN (i : Nat) (f : EM OD) : SM := fun ρ => (f ρ).to fun o ρ1 => .next (ρ1.set i (.own o))
section
variable {Y : Yc} {E0 : Hp × Hp} {tm : List Addr} {ρ : Env} {σ : L2.St} {Hs H : Hp}
theorem tN_new {W : WX} {f : EM OD} {Q : VK} (q : tE Y W (fun Hs v d => Rep Y Hs v d) (e_new f) σ H Q) : tN Y W f σ H Q := by
  obtain ⟨E0, tm, ρ, Hs, k, p⟩ := q
  refine ⟨E0, tm, ρ, Hs, k, ?_⟩
  unfold e_new at p
  cases e : f ρ with
  | bad => rw [e] at p; exact p
  | err c ρ' => rw [e] at p; exact p
  | ok o ρ' =>
    rw [e] at p
    intro a u Hs1 H1 k1 hn s s' hu r
    obtain ⟨k2, ss⟩ := k1.tmpDone hn hu
    exact p (.ref a) _ H1 k2 (s.trans ss) s' ((r.mono ss).rep upd_same)
end
theorem tN_set {Y : Yc} {W : WX} {f : EM OD} {i : Nat} {D : Ends} {σ : L2.St} {H : Hp} (q : tS Y W (s_setN i f) D σ H) : tAsg (tN Y W f) (gName i) D σ H := by
  obtain ⟨E0, ρ, Hs, k, p⟩ := q
  refine ⟨E0, [], ρ, Hs, k, ?_⟩
  unfold s_setN at p
  cases e : f ρ with
  | bad => rw [e] at p; exact p
  | err c ρ' =>
    rw [e] at p
    exact fun Hs' H' k' s s' => p σ Hs' H' k' s
  | ok o ρ' =>
    rw [e] at p
    intro a u Hs1 H1 k1 hn s s' hu r
    exact p _ Hs1 H1 (k1.tmpPut hn hu r) s
section
variable {X : Cx} {y : Yo} {W : WX} {e c : Expr} {f : EM OD} {pos : Pos}
theorem ve_new (h : VN X y W e f) : VE X y W e (e_new f) := pe_weak h fun _ _ _ q => tN_new q
theorem vs_setN (i : Nat) {x : Str} {pos' : Pos} {j : Nat} (v : Cv X W j) (he : VN X y W e f) (hi : X.N[i]? = some x := by rfl) (hx : Loc X.env.scope x := by first | exact Or.inl rfl | exact Or.inr rfl) (hs : swapsWith e (some (.Name x pos')) pos.line X.env = pure false := by rfl)
    (hf : X.fn x = true ∨ X.env.scope.names.lookup x = some .local := by first | exact .inl rfl | exact .inr rfl) : VS X y W (.Assign [.Name x pos'] e pos) (s_setN i f) :=
  ps_weak (ps_set (i := i) v.nd hi hx he hs hf) fun D σ H q => tN_set q
/-- [a, b, ..] -/
def n_lst (g : EM (List D)) : EM OD := fun ρ => (g ρ).bind fun xs => o2 (if xs.length ≤ 16777216 then some (.L xs) else none)
theorem vn_lst {es : List Expr} {g : EM (List D)} (h : VA X y W es g) : VN X y W (.List es pos) (n_lst g) := by
  refine pe_weak (pe_lst h) fun σ H Q ⟨E0, tm, ρ, Hs, k, p⟩ => ?_
  refine tN.bind k p fun xs ρ1 vs Hs1 H1 k1 s1 s1' r1 p1 => ?_
  unfold o2 at p1
  by_cases hl : xs.length ≤ 16777216
  · rw [if_pos hl] at p1
    exact ⟨by rw [r1.length, sizeLine_eq]; exact hl, fun a ha => p1.new k1 ha (.L r1)⟩
  · rw [if_neg hl] at p1
    exact p1.elim
/-- {} -/
def n_dct : EM OD := fun ρ => .ok (.K []) ρ
theorem vn_dct : VN X y W (.Dict [] [] pos) n_dct := pe_weak pe_dnewK fun σ H Q ⟨E0, tm, ρ, Hs, k, p⟩ => fun a ha => PostN.new p k ha (.K .nil)
/-- a built-in that makes a new object -/
def NwOk (Y : Yc) (r : List V → Hp → VK → Prop) (h : List D → Option OD) : Prop := ∀ (Hs H : Hp) (vs : List V) (ds : List D) (z : OD) (Q : VK), Same Hs H → RepL Y Hs vs ds → h ds = some z →
  (∀ p u, H p = none → OwnRep Y Hs u z → Q (.ref p) (upd H p u)) → r vs H Q
def n_ct (h : List D → Option OD) (g : EM (List D)) : EM OD := fun ρ => (g ρ).bind fun xs => o2 (h xs)
theorem vn_ct {x : Str} {p0 : Pos} {T : String} {r : List V → Hp → VK → Prop} {h : List D → Option OD} {es : List Expr} {g : EM (List D)} (hc : CallR X (.type T) r) (hs : NwOk (yc X y) r h) (hm : X.mg x = none) (hv : bootBuiltins x = some (.type T)) (ha : VA X y W (e :: es) g) (hg : Gl X x := by rfl) (hn : x ≠ "__name__" := by decide) (hdb : (x == ("__debug__" : Str)) = false := by decide)
    (he : starEach (e :: es) X.env = (false, eval e X.env) :: starEach es X.env := by rfl) (hpl : (backTo pos (starEach es X.env)).any (·.1) = false := by rfl) : VN X y W (.Call (.Name x p0) (e :: es) [] pos) (n_ct h g) := by
  refine pe_weak (pe_callTy hc hg hm hv ha hn hdb he hpl) fun σ H Q ⟨E0, tm, ρ, Hs, k, p⟩ => ?_
  refine tN.bind k p fun xs ρ1 vs Hs1 H1 k1 s1 s1' r1 p1 => ?_
  unfold o2 at p1
  cases e : h xs with
  | none => rw [e] at p1; exact p1.elim
  | some z =>
    rw [e] at p1
    exact hs Hs1 H1 vs xs z Q k1.sh r1 e fun a u ha ho => p1.new k1 ha ho
theorem vn_cb {x : Str} {p0 : Pos} {T : String} {r : List V → Hp → VK → Prop} {h : List D → Option OD} {es : List Expr} {g : EM (List D)} (hc : CallR X (.builtin T) r) (hs : NwOk (yc X y) r h) (hm : X.mg x = none) (hv : bootBuiltins x = some (.builtin T)) (ha : VA X y W (e :: es) g) (hg : Gl X x := by rfl) (hn : x ≠ "__name__" := by decide) (hdb : (x == ("__debug__" : Str)) = false := by decide)
    (he : starEach (e :: es) X.env = (false, eval e X.env) :: starEach es X.env := by rfl) (hpl : (backTo pos (starEach es X.env)).any (·.1) = false := by rfl) : VN X y W (.Call (.Name x p0) (e :: es) [] pos) (n_ct h g) := by
  refine pe_weak (pe_callB hc hg hm hv ha hn hdb he hpl) fun σ H Q ⟨E0, tm, ρ, Hs, k, p⟩ => ?_
  refine tN.bind k p fun xs ρ1 vs Hs1 H1 k1 s1 s1' r1 p1 => ?_
  unfold o2 at p1
  cases e : h xs with
  | none => rw [e] at p1; exact p1.elim
  | some z =>
    rw [e] at p1
    exact hs Hs1 H1 vs xs z Q k1.sh r1 e fun a u ha ho => p1.new k1 ha ho
end

/-! ### list comprehensions -/
def wipeE (ρ : Env) : List Nat → Env
  | [] => ρ
  | i :: is => (wipeE ρ is).set i .no
def unwipe (ρ0 : Env) : List Nat → Env → Env
  | [], ρ => ρ
  | i :: is, ρ => match ρ0[i]? with
    | some (.dat d) => (unwipe ρ0 is ρ).set i (.dat d)
    | _ => (unwipe ρ0 is ρ).set i .no
theorem wipeE_len (ρ : Env) : ∀ is, (wipeE ρ is).length = ρ.length
  | [] => rfl
  | i :: is => by
    show ((wipeE ρ is).set i .no).length = _
    rw [List.length_set, wipeE_len ρ is]
theorem wipeE_get (ρ : Env) {s : Slot} (hs : s ≠ .no) {i : Nat} : ∀ {is : List Nat}, (wipeE ρ is)[i]? = some s → ρ[i]? = some s ∧ i ∉ is
  | [], h => ⟨h, by simp⟩
  | j :: is, h => by
    have h' : ((wipeE ρ is).set j .no)[i]? = some s := h
    by_cases hij : j = i
    · subst hij
      have hl : j < (wipeE ρ is).length := by
        have := (List.getElem?_eq_some_iff.mp h').1
        rwa [List.length_set] at this
      rw [List.getElem?_set_self hl] at h'
      exact absurd (Option.some.inj h').symm hs
    · rw [List.getElem?_set_ne hij] at h'
      obtain ⟨h1, h2⟩ := wipeE_get ρ hs h'
      exact ⟨h1, fun m => (List.mem_cons.mp m).elim (fun e => hij e.symm) h2⟩
theorem wipe_get (σ : L2.St) {i : Nat} : ∀ {is : List Nat}, i ∉ is → (wipe σ is)[i]? = σ[i]?
  | [], _ => rfl
  | j :: is, h => by
    show ((wipe σ is).set j none)[i]? = _
    rw [List.getElem?_set_ne fun e => h (by rw [e]; exact List.mem_cons_self)]
    exact wipe_get σ fun m => h (List.mem_cons_of_mem _ m)
theorem wipe_in (σ : L2.St) {i : Nat} : ∀ {is : List Nat}, i ∈ is → (wipe σ is)[i]? = if i < σ.length then some none else none
  | j :: is, h => by
    show ((wipe σ is).set j none)[i]? = _
    by_cases e : j = i
    · subst e
      by_cases hl : j < σ.length
      · rw [if_pos hl, List.getElem?_set_self (by rw [wipe_length]; exact hl)]
      · rw [if_neg hl, List.getElem?_eq_none (by rw [List.length_set, wipe_length]; omega)]
    · rw [List.getElem?_set_ne e]
      rcases List.mem_cons.mp h with q | q
      · exact absurd q.symm e
      · exact wipe_in σ q
theorem wipe_same {σ σ' : L2.St} {is : List Nat} (hl : σ'.length = σ.length) (h : ∀ i, i ∉ is → σ'[i]? = σ[i]?) : wipe σ' is = wipe σ is := by
  refine List.ext_getElem? fun i => ?_
  by_cases hi : i ∈ is
  · rw [wipe_in σ' hi, wipe_in σ hi, hl]
  · rw [wipe_get σ' hi, wipe_get σ hi, h i hi]
section
variable {Y : Yc} {E0 : Hp × Hp} {tm : List Addr} {ρ : Env} {σ : L2.St} {Hs H : Hp}
theorem Ok.wipe (k : Ok Y E0 tm ρ σ Hs H) (is : List Nat) : Ok Y E0 tm (wipeE ρ is) (L2.wipe σ is) Hs H :=
  k.forget (by rw [wipeE_len, wipe_length]; exact k.len) fun i s h hs => by
    obtain ⟨h1, h2⟩ := wipeE_get ρ hs h
    exact ⟨h1, wipe_get σ h2⟩
theorem Ok.back {σ2 : L2.St} {is : List Nat} (k : Ok Y E0 tm ρ σ2 Hs H) (hl : σ2.length = σ.length) (h : ∀ i, i ∉ is → σ2[i]? = σ[i]?) : Ok Y E0 tm (wipeE ρ is) σ Hs H :=
  k.forget (by rw [wipeE_len, k.len, hl]) fun i s hi hs => by
    obtain ⟨h1, h2⟩ := wipeE_get ρ hs hi
    exact ⟨h1, (h i h2).symm⟩
theorem Ok.putSame {i : Nat} {d : D} {v : V} (k : Ok Y E0 tm ρ σ Hs H) (hv : σ[i]? = some (some v)) (r : Rep Y Hs v d) : Ok Y E0 tm (ρ.set i (.dat d)) σ Hs H := by
  have e : σ.set i (some v) = σ := List.ext_getElem? fun j => by
    by_cases hij : i = j
    · subst hij
      rw [List.getElem?_set_self (List.getElem?_eq_some_iff.mp hv).1, hv]
    · rw [List.getElem?_set_ne hij]
  have := k.put (i := i) r
  rwa [e] at this
theorem Ok.no (k : Ok Y E0 tm ρ σ Hs H) (i : Nat) : Ok Y E0 tm (ρ.set i .no) σ Hs H :=
  k.forget (by rw [List.length_set]; exact k.len) fun j s h hs => by
    by_cases hij : i = j
    · subst hij
      have hl : i < ρ.length := by
        have := (List.getElem?_eq_some_iff.mp h).1
        rwa [List.length_set] at this
      rw [List.getElem?_set_self hl] at h
      exact absurd (Option.some.inj h).symm hs
    · rw [List.getElem?_set_ne hij] at h
      exact ⟨h, rfl⟩
theorem Ok.unwipe {ρ0 : Env} {Hs0 H0 : Hp} {tm0 : List Addr} (k : Ok Y E0 tm ρ σ Hs H) (k0 : Ok Y E0 tm0 ρ0 σ Hs0 H0) (s : Same Hs0 Hs) : ∀ is, Ok Y E0 tm (unwipe ρ0 is ρ) σ Hs H
  | [] => k
  | i :: is => by
    have ih := Ok.unwipe k k0 s is
    unfold VL.unwipe
    split
    · rename_i d e
      obtain ⟨v, h1, h2⟩ := k0.dat i d e
      exact ih.putSame h1 (h2.mono s)
    · exact ih.no i
end
/-- the turns of a comprehension: vs its own slots, ρ0 what stood at its start -/
def lcD (ρ0 : Env) (vs : List Nat) (tg : D → Env → Option Env) (tt : EM Bool) (te : EM D) : List D → Env → List D → RE OD
  | [], ρ, acc => .ok (.L acc) (unwipe ρ0 vs ρ)
  | d :: ds, ρ, acc => match tg d (wipeE ρ vs) with
    | none => .bad
    | some ρ1 => match tt ρ1 with
      | .ok true ρ2 => (match te ρ2 with
        | .ok x ρ3 => if acc.length < 16777216 then lcD ρ0 vs tg tt te ds (wipeE ρ3 vs) (acc ++ [x]) else .bad
        | _ => .bad)
      | .ok false ρ2 => lcD ρ0 vs tg tt te ds (wipeE ρ2 vs) acc
      | _ => .bad
def n_lc (vs : List Nat) (it : EM (List D)) (tg : D → Env → Option Env) (tt : EM Bool) (te : EM D) : EM OD := fun ρ => (it ρ).bind fun ds ρ1 => lcD ρ1 vs tg tt te ds ρ1 []
abbrev W0 : WX := fun _ _ _ _ => False
abbrev gE (Y : Yc) (is : List Nat) (gf : D → Env → Option Env) : TG := fun v σ H Q => ∃ E0 tm ρ Hs d ρ', Ok Y E0 tm ρ σ Hs H ∧ Rep Y Hs v d ∧ gf d ρ = some ρ' ∧
    ∀ σ', Ok Y E0 tm ρ' σ' Hs H → (∀ i, i ∉ is → σ'[i]? = σ[i]?) → σ'.length = σ.length → Q σ' H
theorem lc_turns {Y : Yc} {W : WX} {E0 : Hp × Hp} {tm : List Addr} {is vs : List Nat} {gf : D → Env → Option Env} {tf : EM Bool} {ef : EM D} (hsub : ∀ i ∈ is, i ∈ vs) {σ : L2.St} {ρ1 : Env} {Hs1 H1 : Hp} {Q : VK} {J : It} {ds : List D} (k1 : Ok Y E0 tm ρ1 σ Hs1 H1)
    (p1 : PostN Y W E0 tm σ Hs1 H1 Q (lcD ρ1 vs gf tf ef ds ρ1 [])) (w : Wk Y J Hs1 ds) :
    ∀ D, H1 D = none → ∃ W : Nat → Nat → Hp → Prop, (∃ m, W 0 m (upd H1 D (.lst []))) ∧ ∀ i m H, W i m H →
      (J.stop i H ∧ Q (.ref D) H) ∨ (J.go i H ∧ ∃ Nx : Hp → Prop, (∀ H', Nx H' → ∃ m', m' < m ∧ W (i + 1) m' H') ∧ ∀ x H', J.yld i H x H' → gE Y is gf x (wipe σ vs) H' fun σ2 H2 => wipe σ2 vs = wipe σ vs ∧ tE Y W0 rEq1 tf σ2 H2 fun b H3 =>
        if b = true then tE Y W0 (fun Hs v d => Rep Y Hs v d) ef σ2 H3 fun y H4 => ∃ acc, H4 D = some (.lst acc) ∧ acc.length < sizeLine ∧ Nx (upd H4 D (.lst (acc ++ [y]))) else Nx H3) := by
  intro Dl hD
  have hnt : Dl ∉ tm := fun hm => by
    obtain ⟨_, _, u', h⟩ := k1.tmp Dl hm
    rw [hD] at h
    cases h
  refine ⟨fun i m H' => i + m = ds.length ∧ ∃ ρi Hsi acc xs, Ok Y E0 (Dl :: tm) ρi σ Hsi H' ∧ Same Hs1 Hsi ∧ Same H1 H' ∧ H' Dl = some (.lst xs) ∧ RepL Y Hsi xs acc ∧ PostN Y W E0 tm σ Hs1 H1 Q (lcD ρ1 vs gf tf ef (ds.drop i) ρi acc),
    ⟨ds.length, Nat.zero_add _, ρ1, Hs1, [], [], k1.tmpNew hD, .refl _, same_new hD, upd_same, .nil, p1⟩, ?_⟩
  rintro i m H' ⟨em, ρi, Hsi, acc, xs, ki, si, si', hDi, ra, pi⟩
  obtain ⟨wg, ws⟩ := w Hsi H' si ki.sh
  by_cases hlt : i < ds.length
  · have hd : ds.drop i = ds[i] :: ds.drop (i + 1) := List.drop_eq_getElem_cons hlt
    rw [hd] at pi
    obtain ⟨go, yl⟩ := wg i ds[i] (List.getElem?_eq_getElem hlt)
    refine .inr ⟨go, fun H2 => ∃ ρj Hsj accj xsj, Ok Y E0 (Dl :: tm) ρj σ Hsj H2 ∧ Same Hs1 Hsj ∧ Same H1 H2 ∧ H2 Dl = some (.lst xsj) ∧ RepL Y Hsj xsj accj ∧ PostN Y W E0 tm σ Hs1 H1 Q (lcD ρ1 vs gf tf ef (ds.drop (i + 1)) ρj accj), ?_, ?_⟩
    · rintro H2 ⟨ρj, Hsj, accj, xsj, kj⟩
      exact ⟨m - 1, by omega, by omega, ρj, Hsj, accj, xsj, kj⟩
    · intro x H2 hy
      obtain ⟨Hs2, gr, rx⟩ := yl x H2 hy
      have k2 := ki.grow gr
      have pi' : PostN Y W E0 tm σ Hs1 H1 Q (match gf ds[i] (wipeE ρi vs) with
        | none => .bad
        | some ρ1' => match tf ρ1' with
          | .ok true ρ2 => (match ef ρ2 with
            | .ok x ρ3 => if acc.length < 16777216 then lcD ρ1 vs gf tf ef (ds.drop (i + 1)) (wipeE ρ3 vs) (acc ++ [x]) else .bad
            | _ => .bad)
          | .ok false ρ2 => lcD ρ1 vs gf tf ef (ds.drop (i + 1)) (wipeE ρ2 vs) acc
          | _ => .bad) := pi
      cases eg : gf ds[i] (wipeE ρi vs) with
      | none => rw [eg] at pi'; exact pi'.elim
      | some ρ3 =>
        rw [eg] at pi'
        refine ⟨E0, Dl :: tm, wipeE ρi vs, Hs2, ds[i], ρ3, k2.wipe vs, rx, eg, fun σ3 k3 n3 l3 => ?_⟩
        have l3' : σ3.length = σ.length := by rw [l3, wipe_length]
        have n3' : ∀ j, j ∉ vs → σ3[j]? = σ[j]? := fun j hj => by
          rw [n3 j fun m => hj (hsub j m), wipe_get σ hj]
        refine ⟨wipe_same l3' n3', E0, Dl :: tm, ρ3, Hs2, k3, ?_⟩
        have hD2 : H2 Dl = some (.lst xs) := gr.hh _ _ hDi
        have ra2 := ra.mono gr.ss
        have pi3 : PostN Y W E0 tm σ Hs1 H1 Q (match tf ρ3 with
          | .ok true ρ2 => (match ef ρ2 with
            | .ok x ρ3 => if acc.length < 16777216 then lcD ρ1 vs gf tf ef (ds.drop (i + 1)) (wipeE ρ3 vs) (acc ++ [x]) else .bad
            | _ => .bad)
          | .ok false ρ2 => lcD ρ1 vs gf tf ef (ds.drop (i + 1)) (wipeE ρ2 vs) acc
          | _ => .bad) := pi'
        cases et : tf ρ3 with
        | bad => rw [et] at pi3; exact pi3
        | err c ρ4 => rw [et] at pi3; exact pi3.elim
        | ok b ρ4 =>
          rw [et] at pi3
          intro b' Hs4 H4 k4 s4 s4' eb
          subst eb
          cases b' with
          | false =>
            refine (show (if false = true then _ else _) from ?_)
            rw [if_neg Bool.false_ne_true]
            exact ⟨_, Hs4, acc, xs, k4.back l3' n3', (si.trans gr.ss).trans s4, (si'.trans gr.hh).trans s4', s4' _ _ hD2, ra2.mono s4, pi3⟩
          | true =>
            refine (show (if true = true then _ else _) from ?_)
            rw [if_pos rfl]
            refine ⟨E0, Dl :: tm, ρ4, Hs4, k4, ?_⟩
            have pi4 : PostN Y W E0 tm σ Hs1 H1 Q (match ef ρ4 with
              | .ok x ρ3 => if acc.length < 16777216 then lcD ρ1 vs gf tf ef (ds.drop (i + 1)) (wipeE ρ3 vs) (acc ++ [x]) else .bad
              | _ => .bad) := pi3
            cases ee : ef ρ4 with
            | bad => rw [ee] at pi4; exact pi4
            | err c ρ5 => rw [ee] at pi4; exact pi4.elim
            | ok z ρ5 =>
              rw [ee] at pi4
              intro zv Hs5 H5 k5 s5 s5' rz
              have pi5 : PostN Y W E0 tm σ Hs1 H1 Q (if acc.length < 16777216 then lcD ρ1 vs gf tf ef (ds.drop (i + 1)) (wipeE ρ5 vs) (acc ++ [z]) else .bad) := pi4
              by_cases hl : acc.length < 16777216
              · rw [if_pos hl] at pi5
                have hD5 : H5 Dl = some (.lst xs) := s5' _ _ (s4' _ _ hD2)
                have h1D : H1 Dl = none := hD
                refine ⟨xs, hD5, by rw [ra.length, sizeLine_eq]; exact hl, wipeE ρ5 vs, Hs5, acc ++ [z], xs ++ [zv], ?_, ((si.trans gr.ss).trans s4).trans s5, ?_, upd_same, ((ra2.mono s4).mono s5).append (.cons rz .nil), pi5⟩
                · exact (k5.tmpWrite hnt).back l3' n3'
                · intro b o hb
                  rw [upd_ne (ne_of_none hb h1D)]
                  exact s5' _ _ (s4' _ _ (gr.hh _ _ (si' _ _ hb)))
              · rw [if_neg hl] at pi5
                exact pi5.elim
  · have hd : ds.drop i = [] := List.drop_eq_nil_of_le (by omega)
    rw [hd] at pi
    refine .inl ⟨ws i (by omega), ?_⟩
    exact pi Dl (.lst xs) Hsi H' (ki.unwipe k1 si vs) hnt si si' hDi (.L ra)
theorem tLc_of {Y : Yc} {W : WX} {is vs : List Nat} {itf : EM (List D)} {gf : D → Env → Option Env} {tf : EM Bool} {ef : EM D} (hsub : ∀ i ∈ is, i ∈ vs) {σ : L2.St} {H : Hp} {Q : VK} (q : tN Y W (n_lc vs itf gf tf ef) σ H Q) :
    tLc (tI Y W itf) (gE Y is gf) (tE Y W0 rEq1 tf) (tE Y W0 (fun Hs v d => Rep Y Hs v d) ef) vs σ H Q := by
  obtain ⟨E0, tm, ρ, Hs, k, p⟩ := q
  refine ⟨E0, tm, ρ, Hs, k, ?_⟩
  unfold n_lc at p
  cases e : itf ρ with
  | bad => rw [e] at p; exact p
  | err c ρ' => rw [e] at p; exact p
  | ok ds ρ1 =>
    rw [e] at p
    have p : PostN Y W E0 tm σ Hs H Q (lcD ρ1 vs gf tf ef ds ρ1 []) := p
    exact fun J Hs1 H1 k1 s1 s1' w => lc_turns hsub k1 (PostN.shift p s1 s1') w
/-- a clause's tests -/
def VTs (X : Cx) (y : Yo) (ifs : List Expr) (f : EM Bool) : Prop := PTs X ifs (tE (yc X y) W0 rEq1 f)
def t_yes : EM Bool := fun ρ => .ok true ρ
section
variable {X : Cx} {y : Yo}
theorem vts_nil : VTs X y [] t_yes := ⟨fun pins s σ H Q I ⟨E0, tm, ρ, Hs, k, p⟩ => pts_nil.run pins s σ H Q I (PostR.fin p k rfl)⟩
theorem vts_one {c : Expr} {f : EM Bool} (h : VT X y W0 c f) : VTs X y [c] f := pts_one h
/-- within a comprehension's block -/
theorem cv_blk {W : WX} {j : Nat} (v : Cv X W j) {s : Shared} {H : Hp} {scope : Scope} {cenv : PySem.Env} {fp : List Addr} : Cv (X.blk s H scope cenv fp) W0 j :=
  ⟨v.calm, PassesOwn.never, takes0, v.nd, v.room⟩
variable {W : WX} {elt tg iter : Expr} {ifs : List Expr} {scope : Scope} {is : List Nat} {itf : EM (List D)} {gf : D → Env → Option Env} {tf : EM Bool} {ef : EM D} {pos : Pos}
theorem vn_lc (own : List (Str × Nat)) {j : Nat} (v : Cv X W j) (hi : VI X y W tg iter itf) (ok : BlkOk X.N X.env.scope scope own)
    (hg : ∀ (s : Shared) (H : Hp) (C : Addr) (cl : List (Str × Addr)) (fp : List Addr), VG (X.blk s H scope (compEnvC scope cl C X.env) fp) y tg is gf)
    (ht : ∀ (s : Shared) (H : Hp) (C : Addr) (cl : List (Str × Addr)) (fp : List Addr), VTs (X.blk s H scope (compEnvC scope cl C X.env) fp) y ifs tf)
    (he : ∀ (s : Shared) (H : Hp) (C : Addr) (cl : List (Str × Addr)) (fp : List Addr), VE (X.blk s H scope (compEnvC scope cl C X.env) fp) y W0 elt ef)
    (hsub : ∀ i ∈ is, i ∈ own.map (·.2) := by decide) (hs : ∀ x, foldedSetIterable iter X.env x = pure x := by intro _; rfl) :
    VN X y W (.ListComp elt [⟨tg, iter, ifs, 0⟩] scope pos) (n_lc (own.map (·.2)) itf gf tf ef) :=
  pe_weak (pe_lc (own := own) (g := gE (yc X y) is gf) (tt := tE (yc X y) W0 rEq1 tf) (te := tE (yc X y) W0 (fun Hs v d => Rep (yc X y) Hs v d) ef) v.calm v.nd hi ok hg ht he hs) fun σ H Q q => tLc_of hsub q
theorem vs_setLc (i : Nat) {z : Str} {py spos : Pos} (own : List (Str × Nat)) {j : Nat} (v : Cv X W j) (hy : X.N[i]? = some z) (hyl : X.env.scope.names.lookup z = some .local)
    (hsw : swapsWith (.ListComp elt [⟨tg, iter, ifs, 0⟩] scope pos) (some (.Name z py)) spos.line X.env = pure true) (hi : VI X y W tg iter itf) (ok : BlkOk X.N X.env.scope scope own)
    (hg : ∀ (s : Shared) (H : Hp) (C : Addr) (cl : List (Str × Addr)) (fp : List Addr), VG (X.blk s H scope (compEnvC scope cl C X.env) fp) y tg is gf)
    (ht : ∀ (s : Shared) (H : Hp) (C : Addr) (cl : List (Str × Addr)) (fp : List Addr), VTs (X.blk s H scope (compEnvC scope cl C X.env) fp) y ifs tf)
    (he : ∀ (s : Shared) (H : Hp) (C : Addr) (cl : List (Str × Addr)) (fp : List Addr), VE (X.blk s H scope (compEnvC scope cl C X.env) fp) y W0 elt ef)
    (hsub : ∀ i ∈ is, i ∈ own.map (·.2) := by decide) (hs : ∀ x, foldedSetIterable iter X.env x = pure x := by intro _; rfl) :
    VS X y W (.Assign [.Name z py] (.ListComp elt [⟨tg, iter, ifs, 0⟩] scope pos) spos) (s_setN i (n_lc (own.map (·.2)) itf gf tf ef)) :=
  ps_weak (ps_setLc (i := i) (own := own) (g := gE (yc X y) is gf) (tt := tE (yc X y) W0 rEq1 tf) (te := tE (yc X y) W0 (fun Hs v d => Rep (yc X y) Hs v d) ef) v.calm v.nd hy hyl hsw hi ok hg ht he hs) fun D σ H q => tLc_of hsub (tN_set q)
end

/-! ### a dict's keys, walked under a lock -/
def kD : Key → D
  | .inl i => .int i
  | .inr x => .str x
theorem kD_rep {Y : Yc} {H : Hp} : ∀ k : Key, Rep Y H (kV k) (kD k)
  | .inl i => .int i
  | .inr x => .str x
theorem RepK.key {Y : Yc} {H : Hp} : ∀ {vs : List (Key × V)} {ds : List (Key × D)}, RepK Y H vs ds → ∀ {i : Nat} {d : Key × D}, ds[i]? = some d → ∃ v, vs[i]? = some (d.1, v) ∧ Rep Y H v d.2
  | _, _, .nil, i, d, h => by simp at h
  | _, _, .cons h1 h2, 0, d, h => by
    have e := Option.some.inj h
    subst e
    exact ⟨_, rfl, h1⟩
  | _, _, .cons h1 h2, i + 1, d, h => RepK.key h2 (i := i) h
theorem RepK.length {Y : Yc} {H : Hp} : ∀ {vs : List (Key × V)} {ds : List (Key × D)}, RepK Y H vs ds → vs.length = ds.length
  | _, _, .nil => rfl
  | _, _, .cons _ h => by rw [List.length_cons, List.length_cons, RepK.length h]
theorem wk_keys {Y : Yc} {a : Addr} {od : Obj} {vs : List (Key × V)} {ds : List (Key × D)} {Hs0 Hs : Hp} (h : Hs a = some (.frz od (.dK vs))) (r : RepK Y Hs0 vs ds) : Wk Y (Itk a od vs) Hs (ds.map fun kv => kD kv.1) := fun Hsi Hi s s' => by
  have hi : Hi a = some (.frz od (.dK vs)) := s' _ _ (s _ _ h)
  refine ⟨fun i d hd => ?_, fun i hl => ⟨hi, by rw [r.length]; rw [List.length_map] at hl; exact hl⟩⟩
  rw [List.getElem?_map] at hd
  cases q : ds[i]? with
  | none => rw [q] at hd; cases hd
  | some kv =>
    rw [q] at hd
    have e := Option.some.inj hd
    subst e
    obtain ⟨v, h1, h2⟩ := r.key q
    refine ⟨⟨hi, (List.getElem?_eq_some_iff.mp h1).1⟩, fun x H' z => ?_⟩
    obtain ⟨e1, k, v', e2, e3⟩ := z
    subst e1
    rw [h1] at e2
    injection e2 with e2
    injection e2 with e2 _
    subst e2
    subst e3
    exact ⟨Hsi, .refl s', kD_rep _⟩
theorem pe_two {X : Cx} {e : Expr} {t t' : TE} (h : PE X e t) (h' : PE X e t') : PE X e (fun σ H Q => t σ H Q ∨ t' σ H Q) := ⟨fun pins s σ H Q I q => by
  rcases q with q | q
  · exact h.run pins s σ H Q I q
  · exact h'.run pins s σ H Q I q⟩
def n_lcK (vs : List Nat) (i : Nat) (tg : D → Env → Option Env) (tt : EM Bool) (te : EM D) : EM OD := fun ρ => (e_name i ρ).bind fun d ρ1 => match d with
  | .dct kvs => lcD ρ1 vs tg tt te (kvs.map fun kv => kD kv.1) ρ1 []
  | _ => .bad
/-- [.. for x in d ..], d a name's dict -/
theorem vn_lcK (own : List (Str × Nat)) (i : Nat) {X : Cx} {y : Yo} {W : WX} {z : Str} {zp : Pos} {elt tg : Expr} {ifs : List Expr} {scope : Scope} {is : List Nat} {gf : D → Env → Option Env} {tf : EM Bool} {ef : EM D} {pos : Pos} {j : Nat} (v : Cv X W j) (hn : PE X (.Name z zp) (tVar i)) (ok : BlkOk X.N X.env.scope scope own)
    (hg : ∀ (s : Shared) (H : Hp) (C : Addr) (cl : List (Str × Addr)) (fp : List Addr), VG (X.blk s H scope (compEnvC scope cl C X.env) fp) y tg is gf)
    (ht : ∀ (s : Shared) (H : Hp) (C : Addr) (cl : List (Str × Addr)) (fp : List Addr), VTs (X.blk s H scope (compEnvC scope cl C X.env) fp) y ifs tf)
    (he : ∀ (s : Shared) (H : Hp) (C : Addr) (cl : List (Str × Addr)) (fp : List Addr), VE (X.blk s H scope (compEnvC scope cl C X.env) fp) y W0 elt ef)
    (hsub : ∀ i ∈ is, i ∈ own.map (·.2) := by decide) (hs : ∀ x, foldedSetIterable (.Name z zp) X.env x = pure x := by intro _; rfl) :
    VN X y W (.ListComp elt [⟨tg, .Name z zp, ifs, 0⟩] scope pos) (n_lcK (own.map (·.2)) i gf tf ef) := by
  have base := pe_lc (pos := pos) (own := own) (g := gE (yc X y) is gf) (tt := tE (yc X y) W0 rEq1 tf) (te := tE (yc X y) W0 (fun Hs v d => Rep (yc X y) Hs v d) ef) v.calm v.nd (pi_keys (tg := tg) hn) ok hg ht he hs
  refine pe_weak (pe_two (pe_lock base) base) fun σ H Q ⟨E0, tm, ρ, Hs, k, p⟩ => ?_
  -- what the name holds
  have key : ∃ ρ1 Hs1 a kvs, σ[i]? = some (some (.ref a)) ∧ e_name i ρ = .ok (.dct kvs) ρ1 ∧ Ok (yc X y) E0 tm ρ1 σ Hs1 H ∧ Same Hs Hs1 ∧ ∃ vs, Rd Hs1 a (.dK vs) ∧ RepK (yc X y) Hs1 vs kvs := by
    unfold n_lcK at p
    cases e : ρ[i]? with
    | none =>
      have : e_name i ρ = .bad := by unfold e_name; rw [e]
      rw [this] at p
      exact p.elim
    | some s =>
      cases s with
      | no =>
        have : e_name i ρ = .bad := by unfold e_name; rw [e]
        rw [this] at p
        exact p.elim
      | dat d =>
        have en : e_name i ρ = .ok d ρ := by unfold e_name; rw [e]
        rw [en] at p
        obtain ⟨v, h1, h2⟩ := k.dat i d e
        cases h2 with
        | dct hr hk => exact ⟨ρ, Hs, _, _, h1, en, k, .refl _, _, hr, hk⟩
        | _ => exact p.elim
      | own o =>
        have en : e_name i ρ = .ok o.d (ρ.set i (.dat o.d)) := by unfold e_name; rw [e]
        rw [en] at p
        obtain ⟨q, Hs', h1, h2, h3, h4⟩ := k.freeze e
        cases o with
        | L ds => exact p.elim
        | K kvs =>
          cases h4 with
          | dct hr hk => exact ⟨_, Hs', _, _, h1, en, h2, h3, _, hr, hk⟩
        | KL kvs =>
          cases h4 with
          | dct hr hk => exact ⟨_, Hs', _, _, h1, en, h2, h3, _, hr, hk⟩
      | obj C fs =>
        have : e_name i ρ = .bad := by unfold e_name; rw [e]
        rw [this] at p
        exact p.elim
  obtain ⟨ρ1, Hs1, a, kvs, hσ, en, k1, s1, vs, hr, hk⟩ := key
  have p1 : PostN (yc X y) W E0 tm σ Hs1 H Q (lcD ρ1 (own.map (·.2)) gf tf ef (kvs.map fun kv => kD kv.1) ρ1 []) := by
    refine PostN.shift ?_ s1 (.refl _)
    unfold n_lcK at p
    rw [en] at p
    exact p
  rcases hr with hr | ⟨od, hr⟩
  · refine .inl ⟨a, .dK vs, k1.sh _ _ hr, trivial, fun od => ?_⟩
    have hH : H a = some (.dK vs) := k1.sh _ _ hr
    rw [← lk_upd (od := od) (u := .dK vs) hH]
    refine ⟨_, hσ, a, od, rfl, .inl ⟨vs, lk_at hH, ?_⟩⟩
    have kl := k1.lock (od := od) hr
    refine lc_turns (W := fun cls d σ' H' => W cls d σ' (upd H' a (.dK vs))) (gf := gf) (tf := tf) (ef := ef) (Q := fun v H' => H' a = some (.frz od (.dK vs)) ∧ Q v (upd H' a (.dK vs))) hsub kl ?_ (wk_keys (lk_at hr) hk)
    generalize lcD ρ1 (own.map (·.2)) gf tf ef (kvs.map fun kv => kD kv.1) ρ1 [] = r at p1
    have outS : ∀ {Hs' : Hp}, Same (lk a od (.dK vs) Hs1) Hs' → Same Hs1 (upd Hs' a (.dK vs)) := fun {Hs'} s b o e => by
      by_cases hb : b = a
      · rw [hb, hr] at e
        rw [hb, upd_same]
        exact e
      · rw [upd_ne hb]
        exact s b o (by rw [lk_ne hb]; exact e)
    have outH : ∀ {H' : Hp}, Same (lk a od (.dK vs) H) H' → Same H (upd H' a (.dK vs)) := fun {H'} s b o e => by
      by_cases hb : b = a
      · rw [hb, hH] at e
        rw [hb, upd_same]
        exact e
      · rw [upd_ne hb]
        exact s b o (by rw [lk_ne hb]; exact e)
    cases r with
    | bad => exact p1
    | ok o ρ' =>
      intro q u Hs2 H2 k2 hn s2 s2' hu ro
      have hl : Hs2 a = some (.frz od (.dK vs)) := s2 _ _ (lk_at hr)
      have hq : q ≠ a := fun z => by
        have := (k2.tmp q List.mem_cons_self).1
        rw [z, hl] at this
        cases this
      refine ⟨k2.sh _ _ hl, p1 q u _ _ (Ok.unlock k1.gr hr k2 hl) hn (outS s2) (outH s2') (by rw [upd_ne hq]; exact hu) ?_⟩
      have l : Lkd a vs Hs2 (upd Hs2 a (.dK vs)) := ⟨fun b hb => upd_ne hb, .inr ⟨od, hl⟩, .inl upd_same⟩
      cases ro with
      | L r => exact .L (r.lkd l)
      | K r => exact .K (r.lkd l)
    | err c ρ' =>
      intro Hs2 H2 k2 s2 s2'
      have hl : Hs2 a = some (.frz od (.dK vs)) := s2 _ _ (lk_at hr)
      exact p1 _ _ (Ok.unlock k1.gr hr k2 hl) (outS s2) (outH s2')
  · refine .inr ⟨_, hσ, a, od, rfl, .inl ⟨vs, k1.sh _ _ hr, ?_⟩⟩
    exact lc_turns (W := W) (gf := gf) (tf := tf) (ef := ef) (Q := Q) hsub k1 p1 (wk_keys hr hk)

/-! ### a name's own object, changed -/
def keyD : D → Option Key
  | .int i => some (.inl i)
  | .str x => some (.inr x)
  | _ => none
theorem keyD_ok {Y : Yc} {H : Hp} {v : V} {d : D} {k : Key} (r : Rep Y H v d) (h : keyD d = some k) : v = kV k := by
  cases r with
  | int i =>
    have e := Option.some.inj h
    subst e
    rfl
  | str x =>
    have e := Option.some.inj h
    subst e
    rfl
  | _ => cases h
def valK (kvs : List (Key × D)) (k : Key) : Option D := (kvs.find? fun kv => decide (kv.1 = k)).map (·.2)
def putD (kvs : List (Key × D)) (k : Key) (v : D) : List (Key × D) := if kvs.any (fun kv => decide (kv.1 = k)) = true then kvs.map (fun kv => if kv.1 = k then (kv.1, v) else kv) else kvs ++ [(k, v)]
end VL

namespace VL
open PySem PySem.Spec PyProof.Rows L2

/-! ### numbers -/
theorem opOk_or {Y : Yc} {r r' : R2} {h : D → D → Option D} (d : ∀ (Hs H : Hp) (vx vy : V) (x w z : D) (Q : VK), Same Hs H → Rep Y Hs vx x → Rep Y Hs vy w → h x w = some z →
  (∀ v Hs' H', Grow Hs H Hs' H' → Rep Y Hs' v z → Q v H') → r vx vy H Q ∨ r' vx vy H Q) : OpOk Y (fun x y H Q => r x y H Q ∨ r' x y H Q) h := d
/-- t + u of known tuples -/
def rCatS : R2 := fun x y H Q => ∃ a b xs ys, x = .ref a ∧ y = .ref b ∧ TupS H a xs ∧ TupS H b ys ∧ xs.length + ys.length ≤ sizeLine ∧
  (xs = [] → Q (.ref b) H) ∧ (xs ≠ [] → ys = [] → Q (.ref a) H) ∧ (xs ≠ [] → ys ≠ [] → ∀ p o, H p = none → o.dict = none → Q (.ref p) (upd H p (.frz o (.tup (xs ++ ys)))))
theorem op_catS {X : Cx} : OpR X (binaryOp .Add) rCatS := by
  intro pins s σ H x y v u Q I rx ry hw
  obtain ⟨a, b, xs, ys, rfl, rfl, ha, hb, hz, q0, q1, q2⟩ := hw
  by_cases hx : xs = []
  · exact op_catA pins s σ H _ _ v u Q I rx ry ⟨a, b, xs, ys, rfl, rfl, ha.seq, hb.seq, hz, q0, fun n => absurd hx n, fun n => absurd hx n⟩
  · by_cases hy : ys = []
    · exact op_catA pins s σ H _ _ v u Q I rx ry ⟨a, b, xs, ys, rfl, rfl, ha.seq, hb.seq, hz, fun n => absurd n hx, fun _ _ => q1 hx hy, fun _ n => absurd hy n⟩
    · cases rx
      cases ry
      obtain ⟨its, r1, p1, _⟩ := I.tuple (ha.seq (K := X.K))
      obtain ⟨its2, r2, p2, _⟩ := I.tuple (hb.seq (K := X.K))
      refine HT.cat_tup p1 p2 (fun z => hx (r1.nil_iff.mp z)) (fun z => absurd (r2.nil_iff.mp z) hy) (fun _ => ?_) (by rw [← r1.length, ← r2.length]; exact hz)
      have at1 : (s.heap.push { cls := .type "tuple", data := .seq (its ++ its2).toArray }).get? s.heap.objs.size = some { cls := .type "tuple", data := .seq (its ++ its2).toArray } := Heap.get?_push_size _ rfl
      refine ⟨.ref s.heap.objs.size, _, I.laid (t' := s.toks) (o := .frz { cls := .type "tuple", data := .seq (its ++ its2).toArray } (.tup (xs ++ ys))) (fun _ _ q => Heap.get?_push_of_some _ q) (Nat.le_refl _) ⟨at1, ?_⟩, rfl, q2 hx hy _ _ (I.hok.fresh (Nat.le_refl _)) rfl⟩
      exact ⟨by rw [List.length_append]; exact hz, _, r1.append r2, _, at1, rfl, _, rfl⟩
def opAdd (K : PySem.W.Frag) : R2 := fun x y H Q => rI0 (fun i j => .int (i + j)) x y H Q ∨ ((∃ i j, x = .str i ∧ y = .str j ∧ i.length + j.length ≤ sizeLine ∧ Q (.str (i ++ j)) H) ∨ (rCatS x y H Q ∨ rCat x y H Q))
theorem op_plus {X : Cx} : OpR X (binaryOp .Add) (opAdd X.K) := op_add.or (op_add_str.or (op_catS.or op_cat))
def plusD : D → D → Option D
  | .int i, .int j => some (.int (i + j))
  | .str x, .str y => if x.length + y.length ≤ 16777216 then some (.str (x ++ y)) else none
  | .tup xs, .tup ys => if xs.length + ys.length ≤ 16777216 then some (.tup (xs ++ ys)) else none
  | .lst xs, .lst ys => if xs.length + ys.length ≤ 16777216 then some (.lst (xs ++ ys)) else none
  | _, _ => none
theorem RepL.nil_iff {Y : Yc} {H : Hp} {vs : List V} {ds : List D} (r : RepL Y H vs ds) : vs = [] ↔ ds = [] := by
  cases r with
  | nil => exact ⟨fun _ => rfl, fun _ => rfl⟩
  | cons _ _ => exact ⟨fun h => (nomatch h), fun h => (nomatch h)⟩
theorem plus_ok {Y : Yc} {K : PySem.W.Frag} : OpOk Y (opAdd K) plusD := by
  intro Hs H vx vy x w z Q e rx ry hz q
  cases rx with
  | int i =>
    cases ry with
    | int j =>
      have ez := Option.some.inj hz
      subst ez
      exact .inl ⟨i, j, rfl, rfl, q _ Hs H (.refl e) (.int _)⟩
    | _ => cases hz
  | str i =>
    cases ry with
    | str j =>
      have hz' : (if i.length + j.length ≤ 16777216 then some (D.str (i ++ j)) else none) = some z := hz
      by_cases hl : i.length + j.length ≤ 16777216
      · rw [if_pos hl] at hz'
        have ez := Option.some.inj hz'
        subst ez
        exact .inr (.inl ⟨i, j, rfl, rfl, by rw [sizeLine_eq]; exact hl, q _ Hs H (.refl e) (.str _)⟩)
      · rw [if_neg hl] at hz'
        cases hz'
    | _ => cases hz
  | @tup a xs ds ha hr =>
    cases ry with
    | @tup b ys es hb hr2 =>
      have hz' : (if ds.length + es.length ≤ 16777216 then some (D.tup (ds ++ es)) else none) = some z := hz
      by_cases hl : ds.length + es.length ≤ 16777216
      · rw [if_pos hl] at hz'
        have ez := Option.some.inj hz'
        subst ez
        refine .inr (.inr (.inl ⟨a, b, xs, ys, rfl, rfl, ha.mono e, hb.mono e, by rw [hr.length, hr2.length, sizeLine_eq]; exact hl, fun hx => ?_, fun hx hy => ?_, fun hx hy p o hp ho => ?_⟩))
        · have e1 := hr.nil_iff.mp hx
          subst e1
          exact q _ Hs H (.refl e) (.tup hb hr2)
        · have e1 := hr2.nil_iff.mp hy
          subst e1
          rw [List.append_nil] at q
          exact q _ Hs H (.refl e) (.tup ha hr)
        · have gr := Grow.new (.frz o (.tup (xs ++ ys))) e hp
          exact q _ _ _ gr (.tup ⟨o, upd_same, ho⟩ ((hr.append hr2).mono gr.ss))
      · rw [if_neg hl] at hz'
        cases hz'
    | _ => cases hz
  | @lst a xs ds ha hr =>
    cases ry with
    | @lst b ys es hb hr2 =>
      have hz' : (if ds.length + es.length ≤ 16777216 then some (D.lst (ds ++ es)) else none) = some z := hz
      by_cases hl : ds.length + es.length ≤ 16777216
      · rw [if_pos hl] at hz'
        have ez := Option.some.inj hz'
        subst ez
        refine .inr (.inr (.inr ⟨a, b, xs, ys, rfl, rfl, e _ _ ha, e _ _ hb, by rw [hr.length, hr2.length, sizeLine_eq]; exact hl, fun p hp => ?_⟩))
        have gr := Grow.new (.lst (xs ++ ys)) e hp
        exact q _ _ _ gr (.lst upd_same ((hr.append hr2).mono gr.ss))
      · rw [if_neg hl] at hz'
        cases hz'
    | _ => cases hz
  | _ => cases ry <;> cases hz
def subD : D → D → Option D
  | .int i, .int j => some (.int (i - j))
  | _, _ => none
theorem sub_ok {Y : Yc} : OpOk Y (rI0 fun i j => .int (i - j)) subD := by
  intro Hs H vx vy x w z Q e rx ry hz q
  cases rx with
  | int i =>
    cases ry with
    | int j =>
      have ez := Option.some.inj hz
      subst ez
      exact ⟨i, j, rfl, rfl, q _ Hs H (.refl e) (.int _)⟩
    | _ => cases hz
  | _ => cases ry <;> cases hz
/-- products that the model takes -/
def mulB (i j : Int) : Bool := decide (-(2 ^ 64) < i ∧ i < 2 ^ 64) || (decide (-(2 ^ 64) < j ∧ j < 2 ^ 64) || decide (i.natAbs.log2 + j.natAbs.log2 < 1000000))
def mulD : D → D → Option D
  | .int i, .int j => if mulB i j = true then some (.int (i * j)) else none
  | _, _ => none
def opMul : R2 := fun x y H Q => rI CMul (fun i j => .int (i * j)) x y H Q ∨ rI CMulW (fun i j => .int (i * j)) x y H Q
theorem op_times {X : Cx} : OpR X (binaryOp .Mult) opMul := op_mul.or op_mulW
theorem mul_ok {Y : Yc} : OpOk Y opMul mulD := by
  intro Hs H vx vy x w z Q e rx ry hz q
  cases rx with
  | int i =>
    cases ry with
    | int j =>
      have hz' : (if mulB i j = true then some (D.int (i * j)) else none) = some z := hz
      by_cases hb : mulB i j = true
      · rw [if_pos hb] at hz'
        have ez := Option.some.inj hz'
        subst ez
        have q1 := q _ Hs H (.refl e) (.int _)
        unfold mulB at hb
        rw [Bool.or_eq_true, Bool.or_eq_true, decide_eq_true_eq, decide_eq_true_eq, decide_eq_true_eq] at hb
        rcases hb with hb | hb | hb
        · exact .inl ⟨i, j, rfl, rfl, .inl hb, q1⟩
        · exact .inl ⟨i, j, rfl, rfl, .inr hb, q1⟩
        · exact .inr ⟨i, j, rfl, rfl, hb, q1⟩
      · rw [if_neg hb] at hz'
        cases hz'
    | _ => cases hz
  | _ => cases ry <;> cases hz
def modD : D → D → Option D
  | .int i, .int j => if 0 < j then some (.int (i % j)) else none
  | _, _ => none
theorem mod_ok {Y : Yc} : OpOk Y (rI (fun _ j => 0 < j) fun i j => .int (i % j)) modD := by
  intro Hs H vx vy x w z Q e rx ry hz q
  cases rx with
  | int i =>
    cases ry with
    | int j =>
      have hz' : (if 0 < j then some (D.int (i % j)) else none) = some z := hz
      by_cases hb : 0 < j
      · rw [if_pos hb] at hz'
        have ez := Option.some.inj hz'
        subst ez
        exact ⟨i, j, rfl, rfl, hb, q _ Hs H (.refl e) (.int _)⟩
      · rw [if_neg hb] at hz'
        cases hz'
    | _ => cases hz
  | _ => cases ry <;> cases hz
def fdivD : D → D → Option D
  | .int i, .int j => if 0 < j ∧ j.natAbs.log2 < 9000 then some (.int (i / j)) else none
  | _, _ => none
theorem fdiv_ok {Y : Yc} : OpOk Y (rI CDivW fun i j => .int (i / j)) fdivD := by
  intro Hs H vx vy x w z Q e rx ry hz q
  cases rx with
  | int i =>
    cases ry with
    | int j =>
      have hz' : (if 0 < j ∧ j.natAbs.log2 < 9000 then some (D.int (i / j)) else none) = some z := hz
      by_cases hb : 0 < j ∧ j.natAbs.log2 < 9000
      · rw [if_pos hb] at hz'
        have ez := Option.some.inj hz'
        subst ez
        exact ⟨i, j, rfl, rfl, hb, q _ Hs H (.refl e) (.int _)⟩
      · rw [if_neg hb] at hz'
        cases hz'
    | _ => cases hz
  | _ => cases ry <;> cases hz

/-! ### comparisons -/
mutual
def D.toP : D → PyData
  | .non => .none
  | .bl b => .bool b
  | .int i => .int i
  | .str x => .str x
  | .tup xs => .tuple (D.toPs xs)
  | .lst xs => .list (D.toPs xs)
  | .pr xs => .tuple (D.toPs xs)
  | .ll xs => .list (D.toPs xs)
  | .dct _ => .dict []
  | .atm _ => .dict []
  | .exc _ => .dict []
def D.toPs : List D → List PyData
  | [] => []
  | d :: ds => d.toP :: D.toPs ds
end
mutual
theorem Rep.dp {Y : Yc} {H : Hp} : ∀ {d : D} {v : V}, Rep Y H v d → d.toP.canLay0 = true → Dp Y.K H v d.toP
  | .non, _, h, _ => by cases h; exact .non
  | .bl b, _, h, _ => by cases h; exact .bl b
  | .int i, _, h, _ => by cases h; exact .int i
  | .str x, _, h, _ => by cases h; exact .str x
  | .tup ds, _, h, c => by
    cases h with
    | tup hs hr => exact .tup hs.seq (RepL.dp hr c)
  | .lst ds, _, h, c => by
    cases h with
    | lst hs hr => exact .lst (SqL.of hs) (RepL.dp hr c)
  | .ll ds, _, h, c => by
    cases h with
    | ll hs hr => exact .lst hs (RepL.dp hr c)
  | .pr ds, _, h, c => by
    cases h with
    | pr hs hr => exact .tup hs (RepL.dp hr c)
  | .dct _, _, _, c => by cases c
  | .atm _, _, _, c => by cases c
  | .exc _, _, _, c => by cases c
theorem RepL.dp {Y : Yc} {H : Hp} : ∀ {ds : List D} {vs : List V}, RepL Y H vs ds → PyData.canLayAll0 (D.toPs ds) = true → DpAll Y.K H vs (D.toPs ds)
  | [], _, h, _ => by cases h; exact .nil
  | d :: ds, _, h, c => by
    cases h with
    | cons h1 h2 =>
      have c' := Bool.and_eq_true_iff.mp (show (d.toP.canLay0 && PyData.canLayAll0 (D.toPs ds)) = true from c)
      exact .cons (Rep.dp h1 c'.1) (RepL.dp h2 c'.2)
end
/-- == -/
def eqB : D → D → Option Bool
  | .int i, .int j => some (decide (i = j))
  | .str x, .str y => some (decide (x = y))
  | .bl x, .bl y => some (decide (x = y))
  | x, y => if SeqAt.shaped x.toP = true ∧ SeqAt.shaped y.toP = true then some (PyData.eqv x.toP y.toP) else none
def eqD (x y : D) : Option D := (eqB x y).map .bl
def neD (x y : D) : Option D := (eqB x y).map fun b => .bl (!b)
theorem eqB_cases {x w : D} {b : Bool} (h : eqB x w = some b) : (∃ i j, x = .int i ∧ w = .int j ∧ b = decide (i = j)) ∨ (∃ i j, x = .str i ∧ w = .str j ∧ b = decide (i = j)) ∨ (∃ i j, x = .bl i ∧ w = .bl j ∧ b = decide (i = j)) ∨
    (SeqAt.shaped x.toP = true ∧ SeqAt.shaped w.toP = true ∧ b = PyData.eqv x.toP w.toP) := by
  have gen : (if SeqAt.shaped x.toP = true ∧ SeqAt.shaped w.toP = true then some (PyData.eqv x.toP w.toP) else none) = some b → (SeqAt.shaped x.toP = true ∧ SeqAt.shaped w.toP = true ∧ b = PyData.eqv x.toP w.toP) := fun h => by
    by_cases c : SeqAt.shaped x.toP = true ∧ SeqAt.shaped w.toP = true
    · rw [if_pos c] at h
      exact ⟨c.1, c.2, (Option.some.inj h).symm⟩
    · rw [if_neg c] at h
      cases h
  cases x with
  | int i =>
    cases w with
    | int j => exact .inl ⟨i, j, rfl, rfl, (Option.some.inj h).symm⟩
    | _ => exact .inr (.inr (.inr (gen h)))
  | str i =>
    cases w with
    | str j => exact .inr (.inl ⟨i, j, rfl, rfl, (Option.some.inj h).symm⟩)
    | _ => exact .inr (.inr (.inr (gen h)))
  | bl i =>
    cases w with
    | bl j => exact .inr (.inr (.inl ⟨i, j, rfl, rfl, (Option.some.inj h).symm⟩))
    | _ => exact .inr (.inr (.inr (gen h)))
  | _ => exact .inr (.inr (.inr (gen h)))
def opEq (K : PySem.W.Frag) : R2 := fun x y H Q => rEq x y H Q ∨ rEqD K x y H Q
def opNe (K : PySem.W.Frag) : R2 := fun x y H Q => rNe x y H Q ∨ rNeD K x y H Q
theorem op_eqs {X : Cx} (hu : X.A.units + 64 < cLine) : OpR X (compareOp .Eq) (opEq X.K) := op_eq.or (op_eqD hu)
theorem op_nes {X : Cx} (hu : X.A.units + 64 < cLine) : OpR X (compareOp .NotEq) (opNe X.K) := op_ne.or (op_neD hu)
theorem canLay_of {d : PyData} (h : SeqAt.shaped d = true) : d.canLay0 = true := SeqAt.canLay_of_shaped h
theorem eq_ok {Y : Yc} : OpOk Y (opEq Y.K) eqD := by
  intro Hs H vx vy x w z Q e rx ry hz q
  unfold eqD at hz
  cases hb : eqB x w with
  | none => rw [hb] at hz; cases hz
  | some b =>
    rw [hb] at hz
    have ez := Option.some.inj hz
    subst ez
    have q1 := q _ Hs H (.refl e) (.bl b)
    rcases eqB_cases hb with ⟨i, j, rfl, rfl, eb⟩ | ⟨i, j, rfl, rfl, eb⟩ | ⟨i, j, rfl, rfl, eb⟩ | ⟨c1, c2, eb⟩
    · cases rx
      cases ry
      refine .inl ⟨rfl, ?_⟩
      rw [show decide (V.int i = V.int j) = b by rw [eb]; simp]
      exact q1
    · cases rx
      cases ry
      refine .inl ⟨rfl, ?_⟩
      rw [show decide (V.str i = V.str j) = b by rw [eb]; simp]
      exact q1
    · cases rx
      cases ry
      refine .inl ⟨rfl, ?_⟩
      rw [show decide (V.bl i = V.bl j) = b by rw [eb]; simp]
      exact q1
    · subst eb
      exact .inr ⟨_, _, (rx.mono e).dp (canLay_of c1), (ry.mono e).dp (canLay_of c2), c1, c2, q1⟩
theorem ne_ok {Y : Yc} : OpOk Y (opNe Y.K) neD := by
  intro Hs H vx vy x w z Q e rx ry hz q
  unfold neD at hz
  cases hb : eqB x w with
  | none => rw [hb] at hz; cases hz
  | some b =>
    rw [hb] at hz
    have ez := Option.some.inj hz
    subst ez
    have q1 := q _ Hs H (.refl e) (.bl (!b))
    rcases eqB_cases hb with ⟨i, j, rfl, rfl, eb⟩ | ⟨i, j, rfl, rfl, eb⟩ | ⟨i, j, rfl, rfl, eb⟩ | ⟨c1, c2, eb⟩
    · cases rx
      cases ry
      refine .inl ⟨rfl, ?_⟩
      rw [show decide (V.int i = V.int j) = b by rw [eb]; simp]
      exact q1
    · cases rx
      cases ry
      refine .inl ⟨rfl, ?_⟩
      rw [show decide (V.str i = V.str j) = b by rw [eb]; simp]
      exact q1
    · cases rx
      cases ry
      refine .inl ⟨rfl, ?_⟩
      rw [show decide (V.bl i = V.bl j) = b by rw [eb]; simp]
      exact q1
    · subst eb
      exact .inr ⟨_, _, (rx.mono e).dp (canLay_of c1), (ry.mono e).dp (canLay_of c2), c1, c2, q1⟩
/-- an order of numbers and of texts -/
def ordD (fi : Int → Int → Bool) (fs : Str → Str → Bool) : D → D → Option D
  | .int i, .int j => some (.bl (fi i j))
  | .str x, .str y => some (.bl (fs x y))
  | _, _ => none
def rOrd (fi : Int → Int → Bool) (fs : Str → Str → Bool) : R2 := fun x y H Q => rI0 (fun i j => .bl (fi i j)) x y H Q ∨ ∃ i j, x = .str i ∧ y = .str j ∧ Q (.bl (fs i j)) H
theorem ord_ok {Y : Yc} {fi : Int → Int → Bool} {fs : Str → Str → Bool} : OpOk Y (rOrd fi fs) (ordD fi fs) := by
  intro Hs H vx vy x w z Q e rx ry hz q
  cases rx with
  | int i =>
    cases ry with
    | int j =>
      have ez := Option.some.inj hz
      subst ez
      exact .inl ⟨i, j, rfl, rfl, q _ Hs H (.refl e) (.bl _)⟩
    | _ => cases hz
  | str i =>
    cases ry with
    | str j =>
      have ez := Option.some.inj hz
      subst ez
      exact .inr ⟨i, j, rfl, rfl, q _ Hs H (.refl e) (.bl _)⟩
    | _ => cases hz
  | _ => cases ry <;> cases hz
abbrev ltD := ordD (fun i j => decide (i < j)) fun x y => decide (x.cps.toList < y.cps.toList)
abbrev leD := ordD (fun i j => decide (i ≤ j)) fun x y => !decide (y.cps.toList < x.cps.toList)
abbrev gtD := ordD (fun i j => decide (j < i)) fun x y => decide (y.cps.toList < x.cps.toList)
abbrev geD := ordD (fun i j => decide (j ≤ i)) fun x y => !decide (x.cps.toList < y.cps.toList)
theorem op_lts {X : Cx} : OpR X (compareOp .Lt) (rOrd (fun i j => decide (i < j)) fun x y => decide (x.cps.toList < y.cps.toList)) := op_lt.or op_lt_str
theorem op_les {X : Cx} : OpR X (compareOp .LtE) (rOrd (fun i j => decide (i ≤ j)) fun x y => !decide (y.cps.toList < x.cps.toList)) := op_le.or op_le_str
theorem op_gts {X : Cx} : OpR X (compareOp .Gt) (rOrd (fun i j => decide (j < i)) fun x y => decide (y.cps.toList < x.cps.toList)) := op_gt.or op_gt_str
theorem op_ges {X : Cx} : OpR X (compareOp .GtE) (rOrd (fun i j => decide (j ≤ i)) fun x y => !decide (x.cps.toList < y.cps.toList)) := op_ge.or op_ge_str
/-- a text in a text -/
def insD : D → D → Option D
  | .str x, .str y => some (.bl (!(Builtin.Str.occurrences y x 0 y.length 1).isEmpty))
  | _, _ => none
theorem ins_ok {Y : Yc} : OpOk Y (fun x y H Q => ∃ i j, x = .str i ∧ y = .str j ∧ Q (.bl (!(Builtin.Str.occurrences j i 0 j.length 1).isEmpty)) H) insD := by
  intro Hs H vx vy x w z Q e rx ry hz q
  cases rx with
  | str i =>
    cases ry with
    | str j =>
      have ez := Option.some.inj hz
      subst ez
      exact ⟨i, j, rfl, rfl, q _ Hs H (.refl e) (.bl _)⟩
    | _ => cases hz
  | _ => cases ry <;> cases hz
/-- is None, is not None -/
def isND (neg : Bool) : D → D → Option D
  | .non, .non => some (.bl (!neg))
  | .atm _, _ => none
  | _, .non => some (.bl neg)
  | _, _ => none
theorem isN_ok {Y : Yc} : OpOk Y (fun x y H Q => y = .non ∧ Q (.bl (decide (x = .non))) H) (isND false) := by
  intro Hs H vx vy x w z Q e rx ry hz q
  cases ry with
  | non =>
    refine ⟨rfl, ?_⟩
    cases rx with
    | atm _ => cases hz
    | _ =>
      have ez := Option.some.inj hz
      subst ez
      exact q _ Hs H (.refl e) (.bl _)
  | _ => cases rx <;> cases hz
theorem isNN_ok {Y : Yc} : OpOk Y (fun x y H Q => y = .non ∧ Q (.bl (!decide (x = .non))) H) (isND true) := by
  intro Hs H vx vy x w z Q e rx ry hz q
  cases ry with
  | non =>
    refine ⟨rfl, ?_⟩
    cases rx with
    | atm _ => cases hz
    | _ =>
      have ez := Option.some.inj hz
      subst ez
      exact q _ Hs H (.refl e) (.bl _)
  | _ => cases rx <;> cases hz

/-! ### subscripts -/
def ixD : D → D → Option D
  | .lst xs, .int i => atI xs i
  | .tup xs, .int i => atI xs i
  | .pr xs, .int i => atI xs i
  | .ll xs, .int i => atI xs i
  | .str x, .int i => if x.length ≤ 16777216 then (atI x.cps.toList i).map fun c => .str ⟨#[c]⟩ else none
  | _, _ => none
theorem RepL.at {Y : Yc} {H : Hp} {vs : List V} {ds : List D} {i : Int} {d : D} (r : RepL Y H vs ds) (h : atI ds i = some d) : ∃ v, atI vs i = some v ∧ Rep Y H v d := by
  unfold atI at h ⊢
  rw [r.length]
  cases e : ixN ds.length i with
  | none => rw [e] at h; cases h
  | some j =>
    rw [e] at h
    exact r.get h
theorem ix_ok {Y : Yc} : OpOk Y (rIx Y.K) ixD := by
  intro Hs H vx vy x w z Q e rx ry hz q
  cases rx with
  | @lst a xs ds ha hr =>
    cases ry with
    | int i =>
      obtain ⟨v, h1, h2⟩ := hr.at (show atI ds i = some z from hz)
      exact .inl ⟨a, xs, i, v, rfl, rfl, SqL.of (e _ _ ha), h1, q _ Hs H (.refl e) h2⟩
    | _ => cases hz
  | @ll a xs ds ha hr =>
    cases ry with
    | int i =>
      obtain ⟨v, h1, h2⟩ := hr.at (show atI ds i = some z from hz)
      exact .inl ⟨a, xs, i, v, rfl, rfl, e.seq ha, h1, q _ Hs H (.refl e) h2⟩
    | _ => cases hz
  | @tup a xs ds ha hr =>
    cases ry with
    | int i =>
      obtain ⟨v, h1, h2⟩ := hr.at (show atI ds i = some z from hz)
      exact .inr (.inl ⟨a, xs, i, v, rfl, rfl, (ha.mono e).seq, h1, q _ Hs H (.refl e) h2⟩)
    | _ => cases hz
  | @pr a xs ds ha hr =>
    cases ry with
    | int i =>
      obtain ⟨v, h1, h2⟩ := hr.at (show atI ds i = some z from hz)
      exact .inr (.inl ⟨a, xs, i, v, rfl, rfl, sqt_same e ha, h1, q _ Hs H (.refl e) h2⟩)
    | _ => cases hz
  | str x =>
    cases ry with
    | int i =>
      have hz' : (if x.length ≤ 16777216 then (atI x.cps.toList i).map fun c => D.str ⟨#[c]⟩ else none) = some z := hz
      by_cases hl : x.length ≤ 16777216
      · rw [if_pos hl] at hz'
        cases ec : atI x.cps.toList i with
        | none => rw [ec] at hz'; cases hz'
        | some c =>
          rw [ec] at hz'
          have ez := Option.some.inj hz'
          subst ez
          exact .inr (.inr ⟨x, i, c, rfl, rfl, by rw [sizeLine_eq]; exact hl, ec, q _ Hs H (.refl e) (.str _)⟩)
      · rw [if_neg hl] at hz'
        cases hz'
    | _ => cases hz
  | _ => cases ry <;> cases hz
theorem RepK.val {Y : Yc} {H : Hp} (k : Key) : ∀ {vs : List (Key × V)} {ds : List (Key × D)}, RepK Y H vs ds → (valK ds k = none → valV vs k = none) ∧ ∀ d, valK ds k = some d → ∃ v, valV vs k = some v ∧ Rep Y H v d
  | _, _, .nil => ⟨fun _ => rfl, fun d h => by cases h⟩
  | _, _, .cons (k := k') (v := v) (vs := vs) (d := d) (ds := ds) h1 h2 => by
    by_cases hk : k' = k
    · subst hk
      have e1 : valK ((k', d) :: ds) k' = some d := by simp [valK]
      have e2 : valV ((k', v) :: vs) k' = some v := valV_pos rfl
      refine ⟨fun h => ?_, fun d' h => ?_⟩
      · rw [e1] at h
        cases h
      · rw [e1] at h
        have ed := Option.some.inj h
        subst ed
        exact ⟨v, e2, h1⟩
    · have e1 : valK ((k', d) :: ds) k = valK ds k := by simp [valK, List.find?_cons, hk]
      have e2 : valV ((k', v) :: vs) k = valV vs k := valV_neg hk
      rw [e1, e2]
      exact RepK.val k h2
/-- d[k], all of it there -/
def subD2 (x w : D) : Option D := match x with
  | .dct kvs => (keyD w).bind fun k => valK kvs k
  | x => ixD x w
theorem sub_split {x w z : D} (h : subD2 x w = some z) : (∃ kvs k, x = .dct kvs ∧ keyD w = some k ∧ valK kvs k = some z) ∨ ixD x w = some z := by
  cases x with
  | dct kvs =>
    have h' : ((keyD w).bind fun k => valK kvs k) = some z := h
    cases ek : keyD w with
    | none => rw [ek] at h'; cases h'
    | some k =>
      rw [ek] at h'
      exact .inl ⟨kvs, k, rfl, rfl, h'⟩
  | _ => exact .inr h
section
variable {X : Cx} {y : Yo} {W : WX} {a b : Expr} {f g : EM D} {pos : Pos}
theorem ve_sub {j : Nat} (v : Cv X W j) (ha : VE X y W a f) (hb : VE X y W b g) (hs : PlainIx b := by exact fun _ _ => rfl) (hs2 : NoSl b := by exact fun _ _ => rfl) : VE X y W (.Subscript a b pos) (e_op subD2 f g) := by
  refine pe_weak (pe_two (pe_ix ix_seq ha hb hs) (pe_dget (hu_of v.room) ha hb hs2)) fun σ H Q ⟨E0, tm, ρ, Hs, k, p⟩ => ?_
  -- which of the two it is
  have two : (∀ x ρ1, f ρ = .ok x ρ1 → ∀ kvs, x ≠ .dct kvs) ∨ (∀ x ρ1, f ρ = .ok x ρ1 → ∃ kvs, x = .dct kvs) := by
    cases ef : f ρ with
    | ok x ρ1 =>
      cases x with
      | dct kvs => exact .inr fun x' ρ' e => by cases e; exact ⟨kvs, rfl⟩
      | _ => exact .inl fun x' ρ' e kvs z => by cases e; cases z
    | _ => exact .inl fun x' ρ' e => nomatch e
  rcases two with two | two
  · refine .inl (tE.bindE k p fun x ρ1 v1 Hs1 H1 ex k1 s1 s1' r1 p1 => ?_)
    refine tE.bind k1 p1 fun w ρ2 u Hs2 H2 k2 s2 s2' r2 p2 => ?_
    unfold o2 at p2
    cases e : subD2 x w with
    | none => rw [e] at p2; exact p2.elim
    | some z =>
      rw [e] at p2
      rcases sub_split e with ⟨kvs, kk, e1, _⟩ | e1
      · exact absurd e1 (two x ρ1 ex kvs)
      · exact ix_ok Hs2 H2 v1 u x w z Q k2.sh (r1.mono s2) r2 e1 fun v Hs' H' gr rr => p2.finG k2 gr rr
  · refine .inr (tE.bindE k p fun x ρ1 v1 Hs1 H1 ex k1 s1 s1' r1 p1 => ?_)
    refine tE.bind k1 p1 fun w ρ2 u Hs2 H2 k2 s2 s2' r2 p2 => ?_
    unfold o2 at p2
    cases e : subD2 x w with
    | none => rw [e] at p2; exact p2.elim
    | some z =>
      rw [e] at p2
      obtain ⟨kvs, rfl⟩ := two x ρ1 ex
      rcases sub_split e with ⟨kvs', kk, e1, e2, e3⟩ | e1
      · cases e1
        cases r1.mono s2 with
        | dct hr hk =>
          obtain ⟨v2, q1, q2⟩ := (RepK.val kk hk).2 z e3
          have eu := keyD_ok r2 e2
          subst eu
          exact ⟨_, v2, rfl, .inl ⟨_, kk, rd_same k2.sh hr, rfl, q1.symm⟩, p2.fin k2 q2⟩
      · cases w <;> cases e1
end
end VL

namespace VL
open PySem PySem.Spec PyProof.Rows L2

/-! ### slices -/
def cutD (xs : List D) (lo hi : Option Int) : List D := (xs.drop (HT.sIx xs.length 0 lo)).take (HT.sIx xs.length xs.length hi - HT.sIx xs.length 0 lo)
theorem RepL.cut {Y : Yc} {H : Hp} {vs : List V} {ds : List D} (r : RepL Y H vs ds) (lo hi : Option Int) : RepL Y H (cutV vs lo hi) (cutD ds lo hi) := by
  unfold cutV cutD
  rw [r.length]
  exact (r.drop _).take _
def slD (x : D) (lo hi : Option Int) : Option D := match x with
  | .str z => if z.length ≤ 16777216 then some (.str (cutS z lo hi)) else none
  | .lst ds => some (.lst (cutD ds lo hi))
  | .tup ds => some (.tup (cutD ds lo hi))
  | _ => none
/-- t[lo:hi] of a known tuple -/
def rSlS : V → Option Int → Option Int → Hp → VK → Prop := fun x lo hi H Q => ∃ a xs, x = .ref a ∧ TupS H a xs ∧
  (HT.sIx xs.length 0 lo = 0 ∧ HT.sIx xs.length xs.length hi = xs.length → Q (.ref a) H) ∧ (¬ (HT.sIx xs.length 0 lo = 0 ∧ HT.sIx xs.length xs.length hi = xs.length) → ∀ p o, H p = none → o.dict = none → Q (.ref p) (upd H p (.frz o (.tup (cutV xs lo hi)))))
theorem sl_tupS {X : Cx} : SlR X rSlS := by
  intro pins s σ H x v vl vu lo hi sl Q I rx hs pl pu hw
  obtain ⟨a, xs, rfl, hx, q1, q2⟩ := hw
  by_cases hw : HT.sIx xs.length 0 lo = 0 ∧ HT.sIx xs.length xs.length hi = xs.length
  · exact sl_tupA pins s σ H _ v vl vu lo hi sl Q I rx hs pl pu ⟨a, xs, rfl, hx.seq, q1, fun n => absurd hw n⟩
  · cases rx
    obtain ⟨its, r, ht, hz⟩ := I.tuple (hx.seq (K := X.K))
    have hlen : its.toArray.size = xs.length := by rw [List.size_toArray]; exact r.length.symm
    refine ⟨"tuple", _, PyProof.Rows.slot_tuple_getitem.lookup, ht.typeIs, ?_⟩
    refine HT.getItem_tuple_cut ht hs pl pu (by rw [hlen]; exact hw) ?_ (by rw [hlen]; exact hz)
    rw [hlen]
    have at1 : ∀ its2 : List Value, (s.heap.push { cls := .type "tuple", data := .seq its2.toArray }).get? s.heap.objs.size = some { cls := .type "tuple", data := .seq its2.toArray } := fun its2 => Heap.get?_push_size _ rfl
    refine ⟨.ref s.heap.objs.size, _, I.laid (t' := s.toks) (o := .frz _ (.tup (cutV xs lo hi))) (fun _ _ q => Heap.get?_push_of_some _ q) (Nat.le_refl _) ⟨at1 _, ?_⟩, rfl, q2 hw _ _ (I.hok.fresh (Nat.le_refl _)) rfl⟩
    exact ⟨Nat.le_trans (cutV_length xs lo hi) hz, _, (r.drop (HT.sIx xs.length 0 lo)).take (HT.sIx xs.length xs.length hi - HT.sIx xs.length 0 lo), _, at1 _, rfl, _, rfl⟩
def rSlAny (K : PySem.W.Frag) : V → Option Int → Option Int → Hp → VK → Prop := fun x lo hi H Q => rSlS x lo hi H Q ∨ (rSlL K x lo hi H Q ∨ rSlS2 x lo hi H Q)
where rSlS2 : V → Option Int → Option Int → Hp → VK → Prop := L2.rSlS
theorem sl_any {X : Cx} : SlR X (rSlAny X.K) := sl_tupS.or (sl_list.or sl_str)
def p_none : EM (Option Int) := fun ρ => .ok none ρ
def p_some (f : EM D) : EM (Option Int) := fun ρ => (f ρ).bind fun d => o2 (match d with | .int i => some (some i) | _ => none)
def e_slice (f : EM D) (l h : EM (Option Int)) : EM D := fun ρ => (f ρ).bind fun x ρ1 => (l ρ1).bind fun lo ρ2 => (h ρ2).bind fun hi => o2 (slD x lo hi)
section
variable {X : Cx} {y : Yo} {W : WX} {e : Expr} {f : EM D} {pos : Pos}
theorem po_weak {o : Option Expr} {t t' : TO} (h : PO X o t) (i : ∀ σ H Q, t' σ H Q → t σ H Q) : PO X o t' := PO.mk fun pins s σ H Q I q => h.run pins s σ H Q I (i _ _ _ q)
theorem vp_none : VP X y W none p_none := po_weak po_none fun σ H Q ⟨E0, tm, ρ, Hs, k, p⟩ => PostR.fin p k rfl
theorem vp_some (h : VE X y W e f) : VP X y W (some e) (p_some f) := by
  refine po_weak (po_some h) fun σ H Q ⟨E0, tm, ρ, Hs, k, p⟩ => ?_
  refine tE.bind k p fun d ρ1 v Hs1 H1 k1 s1 s1' r1 p1 => ?_
  unfold o2 at p1
  cases r1 with
  | int i => exact ⟨i, rfl, p1.fin k1 rfl⟩
  | _ => exact p1.elim
theorem ve_slice {lo hi : Option Expr} {p2 : Pos} {l h : EM (Option Int)} (he : VE X y W e f) (hl : VP X y W lo l) (hh : VP X y W hi h) : VE X y W (.Subscript e (.Slice lo hi none p2) pos) (e_slice f l h) := by
  refine pe_weak (pe_slice sl_any he hl hh) fun σ H Q ⟨E0, tm, ρ, Hs, k, p⟩ => ?_
  refine tE.bind k p fun x ρ1 v Hs1 H1 k1 s1 s1' r1 p1 => ?_
  refine tE.bind k1 p1 fun lo ρ2 lo' Hs2 H2 k2 s2 s2' e2 p2 => ?_
  subst e2
  refine tE.bind k2 p2 fun hi ρ3 hi' Hs3 H3 k3 s3 s3' e3 p3 => ?_
  subst e3
  unfold o2 at p3
  cases (r1.mono s2).mono s3 with
  | str z =>
    by_cases hz : z.length ≤ 16777216
    · have e1 : slD (.str z) lo' hi' = some (.str (cutS z lo' hi')) := if_pos hz
      rw [e1] at p3
      exact .inr (.inr ⟨z, rfl, by rw [sizeLine_eq]; exact hz, PostR.fin p3 k3 (.str _)⟩)
    · have e1 : slD (.str z) lo' hi' = none := if_neg hz
      rw [e1] at p3
      exact p3.elim
  | @lst a xs ds ha hr =>
    refine .inr (.inl ⟨a, xs, rfl, SqL.of (k3.sh _ _ ha), fun p hp => ?_⟩)
    have gr := Grow.new (.lst (cutV xs lo' hi')) k3.sh hp
    exact PostR.finG p3 k3 gr (.lst upd_same ((hr.cut _ _).mono gr.ss))
  | @tup a xs ds ha hr =>
    refine .inl ⟨a, xs, rfl, ha.mono k3.sh, fun hw => ?_, fun hw p o hp ho => ?_⟩
    · have ed : cutD ds lo' hi' = ds := by
        rw [hr.length] at hw
        unfold cutD
        rw [hw.1, hw.2]
        simp
      refine PostR.fin p3 k3 ?_
      show Rep _ _ _ (D.tup (cutD ds lo' hi'))
      rw [ed]
      exact .tup ha hr
    · have gr := Grow.new (.frz o (.tup (cutV xs lo' hi'))) k3.sh hp
      exact PostR.finG p3 k3 gr (.tup ⟨o, upd_same, ho⟩ ((hr.cut _ _).mono gr.ss))
  | _ => exact p3.elim
end

/-! ### built-ins -/
def lenD : List D → Option D
  | [.str x] => if x.length ≤ 16777216 then some (.int (x.length : Nat)) else none
  | [.lst xs] => some (.int (xs.length : Nat))
  | [.tup xs] => some (.int (xs.length : Nat))
  | [.pr xs] => some (.int (xs.length : Nat))
  | [.ll xs] => some (.int (xs.length : Nat))
  | [.dct xs] => some (.int (xs.length : Nat))
  | _ => none
theorem call_lenR {X : Cx} : CallR X (.builtin "len") (fun xs H Q => ∃ a kvs, xs = [V.ref a] ∧ Rd H a (.dK kvs) ∧ Q (.int (kvs.length : Nat)) H) := by
  intro pins s σ H xs us Q I r hw
  obtain ⟨a, kvs, rfl, ha, q⟩ := hw
  obtain ⟨u, rfl, ru⟩ := vals1 r
  cases ru
  exact d_len I ha fun t s' I' => ⟨.int (kvs.length : Nat), H, I', ⟨t, rfl⟩, q⟩
theorem call_len2 {X : Cx} : CallR X (.builtin "len") (fun xs H Q => (∃ x n, xs = [x] ∧ LenV X.K x H n ∧ Q (.int n) H) ∨ ∃ a kvs, xs = [V.ref a] ∧ Rd H a (.dK kvs) ∧ Q (.int (kvs.length : Nat)) H) := call_len.or call_lenR
theorem len_ok {Y : Yc} : ClOk Y (fun xs H Q => (∃ x n, xs = [x] ∧ LenV Y.K x H n ∧ Q (.int n) H) ∨ ∃ a kvs, xs = [V.ref a] ∧ Rd H a (.dK kvs) ∧ Q (.int (kvs.length : Nat)) H) lenD := by
  intro Hs H vs ds z Q e r hz q
  cases r with
  | nil => cases hz
  | cons r1 r2 =>
    cases r2 with
    | cons _ _ => cases r1 <;> cases hz
    | nil =>
      cases r1 with
      | str x =>
        have hz' : (if x.length ≤ 16777216 then some (D.int (x.length : Nat)) else none) = some z := hz
        by_cases hl : x.length ≤ 16777216
        · rw [if_pos hl] at hz'
          have ez := Option.some.inj hz'
          subst ez
          exact .inl ⟨_, x.length, rfl, ⟨by rw [sizeLine_eq]; exact hl, rfl⟩, q _ Hs H (.refl e) (.int _)⟩
        · rw [if_neg hl] at hz'
          cases hz'
      | @lst a xs ds ha hr =>
        have ez := Option.some.inj hz
        subst ez
        exact .inl ⟨_, _, rfl, .inl ⟨xs, SqL.of (e _ _ ha), rfl⟩, by rw [hr.length]; exact q _ Hs H (.refl e) (.int _)⟩
      | @ll a xs ds ha hr =>
        have ez := Option.some.inj hz
        subst ez
        exact .inl ⟨_, _, rfl, .inl ⟨xs, e.seq ha, rfl⟩, by rw [hr.length]; exact q _ Hs H (.refl e) (.int _)⟩
      | @tup a xs ds ha hr =>
        have ez := Option.some.inj hz
        subst ez
        exact .inl ⟨_, _, rfl, .inr ⟨xs, (ha.mono e).seq, rfl⟩, by rw [hr.length]; exact q _ Hs H (.refl e) (.int _)⟩
      | @pr a xs ds ha hr =>
        have ez := Option.some.inj hz
        subst ez
        exact .inl ⟨_, _, rfl, .inr ⟨xs, sqt_same e ha, rfl⟩, by rw [hr.length]; exact q _ Hs H (.refl e) (.int _)⟩
      | @dct a xs ds ha hr =>
        have ez := Option.some.inj hz
        subst ez
        exact .inr ⟨_, _, rfl, rd_same e ha, by rw [hr.length]; exact q _ Hs H (.refl e) (.int _)⟩
      | _ => cases hz
/-- a list of truths, of numbers, of texts -/
def blsD : List D → Option (List Bool)
  | [] => some []
  | .bl b :: r => (blsD r).map (b :: ·)
  | _ => none
def intsD : List D → Option (List Int)
  | [] => some []
  | .int b :: r => (intsD r).map (b :: ·)
  | _ => none
def strsD : List D → Option (List Str)
  | [] => some []
  | .str b :: r => (strsD r).map (b :: ·)
  | _ => none
theorem blsD_eq : ∀ {ds : List D} {bs : List Bool}, blsD ds = some bs → ds = bs.map .bl
  | [], bs, h => by
    have e := Option.some.inj h
    subst e
    rfl
  | d :: r, bs, h => by
    cases d with
    | bl b =>
      have h' : (blsD r).map (b :: ·) = some bs := h
      cases er : blsD r with
      | none => rw [er] at h'; cases h'
      | some rs =>
        rw [er] at h'
        have e := Option.some.inj h'
        subst e
        rw [blsD_eq er]
        rfl
    | _ => cases h
theorem intsD_eq : ∀ {ds : List D} {bs : List Int}, intsD ds = some bs → ds = bs.map .int
  | [], bs, h => by
    have e := Option.some.inj h
    subst e
    rfl
  | d :: r, bs, h => by
    cases d with
    | int b =>
      have h' : (intsD r).map (b :: ·) = some bs := h
      cases er : intsD r with
      | none => rw [er] at h'; cases h'
      | some rs =>
        rw [er] at h'
        have e := Option.some.inj h'
        subst e
        rw [intsD_eq er]
        rfl
    | _ => cases h
theorem strsD_eq : ∀ {ds : List D} {bs : List Str}, strsD ds = some bs → ds = bs.map .str
  | [], bs, h => by
    have e := Option.some.inj h
    subst e
    rfl
  | d :: r, bs, h => by
    cases d with
    | str b =>
      have h' : (strsD r).map (b :: ·) = some bs := h
      cases er : strsD r with
      | none => rw [er] at h'; cases h'
      | some rs =>
        rw [er] at h'
        have e := Option.some.inj h'
        subst e
        rw [strsD_eq er]
        rfl
    | _ => cases h
theorem blsD_map : ∀ bs : List Bool, blsD (bs.map .bl) = some bs
  | [] => rfl
  | b :: r => by
    show (blsD (r.map .bl)).map (b :: ·) = _
    rw [blsD_map r]
    rfl
theorem intsD_map : ∀ bs : List Int, intsD (bs.map .int) = some bs
  | [] => rfl
  | b :: r => by
    show (intsD (r.map .int)).map (b :: ·) = _
    rw [intsD_map r]
    rfl
theorem strsD_map : ∀ bs : List Str, strsD (bs.map .str) = some bs
  | [] => rfl
  | b :: r => by
    show (strsD (r.map .str)).map (b :: ·) = _
    rw [strsD_map r]
    rfl
def allD : List D → Option D
  | [.lst ds] => (blsD ds).map fun bs => .bl (bs.all id)
  | _ => none
def anyD : List D → Option D
  | [.lst ds] => (blsD ds).map fun bs => .bl (bs.any id)
  | _ => none
def sumD : List D → Option D
  | [.lst ds] => (intsD ds).map fun bs => .int bs.sum
  | _ => none
theorem all_ok {Y : Yc} : ClOk Y (rAll Y.K) allD := by
  intro Hs H vs ds z Q e r hz q
  cases r with
  | nil => cases hz
  | cons r1 r2 =>
    cases r2 with
    | cons _ _ => cases r1 <;> cases hz
    | nil =>
      cases r1 with
      | @lst a xs ds ha hr =>
        have hz' : (blsD ds).map (fun bs => D.bl (bs.all id)) = some z := hz
        cases eb : blsD ds with
        | none => rw [eb] at hz'; cases hz'
        | some bs =>
          rw [eb] at hz'
          have ez := Option.some.inj hz'
          subst ez
          have ed := blsD_eq eb
          subst ed
          have ex := hr.bls
          subst ex
          exact ⟨a, bs, rfl, SqL.of (e _ _ ha), q _ Hs H (.refl e) (.bl _)⟩
      | _ => cases hz
theorem any_ok {Y : Yc} : ClOk Y (rAny Y.K) anyD := by
  intro Hs H vs ds z Q e r hz q
  cases r with
  | nil => cases hz
  | cons r1 r2 =>
    cases r2 with
    | cons _ _ => cases r1 <;> cases hz
    | nil =>
      cases r1 with
      | @lst a xs ds ha hr =>
        have hz' : (blsD ds).map (fun bs => D.bl (bs.any id)) = some z := hz
        cases eb : blsD ds with
        | none => rw [eb] at hz'; cases hz'
        | some bs =>
          rw [eb] at hz'
          have ez := Option.some.inj hz'
          subst ez
          have ed := blsD_eq eb
          subst ed
          have ex := hr.bls
          subst ex
          exact ⟨a, bs, rfl, SqL.of (e _ _ ha), q _ Hs H (.refl e) (.bl _)⟩
      | _ => cases hz
theorem sum_ok {Y : Yc} : ClOk Y (rSum Y.K) sumD := by
  intro Hs H vs ds z Q e r hz q
  cases r with
  | nil => cases hz
  | cons r1 r2 =>
    cases r2 with
    | cons _ _ => cases r1 <;> cases hz
    | nil =>
      cases r1 with
      | @lst a xs ds ha hr =>
        have hz' : (intsD ds).map (fun bs => D.int bs.sum) = some z := hz
        cases eb : intsD ds with
        | none => rw [eb] at hz'; cases hz'
        | some bs =>
          rw [eb] at hz'
          have ez := Option.some.inj hz'
          subst ez
          have ed := intsD_eq eb
          subst ed
          have ex := hr.ints
          subst ex
          exact ⟨a, bs, rfl, SqL.of (e _ _ ha), q _ Hs H (.refl e) (.int _)⟩
      | _ => cases hz
/-- min(i, j), abs(i) -/
def min2D : List D → Option D
  | [.int i, .int j] => some (.int (if j < i then j else i))
  | _ => none
theorem min2_ok {Y : Yc} : ClOk Y (fun xs H Q => ∃ i j, xs = [.int i, .int j] ∧ Q (.int (if j < i then j else i)) H) min2D := by
  intro Hs H vs ds z Q e r hz q
  cases r with
  | nil => cases hz
  | cons r1 r2 =>
    cases r2 with
    | nil => cases r1 <;> cases hz
    | cons r2 r3 =>
      cases r3 with
      | cons _ _ => cases r1 <;> cases r2 <;> cases hz
      | nil =>
        cases r1 with
        | int i =>
          cases r2 with
          | int j =>
            have ez := Option.some.inj hz
            subst ez
            exact ⟨i, j, rfl, q _ Hs H (.refl e) (.int _)⟩
          | _ => cases hz
        | _ => cases r2 <;> cases hz
/-- tuple(xs) -/
def tupleD : List D → Option D
  | [.lst ds] => some (.tup ds)
  | [.tup ds] => some (.tup ds)
  | _ => none
def rTupleS (K : PySem.W.Frag) : List V → Hp → VK → Prop := fun xs H Q => (∃ p ys, xs = [.ref p] ∧ SqL K H p ys ∧ ∀ l o, H l = none → o.dict = none → Q (.ref l) (upd H l (.frz o (.tup ys)))) ∨ ∃ p ys, xs = [.ref p] ∧ SqT K H p ys ∧ Q (.ref p) H
theorem call_tupleS {X : Cx} : CallR X (.type "tuple") (rTupleS X.K) := by
  intro pins s σ H xs us Q I r hw
  rcases hw with ⟨p, ys, rfl, hq, q⟩ | ⟨p, ys, rfl, hq, q⟩
  · obtain ⟨u, rfl, rx⟩ := vals1 r
    cases rx
    obtain ⟨its, r', pl, hz⟩ := I.list hq
    have hlen := r'.length
    refine call_tuple_list pl.isList (fun h' kp => ?_) (by simp only [List.size_toArray] <;> omega)
    have I1 : Inv X pins σ H { s with heap := h' } := I.kept (t' := s.toks) kp
    have at1 : (h'.push { cls := .type "tuple", data := .seq its.toArray }).get? h'.objs.size = some { cls := .type "tuple", data := .seq its.toArray } := Heap.get?_push_size _ rfl
    have I2 : Inv X pins σ (upd H h'.objs.size (.frz { cls := .type "tuple", data := .seq its.toArray } (.tup ys))) { s with heap := h'.push { cls := .type "tuple", data := .seq its.toArray } } :=
      I1.laid (t' := s.toks) (fun _ _ e => Heap.get?_push_of_some _ e) (Nat.le_refl _) ⟨at1, hz, its, r', _, at1, rfl, _, rfl⟩
    exact ⟨.ref h'.objs.size, _, I2, rfl, q _ _ (I1.hok.fresh (Nat.le_refl _)) rfl⟩
  · exact call_tuple_of pins s σ H _ us Q I r ⟨p, ys, rfl, .inr ⟨hq, q⟩⟩
theorem tuple_ok {Y : Yc} : ClOk Y (rTupleS Y.K) tupleD := by
  intro Hs H vs ds z Q e r hz q
  cases r with
  | nil => cases hz
  | cons r1 r2 =>
    cases r2 with
    | cons _ _ => cases r1 <;> cases hz
    | nil =>
      cases r1 with
      | @lst a xs ds ha hr =>
        have ez := Option.some.inj hz
        subst ez
        refine .inl ⟨a, xs, rfl, SqL.of (e _ _ ha), fun l o hl ho => ?_⟩
        have gr := Grow.new (.frz o (.tup xs)) e hl
        exact q _ _ _ gr (.tup ⟨o, upd_same, ho⟩ (hr.mono gr.ss))
      | @tup a xs ds ha hr =>
        have ez := Option.some.inj hz
        subst ez
        exact .inr ⟨a, xs, rfl, (ha.mono e).seq, q _ Hs H (.refl e) (.tup ha hr)⟩
      | _ => cases hz
/-- list(x) of a list, a tuple, a dict -/
def listO : List D → Option OD
  | [.lst ds] => some (.L ds)
  | [.ll ds] => some (.L ds)
  | [.tup ds] => some (.L ds)
  | [.dct kvs] => some (.L (kvs.map fun kv => kD kv.1))
  | _ => none
theorem call_listR {X : Cx} (hc : X.calm = true) : CallR X (.type "list") (fun xs H Q => ∃ p kvs, xs = [.ref p] ∧ Rd H p (.dK kvs) ∧ ∀ q, H q = none → Q (.ref q) (upd H q (.lst (kvs.map fun kv => kV kv.1)))) := by
  intro pins s σ H xs us Q I r hw
  obtain ⟨p, kvs, e, hk, q⟩ := hw
  subst e
  obtain ⟨u, eu, rx⟩ := vals1 r
  subst eu
  obtain rfl : u = Value.ref p := rx
  obtain ⟨z, lo, vs, rk, hd⟩ := dk_rd I.hok hk
  obtain ⟨ep, hat⟩ := hd.dictAt
  have hl : kvs.length = vs.length := Paired.length rk
  refine PySem.W.kdl_call (PySem.W.kdl_dict (knd := mixKind X.prog X.w) (kvs := vs) (ep := ep) lo) (I.ok.hd hc) hat (hl ▸ z) fun h' tk acc' c' hkeep hS hacc => ?_
  refine ⟨.ref s.heap.objs.size, _, I.laid hkeep (Nat.le_refl _) (o := .lst (kvs.map fun kv => kV kv.1)) ⟨?_, acc'.toList, c', ?_, ?_⟩, rfl, q _ (I.hok.fresh (Nat.le_refl _))⟩
  · rw [List.length_map]
    exact z
  · have el : acc'.toList.length = acc'.size := by simp
    refine vals_of_at (by rw [List.length_map, el, hacc.1, hl]) fun j x w h1 h2 => ?_
    obtain ⟨k, y, hky, hi⟩ := hacc.2 j w (by rw [← Array.getElem?_toList]; exact h2)
    have e1 : (kvs.map (·.1))[j]? = some k := by
      rw [KV.keys rk, List.getElem?_map, hky] <;> rfl
    rw [List.getElem?_map] at h1 e1
    cases ej : kvs[j]? with
    | none => rw [ej] at e1; cases e1
    | some kv =>
      rw [ej] at e1 h1
      have e1' : kv.1 = k := Option.some.inj e1
      have h1' : kV kv.1 = x := Option.some.inj h1
      subst h1'
      rw [e1']
      exact keyIs_rel hi
  · rw [Array.toArray_toList]
    exact hS
theorem RepK.keys {Y : Yc} {H : Hp} : ∀ {vs : List (Key × V)} {ds : List (Key × D)}, RepK Y H vs ds → RepL Y H (vs.map fun kv => kV kv.1) (ds.map fun kv => kD kv.1)
  | _, _, .nil => .nil
  | _, _, .cons h1 h2 => .cons (kD_rep _) (RepK.keys h2)
theorem call_listA {X : Cx} (hc : X.calm = true) : CallR X (.type "list") (fun xs H Q => (∃ p ys, xs = [.ref p] ∧ (SqL X.K H p ys ∨ SqT X.K H p ys) ∧ ∀ l, H l = none → Q (.ref l) (upd H l (.lst ys))) ∨ ∃ p kvs, xs = [.ref p] ∧ Rd H p (.dK kvs) ∧ ∀ q, H q = none → Q (.ref q) (upd H q (.lst (kvs.map fun kv => kV kv.1)))) := call_list_of.or (call_listR hc)
theorem list_ok {Y : Yc} : NwOk Y (fun xs H Q => (∃ p ys, xs = [.ref p] ∧ (SqL Y.K H p ys ∨ SqT Y.K H p ys) ∧ ∀ l, H l = none → Q (.ref l) (upd H l (.lst ys))) ∨ ∃ p kvs, xs = [.ref p] ∧ Rd H p (.dK kvs) ∧ ∀ q, H q = none → Q (.ref q) (upd H q (.lst (kvs.map fun kv => kV kv.1)))) listO := by
  intro Hs H vs ds z Q e r hz q
  cases r with
  | nil => cases hz
  | cons r1 r2 =>
    cases r2 with
    | cons _ _ => cases r1 <;> cases hz
    | nil =>
      cases r1 with
      | @lst a xs ds ha hr =>
        have ez := Option.some.inj hz
        subst ez
        exact .inl ⟨a, xs, rfl, .inl (SqL.of (e _ _ ha)), fun l hl => q l _ hl (.L hr)⟩
      | @ll a xs ds ha hr =>
        have ez := Option.some.inj hz
        subst ez
        exact .inl ⟨a, xs, rfl, .inl (e.seq ha), fun l hl => q l _ hl (.L hr)⟩
      | @tup a xs ds ha hr =>
        have ez := Option.some.inj hz
        subst ez
        exact .inl ⟨a, xs, rfl, .inr (ha.mono e).seq, fun l hl => q l _ hl (.L hr)⟩
      | @dct a xs ds ha hr =>
        have ez := Option.some.inj hz
        subst ez
        exact .inr ⟨a, xs, rfl, rd_same e ha, fun l hl => q l _ hl (.L hr.keys)⟩
      | _ => cases hz
end VL

namespace VL
open PySem PySem.Spec PyProof.Rows L2

/-! ### dict(..) -/
/-- the items of a list of pairs: keys and values -/
def pairsD : List D → Option (List (Key × D))
  | [] => some []
  | .tup [k, v] :: r => (match keyD k, pairsD r with
    | some k, some rs => some ((k, v) :: rs)
    | _, _ => none)
  | _ => none
def mergeD (kvs more : List (Key × D)) : List (Key × D) := more.foldl (fun acc kv => putD acc kv.1 kv.2) kvs
theorem RepK.any {Y : Yc} {H : Hp} (k : Key) : ∀ {vs : List (Key × V)} {ds : List (Key × D)}, RepK Y H vs ds → (vs.any fun kv => decide (kv.1 = k)) = ds.any fun kv => decide (kv.1 = k)
  | _, _, .nil => rfl
  | _, _, .cons h1 h2 => by
    rw [List.any_cons, List.any_cons, RepK.any k h2]
theorem RepK.repl {Y : Yc} {H : Hp} (k : Key) {v : V} {d : D} (r : Rep Y H v d) : ∀ {vs : List (Key × V)} {ds : List (Key × D)}, RepK Y H vs ds → RepK Y H (vs.map fun kv => if kv.1 = k then (kv.1, v) else kv) (ds.map fun kv => if kv.1 = k then (kv.1, d) else kv)
  | _, _, .nil => .nil
  | _, _, .cons (k := k') (v := v') (d := d') h1 h2 => by
    rw [List.map_cons, List.map_cons]
    by_cases hk : k' = k
    · rw [if_pos (show (k', v').1 = k from hk), if_pos (show (k', d').1 = k from hk)]
      exact .cons r (RepK.repl k r h2)
    · rw [if_neg (show ¬ (k', v').1 = k from hk), if_neg (show ¬ (k', d').1 = k from hk)]
      exact .cons h1 (RepK.repl k r h2)
theorem RepK.snoc {Y : Yc} {H : Hp} {k : Key} {v : V} {d : D} (r : Rep Y H v d) : ∀ {vs : List (Key × V)} {ds : List (Key × D)}, RepK Y H vs ds → RepK Y H (vs ++ [(k, v)]) (ds ++ [(k, d)])
  | _, _, .nil => .cons r .nil
  | _, _, .cons h1 h2 => .cons h1 (RepK.snoc r h2)
theorem RepK.put {Y : Yc} {H : Hp} {vs : List (Key × V)} {ds : List (Key × D)} {k : Key} {v : V} {d : D} (r : Rep Y H v d) (h : RepK Y H vs ds) : RepK Y H (putK vs k v) (putD ds k d) := by
  unfold putK putD
  rw [RepK.any k h]
  by_cases c : (ds.any fun kv => decide (kv.1 = k)) = true
  · rw [if_pos c, if_pos c]
    exact h.repl k r
  · rw [if_neg c, if_neg c]
    exact h.snoc r
theorem RepK.merge {Y : Yc} {H : Hp} : ∀ {ms : List (Key × V)} {es : List (Key × D)}, RepK Y H ms es → ∀ {vs : List (Key × V)} {ds : List (Key × D)}, RepK Y H vs ds → RepK Y H (mergeK vs ms) (mergeD ds es)
  | _, _, .nil, _, _, h => h
  | _, _, .cons h1 h2, _, _, h => RepK.merge h2 (h.put h1)
/-- a list of known pairs -/
theorem pairs_rep {Y : Yc} {H : Hp} : ∀ {ds : List D} {xs : List V} {es : List (Key × D)}, RepL Y H xs ds → pairsD ds = some es →
    ∃ (ps : List Addr) (kvs : List (Key × V)), xs = ps.map V.ref ∧ Paired (fun p kv => SqT Y.K H p [kV kv.1, kv.2]) ps kvs ∧ RepK Y H kvs es
  | [], _, es, r, h => by
    cases r
    have e := Option.some.inj h
    subst e
    exact ⟨[], [], rfl, .nil, .nil⟩
  | d :: ds, _, es, r, h => by
    cases r with
    | @cons v vs _ _ r1 r2 =>
      cases r1 with
      | @tup a xs ts ha hr =>
        cases hr with
        | nil => cases h
        | cons q1 q2 =>
          cases q2 with
          | nil => cases h
          | cons q2 q3 =>
            cases q3 with
            | cons _ _ => cases h
            | nil =>
              rename_i vk dk vv dv
              have h' : (match keyD dk, pairsD ds with
                | some k, some rs => some ((k, dv) :: rs)
                | _, _ => none) = some es := h
              cases ek : keyD dk with
              | none => rw [ek] at h'; cases h'
              | some k =>
                cases er : pairsD ds with
                | none => rw [ek, er] at h'; cases h'
                | some rs =>
                  rw [ek, er] at h'
                  have e := Option.some.inj h'
                  subst e
                  have ev := keyD_ok q1 ek
                  subst ev
                  obtain ⟨ps, kvs, e1, e2, e3⟩ := pairs_rep r2 er
                  subst e1
                  exact ⟨a :: ps, (k, vv) :: kvs, rfl, .cons ha.seq e2, .cons q2 e3⟩
      | _ => cases h
theorem pairs_at {X : Cx} {pins : List (Addr × Obj)} {σ : L2.St} {H : Hp} {s : Shared} (I : Inv X pins σ H s) : ∀ {ps : List Addr} {kvs : List (Key × V)}, Paired (fun p kv => SqT X.K H p [kV kv.1, kv.2]) ps kvs →
    ∃ (prs : List (Key × Value)) (qs : List (Value × Value)), KV kvs prs ∧ prs.length = ps.length ∧ qs.length = ps.length ∧
      ∀ (j : Nat) (k v : Value), qs[j]? = some (k, v) → ∃ b key, ps[j]? = some b ∧ IsTup s.heap b #[k, v] ∧ prs[j]? = some (key, v) ∧ keyIs key k = true
  | _, _, .nil => ⟨[], [], .nil, rfl, rfl, fun j k v e => by simp at e⟩
  | _, _, .cons (a := p) (b := kv) h t => by
    obtain ⟨prs, qs, r, hl, hl2, hp⟩ := pairs_at I t
    obtain ⟨its, rv, ht, _⟩ := I.tuple h
    obtain ⟨u, w, ei, ru, rw2⟩ := vals2 rv
    subst ei
    refine ⟨(kv.1, w) :: prs, (u, w) :: qs, .cons ⟨rfl, rw2⟩ r, by rw [List.length_cons, List.length_cons, hl], by rw [List.length_cons, List.length_cons, hl2], fun j k v e => ?_⟩
    cases j with
    | zero =>
      have e' := Option.some.inj e
      cases e'
      exact ⟨p, kv.1, rfl, ht, rfl, kV_is (P := X.prog) (w := X.w) ru⟩
    | succ j => exact hp j k v e
def rDictS (K : PySem.W.Frag) : List V → Hp → VK → Prop := fun xs H Q => ∃ (a : Addr) (ps : List Addr) (kvs : List (Key × V)), xs = [.ref a] ∧ TupS H a (ps.map V.ref) ∧ Paired (fun p kv => SqT K H p [kV kv.1, kv.2]) ps kvs ∧
    ∀ p, H p = none → Q (.ref p) (upd H p (.dK (mergeK [] kvs)))
/-- dict(t) of a tuple of pairs -/
theorem call_dictS {X : Cx} (hcalm : X.calm = true) : CallR X (.type "dict") (rDictS X.K) := by
  intro pins s σ H xs us Q I r hw
  obtain ⟨a, ps, kvs, ex, ⟨o, hq, hd⟩, hp, q⟩ := hw
  subst ex
  obtain ⟨u, eu, rx⟩ := vals1 r
  subst eu
  cases rx
  obtain ⟨ho, hz, its, rv, ht⟩ := (show ObjOk X.prog X.w H s.heap a (.frz o (.tup (ps.map V.ref))) from I.hok a _ hq)
  obtain ⟨o', ho', hc, n, hdat⟩ := ht
  rw [ho] at ho'
  have eo := Option.some.inj ho'
  subst eo
  have ei := refs_at rv
  subst ei
  rw [List.length_map] at hz
  obtain ⟨prs, qs, rel, hl, hl2, hpr⟩ := pairs_at I hp
  have hlen : (mergeK [] kvs).length ≤ sizeLine := by
    refine Nat.le_trans (length_mergeK kvs []) ?_
    rw [List.length_nil, Nat.zero_add, rel.length, hl]
    exact hz
  have hm : (s.heap.objs.size == sysModules) = false := beq_eq_false_iff_ne.mpr (Nat.ne_of_gt I.big)
  have tsOf : ∀ {j : Nat} {b : Addr}, ps[j]? = some b → ps.getD j 0 = b := fun {j b} e => by simp [List.getD, e]
  refine PySem.call_dict_pairs (knd := mixKind X.prog X.w) (kvs := prs) (PairArg.tuple (prog := X.prog) (w := X.w) a (ps.map Value.ref).toArray (fun j => ps.getD j 0) qs) (I.ok.hd hcalm) ⟨⟨o, n, ho, hc, hd, hdat⟩, by simp [hl2], fun j k v e => ?_⟩ ⟨by rw [hl, hl2], fun i k v e => ?_⟩ (by rw [hl2]; exact hz) fun h' tk hd' hk => ?_
  · obtain ⟨b, key, e1, e2, e3, e4⟩ := hpr j k v e
    show (ps.map Value.ref).toArray[j]? = some (.ref (ps.getD j 0)) ∧ PairAt s.heap (ps.getD j 0) k v
    rw [tsOf e1]
    exact ⟨by simp [e1], .inl e2⟩
  · obtain ⟨b, key, e1, e2, e3, e4⟩ := hpr i k v e
    exact ⟨key, e3, e4⟩
  · exact ⟨.ref s.heap.objs.size, _, I.laid (t' := tk) (o := .dK (mergeK [] kvs)) (fun b o e => hk b o (by simp) e) (Nat.le_refl _) ⟨hlen, hm, merged [] prs, KV.merge rel .nil, hd'⟩, rfl, q _ (I.hok.fresh (Nat.le_refl _))⟩
def rDictC : List V → Hp → VK → Prop := fun xs H Q => ∃ a kvs, xs = [.ref a] ∧ Rd H a (.dK kvs) ∧ ∀ p, H p = none → Q (.ref p) (upd H p (.dK kvs))
theorem call_dictC {X : Cx} : CallR X (.type "dict") rDictC := by
  intro pins s σ H xs us Q I r hw
  obtain ⟨a, kvs, rfl, ha, q⟩ := hw
  obtain ⟨u, rfl, ru⟩ := vals1 r
  cases ru
  exact d_copyOf I ha fun p s' hp I' => ⟨.ref p, _, I', rfl, q p hp⟩
def dictO : List D → Option OD
  | [.tup ds] => (pairsD ds).map fun es => .K (mergeD [] es)
  | [.lst ds] => (pairsD ds).map fun es => .K (mergeD [] es)
  | [.dct kvs] => some (.K kvs)
  | _ => none
def rDictL (K : PySem.W.Frag) : List V → Hp → VK → Prop := fun xs H Q => ∃ (a : Addr) (ps : List Addr) (kvs : List (Key × V)), xs = [.ref a] ∧ SqL K H a (ps.map V.ref) ∧ Paired (fun p kv => SqT K H p [kV kv.1, kv.2]) ps kvs ∧
    ∀ p, H p = none → Q (.ref p) (upd H p (.dK (mergeK [] kvs)))
theorem call_dictA {X : Cx} (hc : X.calm = true) : CallR X (.type "dict") (fun xs H Q => rDictS X.K xs H Q ∨ (rDictC xs H Q ∨ rDictL X.K xs H Q)) := (call_dictS hc).or (call_dictC.or (call_dictP hc))
theorem sqt_pairs {K : PySem.W.Frag} {H H' : Hp} (e : Same H H') : ∀ {ps : List Addr} {kvs : List (Key × V)}, Paired (fun p kv => SqT K H p [kV kv.1, kv.2]) ps kvs → Paired (fun p kv => SqT K H' p [kV kv.1, kv.2]) ps kvs
  | _, _, .nil => .nil
  | _, _, .cons h t => .cons (sqt_same e h) (sqt_pairs e t)
theorem dict_ok {Y : Yc} : NwOk Y (fun xs H Q => rDictS Y.K xs H Q ∨ (rDictC xs H Q ∨ rDictL Y.K xs H Q)) dictO := by
  intro Hs H vs ds z Q e r hz q
  cases r with
  | nil => cases hz
  | cons r1 r2 =>
    cases r2 with
    | cons _ _ => cases r1 <;> cases hz
    | nil =>
      cases r1 with
      | @tup a xs ds ha hr =>
        have hz' : (pairsD ds).map (fun es => OD.K (mergeD [] es)) = some z := hz
        cases ep : pairsD ds with
        | none => rw [ep] at hz'; cases hz'
        | some es =>
          rw [ep] at hz'
          have ez := Option.some.inj hz'
          subst ez
          obtain ⟨ps, kvs, e1, e2, e3⟩ := pairs_rep hr ep
          subst e1
          exact .inl ⟨a, ps, kvs, rfl, ha.mono e, sqt_pairs e e2, fun p hp => q p _ hp (.K (e3.merge .nil))⟩
      | @lst a xs ds ha hr =>
        have hz' : (pairsD ds).map (fun es => OD.K (mergeD [] es)) = some z := hz
        cases ep : pairsD ds with
        | none => rw [ep] at hz'; cases hz'
        | some es =>
          rw [ep] at hz'
          have ez := Option.some.inj hz'
          subst ez
          obtain ⟨ps, kvs, e1, e2, e3⟩ := pairs_rep hr ep
          subst e1
          exact .inr (.inr ⟨a, ps, kvs, rfl, SqL.of (e _ _ ha), sqt_pairs e e2, fun p hp => q p _ hp (.K (e3.merge .nil))⟩)
      | @dct a xs ds ha hr =>
        have ez := Option.some.inj hz
        subst ez
        exact .inr (.inl ⟨a, xs, rfl, rd_same e ha, fun p hp => q p _ hp (.K hr)⟩)
      | _ => cases hz

/-! ### sorted texts -/
def leS (x y : Str) : Bool := !decide (y.cps.toList < x.cps.toList)
def sortS (xs : List Str) : List Str := xs.mergeSort leS
theorem ltC_irr : ∀ l : List Nat, ¬ l < l := fun l => List.lt_irrefl l
theorem leS_tot (a b : Str) : (leS a b || leS b a) = true := by
  unfold leS
  by_cases h : b.cps.toList < a.cps.toList
  · have h2 : ¬ a.cps.toList < b.cps.toList := fun q => List.lt_irrefl _ (List.lt_trans h q)
    simp [h2]
  · simp [h]
theorem leS_trans (a b c : Str) (h1 : leS a b = true) (h2 : leS b c = true) : leS a c = true := by
  unfold leS at *
  simp only [Bool.not_eq_true', decide_eq_false_iff_not] at *
  exact List.le_trans (List.not_lt.mp h1) (List.not_lt.mp h2) |> fun q => List.not_lt.mpr q
theorem leS_anti (a b : Str) (h1 : leS a b = true) (h2 : leS b a = true) : a = b := by
  unfold leS at *
  simp only [Bool.not_eq_true', decide_eq_false_iff_not] at *
  have e : a.cps.toList = b.cps.toList := List.le_antisymm (List.not_lt.mp h1) (List.not_lt.mp h2)
  cases a
  cases b
  congr
  exact Array.toList_inj.mp e
theorem perm_sorted : ∀ {xs ys : List Str}, xs.Perm ys → xs.Pairwise (fun a b => leS a b = true) → ys.Pairwise (fun a b => leS a b = true) → xs = ys := fun p h1 h2 =>
  p.eq_of_pairwise (fun a b _ _ q1 q2 => leS_anti a b q1 q2) h1 h2
theorem sortS_is {xs ys : List Str} (p : ys.Perm xs) (h : ys.Pairwise fun a b => leS a b = true) : ys = sortS xs :=
  perm_sorted (p.trans (List.mergeSort_perm xs leS).symm) h (List.pairwise_mergeSort leS_trans leS_tot xs)
end VL

namespace VL
open PySem PySem.Spec PyProof.Rows L2

/-! ### sorted(texts), fewer than 64 -/
theorem risingS_pw : ∀ (l : List Str) (p : Str), risingS p l = true → (p :: l).Pairwise fun a b => leS a b = true
  | [], p, _ => List.pairwise_singleton _ _
  | x :: r, p, h => by
    have h' : (!ltCps x.cps.toList p.cps.toList && risingS x r) = true := h
    rw [Bool.and_eq_true] at h'
    have ih := risingS_pw r x h'.2
    have h1 : leS p x = true := by
      unfold leS
      rw [← ltCps_eq]
      exact h'.1
    refine List.pairwise_cons.mpr ⟨fun b hb => ?_, ih⟩
    rcases List.mem_cons.mp hb with e | e
    · rw [e]
      exact h1
    · exact leS_trans _ _ _ h1 ((List.pairwise_cons.mp ih).1 b e)
theorem sortedS_pw {l : List Str} (h : PyProof.Rows.sortedS l = true) : l.Pairwise fun a b => leS a b = true := by
  cases l with
  | nil => exact List.Pairwise.nil
  | cons x r => exact risingS_pw r x h
def sortedO : List D → Option OD
  | [.lst ds] => (strsD ds).bind fun xs => if xs.length < 64 then some (.L ((sortS xs).map .str)) else none
  | _ => none
theorem sorted_ok {Y : Yc} : NwOk Y (rSortedS Y.K) sortedO := by
  intro Hs H vs ds z Q e r hz q
  cases r with
  | nil => cases hz
  | cons r1 r2 =>
    cases r2 with
    | cons _ _ => cases r1 <;> cases hz
    | nil =>
      cases r1 with
      | @lst a xs ds ha hr =>
        have hz' : ((strsD ds).bind fun xs => if xs.length < 64 then some (OD.L ((sortS xs).map .str)) else none) = some z := hz
        cases eb : strsD ds with
        | none => rw [eb] at hz'; cases hz'
        | some bs =>
          rw [eb] at hz'
          have hz2 : (if bs.length < 64 then some (OD.L ((sortS bs).map .str)) else none) = some z := hz'
          by_cases hl : bs.length < 64
          · rw [if_pos hl] at hz2
            have ez := Option.some.inj hz2
            subst ez
            have ed := strsD_eq eb
            subst ed
            have ex := hr.strs
            subst ex
            refine ⟨a, bs, rfl, SqL.of (e _ _ ha), hl, fun ys p hp hs hn => q p _ hn ?_⟩
            rw [sortS_is hp (sortedS_pw hs)]
            exact .L (RepL.of_strs _)
          · rw [if_neg hl] at hz2
            cases hz2
      | _ => cases hz

/-! ### isinstance -/
def tyD : D → Option String
  | .non => some "NoneType"
  | .bl _ => some "bool"
  | .int _ => some "int"
  | .str _ => some "str"
  | .tup _ => some "tuple"
  | .lst _ => some "list"
  | .ll _ => some "list"
  | .dct _ => some "dict"
  | _ => none
theorem tyD_ok {Y : Yc} {H : Hp} {v : V} {d : D} {t : String} (r : Rep Y H v d) (h : tyD d = some t) : TyX Y.K H v (.type t) := by
  cases r with
  | non => cases h; exact .base .non
  | bl b => cases h; exact .base (.bl b)
  | int i => cases h; exact .base (.int i)
  | str x => cases h; exact .base (.str x)
  | lst hs hr =>
    cases h
    exact .base (.lst hs)
  | ll hs hr =>
    cases h
    rcases hs with (q | ⟨o, q⟩) | ⟨o, its, n, q, c, _⟩
    · exact .base (.lst q)
    · exact .base (.frz q)
    · exact .kList q c
  | tup hs hr =>
    cases h
    obtain ⟨o, q, _⟩ := hs
    exact .fTuple q
  | pr _ _ => cases h
  | dct hs hr =>
    cases h
    rcases hs with q | ⟨o, q⟩
    · exact .base (.dK q)
    · exact .fDict q
  | atm _ => cases h
  | exc _ => cases h
def isiD (d : D) (T : String) : Option Bool := (tyD d).bind fun t => kitB t T
def isiA (d : D) : List String → Option Bool
  | [] => some false
  | T :: Ts => match isiD d T with
    | some true => some true
    | some false => isiA d Ts
    | none => none
def e_isi (T : String) (f : EM D) : EM D := fun ρ => (f ρ).bind fun d => o2 ((isiD d T).map .bl)
def e_isiA (Ts : List String) (f : EM D) : EM D := fun ρ => (f ρ).bind fun d => o2 ((isiA d Ts).map .bl)
theorem isiD_one {Y : Yc} {H : Hp} {v : V} {d : D} {T : String} {b : Bool} (r : Rep Y H v d) (h : isiD d T = some b) : ∃ t, TyX Y.K H v (.type t) ∧ tyD d = some t ∧ PySem.W.kitOne Y.K (.type t) (.type T) = some b := by
  unfold isiD at h
  cases e : tyD d with
  | none => rw [e] at h; cases h
  | some t =>
    rw [e] at h
    exact ⟨t, tyD_ok r e, rfl, kit_ty h⟩
theorem isiA_any {K : PySem.W.Frag} {d : D} {t : String} (e : tyD d = some t) : ∀ {Ts : List String} {b : Bool}, isiA d Ts = some b → PySem.W.kitAny K (.type t) (Ts.map Value.type) = some b
  | [], b, h => by
    cases h
    exact kitAny_nil
  | T :: Ts, b, h => by
    have h' : (match isiD d T with
      | some true => some true
      | some false => isiA d Ts
      | none => none) = some b := h
    cases ei : isiD d T with
    | none => rw [ei] at h'; cases h'
    | some c =>
      have ek : PySem.W.kitOne K (.type t) (.type T) = some c := by
        unfold isiD at ei
        rw [e] at ei
        exact kit_ty ei
      rw [ei] at h'
      cases c with
      | true => exact kitAny_cons ek (fun z => nomatch z) fun _ => (Option.some.inj h').symm
      | false => exact kitAny_cons ek (fun _ => isiA_any e h') fun z => nomatch z
section
variable {X : Cx} {y : Yo} {W : WX} {a : Expr} {f : EM D} {p0 p1 p2 pos : Pos}
theorem ve_isi {T : String} {x : Str} (hm : X.mg "isinstance" = none) (hb : bootBuiltins "isinstance" = some (.builtin "isinstance")) (hx : X.mg x = none) (hv : bootBuiltins x = some (.type T)) (ha : VE X y W a f) (hg : Gl X "isinstance" := by rfl) (hgx : Gl X x := by rfl) (hn : x ≠ "__name__" := by decide) (hdb : (x == ("__debug__" : Str)) = false := by decide)
    (he : starEach [a, .Name x p1] X.env = (false, eval a X.env) :: starEach [.Name x p1] X.env := by rfl) (he2 : starEach [.Name x p1] X.env = (false, eval (.Name x p1) X.env) :: starEach [] X.env := by rfl)
    (hpl : (backTo pos (starEach [.Name x p1] X.env)).any (·.1) = false := by rfl) : VE X y W (.Call (.Name "isinstance" p0) [a, .Name x p1] [] pos) (e_isi T f) := by
  refine pe_weak (pe_callB call_isi hg hm hb (pa_cons ha (pa_cons (pe_bltn (v := .ty T) hgx hx hv rfl hn hdb) pa_nil he2) he) (by decide) (by decide) he hpl) fun σ H Q ⟨E0, tm, ρ, Hs, k, p⟩ => ?_
  refine tE.bind k p fun d ρ1 v Hs1 H1 k1 s1 s1' r1 p1 => ?_
  unfold o2 at p1
  cases e : isiD d T with
  | none => rw [e] at p1; exact p1.elim
  | some b =>
    rw [e] at p1
    obtain ⟨t, q1, q2, q3⟩ := isiD_one (r1.mono k1.sh) e
    exact ⟨v, .ty T, .type t, .type T, b, rfl, .ty T, q1, q3, PostR.fin p1 k1 (.bl b)⟩
theorem ve_isi2 {T U : String} {x z : Str} {kk : Nat} {p3 : Pos} (hm : X.mg "isinstance" = none) (hb : bootBuiltins "isinstance" = some (.builtin "isinstance")) (hx : X.mg x = none) (hv : bootBuiltins x = some (.type T)) (hx2 : X.mg z = none) (hv2 : bootBuiltins z = some (.type U)) (ha : VE X y W a f)
    (hg : Gl X "isinstance" := by rfl) (hgx : Gl X x := by rfl) (hgz : Gl X z := by rfl) (hn : x ≠ "__name__" := by decide) (hdb : (x == ("__debug__" : Str)) = false := by decide) (hn2 : z ≠ "__name__" := by decide) (hdb2 : (z == ("__debug__" : Str)) = false := by decide)
    (he : starEach [a, .Tuple [.Name x p1, .Name z p2] kk p3] X.env = (false, eval a X.env) :: starEach [.Tuple [.Name x p1, .Name z p2] kk p3] X.env := by rfl)
    (he2 : starEach [.Tuple [.Name x p1, .Name z p2] kk p3] X.env = (false, eval (.Tuple [.Name x p1, .Name z p2] kk p3) X.env) :: starEach [] X.env := by rfl)
    (he3 : starEach [.Name x p1, .Name z p2] X.env = (false, eval (.Name x p1) X.env) :: starEach [.Name z p2] X.env := by rfl) (he4 : starEach [.Name z p2] X.env = (false, eval (.Name z p2) X.env) :: starEach [] X.env := by rfl)
    (hpl : (backTo pos (starEach [.Tuple [.Name x p1, .Name z p2] kk p3] X.env)).any (·.1) = false := by rfl) : VE X y W (.Call (.Name "isinstance" p0) [a, .Tuple [.Name x p1, .Name z p2] kk p3] [] pos) (e_isiA [T, U] f) := by
  refine pe_weak (pe_callB call_isiT hg hm hb (pa_cons ha (pa_cons (pe_tup (pa_cons (pe_bltn (v := .ty T) hgx hx hv rfl hn hdb) (pa_cons (pe_bltn (v := .ty U) hgz hx2 hv2 rfl hn2 hdb2) pa_nil he4) he3)) pa_nil he2) he) (by decide) (by decide) he hpl) fun σ H Q ⟨E0, tm, ρ, Hs, k, p⟩ => ?_
  refine tE.bind k p fun d ρ1 v Hs1 H1 k1 s1 s1' r1 p1 => ?_
  unfold o2 at p1
  refine ⟨by show 2 ≤ sizeLine; decide, fun tp htp => ?_⟩
  have gr := Grow.heap k1.sh (same_new (o := .tup [.ty T, .ty U]) htp)
  cases e : isiA d [T, U] with
  | none => rw [e] at p1; exact p1.elim
  | some b =>
    rw [e] at p1
    cases et : tyD d with
    | none =>
      have : isiA d [T, U] = none := by
        unfold isiA isiD
        rw [et]
        rfl
      rw [this] at e
      cases e
    | some t =>
      refine ⟨v, tp, [.ty T, .ty U], .type t, [.type T, .type U], b, rfl, upd_same, .cons (.ty T) (.cons (.ty U) .nil), tyD_ok ((r1.mono k1.sh).mono (same_new htp)) et, isiA_any et e, ?_⟩
      exact PostR.finG p1 k1 gr (.bl b)
end

/-! ### join -/
def joinD (a : Str) (w : D) : Option D := match w with
  | .lst ds => (strsD ds).bind fun ys => if (ys.map (·.length)).sum + ys.length * a.length ≤ 16777216 then some (.str (Txt.join a ys)) else none
  | _ => none
/-- a text's method of one argument -/
def e_sm (h : Str → D → Option D) (f g : EM D) : EM D := fun ρ => (f ρ).bind fun x ρ1 => match x with
  | .str a => (g ρ1).bind fun w => o2 (h a w)
  | _ => .bad
section
variable {X : Cx} {y : Yo} {W : WX} {o e c : Expr} {f g h : EM D} {pos apos : Pos}
theorem ve_join (ho : VE X y W o f) (he : VE X y W e g) (hs : starEach [e] X.env = [(false, eval e X.env)] := by rfl) (hbase : attributeBase o "join" X.env (eval o X.env) = eval o X.env := by rfl) (hline : (apos.endLine == pos.line) = true := by rfl) :
    VE X y W (.Call (.Attribute o "join" apos) [e] [] pos) (e_sm joinD f g) := by
  refine pe_weak (pe_join ho he hs hbase hline) fun σ H Q ⟨E0, tm, ρ, Hs, k, p⟩ => ?_
  refine tE.bind k p fun x ρ1 v1 Hs1 H1 k1 s1 s1' r1 p1 => ?_
  cases r1 with
  | str a =>
    refine ⟨⟨a, rfl⟩, ?_⟩
    refine tE.bind k1 p1 fun w ρ2 u Hs2 H2 k2 s2 s2' r2 p2 => ?_
    unfold o2 at p2
    cases r2 with
    | @lst b xs ds hb hr =>
      have e0 : joinD a (.lst ds) = ((strsD ds).bind fun ys => if (ys.map (·.length)).sum + ys.length * a.length ≤ 16777216 then some (D.str (Txt.join a ys)) else none) := rfl
      cases es : strsD ds with
      | none =>
        rw [e0, es] at p2
        exact p2.elim
      | some ys =>
        rw [es] at e0
        have e1 : joinD a (.lst ds) = (if (ys.map (·.length)).sum + ys.length * a.length ≤ 16777216 then some (D.str (Txt.join a ys)) else none) := e0
        by_cases hl : (ys.map (·.length)).sum + ys.length * a.length ≤ 16777216
        · rw [if_pos hl] at e1
          rw [e1] at p2
          have ed := strsD_eq es
          subst ed
          have ex := hr.strs
          subst ex
          exact ⟨a, b, ys, rfl, rfl, .inl (SqL.of (k2.sh _ _ hb)), hl, PostR.fin p2 k2 (.str _)⟩
        · rw [if_neg hl] at e1
          rw [e1] at p2
          exact p2.elim
    | _ => exact p2.elim
  | _ => exact p1.elim

/-! ### d.get(k, x); d[k] = v; a name's own dict -/
def e_get (f g h : EM D) : EM D := fun ρ => (f ρ).bind fun x ρ1 => match x with
  | .dct kvs => (g ρ1).bind fun w ρ2 => (h ρ2).bind fun z => o2 ((keyD w).map fun k => (valK kvs k).getD z)
  | _ => .bad
theorem ve_get {j : Nat} (v : Cv X W j) (ho : VE X y W o f) (he : VE X y W e g) (hc : VE X y W c h) (m : M2 X o "get" apos e c pos) : VE X y W (.Call (.Attribute o "get" apos) [e, c] [] pos) (e_get f g h) := by
  refine pe_weak (pe_dget2 (hu_of v.room) ho he hc m) fun σ H Q ⟨E0, tm, ρ, Hs, k, p⟩ => ?_
  refine tE.bind k p fun x ρ1 v1 Hs1 H1 k1 s1 s1' r1 p1 => ?_
  cases r1 with
  | @dct a xs kvs ha hr =>
    refine ⟨a, rfl, .inl ⟨xs, rd_same k1.sh ha⟩, ?_⟩
    refine tE.bind k1 p1 fun w ρ2 u Hs2 H2 k2 s2 s2' r2 p2 => ?_
    refine tE.bind k2 p2 fun z ρ3 u3 Hs3 H3 k3 s3 s3' r3 p3 => ?_
    unfold o2 at p3
    cases ek : keyD w with
    | none => rw [ek] at p3; exact p3.elim
    | some kk =>
      rw [ek] at p3
      have eu := keyD_ok r2 ek
      subst eu
      have ss := s2.trans s3
      obtain ⟨n1, n2⟩ := RepK.val kk (hr.mono ss)
      refine ⟨valV xs kk, .inl ⟨xs, kk, rd_same (ss.trans k3.sh) ha, rfl, rfl⟩, ?_⟩
      cases ev : valK kvs kk with
      | none =>
        rw [n1 ev]
        refine PostR.fin p3 k3 ?_
        show Rep _ _ _ ((valK kvs kk).getD z)
        rw [ev]
        exact r3
      | some d =>
        obtain ⟨w2, q1, q2⟩ := n2 d ev
        rw [q1]
        refine PostR.fin p3 k3 ?_
        show Rep _ _ _ ((valK kvs kk).getD z)
        rw [ev]
        exact q2
  | _ => exact p1.elim
/-- .. of the dict that the name i alone holds -/
def e_getO (i : Nat) (g h : EM D) : EM D := fun ρ => match ρ[i]? with
  | some (.own (.K _)) => (g ρ).bind fun w ρ2 => (h ρ2).bind fun z ρ3 => (match ρ3[i]? with
    | some (.own (.K kvs)) => o2 ((keyD w).map fun k => (valK kvs k).getD z) ρ3
    | _ => .bad)
  | _ => .bad
theorem Ok.ownK {Y : Yc} {E0 : Hp × Hp} {tm : List Addr} {ρ : Env} {σ : L2.St} {Hs H : Hp} {i : Nat} {kvs : List (Key × D)} (k : Ok Y E0 tm ρ σ Hs H) (h : ρ[i]? = some (.own (.K kvs))) : ∃ p vs, σ[i]? = some (some (.ref p)) ∧ H p = some (.dK vs) ∧ RepK Y Hs vs kvs := by
  obtain ⟨p, fp, h1, h2, _⟩ := k.at h rfl
  cases h2 with
  | one h4 h5 =>
    cases h5 with
    | K r => exact ⟨p, _, h1, h4, r⟩
theorem Ok.ownL {Y : Yc} {E0 : Hp × Hp} {tm : List Addr} {ρ : Env} {σ : L2.St} {Hs H : Hp} {i : Nat} {ds : List D} (k : Ok Y E0 tm ρ σ Hs H) (h : ρ[i]? = some (.own (.L ds))) : ∃ p vs, σ[i]? = some (some (.ref p)) ∧ H p = some (.lst vs) ∧ RepL Y Hs vs ds := by
  obtain ⟨p, fp, h1, h2, _⟩ := k.at h rfl
  cases h2 with
  | one h4 h5 =>
    cases h5 with
    | L r => exact ⟨p, _, h1, h4, r⟩
theorem ve_getO {j : Nat} (i : Nat) (v : Cv X W j) (ho : PE X o (tVar i)) (he : VE X y W e g) (hc : VE X y W c h) (m : M2 X o "get" apos e c pos) : VE X y W (.Call (.Attribute o "get" apos) [e, c] [] pos) (e_getO i g h) := by
  refine pe_weak (pe_dget2 (hu_of v.room) ho he hc m) fun σ H Q ⟨E0, tm, ρ, Hs, k, p⟩ => ?_
  unfold e_getO at p
  cases e0 : ρ[i]? with
  | none => rw [e0] at p; exact p.elim
  | some s =>
    rw [e0] at p
    cases s with
    | no => exact p.elim
    | obj _ _ => exact p.elim
    | dat _ => exact p.elim
    | own od =>
      cases od with
      | L _ => exact p.elim
      | KL _ => exact p.elim
      | K kvs0 =>
        obtain ⟨a, xs0, hσ, ha0, _⟩ := k.ownK e0
        refine ⟨_, hσ, a, rfl, .inl ⟨xs0, .inl ha0⟩, ?_⟩
        refine tE.bind k p fun w ρ2 u Hs2 H2 k2 s2 s2' r2 p2 => ?_
        refine tE.bind k2 p2 fun z ρ3 u3 Hs3 H3 k3 s3 s3' r3 p3 => ?_
        cases e3 : ρ3[i]? with
        | none => rw [e3] at p3; exact p3.elim
        | some s3x =>
          rw [e3] at p3
          cases s3x with
          | no => exact p3.elim
          | obj _ _ => exact p3.elim
          | dat _ => exact p3.elim
          | own od3 =>
            cases od3 with
            | L _ => exact p3.elim
            | KL _ => exact p3.elim
            | K kvs =>
              obtain ⟨a', xs, hσ', ha, hr⟩ := k3.ownK e3
              rw [hσ] at hσ'
              cases hσ'
              have p3 : PostR (yc X y) W (fun Hs v d => Rep (yc X y) Hs v d) E0 tm σ Hs3 H3 Q (o2 ((keyD w).map fun k => (valK kvs k).getD z) ρ3) := p3
              unfold o2 at p3
              cases ek : keyD w with
              | none => rw [ek] at p3; exact p3.elim
              | some kk =>
                rw [ek] at p3
                have eu := keyD_ok r2 ek
                subst eu
                obtain ⟨n1, n2⟩ := RepK.val kk hr
                refine ⟨valV xs kk, .inl ⟨xs, kk, .inl ha, rfl, rfl⟩, ?_⟩
                cases ev : valK kvs kk with
                | none =>
                  rw [n1 ev]
                  refine PostR.fin p3 k3 ?_
                  show Rep _ _ _ ((valK kvs kk).getD z)
                  rw [ev]
                  exact r3
                | some d =>
                  obtain ⟨w2, q1, q2⟩ := n2 d ev
                  rw [q1]
                  refine PostR.fin p3 k3 ?_
                  show Rep _ _ _ ((valK kvs kk).getD z)
                  rw [ev]
                  exact q2
/-- name[k] = v, the dict the name's own -/
def s_dput (i : Nat) (fk fv : EM D) : SM := fun ρ => (fv ρ).to fun d ρ1 => match ρ1[i]? with
  | some (.own (.K _)) => (fk ρ1).to fun w ρ2 => (match keyD w, ρ2[i]? with
    | some k, some (.own (.K kvs)) => if kvs.length < 16777216 then .next (ρ2.set i (.own (.K (putD kvs k d)))) else .bad
    | _, _ => .bad)
  | _ => .bad
theorem vs_dput {j : Nat} (i : Nat) {kx : Expr} {pos' : Pos} {fk fv : EM D} (v : Cv X W j) (ho : PE X o (tVar i)) (hk : VE X y W kx fk) (hv : VE X y W e fv) (hs : swapsWith e (some (.Subscript o kx pos')) pos.line X.env = pure false := by rfl) :
    VS X y W (.Assign [.Subscript o kx pos'] e pos) (s_dput i fk fv) := by
  refine ps_weak (ps_dput (hu_of v.room) ho hk hv hs) fun D σ H ⟨E0, ρ, Hs, k, p⟩ => ?_
  refine tS.bind k p fun d ρ1 vd Hs1 H1 k1 s1 s1' r1 p1 => ?_
  cases e0 : ρ1[i]? with
  | none => rw [e0] at p1; exact p1.elim
  | some s0 =>
    rw [e0] at p1
    cases s0 with
    | no => exact p1.elim
    | obj _ _ => exact p1.elim
    | dat _ => exact p1.elim
    | own od0 =>
      cases od0 with
      | L _ => exact p1.elim
      | KL _ => exact p1.elim
      | K kvs0 =>
        obtain ⟨a, xs0, hσ, _, _⟩ := k1.ownK e0
        refine ⟨_, hσ, ?_⟩
        refine tS.bind k1 p1 fun w ρ2 u Hs2 H2 k2 s2 s2' r2 p2 => ?_
        cases ek : keyD w with
        | none => rw [ek] at p2; exact p2.elim
        | some kk =>
          cases e3 : ρ2[i]? with
          | none => rw [ek, e3] at p2; exact p2.elim
          | some s3 =>
            rw [ek, e3] at p2
            cases s3 with
            | no => exact p2.elim
            | obj _ _ => exact p2.elim
            | dat _ => exact p2.elim
            | own od =>
              cases od with
              | L _ => exact p2.elim
              | KL _ => exact p2.elim
              | K kvs =>
                obtain ⟨a', xs, hσ', ha, hr⟩ := k2.ownK e3
                rw [hσ] at hσ'
                cases hσ'
                have p3 : PostS (yc X y) W E0 Hs2 D (if kvs.length < 16777216 then .next (ρ2.set i (.own (.K (putD kvs kk d)))) else .bad) := p2
                by_cases hl : kvs.length < 16777216
                · rw [if_pos hl] at p3
                  have eu := keyD_ok r2 ek
                  subst eu
                  refine ⟨a, _, rfl, .inl ⟨xs, kk, ha, rfl, by rw [hr.length, sizeLine_eq]; exact hl, rfl⟩, ?_⟩
                  exact p3 σ Hs2 _ (k2.write e3 hσ (.K (hr.put (r1.mono s2)))) (.refl _)
                · rw [if_neg hl] at p3
                  exact p3.elim
/-- name.append(e) -/
def s_append (i : Nat) (f : EM D) : SM := fun ρ => match ρ[i]? with
  | some (.own (.L _)) => (f ρ).to fun d ρ1 => (match ρ1[i]? with
    | some (.own (.L ds)) => if ds.length < 16777216 then .next (ρ1.set i (.own (.L (ds ++ [d])))) else .bad
    | _ => .bad)
  | _ => .bad
theorem vs_append (i : Nat) (ho : PE X o (tVar i)) (he : VE X y W e f)
    (hbase : attributeBase o "append" X.env (eval o X.env) = eval o X.env := by rfl)
    (hfew : ((backTo pos (starEach [e] X.env)).all (fun x => !x.1) && (backToKw pos (keywordEach [] X.env)).all (fun x => x.1.isSome) && decide (([e] : List Expr).length + ([] : List Keyword).length + (if ([] : List Keyword).isEmpty then 0 else 1) < 30)) = true := by rfl)
    (hline : (apos.endLine == pos.line) = true := by rfl) (hs : starEach [e] X.env = (false, eval e X.env) :: starEach [] X.env := by rfl) (hplain : (backTo pos (starEach [] X.env)).any (·.1) = false := by rfl)
    {pos2 : Pos} (hsw : swapsWith (.Call (.Attribute o "append" apos) [e] [] pos) none pos2.line X.env = pure false := by rfl) : VS X y W (.Expr (.Call (.Attribute o "append" apos) [e] [] pos) pos2) (s_append i f) := by
  refine ps_weak (ps_expr (pe_bm PySem.F.plainAttrs_list PySem.F.slot_list_append PySem.F.type_list_append mt_append ho (pa_cons he pa_nil hs) hbase hfew hline hs hplain) hsw) fun D σ H ⟨E0, ρ, Hs, k, p⟩ => ?_
  unfold s_append at p
  cases e0 : ρ[i]? with
  | none => rw [e0] at p; exact p.elim
  | some s0 =>
    rw [e0] at p
    cases s0 with
    | no => exact p.elim
    | obj _ _ => exact p.elim
    | dat _ => exact p.elim
    | own od0 =>
      cases od0 with
      | K _ => exact p.elim
      | KL _ => exact p.elim
      | L ds0 =>
        obtain ⟨a, xs0, hσ, ha0, _⟩ := k.ownL e0
        refine ⟨_, hσ, .inl ⟨rfl, _, SqL.of ha0⟩, ?_⟩
        refine tS.bind k p fun d ρ1 vd Hs1 H1 k1 s1 s1' r1 p1 => ?_
        cases e3 : ρ1[i]? with
        | none => rw [e3] at p1; exact p1.elim
        | some s3 =>
          rw [e3] at p1
          cases s3 with
          | no => exact p1.elim
          | obj _ _ => exact p1.elim
          | dat _ => exact p1.elim
          | own od =>
            cases od with
            | K _ => exact p1.elim
            | KL _ => exact p1.elim
            | L ds =>
              obtain ⟨a', xs, hσ', ha, hr⟩ := k1.ownL e3
              rw [hσ] at hσ'
              cases hσ'
              have p3 : PostS (yc X y) W E0 Hs1 D (if ds.length < 16777216 then .next (ρ1.set i (.own (.L (ds ++ [d])))) else .bad) := p1
              by_cases hl : ds.length < 16777216
              · rw [if_pos hl] at p3
                refine ⟨a, xs, vd, rfl, rfl, ha, by rw [hr.length, sizeLine_eq]; exact hl, ?_⟩
                exact p3 σ Hs1 _ (k1.write e3 hσ (.L (hr.append (.cons r1 .nil)))) (.refl _)
              · rw [if_neg hl] at p3
                exact p3.elim
/-- name.extend(e), e a list -/
def s_extend (i : Nat) (f : EM D) : SM := fun ρ => match ρ[i]? with
  | some (.own (.L _)) => (f ρ).to fun d ρ1 => (match d, ρ1[i]? with
    | .lst es, some (.own (.L ds)) => if ds.length + es.length ≤ 16777216 then .next (ρ1.set i (.own (.L (ds ++ es)))) else .bad
    | _, _ => .bad)
  | _ => .bad
theorem vs_extend (i : Nat) (ho : PE X o (tVar i)) (he : VE X y W e f)
    (hbase : attributeBase o "extend" X.env (eval o X.env) = eval o X.env := by rfl)
    (hfew : ((backTo pos (starEach [e] X.env)).all (fun x => !x.1) && (backToKw pos (keywordEach [] X.env)).all (fun x => x.1.isSome) && decide (([e] : List Expr).length + ([] : List Keyword).length + (if ([] : List Keyword).isEmpty then 0 else 1) < 30)) = true := by rfl)
    (hline : (apos.endLine == pos.line) = true := by rfl) (hs : starEach [e] X.env = (false, eval e X.env) :: starEach [] X.env := by rfl) (hplain : (backTo pos (starEach [] X.env)).any (·.1) = false := by rfl)
    {pos2 : Pos} (hsw : swapsWith (.Call (.Attribute o "extend" apos) [e] [] pos) none pos2.line X.env = pure false := by rfl) : VS X y W (.Expr (.Call (.Attribute o "extend" apos) [e] [] pos) pos2) (s_extend i f) := by
  refine ps_weak (ps_expr (pe_bm PySem.F.plainAttrs_list PySem.F.slot_list_extend PySem.F.type_list_extend mt_extend ho (pa_cons he pa_nil hs) hbase hfew hline hs hplain) hsw) fun D σ H ⟨E0, ρ, Hs, k, p⟩ => ?_
  unfold s_extend at p
  cases e0 : ρ[i]? with
  | none => rw [e0] at p; exact p.elim
  | some s0 =>
    rw [e0] at p
    cases s0 with
    | no => exact p.elim
    | obj _ _ => exact p.elim
    | dat _ => exact p.elim
    | own od0 =>
      cases od0 with
      | K _ => exact p.elim
      | KL _ => exact p.elim
      | L ds0 =>
        obtain ⟨a, xs0, hσ, ha0, _⟩ := k.ownL e0
        refine ⟨_, hσ, .inl ⟨rfl, _, SqL.of ha0⟩, ?_⟩
        refine tS.bind k p fun d ρ1 vd Hs1 H1 k1 s1 s1' r1 p1 => ?_
        cases r1 with
        | @lst b zs es hb hr1 =>
          cases e3 : ρ1[i]? with
          | none => rw [e3] at p1; exact p1.elim
          | some s3 =>
            rw [e3] at p1
            cases s3 with
            | no => exact p1.elim
            | obj _ _ => exact p1.elim
            | dat _ => exact p1.elim
            | own od =>
              cases od with
              | K _ => exact p1.elim
              | KL _ => exact p1.elim
              | L ds =>
                obtain ⟨a', xs, hσ', ha, hr⟩ := k1.ownL e3
                rw [hσ] at hσ'
                cases hσ'
                have p3 : PostS (yc X y) W E0 Hs1 D (if ds.length + es.length ≤ 16777216 then .next (ρ1.set i (.own (.L (ds ++ es)))) else .bad) := p1
                by_cases hl : ds.length + es.length ≤ 16777216
                · rw [if_pos hl] at p3
                  refine ⟨a, b, xs, zs, rfl, rfl, ha, k1.sh _ _ hb, by rw [hr.length, hr1.length, sizeLine_eq]; exact hl, ?_⟩
                  exact p3 σ Hs1 _ (k1.write e3 hσ (.L (hr.append hr1))) (.refl _)
                · rw [if_neg hl] at p3
                  exact p3.elim
        | _ => exact p1.elim
end

/-! ### a def, by its body -/
/-- the slots at the entry: the arguments, then m names without a value -/
def startD (m : Nat) (ds : List D) : Env := ds.map .dat ++ List.replicate m .no
def runD (m : Nat) (g : SM) (ds : List D) : RF := match g (startD m ds) with
  | .next _ => .ok .non
  | .ret d => .ok d
  | .err c _ => .err c
  | _ => .bad
theorem ok_start {Y : Yc} {Hs H : Hp} {vs : List V} {ds : List D} (N : List Str) {m : Nat} (e : Same Hs H) (r : RepL Y Hs vs ds) (hm : N.length - vs.length = m) : Ok Y (Hs, H) [] (startD m ds) (L2.start N vs) Hs H := by
  have hl : (startD m ds).length = (L2.start N vs).length := by
    unfold startD L2.start
    rw [List.length_append, List.length_append, List.length_map, List.length_map, List.length_replicate, List.length_replicate, r.length, ← hm, r.length]
  have noOwn : ∀ (i : Nat) (s : Slot), (startD m ds)[i]? = some s → s.big = true → False := fun i s h hb => by
    unfold startD at h
    have := List.mem_of_getElem? h
    rcases List.mem_append.mp this with q | q
    · obtain ⟨d, _, e⟩ := List.mem_map.mp q
      subst e
      cases hb
    · rw [(List.mem_replicate.mp q).2] at hb
      cases hb
  refine ⟨.refl e, hl, fun i d h => ?_, ⟨fun _ => [], fun i s h hb => (noOwn i s h hb).elim, fun i j s s' q h hb => (noOwn i s h hb).elim, fun p hp => nomatch hp⟩, fun p hp => nomatch hp⟩
  unfold startD at h
  by_cases hi : i < ds.length
  · rw [List.getElem?_append_left (by rw [List.length_map]; exact hi), List.getElem?_map] at h
    cases ed : ds[i]? with
    | none => rw [ed] at h; cases h
    | some d' =>
      rw [ed] at h
      have e1 := Option.some.inj h
      cases e1
      obtain ⟨v, h1, h2⟩ := r.get ed
      refine ⟨v, ?_, h2⟩
      unfold L2.start
      rw [List.getElem?_append_left (by rw [List.length_map, r.length]; exact hi), List.getElem?_map, h1]
      rfl
  · rw [List.getElem?_append_right (by rw [List.length_map]; omega), List.getElem?_replicate] at h
    split at h <;> cases h
section
variable {P : Program} {w : World} {K : PySem.W.Frag} {mg : Str → Option Value} {base : Heap} {y : Yo}
/-- where the body of a def stands -/
abbrev bodyX (P : Program) (w : World) (K : PySem.W.Frag) (mg : Str → Option Value) (base : Heap) (N : List Str) (qual : Str) (scope : Scope) (f : Addr) (cd : Value) (A : Around) (outer : List PySem.Env) (s : Shared) (H : Hp) (E : XK) : Cx := cxOf (L2.CX P w) P w K mg base N qual scope f cd A outer s H E
abbrev bodyW (E : XK) : WX := fun cls d _ H => E cls d H
theorem fo_of {x : Str} {args : Arguments} {body : List Stmt} {scope : Scope} {N ps : List Str} {g : SM} {n m k : Nat} {f : Addr} {fd : FuncData} (F : FunD K x x args body scope [] [] f fd) (S : FnScope N ps scope) (hn : ps.length = n) (hm2 : N.length - n = m)
    (hb : ∀ (cdv : Value) (A : Around) (outer : List PySem.Env) (s : Shared) (H : Hp) (E : XK), Cv (bodyX P w K mg base N x scope f cdv A outer s H E) (bodyW E) k → VSs (bodyX P w K mg base N x scope f cdv A outer s H E) y (bodyW E) body g) :
    FnOk P w K mg base (L2.CX P w) (k + 1) f fd ps (spV ⟨K, y.at_, y.ca⟩ n (runD m g)) := by
  refine F.ok S (fun vs H Q E h => ?_) (fun cdv A outer s H vs Q E hr h => ?_)
  · obtain ⟨Hs, ds, e, r, hl, _⟩ := h
    rw [r.length, hl, hn]
  · obtain ⟨Hs, ds, e, r, hl, q⟩ := h
    have v : Cv (bodyX P w K mg base N x scope f cdv A outer s H E) (bodyW E) k := ⟨rfl, passes_of rfl, takes_of rfl rfl rfl rfl, S.nd, hr⟩
    refine ⟨_, hb cdv A outer s H E v, (Hs, H), startD m ds, Hs, ok_start N e r (by rw [r.length, hl]; exact hm2), ?_⟩
    unfold runD at q
    cases eg : g (startD m ds) with
    | bad => rw [eg] at q; exact q
    | next ρ' =>
      rw [eg] at q
      exact fun σ' Hs' H' k' s' => q .non Hs' H' k'.gr .non
    | ret d =>
      rw [eg] at q
      exact fun v Hs' H' gr rr => q v Hs' H' gr rr
    | brk _ => rw [eg] at q; exact q.elim
    | cont _ => rw [eg] at q; exact q.elim
    | err c ρ' =>
      rw [eg] at q
      exact fun σ' Hs' H' k' s' => q H' k'.gr.hh
theorem cl_of {x : Str} {args : Arguments} {body : List Stmt} {scope : Scope} {N ps : List Str} {g : SM} {n m k : Nat} {f : Addr} {fd : FuncData} (F : FunD K x x args body scope [] [] f fd) (hm : mg x = some (.ref f)) (S : FnScope N ps scope) (hn : ps.length = n) (hm2 : N.length - n = m)
    (hbind : ∀ (kV doc pm : Value) (an : Option Addr) (cdv ct : Value) (us : List Value), us.length = ps.length → bindArgs (PySem.W.fnOf x x args body scope .none kV doc pm an cdv ct) ⟨us, []⟩ = pure (ps.zip us))
    (hb : ∀ (cdv : Value) (A : Around) (outer : List PySem.Env) (s : Shared) (H : Hp) (E : XK), Cv (bodyX P w K mg base N x scope f cdv A outer s H E) (bodyW E) k → VSs (bodyX P w K mg base N x scope f cdv A outer s H E) y (bodyW E) body g) :
    Cl P w K mg base y (k + 1) x n (runD m g) := ⟨f, fd, ps, fo_of F S hn hm2 hb, hm, F.kp, F.bindsN hbind⟩
end
end VL

namespace VL
open PySem PySem.Spec PyProof.Rows L2

theorem bt_len : bootBuiltins "len" = some (.builtin "len") := by decide +kernel
theorem bt_all : bootBuiltins "all" = some (.builtin "all") := by decide +kernel
theorem bt_any : bootBuiltins "any" = some (.builtin "any") := by decide +kernel
theorem bt_sum : bootBuiltins "sum" = some (.builtin "sum") := by decide +kernel
theorem bt_min : bootBuiltins "min" = some (.builtin "min") := by decide +kernel
theorem bt_max : bootBuiltins "max" = some (.builtin "max") := by decide +kernel
theorem bt_abs : bootBuiltins "abs" = some (.builtin "abs") := by decide +kernel
theorem bt_sorted : bootBuiltins "sorted" = some (.builtin "sorted") := by decide +kernel
theorem bt_isinstance : bootBuiltins "isinstance" = some (.builtin "isinstance") := by decide +kernel
theorem bt_int : bootBuiltins "int" = some (.type "int") := by decide +kernel
theorem bt_bool : bootBuiltins "bool" = some (.type "bool") := by decide +kernel
theorem bt_str : bootBuiltins "str" = some (.type "str") := by decide +kernel
theorem bt_list : bootBuiltins "list" = some (.type "list") := by decide +kernel
theorem bt_tuple : bootBuiltins "tuple" = some (.type "tuple") := by decide +kernel
theorem bt_dict : bootBuiltins "dict" = some (.type "dict") := by decide +kernel
theorem bt_set : bootBuiltins "set" = some (.type "set") := by decide +kernel

/-! ### a list, a tuple or a text, walked -/
def anyI (d : D) : Option (List D) := match d with
  | .str x => some (signsD x)
  | d => seqD d
def i_any (f : EM D) : EM (List D) := fun ρ => (f ρ).bind fun d => o2 (anyI d)
section
variable {X : Cx} {y : Yo} {W : WX} {tg e : Expr} {f g : EM D} {pos : Pos}
theorem pi_two {t t' : TI} (h : PI X tg e t) (h' : PI X tg e t') : PI X tg e (fun σ H R => t σ H R ∨ t' σ H R) := PI.mk fun pins s σ H R I q => by
  rcases q with q | q
  · exact h.run pins s σ H R I q
  · exact h'.run pins s σ H R I q
theorem vi_any (h : VE X y W e f) : VI X y W tg e (i_any f) := by
  refine pi_weak (pi_two (vi_seq h) (vi_str h)) fun σ H R ⟨E0, tm, ρ, Hs, k, p⟩ => ?_
  unfold i_any at p
  cases ef : f ρ with
  | bad => rw [ef] at p; exact p.elim
  | err c ρ1 =>
    rw [ef] at p
    refine .inl ⟨E0, tm, ρ, Hs, k, ?_⟩
    unfold i_seq
    rw [ef]
    exact p
  | ok x ρ1 =>
    rw [ef] at p
    cases x with
    | str z =>
      refine .inr ⟨E0, tm, ρ, Hs, k, ?_⟩
      unfold i_str
      rw [ef]
      exact p
    | _ =>
      refine .inl ⟨E0, tm, ρ, Hs, k, ?_⟩
      unfold i_seq
      rw [ef]
      exact p
/-! ### -a; xs[::-1]; is of truths; stores to other targets -/
def e_neg (f : EM D) : EM D := fun ρ => (f ρ).bind fun d => o2 (match d with | .int i => some (.int (-i)) | _ => none)
theorem ve_neg (ha : VE X y W e f) : VE X y W (.UnaryOp .USub e pos) (e_neg f) := by
  refine pe_weak (pe_un un_neg ha) fun σ H Q ⟨E0, tm, ρ, Hs, k, p⟩ => ?_
  refine tE.bind k p fun d ρ1 v Hs1 H1 k1 s1 s1' r1 p1 => ?_
  cases r1 with
  | int i => exact ⟨i, rfl, PostR.fin p1 k1 (.int _)⟩
  | _ => exact p1.elim
theorem RepL.reverse {Y : Yc} {H : Hp} {vs : List V} {ds : List D} (r : RepL Y H vs ds) : RepL Y H vs.reverse ds.reverse := by
  induction vs generalizing ds with
  | nil =>
    cases r
    exact .nil
  | cons v vs ih =>
    cases r with
    | cons h1 h2 =>
      rw [List.reverse_cons, List.reverse_cons]
      exact (ih h2).append (.cons h1 .nil)
def e_rev (f : EM D) : EM D := fun ρ => (f ρ).bind fun d => o2 (match d with | .lst ds => some (.lst ds.reverse) | _ => none)
theorem ve_rev {k : Nat} {p1 p2 p3 : Pos} (ha : VE X y W e f) : VE X y W (.Subscript e (.Slice none none (some (.UnaryOp .USub (.Constant (.int 1) k p1) p2)) p3) pos) (e_rev f) := by
  refine pe_weak (pe_revL ha) fun σ H Q ⟨E0, tm, ρ, Hs, k, p⟩ => ?_
  refine tE.bind k p fun d ρ1 v Hs1 H1 k1 s1 s1' r1 p1 => ?_
  cases r1 with
  | @lst a xs ds ha hr =>
    refine ⟨a, xs, rfl, SqL.of (k1.sh _ _ ha), fun q hq => ?_⟩
    have gr := Grow.new (.lst xs.reverse) k1.sh hq
    exact PostR.finG p1 k1 gr (.lst upd_same (hr.reverse.mono gr.ss))
  | _ => exact p1.elim
def isBD (neg : Bool) : D → D → Option D
  | .bl a, .bl b => some (.bl (if neg then !decide (a = b) else decide (a = b)))
  | _, _ => none
theorem isB_ok {Y : Yc} : OpOk Y rIsB (isBD false) := by
  intro Hs H vx vy x w z Q e rx ry hz q
  cases rx with
  | bl a =>
    cases ry with
    | bl b =>
      have ez := Option.some.inj hz
      subst ez
      exact ⟨a, b, rfl, rfl, q _ Hs H (.refl e) (.bl _)⟩
    | _ => cases hz
  | _ => cases ry <;> cases hz
theorem isNB_ok {Y : Yc} : OpOk Y rNotB (isBD true) := by
  intro Hs H vx vy x w z Q e rx ry hz q
  cases rx with
  | bl a =>
    cases ry with
    | bl b =>
      have ez := Option.some.inj hz
      subst ez
      exact ⟨a, b, rfl, rfl, q _ Hs H (.refl e) (.bl _)⟩
    | _ => cases hz
  | _ => cases ry <;> cases hz
def s_asg (f : EM D) (gf : D → Env → Option Env) : SM := fun ρ => (f ρ).to fun d ρ1 => match gf d ρ1 with
  | some ρ2 => .next ρ2
  | none => .bad
theorem vs_asg {is : List Nat} {gf : D → Env → Option Env} (he : VE X y W e f) (hg : VG X y tg is gf) (hs : swapsWithSole [tg] e pos.line X.env = pure false := by rfl) (hw : swappedStores [tg] e X.env = pure none := by rfl)
    (h1 : (assignEach [tg] X.env).map (·.2) = [assign tg X.env] := by rfl) : VS X y W (.Assign [tg] e pos) (s_asg f gf) := by
  refine ps_weak (ps_asg he hg hs hw h1) fun D σ H ⟨E0, ρ, Hs, k, p⟩ => ?_
  refine tS.bind k p fun d ρ1 v Hs1 H1 k1 s1 s1' r1 p1 => ?_
  cases eg : gf d ρ1 with
  | none => rw [eg] at p1; exact p1.elim
  | some ρ2 =>
    rw [eg] at p1
    exact ⟨E0, [], ρ1, Hs1, d, ρ2, k1, r1, eg, fun σ' k' _ _ => p1 σ' Hs1 H1 k' (.refl _)⟩
end
/-- as many rounds as a slot's number, and one more -/
def fuI (k : Nat) (ρ : Env) : Nat := match ρ[k]? with
  | some (Slot.dat (D.int i)) => i.natAbs + 1
  | _ => 0
def dinD (k x : D) : Option D := match x with
  | .dct kvs => (keyD k).map fun k => .bl (valK kvs k).isSome
  | _ => none
def dninD (k x : D) : Option D := match x with
  | .dct kvs => (keyD k).map fun k => .bl (!(valK kvs k).isSome)
  | _ => none
end VL

/-! sets of texts: made of a list, told sorted -/
namespace VL
open PySem PySem.Spec PyProof.Rows L2
/-! ### what a set of texts is -/
def keyT (e : Int × Value) : Str := match e.2 with | .str k _ => k | _ => Str.empty
def GoodT (w : World) (e : Int × Value) : Prop := ∃ k tk, e.2 = Value.str k tk ∧ e.1 = hashStr w k

/-- the set of texts at a: S its members, nn their number; its table rises and can be walked -/
def SetX (w : World) (h : Heap) (a : Addr) (S : Str → Bool) (nn : Nat) : Prop :=
  ∃ o ez ep0 tb, h.get? a = some o ∧ o.ExactSet ∧ o.data = .set ez ep0 tb ∧ (∀ e ∈ ez.toList, GoodT w e) ∧ (ez.toList.map keyT).Nodup ∧ (∀ k, S k = true ↔ k ∈ ez.toList.map keyT) ∧
    ez.size < scanBound ∧ tb.fits ez.size = true ∧ ez.size = nn ∧ Ris tb.place.toList ∧ (w.params.followText "set-order" = true ∨ tb.led = true)

section
variable {P : Program} {w : World} {h h' : Heap} {a : Addr} {S : Str → Bool} {nn : Nat}

theorem SetX.at (RR : SetX w h a S nn) (k : ∀ o, h.get? a = some o → h'.get? a = some o) : SetX w h' a S nn := by
  obtain ⟨o, ez, ep0, tb, gO, r⟩ := RR
  exact ⟨o, ez, ep0, tb, k o gO, r⟩
theorem SetX.lt (RR : SetX w h a S nn) : a < h.objs.size := by
  obtain ⟨o, ez, ep0, tb, gO, r⟩ := RR
  exact Heap.lt_size gO
theorem SetX.congr {S' : Str → Bool} (RR : SetX w h a S nn) (e : ∀ k, S' k = S k) : SetX w h a S' nn := by
  have q : S' = S := funext e
  rw [q]; exact RR
theorem goodT_elems {l : List (Int × Value)} (g : ∀ e ∈ l, GoodT w e) : ElemsOf (PySem.strKind P w) l := fun e he => by
  obtain ⟨k, tk, h1, h2⟩ := g e he
  exact ⟨⟨k, by rw [h1]; exact strKind_is P w k tk, h2⟩, by rw [h1] <;> rfl⟩
theorem goodT_is {e : Int × Value} (g : GoodT w e) (k : Str) : (PySem.strKind P w).is k e.2 = true ↔ keyT e = k := by
  obtain ⟨k0, tk, h1, _⟩ := g
  unfold keyT
  rw [h1]
  show ((k0 == k) = true) ↔ k0 = k
  exact beq_iff_eq
theorem goodT_mem {l : List (Int × Value)} (g : ∀ e ∈ l, GoodT w e) (k : Str) : k ∈ l.map keyT ↔ ∃ e ∈ l, (PySem.strKind P w).is k e.2 = true := by
  rw [List.mem_map]
  constructor
  · rintro ⟨e, he, q⟩
    exact ⟨e, he, (goodT_is (g e he) k).2 q⟩
  · rintro ⟨e, he, q⟩
    exact ⟨e, he, (goodT_is (g e he) k).1 q⟩
theorem SetX.setOf (RR : SetX w h a S nn) : h.SetOf (PySem.strKind P w) a S nn := by
  obtain ⟨o, ez, ep0, tb, gO, gx, gD, g, gN, gM, gB, gF, gZ, _⟩ := RR
  exact ⟨o, ez, ep0, tb, gO, gx, gD, goodT_elems g, fun k => (gM k).trans (goodT_mem g k), gB, gF, gZ⟩
end

section
variable {P : Program} {w : World} {A : Around} {E : Value → Shared → Prop} {s : Shared} {a : Addr} {S : Str → Bool} {nn : Nat}

theorem setX_add_tail {g : Bool → Sem Unit} (hg : ∀ (b : Bool) (s₁ : Shared) (Q' : Unit → Shared → Prop), Q' () s₁ → wpAny (model P w) A (g b) Q' E s₁)
    {o : Obj} {ez : Array (Int × Value)} {ep0 : Nat} {tb : SetTable} (gO : s.heap.get? a = some o) (gX : o.ExactSet) (gD : o.data = .set ez ep0 tb)
    {ez1 : Array (Int × Value)} {tb2 : SetTable} {S' : Str → Bool} (gg1 : ∀ e ∈ ez1.toList, GoodT w e) (gN1 : (ez1.toList.map keyT).Nodup) (gM1 : ∀ k, S' k = true ↔ k ∈ ez1.toList.map keyT)
    (gB1 : ez1.size < scanBound) (gF2 : tb2.fits ez1.size = true) (gR : Ris tb2.place.toList) (gL : w.params.followText "set-order" = true ∨ tb2.led = true) {wasD : Bool} {RR : Option Bool → Shared → Prop}
    (kR : ∀ h', Heap.SameBut a s.heap h' → SetX w h' a S' ez1.size → RR (some true) { s with heap := h' }) :
    wpAny (model P w) A (do
        storeSet a ez1 tb2
        if (!wasD && tb2.tooFull) = true then do
            g (relayAll tb2 ez1 (SetTable.grown ez1.size)).2.2
            storeSet a (relayAll tb2 ez1 (SetTable.grown ez1.size)).1 (relayAll tb2 ez1 (SetTable.grown ez1.size)).2.1
            pure (some true)
          else pure (some true)) RR E s := by
  refine wpAny_bind (wpAny_storeSet_of gO gD ?_ (fits_of_scanBound gB1))
  have gO1 := store_at (es' := ez1) (t' := tb2) gO gD
  have sB1 := Heap.SameBut.update s.heap a (Obj.putSet ez1 tb2)
  split
  · have pM := relayAll_perm tb2 ez1 (SetTable.grown ez1.size)
    have gF3 := relayAll_fits tb2 ez1 (SetTable.grown ez1.size)
    have gR3 := relayAll_ris tb2 ez1 (SetTable.grown ez1.size)
    have gL3 := relayAll_led tb2 ez1 (SetTable.grown ez1.size)
    generalize relayAll tb2 ez1 (SetTable.grown ez1.size) = Z at pM gF3 gR3 gL3 ⊢
    obtain ⟨ez2, tb3, gaveW⟩ := Z
    dsimp only at pM gF3 gR3 gL3 ⊢
    have gSz : ez2.size = ez1.size := by rw [← Array.length_toList, pM.length_eq, Array.length_toList]
    have gB2 : ez2.size < scanBound := by rw [gSz]; exact gB1
    refine wpAny_bind (hg _ _ _ ?_)
    refine wpAny_bind (wpAny_storeSet_of gO1 rfl ?_ (fits_of_scanBound gB2))
    have gO2 := store_at (es' := ez2) (t' := tb3) gO1 rfl
    refine wpAny_pure (kR _ (sB1.trans (Heap.SameBut.update _ a _)) ?_)
    exact ⟨_, ez2, _, tb3, gO2, gX, rfl, fun e he => gg1 e (pM.mem_iff.mp he), (pM.map keyT).nodup_iff.mpr gN1, fun k => (gM1 k).trans (pM.map keyT).mem_iff.symm, gB2, gF3, gSz, gR3,
      gL.imp id fun z => by rw [gL3]; exact z⟩
  · exact wpAny_pure (kR _ sB1 ⟨_, ez1, _, tb2, gO1, gX, rfl, gg1, gN1, gM1, gB1, gF2, rfl, gR, gL⟩)

theorem setX_add_hashed {k : Str} {tk : Tok} {Q : Bool → Shared → Prop} (RR : SetX w s.heap a S nn) (rm : nn + 1 < scanBound)
    (kQ : ∀ h', Heap.SameBut a s.heap h' → SetX w h' a (fun j => S j || decide (j = k)) (if S k = true then nn else nn + 1) → Q (!S k) { s with heap := h' }) :
    wpAny (model P w) A (setAddHashed a (.str k tk) ((PySem.strKind P w).hash k)) Q E s := by
  obtain ⟨o, ez, ep0, tb, gO, gX, gD, g, gN, gM, gB, gF, gZ, gR, gL⟩ := RR
  have gKey : (PySem.strKind P w).is k (.str k tk) = true := strKind_is P w k tk
  have gSc : (Value.str k tk).scannable = true := rfl
  have gEl : ElemsOf (PySem.strKind P w) ez.toList := goodT_elems g
  unfold setAddHashed setAddHashedIn
  refine wpAny_holding (wpAny_bind (wpAny_setState_of gO gD gF ?_))
  dsimp only
  rw [byScan_of gSc gB gEl]
  simp only [↓reduceIte]
  unfold setAddByScan
  refine wpAny_bind ?_
  refine wpAny_bind (wpAny_rule ?_)
  refine wpAny_bind (wpAny_setScan_of gKey gO gD gF gEl ?_)
  cases gFi : List.findIdx? (fun e => (PySem.strKind P w).is k e.2) ez.toList with
  | some j =>
    dsimp only
    obtain ⟨hj, pj, _⟩ := List.findIdx?_eq_some_iff_getElem.mp gFi
    have gSk : S k = true := (gM k).2 ((goodT_mem (P := P) (w := w) g k).2 ⟨ez.toList[j], List.getElem_mem hj, pj⟩)
    refine wpAny_pure (wpAny_pure ?_)
    have q := kQ s.heap (Heap.SameBut.refl a s.heap) ⟨o, ez, ep0, tb, gO, gX, gD, g, gN, fun i => by
      rw [Bool.or_eq_true, decide_eq_true_eq, ← gM i]
      exact ⟨fun z => z.elim id (fun e => e ▸ gSk), .inl⟩, gB, gF, by rw [if_pos gSk]; exact gZ, gR, gL⟩
    rw [gSk] at q
    exact q
  | none =>
    dsimp only
    have gNk : k ∉ ez.toList.map keyT := fun z => by
      obtain ⟨e, he, q⟩ := (goodT_mem (P := P) (w := w) g k).1 z
      have c := List.findIdx?_eq_none_iff.mp gFi e he
      rw [q] at c
      cases c
    have gSk : S k = false := by
      cases q : S k with
      | false => rfl
      | true => exact absurd ((gM k).1 q) gNk
    have gGw : ∀ (b : Bool) {s₁ : Shared} {Q' : Unit → Shared → Prop}, Q' () s₁ → wpAny (model P w) A (match b with | true => rule "set.scan.the-table-gave-way" | false => pure ()) Q' E s₁ :=
      fun b s₁ Q' q => by cases b <;> first | exact wpAny_pure q | exact wpAny_rule q
    have pM := layNew_perm tb ez ((PySem.strKind P w).hash k) (.str k tk)
    have gF1 := layNew_fits tb ez ((PySem.strKind P w).hash k) (.str k tk)
    have gR1 := layNew_ris tb ez ((PySem.strKind P w).hash k) (.str k tk) gR
    have gL1 := layNew_led tb ez ((PySem.strKind P w).hash k) (.str k tk)
    generalize layNew tb ez ((PySem.strKind P w).hash k) (.str k tk) = Z at pM gF1 gR1 gL1 ⊢
    obtain ⟨ez1, tb1, wasD, gaveW⟩ := Z
    dsimp only at pM gF1 gR1 gL1 ⊢
    rw [Array.toList_push] at pM
    have pC : ez1.toList.Perm (((PySem.strKind P w).hash k, Value.str k tk) :: ez.toList) := pM.trans (List.perm_append_singleton _ _)
    have pK : (ez1.toList.map keyT).Perm (k :: ez.toList.map keyT) := pC.map keyT
    have gg1 : ∀ e ∈ ez1.toList, GoodT w e := fun e he => by
      rcases List.mem_cons.mp (pC.mem_iff.mp he) with z | z
      · rw [z]; exact ⟨k, tk, rfl, rfl⟩
      · exact g e z
    have gN1 : (ez1.toList.map keyT).Nodup := pK.nodup_iff.mpr (List.nodup_cons.mpr ⟨gNk, gN⟩)
    have gM1 : ∀ i, (S i || decide (i = k)) = true ↔ i ∈ ez1.toList.map keyT := fun i => by
      rw [Bool.or_eq_true, decide_eq_true_eq, gM i, pK.mem_iff, List.mem_cons]
      exact Or.comm
    have gSz : ez1.size = nn + 1 := by rw [← Array.length_toList, pC.length_eq, List.length_cons, Array.length_toList, gZ]
    have gB1 : ez1.size < scanBound := by rw [gSz]; exact rm
    have gLed : w.params.followText "set-order" = true ∨ tb1.led = true := gL.imp id fun z => by rw [gL1]; exact z
    have fin : ∀ h', Heap.SameBut a s.heap h' → SetX w h' a (fun j => S j || decide (j = k)) ez1.size → Q true { s with heap := h' } := fun h' sb r => by
      have q := kQ h' sb
      rw [gSk] at q
      rw [gSz] at r
      exact q r
    refine wpAny_bind (gGw _ ?_)
    split
    · refine wpAny_bind ?_
      rw [hashByValue_scannable 8 gSc]
      refine wpAny_pure ?_
      refine setX_add_tail ?_ gO gX gD gg1 gN1 gM1 gB1 ?_ ?_ ?_ ?_
      · intro b s₁ Q' q; cases b <;> first | exact wpAny_pure q | exact wpAny_rule q
      · first | (split <;> first | exact gF1 | exact SetTable.fits_plain_off gF1) | exact gF1
      · first | (split <;> exact gR1) | exact gR1
      · first | (split <;> exact gLed) | exact gLed
      · intro h' sb r; dsimp only; exact wpAny_pure (fin h' sb r)
    · refine wpAny_bind (wpAny_pure ?_)
      simp only [↓reduceIte]
      refine setX_add_tail ?_ gO gX gD gg1 gN1 gM1 gB1 gF1 gR1 gLed ?_
      · intro b s₁ Q' q; cases b <;> first | exact wpAny_pure q | exact wpAny_rule q
      · intro h' sb r; dsimp only; exact wpAny_pure (fin h' sb r)
end
/-! ### made of a list -/
theorem setX_new_at {w : World} {h : Heap} {a : Addr} {xs : List Str} (ho : h.get? a = some { cls := .type "set", dict := none, data := .set #[] 0 (.fresh 0 0 (!w.params.followText "set-order")) }) : SetX w h a (fun j => decide (j ∈ xs.take 0)) 0 :=
  ⟨_, #[], 0, _, ho, ⟨rfl, rfl, rfl⟩, rfl, (fun e he => by simp at he), (by simp), (fun k => by simp), (by decide), (by rfl), rfl, List.Pairwise.nil, by
    show _ ∨ (!w.params.followText "set-order") = true
    cases w.params.followText "set-order"
    · exact .inr rfl
    · exact .inl rfl⟩
section
variable {P : Program} {w : World} {A : Around} {E : Value → Shared → Prop} {s : Shared}
theorem set_update_txts {I : Addr} {fp wr : List Addr} {G : Array GenState → Array GenState → Prop} {n : Nat} {Pv : Nat → Value → Prop} {St : Nat → Shared → Prop} {R : Result → Shared → Prop}
    (W : WalksS P w A.in1 I fp wr G n Pv St) (S : Addr) (nSf : S ∉ fp) (xs : List Str) (hn : n = xs.length) (hb : xs.length + 1 < scanBound) (vL : ∀ i v, Pv i v → ∃ k t, xs[i]? = some k ∧ v = .str k t) :
    ∀ (k i : Nat) (s : Shared), n - i = k → i ≤ n → St i s → (∃ c, c ≤ i ∧ SetX w s.heap S (fun j => decide (j ∈ xs.take i)) c) →
      (∀ sA c, Moved (S :: wr) G s sA → c ≤ n → SetX w sA.heap S (fun j => decide (j ∈ xs)) c → R (.ok (.ret .none)) sA) →
      codeAny (model P w) A (.builtin "set.update.loop" ⟨[.ref S, .ref I], []⟩) R s := by
  have nSw : S ∉ wr := fun h => nSf (W.sub _ h)
  have sB : ∀ b ∈ wr, b ∈ S :: wr := fun b hb => List.mem_cons_of_mem _ hb
  intro k
  induction k with
  | zero =>
    intro i s hk' iN hS0 ⟨c, hc, hX⟩ kR
    have iE : i = n := by omega
    subst iE
    refine codeAny_builtin F.entry_set_update_loop ?_
    rw [Around.under_plainId F.plain_set_update_loop _]
    show wpAny _ A.in1 (pyNext (.ref I) >>= _) _ _ s
    refine wpAny_bind (W.done s _ _ hS0 fun sA mv => ?_)
    show wpAny _ A.in1 (ret Value.none) _ _ sA
    have e : xs.take i = xs := List.take_of_length_le (by omega)
    rw [e] at hX
    exact wpAny_pure (kR sA c (mv.mono sB) hc (hX.at fun o e => mv.heap S o nSw e))
  | succ k ih =>
    intro i s hk' iN hS0 ⟨c, hc, hX⟩ kR
    have iL : i < n := by omega
    refine codeAny_builtin F.entry_set_update_loop ?_
    rw [Around.under_plainId F.plain_set_update_loop _]
    show wpAny _ A.in1 (pyNext (.ref I) >>= _) _ _ s
    refine wpAny_bind (W.item i s _ _ iL hS0 fun v sA hP hS0' mv => ?_)
    obtain ⟨z, t, hz, rfl⟩ := vL i v hP
    have hX' : SetX w sA.heap S (fun j => decide (j ∈ xs.take i)) c := hX.at fun o e => mv.heap S o nSw e
    show wpAny _ A.in1 (holding [Value.str z t] (setAdd S (.str z t)) >>= _) _ _ sA
    refine wpAny_bind (wpAny_holding ?_)
    unfold setAdd
    refine wpAny_holding ?_
    refine wpAny_bind ((PySem.strKind P w).pyHash (k := z) (strKind_is _ _ _ _) ?_)
    refine setX_add_hashed (s := { sA with toks := sA.toks + 1 }) hX' (by omega) fun hA bt hX3 => ?_
    have hX4 : SetX w hA S (fun j => decide (j ∈ xs.take (i + 1))) (if decide (z ∈ xs.take i) = true then c else c + 1) := hX3.congr fun j => by
      rw [List.take_add_one, hz]
      simp [List.mem_append]
    have hc3 : (if decide (z ∈ xs.take i) = true then c else c + 1) ≤ i + 1 := by
      split <;> omega
    refine wpAny_pure ⟨plainId_quiet F.plain_set_update_loop _, ih (i + 1) _ (by omega) iL (W.frame _ sA _ _ hS0' (Nat.le_succ _) fun b hb o e => ?_) ⟨_, hc3, hX4⟩ fun sA' c2 mv'' hc'' hX'' => ?_⟩
    · rw [bt.2 b (fun h : b = S => nSf (by rw [← h]; exact hb))]; exact e
    · refine kR sA' c2 (Moved.trans W.gtrans ((mv.mono sB).then_heap (Nat.le_succ _) fun b o hb e => ?_) mv'') hc'' hX''
      rw [bt.2 b (fun h : b = S => hb (by rw [h]; exact List.mem_cons_self))]; exact e

theorem call_set_lstT {l : Addr} {items : Array Value} (xs : List Str) {Q : Value → Shared → Prop} (hh : A.handled = none) (hl : s.heap.IsList l items) (iT : StrsAre items.toList xs) (hb : xs.length + 1 < scanBound)
    (h : ∀ (hA : Heap) (tk c : Nat), SetX w hA s.heap.objs.size (fun j => decide (j ∈ xs)) c → c ≤ xs.length → (∀ b o, s.heap.get? b = some o → hA.get? b = some o) → Q (.ref s.heap.objs.size) { s with heap := hA, toks := tk }) :
    wpAny (model P w) A (call (.type "set") [.ref l]) Q E s := by
  have iSz : items.size = xs.length := by
    have q := StrsAre.len_eq iT
    rw [Array.length_toList] at q
    exact q
  obtain ⟨c, tl, aMro⟩ := F.called_set.mro
  have aMade := F.called_set.made
  have sB := F.called_set.sub
  refine wpAny_call (codeAny_of_tree ?_)
  show wpAny _ _ (callAny (.type "set") _) _ _ _
  refine wpAny_pure ⟨Code.quiet_builtin _ (by decide +kernel), codeAny_builtin F.entry_type_call ?_⟩
  rw [Around.under_plain (weight_type_call_type "set" [.ref l] []) rfl]
  have a1 := F.called_set.notType
  have a2 := F.called_set.canCreate
  have aCt := F.typeCall_set_1 (.ref l)
  repeat (any_goals (first | assumption | wp_step))

  refine codeAny_mono (code_set_led1 (.ref l) (E := E) (Q₁ := fun obj s₁ => obj = .ref s.heap.objs.size ∧ s₁ = { s with heap := s.heap.push { cls := .type "set", dict := none, data := .set #[] 0 (.fresh 0 0 (!w.params.followText "set-order")) } }) ⟨rfl, rfl⟩) fun r s₁ rr1 => ?_
  cases r with
  | error e => exact rr1
  | ok fl =>
    cases fl with
    | ret obj =>
      obtain ⟨rfl, rfl⟩ := rr1
      have hX : (s.heap.push { cls := .type "set", dict := none, data := .set #[] 0 (.fresh 0 0 (!w.params.followText "set-order")) }).get? s.heap.objs.size = some { cls := .type "set", dict := none, data := .set #[] 0 (.fresh 0 0 (!w.params.followText "set-order")) } := Heap.get?_push_size _ rfl
      have tS : Shared.TypeIs { s with heap := s.heap.push { cls := .type "set", dict := none, data := .set #[] 0 (.fresh 0 0 (!w.params.followText "set-order")) } } (.ref s.heap.objs.size) "set" := ⟨_, hX, rfl⟩
      have aLi := F.called_set.init.lookup
      have aBi := F.called_set.init.bind (.ref s.heap.objs.size)
      repeat (any_goals (first | assumption | wp_step))

      refine codeAny_mono (codeAny_call_builtin (R := wants (fun r s₂ => r = .none ∧ ∃ hA tk c, s₂ = { s with heap := hA, toks := tk } ∧ SetX w hA s.heap.objs.size (fun j => decide (j ∈ xs)) c ∧ c ≤ xs.length ∧
          (∀ b o, s.heap.get? b = some o → hA.get? b = some o)) E) F.called_set.init.plain F.entry_set_init (check_set_init_1 tS ?_)) fun r₂ s₂ rr2 => ?_
      · obtain ⟨oL, hOl, hcl, nl, hdl⟩ := hl
        obtain ⟨ocls, odict, odata, oslots⟩ := oL
        simp only at hcl hdl
        subst hcl; subst hdl
        have hOl' : (s.heap.push { cls := .type "set", dict := none, data := .set #[] 0 (.fresh 0 0 (!w.params.followText "set-order")) }).get? l = some { cls := .type "list", dict := odict, data := .seq items nl, slots := oslots } := Heap.get?_push_of_some _ hOl
        have aSls := F.sub_list_set
        have aSlf := F.sub_list_frozenset
        have aNe : (Value.type "list" == Value.type "dict") = false := by decide
        have aL1 : (s.heap.push { cls := .type "set", dict := none, data := .set #[] 0 (.fresh 0 0 (!w.params.followText "set-order")) }).IsList l items := ⟨_, hOl', rfl, nl, rfl⟩
        unfold Builtin.«set.__init__» noKeywords Builtin.Frozenset.updateFrom
        generalize pI0 : pyIter = pI
        wp_walk
        subst pI0

        refine wpAny_pyIter_list aL1 ?_
        refine wpAny_bind (wpAny_runValue ?_)
        have lS : l < s.heap.objs.size := Heap.lt_size hOl
        have nH3 : A.in1.in1.in1.handled = none := by simp [hh]
        have aZ1 : (s.heap.push { cls := .type "set", dict := none, data := .set #[] 0 (.fresh 0 0 (!w.params.followText "set-order")) }).objs.size = s.heap.objs.size + 1 := Heap.size_push ..
        have nI : l ≠ (s.heap.push { cls := .type "set", dict := none, data := .set #[] 0 (.fresh 0 0 (!w.params.followText "set-order")) }).objs.size := by
          rw [Heap.size_push]; exact Nat.ne_of_lt (Nat.lt_succ_of_lt lS)
        have nSf : s.heap.objs.size ∉ [(s.heap.push { cls := .type "set", dict := none, data := .set #[] 0 (.fresh 0 0 (!w.params.followText "set-order")) }).objs.size, l] := by
          rw [Heap.size_push]; simp only [List.mem_cons, List.mem_singleton, List.not_mem_nil, or_false, not_or]
          exact ⟨Nat.ne_of_lt (Nat.lt_succ_self _), Nat.ne_of_gt lS⟩
        have vL : ∀ (i : Nat) (v : Value), items[i]? = some v → ∃ k t, xs[i]? = some k ∧ v = .str k t := fun i v hv => by
          have iN : i < xs.length := by rw [← iSz]; exact (Array.getElem?_eq_some_iff.mp hv).1
          obtain ⟨tk0, e0⟩ := SS.strs_at iT i v (by rw [Array.getElem?_toList]; exact hv)
          refine ⟨xs[i], tk0, List.getElem?_eq_getElem iN, ?_⟩
          rw [e0, List.getD_eq_getElem?_getD, List.getElem?_eq_getElem iN] <;> rfl
        refine set_update_txts ((Walks.list nH3 _ l nI items).toS) s.heap.objs.size
          nSf xs iSz hb vL (items.size - 0) 0 _ (by omega) (Nat.zero_le _)
          ⟨⟨_, Heap.get?_push_size _ rfl, rfl, rfl⟩, (aL1.push _)⟩ ?hS0 ?kR
        case hS0 =>
          have gT : ((s.heap.push { cls := .type "set", dict := none, data := .set #[] 0 (.fresh 0 0 (!w.params.followText "set-order")) }).push { cls := .type "list_iterator", data := .fields #[.ref l, .int 0 0] }).get? s.heap.objs.size
              = some { cls := .type "set", dict := none, data := .set #[] 0 (.fresh 0 0 (!w.params.followText "set-order")) } := Heap.get?_push_of_some _ hX
          exact ⟨0, Nat.le_refl 0, setX_new_at gT⟩
        case kR =>
          intro sA c' mv hc' hX'
          obtain ⟨hA, g2, dA, tA, oA⟩ := sA
          have eg : g2 = s.gens := mv.gens
          have ed : dA = s.drawn := mv.drawn
          have eo : oA = s.os := mv.os
          subst eg; subst ed; subst eo
          show wpAny _ _ _ _ _ _
          refine wpAny_pure ?_
          show wpAny _ _ (ret Value.none) _ _ _
          rw [iSz] at hc'
          refine wpAny_pure ⟨rfl, hA, tA, c', rfl, hX', hc', fun b o e => ?_⟩
          have bB0 : b < s.heap.objs.size := Heap.lt_size e
          have bB1 : b ≠ s.heap.objs.size := Nat.ne_of_lt bB0
          have bB2 : b ≠ (s.heap.push { cls := .type "set", dict := none, data := .set #[] 0 (.fresh 0 0 (!w.params.followText "set-order")) }).objs.size := by
            rw [Heap.size_push]; exact Nat.ne_of_lt (Nat.lt_succ_of_lt bB0)
          exact mv.heap b o (by simp only [List.mem_cons, List.mem_singleton, List.not_mem_nil, or_false, not_or]; exact ⟨bB1, bB2⟩) (Heap.get?_push_of_some _ (Heap.get?_push_of_some _ e))

      · cases r₂ with
        | error e => exact rr2
        | ok fl₂ =>
          cases fl₂ with
          | ret r =>
            obtain ⟨rfl, hA, tk, c', rfl, hX', hc', hk'⟩ := rr2
            repeat (any_goals (first | assumption | wp_step))
            exact h _ _ _ hX' hc' hk'
          | _ => exact rr2.elim
    | _ => exact rr1.elim
end
end VL

/-! sorted(set(texts)) -/
namespace VL
open PySem PySem.Spec PyProof.Rows L2
section
variable {P : Program} {w : World} {A : Around} {E : Value → Shared → Prop} {s : Shared} {a : Addr} {S : Str → Bool} {n : Nat}
theorem strict_of {l : List Str} (h : l.Pairwise fun x y => leS x y = true) (d : l.Nodup) : l.Pairwise fun x y => leS x y = true ∧ x ≠ y := h.and d
theorem sorted_setX {Q : Value → Shared → Prop} (RX : SetX w s.heap a S n) (hh : A.handled = none)
    (kQ : ∀ sA p (out : Array Value) (c : Nat) (xs : List Str), (∀ b o, s.heap.get? b = some o → sA.heap.get? b = some o) → sA.gens = s.gens → sA.os = s.os → s.heap.objs.size ≤ p → sA.heap.get? p = some (seqObj "list" out c) →
      StrsAre out.toList xs → sortedS xs = true → xs.Nodup → (∀ k, k ∈ xs ↔ S k = true) → xs.length = n → Q (.ref p) sA) : wpAny (model P w) A (call (.builtin "sorted") [.ref a]) Q E s := by
  obtain ⟨o, ez, ep, tb, gO, gX, gD, g, gN, gM, gB, gF, gZ, gR, gL⟩ := RX
  refine Calls.call_function_entry kind_sorted plain_sorted entry_sorted (args_sorted1 _) ?_
  unfold Builtin.«sorted»
  refine wpAny_bind (m := checkCount "sorted" 1 1 _) (wpAny_pure ?_)
  refine wpAny_bind (collect_set (A := A.in1) hh ⟨o, gO, gX.1, gD⟩ gF gB gR gL fun s1 vs k1 z1 g1 o1 pm => ?_)
  have vl : vs.length = n := by rw [pm.length_eq, List.length_map, Array.length_toList]; exact gZ
  have nl : n ≤ sizeLine := by rw [← gZ]; exact fits_of_scanBound gB
  have hS : StrsAre vs (vs.map strOf) := strsAre_map vs fun v hv => by
    obtain ⟨e, he, q⟩ := List.mem_map.mp (pm.mem_iff.mp hv)
    obtain ⟨k, tk, e1, _⟩ := g e he
    exact ⟨k, tk, by rw [← q]; exact e1⟩
  have pk : (vs.map strOf).Perm (ez.toList.map keyT) := by
    have q := pm.map strOf
    rw [List.map_map] at q
    have : ez.toList.map (strOf ∘ fun e => e.2) = ez.toList.map keyT := List.map_congr_left fun e he => by
      obtain ⟨k, tk, e1, _⟩ := g e he
      show strOf e.2 = keyT e
      unfold keyT
      rw [e1]
      rfl
    rw [this] at q
    exact q
  refine wpAny_bind (wpAny_newList ?_ (by rw [vl]; exact nl))
  have oL : (s1.heap.push (seqObj "list" vs.toArray 0)).get? s1.heap.objs.size = some (seqObj "list" vs.toArray 0) := Heap.get?_push_size _ rfl
  refine wpAny_bind (wpAny_holding (wpAny_call_entry slot_list_sort ⟨_, oL, rfl⟩ entry_list_sort (list_sort_treeKAny strKind_oneLt oL hS.keysOf (fun v₁ v₂ rest e => keyKind_strs (by rw [← e]; exact hS)) (by rw [vl]; exact nl) fun st hp hs => ⟨_, rfl, ?_⟩) (args_list_sort _)))
  obtain ⟨xs, x1, x2, x3⟩ := sorted_out_str hS hp hs
  obtain ⟨c, hc⟩ := sortedHeap_at (vs := vs) (out := (arrOf st).map (·.2)) oL
  have pn : xs.Perm (ez.toList.map keyT) := x2.trans pk
  refine wpAny_pure ⟨_, rfl, kQ _ s1.heap.objs.size _ c xs (fun b u e => ?_) g1 o1 z1 hc x1 x3 (pn.nodup_iff.mpr gN) (fun k => by rw [pn.mem_iff, ← gM k]) ?_⟩
  · have q := k1 b u e
    have lt := Heap.lt_size q
    show (sortedHeap (s1.heap.push (seqObj "list" vs.toArray 0)) s1.heap.objs.size vs ((arrOf st).map (·.2))).get? b = some u
    rw [sortedHeap_old (Nat.ne_of_lt lt) (by rw [size_push']; exact Nat.lt_succ_of_lt lt)]
    exact Heap.get?_push_of_some _ q
  · rw [pn.length_eq, List.length_map, Array.length_toList]; exact gZ
end
/-- the set of texts at a -/
def SetXO (w : World) (a : Addr) (S : Str → Bool) (n : Nat) : HO := .ext fun h => SetX w h a S n
theorem setXO_new {w : World} {P : Program} {H : Hp} {h : Heap} {a : Addr} {S : Str → Bool} {n : Nat} (R : SetX w h a S n) : ObjOk P w H h a (SetXO w a S n) := by
  have ⟨o, _, _, _, ho, _⟩ := R
  exact ⟨R, ⟨o, ho⟩, fun h1 h2 p k => SetX.at p k⟩
section
variable {X : Cx}
/-- set(xs), xs a list of texts -/
def rSetX (K : PySem.W.Frag) (w : World) : List V → Hp → VK → Prop := fun vs H Q => ∃ (l : Addr) (xs : List Str), vs = [V.ref l] ∧ SqL K H l (xs.map V.str) ∧ xs.length + 1 < scanBound ∧
  ∀ (p : Addr) (S : Str → Bool) (c : Nat), (∀ k, S k = decide (k ∈ xs)) → c ≤ xs.length → H p = none → Q (.ref p) (upd H p (SetXO w p S c))
theorem cr_setX (hc : X.calm = true) : CallR X (.type "set") (rSetX X.K X.w) := by
  intro pins s σ H vs us Q I r h
  obtain ⟨l, xs, rfl, hs, hb, q⟩ := h
  obtain ⟨its, rv, hl, _⟩ := I.list hs
  rw [Vals.ref1 r]
  have hn : H s.heap.objs.size = none := I.hok.fresh (Nat.le_refl _)
  refine call_set_lstT (P := X.prog) (w := X.w) xs (I.ok.hd hc) hl.isList (by simpa using rv.strs) hb fun hA tk c R cl k => ?_
  exact ⟨.ref s.heap.objs.size, upd H s.heap.objs.size (SetXO X.w s.heap.objs.size _ c), I.laid (t' := tk) k (Nat.le_refl _) (setXO_new R), rfl, q _ _ _ (fun _ => rfl) cl hn⟩
/-- sorted(set) -/
def rSortX (w : World) : List V → Hp → VK → Prop := fun vs H Q => ∃ (a : Addr) (S : Str → Bool) (n : Nat), vs = [V.ref a] ∧ H a = some (SetXO w a S n) ∧ n ≤ sizeLine ∧
  ∀ (ys : List Str) (p : Addr), sortedS ys = true → ys.Nodup → (∀ k : Str, k ∈ ys ↔ S k = true) → H p = none → Q (.ref p) (upd H p (.lst (ys.map V.str)))
theorem cr_sortX (hc : X.calm = true) : CallR X (.builtin "sorted") (rSortX X.w) := by
  intro pins s σ H vs us Q I r h
  obtain ⟨a, S, n, rfl, ha, h64, q⟩ := h
  have RX : SetX X.w s.heap a S n := (I.hok a _ ha).1
  rw [Vals.ref1 r]
  refine sorted_setX RX (I.ok.hd hc) fun sA p out c ys k g o hp hg hi hs hd hm hl => ?_
  have hlen : (ys.map V.str).length ≤ sizeLine := by rw [List.length_map, hl]; exact h64
  have hn : H p = none := I.hok.fresh hp
  have J : Inv X pins σ (upd H p (.lst (ys.map V.str))) { s with heap := sA.heap, gens := sA.gens, drawn := sA.drawn, toks := sA.toks } :=
    I.call (ch := []) (Un.laid k hp hn) (I.hok.laid k hp ⟨hlen, out.toList, c, vals_of_strs hi, hg⟩) (by rw [g]; exact I.bare) fun _ z => nomatch z
  have e : sA = { s with heap := sA.heap, gens := sA.gens, drawn := sA.drawn, toks := sA.toks } := by
    cases sA
    cases s
    cases o
    rfl
  rw [e]
  exact ⟨.ref p, _, J, rfl, q ys p hs hd hm hn⟩
end
/-! ### as plain values -/
def dedupS : List Str → List Str
  | [] => []
  | x :: xs => if x ∈ dedupS xs then dedupS xs else x :: dedupS xs
theorem dedup_mem {k : Str} : ∀ {xs : List Str}, k ∈ dedupS xs ↔ k ∈ xs
  | [] => Iff.rfl
  | x :: xs => by
    unfold dedupS
    split
    · rename_i h
      rw [dedup_mem, List.mem_cons]
      constructor
      · exact .inr
      · rintro (rfl | q)
        · exact dedup_mem.mp h
        · exact q
    · rw [List.mem_cons, List.mem_cons, dedup_mem]
theorem dedup_nodup : ∀ xs : List Str, (dedupS xs).Nodup
  | [] => List.nodup_nil
  | x :: xs => by
    unfold dedupS
    split
    · exact dedup_nodup xs
    · rename_i h
      exact List.nodup_cons.mpr ⟨h, dedup_nodup xs⟩
def setS (xs : List Str) : List Str := sortS (dedupS xs)
theorem setS_is {xs ys : List Str} (h : ys.Pairwise fun a b => leS a b = true) (d : ys.Nodup) (m : ∀ k, k ∈ ys ↔ k ∈ xs) : ys = setS xs :=
  sortS_is ((List.perm_ext_iff_of_nodup d (dedup_nodup xs)).mpr fun k => by rw [m, dedup_mem]) h
def sortsetO : List D → Option OD
  | [.lst ds] => (strsD ds).bind fun xs => if xs.length + 1 < scanBound then some (.L ((setS xs).map .str)) else none
  | _ => none
section
variable {X : Cx} {y : Yo} {W : WX} {a : Expr} {g : EM (List D)}
theorem vn_sortedset {j : Nat} {p0 p1 pos1 pos : Pos} (v : Cv X W j) (m1 : X.mg "sorted" = none) (m2 : X.mg "set" = none) (ha : VA X y W [a] g) (hg1 : Gl X "sorted" := by rfl) (hg2 : Gl X "set" := by rfl)
    (he2 : starEach [a] X.env = (false, eval a X.env) :: starEach [] X.env := by rfl) (hpl2 : (backTo pos1 (starEach [] X.env)).any (·.1) = false := by rfl)
    (he1 : starEach [.Call (.Name "set" p1) [a] [] pos1] X.env = (false, eval (.Call (.Name "set" p1) [a] [] pos1) X.env) :: starEach [] X.env := by rfl) (hpl1 : (backTo pos (starEach [] X.env)).any (·.1) = false := by rfl) :
    VN X y W (.Call (.Name "sorted" p0) [.Call (.Name "set" p1) [a] [] pos1] [] pos) (n_ct sortsetO g) := by
  have s1 := pe_callTy (p := p1) (cr_setX v.calm) hg2 m2 bt_set ha (by decide) (by decide) he2 hpl2
  have s2 := pe_callB (p := p0) (cr_sortX v.calm) hg1 m1 bt_sorted (pa_cons s1 pa_nil) (by decide) (by decide) he1 hpl1
  refine pe_weak s2 fun σ H Q ⟨E0, tm, ρ, Hs, k, p⟩ => ?_
  refine tN.bind k p fun xs ρ1 vs Hs1 H1 k1 s1 s1' r1 p1 => ?_
  unfold o2 at p1
  cases e : sortsetO xs with
  | none => rw [e] at p1; exact p1.elim
  | some z =>
    rw [e] at p1
    cases r1 with
    | nil => cases e
    | cons q1 q2 =>
      cases q2 with
      | cons _ _ => cases q1 <;> cases e
      | nil =>
        cases q1 with
        | @lst l vs ds hl hr =>
          have e' : ((strsD ds).bind fun xs => if xs.length + 1 < scanBound then some (OD.L ((setS xs).map .str)) else none) = some z := e
          cases eb : strsD ds with
          | none => rw [eb] at e'; cases e'
          | some bs =>
            rw [eb] at e'
            have e2 : (if bs.length + 1 < scanBound then some (OD.L ((setS bs).map .str)) else none) = some z := e'
            by_cases hb : bs.length + 1 < scanBound
            · rw [if_pos hb] at e2
              have ez := Option.some.inj e2
              subst ez
              have ed := strsD_eq eb
              subst ed
              have ex := hr.strs
              subst ex
              refine ⟨l, bs, rfl, SqL.of (k1.sh _ _ hl), hb, fun p0 S c hS hc hp => ?_⟩
              have k2 := (k1.tmpNew (u := SetXO X.w p0 S c) hp).tmpDrop
              refine ⟨p0, S, c, rfl, upd_same, Nat.le_trans hc (Nat.le_of_lt (Nat.lt_of_lt_of_le (Nat.lt_of_succ_lt hb) (by decide))), fun ys q hs hd hm hq => ?_⟩
              have ey := setS_is (xs := bs) (sortedS_pw hs) hd fun k => by rw [hm, hS]; simp
              subst ey
              refine p1 q _ Hs1 _ (k2.tmpNew hq) (fun hm => ?_) (.refl _) ((same_new hp).trans (same_new hq)) upd_same (.L (RepL.of_strs _))
              obtain ⟨_, _, u', h'⟩ := k2.tmp q hm
              rw [hq] at h'
              cases h'
            · rw [if_neg hb] at e2
              cases e2
        | _ => cases e
end
end VL

/-! more rules: count, in, not in, range of two -/
namespace VL
open PySem PySem.Spec PyProof.Rows L2
/-! ### flat values -/
def flatD : D → Bool
  | .non => true
  | .bl _ => true
  | .int _ => true
  | .str _ => true
  | _ => false
def vF : D → V
  | .bl b => .bl b
  | .int i => .int i
  | .str x => .str x
  | _ => .non
theorem flat_rep {Y : Yc} {H : Hp} {v : V} {d : D} (r : Rep Y H v d) (h : flatD d = true) : v = vF d := by
  cases r <;> first | rfl | cases h
theorem flat_v {d : D} (h : flatD d = true) : flatV (vF d) = true := by
  cases d <;> first | rfl | cases h
theorem flat_reps {Y : Yc} {H : Hp} : ∀ {ds : List D} {vs : List V}, RepL Y H vs ds → ds.all flatD = true → vs = ds.map vF ∧ vs.all flatV = true
  | [], _, .nil, _ => ⟨rfl, rfl⟩
  | d :: ds, _, .cons r t, h => by
    rw [List.all_cons, Bool.and_eq_true] at h
    obtain ⟨e1, e2⟩ := flat_reps t h.2
    have e3 := flat_rep r h.1
    subst e1
    subst e3
    exact ⟨rfl, by rw [List.all_cons, flat_v h.1, e2] <;> rfl⟩
def eqF (a b : D) : Bool := eqV (vF a) (vF b)
/-! ### l.count(x) -/
def countD (x : D) (ys : List D) : Option D := match x, ys with
  | .lst ds, [y] => if flatD y = true ∧ ds.all flatD = true then some (.int (ds.countP fun z => eqF z y : Nat)) else none
  | _, _ => none
def rCntF (K : PySem.W.Frag) : V → List V → Hp → VK → Prop := fun x xs H Q => ∃ (p : Addr) (ws : List V) (z : V), x = .ref p ∧ xs = [z] ∧ SqL K H p ws ∧ flatV z = true ∧ ws.all flatV = true ∧ Q (.int (ws.countP fun y => eqV y z : Nat)) H
theorem countP_eqU {x : V} : ∀ {xs : List V} {us : List Value}, Vals xs us → xs.all flatV = true → us.countP (eqU x) = xs.countP fun y => eqV y x
  | _, _, .nil, _ => rfl
  | y :: xs, u :: us, .cons r t, f => by
    rw [List.all_cons, Bool.and_eq_true] at f
    rw [List.countP_cons, List.countP_cons, eqU_of r f.1, countP_eqU t f.2]
theorem mt_countF {X : Cx} : MtR X "list.count" (rCntF X.K) := by
  intro pins s σ H x xs v us Q I rx rxs h
  obtain ⟨p, ws, z, rfl, rfl, hs, fz, fw, q⟩ := h
  cases rx
  obtain ⟨u, rfl, ru⟩ := rxs.one
  obtain ⟨its, rv, ⟨⟨cls, dd, data, sl⟩, n, ho, hc, hdn, hd⟩, hlen⟩ := I.list hs
  simp only at hc hd
  subst hc hd
  refine call_meets PySem.F.slot_list_count ⟨_, ho, rfl⟩ PySem.F.entry_list_count (PySem.F.args_list_count_2 _ _)
    (SeqAt.list_countAt p its.toArray n dd sl u (eqU z)) ⟨ho, fun y hy => mem_eqAt ru fz rv fw y (by simpa using hy), ?_⟩
  have ec : its.toArray.toList.countP (eqU z) = ws.countP fun y => eqV y z := countP_eqU rv fw
  refine ⟨.int (ws.countP fun y => eqV y z : Nat), H, I.tok _, ⟨s.toks, ?_⟩, q⟩
  rw [ec]
def e_lcount (f : EM D) (g : EM (List D)) : EM D := fun ρ => (f ρ).bind fun x ρ1 => match x with
  | .lst ds => (g ρ1).bind fun ys => o2 (countD (.lst ds) ys)
  | _ => .bad
section
variable {X : Cx} {y : Yo} {W : WX} {a b o e : Expr} {f h : EM D} {g : EM (List D)} {apos pos : Pos}
theorem ve_lcount (ho : VE X y W o f) (ha : VA X y W [e] g) (hbase : attributeBase o "count" X.env (eval o X.env) = eval o X.env := by rfl)
    (hfew : ((backTo pos (starEach [e] X.env)).all (fun x => !x.1) && (backToKw pos (keywordEach [] X.env)).all (fun x => x.1.isSome) && decide ([e].length + ([] : List Keyword).length + (if ([] : List Keyword).isEmpty then 0 else 1) < 30)) = true := by rfl)
    (hline : (apos.endLine == pos.line) = true := by rfl) (hs : starEach [e] X.env = (false, eval e X.env) :: starEach [] X.env := by rfl) (hpl : (backTo pos (starEach [] X.env)).any (·.1) = false := by rfl) :
    VE X y W (.Call (.Attribute o "count" apos) [e] [] pos) (e_lcount f g) := by
  refine pe_weak (pe_bm PySem.F.plainAttrs_list PySem.F.slot_list_count PySem.F.type_list_count mt_countF ho ha hbase hfew hline hs hpl) fun σ H Q ⟨E0, tm, ρ, Hs, k, p⟩ => ?_
  refine tE.bind k p fun x ρ1 v1 Hs1 H1 k1 s1 s1' r1 p1 => ?_
  cases r1 with
  | @lst l vs ds hl hr =>
    refine ⟨.inl ⟨rfl, vs, SqL.of (k1.sh _ _ hl)⟩, ?_⟩
    refine tE.bind k1 p1 fun ws ρ2 us Hs2 H2 k2 s2 s2' r2 p2 => ?_
    unfold o2 at p2
    cases ec : countD (.lst ds) ws with
    | none => rw [ec] at p2; exact p2.elim
    | some z =>
      rw [ec] at p2
      cases r2 with
      | nil => cases ec
      | cons q1 q2 =>
        cases q2 with
        | cons _ _ => cases ec
        | @nil =>
          rename_i w d
          have ec' : (if flatD d = true ∧ ds.all flatD = true then some (D.int (ds.countP fun z => eqF z d : Nat)) else none) = some z := ec
          by_cases hf : flatD d = true ∧ ds.all flatD = true
          · rw [if_pos hf] at ec'
            have ez := Option.some.inj ec'
            subst ez
            obtain ⟨e1, e2⟩ := flat_reps hr hf.2
            have e3 := flat_rep q1 hf.1
            subst e1
            subst e3
            refine ⟨l, _, _, rfl, rfl, SqL.of (k2.sh _ _ (s2 _ _ hl)), flat_v hf.1, e2, PostR.fin p2 k2 ?_⟩
            rw [List.countP_map]
            exact .int _
          · rw [if_neg hf] at ec'
            cases ec'
  | _ => exact p1.elim
/-! ### in a list or tuple of flat items -/
def inLD (neg : Bool) (x w : D) : Option D := (seqD w).bind fun ds => if flatD x = true ∧ ds.all flatD = true then some (.bl (if neg = true then !ds.any (fun y => eqF y x) else ds.any fun y => eqF y x)) else none
theorem seq_rep {Y : Yc} {Hs H : Hp} {v : V} {w : D} {ds : List D} (e : Same Hs H) (r : Rep Y Hs v w) (h : seqD w = some ds) : ∃ p xs, v = .ref p ∧ RepL Y Hs xs ds ∧ (SqL Y.K H p xs ∨ SqT Y.K H p xs) := by
  cases r with
  | @lst a xs ds' ha hr =>
    have := Option.some.inj h
    subst this
    exact ⟨a, xs, rfl, hr, .inl (SqL.of (e _ _ ha))⟩
  | @ll a xs ds' ha hr =>
    have := Option.some.inj h
    subst this
    exact ⟨a, xs, rfl, hr, .inl (ha.imp (rd_same e) id)⟩
  | @tup a xs ds' ha hr =>
    have := Option.some.inj h
    subst this
    exact ⟨a, xs, rfl, hr, .inr (ha.mono e).seq⟩
  | @pr a xs ds' ha hr =>
    have := Option.some.inj h
    subst this
    exact ⟨a, xs, rfl, hr, .inr (sqt_same e ha)⟩
  | _ => cases h
theorem inL_ok {Y : Yc} (neg : Bool) : OpOk Y (rIn Y.K neg) (inLD neg) := by
  intro Hs H vx vy x w z Q e rx ry hz q
  unfold inLD at hz
  cases es : seqD w with
  | none => rw [es] at hz; cases hz
  | some ds =>
    rw [es] at hz
    have hz' : (if flatD x = true ∧ ds.all flatD = true then some (D.bl (if neg = true then !ds.any (fun y => eqF y x) else ds.any fun y => eqF y x)) else none) = some z := hz
    obtain ⟨p, xs, rfl, hr, hq⟩ := seq_rep e ry es
    by_cases hf : flatD x = true ∧ ds.all flatD = true
    · rw [if_pos hf] at hz'
      have ez := Option.some.inj hz'
      subst ez
      obtain ⟨e1, e2⟩ := flat_reps hr hf.2
      have e3 := flat_rep rx hf.1
      subst e1
      subst e3
      refine ⟨p, _, rfl, hq, flat_v hf.1, e2, q _ _ _ (.refl e) ?_⟩
      have : inV (vF x) (ds.map vF) = ds.any fun y => eqF y x := by
        unfold inV
        rw [List.any_map]
        rfl
      rw [this]
      exact .bl _
    · rw [if_neg hf] at hz'
      cases hz'
/-- not in a text -/
def ninsD : D → D → Option D
  | .str x, .str y => some (.bl (!(!(Builtin.Str.occurrences y x 0 y.length 1).isEmpty)))
  | _, _ => none
theorem nins_ok {Y : Yc} : OpOk Y (fun x y H Q => ∃ i j, x = .str i ∧ y = .str j ∧ Q (.bl (!(!(Builtin.Str.occurrences j i 0 j.length 1).isEmpty))) H) ninsD := by
  intro Hs H vx vy x w z Q e rx ry hz q
  cases rx with
  | str i0 =>
    cases ry with
    | str j0 =>
      have ez := Option.some.inj hz
      subst ez
      exact ⟨i0, j0, rfl, rfl, q _ Hs H (.refl e) (.bl _)⟩
    | _ => cases hz
  | _ => cases ry <;> cases hz
/-! ### in a dict -/
theorem dict_get {Y : Yc} {Hs H : Hp} {a : Addr} {xs : List (Key × V)} {kvs : List (Key × D)} {u : V} {w : D} {k : Key} (e : Same Hs H) (ha : Rd Hs a (.dK xs)) (hr : RepK Y Hs xs kvs) (ek : keyD w = some k) (ru : Rep Y Hs u w) : DGet H a u (valV xs k) ∧ (valV xs k).isSome = (valK kvs k).isSome := by
  have eu := keyD_ok ru ek
  subst eu
  obtain ⟨n1, n2⟩ := RepK.val k hr
  refine ⟨.inl ⟨xs, k, rd_same e ha, rfl, rfl⟩, ?_⟩
  cases ev : valK kvs k with
  | none => rw [n1 ev]; rfl
  | some d =>
    obtain ⟨v2, q1, _⟩ := n2 d ev
    rw [q1]
    rfl
theorem tDIn_of (Y : Yc) {σ : L2.St} {H : Hp} {Q : VK} (neg : Bool) (q : tE Y W (fun Hs v d => Rep Y Hs v d) (e_op (if neg = true then dninD else dinD) f h) σ H Q) :
    (if neg = true then tDNotIn (tE Y W (fun Hs v d => Rep Y Hs v d) f) (tE Y W (fun Hs v d => Rep Y Hs v d) h) else tDIn (tE Y W (fun Hs v d => Rep Y Hs v d) f) (tE Y W (fun Hs v d => Rep Y Hs v d) h)) σ H Q := by
  obtain ⟨E0, tm, ρ, Hs, k, p⟩ := q
  have key : tE Y W (fun Hs v d => Rep Y Hs v d) f σ H fun u H1 => tE Y W (fun Hs v d => Rep Y Hs v d) h σ H1 fun x H2 => ∃ a o, x = V.ref a ∧ DGet H2 a u o ∧ Q (.bl (if neg = true then !o.isSome else o.isSome)) H2 := by
    refine tE.bind k p fun w ρ1 u Hs1 H1 k1 s1 s1' r1 p1 => ?_
    refine tE.bind k1 p1 fun x ρ2 v2 Hs2 H2 k2 s2 s2' r2 p2 => ?_
    unfold o2 at p2
    cases r2 with
    | @dct a xs kvs ha hr =>
      have e0 : (if neg = true then dninD else dinD) w (.dct kvs) = (keyD w).map fun k => D.bl (if neg = true then !(valK kvs k).isSome else (valK kvs k).isSome) := by cases neg <;> rfl
      rw [e0] at p2
      cases ek : keyD w with
      | none => rw [ek] at p2; exact p2.elim
      | some kk =>
        rw [ek] at p2
        obtain ⟨g1, g2⟩ := dict_get k2.sh ha hr ek (r1.mono s2)
        refine ⟨a, _, rfl, g1, PostR.fin p2 k2 ?_⟩
        rw [g2]
        exact .bl _
    | _ =>
      have e0 : ∀ d : D, (∀ kvs, d ≠ .dct kvs) → (if neg = true then dninD else dinD) w d = none := fun d hd => by cases neg <;> cases d <;> first | rfl | exact absurd rfl (hd _)
      rw [e0 _ (by intro q0 z0; cases z0)] at p2
      exact p2.elim
  cases neg <;> exact key
theorem ve_dict_in {j : Nat} (v : Cv X W j) (ha : VE X y W a f) (hb : VE X y W b h) (hm : behindInMarks .In b = false := by rfl) : VE X y W (.Compare a [.In] [b] pos) (e_op dinD f h) :=
  pe_weak (pe_cmp (pc_din (hu_of v.room) ha hb) hm) fun _ _ _ q => tDIn_of _ false q
theorem ve_dict_notin {j : Nat} (v : Cv X W j) (ha : VE X y W a f) (hb : VE X y W b h) (hm : behindInMarks .NotIn b = false := by rfl) : VE X y W (.Compare a [.NotIn] [b] pos) (e_op dninD f h) :=
  pe_weak (pe_cmp (pc_dnotin (hu_of v.room) ha hb) hm) fun _ _ _ q => tDIn_of _ true q
theorem vt_dict_in {j : Nat} (v : Cv X W j) (ha : VE X y W a f) (hb : VE X y W b h) (hm : behindInMarks .In b = false := by rfl) : VT X y W (.Compare a [.In] [b] pos) (t_val (e_op dinD f h)) := by
  refine pt_weak (pt_cmp (pc_din (hu_of v.room) ha hb) hm) fun σ H Q ⟨E0, tm, ρ, Hs, k, p⟩ => tDIn_of (yc X y) false ?_
  refine tE.bind k p fun d ρ1 v1 Hs1 H1 k1 s1 s1' r1 p1 => ?_
  unfold o2 at p1
  cases r1 with
  | bl b => exact ⟨b, rfl, p1.fin k1 rfl⟩
  | _ => exact p1.elim
theorem vt_dict_notin {j : Nat} (v : Cv X W j) (ha : VE X y W a f) (hb : VE X y W b h) (hm : behindInMarks .NotIn b = false := by rfl) : VT X y W (.Compare a [.NotIn] [b] pos) (t_val (e_op dninD f h)) := by
  refine pt_weak (pt_cmp (pc_dnotin (hu_of v.room) ha hb) hm) fun σ H Q ⟨E0, tm, ρ, Hs, k, p⟩ => tDIn_of (yc X y) true ?_
  refine tE.bind k p fun d ρ1 v1 Hs1 H1 k1 s1 s1' r1 p1 => ?_
  unfold o2 at p1
  cases r1 with
  | bl b => exact ⟨b, rfl, p1.fin k1 rfl⟩
  | _ => exact p1.elim
end
end VL

/-! more rules: dicts written down -/
namespace VL
open PySem PySem.Spec PyProof.Rows L2
def prE : List (EM D × EM D) → EM (List (D × D))
  | [] => fun ρ => .ok [] ρ
  | (f, h) :: r => fun ρ => (f ρ).bind fun x ρ1 => (h ρ1).bind fun w ρ2 => (prE r ρ2).bind fun ds ρ3 => .ok ((x, w) :: ds) ρ3
abbrev PRep (Y : Yc) (H : Hp) (ps : List (V × V)) (ds : List (D × D)) : Prop := Paired (fun p d => Rep Y H p.1 d.1 ∧ Rep Y H p.2 d.2) ps ds
theorem tPairs_of (Y : Yc) (W : WX) {E0 : Hp × Hp} {tm : List Addr} {σ : L2.St} : ∀ (fs : List (EM D × EM D)) {ρ : Env} {Hs H : Hp} {Q : List (V × V) → Hp → Prop}, Ok Y E0 tm ρ σ Hs H → PostR Y W (fun Hs ps ds => PRep Y Hs ps ds) E0 tm σ Hs H Q (prE fs ρ) →
    tPairs (fs.map fun q => (tE Y W (fun Hs v d => Rep Y Hs v d) q.1, tE Y W (fun Hs v d => Rep Y Hs v d) q.2)) σ H Q
  | [], ρ, Hs, H, Q, k, p => p [] Hs H k (.refl _) (.refl _) .nil
  | (f, h) :: r, ρ, Hs, H, Q, k, p => by
    show tE Y W (fun Hs v d => Rep Y Hs v d) f σ H fun x H1 => tE Y W (fun Hs v d => Rep Y Hs v d) h σ H1 fun y H2 => tPairs (r.map fun q => (tE Y W (fun Hs v d => Rep Y Hs v d) q.1, tE Y W (fun Hs v d => Rep Y Hs v d) q.2)) σ H2 fun ps H3 => Q ((x, y) :: ps) H3
    refine tE.bind k p fun a ρ1 v1 Hs1 H1 k1 s1 s1' r1 p1 => ?_
    refine tE.bind k1 p1 fun b ρ2 v2 Hs2 H2 k2 s2 s2' r2 p2 => ?_
    refine tPairs_of Y W r k2 ?_
    cases e : prE r ρ2 with
    | bad => rw [e] at p2; exact p2
    | ok ds ρ3 =>
      rw [e] at p2
      exact fun ps Hs3 H3 k3 s3 s3' rp => p2 _ Hs3 H3 k3 s3 s3' (.cons ⟨(r1.mono s2).mono s3, r2.mono s3⟩ rp)
    | err c ρ3 =>
      rw [e] at p2
      exact p2
def keysD : List (D × D) → Option (List (Key × D))
  | [] => some []
  | (k, v) :: r => match keyD k, keysD r with
    | some k, some rs => some ((k, v) :: rs)
    | _, _ => none
theorem keys_rep {Y : Yc} {H : Hp} : ∀ {ps : List (V × V)} {ds : List (D × D)} {es : List (Key × D)}, PRep Y H ps ds → keysD ds = some es → ∃ kvs : List (Key × V), ps = kvs.map (fun kv => (kV kv.1, kv.2)) ∧ kvs.length = es.length ∧ RepK Y H kvs es
  | _, _, es, .nil, h => by
    cases h
    exact ⟨[], rfl, rfl, .nil⟩
  | p :: ps, (k, v) :: ds, es, .cons r t, h => by
    have h' : (match keyD k, keysD ds with
      | some k, some rs => some ((k, v) :: rs)
      | _, _ => none) = some es := h
    cases ek : keyD k with
    | none => rw [ek] at h'; cases h'
    | some kk =>
      cases er : keysD ds with
      | none => rw [ek, er] at h'; cases h'
      | some rs =>
        rw [ek, er] at h'
        have ee := Option.some.inj h'
        subst ee
        obtain ⟨kvs, e1, e2, e3⟩ := keys_rep t er
        obtain ⟨p1, p2⟩ := p
        have e4 := keyD_ok r.1 ek
        refine ⟨(kk, p2) :: kvs, by rw [e1, List.map_cons, ← e4], by simp [e2], .cons r.2 e3⟩
def n_disp (fs : List (EM D × EM D)) : EM OD := fun ρ => (prE fs ρ).bind fun ds => o2 ((keysD ds).bind fun es => if es.length ≤ 15 then some (.K (mergeD [] es)) else none)
section
variable {X : Cx} {y : Yo} {W : WX} {pos : Pos}
inductive VDs (X : Cx) (y : Yo) (W : WX) (pos : Pos) : List (Option Expr) → List Expr → List (EM D × EM D) → Prop
  | nil : VDs X y W pos [] [] []
  | cons {k v : Expr} {ks : List (Option Expr)} {vs : List Expr} {f h : EM D} {fs : List (EM D × EM D)} : VE X y W k f → VE X y W v h → VDs X y W pos ks vs fs → VDs X y W pos (some k :: ks) (v :: vs) ((f, h) :: fs)
theorem VDs.pps : ∀ {ks : List (Option Expr)} {vs : List Expr} {fs : List (EM D × EM D)}, VDs X y W pos ks vs fs → PPs X pos ks vs (fs.map fun q => (tE (yc X y) W (fun Hs v d => Rep (yc X y) Hs v d) q.1, tE (yc X y) W (fun Hs v d => Rep (yc X y) Hs v d) q.2))
  | _, _, _, .nil => pps_nil
  | _, _, _, .cons a b c => pps_cons a b c.pps
theorem vn_disp {ks : List (Option Expr)} {vs : List Expr} {fs : List (EM D × EM D)} (h : VDs X y W pos ks vs fs) (hall : ks.all (·.isSome) = true := by rfl) (hl : ks.length = vs.length := by rfl) (h0 : ks ≠ [] := by simp) (h15 : ks.length ≤ 15 := by decide) :
    VN X y W (.Dict ks vs pos) (n_disp fs) := by
  refine pe_weak (pe_disp h.pps hall hl h0 h15) fun σ H Q ⟨E0, tm, ρ, Hs, k, p⟩ => ?_
  intro a ha
  have k0 := k.tmpNew (u := .dK []) ha
  refine tPairs_of (yc X y) W fs k0 ?_
  unfold n_disp at p
  cases e : prE fs ρ with
  | bad => rw [e] at p; exact p
  | err c ρ1 =>
    rw [e] at p
    exact fun Hs1 H1 k1 s1 s1' => p Hs1 H1 k1.tmpDrop s1 ((same_new ha).trans s1')
  | ok ds ρ1 =>
    rw [e] at p
    intro ps Hs1 H1 k1 s1 s1' rp
    have p' : PostN (yc X y) W E0 tm σ Hs H Q (o2 ((keysD ds).bind fun es => if es.length ≤ 15 then some (.K (mergeD [] es)) else none) ρ1) := p
    unfold o2 at p'
    cases ek : keysD ds with
    | none => rw [ek] at p'; exact p'.elim
    | some es =>
      rw [ek] at p'
      rw [Option.bind_some] at p'
      by_cases hz : es.length ≤ 15
      · rw [if_pos hz] at p'
        obtain ⟨kvs, e1, e2, e3⟩ := keys_rep rp ek
        have hn : a ∉ tm := fun hm => by
          obtain ⟨_, _, u', h'⟩ := k.tmp a hm
          rw [ha] at h'
          cases h'
        refine ⟨s1' _ _ upd_same, kvs, e1, by omega, ?_⟩
        exact p' a _ Hs1 _ (k1.tmpWrite hn) hn s1 (fun b u hb => by
          have hne : b ≠ a := fun z => by
            rw [z, ha] at hb
            cases hb
          rw [upd_ne hne]
          exact s1' _ _ (by rw [upd_ne hne]; exact hb)) upd_same (.K (e3.merge .nil))
      · rw [if_neg hz] at p'
        exact p'.elim
end
end VL

/-! sorted of any data that can be told apart place by place; range of two, abs -/
namespace VL
open PySem PySem.Spec PyProof.Rows L2
def headed : PyData → Bool
  | .tuple (_ :: _) => true
  | _ => false
def bare : PyData → Bool
  | .none => false
  | .tuple _ => false
  | _ => true
def sortOk (ds : List D) : Bool := (ds.all fun a => ds.all fun b => PySem.W.alike a.toP b.toP) && ((ds.all (fun d => headed d.toP) || ds.all fun d => bare d.toP) && (ds.all (fun d => d.toP.canLay0 && decide (d.toP.depth ≤ 8)) && decide (ds.length ≤ 16777216)))
abbrev leT (a b : D) : Bool := PySem.W.dataLe false D.toP a b
def sortedG : List D → Option OD
  | [.lst ds] => if sortOk ds = true then some (.L (ds.mergeSort leT)) else none
  | _ => none
def rSortG (K : PySem.W.Frag) : List V → Hp → VK → Prop := fun vs H Q => ∃ (a : Addr) (bs : List (V × PyData)), vs = [V.ref a] ∧ SqL K H a (bs.map (·.1)) ∧ (∀ b ∈ bs, Dp K H b.1 b.2) ∧ PySem.W.AllAlike (bs.map (·.2)) ∧ PySem.W.Sortable (bs.map (·.2)) ∧ bs.length ≤ sizeLine ∧ (∀ b ∈ bs, b.2.depth ≤ 8) ∧
  ∀ p, H p = none → Q (.ref p) (upd H p (.lst ((bs.mergeSort (PySem.W.dataLe false (·.2))).map (·.1))))
theorem each_of : ∀ {bs : List (V × PyData)} {us : List Value}, Vals (bs.map (·.1)) us → PySem.W.EachIs (fun v (b : V × PyData) => RelV b.1 v) us bs
  | [], _, .nil => .nil
  | b :: bs, _, .cons r t => .cons r (each_of t)
theorem each_reads {X : Cx} {pins : List (Addr × Obj)} {σ : L2.St} {H : Hp} {s : Shared} (I : Inv X pins σ H s) : ∀ {bs : List (V × PyData)} {us : List Value}, Vals (bs.map (·.1)) us → (∀ b ∈ bs, Dp X.K H b.1 b.2) → PySem.W.EachIs (fun v (b : V × PyData) => ∃ as, Reads s.heap v b.2 as) us bs
  | [], _, .nil, _ => .nil
  | b :: bs, _, .cons r t, h => .cons (Dp.reads I _ _ _ (h b (List.mem_cons_self ..)) r) (each_reads I t fun x m => h x (List.mem_cons_of_mem _ m))
theorem vals_each : ∀ {bs : List (V × PyData)} {us : List Value}, PySem.W.EachIs (fun v (b : V × PyData) => RelV b.1 v) us bs → Vals (bs.map (·.1)) us
  | _, _, .nil => .nil
  | _, _, .cons r t => .cons r (vals_each t)
theorem cr_sortG {X : Cx} (hu : X.A.units + 64 < cLine) : CallR X (.builtin "sorted") (rSortG X.K) := by
  intro pins s σ H vs us Q I r h
  obtain ⟨a, bs, rfl, hs, hd, hal, hk, hz, hp, q⟩ := h
  obtain ⟨its, rv, hl, _⟩ := I.list hs
  rw [Vals.ref1 r]
  refine PySem.W.sorted_data (enc := fun b : V × PyData => b.2) hl.isList (each_of rv) (each_reads I rv hd) hal hk hz (fun b hb => by have := hp b hb; show X.A.units + 2 + b.2.depth < cLine; omega) fun out ho eo => ?_
  obtain ⟨ep, he⟩ := PyProof.Rows.sortedAll_at s.heap its (List.toArray out)
  have hlen : ((bs.mergeSort (PySem.W.dataLe false (·.2))).map (·.1)).length ≤ sizeLine := by rw [List.length_map, (List.mergeSort_perm _ _).length_eq]; exact hz
  exact ⟨.ref _, upd H (s.heap.objs.size + 1) (.lst ((bs.mergeSort (PySem.W.dataLe false (·.2))).map (·.1))), I.laid (t' := s.toks) (fun _ _ => PyProof.Rows.sortedAll_old) (Nat.le_succ _) ⟨hlen, out, ep, vals_each eo, he⟩, rfl, q _ (I.hok.fresh (Nat.le_succ _))⟩
theorem zip_fst {α β : Type} : ∀ {xs : List α} {ys : List β}, xs.length = ys.length → (xs.zip ys).map (·.1) = xs
  | [], [], _ => rfl
  | x :: xs, y :: ys, h => by
    rw [List.zip_cons_cons, List.map_cons, zip_fst (Nat.succ.inj h)]
theorem zip_snd {α β : Type} : ∀ {xs : List α} {ys : List β}, xs.length = ys.length → (xs.zip ys).map (·.2) = ys
  | [], [], _ => rfl
  | x :: xs, y :: ys, h => by
    rw [List.zip_cons_cons, List.map_cons, zip_snd (Nat.succ.inj h)]
theorem rep_zip {Y : Yc} {H : Hp} : ∀ {vs : List V} {ds : List D}, RepL Y H vs ds → ∀ t ∈ vs.zip ds, Rep Y H t.1 t.2
  | _, _, .nil, t, h => by simp at h
  | _, _, .cons r q, t, h => by
    rw [List.zip_cons_cons] at h
    rcases List.mem_cons.mp h with rfl | h
    · exact r
    · exact rep_zip q t h
theorem rep_list {Y : Yc} {H : Hp} : ∀ {ts : List (V × D)}, (∀ t ∈ ts, Rep Y H t.1 t.2) → RepL Y H (ts.map (·.1)) (ts.map (·.2))
  | [], _ => .nil
  | t :: ts, h => .cons (h t (List.mem_cons_self ..)) (rep_list fun x m => h x (List.mem_cons_of_mem _ m))
theorem sortG_ok {Y : Yc} : NwOk Y (rSortG Y.K) sortedG := by
  intro Hs H vs ds z Q e r hz q
  cases r with
  | nil => cases hz
  | cons r1 r2 =>
    cases r2 with
    | cons _ _ => cases r1 <;> cases hz
    | nil =>
      cases r1 with
      | @lst a xs ds ha hr =>
        have hz' : (if sortOk ds = true then some (OD.L (ds.mergeSort leT)) else none) = some z := hz
        by_cases hok : sortOk ds = true
        · rw [if_pos hok] at hz'
          have ez := Option.some.inj hz'
          subst ez
          have hl : xs.length = ds.length := hr.length
          unfold sortOk at hok
          simp only [Bool.and_eq_true, Bool.or_eq_true, List.all_eq_true, decide_eq_true_eq] at hok
          obtain ⟨h1, h2, h3, h4⟩ := hok
          have hlen : (xs.zip ds).length = ds.length := by rw [List.length_zip, hl]; exact Nat.min_self _
          have esnd : (xs.zip ds).map (·.2) = ds := zip_snd hl
          have mem2 : ∀ t ∈ xs.zip ds, t.2 ∈ ds := fun t ht => (List.of_mem_zip ht).2
          have em : ((xs.zip ds).map fun t => (t.1, t.2.toP)).map (·.1) = xs := by
            rw [List.map_map]
            exact (List.map_congr_left fun t _ => rfl).trans (zip_fst hl)
          have ep : ((xs.zip ds).map fun t => (t.1, t.2.toP)).map (·.2) = (xs.zip ds).map fun t => t.2.toP := by
            rw [List.map_map]
            rfl
          refine ⟨a, (xs.zip ds).map fun t => (t.1, t.2.toP), rfl, by rw [em]; exact SqL.of (e _ _ ha), fun b hb => ?_, fun d hd d' hd' => ?_, ?_, by rw [List.length_map, hlen]; exact h4, fun b hb => ?_, fun p hp => ?_⟩
          · obtain ⟨t, ht, rfl⟩ := List.mem_map.mp hb
            exact ((rep_zip hr t ht).mono e).dp (h3 _ (mem2 t ht)).1
          · rw [ep] at hd hd'
            obtain ⟨t, ht, rfl⟩ := List.mem_map.mp hd
            obtain ⟨t', ht', rfl⟩ := List.mem_map.mp hd'
            exact h1 _ (mem2 t ht) _ (mem2 t' ht')
          · rw [ep]
            rcases h2 with h2 | h2
            · refine .inl fun d hd => ?_
              obtain ⟨t, ht, rfl⟩ := List.mem_map.mp hd
              have := h2 _ (mem2 t ht)
              unfold headed at this
              split at this
              · exact ⟨_, _, by assumption⟩
              · cases this
            · refine .inr fun d hd => ?_
              obtain ⟨t, ht, rfl⟩ := List.mem_map.mp hd
              have := h2 _ (mem2 t ht)
              unfold bare at this
              split at this
              · cases this
              · cases this
              · rename_i n1 n2
                exact ⟨n1, n2⟩
          · obtain ⟨t, ht, rfl⟩ := List.mem_map.mp hb
            exact (h3 _ (mem2 t ht)).2
          · refine q p _ hp ?_
            have e1 : (((xs.zip ds).map fun t => (t.1, t.2.toP)).mergeSort (PySem.W.dataLe false (·.2))) = ((xs.zip ds).mergeSort fun t u => leT t.2 u.2).map fun t => (t.1, t.2.toP) := (List.map_mergeSort (f := fun t : V × D => (t.1, t.2.toP)) (r := fun t u => leT t.2 u.2) (s := PySem.W.dataLe false fun b : V × PyData => b.2) fun _ _ _ _ => rfl).symm
            have e2 : ds.mergeSort leT = ((xs.zip ds).mergeSort fun t u => leT t.2 u.2).map (·.2) := by
              have : ((xs.zip ds).mergeSort fun t u => leT t.2 u.2).map (·.2) = ((xs.zip ds).map (·.2)).mergeSort leT := List.map_mergeSort fun _ _ _ _ => rfl
              rw [this, esnd]
            rw [e1, List.map_map, e2]
            refine .L (rep_list (ts := (xs.zip ds).mergeSort fun t u => leT t.2 u.2) fun t ht => rep_zip hr t ((List.mergeSort_perm _ _).mem_iff.mp ht))
        · rw [if_neg hok] at hz'
          cases hz'
      | _ => cases hz
/-! ### range(m, n) -/
section
variable {X : Cx} {y : Yo} {W : WX} {tg e e2 : Expr} {g : EM (List D)} {p0 pos : Pos}
def absD : List D → Option D
  | [.int i] => some (.int (if i < 0 then -i else i))
  | _ => none
theorem abs_ok {Y : Yc} : ClOk Y (fun xs H Q => ∃ i, xs = [.int i] ∧ Q (.int (if i < 0 then -i else i)) H) absD := by
  intro Hs H vs ds z Q e r hz q
  cases r with
  | nil => cases hz
  | cons r1 r2 =>
    cases r2 with
    | cons _ _ => cases r1 <;> cases hz
    | nil =>
      cases r1 with
      | int i =>
        have ez := Option.some.inj hz
        subst ez
        exact ⟨i, rfl, q _ _ _ (.refl e) (.int _)⟩
      | _ => cases hz
theorem vi_range2 (hm : X.mg "range" = none) (ha : VA X y W [e, e2] g) (hg : Gl X "range" := by rfl) (hs : starEach [e, e2] X.env = [(false, eval e X.env), (false, eval e2 X.env)] := by rfl) (hs2 : starEach [e2] X.env = [(false, eval e2 X.env)] := by rfl) : VI X y W tg (.Call (.Name "range" p0) [e, e2] [] pos) (i_range2 g) := by
  refine pi_weak (pi_range2 hg hm ha hs hs2) fun σ H R ⟨E0, tm, ρ, Hs, k, p⟩ => ?_
  refine tI.of k p fun ds ρ1 vs Hs1 H1 k1 s1 s1' r1 _ p1 => ?_
  cases r1 with
  | nil => exact p1.elim
  | cons q1 q2 =>
    cases q2 with
    | nil => cases q1 <;> exact p1.elim
    | cons q3 q4 =>
      cases q4 with
      | cons _ _ => cases q1 <;> cases q3 <;> exact p1.elim
      | nil =>
        cases q1 with
        | int m =>
          cases q3 with
          | int n =>
            by_cases hb : (-(2 ^ 62) ≤ m ∧ m < 2 ^ 62) ∧ -(2 ^ 62) ≤ n ∧ n < 2 ^ 62
            · have p2 : match o2 (if (-(2 ^ 62) ≤ m ∧ m < 2 ^ 62) ∧ -(2 ^ 62) ≤ n ∧ n < 2 ^ 62 then some (rangeD m (n - m).toNat) else none) ρ1 with
                | .bad => False
                | .ok ds ρ' => ∀ J Hs' H', Ok (yc X y) E0 tm ρ' σ Hs' H' → Same Hs1 Hs' → Same H1 H' → Wk (yc X y) J Hs' ds → R J H'
                | .err c ρ' => ∀ Hs' H', Ok (yc X y) E0 tm ρ' σ Hs' H' → Same Hs1 Hs' → Same H1 H' → W (.ref ((yc X y).ca c)) none σ H' := p1
              rw [if_pos hb] at p2
              exact ⟨m, n, rfl, ⟨hb.1.1, hb.1.2, hb.2.1, hb.2.2⟩, p2 _ Hs1 H1 k1 (.refl _) (.refl _) (wk_range m (n - m).toNat)⟩
            · have p2 : match o2 (if (-(2 ^ 62) ≤ m ∧ m < 2 ^ 62) ∧ -(2 ^ 62) ≤ n ∧ n < 2 ^ 62 then some (rangeD m (n - m).toNat) else none) ρ1 with
                | .bad => False
                | .ok ds ρ' => ∀ J Hs' H', Ok (yc X y) E0 tm ρ' σ Hs' H' → Same Hs1 Hs' → Same H1 H' → Wk (yc X y) J Hs' ds → R J H'
                | .err c ρ' => ∀ Hs' H', Ok (yc X y) E0 tm ρ' σ Hs' H' → Same Hs1 Hs' → Same H1 H' → W (.ref ((yc X y).ca c)) none σ H' := p1
              rw [if_neg hb] at p2
              exact p2.elim
          | _ => exact p1.elim
        | _ => cases q3 <;> exact p1.elim
end
end VL

/-! min, max of a list of ints; in a list of data -/
namespace VL
open PySem PySem.Spec PyProof.Rows L2
def minZ : List Int → Option Int
  | [] => none
  | x :: xs => some (xs.foldl min x)
def maxZ : List Int → Option Int
  | [] => none
  | x :: xs => some (xs.foldl max x)
theorem foldl_min : ∀ (xs : List Int) (x : Int), (xs.foldl min x = x ∨ xs.foldl min x ∈ xs) ∧ xs.foldl min x ≤ x ∧ ∀ z ∈ xs, xs.foldl min x ≤ z
  | [], x => ⟨.inl rfl, Int.le_refl _, fun z h => by cases h⟩
  | y :: xs, x => by
    obtain ⟨h1, h2, h3⟩ := foldl_min xs (min x y)
    show (xs.foldl min (min x y) = x ∨ xs.foldl min (min x y) ∈ y :: xs) ∧ xs.foldl min (min x y) ≤ x ∧ ∀ z ∈ y :: xs, xs.foldl min (min x y) ≤ z
    refine ⟨?_, by omega, fun z hz => ?_⟩
    · rcases h1 with h1 | h1
      · rw [h1]
        by_cases q : x ≤ y
        · exact .inl (by omega)
        · exact .inr (by rw [show min x y = y by omega]; exact List.mem_cons_self ..)
      · exact .inr (List.mem_cons_of_mem _ h1)
    · rcases List.mem_cons.mp hz with rfl | hz
      · omega
      · exact h3 z hz
theorem foldl_max : ∀ (xs : List Int) (x : Int), (xs.foldl max x = x ∨ xs.foldl max x ∈ xs) ∧ x ≤ xs.foldl max x ∧ ∀ z ∈ xs, z ≤ xs.foldl max x
  | [], x => ⟨.inl rfl, Int.le_refl _, fun z h => by cases h⟩
  | y :: xs, x => by
    obtain ⟨h1, h2, h3⟩ := foldl_max xs (max x y)
    show (xs.foldl max (max x y) = x ∨ xs.foldl max (max x y) ∈ y :: xs) ∧ x ≤ xs.foldl max (max x y) ∧ ∀ z ∈ y :: xs, z ≤ xs.foldl max (max x y)
    refine ⟨?_, by omega, fun z hz => ?_⟩
    · rcases h1 with h1 | h1
      · rw [h1]
        by_cases q : y ≤ x
        · exact .inl (by omega)
        · exact .inr (by rw [show max x y = y by omega]; exact List.mem_cons_self ..)
      · exact .inr (List.mem_cons_of_mem _ h1)
    · rcases List.mem_cons.mp hz with rfl | hz
      · omega
      · exact h3 z hz
def minLD : List D → Option D
  | [.lst ds] => ((intsD ds).bind minZ).map .int
  | _ => none
def maxLD : List D → Option D
  | [.lst ds] => ((intsD ds).bind maxZ).map .int
  | _ => none
theorem minL_ok {Y : Yc} : ClOk Y (rMin Y.K) minLD := by
  intro Hs H vs ds z Q e r hz q
  cases r with
  | nil => cases hz
  | cons r1 r2 =>
    cases r2 with
    | cons _ _ => cases r1 <;> cases hz
    | nil =>
      cases r1 with
      | @lst a xs ds ha hr =>
        have hz' : ((intsD ds).bind minZ).map D.int = some z := hz
        cases ei : intsD ds with
        | none => rw [ei] at hz'; cases hz'
        | some is =>
          rw [ei] at hz'
          cases is with
          | nil => cases hz'
          | cons i is =>
            have ez : D.int (is.foldl min i) = z := Option.some.inj hz'
            subst ez
            have ed := intsD_eq ei
            subst ed
            have ex := hr.ints
            subst ex
            refine ⟨a, i :: is, rfl, SqL.of (e _ _ ha), by simp, fun m h1 h2 => ?_⟩
            obtain ⟨g1, g2, g3⟩ := foldl_min is i
            have em : m = is.foldl min i := by
              have a1 : is.foldl min i ∈ i :: is := by
                rcases g1 with g1 | g1
                · rw [g1]; exact List.mem_cons_self ..
                · exact List.mem_cons_of_mem _ g1
              have a2 := h2 _ a1
              rcases List.mem_cons.mp h1 with rfl | h1
              · omega
              · have := g3 m h1
                omega
            subst em
            exact q _ _ _ (.refl e) (.int _)
      | _ => cases hz
theorem maxL_ok {Y : Yc} : ClOk Y (rMax Y.K) maxLD := by
  intro Hs H vs ds z Q e r hz q
  cases r with
  | nil => cases hz
  | cons r1 r2 =>
    cases r2 with
    | cons _ _ => cases r1 <;> cases hz
    | nil =>
      cases r1 with
      | @lst a xs ds ha hr =>
        have hz' : ((intsD ds).bind maxZ).map D.int = some z := hz
        cases ei : intsD ds with
        | none => rw [ei] at hz'; cases hz'
        | some is =>
          rw [ei] at hz'
          cases is with
          | nil => cases hz'
          | cons i is =>
            have ez : D.int (is.foldl max i) = z := Option.some.inj hz'
            subst ez
            have ed := intsD_eq ei
            subst ed
            have ex := hr.ints
            subst ex
            refine ⟨a, i :: is, rfl, SqL.of (e _ _ ha), by simp, fun m h1 h2 => ?_⟩
            obtain ⟨g1, g2, g3⟩ := foldl_max is i
            have em : m = is.foldl max i := by
              have a1 : is.foldl max i ∈ i :: is := by
                rcases g1 with g1 | g1
                · rw [g1]; exact List.mem_cons_self ..
                · exact List.mem_cons_of_mem _ g1
              have a2 := h2 _ a1
              rcases List.mem_cons.mp h1 with rfl | h1
              · omega
              · have := g3 m h1
                omega
            subst em
            exact q _ _ _ (.refl e) (.int _)
      | _ => cases hz
/-! ### in a list of data -/
def inDD (neg : Bool) (x w : D) : Option D := match w with
  | .lst ds => if SeqAt.shaped x.toP = true ∧ SeqAt.shaped (D.lst ds).toP = true then some (.bl (if neg = true then !(D.toPs ds).any (fun z => PyData.eqv z x.toP) else (D.toPs ds).any fun z => PyData.eqv z x.toP)) else none
  | _ => none
def rInDD (K : PySem.W.Frag) (neg : Bool) : R2 := fun x y H Q => ∃ d ds, Dp K H x d ∧ Dp K H y (.list ds) ∧ SeqAt.shaped d = true ∧ SeqAt.shaped (.list ds) = true ∧ Q (.bl (if neg = true then !ds.any (fun z => PyData.eqv z d) else ds.any fun z => PyData.eqv z d)) H
theorem op_inDD {X : Cx} (hu : X.A.units + 65 < cLine) : OpR X (compareOp .In) (rInDD X.K false) := op_inD hu
theorem op_ninDD {X : Cx} (hu : X.A.units + 65 < cLine) : OpR X (compareOp .NotIn) (rInDD X.K true) := op_notInD hu
theorem u65 {X : Cx} {W : WX} {j : Nat} (v : Cv X W j) : X.A.units + 65 < cLine := by have := v.room.un; omega
theorem inDD_ok {Y : Yc} (neg : Bool) : OpOk Y (rInDD Y.K neg) (inDD neg) := by
  intro Hs H vx vy x w z Q e rx ry hz q
  cases ry with
  | @lst a xs ds ha hr =>
    have hz' : (if SeqAt.shaped x.toP = true ∧ SeqAt.shaped (D.lst ds).toP = true then some (D.bl (if neg = true then !(D.toPs ds).any (fun z => PyData.eqv z x.toP) else (D.toPs ds).any fun z => PyData.eqv z x.toP)) else none) = some z := hz
    by_cases hs : SeqAt.shaped x.toP = true ∧ SeqAt.shaped (D.lst ds).toP = true
    · rw [if_pos hs] at hz'
      have ez := Option.some.inj hz'
      subst ez
      have c1 := SeqAt.canLay_of_shaped hs.1
      have c2 := SeqAt.canLay_of_shaped hs.2
      exact ⟨x.toP, D.toPs ds, (rx.mono e).dp c1, ((Rep.lst ha hr).mono e).dp c2, hs.1, hs.2, q _ _ _ (.refl e) (.bl _)⟩
    · rw [if_neg hs] at hz'
      cases hz'
  | _ => cases hz
end VL

/-! the layer, more: own lists that are looked at and stay own; methods of own lists; int(); enumerate -/
namespace VL
open PySem PySem.Spec PyProof.Rows L2
/-! ### what no rule covers: nothing is said of it -/
def s_bad : SM := fun _ => .bad
theorem vs_bad {X : Cx} {y : Yo} {W : WX} {st : Stmt} : VS X y W st s_bad := ⟨fun pins s σ H D I ⟨_, _, _, _, p⟩ => p.elim⟩
theorem vss_bad {X : Cx} {y : Yo} {W : WX} {st : List Stmt} : VSs X y W st s_bad := ⟨fun pins s σ H D I ⟨_, _, _, _, p⟩ => p.elim⟩
def e_bad : EM D := fun _ => .bad
theorem ve_bad {X : Cx} {y : Yo} {W : WX} {e : Expr} : VE X y W e e_bad := ⟨fun pins s σ H Q I ⟨_, _, _, _, _, p⟩ => p.elim⟩
/-! ### looked at -/
theorem rep_flat {Y : Yc} {H : Hp} {d : D} (h : flatD d = true) : Rep Y H (vF d) d := by
  cases d with
  | non => exact .non
  | bl b => exact .bl b
  | int i => exact .int i
  | str x => exact .str x
  | _ => cases h
/-- values made of texts, numbers, truths, None and tuples alone -/
def pureD : D → Bool
  | .non => true
  | .bl _ => true
  | .int _ => true
  | .str _ => true
  | .tup xs => pureL xs
  | _ => false
where
  pureL : List D → Bool
  | [] => true
  | d :: ds => pureD d && pureL ds
mutual
theorem rep_pure {Y : Yc} {Hs Hs2 : Hp} (hT : ∀ a o xs, Hs a = some (.frz o (.tup xs)) → Hs2 a = some (.frz o (.tup xs))) : ∀ {d : D} {v : V}, Rep Y Hs v d → pureD d = true → Rep Y Hs2 v d
  | .non, _, h, _ => by cases h; exact .non
  | .bl b, _, h, _ => by cases h; exact .bl b
  | .int i, _, h, _ => by cases h; exact .int i
  | .str x, _, h, _ => by cases h; exact .str x
  | .tup ds, _, h, c => by
    cases h with
    | tup hs hr =>
      obtain ⟨o, h1, h2⟩ := hs
      exact .tup ⟨o, hT _ _ _ h1, h2⟩ (rep_pureL hT hr c)
  | .lst _, _, _, c => by cases c
  | .ll _, _, _, c => by cases c
  | .pr _, _, _, c => by cases c
  | .dct _, _, _, c => by cases c
  | .atm _, _, _, c => by cases c
  | .exc _, _, _, c => by cases c
theorem rep_pureL {Y : Yc} {Hs Hs2 : Hp} (hT : ∀ a o xs, Hs a = some (.frz o (.tup xs)) → Hs2 a = some (.frz o (.tup xs))) : ∀ {ds : List D} {vs : List V}, RepL Y Hs vs ds → pureD.pureL ds = true → RepL Y Hs2 vs ds
  | [], _, h, _ => by cases h; exact .nil
  | d :: ds, _, h, c => by
    cases h with
    | cons h1 h2 =>
      have c' := Bool.and_eq_true_iff.mp (show (pureD d && pureD.pureL ds) = true from c)
      exact .cons (rep_pure hT h1 c'.1) (rep_pureL hT h2 c'.2)
end
theorem KLs.notup {Y : Yc} {Hs H : Hp} : ∀ {vs : List (Key × V)} {ks : List (Key × List D)} {qs : List Addr}, KLs Y Hs H vs ks qs → ∀ q ∈ qs, ∀ o xs, H q ≠ some (.frz o (.tup xs))
  | _, _, _, .nil, q, m, _, _ => by cases m
  | _, _, _, .cons h1 h2 h3, q, m, o, xs => by
    rcases List.mem_cons.mp m with e | m
    · rw [e, h1]
      exact fun z => nomatch z
    · exact h3.notup q m o xs
theorem Fds.notup {Y : Yc} {Hs H : Hp} : ∀ {vs : List (Str × V)} {ks : List (Str × FV)} {qs : List Addr}, Fds Y Hs H vs ks qs → ∀ q ∈ qs, ∀ o xs, H q ≠ some (.frz o (.tup xs))
  | _, _, _, .nil, q, m, _, _ => by cases m
  | _, _, _, .v h1 h3, q, m, o, xs => h3.notup q m o xs
  | _, _, _, .l h1 h2 h3, q, m, o, xs => by
    rcases List.mem_cons.mp m with e | m
    · rw [e, h1]
      exact fun z => nomatch z
    · exact h3.notup q m o xs
theorem Own.notup {Y : Yc} {Hs H : Hp} {p : Addr} {fp : List Addr} {s : Slot} (x : Own Y Hs H p fp s) : ∀ q ∈ fp, ∀ o xs, H q ≠ some (.frz o (.tup xs)) := fun q m o xs => by
  cases x with
  | one h1 h2 =>
    rw [List.mem_singleton.mp m, h1]
    cases h2 <;> exact fun z => nomatch z
  | KL h1 h2 h3 =>
    rcases List.mem_cons.mp m with e | m
    · rw [e, h1]
      exact fun z => nomatch z
    · exact h2.notup q m o xs
  | obj h1 h2 h3 h4 =>
    rcases List.mem_cons.mp m with e | m
    · rw [e, h1]
      exact fun z => nomatch z
    · rcases List.mem_cons.mp m with e | m
      · rw [e, h2]
        exact fun z => nomatch z
      · exact h3.notup q m o xs
/-- the steady heap, and what tuples stand in another one -/
def tupH (Hs Hn : Hp) : Hp := fun b => match Hs b with
  | some o => some o
  | none => match Hn b with
    | some (.frz o (.tup xs)) => some (.frz o (.tup xs))
    | _ => none
theorem tupH_cases {Hs Hn : Hp} {b : Addr} {o : HO} (h : tupH Hs Hn b = some o) : Hs b = some o ∨ (Hn b = some o ∧ ∃ q xs, o = .frz q (.tup xs)) := by
  unfold tupH at h
  cases e : Hs b with
  | some o' =>
    rw [e] at h
    exact .inl h
  | none =>
    rw [e] at h
    dsimp only at h
    split at h
    · rename_i q xs en
      exact .inr ⟨by rw [en]; exact h, q, xs, (Option.some.inj h).symm⟩
    · cases h
theorem tupH_old {Hs Hn : Hp} : Same Hs (tupH Hs Hn) := fun b o h => by
  unfold tupH
  rw [h]
theorem tupH_new {Hs Hn : Hp} (s : Same Hs Hn) : ∀ a o xs, Hn a = some (.frz o (.tup xs)) → tupH Hs Hn a = some (.frz o (.tup xs)) := fun a o xs h => by
  unfold tupH
  cases e : Hs a with
  | some o' =>
    have := s _ _ e
    rw [h] at this
    exact this.symm
  | none => rw [h]
/-- an expression looked at with what is its own given away, the answer of such values alone: nothing was given away -/
theorem Ok.pure {Y : Yc} {E0 : Hp × Hp} {tm : List Addr} {ρ ρ' : Env} {σ : L2.St} {Hs H Hs' H' : Hp} (k : Ok Y E0 tm ρ σ Hs H) (k' : Ok Y E0 tm ρ' σ Hs' H') (s : Same Hs Hs') (s' : Same H H') : Ok Y E0 tm ρ σ (tupH Hs Hs') H' := by
  have ss : Same Hs (tupH Hs Hs') := tupH_old
  have sh : Same (tupH Hs Hs') H' := fun b o e => by
    rcases tupH_cases e with q | ⟨q, _⟩
    · exact s' _ _ (k.sh _ _ q)
    · exact k'.sh _ _ q
  obtain ⟨F, f1, f2, f3⟩ := k.own
  refine ⟨⟨k.gr.ss.trans ss, k'.gr.hh, sh, fun b o e => ?_⟩, k.len, fun i d h => ?_, ⟨F, fun i t h hb => ?_, f2, f3⟩, fun p hp => ?_⟩
  · rcases tupH_cases e with q | ⟨q, _⟩
    · exact k.gr.nw b o q
    · exact k'.gr.nw b o q
  · obtain ⟨v, h1, h2⟩ := k.dat i d h
    exact ⟨v, h1, h2.mono ss⟩
  · obtain ⟨⟨p, h1, h2⟩, h3⟩ := f1 i t h hb
    refine ⟨⟨p, h1, h2.mono ss fun q _ u hu => s' _ _ hu⟩, fun q hq => ⟨?_, (h3 q hq).2⟩⟩
    cases e : tupH Hs Hs' q with
    | none => rfl
    | some o =>
      rcases tupH_cases e with z | ⟨z, o', xs, ez⟩
      · rw [(h3 q hq).1] at z
        cases z
      · obtain ⟨u, hu⟩ := h2.dom q hq
        have := k'.sh _ _ z
        rw [s' _ _ hu] at this
        have := Option.some.inj this
        subst this
        rw [ez] at hu
        exact absurd hu (h2.notup q hq o' xs)
  · obtain ⟨h1, h2, u, h3⟩ := k.tmp p hp
    refine ⟨?_, h2, u, s' _ _ h3⟩
    cases e : tupH Hs Hs' p with
    | none => rfl
    | some o =>
      rcases tupH_cases e with z | ⟨z, _⟩
      · rw [h1] at z
        cases z
      · rw [(k'.tmp p hp).1] at z
        cases z
def e_peek (f : EM D) : EM D := fun ρ => match f ρ with
  | .ok d _ => if pureD d = true then .ok d ρ else .bad
  | .err c _ => .err c ρ
  | .bad => .bad
def t_peek (f : EM Bool) : EM Bool := fun ρ => match f ρ with
  | .ok d _ => .ok d ρ
  | .err c _ => .err c ρ
  | .bad => .bad
section
variable {X : Cx} {y : Yo} {W : WX} {e : Expr} {f : EM D} {tf : EM Bool} {pos : Pos}
theorem ve_peek (h : VE X y W e f) : VE X y W e (e_peek f) := by
  refine pe_weak h fun σ H Q ⟨E0, tm, ρ, Hs, k, p⟩ => ⟨E0, tm, ρ, Hs, k, ?_⟩
  unfold e_peek at p
  cases ef : f ρ with
  | bad => rw [ef] at p; exact p
  | ok d ρ' =>
    rw [ef] at p
    have p : PostR (yc X y) W (fun Hs v d => Rep (yc X y) Hs v d) E0 tm σ Hs H Q (if pureD d = true then .ok d ρ else .bad) := p
    intro b Hs' H' k' s s' r
    by_cases hf : pureD d = true
    · rw [if_pos hf] at p
      exact p _ _ H' (k.pure k' s s') tupH_old s' (rep_pure (tupH_new s) r hf)
    · rw [if_neg hf] at p
      exact p.elim
  | err c ρ' =>
    rw [ef] at p
    exact fun Hs' H' k' s s' => p Hs H' (k.grow (Grow.heap k.sh s')) (.refl _) s'
theorem vt_peek (h : VT X y W e tf) : VT X y W e (t_peek tf) := by
  refine pt_weak h fun σ H Q ⟨E0, tm, ρ, Hs, k, p⟩ => ⟨E0, tm, ρ, Hs, k, ?_⟩
  unfold t_peek at p
  cases ef : tf ρ with
  | bad => rw [ef] at p; exact p
  | ok d ρ' =>
    rw [ef] at p
    intro b Hs' H' k' s s' r
    exact p b Hs H' (k.grow (Grow.heap k.sh s')) (.refl _) s' r
  | err c ρ' =>
    rw [ef] at p
    exact fun Hs' H' k' s s' => p Hs H' (k.grow (Grow.heap k.sh s')) (.refl _) s'
end
/-! ### x[e], x the def's own -/
def ownIx (o : OD) (w : D) : Option D := match o with
  | .L ds => (match w with | .int j => atI ds j | _ => none)
  | .K kvs => (keyD w).bind fun k => valK kvs k
  | .KL _ => none
def e_subO (i : Nat) (g : EM D) : EM D := fun ρ => match ρ[i]? with
  | some (.own _) => (g ρ).bind fun w ρ1 => (match ρ1[i]? with
    | some (.own o) => o2 (ownIx o w) ρ1
    | _ => .bad)
  | _ => .bad
section
variable {X : Cx} {y : Yo} {W : WX} {o b : Expr} {g : EM D} {pos : Pos}
theorem ve_subO (i : Nat) {j : Nat} (v : Cv X W j) (ho : PE X o (tVar i)) (hb : VE X y W b g) (hs : PlainIx b := by exact fun _ _ => rfl) (hs2 : NoSl b := by exact fun _ _ => rfl) : VE X y W (.Subscript o b pos) (e_subO i g) := by
  refine pe_weak (pe_two (pe_ix ix_seq ho hb hs) (pe_dget (hu_of v.room) ho hb hs2)) fun σ H Q ⟨E0, tm, ρ, Hs, k, p⟩ => ?_
  unfold e_subO at p
  cases e0 : ρ[i]? with
  | none => rw [e0] at p; exact p.elim
  | some s0 =>
    rw [e0] at p
    cases s0 with
    | no => exact p.elim
    | obj _ _ => exact p.elim
    | dat _ => exact p.elim
    | own od0 =>
      cases od0 with
      | KL _ =>
        have p : PostR (yc X y) W (fun Hs v d => Rep (yc X y) Hs v d) E0 tm σ Hs H Q ((g ρ).bind fun w ρ1 => (match ρ1[i]? with
          | some (.own o) => o2 (ownIx o w) ρ1
          | _ => .bad)) := p
        obtain ⟨p3, fp3, q1, q2, _⟩ := k.at e0 rfl
        cases q2 with
        | one _ hh => cases hh
        | KL hd hk _ =>
          refine .inr ⟨_, q1, ?_⟩
          refine tE.bind k p fun w ρ1 u Hs1 H1 k1 s1 s1' r1 p1 => ?_
          cases e3 : ρ1[i]? with
          | none => rw [e3] at p1; exact p1.elim
          | some s3 =>
            rw [e3] at p1
            cases s3 with
            | no => exact p1.elim
            | obj _ _ => exact p1.elim
            | dat _ => exact p1.elim
            | own od =>
              have hd1 := s1' _ _ hd
              cases od with
              | KL _ => exact p1.elim
              | L ds =>
                obtain ⟨p4, xs4, q4, q5, _⟩ := k1.ownL e3
                rw [q1] at q4
                cases q4
                rw [hd1] at q5
                cases q5
              | K ds =>
                obtain ⟨p4, xs4, q4, ha1, hr⟩ := k1.ownK e3
                rw [q1] at q4
                cases q4
                have p1 : PostR (yc X y) W (fun Hs v d => Rep (yc X y) Hs v d) E0 tm σ Hs1 H1 Q (o2 (ownIx (.K ds) w) ρ1) := p1
                cases ek : keyD w with
                | none =>
                  have : ownIx (.K ds) w = none := by show (keyD w).bind _ = none; rw [ek]; rfl
                  rw [this] at p1
                  exact p1.elim
                | some kk =>
                  cases ez : valK ds kk with
                  | none =>
                    have : ownIx (.K ds) w = none := by show (keyD w).bind _ = none; rw [ek]; exact ez
                    rw [this] at p1
                    exact p1.elim
                  | some z =>
                    have : ownIx (.K ds) w = some z := by show (keyD w).bind _ = some z; rw [ek]; exact ez
                    rw [this] at p1
                    obtain ⟨v2, q1, q2⟩ := (RepK.val kk hr).2 z ez
                    have eu := keyD_ok r1 ek
                    subst eu
                    exact ⟨_, v2, rfl, .inl ⟨_, kk, .inl ha1, rfl, q1.symm⟩, p1.fin k1 q2⟩
      | L ds0 =>
        obtain ⟨a, xs0, hσ, ha0, _⟩ := k.ownL e0
        refine .inl ⟨_, hσ, ?_⟩
        refine tE.bind k p fun w ρ1 u Hs1 H1 k1 s1 s1' r1 p1 => ?_
        cases e3 : ρ1[i]? with
        | none => rw [e3] at p1; exact p1.elim
        | some s3 =>
          rw [e3] at p1
          cases s3 with
          | no => exact p1.elim
          | obj _ _ => exact p1.elim
          | dat _ => exact p1.elim
          | own od =>
            have same : ∀ {od'} (_ : od = od') {p3 u3}, σ[i]? = some (some (.ref p3)) → H1 p3 = some u3 → p3 = a ∧ u3 = .lst xs0 := fun {od'} _ {p3 u3} q1 q2 => by
              rw [hσ] at q1
              cases q1
              rw [s1' _ _ ha0] at q2
              exact ⟨rfl, (Option.some.inj q2).symm⟩
            cases od with
            | KL _ => exact p1.elim
            | K _ =>
              obtain ⟨p3, vs3, q1, q2, _⟩ := k1.ownK e3
              cases (same rfl q1 q2).2
            | L ds =>
              obtain ⟨p3, xs3, q1, ha1, hr⟩ := k1.ownL e3
              rw [hσ] at q1
              cases q1
              have p1 : PostR (yc X y) W (fun Hs v d => Rep (yc X y) Hs v d) E0 tm σ Hs1 H1 Q (o2 (ownIx (.L ds) w) ρ1) := p1
              cases w with
              | int jj =>
                cases r1
                cases ez : atI ds jj with
                | none =>
                  have : ownIx (.L ds) (.int jj) = none := ez
                  rw [this] at p1
                  exact p1.elim
                | some z =>
                  have : ownIx (.L ds) (.int jj) = some z := ez
                  rw [this] at p1
                  obtain ⟨v1, h1, h2⟩ := hr.at ez
                  exact .inl ⟨a, _, jj, v1, rfl, rfl, SqL.of ha1, h1, p1.fin k1 h2⟩
              | _ => exact p1.elim
      | K ds0 =>
        obtain ⟨a, xs0, hσ, ha0, _⟩ := k.ownK e0
        refine .inr ⟨_, hσ, ?_⟩
        refine tE.bind k p fun w ρ1 u Hs1 H1 k1 s1 s1' r1 p1 => ?_
        cases e3 : ρ1[i]? with
        | none => rw [e3] at p1; exact p1.elim
        | some s3 =>
          rw [e3] at p1
          cases s3 with
          | no => exact p1.elim
          | obj _ _ => exact p1.elim
          | dat _ => exact p1.elim
          | own od =>
            have same : ∀ {od'} (_ : od = od') {p3 u3}, σ[i]? = some (some (.ref p3)) → H1 p3 = some u3 → p3 = a ∧ u3 = .dK xs0 := fun {od'} _ {p3 u3} q1 q2 => by
              rw [hσ] at q1
              cases q1
              rw [s1' _ _ ha0] at q2
              exact ⟨rfl, (Option.some.inj q2).symm⟩
            cases od with
            | KL _ => exact p1.elim
            | L _ =>
              obtain ⟨p3, vs3, q1, q2, _⟩ := k1.ownL e3
              cases (same rfl q1 q2).2
            | K ds =>
              obtain ⟨p3, xs3, q1, ha1, hr⟩ := k1.ownK e3
              rw [hσ] at q1
              cases q1
              have p1 : PostR (yc X y) W (fun Hs v d => Rep (yc X y) Hs v d) E0 tm σ Hs1 H1 Q (o2 (ownIx (.K ds) w) ρ1) := p1
              cases ek : keyD w with
              | none =>
                have : ownIx (.K ds) w = none := by show (keyD w).bind _ = none; rw [ek]; rfl
                rw [this] at p1
                exact p1.elim
              | some kk =>
                cases ez : valK ds kk with
                | none =>
                  have : ownIx (.K ds) w = none := by show (keyD w).bind _ = none; rw [ek]; exact ez
                  rw [this] at p1
                  exact p1.elim
                | some z =>
                  have : ownIx (.K ds) w = some z := by show (keyD w).bind _ = some z; rw [ek]; exact ez
                  rw [this] at p1
                  obtain ⟨v2, q1, q2⟩ := (RepK.val kk hr).2 z ez
                  have eu := keyD_ok r1 ek
                  subst eu
                  exact ⟨_, v2, rfl, .inl ⟨_, kk, .inl ha1, rfl, q1.symm⟩, p1.fin k1 q2⟩
end
/-! ### for .. in x, x the def's own list -/
def forOD (i : Nat) (tg : D → Env → Option Env) (body : SM) : Nat → Nat → SM
  | 0, _, _ => .bad
  | n + 1, k, ρ => match ρ[i]? with
    | some (.own (.L ds)) => (match ds[k]? with
      | none => .next ρ
      | some d => match tg d ρ with
        | none => .bad
        | some ρ1 => match body ρ1 with
          | .next ρ2 => forOD i tg body n (k + 1) ρ2
          | .cont ρ2 => forOD i tg body n (k + 1) ρ2
          | .brk ρ2 => .next ρ2
          | .ret d => .ret d
          | .err c ρ2 => .err c ρ2
          | .bad => .bad)
    | _ => .bad
def s_forO (i : Nat) (tg : D → Env → Option Env) (body : SM) : SM := fun ρ => match ρ[i]? with
  | some (.own (.L ds)) => forOD i tg body (ds.length + 1) 0 ρ
  | _ => .bad
section
variable {X : Cx} {y : Yo} {W : WX} {tg o e : Expr} {is : List Nat} {gf : D → Env → Option Env} {f : EM D} {pos pos2 pos3 : Pos}
/-- the body one store to another name -/
theorem vs_forO (i l : Nat) {x : Str} {j : Nat} (v : Cv X W j) (ho : PE X o (tVar i)) (hg : VG X y tg is gf) (he : VE X y W e f) (hil : (i ≠ l) ∧ (i ∉ is) := by decide) (hi : X.N[l]? = some x := by rfl) (hx : Loc X.env.scope x := by first | exact Or.inl rfl | exact Or.inr rfl)
    (hsw : swapsWith e (some (.Name x pos3)) pos2.line X.env = pure false := by rfl) (hf : X.fn x = true ∨ X.env.scope.names.lookup x = some .local := by first | exact .inl rfl | exact .inr rfl)
    (hs : ∀ x, foldedSetIterable o X.env x = pure x := by intro _; rfl) : VS X y W (.For tg o [.Assign [.Name x pos3] e pos2] [] pos) (s_forO i gf (s_set l f)) := by
  refine ps_weak (ps_for v.hp v.calm (pi_seq ho) hg (pss_one (ps_set (i := l) v.nd hi hx he hsw hf)) hs) fun D σ H ⟨E0, ρ, Hs, k, p⟩ => ?_
  unfold s_forO at p
  cases e0 : ρ[i]? with
  | none => rw [e0] at p; exact p.elim
  | some s0 =>
    rw [e0] at p
    cases s0 with
    | no => exact p.elim
    | obj _ _ => exact p.elim
    | dat _ => exact p.elim
    | own od0 =>
      cases od0 with
      | K _ => exact p.elim
      | KL _ => exact p.elim
      | L ds0 =>
        have p : PostS (yc X y) W E0 Hs D (forOD i gf (s_set l f) (ds0.length + 1) 0 ρ) := p
        obtain ⟨a, xs0, hσ, ha0, _⟩ := k.ownL e0
        refine ⟨_, hσ, a, rfl, .inl ⟨⟨_, SqL.of ha0⟩, ?_⟩⟩
        refine ⟨fun n m σ' H' => ∃ ρi Hsi, Ok (yc X y) E0 [] ρi σ' Hsi H' ∧ σ'[i]? = some (some (.ref a)) ∧ PostS (yc X y) W E0 Hsi D (forOD i gf (s_set l f) m n ρi), ⟨ds0.length + 1, ρ, Hs, k, hσ, p⟩, ?_⟩
        rintro n m σ' H' ⟨ρi, Hsi, ki, hi, pi⟩
        cases m with
        | zero => exact pi.elim
        | succ m =>
          have pi : PostS (yc X y) W E0 Hsi D (match ρi[i]? with
            | some (.own (.L ds)) => (match ds[n]? with
              | none => .next ρi
              | some d => match gf d ρi with
                | none => .bad
                | some ρ1 => match s_set l f ρ1 with
                  | .next ρ2 => forOD i gf (s_set l f) m (n + 1) ρ2
                  | .cont ρ2 => forOD i gf (s_set l f) m (n + 1) ρ2
                  | .brk ρ2 => .next ρ2
                  | .ret d => .ret d
                  | .err c ρ2 => .err c ρ2
                  | .bad => .bad)
            | _ => .bad) := pi
          cases e1 : ρi[i]? with
          | none => rw [e1] at pi; exact pi.elim
          | some s1 =>
            rw [e1] at pi
            cases s1 with
            | no => exact pi.elim
            | obj _ _ => exact pi.elim
            | dat _ => exact pi.elim
            | own od =>
              cases od with
              | K _ => exact pi.elim
              | KL _ => exact pi.elim
              | L ds =>
                obtain ⟨a', xs, hσ', ha, hr⟩ := ki.ownL e1
                rw [hi] at hσ'
                cases hσ'
                have pi : PostS (yc X y) W E0 Hsi D (match ds[n]? with
                  | none => .next ρi
                  | some d => match gf d ρi with
                    | none => .bad
                    | some ρ1 => match s_set l f ρ1 with
                      | .next ρ2 => forOD i gf (s_set l f) m (n + 1) ρ2
                      | .cont ρ2 => forOD i gf (s_set l f) m (n + 1) ρ2
                      | .brk ρ2 => .next ρ2
                      | .ret d => .ret d
                      | .err c ρ2 => .err c ρ2
                      | .bad => .bad) := pi
                cases ed : ds[n]? with
                | none =>
                  rw [ed] at pi
                  refine .inl ⟨⟨xs, SqL.of ha, ?_⟩, pi σ' Hsi H' ki (.refl _)⟩
                  rw [hr.length]
                  false_or_by_contra
                  rename_i z
                  rw [List.getElem?_eq_getElem (by omega)] at ed
                  cases ed
                | some d =>
                  rw [ed] at pi
                  obtain ⟨x, hx, rx⟩ := hr.get ed
                  refine .inr ⟨⟨xs, x, SqL.of ha, hx⟩, fun σ2 H2 => ∃ ρj Hsj, Ok (yc X y) E0 [] ρj σ2 Hsj H2 ∧ σ2[i]? = some (some (.ref a)) ∧ PostS (yc X y) W E0 Hsj D (forOD i gf (s_set l f) m (n + 1) ρj), ?_, ?_⟩
                  · rintro σ2 H2 ⟨ρj, Hsj, kj, sj, pj⟩
                    exact ⟨m, Nat.lt_succ_self m, ρj, Hsj, kj, sj, pj⟩
                  · intro x' H2 hy
                    obtain ⟨eH, hy⟩ := hy
                    subst eH
                    have ex : x' = x := Option.some.inj ((hy xs (SqL.of ha)).symm.trans hx)
                    subst ex
                    have pi : PostS (yc X y) W E0 Hsi D (match gf d ρi with
                      | none => .bad
                      | some ρ1 => match s_set l f ρ1 with
                        | .next ρ2 => forOD i gf (s_set l f) m (n + 1) ρ2
                        | .cont ρ2 => forOD i gf (s_set l f) m (n + 1) ρ2
                        | .brk ρ2 => .next ρ2
                        | .ret d => .ret d
                        | .err c ρ2 => .err c ρ2
                        | .bad => .bad) := pi
                    cases eg : gf d ρi with
                    | none => rw [eg] at pi; exact pi.elim
                    | some ρ3 =>
                      rw [eg] at pi
                      refine ⟨E0, [], ρi, Hsi, d, ρ3, ki, rx, eg, fun σ3 k3 n3 l3 => ?_⟩
                      refine ⟨E0, [], ρ3, Hsi, k3, ?_⟩
                      have pi : PostS (yc X y) W E0 Hsi D (match s_set l f ρ3 with
                        | .next ρ2 => forOD i gf (s_set l f) m (n + 1) ρ2
                        | .cont ρ2 => forOD i gf (s_set l f) m (n + 1) ρ2
                        | .brk ρ2 => .next ρ2
                        | .ret d => .ret d
                        | .err c ρ2 => .err c ρ2
                        | .bad => .bad) := pi
                      unfold s_set at pi
                      cases ee : f ρ3 with
                      | bad => rw [ee] at pi; exact pi
                      | err c ρ4 =>
                        rw [ee] at pi
                        exact fun Hs' H' k' s s' => pi σ3 Hs' H' k' s
                      | ok d4 ρ4 =>
                        rw [ee] at pi
                        intro b4 Hs4 H4 k4 s4 s4' r4
                        refine ⟨ρ4.set l (.dat d4), Hs4, k4.put r4, ?_, PostS.shift pi s4⟩
                        rw [List.getElem?_set_ne (Ne.symm hil.1), n3 i hil.2, hi]
end
/-! ### methods of own lists, as statements -/
/-- name.remove(e), a list of whole numbers -/
def remZ : List Int → Int → Option (List Int)
  | [], _ => none
  | a :: l, k => if a = k then some l else (remZ l k).map (a :: ·)
theorem remZ_spec : ∀ {l : List Int} {k : Int} {l' : List Int}, remZ l k = some l' → ∃ j : Nat, l[j]? = some k ∧ (∀ m : Nat, m < j → l[m]? ≠ some k) ∧ l' = l.eraseIdx j
  | [], k, l', h => by cases h
  | a :: l, k, l', h => by
    unfold remZ at h
    by_cases e : a = k
    · rw [if_pos e] at h
      cases h
      exact ⟨0, by simp [e], fun m hm => absurd hm (Nat.not_lt_zero _), rfl⟩
    · rw [if_neg e] at h
      cases er : remZ l k with
      | none => rw [er] at h; cases h
      | some r =>
        rw [er] at h
        cases h
        obtain ⟨j, h1, h2, h3⟩ := remZ_spec er
        refine ⟨j + 1, by simpa using h1, fun m hm => ?_, by rw [h3]; rfl⟩
        cases m with
        | zero => simpa using e
        | succ m => simpa using h2 m (by omega)
/-- what a method makes of the list and its arguments -/
def s_lmeth (h : List D → List D → Option (List D)) (i : Nat) (g : EM (List D)) : SM := fun ρ => match ρ[i]? with
  | some (.own (.L _)) => (g ρ).to fun as ρ1 => (match ρ1[i]? with
    | some (.own (.L ds)) => (match h ds as with
      | some ds' => .next (ρ1.set i (.own (.L ds')))
      | none => .bad)
    | _ => .bad)
  | _ => .bad
/-- such a method, by its rule in the hand layer -/
def LmOk (Y : Yc) (r : V → List V → Hp → VK → Prop) (h : List D → List D → Option (List D)) : Prop := ∀ (Hs H : Hp) (a : Addr) (xs ws : List V) (ds as ds' : List D) (Q : VK), Same Hs H → H a = some (.lst xs) → RepL Y Hs xs ds → RepL Y Hs ws as → h ds as = some ds' →
  (∀ v xs', RepL Y Hs xs' ds' → Q v (upd H a (.lst xs'))) → r (.ref a) ws H Q
section
variable {X : Cx} {y : Yo} {W : WX} {o e : Expr} {es : List Expr} {g : EM (List D)} {apos pos pos2 : Pos} {name : Str} {id : String} {r : V → List V → Hp → VK → Prop} {h : List D → List D → Option (List D)}
theorem vs_lmeth (i : Nat) (slot : PySem.Slot "list" name id) (hty : typeOf (.builtin id) = pure (.type "method_descriptor")) (hm : MtR X id r) (hh : LmOk (yc X y) r h) (ho : PE X o (tVar i)) (ha : VA X y W (e :: es) g)
    (hbase : attributeBase o name X.env (eval o X.env) = eval o X.env := by rfl)
    (hfew : ((backTo pos (starEach (e :: es) X.env)).all (fun x => !x.1) && (backToKw pos (keywordEach [] X.env)).all (fun x => x.1.isSome) && decide ((e :: es).length + ([] : List Keyword).length + (if ([] : List Keyword).isEmpty then 0 else 1) < 30)) = true := by rfl)
    (hline : (apos.endLine == pos.line) = true := by rfl) (hs : starEach (e :: es) X.env = (false, eval e X.env) :: starEach es X.env := by rfl) (hplain : (backTo pos (starEach es X.env)).any (·.1) = false := by rfl)
    (hsw : swapsWith (.Call (.Attribute o name apos) (e :: es) [] pos) none pos2.line X.env = pure false := by rfl) : VS X y W (.Expr (.Call (.Attribute o name apos) (e :: es) [] pos) pos2) (s_lmeth h i g) := by
  refine ps_weak (ps_expr (pe_bm PySem.F.plainAttrs_list slot hty hm ho ha hbase hfew hline hs hplain) hsw) fun D σ H ⟨E0, ρ, Hs, k, p⟩ => ?_
  unfold s_lmeth at p
  cases e0 : ρ[i]? with
  | none => rw [e0] at p; exact p.elim
  | some s0 =>
    rw [e0] at p
    cases s0 with
    | no => exact p.elim
    | obj _ _ => exact p.elim
    | dat _ => exact p.elim
    | own od0 =>
      cases od0 with
      | K _ => exact p.elim
      | KL _ => exact p.elim
      | L ds0 =>
        obtain ⟨a, xs0, hσ, ha0, _⟩ := k.ownL e0
        refine ⟨_, hσ, .inl ⟨rfl, _, SqL.of ha0⟩, ?_⟩
        refine tS.bind k p fun as ρ1 ws Hs1 H1 k1 s1 s1' r1 p1 => ?_
        cases e3 : ρ1[i]? with
        | none => rw [e3] at p1; exact p1.elim
        | some s3 =>
          rw [e3] at p1
          cases s3 with
          | no => exact p1.elim
          | obj _ _ => exact p1.elim
          | dat _ => exact p1.elim
          | own od =>
            cases od with
            | K _ => exact p1.elim
            | KL _ => exact p1.elim
            | L ds =>
              obtain ⟨a', xs, hσ', ha1, hr⟩ := k1.ownL e3
              rw [hσ] at hσ'
              cases hσ'
              have p3 : PostS (yc X y) W E0 Hs1 D (match h ds as with
                | some ds' => .next (ρ1.set i (.own (.L ds')))
                | none => .bad) := p1
              cases eh : h ds as with
              | none => rw [eh] at p3; exact p3.elim
              | some ds' =>
                rw [eh] at p3
                exact hh Hs1 H1 a xs ws ds as ds' _ k1.sh ha1 hr r1 eh fun v xs' hr' => p3 σ Hs1 _ (k1.write e3 hσ (.L hr')) (.refl _)
end
def remH (ds as : List D) : Option (List D) := match as with
  | [.int k] => (intsD ds).bind fun l => (remZ l k).map fun l' => l'.map .int
  | _ => none
theorem rem_ok {Y : Yc} : LmOk Y rRemI remH := by
  intro Hs H a xs ws ds as ds' Q e ha hr ra eh q
  cases ra with
  | nil => cases eh
  | cons r1 r2 =>
    cases r2 with
    | cons _ _ => cases r1 <;> cases eh
    | nil =>
      cases r1 with
      | int k =>
        have eh : (intsD ds).bind (fun l => (remZ l k).map fun l' => l'.map D.int) = some ds' := eh
        cases ei : intsD ds with
        | none => rw [ei] at eh; cases eh
        | some l =>
          rw [ei] at eh
          have eh : (remZ l k).map (fun l' => l'.map D.int) = some ds' := eh
          cases er : remZ l k with
          | none => rw [er] at eh; cases eh
          | some l' =>
            rw [er] at eh
            have eh := Option.some.inj eh
            subst eh
            have ed := intsD_eq ei
            subst ed
            have exs := hr.ints
            subst exs
            obtain ⟨j, h1, h2, h3⟩ := remZ_spec er
            subst h3
            exact ⟨a, l, k, j, rfl, rfl, ha, h1, h2, q _ _ (RepL.of_ints _)⟩
      | _ => cases eh
def insH (ds as : List D) : Option (List D) := match as with
  | [.int k, x] => if 0 ≤ k ∧ k < 2 ^ 62 ∧ ds.length < 16777216 then some (ds.take k.toNat ++ [x] ++ ds.drop k.toNat) else none
  | _ => none
abbrev rInsert : V → List V → Hp → VK → Prop := fun x vs H Q => ∃ (l : Addr) (xs : List V) (i : Int) (y : V), x = .ref l ∧ vs = [.int i, y] ∧ H l = some (.lst xs) ∧ xs.length < sizeLine ∧ 0 ≤ i ∧ i < 2 ^ 63 ∧
    Q .non (upd H l (.lst (xs.take i.toNat ++ [y] ++ xs.drop i.toNat)))
theorem ins_okL {Y : Yc} : LmOk Y rInsert insH := by
  intro Hs H a xs ws ds as ds' Q e ha hr ra eh q
  cases ra with
  | nil => cases eh
  | cons r1 r2 =>
    cases r2 with
    | nil => cases r1 <;> cases eh
    | cons r2 r3 =>
      cases r3 with
      | cons _ _ => cases r1 <;> cases eh
      | nil =>
        cases r1 with
        | int k =>
          rename_i vx dx
          have eh : (if 0 ≤ k ∧ k < 2 ^ 62 ∧ ds.length < 16777216 then some (ds.take k.toNat ++ [dx] ++ ds.drop k.toNat) else none) = some ds' := eh
          by_cases hk : 0 ≤ k ∧ k < 2 ^ 62 ∧ ds.length < 16777216
          · rw [if_pos hk] at eh
            have eh := Option.some.inj eh
            subst eh
            exact ⟨a, xs, k, vx, rfl, rfl, ha, by rw [hr.length, sizeLine_eq]; exact hk.2.2, hk.1, by omega, q _ _ (((hr.take _).append (.cons r2 .nil)).append (hr.drop _))⟩
          · rw [if_neg hk] at eh
            cases eh
        | _ => cases eh
end VL

/-! enumerate over lists, tuples, texts; int(); name = own.pop(..); lists put together anew -/
namespace VLE
open PySem PySem.Spec PyProof.Rows L2
theorem meets_enum1 {v : Value} {o : Obj} {H : Heap → Prop} (B : Begins v o H) :
    Meets (Builtin.«enumerate.__new__» ⟨[.type "enumerate", v], []⟩) (fun _ R s => H s.heap ∧
      R (.ok (.ret (.ref (s.heap.push o).objs.size))) { s with heap := (s.heap.push o).push { cls := .type "enumerate", data := .fields #[.none, .bool false, .ref s.heap.objs.size, rawInt 0, .none, .none] } }) :=
  .of_wp fun prog w A R s h => by
    obtain ⟨hp, g, d, tk, os⟩ := s; obtain ⟨h1, h⟩ := h
    have hsub := sub_enumerate
    have q1 : ∀ {A' : Around} {E : Value → Shared → Prop} {Q : Value → Shared → Prop}, Q (.ref hp.objs.size) ⟨hp.push o, g, d, tk, os⟩ → wpAny (model prog w) A' (pyIter v) Q E ⟨hp, g, d, tk, os⟩ :=
      fun q => B.iter prog w _ _ ⟨hp, g, d, tk, os⟩ _ h1 q
    wp_walk using q1
    refine wpAny_stack_any fun st => wpAny_pure ?_
    split
    · rename_i c _ _ _ _ _
      cases (c == Value.type "enumerate")
      · wp_walk using q1
        exact ⟨_, rfl, h⟩
      · wp_walk using q1
        exact ⟨_, rfl, h⟩
    · wp_walk using q1
      exact ⟨_, rfl, h⟩
theorem call_enum1 {prog : Program} {w : World} {A : Around} {E : Value → Shared → Prop} {s : Shared} {v : Value} {o : Obj} {H : Heap → Prop} {Q : Value → Shared → Prop} (B : Begins v o H) (h1 : H s.heap)
    (h : ∀ h', IsEnum h' (s.heap.objs.size + 1) s.heap.objs.size 0 .none → h'.get? s.heap.objs.size = some o → h'.objs.size = s.heap.objs.size + 2 →
      (∀ b o, s.heap.get? b = some o → h'.get? b = some o) → Q (.ref (s.heap.objs.size + 1)) { s with heap := h' }) :
    wpAny (model prog w) A (call (.type "enumerate") [v]) Q E s := by
  refine callType_new F.called_enumerate (by decide) (F.typeCall_enumerate_1 _) (F.newCall_enumerate_1 _) (fun obj => F.args_object_init_2 obj _) F.entry_enumerate_new (meets_enum1 B) ⟨h1, ?_⟩
  have hz : (s.heap.push o).objs.size = s.heap.objs.size + 1 := Heap.size_push ..
  show _ ∧ _
  rw [hz]
  have he : IsEnum ((s.heap.push o).push { cls := .type "enumerate", data := .fields #[.none, .bool false, .ref s.heap.objs.size, rawInt 0, .none, .none] }) (s.heap.objs.size + 1) s.heap.objs.size 0 .none := by
    have := Heap.get?_push_size (s.heap.push o) (o := { cls := .type "enumerate", data := .fields #[.none, .bool false, .ref s.heap.objs.size, rawInt 0, .none, .none] }) rfl
    rw [hz] at this; exact this
  refine ⟨⟨_, he, rfl⟩, h _ he (Heap.get?_push_of_some _ (Heap.get?_push_size _ B.free)) (by rw [Heap.size_push, hz]) fun b o x => Heap.get?_push_of_some _ (Heap.get?_push_of_some _ x)⟩
/-- the values xs, which stand where own holds, each with its number in a new pair -/
def ItE (own : Hp → Prop) (xs : List V) : It :=
  ⟨fun i H => own H ∧ i < xs.length, fun i H v H' => ∃ T x, v = .ref T ∧ H T = none ∧ H' = upd H T (.tup [.int (i : Nat), x]) ∧ xs[i]? = some x, fun i H => own H ∧ xs.length ≤ i⟩
/-- an iterator's own state, over such values -/
structure Src (P : Program) (w : World) (K : PySem.W.Frag) (own : Hp → Prop) (xs : List V) (it : Addr) (tn : Nat → Heap → Prop) : Prop where
  obj : ∀ i h, tn i h → ∃ o, h.get? it = some o ∧ ∀ v, o.data ≠ .cell v
  keep : ∀ i h h', tn i h → (∀ o, h.get? it = some o → h'.get? it = some o) → tn i h'
  draw : ∀ (X : Cx), X.prog = P → X.w = w → X.K = K → X.calm = true → ∀ (pins : List (Addr × Obj)) (s : Shared) (σ : L2.St) (H : Hp) (e : Addr), Inv X pins σ H s → own H → (∃ o vs, s.heap.get? e = some o ∧ o.data = .fields vs) → (∃ i, tn i s.heap) → e ≠ it →
    ∃ (fp : List Addr) (items : Nat → Value → Prop) (St : Nat → Heap → Prop), Draws P w X.A.in1 it fp xs.length items St ∧ e ∉ fp ∧ (∀ i, tn i s.heap → St i s.heap) ∧ (∀ i h', St i h' → tn i h') ∧ (∀ i x, items i x → ∃ v, xs[i]? = some v ∧ RelV v x)
theorem turn_enumD {P : Program} {w : World} {K : PySem.W.Frag} {elts : List Expr} {kk : Nat} {tpos : Pos} {own : Hp → Prop} {xs : List V} {tn : Nat → Heap → Prop} (e it : Addr) (R : Src P w K own xs it tn) :
    Turn P w K (.Tuple elts kk tpos) (ItE own xs) [e, it] e (fun i h => (∃ old, IsEnum h e it ((i : Nat) : Int) old) ∧ tn i h ∧ e ≠ it ∧ i ≤ xs.length) where
  mem := by simp
  obj := fun i h st b hb => by
    obtain ⟨⟨old, he⟩, ht, _, _⟩ := st
    have e' : b = e ∨ b = it := by simpa using hb
    rcases e' with z | z
    · rw [z]; exact ⟨_, he, fun v q => nomatch q⟩
    · rw [z]; exact R.obj i h ht
  keep := fun i h h' st k => let ⟨⟨old, he⟩, hi, hne, hl⟩ := st; ⟨⟨old, k e (by simp) _ he⟩, R.keep i h h' hi fun o q => k it (by simp) o q, hne, hl⟩
  item := by
    intro X hP hw hK hc i pins s σ H E I hf st hg
    obtain ⟨⟨old, he⟩, hit, hne, hle⟩ := st
    obtain ⟨ho, hx⟩ := hg
    obtain ⟨fp, items, St, D, hef, s1, s2, s3⟩ := R.draw X hP hw hK hc pins s σ H e I ho ⟨_, _, he, rfl⟩ ⟨i, hit⟩ hne
    subst hP hw hK
    have hel : e < s.heap.objs.size := Heap.lt_size he
    have hil : it < s.heap.objs.size := by obtain ⟨_, q, _⟩ := R.obj i _ hit; exact Heap.lt_size q
    refine wpAny_pyNext_enum_itemD D he (s1 i hit) hx hne hef fun u h' tk hu ho' hit' hT hsz hk => ?_
    obtain ⟨x, hxs, ru⟩ := s3 i u hu
    refine ⟨_, rfl, wpAny_letOwnedTupleGo_enum (s := { s with heap := h', toks := tk + 1 }) ho' fun h'' he' sb => ?_⟩
    have hT2 : h''.get? s.heap.objs.size = some { cls := .type "tuple", data := .seq #[.int i tk, u] } := (sb.2 _ (Nat.ne_of_gt hel)).trans hT
    have new : ObjOk X.prog X.w (upd H s.heap.objs.size (.tup [.int (i : Nat), x])) h'' s.heap.objs.size (.tup [.int (i : Nat), x]) :=
      ⟨by show 2 ≤ sizeLine; decide, [.int i tk, u], .cons ⟨_, rfl⟩ (.cons ru .nil), ⟨_, hT2, rfl, _, rfl⟩⟩
    have I1 : Inv X pins σ (upd H s.heap.objs.size (.tup [.int (i : Nat), x])) { s with heap := h'', toks := tk + 1 } :=
      I.turnedNew (ch := [e, it]) (fun b ob hb q => (sb.2 b (fun z => hb (by simp [z]))).trans (hk b ob (fun z => hb (by simp [z])) (fun z => hb (by simp [z])) q)) hf (Nat.le_refl _) new
    refine ⟨.ref s.heap.objs.size, _, I1, rfl, ⟨_, x, rfl, I.hok.fresh (Nat.le_refl _), rfl, hxs⟩, ⟨⟨u, ?_⟩, R.keep _ _ _ (s2 _ _ hit') fun o q => (sb.2 it (Ne.symm hne)).trans q, hne, by omega⟩, fun b hb => ?_⟩
    · have e1 : ((i + 1 : Nat) : Int) = (i : Int) + 1 := by omega
      rw [e1]; exact he'
    · have hb' : b < s.heap.objs.size := by
        have e' : b = e ∨ b = it := by simpa using hb
        rcases e' with z | z
        · rw [z]; exact hel
        · rw [z]; exact hil
      rw [upd_ne (Nat.ne_of_lt hb')]
      exact (hf b hb).1
  done := by
    intro X hP hw hK hc i pins s σ H E I hf st hg
    obtain ⟨⟨old, he⟩, hit, hne, hle⟩ := st
    obtain ⟨ho, hx⟩ := hg
    obtain ⟨fp, items, St, D, hef, s1, s2, s3⟩ := R.draw X hP hw hK hc pins s σ H e I ho ⟨_, _, he, rfl⟩ ⟨i, hit⟩ hne
    subst hP hw hK
    obtain ⟨f0, f1, f2, f3, f4, f5⟩ := hf it (by simp)
    have ei : i = xs.length := by omega
    have st' := s1 i hit
    rw [ei] at st'
    exact wpAny_pyNext_enum_endD D he st' fun h' eb => ⟨rfl, I.turned (t' := s.toks) (fun b o hb q => eb b o hb q) f0 f1 f3 f4 f5⟩
  self := fun A i s Q E st h => let ⟨⟨_, he⟩, _⟩ := st; wpAny_pyIter_enum he h
theorem valsBack : ∀ {xs : List V} {us : List Value} {i : Nat} {u : Value}, Vals xs us → us[i]? = some u → ∃ x, xs[i]? = some x ∧ RelV x u
  | _, _, _, _, .nil, e => by simp at e
  | _, _, 0, _, .cons r _, e => by simp at e; subst e; exact ⟨_, rfl, r⟩
  | _, _, i + 1, u, .cons _ t, e => by
    obtain ⟨x, h1, h2⟩ := valsBack (i := i) (u := u) t (by simpa using e)
    exact ⟨x, by simpa using h1, h2⟩
theorem src_list {P : Program} {w : World} {K : PySem.W.Frag} (a it : Addr) (xs : List V) : Src P w K (fun H => SqL K H a xs) xs it (fun i h => h.IsListIter it a i) where
  obj := fun i h st => by
    obtain ⟨o, e, c, d⟩ := st
    exact ⟨o, e, fun v z => by rw [d] at z; cases z⟩
  keep := fun i h h' st k => st.at fun o e => k o e
  draw := by
    intro X hP hw hK hc pins s σ H e I ho he ht hne
    subst hP hw hK
    obtain ⟨its, rv, p, hz⟩ := I.list ho
    obtain ⟨i0, o0, e0, c0, d0⟩ := ht
    obtain ⟨oe, ve, ee, de⟩ := he
    have h1 : a ≠ it := fun z => by
      obtain ⟨o, n, q1, q2, q3, q4⟩ := p
      rw [z, e0] at q1
      cases q1
      rw [d0] at q4
      cases q4
    have h2 : a ≠ e := fun z => by
      obtain ⟨o, n, q1, q2, q3, q4⟩ := p
      rw [z, ee] at q1
      cases q1
      rw [de] at q4
      cases q4
    have D := Draws.list (prog := X.prog) (w := X.w) (A := X.A.in1) (I.ok.hd hc) it a h1 its.toArray
    rw [List.size_toArray, ← rv.length] at D
    refine ⟨_, _, _, D, ?_, fun i q => ⟨q, p.isList⟩, fun i h' q => q.1, fun i x hx => ?_⟩
    · intro q
      simp only [List.mem_cons, List.not_mem_nil, or_false] at q
      rcases q with q | q
      · exact hne q
      · exact h2 q.symm
    · have hx' : its[i]? = some x := by simpa using hx
      exact valsBack rv hx'
theorem src_tup {P : Program} {w : World} {K : PySem.W.Frag} (a it : Addr) (xs : List V) : Src P w K (fun H => SqT K H a xs) xs it (fun i h => h.IsTupleIter it a i) where
  obj := fun i h st => by
    obtain ⟨o, e, c, d⟩ := st
    exact ⟨o, e, fun v z => by rw [d] at z; cases z⟩
  keep := fun i h h' st k => st.at fun o e => k o e
  draw := by
    intro X hP hw hK hc pins s σ H e I ho he ht hne
    subst hP hw hK
    obtain ⟨its, rv, p, hz⟩ := I.tuple ho
    obtain ⟨i0, o0, e0, c0, d0⟩ := ht
    obtain ⟨oe, ve, ee, de⟩ := he
    have h1 : a ≠ it := fun z => by
      obtain ⟨o, q1, q2, n, q4⟩ := p
      rw [z, e0] at q1
      cases q1
      rw [d0] at q4
      cases q4
    have h2 : a ≠ e := fun z => by
      obtain ⟨o, q1, q2, n, q4⟩ := p
      rw [z, ee] at q1
      cases q1
      rw [de] at q4
      cases q4
    have D := Draws.tuple (prog := X.prog) (w := X.w) (A := X.A.in1) (I.ok.hd hc) it a h1 its.toArray
    rw [List.size_toArray, ← rv.length] at D
    refine ⟨_, _, _, D, ?_, fun i q => ⟨q, p⟩, fun i h' q => q.1, fun i x hx => ?_⟩
    · intro q
      simp only [List.mem_cons, List.not_mem_nil, or_false] at q
      rcases q with q | q
      · exact hne q
      · exact h2 q.symm
    · have hx' : its[i]? = some x := by simpa using hx
      exact valsBack rv hx'
theorem src_txt {P : Program} {w : World} {K : PySem.W.Frag} (it : Addr) (x : Str) (t : Tok) : Src P w K (fun _ => True) (x.cps.toList.map fun c => V.str ⟨#[c]⟩) it (fun i h => h.IsStrIter it (strIterType x) x t i) where
  obj := fun i h st => by
    obtain ⟨o, e, c, d⟩ := st
    exact ⟨o, e, fun v z => by rw [d] at z; cases z⟩
  keep := fun i h h' ⟨o, e, c, d⟩ k => ⟨o, k o e, c, d⟩
  draw := by
    intro X hP hw hK hc pins s σ H e I ho he ht hne
    subst hP hw hK
    have D := Draws.text (prog := X.prog) (w := X.w) (A := X.A.in1) (I.ok.hd hc) it x t
    have el : (x.cps.toList.map fun c => V.str ⟨#[c]⟩).length = x.cps.size := by simp
    rw [← el] at D
    refine ⟨_, _, _, D, ?_, fun i q => q, fun i h' q => q, fun i u hx => ?_⟩
    · intro q
      simp only [List.mem_cons, List.not_mem_nil, or_false] at q
      exact hne q
    · obtain ⟨c, tk, h1, rfl⟩ := hx
      exact ⟨.str ⟨#[c]⟩, by simp [h1], tk, rfl⟩

/-- enumerate(x): x a list, a tuple, a text -/
def iEnum3 (K : PySem.W.Frag) (ta : TA) : TI := fun σ H R => ta σ H fun vs H1 => ∃ x, vs = [x] ∧ ((∃ a xs, x = .ref a ∧ SqL K H1 a xs ∧ R (ItE (fun H => SqL K H a xs) xs) H1) ∨ (∃ a xs, x = .ref a ∧ SqT K H1 a xs ∧ R (ItE (fun H => SqT K H a xs) xs) H1) ∨ ∃ t, x = .str t ∧ R (ItE (fun _ => True) (t.cps.toList.map fun c => V.str ⟨#[c]⟩)) H1)
theorem pi_enum3 {X : Cx} {e : Expr} {ta : TA} {p pos tpos : Pos} {elts : List Expr} {kk : Nat} (hg : Gl X "enumerate") (hm : X.mg "enumerate" = none) (ha : PA X [e] ta) (hs : starEach [e] X.env = [(false, eval e X.env)] := by rfl) :
    PI X (.Tuple elts kk tpos) (.Call (.Name "enumerate" p) [e] [] pos) (iEnum3 X.K ta) := by
  refine ⟨fun pins s σ H R I h => ?_⟩
  refine Call_ (ld_blt I hg hm boot_enumerate (PyProof.Rows.callWith_type1 (thn (ha.run pos pins s σ H _ I h) fun us s1 ⟨vs, H1, I1, r1, q1⟩ => ?_) hs rfl))
  obtain ⟨x, ex, q⟩ := q1
  subst ex
  have fin : ∀ {own : Hp → Prop} {xs : List V} {tn : Nat → Heap → Prop} {h' : Heap}, R (ItE own xs) H1 → Src X.prog X.w X.K own xs s1.heap.objs.size tn → IsEnum h' (s1.heap.objs.size + 1) s1.heap.objs.size 0 .none → tn 0 h' → (∀ b o, s1.heap.get? b = some o → h'.get? b = some o) →
      wpAny (model X.prog X.w) X.A (pyIter (.ref (s1.heap.objs.size + 1))) (PIE X pins σ (.Tuple elts kk tpos) R) X.xe { s1 with heap := h' } := fun {own xs tn h'} q S he ht hk => by
    refine wpAny_pyIter_enum he ?_
    have I2 : Inv X pins σ H1 { s1 with heap := h' } := I1.kept (t' := s1.toks) hk
    refine ⟨s1.heap.objs.size + 1, [s1.heap.objs.size + 1, s1.heap.objs.size], _, _, H1, rfl, I2, turn_enumD (s1.heap.objs.size + 1) s1.heap.objs.size S, ⟨⟨.none, he⟩, ht, Nat.succ_ne_self _, Nat.zero_le _⟩, fun b hb => ?_, q⟩
    have e' : b = s1.heap.objs.size + 1 ∨ b = s1.heap.objs.size := by simpa using hb
    have hle : s1.heap.objs.size ≤ b := by
      rcases e' with z | z
      · rw [z]; exact Nat.le_add_right _ _
      · rw [z]; exact Nat.le_refl _
    exact I1.fpOk hle (I1.hok.fresh hle)
  cases r1 with
  | cons r rr =>
    cases rr
    rcases q with ⟨a, xs, rfl, hq, q⟩ | ⟨a, xs, rfl, hq, q⟩ | ⟨t, rfl, q⟩
    · cases r
      obtain ⟨its, rv, p', hz⟩ := I1.list hq
      exact call_enum1 (begins_list a its.toArray) p'.isList fun h' he ho hsz hk => fin q (src_list a _ xs) he ⟨_, ho, rfl, rfl⟩ hk
    · cases r
      obtain ⟨its, rv, p', hz⟩ := I1.tuple hq
      exact call_enum1 (begins_tuple a its.toArray) p' fun h' he ho hsz hk => fin q (src_tup a _ xs) he ⟨_, ho, rfl, rfl⟩ hk
    · obtain ⟨tk, rfl⟩ := r
      exact call_enum1 (begins_text t tk) trivial fun h' he ho hsz hk => fin q (src_txt _ t tk) he ⟨_, ho, rfl, rfl⟩ hk
end VLE
namespace VL
open PySem PySem.Spec PyProof.Rows L2
def enumD : Nat → List D → List D
  | _, [] => []
  | k, d :: ds => .pr [.int (k : Nat), d] :: enumD (k + 1) ds
theorem enumD_get : ∀ {ds : List D} {k i : Nat} {d : D}, (enumD k ds)[i]? = some d → ∃ x, ds[i]? = some x ∧ d = .pr [.int ((k + i : Nat) : Int), x]
  | [], k, i, d, h => by simp [enumD] at h
  | x :: ds, k, 0, d, h => by
    have e := Option.some.inj h
    exact ⟨x, rfl, e.symm⟩
  | x :: ds, k, i + 1, d, h => by
    obtain ⟨z, h1, h2⟩ := enumD_get (ds := ds) (k := k + 1) (i := i) (d := d) (by simpa [enumD] using h)
    refine ⟨z, h1, ?_⟩
    rw [h2]
    have : k + 1 + i = k + (i + 1) := by omega
    rw [this]
theorem enumD_len : ∀ (ds : List D) (k : Nat), (enumD k ds).length = ds.length
  | [], _ => rfl
  | _ :: ds, k => by
    show (enumD (k + 1) ds).length + 1 = ds.length + 1
    rw [enumD_len ds]
def i_enum (g : EM (List D)) : EM (List D) := fun ρ => (g ρ).bind fun ds => o2 (match ds with
  | [.lst as] => some (enumD 0 as)
  | [.ll as] => some (enumD 0 as)
  | [.tup as] => some (enumD 0 as)
  | [.str x] => some (enumD 0 (signsD x))
  | _ => none)
theorem wk_enum {Y : Yc} {own : Hp → Prop} {xs : List V} {ds : List D} {Hs : Hp} (h : ∀ Hsi Hi, Same Hs Hsi → Same Hsi Hi → own Hi) (r : RepL Y Hs xs ds) : Wk Y (VLE.ItE own xs) Hs (enumD 0 ds) := fun Hsi Hi s s' => by
  refine ⟨fun i d hd => ?_, fun i hi => ⟨h Hsi Hi s s', by rw [enumD_len] at hi; rw [r.length]; exact hi⟩⟩
  obtain ⟨x, h1, h2⟩ := enumD_get hd
  obtain ⟨v, h3, h4⟩ := r.get h1
  refine ⟨⟨h Hsi Hi s s', (List.getElem?_eq_some_iff.mp h3).1⟩, fun u H' q => ?_⟩
  obtain ⟨T, z, eu, hT, eH, ez⟩ := q
  rw [h3] at ez
  cases ez
  subst eu
  subst eH
  have g := Grow.new (.tup [.int (i : Nat), v]) s' hT
  refine ⟨_, g, ?_⟩
  rw [h2, Nat.zero_add]
  exact .pr (.inl (.inl upd_same)) (.cons (.int _) (.cons (h4.mono (s.trans g.ss)) .nil))
theorem rep_signs {Y : Yc} {H : Hp} (x : Str) : RepL Y H (x.cps.toList.map fun c => V.str ⟨#[c]⟩) (signsD x) := by
  unfold signsD
  induction x.cps.toList with
  | nil => exact .nil
  | cons c l ih => exact .cons (.str _) ih
section
variable {X : Cx} {y : Yo} {W : WX} {tg e : Expr} {pos : Pos}
theorem vi_enum {g : EM (List D)} {p tpos : Pos} {elts : List Expr} {kk : Nat} (hm : X.mg "enumerate" = none) (ha : VA X y W [e] g) (hg : Gl X "enumerate" := by rfl) (hs : starEach [e] X.env = [(false, eval e X.env)] := by rfl) :
    VI X y W (.Tuple elts kk tpos) (.Call (.Name "enumerate" p) [e] [] pos) (i_enum g) := by
  refine pi_weak (VLE.pi_enum3 hg hm ha hs) fun σ H R ⟨E0, tm, ρ, Hs, k, p⟩ => ?_
  refine tI.of k p fun ds ρ1 vs Hs1 H1 k1 s1 s1' r1 ef p1 => ?_
  cases r1 with
  | nil => exact p1.elim
  | cons q1 q2 =>
    cases q2 with
    | cons _ _ => cases q1 <;> exact p1.elim
    | nil =>
      cases q1 with
      | lst h1 r1 => exact ⟨_, rfl, .inl ⟨_, _, rfl, SqL.of (k1.sh _ _ h1), p1 _ Hs1 H1 k1 (.refl _) (.refl _) (wk_enum (fun Hsi Hi a b => (a.trans b).seq (SqL.of h1)) r1)⟩⟩
      | ll h1 r1 => exact ⟨_, rfl, .inl ⟨_, _, rfl, k1.sh.seq h1, p1 _ Hs1 H1 k1 (.refl _) (.refl _) (wk_enum (fun Hsi Hi a b => (a.trans b).seq h1) r1)⟩⟩
      | tup h1 r1 => exact ⟨_, rfl, .inr (.inl ⟨_, _, rfl, (h1.mono k1.sh).seq, p1 _ Hs1 H1 k1 (.refl _) (.refl _) (wk_enum (fun Hsi Hi a b => (h1.mono (a.trans b)).seq) r1)⟩)⟩
      | str x => exact ⟨_, rfl, .inr (.inr ⟨x, rfl, p1 _ Hs1 H1 k1 (.refl _) (.refl _) (wk_enum (fun _ _ _ _ => True.intro) (rep_signs x))⟩)⟩
      | _ => exact p1.elim
end
/-! ### int(..) of numbers and truths -/
def intC : List D → Option D
  | [.int i] => some (.int i)
  | [.bl b] => some (.int (if b then 1 else 0))
  | _ => none
theorem intC_ok {Y : Yc} : ClOk Y (fun xs H Q => (∃ i, xs = [.int i] ∧ Q (.int i) H) ∨ ∃ k, xs = [.bl k] ∧ Q (.int (if k then 1 else 0)) H) intC := by
  intro Hs H vs ds z Q e r hz q
  cases r with
  | nil => cases hz
  | cons r1 r2 =>
    cases r2 with
    | cons _ _ => cases r1 <;> cases hz
    | nil =>
      cases r1 with
      | int i =>
        cases hz
        exact .inl ⟨i, rfl, q _ _ _ (.refl e) (.int _)⟩
      | bl b =>
        cases hz
        exact .inr ⟨b, rfl, q _ _ _ (.refl e) (.int _)⟩
      | _ => cases hz
/-! ### a + b, lists, a new one -/
def n_cat (f g : EM D) : EM OD := fun ρ => (f ρ).bind fun x ρ1 => (g ρ1).bind fun w => o2 (match x, w with
  | .lst as, .lst bs => if as.length + bs.length ≤ 16777216 then some (.L (as ++ bs)) else none
  | _, _ => none)
/-! ### target = own.pop(..) -/
def popH1 (ds as : List D) : Option (D × List D) := match as with
  | [.int k] => if ds.length ≤ 16777216 then (ixN ds.length k).bind fun j => (ds[j]?).map fun d => (d, ds.eraseIdx j) else none
  | _ => none
def popH0 (ds _as : List D) : Option (D × List D) := (ds[ds.length - 1]?).map fun d => (d, ds.dropLast)
def s_popset (h : List D → List D → Option (D × List D)) (i : Nat) (g : EM (List D)) (gf : D → Env → Option Env) : SM := fun ρ => match ρ[i]? with
  | some (.own (.L _)) => (g ρ).to fun as ρ1 => (match ρ1[i]? with
    | some (.own (.L ds)) => (match h ds as with
      | some (d, ds') => (match gf d (ρ1.set i (.own (.L ds'))) with
        | some ρ2 => .next ρ2
        | none => .bad)
      | none => .bad)
    | _ => .bad)
  | _ => .bad
theorem RepL.dropLast {Y : Yc} {H : Hp} {vs : List V} {ds : List D} (r : RepL Y H vs ds) : RepL Y H vs.dropLast ds.dropLast := by
  rw [List.dropLast_eq_take, List.dropLast_eq_take, r.length]
  exact r.take _
section
variable {X : Cx} {y : Yo} {W : WX} {tg o e : Expr} {es : List Expr} {g : EM (List D)} {gf : D → Env → Option Env} {is : List Nat} {apos pos pos2 : Pos}
theorem pop_fin {h : List D → List D → Option (D × List D)} {i : Nat} {as : List D} {ws : List V} {ρ1 : Env} {σ : L2.St} {Hs1 H1 : Hp} {E0 : Hp × Hp} {D : Ends} {a : Addr} (hg : VG X y tg is gf) (k1 : Ok (yc X y) E0 [] ρ1 σ Hs1 H1) (r1 : RepL (yc X y) Hs1 ws as) (hσ : σ[i]? = some (some (.ref a)))
    (p1 : PostS (yc X y) W E0 Hs1 D (match ρ1[i]? with
    | some (.own (.L ds)) => (match h ds as with
      | some (d, ds') => (match gf d (ρ1.set i (.own (.L ds'))) with
        | some ρ2 => .next ρ2
        | none => .bad)
      | none => .bad)
    | _ => .bad)) : ∃ xs ds d ds', H1 a = some (.lst xs) ∧ RepL (yc X y) Hs1 xs ds ∧ h ds as = some (d, ds') ∧ ∀ xs' v, RepL (yc X y) Hs1 xs' ds' → Rep (yc X y) Hs1 v d →
      (fun v σ H Q => ∃ E0 tm ρ Hs d ρ', Ok (yc X y) E0 tm ρ σ Hs H ∧ Rep (yc X y) Hs v d ∧ gf d ρ = some ρ' ∧ ∀ σ', Ok (yc X y) E0 tm ρ' σ' Hs H → (∀ i, i ∉ is → σ'[i]? = σ[i]?) → σ'.length = σ.length → Q σ' H : TG) v σ (upd H1 a (.lst xs')) D.nx := by
  cases e3 : ρ1[i]? with
  | none => rw [e3] at p1; exact p1.elim
  | some s3 =>
    rw [e3] at p1
    cases s3 with
    | no => exact p1.elim
    | obj _ _ => exact p1.elim
    | dat _ => exact p1.elim
    | own od =>
      cases od with
      | K _ => exact p1.elim
      | KL _ => exact p1.elim
      | L ds =>
        obtain ⟨a', xs, hσ', ha, hr⟩ := k1.ownL e3
        rw [hσ] at hσ'
        cases hσ'
        have p1 : PostS (yc X y) W E0 Hs1 D (match h ds as with
          | some (d, ds') => (match gf d (ρ1.set i (.own (.L ds'))) with
            | some ρ2 => .next ρ2
            | none => .bad)
          | none => .bad) := p1
        cases ep : h ds as with
        | none => rw [ep] at p1; exact p1.elim
        | some dd =>
          obtain ⟨d, ds'⟩ := dd
          rw [ep] at p1
          have p1 : PostS (yc X y) W E0 Hs1 D (match gf d (ρ1.set i (.own (.L ds'))) with
            | some ρ2 => .next ρ2
            | none => .bad) := p1
          refine ⟨xs, ds, d, ds', ha, hr, ep, fun xs' v hr' rv => ?_⟩
          cases eg : gf d (ρ1.set i (.own (.L ds'))) with
          | none => rw [eg] at p1; exact p1.elim
          | some ρ2 =>
            rw [eg] at p1
            exact ⟨E0, [], _, Hs1, d, ρ2, k1.write e3 hσ (.L hr'), rv, eg, fun σ' k' _ _ => p1 σ' Hs1 _ k' (.refl _)⟩
theorem vs_pop1 (i : Nat) (ho : PE X o (tVar i)) (ha : VA X y W [e] g) (hg : VG X y tg is gf)
    (hbase : attributeBase o "pop" X.env (eval o X.env) = eval o X.env := by rfl)
    (hfew : ((backTo pos (starEach [e] X.env)).all (fun x => !x.1) && (backToKw pos (keywordEach [] X.env)).all (fun x => x.1.isSome) && decide (([e] : List Expr).length + ([] : List Keyword).length + (if ([] : List Keyword).isEmpty then 0 else 1) < 30)) = true := by rfl)
    (hline : (apos.endLine == pos.line) = true := by rfl) (hs : starEach [e] X.env = (false, eval e X.env) :: starEach [] X.env := by rfl) (hplain : (backTo pos (starEach [] X.env)).any (·.1) = false := by rfl)
    (hsw : swapsWithSole [tg] (.Call (.Attribute o "pop" apos) [e] [] pos) pos2.line X.env = pure false := by rfl) (hw : swappedStores [tg] (.Call (.Attribute o "pop" apos) [e] [] pos) X.env = pure none := by rfl)
    (h1 : (assignEach [tg] X.env).map (·.2) = [assign tg X.env] := by rfl) : VS X y W (.Assign [tg] (.Call (.Attribute o "pop" apos) [e] [] pos) pos2) (s_popset popH1 i g gf) := by
  refine ps_weak (ps_asg (pe_bm PySem.F.plainAttrs_list PySem.F.slot_list_pop PySem.F.type_list_pop mt_popAt ho ha hbase hfew hline hs hplain) hg hsw hw h1) fun D σ H ⟨E0, ρ, Hs, k, p⟩ => ?_
  unfold s_popset at p
  cases e0 : ρ[i]? with
  | none => rw [e0] at p; exact p.elim
  | some s0 =>
    rw [e0] at p
    cases s0 with
    | no => exact p.elim
    | obj _ _ => exact p.elim
    | dat _ => exact p.elim
    | own od0 =>
      cases od0 with
      | K _ => exact p.elim
      | KL _ => exact p.elim
      | L ds0 =>
        obtain ⟨a, xs0, hσ, ha0, _⟩ := k.ownL e0
        refine ⟨_, hσ, .inl ⟨rfl, _, SqL.of ha0⟩, ?_⟩
        refine tS.bind k p fun as ρ1 ws Hs1 H1 k1 s1 s1' r1 p1 => ?_
        obtain ⟨xs, ds, d, ds', h1, h2, h3, h4⟩ := pop_fin hg k1 r1 hσ p1
        cases r1 with
        | nil => cases h3
        | cons q1 q2 =>
          cases q2 with
          | cons _ _ => cases q1 <;> cases h3
          | nil =>
            cases q1 with
            | int kk =>
              have h3 : (if ds.length ≤ 16777216 then (ixN ds.length kk).bind (fun j => (ds[j]?).map fun d => (d, ds.eraseIdx j)) else none) = some (d, ds') := h3
              by_cases hl : ds.length ≤ 16777216
              · rw [if_pos hl] at h3
                cases ej : ixN ds.length kk with
                | none => rw [ej] at h3; cases h3
                | some j =>
                  rw [ej] at h3
                  have h3 : (ds[j]?).map (fun d => (d, ds.eraseIdx j)) = some (d, ds') := h3
                  cases ed : ds[j]? with
                  | none => rw [ed] at h3; cases h3
                  | some d0 =>
                    rw [ed] at h3
                    have h3 := Option.some.inj h3
                    cases h3
                    obtain ⟨v, hv, rv⟩ := h2.get ed
                    rw [← h2.length] at ej hl
                    obtain ⟨q3, q4, q5, q6⟩ := ixN_seq ej
                    exact ⟨a, xs, kk, j, v, rfl, rfl, h1, by omega, by omega, q3, hv, h4 _ _ (h2.eraseIdx j) rv⟩
              · rw [if_neg hl] at h3
                cases h3
            | _ => cases h3
theorem vs_pop0 (i : Nat) (ho : PE X o (tVar i)) (hg : VG X y tg is gf)
    (hbase : attributeBase o "pop" X.env (eval o X.env) = eval o X.env := by rfl) (hline : (apos.endLine == pos.line) = true := by rfl)
    (hsw : swapsWithSole [tg] (.Call (.Attribute o "pop" apos) [] [] pos) pos2.line X.env = pure false := by rfl) (hw : swappedStores [tg] (.Call (.Attribute o "pop" apos) [] [] pos) X.env = pure none := by rfl)
    (h1 : (assignEach [tg] X.env).map (·.2) = [assign tg X.env] := by rfl) : VS X y W (.Assign [tg] (.Call (.Attribute o "pop" apos) [] [] pos) pos2) (s_popset popH0 i a_nil gf) := by
  refine ps_weak (ps_asg (pe_bm0 PySem.F.plainAttrs_list PySem.F.slot_list_pop PySem.F.type_list_pop mt_pop ho hbase hline) hg hsw hw h1) fun D σ H ⟨E0, ρ, Hs, k, p⟩ => ?_
  unfold s_popset at p
  cases e0 : ρ[i]? with
  | none => rw [e0] at p; exact p.elim
  | some s0 =>
    rw [e0] at p
    cases s0 with
    | no => exact p.elim
    | obj _ _ => exact p.elim
    | dat _ => exact p.elim
    | own od0 =>
      cases od0 with
      | K _ => exact p.elim
      | KL _ => exact p.elim
      | L ds0 =>
        obtain ⟨a, xs0, hσ, ha0, _⟩ := k.ownL e0
        refine ⟨_, hσ, .inl ⟨rfl, _, SqL.of ha0⟩, ?_⟩
        obtain ⟨xs, ds, d, ds', h1, h2, h3, h4⟩ := pop_fin (as := []) (ws := []) hg k .nil hσ p
        have h3 : (ds[ds.length - 1]?).map (fun d => (d, ds.dropLast)) = some (d, ds') := h3
        cases ed : ds[ds.length - 1]? with
        | none => rw [ed] at h3; cases h3
        | some d0 =>
          rw [ed] at h3
          have h3 := Option.some.inj h3
          cases h3
          obtain ⟨v, hv, rv⟩ := h2.get ed
          rw [← h2.length] at hv
          exact ⟨a, xs, v, rfl, rfl, h1, hv, h4 _ _ h2.dropLast rv⟩
/-- a + b, two lists -/
theorem vn_cat {a b : Expr} {f g : EM D} {kp : Pos} (ha : VE X y W a f) (hb : VE X y W b g) : VN X y W (.BinOp a .Add b kp) (n_cat f g) := by
  refine pe_weak (pe_op op_cat ha hb) fun σ H Q ⟨E0, tm, ρ, Hs, k, p⟩ => ?_
  refine tN.bind k p fun x ρ1 vx Hs1 H1 k1 s1 s1' r1 p1 => ?_
  refine tN.bind k1 p1 fun w ρ2 vw Hs2 H2 k2 s2 s2' r2 p2 => ?_
  unfold o2 at p2
  cases r1 with
  | lst h1 q1 =>
    rename_i as
    cases r2 with
    | lst h2 q2 =>
      rename_i bs
      dsimp only at p2
      by_cases hl : as.length + bs.length ≤ 16777216
      · rw [if_pos hl] at p2
        exact ⟨_, _, _, _, rfl, rfl, k2.sh _ _ (s2 _ _ h1), k2.sh _ _ h2, by rw [q1.length, q2.length, sizeLine_eq]; exact hl, fun q hq => PostN.new p2 k2 hq (.L ((q1.mono s2).append q2))⟩
      · rw [if_neg hl] at p2
        exact p2.elim
    | _ => exact p2.elim
  | _ => cases r2 <;> exact p2.elim
end
end VL

/-! an exception that an except clause keeps under a name of the def, as a value from then on; isinstance of it -/
namespace VLX
open PySem PySem.Spec PyProof.Rows L2
theorem exH_ok {P : Program} {w : World} {H : Hp} {h : Heap} {a C : Addr} {oe : Obj} {vs : Array Value} (e : h.get? a = some oe) (z : Zc (.ref C) none oe) (d : oe.data = .fields vs) : ObjOk P w H h a (VL.ExH C a) :=
  ⟨⟨oe, vs, e, z, d⟩, ⟨oe, e⟩, fun _ _ ⟨o, v, q, r⟩ k => ⟨o, v, k o q, r⟩⟩
/-- an exception's object is tracked from now on -/
theorem track {X : Cx} {pins : List (Addr × Obj)} {σ : L2.St} {H : Hp} {s : Shared} {a C : Addr} {oe : Obj} {vs : Array Value} (I : Inv X pins σ H s) (e : s.heap.get? a = some oe) (z : Zc (.ref C) none oe) (d : oe.data = .fields vs)
    (hn : H a = none) (nL : a ≠ X.env.locals) (fresh : X.s_0.heap.get? a = none) (apart : ∀ p ∈ X.pn ++ pins, p.1 ≠ a) : Inv X pins σ (upd H a (VL.ExH C a)) s := by
  have old : ∀ {b : Addr} {o : HO}, H b = some o → upd H a (VL.ExH C a) b = some o := fun {b o} q => by rw [upd_ne (ne_of_none q hn)]; exact q
  have B := I.base
  refine ⟨I.ok, I.os, I.bare, ⟨B.keep, B.slot, fun b o q n x => ?_, B.there, fun b xs q => old (B.tups b xs q), fun b o u q => old (B.frzs b o u q), fun b ps q => ?_⟩, I.loc, I.cell, ?_, fun x c q => ?_, fun p hp => ?_, fun b o q => ?_, I.len⟩
  · have hb : b ≠ a := fun y => by
      rw [y, fresh] at q
      cases q
    rw [upd_ne hb]
    exact B.free b o q n x
  · obtain ⟨more, r⟩ := B.tbls b ps q
    exact ⟨more, old r⟩
  · rw [upd_ne (Ne.symm nL)]
    exact I.free
  · have hc : c ≠ a := fun y => by
      obtain ⟨v, o, q1, q2⟩ := I.cell x c q
      rw [y, e] at q1
      cases q1
      rw [d] at q2
      cases q2
    rw [upd_ne hc]
    exact I.freeC x c q
  · obtain ⟨q1, q2, q3⟩ := I.pin p hp
    exact ⟨q1, by rw [upd_ne (apart p hp)]; exact q2, q3⟩
  · by_cases hb : b = a
    · subst hb
      rw [upd_same] at q
      have q := Option.some.inj q
      subst q
      exact exH_ok e z d
    · rw [upd_ne hb] at q
      exact (I.hok b o q).stay (fun _ _ _ r => r) (fun _ r => old r) fun _ _ r => old r
/-- what 'except c as n: z = n' wishes of an exception of the body: i is n's slot, j z's -/
def wKeep (K : PySem.W.Frag) (c : Value) (i j : Nat) (Wout : WX) (D : Ends) : WX := fun cls d σ H =>
  ∃ b, PySem.W.exmOne K cls c = some b ∧ (b = true → ∃ C, cls = .ref C ∧ d = none ∧ ∀ a, H a = none → D.nx (((σ.set i (some (.ref a))).set j (some (.ref a))).set i none) (upd H a (VL.ExH C a))) ∧ (b = false → Wout cls d σ H)
theorem sky_fresh {B : Heap} {l : List PySem.Env} {a : Addr} {Z : Obj → Prop} {L : Addr} {h : Heap} (s : Sky B l a Z L h) : B.get? a = none := by
  rcases s with s | s | s
  · exact s.2.1
  · exact s.2.1
  · exact s.2.1
section
variable {X : Cx} {x n z : Str} {c : Value} {i j : Nat} {body : List Stmt} {np np2 zp ap pos pos' : Pos} {tb : WX → TS} {Wout : WX}
theorem ps_try_keep (hs : X.stack = X.env :: X.outer) (hf : X.env.frame = some X.env.locals) (hex : X.ex = []) (hN : X.N.Nodup) (hi : X.N[i]? = some n) (hj : X.N[j]? = some z) (hij : i < X.N.length) (hln : X.env.kindOf n = some .local) (hlz : X.env.kindOf z = some .local) (hc : Names X x c) (tk : Takes X Wout)
    (hd1 : (n == ("__debug__" : Str)) = false) (hd2 : (n == ("__classdict__" : Str)) = false) (hsw : swapsWith (.Name n np2) (some (.Name z zp)) ap.line X.env = pure false)
    (hb : ∀ (W : WX) (pn : List (Addr × Obj)) (xe : Value → Shared → Prop), Takes (X.tr pn xe) W → PassesOwn (model X.prog X.w) X.A X.env xe → PSs (X.tr pn xe) body (tb W)) :
    PS X (.Try body [.ExceptHandler (some (.Name x np)) (some n) [.Assign [.Name z zp] (.Name n np2) ap] pos'] [] [] pos) (fun D σ H => tb (wKeep X.K c i j Wout D) D σ H) := by
  refine ⟨fun pins s σ H D I h => ?_⟩
  have ok := I.ok
  have hfr : X.A.frames = some (X.env :: X.outer) := by rw [ok.frames, hs]
  refine wpAny_Try_except ?_
  refine wpAny_mono ((hb (wKeep X.K c i j Wout D) (X.pn ++ pins) (fun e s₁ => wpAny (model X.prog X.w) X.A (noteFrame e X.env) (fun _ s₂ => wpAny (model X.prog X.w) X.A (setFlight e none) (fun _ s₃ =>
    wpAny (model X.prog X.w) X.A (handleBy e X.env [.ExceptHandler (some (.Name x np)) (some n) [.Assign [.Name z zp] (.Name n np2) ap] pos']) (SP X pins D) X.xe s₃) X.xe s₂) X.xe s₁) (fun u s' air => ?_) PassesOwn.looking).run [] s σ H D (I.toTry _) h) (fun f s1 hsp => ?_) (fun e s1 he => he)
  · obtain ⟨a, B, sI, pins', σ', H', cls, d, rfl, J', nb, up, sky, na, os, ag, b, hb1, hyes, hno⟩ := air
    have J : Inv X pins σ' H' sI := J'.ofTry ok
    have sky' : Sky B (X.env :: X.outer) a (Zc cls d) X.env.locals s'.heap := by rw [← hs]; exact sky
    have bA : B.get? a = none := sky_fresh sky'
    have inB : ∀ b o, sI.heap.get? b = some o → b ≠ X.env.locals → b ∉ X.fs → b ≠ a := fun b o e n1 n2 y => by
      have q := nb b o e (fun m => by
        rw [hs] at m
        obtain ⟨e', he', hq⟩ := List.mem_filterMap.mp m
        rcases List.mem_cons.mp he' with r | r
        · rw [r, hf] at hq
          exact n1 (Option.some.inj hq).symm
        · exact n2 (List.mem_filterMap.mpr ⟨e', r, hq⟩))
      rw [y, bA] at q
      cases q
    show wpAny (model X.prog X.w) X.A (noteFrame (.ref a) X.env) _ _ _
    refine Sky.land Zc.steady hfr hf sky' fun h3 fl3 up3 => ?_
    have J3 : Inv X pins σ' H' { s' with heap := h3 } := J.landed nb fl3.1 (up.trans up3) os ag
    obtain ⟨oe3, vs3, he3, hz3, hd3⟩ := fl3.there
    have nfr : a ∉ frs (X.env :: X.outer) := fun m => by
      obtain ⟨_, o', e', hnf⟩ := fl3.2.2.1.mem m
      rw [he3] at e'
      cases e'
      exact hnf _ hd3
    have nL : a ≠ X.env.locals := fun y => nfr (List.mem_filterMap.mpr ⟨X.env, List.mem_cons_self, by rw [hf, y]⟩)
    have nF : a ∉ X.fs := fun m => by
      obtain ⟨e, he, q⟩ := List.mem_filterMap.mp m
      exact nfr (List.mem_filterMap.mpr ⟨e, List.mem_cons_of_mem _ he, q⟩)
    have fresh : X.s_0.heap.get? a = none := by
      cases q : X.s_0.heap.get? a with
      | none => rfl
      | some o =>
        obtain ⟨o', r⟩ := J.base.there a o q (by rw [hex]; exact List.not_mem_nil)
        exact absurd rfl (inB a o' r nL nF)
    have apart : ∀ p ∈ X.pn ++ pins, p.1 ≠ a := fun p hp => by
      obtain ⟨q1, _, q3, q4, _⟩ := J.pin p hp
      exact inB _ _ q1 q3 q4
    have S3 := J3.suite he3 hd3 na nL nF
    refine wpAny_handleBy_cons (codeAny_handlers_test ?_) (by intro q; cases q)
    have LT : PySem.W.Looks (model X.prog X.w) h3 (typeOf (.ref a)) cls := fun A Q E s k q => wpAny_typeOf_ref (k _ _ he3) (by rw [hz3.1]; exact q)
    have LM := PySem.W.exm_one (M := model X.prog X.w) (J3.kIn) LT hb1
    have test : ∀ {Q : Value → Shared → Prop} {E : Value → Shared → Prop}, Q c { s' with heap := h3 } → wpAny (model X.prog X.w) (X.A.mark (some (.ref a))) (eval (.Name x np) X.env) Q E { s' with heap := h3 } := fun {Q E} q => by
      obtain ⟨hg, hdbg, hm | ⟨hm, hv, hnn⟩⟩ := hc
      · exact ld_glob (X := X.suite a ((a, oe3) :: (X.pn ++ pins))) S3 hg hm q hdbg
      · exact ld_blt (X := X.suite a ((a, oe3) :: (X.pn ++ pins))) S3 hg hm hv q hnn hdbg
    refine test (LM.here ?_)
    cases b with
    | true =>
      refine codeAny_handlers_suite_as ?_
      refine HandSPX.lands_againZ fl3 fun h4 fl4 up4 => ?_
      have J4 : Inv X pins σ' H' { s' with heap := h4 } := J.landed nb fl4.1 ((up.trans up3).trans up4) os ag
      obtain ⟨oe4, vs4, he4, hz4, hd4⟩ := fl4.there
      have S4 := J4.suite he4 hd4 na nL nF
      obtain ⟨C, rfl, rfl, fin⟩ := hyes rfl
      refine store_ok (X := X.suite a ((a, oe4) :: (X.pn ++ pins))) (v := .ref a) S4 hN hi (.inl hln) rfl (fun s5 S5 => ?_) (.inr hln)
      have hlen : i < σ'.length := by
        have q := J4.len
        rw [q]
        exact hij
      have st := ps_set (X := X.suite a ((a, oe4) :: (X.pn ++ pins))) (i := j) (pos := ap) (pos' := zp) hN hj (.inl hlz) (pe_var (pos := np2) hi (.inl hln) hd1 hd2) hsw (.inr hlz)
      refine wpAny_mono ((pss_one st).run [] s5 _ H' { nx := fun σ6 H6 => σ6 = (σ'.set i (some (.ref a))).set j (some (.ref a)) ∧ H6 = H', rt := fun _ _ => False } S5 ⟨_, List.getElem?_set_self hlen, rfl, rfl⟩) (fun f s6 hsp => ?_) (fun _ _ y => False.elim y)
      cases f with
      | next =>
        obtain ⟨σ6, H6, S6, rfl, rfl⟩ := hsp
        have p6 := S6.pin (a, oe4) (List.mem_append_left _ (List.mem_cons_self ..))
        have T6 := track (S6.unsuite ok) p6.1 hz4 hd4 na nL fresh apart
        exact gone_ok T6 hN hi hln fun s7 J7 => ⟨_, _, J7, fin a na⟩
      | brk =>
        obtain ⟨_, _, _, y⟩ := hsp
        exact y.elim
      | cont =>
        obtain ⟨_, _, _, y⟩ := hsp
        exact y.elim
      | ret u =>
        obtain ⟨_, _, _, _, _, y⟩ := hsp
        exact y.elim
    | false =>
      show wpAny _ X.A (handleBy (.ref a) X.env []) _ _ _
      refine wpAny_handleBy_nil ?_
      obtain ⟨k1, k2, k3, oe, vs, T, oT, ts', he, hz, hd, h1, hr⟩ := id fl3
      unfold PySem.passOn
      refine wpAny_bind (wpAny_field he hd h1 ?_)
      rw [if_neg (show ¬ ((Value.ref T == Value.none) = true) from by simp)]
      have out : wpAny (model X.prog X.w) X.A (setFlight (.ref a) X.env.frame) (fun _ s4 => wpAny (model X.prog X.w) X.A (throw (.ref a) : Sem Flow) (SP X pins D) X.xe s4) X.xe { s' with heap := h3 } := by
        rw [hf]
        refine HandSPX.setFlight_upZ fl3 fun h4 hh4 up4 => wpAny_throw (tk _ _ ?_)
        exact ⟨a, B, sI, pins, σ', H', cls, d, rfl, J, nb, (up.trans up3).trans up4, .inr (.inr (by rw [hs]; exact hh4)), na, os, ag, hno rfl⟩
      first
        | exact wpAny_bind (wpAny_pure (wpAny_bind out))
        | exact wpAny_bind out
  · cases f with
    | next =>
      obtain ⟨σ', H', J', q⟩ := hsp
      exact wpAny_execs_nil ⟨σ', H', J'.ofTry ok, q⟩
    | brk =>
      obtain ⟨σ', H', J', q⟩ := hsp
      exact ⟨σ', H', J'.ofTry ok, q⟩
    | cont =>
      obtain ⟨σ', H', J', q⟩ := hsp
      exact ⟨σ', H', J'.ofTry ok, q⟩
    | ret u =>
      obtain ⟨v, σ', H', J', r, q⟩ := hsp
      exact ⟨v, σ', H', J'.ofTry ok, r, q⟩
end
end VLX
namespace VL
open PySem PySem.Spec PyProof.Rows L2
/-! ### try: .. except C as n: z = n -/
def s_tryK (i j : Nat) (cs : List Str) (g : SM) : SM := fun ρ => match g ρ with
  | .err c ρ' => if c ∈ cs then .next (((ρ'.set i (.dat (.exc c))).set j (.dat (.exc c))).set i .no) else .bad
  | r => r
section
variable {X : Cx} {y : Yo} {W : WX} {body : List Stmt} {g : SM} {x n z : Str} {np np2 zp ap pos pos' : Pos}
theorem cv_tr {k : Nat} (v : Cv X W k) {W' : WX} {pn : List (Addr × Obj)} {xe : Value → Shared → Prop} (tk : Takes (X.tr pn xe) W') (ps : PassesOwn (model X.prog X.w) X.A X.env xe) : Cv (X.tr pn xe) W' k := ⟨v.calm, ps, tk, v.nd, v.room⟩
theorem vs_tryK (i j : Nat) (cs : List Str) {k : Nat} (v : Cv X W k) (hm : X.mg x = some (.ref (y.ca x))) (hcs : ∀ c ∈ cs, PySem.W.exmOne X.K (.ref (y.ca c)) (.ref (y.ca x)) = some true)
    (hb : ∀ (W' : WX) (pn : List (Addr × Obj)) (xe : Value → Shared → Prop), Cv (X.tr pn xe) W' k → VSs (X.tr pn xe) y W' body g)
    (hi : X.N[i]? = some n := by rfl) (hj : X.N[j]? = some z := by rfl) (hij : Nat.ble (i + 1) X.N.length = true := by rfl) (hln : X.env.kindOf n = some .local := by rfl) (hlz : X.env.kindOf z = some .local := by rfl) (hg : Gl X x := by rfl) (hdb : (x == ("__debug__" : Str)) = false := by decide)
    (hs : X.stack = X.env :: X.outer := by rfl) (hf : X.env.frame = some X.env.locals := by rfl) (hex : X.ex = [] := by rfl) (hd1 : (n == ("__debug__" : Str)) = false := by decide) (hd2 : (n == ("__classdict__" : Str)) = false := by decide)
    (hsw : swapsWith (.Name n np2) (some (.Name z zp)) ap.line X.env = pure false := by rfl) :
    VS X y W (.Try body [.ExceptHandler (some (.Name x np)) (some n) [.Assign [.Name z zp] (.Name n np2) ap] pos'] [] [] pos) (s_tryK i j cs g) := by
  refine ps_weak (VLX.ps_try_keep (i := i) (j := j) (tb := fun W' => tS (yc X y) W' g) hs hf hex v.nd hi hj (Nat.le_of_ble_eq_true hij) hln hlz ⟨hg, hdb, .inl hm⟩ v.tk hd1 hd2 hsw fun W' pn xe tk ps => hb W' pn xe (cv_tr v tk ps)) fun D σ H ⟨E0, ρ, Hs, k, p⟩ => ?_
  refine ⟨E0, ρ, Hs, k, ?_⟩
  unfold s_tryK at p
  cases e : g ρ with
  | bad => rw [e] at p; exact p
  | next ρ' => rw [e] at p; exact p
  | ret d => rw [e] at p; exact p
  | brk ρ' => rw [e] at p; exact p
  | cont ρ' => rw [e] at p; exact p
  | err c ρ' =>
    rw [e] at p
    have p : PostS (yc X y) W E0 Hs D (if c ∈ cs then .next (((ρ'.set i (.dat (.exc c))).set j (.dat (.exc c))).set i .no) else .bad) := p
    intro σ' Hs' H' k' s'
    by_cases hc : c ∈ cs
    · rw [if_pos hc] at p
      refine ⟨true, hcs c hc, fun _ => ⟨y.ca c, rfl, rfl, fun a ha => ?_⟩, fun q => nomatch q⟩
      have gr := Grow.new (ExH (y.ca c) a) k'.sh ha
      have k1 := k'.grow gr
      have r1 : Rep (yc X y) (upd Hs' a (ExH (y.ca c) a)) (.ref a) (.exc c) := .exc upd_same
      have k2 := (k1.put (i := i) r1).put (i := j) r1
      have k3 : Ok (yc X y) E0 [] (((ρ'.set i (.dat (.exc c))).set j (.dat (.exc c))).set i .no) (((σ'.set i (some (.ref a))).set j (some (.ref a))).set i none) (upd Hs' a (ExH (y.ca c) a)) (upd H' a (ExH (y.ca c) a)) := by
        refine k2.forget (by have q := k2.len; simp only [List.length_set] at q ⊢; exact q) fun l s hl hn => ?_
        by_cases hil : i = l
        · subst hil
          have : i < ((ρ'.set i (.dat (.exc c))).set j (.dat (.exc c))).length := by
            have := (List.getElem?_eq_some_iff.mp hl).1
            rwa [List.length_set] at this
          rw [List.getElem?_set_self this] at hl
          exact absurd (Option.some.inj hl).symm hn
        · rw [List.getElem?_set_ne hil] at hl
          rw [List.getElem?_set_ne hil]
          exact ⟨hl, rfl⟩
      exact p _ _ _ k3 (s'.trans gr.ss)
    · rw [if_neg hc] at p
      exact p.elim
end
/-! ### isinstance of such a value -/
def isiX (yes no : List Str) (d : D) : Option D := match d with
  | .exc c => if c ∈ yes then some (.bl true) else if c ∈ no then some (.bl false) else none
  | _ => none
def e_isiX (yes no : List Str) (f : EM D) : EM D := fun ρ => (f ρ).bind fun d => o2 (isiX yes no d)
def rIsX (K : PySem.W.Frag) : List V → Hp → VK → Prop := fun xs H Q => ∃ (a D : Addr) (c : V) (cv : Value) (b : Bool), xs = [.ref a, c] ∧ H a = some (ExH D a) ∧ ExcC K D ∧ (∀ u, RelV c u → u = cv) ∧ PySem.W.kitOne K (.ref D) cv = some b ∧ Q (.bl b) H
theorem call_isX {X : Cx} : CallR X (.builtin "isinstance") (rIsX X.K) := by
  intro pins s σ H xs us Q I r h
  obtain ⟨a, D, c, cv, b, rfl, ha, C, hcv, e, q⟩ := h
  cases r with
  | cons rx rr =>
    cases rr with
    | cons rt rr =>
      cases rr
      cases rx
      have ec := hcv _ rt
      subst ec
      obtain ⟨⟨oe, vs, hget, hz, hv⟩, _⟩ := I.hok a _ ha
      have J : PySem.W.InstAt s.heap a oe D none := by
        obtain ⟨oc, od, oda, osl⟩ := oe
        obtain ⟨h1, h2⟩ := hz
        dsimp only at h1 h2 hv
        subst h1 h2 hv
        exact ⟨hget, rfl, rfl, trivial⟩
      exact PySem.W.kia_one (PySem.W.handS_kitx_exc C.hg C.hk C.hs C.hd C.ha C.hn C.ht C.hm) I.kIn J e (fun z => nomatch z) fun tk => ⟨.bl b, H, I.kept (t' := tk) fun _ _ z => z, rfl, q⟩
section
variable {X : Cx} {y : Yo} {W : WX} {a : Expr} {f : EM D} {x : Str} {p0 p1 pos : Pos}
theorem ve_isiX_of {yes no : List Str} {cv : Value} {v : V} (hm : X.mg "isinstance" = none) (hb : bootBuiltins "isinstance" = some (.builtin "isinstance")) (hn : PE X (.Name x p1) (tC v)) (hv : ∀ u, RelV v u → u = cv)
    (hC : ∀ c, c ∈ yes ∨ c ∈ no → ExcC X.K (y.ca c)) (hyes : ∀ c ∈ yes, PySem.W.kitOne X.K (.ref (y.ca c)) cv = some true) (hno : ∀ c ∈ no, PySem.W.kitOne X.K (.ref (y.ca c)) cv = some false) (ha : VE X y W a f) (hg : Gl X "isinstance" := by rfl)
    (he : starEach [a, .Name x p1] X.env = (false, eval a X.env) :: starEach [.Name x p1] X.env := by rfl) (he2 : starEach [.Name x p1] X.env = (false, eval (.Name x p1) X.env) :: starEach [] X.env := by rfl)
    (hpl : (backTo pos (starEach [.Name x p1] X.env)).any (·.1) = false := by rfl) : VE X y W (.Call (.Name "isinstance" p0) [a, .Name x p1] [] pos) (e_isiX yes no f) := by
  refine pe_weak (pe_callB call_isX hg hm hb (pa_cons ha (pa_cons hn pa_nil he2) he) (by decide) (by decide) he hpl) fun σ H Q ⟨E0, tm, ρ, Hs, k, p⟩ => ?_
  refine tE.bind k p fun d ρ1 w Hs1 H1 k1 s1 s1' r1 p1 => ?_
  unfold o2 at p1
  cases r1 with
  | @exc q c hq =>
    have e : isiX yes no (.exc c) = if c ∈ yes then some (D.bl true) else if c ∈ no then some (.bl false) else none := rfl
    rw [e] at p1
    by_cases h1 : c ∈ yes
    · rw [if_pos h1] at p1
      exact ⟨q, y.ca c, v, cv, true, rfl, k1.sh _ _ hq, hC c (.inl h1), hv, hyes c h1, PostR.fin p1 k1 (.bl true)⟩
    · rw [if_neg h1] at p1
      by_cases h2 : c ∈ no
      · rw [if_pos h2] at p1
        exact ⟨q, y.ca c, v, cv, false, rfl, k1.sh _ _ hq, hC c (.inr h2), hv, hno c h2, PostR.fin p1 k1 (.bl false)⟩
      · rw [if_neg h2] at p1
        exact p1.elim
  | _ => exact p1.elim
/-- isinstance(e, C), C a class of the program's own -/
theorem ve_isiC {yes no : List Str} (hm : X.mg "isinstance" = none) (hb : bootBuiltins "isinstance" = some (.builtin "isinstance")) (hx : X.mg x = some (.ref (y.ca x)))
    (hC : ∀ c, c ∈ yes ∨ c ∈ no → ExcC X.K (y.ca c)) (hyes : ∀ c ∈ yes, PySem.W.kitOne X.K (.ref (y.ca c)) (.ref (y.ca x)) = some true) (hno : ∀ c ∈ no, PySem.W.kitOne X.K (.ref (y.ca c)) (.ref (y.ca x)) = some false) (ha : VE X y W a f) (hg : Gl X "isinstance" := by rfl) (hgx : Gl X x := by rfl) (hdb : (x == ("__debug__" : Str)) = false := by decide)
    (he : starEach [a, .Name x p1] X.env = (false, eval a X.env) :: starEach [.Name x p1] X.env := by rfl) (he2 : starEach [.Name x p1] X.env = (false, eval (.Name x p1) X.env) :: starEach [] X.env := by rfl)
    (hpl : (backTo pos (starEach [.Name x p1] X.env)).any (·.1) = false := by rfl) : VE X y W (.Call (.Name "isinstance" p0) [a, .Name x p1] [] pos) (e_isiX yes no f) :=
  ve_isiX_of hm hb (pe_glob (v := .ref (y.ca x)) hgx hx rfl hdb) (fun u r => r) hC hyes hno ha hg he he2 hpl
/-- isinstance(e, T), T a built-in class -/
theorem ve_isiT {yes no : List Str} {T : String} (hm : X.mg "isinstance" = none) (hb : bootBuiltins "isinstance" = some (.builtin "isinstance")) (hx : X.mg x = none) (hv : bootBuiltins x = some (.type T))
    (hC : ∀ c, c ∈ yes ∨ c ∈ no → ExcC X.K (y.ca c)) (hyes : ∀ c ∈ yes, PySem.W.kitOne X.K (.ref (y.ca c)) (.type T) = some true) (hno : ∀ c ∈ no, PySem.W.kitOne X.K (.ref (y.ca c)) (.type T) = some false) (ha : VE X y W a f) (hg : Gl X "isinstance" := by rfl) (hgx : Gl X x := by rfl) (hn : x ≠ "__name__" := by decide) (hdb : (x == ("__debug__" : Str)) = false := by decide)
    (he : starEach [a, .Name x p1] X.env = (false, eval a X.env) :: starEach [.Name x p1] X.env := by rfl) (he2 : starEach [.Name x p1] X.env = (false, eval (.Name x p1) X.env) :: starEach [] X.env := by rfl)
    (hpl : (backTo pos (starEach [.Name x p1] X.env)).any (·.1) = false := by rfl) : VE X y W (.Call (.Name "isinstance" p0) [a, .Name x p1] [] pos) (e_isiX yes no f) :=
  ve_isiX_of hm hb (pe_bltn (v := .ty T) hgx hx hv rfl hn hdb) (fun u r => r) hC hyes hno ha hg he he2 hpl
end
end VL

/-! defs as values: [f, g][i](..); list.index; lists and tuples so many times; powers -/
namespace VL
open PySem PySem.Spec PyProof.Rows L2
section
variable {X : Cx} {y : Yo} {W : WX} {x : Str} {pos : Pos}
/-- the name of a def, as a value -/
theorem ve_gref (hat : y.at_ (.ref (y.ca x)) x) (hm : X.mg x = some (.ref (y.ca x))) (hg : Gl X x := by rfl) (hdb : (x == ("__debug__" : Str)) = false := by decide) : VE X y W (.Name x pos) (e_k (.atm x)) :=
  pe_weak (pe_glob (v := .ref (y.ca x)) hg hm rfl hdb) fun σ H Q ⟨E0, tm, ρ, Hs, k, p⟩ => PostR.fin p k (.atm hat)
end
/-- defs by their names -/
abbrev FTab := List (Str × Nat × (List D → RF))
structure FTabOk (X : Cx) (y : Yo) (j : Nat) (fs : FTab) : Prop where
  cl : ∀ q ∈ fs, ∃ l, l ≤ j ∧ Cl X.prog X.w X.K X.mg X.base y l q.1 q.2.1 q.2.2 ∧ X.mg q.1 = some (.ref (y.ca q.1))
  at_ : ∀ v n, y.at_ v n → v = .ref (y.ca n)
theorem ftab_nil {X : Cx} {y : Yo} {j : Nat} (h : ∀ v n, y.at_ v n → v = .ref (y.ca n)) : FTabOk X y j [] := ⟨fun _ m => (nomatch m), h⟩
theorem ftab_cons {X : Cx} {y : Yo} {j l n : Nat} {x : Str} {F : List D → RF} {fs : FTab} (c : Cl X.prog X.w X.K X.mg X.base y l x n F) (hm : X.mg x = some (.ref (y.ca x))) (h : FTabOk X y j fs) (hl : l ≤ j := by decide) : FTabOk X y j ((x, n, F) :: fs) :=
  ⟨fun q m => by
    rcases List.mem_cons.mp m with rfl | m
    · exact ⟨l, hl, c, hm⟩
    · exact h.cl q m, h.at_⟩
def e_callT (fs : FTab) (f : EM D) (g : EM (List D)) : EM D := fun ρ => (f ρ).bind fun d ρ1 => match d with
  | .atm x => (match fs.find? fun q => decide (q.1 = x) with
    | some q => e_call q.2.2 q.2.1 g ρ1
    | none => .bad)
  | _ => .bad
section
variable {X : Cx} {y : Yo} {W : WX} {fe e : Expr} {es : List Expr} {f : EM D} {g : EM (List D)} {pos : Pos}
def tCallT (X : Cx) (y : Yo) (W : WX) (fs : FTab) (tf : TE) (t : TA) : TE := fun σ H Q => tf σ H fun v H1 => ∃ q ∈ fs, v = .ref (y.ca q.1) ∧ t σ H1 fun vs H2 => spV (yc X y) q.2.1 q.2.2 vs H2 Q (WE W σ)
theorem pe_callT {j : Nat} {fs : FTab} {tf : TE} {t : TA} (v : Cv X W j) (hfs : FTabOk X y j fs) (hf : PE X fe tf) (ha : PA X (e :: es) t)
    (ht : eval (.Call fe (e :: es) [] pos) X.env = (do callWith pos (← eval fe X.env) [] (backTo pos (starEach (e :: es) X.env)) (backToKw pos (keywordEach [] X.env))) := by rfl)
    (he : starEach (e :: es) X.env = (false, eval e X.env) :: starEach es X.env := by rfl) (hpl : (backTo pos (starEach es X.env)).any (·.1) = false := by rfl) : PE X (.Call fe (e :: es) [] pos) (tCallT X y W fs tf t) := by
  refine ⟨fun pins s σ H Q I h => ?_⟩
  refine Call_ (thn (hf.run pins s σ H _ I h) fun u s1 ⟨w, H1, I1, ry, q, hq, ew, z⟩ => ?_) ht
  subst ew
  obtain rfl : u = Value.ref (y.ca q.1) := ry
  obtain ⟨l, hl, c, hm⟩ := hfs.cl q hq
  obtain ⟨fa, fd, ps, FO, hm2, kp, b⟩ := c.ex
  have ea : fa = y.ca q.1 := by
    rw [hm] at hm2
    have := Option.some.inj hm2
    injection this with this
    exact this.symm
  subst ea
  refine PySem.W.callWith_K (h₀ := X.base) I.ok.mod.kin kp (thn (ha.run pos pins s1 σ H1 _ I1 z) fun us s2 ⟨vs, H2, I2, r, q2⟩ => ⟨I2.kIn, ?_⟩) he hpl
  exact run_fnS FO (v.room.mono hl) b (passAt v.tk σ) I2 r q2
theorem ve_callT {j : Nat} {fs : FTab} (v : Cv X W j) (hfs : FTabOk X y j fs) (hf : VE X y W fe f) (ha : VA X y W (e :: es) g)
    (ht : eval (.Call fe (e :: es) [] pos) X.env = (do callWith pos (← eval fe X.env) [] (backTo pos (starEach (e :: es) X.env)) (backToKw pos (keywordEach [] X.env))) := by rfl)
    (he : starEach (e :: es) X.env = (false, eval e X.env) :: starEach es X.env := by rfl) (hpl : (backTo pos (starEach es X.env)).any (·.1) = false := by rfl) : VE X y W (.Call fe (e :: es) [] pos) (e_callT fs f g) := by
  refine pe_weak (pe_callT v hfs hf ha ht he hpl) fun σ H Q ⟨E0, tm, ρ, Hs, k, p⟩ => ?_
  refine tE.bind k p fun d ρ1 w Hs1 H1 k1 s1 s1' r1 p1 => ?_
  cases r1 with
  | @atm u x hx =>
    have p1 : PostR (yc X y) W (fun Hs v d => Rep (yc X y) Hs v d) E0 tm σ Hs1 H1 Q (match fs.find? fun q => decide (q.1 = x) with
      | some q => e_call q.2.2 q.2.1 g ρ1
      | none => .bad) := p1
    cases ef : fs.find? fun q => decide (q.1 = x) with
    | none => rw [ef] at p1; exact p1.elim
    | some q =>
      rw [ef] at p1
      have eq1 : q.1 = x := of_decide_eq_true (List.find?_some (p := fun q : Str × Nat × (List D → RF) => decide (q.1 = x)) ef)
      refine ⟨q, List.mem_of_find?_eq_some ef, by rw [eq1]; exact hfs.at_ _ _ hx, ?_⟩
      refine tE.bind k1 p1 fun xs ρ2 vs Hs2 H2 k2 s2 s2' r2 p2 => ?_
      by_cases hl : xs.length = q.2.1
      · rw [if_pos hl] at p2
        refine ⟨Hs2, xs, k2.sh, r2, hl, ?_⟩
        cases eF : q.2.2 xs with
        | bad => rw [eF] at p2; exact p2.elim
        | ok d =>
          rw [eF] at p2
          exact fun v Hs' H' gr rr => p2.finG k2 gr rr
        | err c =>
          rw [eF] at p2
          intro H' s'
          have gr := Grow.heap k2.sh s'
          exact p2 Hs2 H' (k2.grow gr) gr.ss gr.hh
      · rw [if_neg hl] at p2
        exact p2.elim
  | _ => exact p1.elim
end
/-- [f, g, ..][i](..): by the place -/
def e_callI (fs : FTab) (fi : EM D) (g : EM (List D)) : EM D := fun ρ => (fi ρ).bind fun d ρ1 => match d with
  | .int k => (match atI fs k with
    | some q => e_call q.2.2 q.2.1 g ρ1
    | none => .bad)
  | _ => .bad
def namesE : FTab → EM (List D)
  | [] => a_nil
  | q :: fs => a_cons (e_k (.atm q.1)) (namesE fs)
theorem namesE_ok (ρ : Env) : ∀ fs : FTab, namesE fs ρ = .ok (fs.map fun q => .atm q.1) ρ
  | [] => rfl
  | q :: fs => by
    show ((e_k (.atm q.1) ρ).bind fun x ρ1 => (namesE fs ρ1).bind fun xs ρ2 => .ok (x :: xs) ρ2) = _
    show ((namesE fs ρ).bind fun xs ρ2 => .ok (D.atm q.1 :: xs) ρ2) = _
    rw [namesE_ok ρ fs]
    rfl
theorem find_nodup : ∀ {fs : FTab} {i : Nat} {q : Str × Nat × (List D → RF)}, (fs.map (·.1)).Nodup → fs[i]? = some q → fs.find? (fun r => decide (r.1 = q.1)) = some q
  | [], i, q, _, h => by simp at h
  | r :: fs, 0, q, _, h => by
    have := Option.some.inj h
    subst this
    rw [List.find?_cons, decide_eq_true rfl]
  | r :: fs, i + 1, q, nd, h => by
    have nd' := List.nodup_cons.mp (by simpa using nd : (r.1 :: fs.map (·.1)).Nodup)
    have h' : fs[i]? = some q := by simpa using h
    have : r.1 ≠ q.1 := fun e => nd'.1 (by rw [e]; exact List.mem_map_of_mem (List.mem_of_getElem? h'))
    rw [List.find?_cons, decide_eq_false this]
    exact find_nodup nd'.2 h'
theorem callI_eq {fs : FTab} (nd : (fs.map (·.1)).Nodup) (hl : fs.length ≤ 1000) (fi : EM D) (g : EM (List D)) : e_callT fs (e_op subD2 (e_lst (namesE fs)) fi) g = e_callI fs fi g := by
  funext ρ
  have e1 : e_lst (namesE fs) ρ = .ok (.lst (fs.map fun q => .atm q.1)) ρ := by
    show ((namesE fs ρ).bind fun xs => o2 (if xs.length ≤ 16777216 then some (D.lst xs) else none)) = _
    rw [namesE_ok]
    show o2 (if (fs.map fun q => D.atm q.1).length ≤ 16777216 then some (D.lst (fs.map fun q => .atm q.1)) else none) ρ = _
    rw [if_pos (by rw [List.length_map]; omega)]
    rfl
  have e2 : e_op subD2 (e_lst (namesE fs)) fi ρ = (fi ρ).bind fun d => o2 (subD2 (.lst (fs.map fun q => .atm q.1)) d) := by
    show ((e_lst (namesE fs) ρ).bind fun x ρ1 => (fi ρ1).bind fun w => o2 (subD2 x w)) = _
    rw [e1]
    rfl
  show ((e_op subD2 (e_lst (namesE fs)) fi ρ).bind fun d ρ1 => match d with
    | .atm x => (match fs.find? fun q => decide (q.1 = x) with
      | some q => e_call q.2.2 q.2.1 g ρ1
      | none => .bad)
    | _ => .bad) = (fi ρ).bind fun d ρ1 => match d with
    | .int k => (match atI fs k with
      | some q => e_call q.2.2 q.2.1 g ρ1
      | none => .bad)
    | _ => .bad
  rw [e2]
  cases fi ρ with
  | bad => rfl
  | err c ρ' => rfl
  | ok d ρ' =>
    cases d with
    | int k =>
      show (RE.bind (o2 (atI (fs.map fun q => D.atm q.1) k) ρ') _) = (match atI fs k with
        | some q => e_call q.2.2 q.2.1 g ρ'
        | none => .bad)
      unfold atI
      rw [List.length_map]
      cases ixN fs.length k with
      | none => rfl
      | some j =>
        show (RE.bind (o2 ((fs.map fun q => D.atm q.1)[j]?) ρ') _) = (match fs[j]? with
          | some q => e_call q.2.2 q.2.1 g ρ'
          | none => .bad)
        rw [List.getElem?_map]
        cases ej : fs[j]? with
        | none => rfl
        | some q =>
          show (match fs.find? fun r => decide (r.1 = q.1) with
            | some q => e_call q.2.2 q.2.1 g ρ'
            | none => .bad) = e_call q.2.2 q.2.1 g ρ'
          rw [find_nodup nd ej]
    | _ => rfl
theorem callI_of {X : Cx} {y : Yo} {W : WX} {e : Expr} {fs : FTab} {fi : EM D} {g : EM (List D)} (nd : (fs.map (·.1)).Nodup) (hl : fs.length ≤ 1000) (h : VE X y W e (e_callT fs (e_op subD2 (e_lst (namesE fs)) fi) g)) : VE X y W e (e_callI fs fi g) := by
  rw [callI_eq nd hl] at h
  exact h
/-! ### l.index(x) -/
def idxF : List D → D → Option Nat
  | [], _ => none
  | a :: l, x => if eqF a x = true then some 0 else (idxF l x).map (· + 1)
theorem idxF_spec : ∀ {l : List D} {x : D} {j : Nat}, idxF l x = some j → ∃ a, l[j]? = some a ∧ eqF a x = true ∧ ∀ (m : Nat) (z : D), m < j → l[m]? = some z → eqF z x = false
  | [], _, _, h => by cases h
  | a :: l, x, j, h => by
    unfold idxF at h
    by_cases e : eqF a x = true
    · rw [if_pos e] at h
      cases h
      exact ⟨a, rfl, e, fun m z hm => absurd hm (Nat.not_lt_zero _)⟩
    · rw [if_neg e] at h
      cases er : idxF l x with
      | none => rw [er] at h; cases h
      | some r =>
        rw [er] at h
        cases h
        obtain ⟨b, h1, h2, h3⟩ := idxF_spec er
        refine ⟨b, by simpa using h1, h2, fun m z hm hz => ?_⟩
        cases m with
        | zero =>
          have := Option.some.inj hz
          subst this
          simpa using e
        | succ m => exact h3 m z (Nat.lt_of_succ_lt_succ hm) (by simpa using hz)
def indexD (x : D) (ys : List D) : Option D := match x, ys with
  | .lst ds, [d] => if flatD d = true ∧ ds.all flatD = true then (idxF ds d).map fun (j : Nat) => .int (j : Nat) else none
  | _, _ => none
def e_lindex (f : EM D) (g : EM (List D)) : EM D := fun ρ => (f ρ).bind fun x ρ1 => match x with
  | .lst ds => (g ρ1).bind fun ys => o2 (indexD (.lst ds) ys)
  | _ => .bad
section
variable {X : Cx} {y : Yo} {W : WX} {o e : Expr} {f : EM D} {g : EM (List D)} {apos pos : Pos}
theorem ve_lindex (ho : VE X y W o f) (ha : VA X y W [e] g) (hbase : attributeBase o "index" X.env (eval o X.env) = eval o X.env := by rfl)
    (hfew : ((backTo pos (starEach [e] X.env)).all (fun x => !x.1) && (backToKw pos (keywordEach [] X.env)).all (fun x => x.1.isSome) && decide ([e].length + ([] : List Keyword).length + (if ([] : List Keyword).isEmpty then 0 else 1) < 30)) = true := by rfl)
    (hline : (apos.endLine == pos.line) = true := by rfl) (hs : starEach [e] X.env = (false, eval e X.env) :: starEach [] X.env := by rfl) (hpl : (backTo pos (starEach [] X.env)).any (·.1) = false := by rfl) :
    VE X y W (.Call (.Attribute o "index" apos) [e] [] pos) (e_lindex f g) := by
  refine pe_weak (pe_bm PySem.F.plainAttrs_list PySem.F.slot_list_index PySem.F.type_list_index mt_index ho ha hbase hfew hline hs hpl) fun σ H Q ⟨E0, tm, ρ, Hs, k, p⟩ => ?_
  refine tE.bind k p fun x ρ1 v1 Hs1 H1 k1 s1 s1' r1 p1 => ?_
  cases r1 with
  | @lst l vs ds hl hr =>
    refine ⟨.inl ⟨rfl, vs, SqL.of (k1.sh _ _ hl)⟩, ?_⟩
    refine tE.bind k1 p1 fun ws ρ2 us Hs2 H2 k2 s2 s2' r2 p2 => ?_
    unfold o2 at p2
    cases ec : indexD (.lst ds) ws with
    | none => rw [ec] at p2; exact p2.elim
    | some z =>
      rw [ec] at p2
      cases r2 with
      | nil => cases ec
      | cons q1 q2 =>
        cases q2 with
        | cons _ _ => cases ec
        | @nil =>
          rename_i w d
          have ec' : (if flatD d = true ∧ ds.all flatD = true then (idxF ds d).map (fun (j : Nat) => D.int (j : Nat)) else none) = some z := ec
          by_cases hf : flatD d = true ∧ ds.all flatD = true
          · rw [if_pos hf] at ec'
            cases ei : idxF ds d with
            | none => rw [ei] at ec'; cases ec'
            | some j =>
              rw [ei] at ec'
              have ez := Option.some.inj ec'
              subst ez
              obtain ⟨b, b1, b2, b3⟩ := idxF_spec ei
              obtain ⟨e1, e2⟩ := flat_reps hr hf.2
              have e3 := flat_rep q1 hf.1
              subst e1
              subst e3
              refine ⟨l, _, _, j, vF b, rfl, rfl, SqL.of (k2.sh _ _ (s2 _ _ hl)), flat_v hf.1, e2, by rw [List.getElem?_map, b1]; rfl, b2, fun m z' hm hz => ?_, PostR.fin p2 k2 (.int _)⟩
              rw [List.getElem?_map] at hz
              cases em : ds[m]? with
              | none => rw [em] at hz; cases hz
              | some z0 =>
                rw [em] at hz
                have := Option.some.inj hz
                subst this
                exact b3 m z0 hm em
          · rw [if_neg hf] at ec'
            cases ec'
  | _ => exact p1.elim
end
/-! ### so many times -/
theorem RepL.flat {Y : Yc} {H : Hp} {vs : List V} {ds : List D} (r : RepL Y H vs ds) : ∀ n : Nat, RepL Y H (List.replicate n vs).flatten (List.replicate n ds).flatten
  | 0 => .nil
  | n + 1 => by
    rw [List.replicate_succ, List.replicate_succ, List.flatten_cons, List.flatten_cons]
    exact r.append (RepL.flat r n)
def repD : D → D → Option D
  | .lst xs, .int k => if -1000000 ≤ k ∧ k ≤ 1000000 ∧ xs.length * k.toNat ≤ 16777216 then some (.lst (List.replicate k.toNat xs).flatten) else none
  | _, _ => none
theorem rep_ok {Y : Yc} : OpOk Y rRep repD := by
  intro Hs H vx vy x w z Q e rx ry hz q
  cases rx with
  | @lst a xs ds ha hr =>
    cases ry with
    | int k =>
      have hz : (if -1000000 ≤ k ∧ k ≤ 1000000 ∧ ds.length * k.toNat ≤ 16777216 then some (D.lst (List.replicate k.toNat ds).flatten) else none) = some z := hz
      by_cases hk : -1000000 ≤ k ∧ k ≤ 1000000 ∧ ds.length * k.toNat ≤ 16777216
      · rw [if_pos hk] at hz
        have ez := Option.some.inj hz
        subst ez
        refine ⟨a, k, xs, rfl, rfl, e _ _ ha, by omega, by omega, by rw [hr.length, sizeLine_eq]; exact hk.2.2, fun p hp => ?_⟩
        have g := Grow.new (.lst (List.replicate k.toNat xs).flatten) e hp
        exact q _ _ _ g (.lst upd_same ((hr.mono g.ss).flat _))
      · rw [if_neg hk] at hz
        cases hz
    | _ => cases hz
  | _ => cases ry <;> cases hz
/-! ### powers -/
def powD : D → D → Option D
  | .int i, .int j => if 0 ≤ j ∧ j ≤ 1000 ∧ i.natAbs < 18446744073709551616 then some (.int (i ^ j.toNat)) else none
  | _, _ => none
theorem pow_ok {Y : Yc} : OpOk Y (rI CPow fun i j => .int (i ^ j.toNat)) powD := by
  intro Hs H vx vy x w z Q e rx ry hz q
  cases rx with
  | int i =>
    cases ry with
    | int j =>
      have hz : (if 0 ≤ j ∧ j ≤ 1000 ∧ i.natAbs < 18446744073709551616 then some (D.int (i ^ j.toNat)) else none) = some z := hz
      by_cases hk : 0 ≤ j ∧ j ≤ 1000 ∧ i.natAbs < 18446744073709551616
      · rw [if_pos hk] at hz
        have ez := Option.some.inj hz
        subst ez
        exact ⟨i, j, rfl, rfl, ⟨hk.1, by omega, hk.2.2⟩, q _ _ _ (.refl e) (.int _)⟩
      · rw [if_neg hk] at hz
        cases hz
    | _ => cases hz
  | _ => cases ry <;> cases hz
end VL
namespace VL
open PySem PySem.Spec PyProof.Rows L2
theorem excs_of {K : PySem.W.Frag} {ca : Str → Addr} {yes no errs : List Str} (h : ∀ c ∈ errs, ExcC K (ca c)) (hs : ((yes ++ no).all fun c => decide (c ∈ errs)) = true) : ∀ c, c ∈ yes ∨ c ∈ no → ExcC K (ca c) := fun c hc =>
  h c (of_decide_eq_true (List.all_eq_true.mp hs c (List.mem_append.mpr hc)))
theorem bt_ValueError : bootBuiltins "ValueError" = some (.type "ValueError") := by decide +kernel
end VL

/-! defs that call themselves, so deep; a, b = e, a new object -/
namespace VL
open PySem PySem.Spec PyProof.Rows L2
/-- so many calls deep -/
def recD (m : Nat) (g : (List D → RF) → SM) : Nat → List D → RF
  | 0 => runD m s_bad
  | n + 1 => runD m (g (recD m g n))
theorem cl_rec {P : Program} {w : World} {K : PySem.W.Frag} {mg : Str → Option Value} {base : Heap} {y : Yo} {k0 n m : Nat} {x : Str} {g : (List D → RF) → SM}
    (h0 : Cl P w K mg base y (k0 + 1) x n (runD m s_bad)) (h1 : ∀ l G, k0 + 1 ≤ l → Cl P w K mg base y l x n G → Cl P w K mg base y (l + 1) x n (runD m (g G))) : ∀ j, Cl P w K mg base y (k0 + 1 + j) x n (recD m g j)
  | 0 => h0
  | j + 1 => h1 _ _ (Nat.le_add_right _ _) (cl_rec h0 h1 j)
/-- a, b = e, f: b's a new object -/
def s_parDN (i j : Nat) (f : EM D) (h : EM OD) : SM := fun ρ => (f ρ).to fun d ρ1 => (h ρ1).to fun o ρ2 => .next ((ρ2.set i (.dat d)).set j (.own o))
section
variable {X : Cx} {y : Yo} {W : WX} {f : EM D} {h : EM OD} {x z : Str} {a b : Expr} {px py pt pos : Pos} {kt k2 pt2}
theorem vs_parDN (i j : Nat) {n : Nat} (v : Cv X W n) (ha : VE X y W a f) (hb : VN X y W b h) (hi : X.N[i]? = some x := by rfl) (hj : X.N[j]? = some z := by rfl) (hij : i ≠ j := by decide)
    (hx : X.env.scope.names.lookup x = some .local := by rfl) (hy : X.env.scope.names.lookup z = some .local := by rfl)
    (he : starEach [a, b] X.env = (false, eval a X.env) :: starEach [b] X.env := by rfl) (he2 : starEach [b] X.env = (false, eval b X.env) :: starEach [] X.env := by rfl)
    (hw : swappedStores [.Tuple [.Name x px, .Name z py] kt pt] (.Tuple [a, b] k2 pt2) X.env = pure (some [x, z]) := by rfl)
    (hs : swapsWithSole [.Tuple [.Name x px, .Name z py] kt pt] (.Tuple [a, b] k2 pt2) pos.line X.env = pure false := by rfl) :
    VS X y W (.Assign [.Tuple [.Name x px, .Name z py] kt pt] (.Tuple [a, b] k2 pt2) pos) (s_parDN i j f h) := by
  refine ps_weak (ps_par (i := i) (j := j) v.calm v.nd hi hj hij hx hy (pa_cons ha (pa_cons hb pa_nil he2) he) hw hs) fun D σ H ⟨E0, ρ, Hs, k, p⟩ => ?_
  unfold s_parDN at p
  refine tS.bind k p fun d ρ1 va Hs1 H1 k1 s1 s1' r1 p1 => ?_
  refine ⟨E0, [], ρ1, Hs1, k1, ?_⟩
  cases e : h ρ1 with
  | bad => rw [e] at p1; exact p1.elim
  | err c ρ' =>
    rw [e] at p1
    exact fun Hs' H' k' s s' => p1 σ Hs' H' k' s
  | ok o ρ2 =>
    rw [e] at p1
    intro q u Hs2 H2 k2 hn s2 s2' hu r
    have p2 : PostS (yc X y) W E0 Hs1 D (.next ((ρ2.set i (.dat d)).set j (.own o))) := p1
    have k3 := (k2.put (i := i) (r1.mono s2)).tmpPut (i := j) hn hu r
    exact ⟨va, .ref q, rfl, p2 _ Hs2 H2 k3 s2⟩
end
end VL

/-! list(range(n)), list(text), sorted(text); e if t else f of new objects -/
namespace VLS2
open PySem PySem.Spec PyProof.Rows L2 VLE
theorem signs_vals {x : Str} {acc : Array Value} (h : ItemsOf (SignAt x) acc x.cps.size) : Vals (x.cps.toList.map fun c => V.str ⟨#[c]⟩) acc.toList := by
  refine vals_of_at (by simp [h.1]) fun j v u h1 h2 => ?_
  obtain ⟨c, t, h3, rfl⟩ := h.2 j u (by rw [← Array.getElem?_toList]; exact h2)
  rw [List.getElem?_map, Array.getElem?_toList, h3] at h1
  have h1 := Option.some.inj h1
  subst h1
  exact ⟨t, rfl⟩
section
variable {X : Cx}
def rListS : List V → Hp → VK → Prop := fun xs H Q => ∃ x, xs = [.str x] ∧ x.length ≤ sizeLine ∧ ∀ q, H q = none → Q (.ref q) (upd H q (.lst (x.cps.toList.map fun c => V.str ⟨#[c]⟩)))
theorem call_listS (hc : X.calm = true) : CallR X (.type "list") rListS := by
  intro pins s σ H xs us Q I r h
  obtain ⟨x, e, hx, q⟩ := h
  subst e
  obtain ⟨u, eu, t, rfl⟩ := vals1 r
  subst eu
  refine call_list_str (I.ok.hd hc) x t (fun h' tk acc' c' hk hS hacc => ?_) hx
  refine ⟨.ref s.heap.objs.size, _, I.laid (t' := tk) hk (Nat.le_refl _) (o := .lst (x.cps.toList.map fun c => V.str ⟨#[c]⟩)) ⟨?_, acc'.toList, c', signs_vals hacc, by rw [Array.toArray_toList]; exact hS⟩, rfl, q _ (I.hok.fresh (Nat.le_refl _))⟩
  rw [List.length_map]
  exact hx
def rSortT : List V → Hp → VK → Prop := fun xs H Q => ∃ x, xs = [.str x] ∧ x.length ≤ sizeLine ∧ ∀ (ys : List Str) q, ys.Perm (x.cps.toList.map fun c => (⟨#[c]⟩ : Str)) → sortedS ys = true → H q = none → Q (.ref q) (upd H q (.lst (ys.map V.str)))
theorem cr_sortT (hc : X.calm = true) : CallR X (.builtin "sorted") rSortT := by
  intro pins s σ H xs us Q I r h
  obtain ⟨x, e, hx, q⟩ := h
  subst e
  obtain ⟨u, eu, t, rfl⟩ := vals1 r
  subst eu
  refine Calls.call_function_entry kind_sorted plain_sorted entry_sorted (args_sorted1 _) ?_
  unfold Builtin.«sorted»
  refine wpAny_bind (m := checkCount "sorted" 1 1 _) (wpAny_pure ?_)
  refine wpAny_bind (wpAny_collect_str (A := X.A.in1) (I.ok.hd hc) x t (fun s1 acc k1 g1 d1 o1 hacc => ?_) hx)
  have hv := signs_vals hacc
  have hS : StrsAre acc.toList (x.cps.toList.map fun c => (⟨#[c]⟩ : Str)) := by
    have : Vals ((x.cps.toList.map fun c => (⟨#[c]⟩ : Str)).map V.str) acc.toList := by
      rw [List.map_map]
      exact hv
    simpa using this.strs
  have vl : acc.toList.length ≤ sizeLine := by
    have := hacc.1
    simp only [Array.length_toList]
    rw [this]
    exact hx
  refine wpAny_bind (wpAny_newList ?_ vl)
  have oL : (s1.heap.push (seqObj "list" acc.toList.toArray 0)).get? s1.heap.objs.size = some (seqObj "list" acc.toList.toArray 0) := Heap.get?_push_size _ rfl
  refine wpAny_bind (wpAny_holding (wpAny_call_entry slot_list_sort ⟨_, oL, rfl⟩ entry_list_sort (list_sort_treeKAny strKind_oneLt oL hS.keysOf (fun v₁ v₂ rest e => keyKind_strs (by rw [← e]; exact hS)) vl fun st hp hs => ⟨_, rfl, ?_⟩) (args_list_sort _)))
  obtain ⟨ys, x1, x2, x3⟩ := sorted_out_str hS hp hs
  obtain ⟨c, hcc⟩ := sortedHeap_at (vs := acc.toList) (out := (arrOf st).map (·.2)) oL
  have hp : s.heap.get? s1.heap.objs.size = none := by
    cases e : s.heap.get? s1.heap.objs.size with
    | none => rfl
    | some o => exact absurd (Heap.lt_size (k1 _ _ e)) (Nat.lt_irrefl _)
  have hn : H s1.heap.objs.size = none := I.hok.gone hp
  have hlen : (ys.map V.str).length ≤ sizeLine := by
    rw [List.length_map, x2.length_eq, List.length_map]
    exact hx
  have kk : ∀ b u, s.heap.get? b = some u → (sortedHeap (s1.heap.push (seqObj "list" acc.toList.toArray 0)) s1.heap.objs.size acc.toList ((arrOf st).map (·.2))).get? b = some u := fun b u e => by
    have q := k1 b u e
    have lt := Heap.lt_size q
    rw [sortedHeap_old (Nat.ne_of_lt lt) (by rw [size_push']; exact Nat.lt_succ_of_lt lt)]
    exact Heap.get?_push_of_some _ q
  refine wpAny_pure ⟨_, rfl, ?_⟩
  have J : Inv X pins σ (upd H s1.heap.objs.size (.lst (ys.map V.str))) { s with heap := sortedHeap (s1.heap.push (seqObj "list" acc.toList.toArray 0)) s1.heap.objs.size acc.toList ((arrOf st).map (·.2)), gens := s1.gens, drawn := s1.drawn, toks := s1.toks } :=
    I.call (ch := []) (Un.laidN kk hp hn) (I.hok.laidN kk hn ⟨hlen, _, c, vals_of_strs x1, hcc⟩) (by rw [g1]; exact I.bare) fun _ z => nomatch z
  cases s1
  cases s
  cases o1
  exact ⟨.ref _, _, J, rfl, q ys _ x2 x3 hn⟩
end
end VLS2
namespace VL
open PySem PySem.Spec PyProof.Rows L2
/-! ### as plain values -/
theorem signsD_vals {Y : Yc} {H : Hp} (x : Str) : RepL Y H (x.cps.toList.map fun c => V.str ⟨#[c]⟩) (signsD x) := rep_signs x
def listSO : List D → Option OD
  | [.str x] => if x.length ≤ 16777216 then some (.L (signsD x)) else none
  | _ => none
theorem listS_ok {Y : Yc} : NwOk Y VLS2.rListS listSO := by
  intro Hs H vs ds z Q e r hz q
  cases r with
  | nil => cases hz
  | cons r1 r2 =>
    cases r2 with
    | cons _ _ => cases r1 <;> cases hz
    | nil =>
      cases r1 with
      | str x =>
        have hz' : (if x.length ≤ 16777216 then some (OD.L (signsD x)) else none) = some z := hz
        by_cases hl : x.length ≤ 16777216
        · rw [if_pos hl] at hz'
          have ez := Option.some.inj hz'
          subst ez
          exact ⟨x, rfl, by rw [sizeLine_eq]; exact hl, fun p hn => q p _ hn (.L (rep_signs x))⟩
        · rw [if_neg hl] at hz'
          cases hz'
      | _ => cases hz
def sortTO : List D → Option OD
  | [.str x] => if x.length ≤ 16777216 then some (.L ((sortS (x.cps.toList.map fun c => (⟨#[c]⟩ : Str))).map .str)) else none
  | _ => none
theorem sortT_ok {Y : Yc} : NwOk Y VLS2.rSortT sortTO := by
  intro Hs H vs ds z Q e r hz q
  cases r with
  | nil => cases hz
  | cons r1 r2 =>
    cases r2 with
    | cons _ _ => cases r1 <;> cases hz
    | nil =>
      cases r1 with
      | str x =>
        have hz' : (if x.length ≤ 16777216 then some (OD.L ((sortS (x.cps.toList.map fun c => (⟨#[c]⟩ : Str))).map .str)) else none) = some z := hz
        by_cases hl : x.length ≤ 16777216
        · rw [if_pos hl] at hz'
          have ez := Option.some.inj hz'
          subst ez
          refine ⟨x, rfl, by rw [sizeLine_eq]; exact hl, fun ys p hp hs hn => q p _ hn ?_⟩
          rw [sortS_is hp (sortedS_pw hs)]
          exact .L (RepL.of_strs _)
        · rw [if_neg hl] at hz'
          cases hz'
      | _ => cases hz
section
variable {X : Cx} {y : Yo} {W : WX} {e c a b : Expr} {f g : EM OD} {tf : EM Bool} {pos : Pos}
/-- a if c else b, both new -/
def n_if (tf : EM Bool) (f g : EM OD) : EM OD := fun ρ => (tf ρ).bind fun t => if t then f else g
theorem vn_if (hc : VT X y W c tf) (ha : VN X y W a f) (hb : VN X y W b g) : VN X y W (.IfExp c a b pos) (n_if tf f g) := by
  refine pe_weak (pe_ifExp hc ha hb) fun σ H Q ⟨E0, tm, ρ, Hs, k, p⟩ => ?_
  refine tN.bind k p fun d ρ1 v Hs1 H1 k1 s1 s1' r1 p1 => ?_
  subst r1
  cases v with
  | true => exact ⟨E0, tm, ρ1, Hs1, k1, p1⟩
  | false => exact ⟨E0, tm, ρ1, Hs1, k1, p1⟩
/-- list(range(n)) -/
def n_lrng (h : EM D) : EM OD := fun ρ => (h ρ).bind fun d => o2 (match d with
  | .int n => if 0 ≤ n ∧ n ≤ 16777216 then some (.L (rangeD 0 n.toNat)) else none
  | _ => none)
theorem rep_range {Y : Yc} {H : Hp} (n : Int) : RepL Y H (rgV 0 n) (rangeD 0 n.toNat) := by
  unfold rgV rangeD
  rw [Int.sub_zero]
  induction List.range n.toNat with
  | nil => exact .nil
  | cons i l ih => exact .cons (.int _) ih
theorem vn_lrng {h : EM D} {p0 p1 pos1 pos2 : Pos} {j : Nat} (v : Cv X W j) (m1 : X.mg "list" = none) (m2 : X.mg "range" = none) (ha : VE X y W a h) (hg1 : Gl X "list" := by rfl) (hg2 : Gl X "range" := by rfl)
    (na : starEach [a] X.env = (false, eval a X.env) :: starEach [] X.env := by rfl) (na2 : starEach [.Call (.Name "range" p1) [a] [] pos1] X.env = (false, eval (.Call (.Name "range" p1) [a] [] pos1) X.env) :: starEach [] X.env := by rfl) :
    VN X y W (.Call (.Name "list" p0) [.Call (.Name "range" p1) [a] [] pos1] [] pos2) (n_lrng h) := by
  refine pe_weak (pe_listRg v.calm hg1 m1 (prg_1 hg2 m2 ha na) na2) fun σ H Q ⟨E0, tm, ρ, Hs, k, p⟩ => ?_
  refine tN.bind k p fun d ρ1 x Hs1 H1 k1 s1 s1' r1 p1 => ?_
  cases r1 with
  | int n =>
    unfold o2 at p1
    by_cases hn : 0 ≤ n ∧ n ≤ 16777216
    · have e : (if 0 ≤ n ∧ n ≤ 16777216 then some (OD.L (rangeD 0 n.toNat)) else none) = some (.L (rangeD 0 n.toNat)) := if_pos hn
      dsimp only at p1
      rw [e] at p1
      exact ⟨n, rfl, RgOk.of_le (by omega) (by omega) (by omega) (by omega), fun q hq => p1.new k1 hq (.L (rep_range n))⟩
    · have e : (if 0 ≤ n ∧ n ≤ 16777216 then some (OD.L (rangeD 0 n.toNat)) else none) = none := if_neg hn
      dsimp only at p1
      rw [e] at p1
      exact p1.elim
  | _ => exact p1.elim
end
end VL

/-! the functions of values of the program's defs, and of the laws' helpers, each once -/
namespace PG
open PySem PySem.Spec PyProof.Rows L2 VL
def g_is_whole : SM := (s_ret (e_and (e_isi "int" (e_name 0)) (e_and (e_not (e_isi "bool" (e_name 0))) (e_chain leD leD (e_name 1) (e_name 0) (e_name 2)))))
def F_is_whole : List D → RF := runD 0 g_is_whole
def g_is_name : SM := (s_ret (e_and (e_isi "str" (e_name 0)) (e_and (e_chain leD leD (e_k (.int 1)) (e_cb lenD (a_cons (e_name 0) a_nil)) (e_k (.int 6))) (e_cb allD (a_cons (e_new (n_lc [1] (i_any (e_name 0)) (g_name 1) t_yes (e_op insD (e_name 1) (e_k (.str "abcdefghijklmnopqrstuvwxyz"))))) a_nil)))))
def F_is_name : List D → RF := runD 1 g_is_name
def g_is_pair : SM := (s_seq (s_if (t_or (t_not (t_tru (e_isi "str" (e_name 0)))) (t_or (t_val (e_op neD (e_cb lenD (a_cons (e_name 0) a_nil)) (e_k (.int 2)))) (t_val (e_op eqD (e_name 0) (e_op plusD (e_k (.str "<")) (e_k (.str ">"))))))) (s_ret (e_k (.bl false))) s_next)
      (s_ret (e_and (e_op insD (e_op subD2 (e_name 0) (e_k (.int 0))) (e_op plusD (e_k (.str "<")) (e_k (.str "abcdefghijklmnopqrstuvwxyz")))) (e_op insD (e_op subD2 (e_name 0) (e_k (.int 1))) (e_op plusD (e_k (.str "abcdefghijklmnopqrstuvwxyz")) (e_k (.str ">")))))))
def F_is_pair : List D → RF := runD 0 g_is_pair
def g_is_book : SM := (s_seq (s_if (t_or (t_not (t_tru (e_isi "tuple" (e_name 0)))) (t_val (e_op gtD (e_cb lenD (a_cons (e_name 0) a_nil)) (e_k (.int 60))))) (s_ret (e_k (.bl false))) s_next)
      (s_seq (s_for (i_any (e_name 0)) (g_name 1) (s_if (t_or (t_not (t_tru (e_isi "tuple" (e_name 1)))) (t_or (t_val (e_op neD (e_cb lenD (a_cons (e_name 1) a_nil)) (e_k (.int 2)))) (t_or (t_not (t_tru (e_call F_is_pair 1 (a_cons (e_op subD2 (e_name 1) (e_k (.int 0))) a_nil)))) (t_not (t_tru (e_call F_is_whole 3 (a_cons (e_op subD2 (e_name 1) (e_k (.int 1))) (a_cons (e_k (.int 1)) (a_cons (e_k (.int 999)) a_nil))))))))) (s_ret (e_k (.bl false))) s_next))
      (s_ret (e_cb allD (a_cons (e_new (n_lc [1, 2] (i_zip (a_cons (e_name 0) (a_cons (e_slice (e_name 0) (p_some (e_k (.int 1))) p_none) a_nil))) (g_tup 2 (gs_cons (g_name 1) (gs_cons (g_name 2) gs_nil))) t_yes (e_op ltD (e_op subD2 (e_name 1) (e_k (.int 0))) (e_op subD2 (e_name 2) (e_k (.int 0)))))) a_nil)))))
def F_is_book : List D → RF := runD 2 g_is_book
def g_look_book : SM := (s_if (t_not (t_tru (e_call F_is_book 1 (a_cons (e_name 0) a_nil)))) (s_raise "NoBook") s_next)
def F_look_book : List D → RF := runD 0 g_look_book
def g_look_name : SM := (s_if (t_not (t_tru (e_call F_is_name 1 (a_cons (e_name 0) a_nil)))) (s_raise "NoName") s_next)
def F_look_name : List D → RF := runD 0 g_look_name
def g_are_names : SM := (s_ret (e_and (e_isiA ["list", "tuple"] (e_name 0)) (e_and (e_op leD (e_cb lenD (a_cons (e_name 0) a_nil)) (e_name 1)) (e_cb allD (a_cons (e_new (n_lc [2] (i_any (e_name 0)) (g_name 2) t_yes (e_call F_is_name 1 (a_cons (e_name 2) a_nil)))) a_nil)))))
def F_are_names : List D → RF := runD 1 g_are_names
def g_pairs_in : SM := (s_seq (s_set 1 (e_op plusD (e_op plusD (e_k (.str "<")) (e_name 0)) (e_k (.str ">"))))
      (s_ret (e_new (n_lc [2] (i_range1 (a_cons (e_op subD (e_cb lenD (a_cons (e_name 1) a_nil)) (e_k (.int 1))) a_nil)) (g_name 2) t_yes (e_slice (e_name 1) (p_some (e_name 2)) (p_some (e_op plusD (e_name 2) (e_k (.int 2)))))))))
def F_pairs_in : List D → RF := runD 2 g_pairs_in
def g_pairs_of : SM := (s_seq (s_expr (e_call F_look_name 1 (a_cons (e_name 0) a_nil)))
      (s_ret (e_call F_pairs_in 1 (a_cons (e_name 0) a_nil))))
def F_pairs_of : List D → RF := runD 0 g_pairs_of
def g_book_of : SM := (s_seq (s_set 1 (e_cb tupleD (a_cons (e_new (n_lc [2] (i_any (e_new (n_ct sortedO (a_cons (e_new (n_ct listO (a_cons (e_name 0) a_nil))) a_nil)))) (g_name 2) (t_val (e_op gtD (e_op subD2 (e_name 0) (e_name 2)) (e_k (.int 0)))) (e_tup (a_cons (e_name 2) (a_cons (e_op subD2 (e_name 0) (e_name 2)) a_nil))))) a_nil)))
      (s_seq (s_if (t_or (t_val (e_op gtD (e_cb lenD (a_cons (e_name 1) a_nil)) (e_k (.int 60)))) (t_tru (e_cb anyD (a_cons (e_new (n_lc [2, 3] (i_any (e_name 1)) (g_tup 2 (gs_cons (g_name 2) (gs_cons (g_name 3) gs_nil))) t_yes (e_op gtD (e_name 3) (e_k (.int 999))))) a_nil)))) (s_raise "Full") s_next)
      (s_ret (e_name 1))))
def F_book_of : List D → RF := runD 3 g_book_of
def g_with_pairs : SM := (s_seq (s_setN 3 (n_ct dictO (a_cons (e_name 0) a_nil)))
      (s_seq (s_for (i_any (e_name 1)) (g_name 4) (s_dput 3 (e_name 4) (e_op plusD (e_getO 3 (e_name 4) (e_k (.int 0))) (e_name 2))))
      (s_ret (e_name 3))))
def F_with_pairs : List D → RF := runD 2 g_with_pairs
def g_learned : SM := (s_seq (s_if (t_not (t_tru (e_call F_are_names 2 (a_cons (e_name 0) (a_cons (e_k (.int 40)) a_nil))))) (s_raise "NoName") s_next)
      (s_seq (s_setN 1 (n_lst a_nil))
      (s_seq (s_for (i_any (e_name 0)) (g_name 2) (s_extend 1 (e_call F_pairs_in 1 (a_cons (e_name 2) a_nil))))
      (s_ret (e_call F_book_of 1 (a_cons (e_call F_with_pairs 3 (a_cons (e_tup a_nil) (a_cons (e_name 1) (a_cons (e_k (.int 1)) a_nil)))) a_nil))))))
def F_learned : List D → RF := runD 2 g_learned
def g_with_name : SM := (s_seq (s_expr (e_call F_look_book 1 (a_cons (e_name 0) a_nil)))
      (s_seq (s_expr (e_call F_look_name 1 (a_cons (e_name 1) a_nil)))
      (s_ret (e_call F_book_of 1 (a_cons (e_call F_with_pairs 3 (a_cons (e_name 0) (a_cons (e_call F_pairs_in 1 (a_cons (e_name 1) a_nil)) (a_cons (e_k (.int 1)) a_nil)))) a_nil)))))
def F_with_name : List D → RF := runD 0 g_with_name
def g_without_name : SM := (s_seq (s_expr (e_call F_look_book 1 (a_cons (e_name 0) a_nil)))
      (s_seq (s_expr (e_call F_look_name 1 (a_cons (e_name 1) a_nil)))
      (s_seq (s_set 2 (e_call F_with_pairs 3 (a_cons (e_name 0) (a_cons (e_call F_pairs_in 1 (a_cons (e_name 1) a_nil)) (a_cons (e_neg (e_k (.int 1))) a_nil)))))
      (s_seq (s_if (t_tru (e_cb anyD (a_cons (e_new (n_lcK [3] 2 (g_name 3) t_yes (e_op ltD (e_op subD2 (e_name 2) (e_name 3)) (e_k (.int 0))))) a_nil))) (s_raise "NotThere") s_next)
      (s_ret (e_call F_book_of 1 (a_cons (e_name 2) a_nil)))))))
def F_without_name : List D → RF := runD 2 g_without_name
def g_both : SM := (s_seq (s_expr (e_call F_look_book 1 (a_cons (e_name 0) a_nil)))
      (s_seq (s_expr (e_call F_look_book 1 (a_cons (e_name 1) a_nil)))
      (s_seq (s_setN 2 (n_ct dictO (a_cons (e_name 0) a_nil)))
      (s_seq (s_for (i_any (e_name 1)) (g_tup 2 (gs_cons (g_name 3) (gs_cons (g_name 4) gs_nil))) (s_dput 2 (e_name 3) (e_op plusD (e_getO 2 (e_name 3) (e_k (.int 0))) (e_name 4))))
      (s_ret (e_call F_book_of 1 (a_cons (e_name 2) a_nil)))))))
def F_both : List D → RF := runD 3 g_both
def g_begun : SM := (s_seq (s_expr (e_call F_look_book 1 (a_cons (e_name 0) a_nil)))
      (s_ret (e_cb sumD (a_cons (e_new (n_lc [1, 2] (i_any (e_name 0)) (g_tup 2 (gs_cons (g_name 1) (gs_cons (g_name 2) gs_nil))) (t_val (e_op eqD (e_op subD2 (e_name 1) (e_k (.int 0))) (e_k (.str "<")))) (e_name 2))) a_nil))))
def F_begun : List D → RF := runD 2 g_begun
def g__law_cell : SM := (s_seq (s_if (t_val (e_op ltD (e_name 1) (e_cb lenD (a_cons (e_name 0) a_nil)))) (s_ret (e_op subD2 (e_name 0) (e_name 1))) s_next)
      (s_seq (s_if (t_val (e_op eqD (e_name 0) (e_lst a_nil))) (s_ret (e_k (.int 0))) s_next)
      (s_ret (e_op plusD (e_op mulD (e_op subD2 (e_name 0) (e_op modD (e_name 1) (e_cb lenD (a_cons (e_name 0) a_nil)))) (e_k (.int 31))) (e_name 1)))))
def F__law_cell : List D → RF := runD 0 g__law_cell
def g__law_pick : SM := (s_seq (s_set 3 (e_op modD (e_op mulD (e_op plusD (e_call F__law_cell 2 (a_cons (e_name 0) (a_cons (e_name 1) a_nil))) (e_op mulD (e_k (.int 6151)) (e_op plusD (e_name 1) (e_k (.int 1))))) (e_k (.int 40692))) (e_k (.int 2147483399))))
      (s_ret (e_op modD (e_op modD (e_op plusD (e_op mulD (e_name 3) (e_name 3)) (e_op fdivD (e_name 3) (e_k (.int 31)))) (e_k (.int 2147483629))) (e_name 2))))
def F__law_pick : List D → RF := runD 1 g__law_pick
def g__law_places (R : List D → RF) : SM := (s_seq (s_setN 1 (n_lst (a_cons (e_tup a_nil) a_nil)))
      (s_seq (s_if (t_tru (e_isi "tuple" (e_name 0))) (s_for (i_range1 (a_cons (e_cb lenD (a_cons (e_name 0) a_nil)) a_nil)) (g_name 2) (s_extend 1 (e_new (n_lc [3] (i_any (e_call R 1 (a_cons (e_op subD2 (e_name 0) (e_name 2)) a_nil))) (g_name 3) t_yes (e_op plusD (e_tup (a_cons (e_name 2) a_nil)) (e_name 3)))))) s_next)
      (s_ret (e_name 1))))
def F__law_places : List D → RF := recD 3 g__law_places 8
def g__law_put (R : List D → RF) : SM := (s_seq (s_if (t_val (e_op eqD (e_name 1) (e_tup a_nil))) (s_ret (e_name 2)) s_next)
      (s_seq (s_set 3 (e_op subD2 (e_name 1) (e_k (.int 0))))
      (s_ret (e_op plusD (e_op plusD (e_slice (e_name 0) p_none (p_some (e_name 3))) (e_tup (a_cons (e_call R 3 (a_cons (e_op subD2 (e_name 0) (e_name 3)) (a_cons (e_slice (e_name 1) (p_some (e_k (.int 1))) p_none) (a_cons (e_name 2) a_nil)))) a_nil))) (e_slice (e_name 0) (p_some (e_op plusD (e_name 3) (e_k (.int 1)))) p_none)))))
def F__law_put : List D → RF := recD 1 g__law_put 8
def g__law_spoilt_thing : SM := (s_seq (s_set 3 (e_call F__law_places 1 (a_cons (e_name 2) a_nil)))
      (s_seq (s_set 4 (e_op subD2 (e_name 3) (e_call F__law_pick 3 (a_cons (e_name 0) (a_cons (e_name 1) (a_cons (e_cb lenD (a_cons (e_name 3) a_nil)) a_nil))))))
      (s_seq (s_set 5 (e_name 2))
      (s_seq (s_for (i_any (e_name 4)) (g_name 6) (s_set 5 (e_op subD2 (e_name 5) (e_name 6))))
      (s_seq (s_set 7 (e_lst (a_cons (e_k (.int 0)) (a_cons (e_k (.int 1)) (a_cons (e_k (.int 999)) (a_cons (e_k (.int 1000)) (a_cons (e_neg (e_k (.int 1))) (a_cons (e_k (.str "a")) (a_cons (e_k (.str "ab")) (a_cons (e_k (.str "<a")) (a_cons (e_k (.str "a>")) (a_cons (e_k (.str "<>")) (a_cons (e_k (.str "><")) (a_cons (e_k (.str "")) (a_cons (e_k (.str "A>")) (a_cons (e_k (.bl true)) (a_cons (e_k .non) (a_cons (e_tup a_nil) (a_cons (e_lst (a_cons (e_k (.int 0)) a_nil)) a_nil)))))))))))))))))))
      (s_seq (s_set 7 (e_op plusD (e_name 7) (e_lst (a_cons (e_tup (a_cons (e_k (.str "<z")) (a_cons (e_k (.int 2)) a_nil))) (a_cons (e_tup (a_cons (e_name 5) a_nil)) (a_cons (e_tup (a_cons (e_name 5) (a_cons (e_name 5) a_nil))) a_nil))))))
      (s_seq (s_set 8 (e_call F__law_pick 3 (a_cons (e_name 0) (a_cons (e_op plusD (e_name 1) (e_k (.int 1))) (a_cons (e_k (.int 25)) a_nil)))))
      (s_seq (s_if (t_val (e_op ltD (e_name 8) (e_k (.int 19)))) (s_ret (e_call F__law_put 3 (a_cons (e_name 2) (a_cons (e_name 4) (a_cons (e_op subD2 (e_name 7) (e_name 8)) a_nil))))) s_next)
      (s_seq (s_if (t_and (t_tru (e_isi "tuple" (e_name 5))) (t_val (e_op neD (e_name 5) (e_tup a_nil)))) (s_seq (s_set 6 (e_call F__law_pick 3 (a_cons (e_name 0) (a_cons (e_op plusD (e_name 1) (e_k (.int 2))) (a_cons (e_cb lenD (a_cons (e_name 5) a_nil)) a_nil)))))
      (s_ret (e_call F__law_put 3 (a_cons (e_name 2) (a_cons (e_name 4) (a_cons (e_if (t_val (e_op ltD (e_name 8) (e_k (.int 22)))) (e_op plusD (e_slice (e_name 5) p_none (p_some (e_name 6))) (e_slice (e_name 5) (p_some (e_op plusD (e_name 6) (e_k (.int 1)))) p_none)) (e_op plusD (e_slice (e_name 5) p_none (p_some (e_op plusD (e_name 6) (e_k (.int 1))))) (e_slice (e_name 5) (p_some (e_name 6)) p_none))) a_nil)))))) s_next)
      (s_ret (e_call F__law_put 3 (a_cons (e_name 2) (a_cons (e_name 4) (a_cons (e_if (t_tru (e_isi "int" (e_name 5))) (e_op subD (e_op plusD (e_name 5) (e_name 8)) (e_k (.int 22))) (e_k (.int 7))) a_nil))))))))))))))
def F__law_spoilt_thing : List D → RF := runD 6 g__law_spoilt_thing
def g__law_word : SM := (s_seq (s_setN 1 (n_lst (a_cons (e_isiX ["Full"] ["NoBook", "NoName", "NoNumber", "NotThere", "NoBack", "NoText"] (e_name 0)) (a_cons (e_isiX ["NoBack"] ["NoBook", "NoName", "NoNumber", "Full", "NotThere", "NoText"] (e_name 0)) (a_cons (e_isiX ["NoBook"] ["NoName", "NoNumber", "Full", "NotThere", "NoBack", "NoText"] (e_name 0)) (a_cons (e_isiX ["NoName"] ["NoBook", "NoNumber", "Full", "NotThere", "NoBack", "NoText"] (e_name 0)) a_nil))))))
      (s_seq (s_extend 1 (e_lst (a_cons (e_isiX ["NoNumber"] ["NoBook", "NoName", "Full", "NotThere", "NoBack", "NoText"] (e_name 0)) (a_cons (e_isiX ["NoText"] ["NoBook", "NoName", "NoNumber", "Full", "NotThere", "NoBack"] (e_name 0)) (a_cons (e_isiX ["NotThere"] ["NoBook", "NoName", "NoNumber", "Full", "NoBack", "NoText"] (e_name 0)) a_nil)))))
      (s_seq (s_if (t_or (t_val (e_op neD (e_lcount (e_name 1) (a_cons (e_k (.bl true)) a_nil)) (e_k (.int 1)))) (t_or (t_not (t_tru (e_isiX ["NoBook", "NoName", "NoNumber", "Full", "NotThere", "NoBack", "NoText"] [] (e_name 0)))) (t_not (t_tru (e_isiX ["NoBook", "NoName", "NoNumber", "Full", "NotThere", "NoBack", "NoText"] [] (e_name 0)))))) (s_ret (e_k (.str "wrong"))) s_next)
      (s_ret (e_op subD2 (e_lst (a_cons (e_k (.str "full")) (a_cons (e_k (.str "no back")) (a_cons (e_k (.str "no book")) (a_cons (e_k (.str "no name")) (a_cons (e_k (.str "no number")) (a_cons (e_k (.str "no text")) (a_cons (e_k (.str "not there")) a_nil)))))))) (e_lindex (e_name 1) (a_cons (e_k (.bl true)) a_nil)))))))
def F__law_word : List D → RF := runD 1 g__law_word
def g__law_name : SM := (s_ret (e_sm joinD (e_k (.str "")) (e_new (n_lc [3] (i_range1 (a_cons (e_op plusD (e_k (.int 1)) (e_call F__law_pick 3 (a_cons (e_name 0) (a_cons (e_name 1) (a_cons (e_k (.int 6)) a_nil))))) a_nil)) (g_name 3) t_yes (e_op subD2 (e_name 2) (e_call F__law_pick 3 (a_cons (e_name 0) (a_cons (e_op plusD (e_op plusD (e_name 1) (e_k (.int 1))) (e_name 3)) (a_cons (e_cb lenD (a_cons (e_name 2) a_nil)) a_nil)))))))))
def F__law_name : List D → RF := runD 1 g__law_name
def g__law_names : SM := (s_seq (s_set 3 (e_op subD2 (e_lst (a_cons (e_k (.str "a")) (a_cons (e_k (.str "ab")) (a_cons (e_k (.str "zba")) (a_cons (e_k (.str "nabe")) (a_cons (e_k (.str "keltor")) a_nil)))))) (e_call F__law_pick 3 (a_cons (e_name 0) (a_cons (e_name 1) (a_cons (e_k (.int 5)) a_nil))))))
      (s_ret (e_new (n_lc [4] (i_range1 (a_cons (e_call F__law_pick 3 (a_cons (e_name 0) (a_cons (e_op plusD (e_name 1) (e_k (.int 1))) (a_cons (e_op plusD (e_name 2) (e_k (.int 1))) a_nil)))) a_nil)) (g_name 4) t_yes (e_call F__law_name 3 (a_cons (e_name 0) (a_cons (e_op plusD (e_op plusD (e_name 1) (e_k (.int 2))) (e_op mulD (e_k (.int 8)) (e_name 4))) (a_cons (e_name 3) a_nil))))))))
def F__law_names : List D → RF := runD 2 g__law_names
def g__law_pairs : SM := (s_seq (s_set 1 (e_op plusD (e_op plusD (e_k (.str "<")) (e_name 0)) (e_k (.str ">"))))
      (s_ret (e_new (n_lc [2] (i_range1 (a_cons (e_op subD (e_cb lenD (a_cons (e_name 1) a_nil)) (e_k (.int 1))) a_nil)) (g_name 2) t_yes (e_slice (e_name 1) (p_some (e_name 2)) (p_some (e_op plusD (e_name 2) (e_k (.int 2)))))))))
def F__law_pairs : List D → RF := runD 2 g__law_pairs
def g__law_book : SM := (s_seq (s_setN 1 (n_lst a_nil))
      (s_seq (s_for (i_any (e_name 0)) (g_name 2) (s_extend 1 (e_call F__law_pairs 1 (a_cons (e_name 2) a_nil))))
      (s_ret (e_cb tupleD (a_cons (e_new (n_lc [3] (i_any (e_new (n_ct sortsetO (a_cons (e_name 1) a_nil)))) (g_name 3) t_yes (e_tup (a_cons (e_name 3) (a_cons (e_lcount (e_name 1) (a_cons (e_name 3) a_nil)) a_nil))))) a_nil)))))
def F__law_book : List D → RF := runD 3 g__law_book
def g__law_do : SM := (s_seq (s_set 3 (e_k .non))
      (s_seq (s_set 4 (e_k .non))
      (s_seq (s_tryK 5 3 ["NoBook", "NoName", "NoNumber", "Full", "NotThere", "NoBack", "NoText"] (s_if (t_val (e_op ltD (e_name 0) (e_k (.int 3)))) (s_set 4 (e_callI [("pairs_of", 1, F_pairs_of), ("learned", 1, F_learned), ("begun", 1, F_begun)] (e_name 0) (a_cons (e_name 1) a_nil))) (s_set 4 (e_callI [("with_name", 2, F_with_name), ("without_name", 2, F_without_name), ("both", 2, F_both)] (e_op subD (e_name 0) (e_k (.int 3))) (a_cons (e_name 1) (a_cons (e_name 2) a_nil))))))
      (s_seq (s_if (t_val (e_op (isND false) (e_name 3) (e_k .non))) (s_ret (e_name 4)) s_next)
      (s_ret (e_call F__law_word 1 (a_cons (e_name 3) a_nil)))))))
def F__law_do : List D → RF := runD 3 g__law_do
def g__law_is_book : SM := (s_seq (s_if (t_or (t_not (t_tru (e_isi "tuple" (e_name 0)))) (t_val (e_op gtD (e_cb lenD (a_cons (e_name 0) a_nil)) (e_k (.int 60))))) (s_ret (e_k (.bl false))) s_next)
      (s_seq (s_set 1 (e_k (.str "")))
      (s_seq (s_for (i_any (e_name 0)) (g_name 2) (s_seq (s_if (t_or (t_not (t_tru (e_isi "tuple" (e_name 2)))) (t_or (t_val (e_op neD (e_cb lenD (a_cons (e_name 2) a_nil)) (e_k (.int 2)))) (t_or (t_not (t_tru (e_isi "str" (e_op subD2 (e_name 2) (e_k (.int 0)))))) (t_val (e_op neD (e_cb lenD (a_cons (e_op subD2 (e_name 2) (e_k (.int 0))) a_nil)) (e_k (.int 2))))))) (s_ret (e_k (.bl false))) s_next)
      (s_seq (s_par 3 4 (a_cons (e_op subD2 (e_op subD2 (e_name 2) (e_k (.int 0))) (e_k (.int 0))) (a_cons (e_op subD2 (e_op subD2 (e_name 2) (e_k (.int 0))) (e_k (.int 1))) a_nil)))
      (s_seq (s_if (t_or (t_not (t_or (t_val (e_op eqD (e_name 3) (e_k (.str "<")))) (t_val (e_chain leD leD (e_k (.str "a")) (e_name 3) (e_k (.str "z")))))) (t_or (t_not (t_or (t_val (e_op eqD (e_name 4) (e_k (.str ">")))) (t_val (e_chain leD leD (e_k (.str "a")) (e_name 4) (e_k (.str "z")))))) (t_val (e_op eqD (e_op subD2 (e_name 2) (e_k (.int 0))) (e_k (.str "<>")))))) (s_ret (e_k (.bl false))) s_next)
      (s_seq (s_if (t_or (t_not (t_tru (e_isi "int" (e_op subD2 (e_name 2) (e_k (.int 1)))))) (t_or (t_tru (e_isi "bool" (e_op subD2 (e_name 2) (e_k (.int 1))))) (t_or (t_not (t_val (e_chain leD leD (e_k (.int 1)) (e_op subD2 (e_name 2) (e_k (.int 1))) (e_k (.int 999))))) (t_not (t_val (e_op ltD (e_name 1) (e_op subD2 (e_name 2) (e_k (.int 0))))))))) (s_ret (e_k (.bl false))) s_next)
      (s_set 1 (e_op subD2 (e_name 2) (e_k (.int 0)))))))))
      (s_ret (e_k (.bl true))))))
def F__law_is_book : List D → RF := runD 4 g__law_is_book
def g__law_are_bounds_right : SM := (s_seq (s_set 1 (e_k (.str "abcdefghijklmnopqrstuvwxyz")))
      (s_seq (s_set 2 (e_op plusD (e_op plusD (e_new (n_lc [3] (i_any (e_name 1)) (g_name 3) t_yes (e_op plusD (e_k (.str "<")) (e_name 3)))) (e_new (n_lc [3] (i_any (e_name 1)) (g_name 3) t_yes (e_op plusD (e_name 3) (e_k (.str ">")))))) (e_new (n_lc [3] (i_any (e_k (.str "bcdefghi"))) (g_name 3) t_yes (e_op plusD (e_k (.str "a")) (e_name 3))))))
      (s_seq (s_set 4 (e_cb tupleD (a_cons (e_new (n_lc [5] (i_any (e_new (n_ct sortedO (a_cons (e_name 2) a_nil)))) (g_name 5) t_yes (e_tup (a_cons (e_name 5) (a_cons (e_k (.int 1)) a_nil))))) a_nil)))
      (s_seq (s_set 6 (e_lst (a_cons (e_name 4) (a_cons (e_tup (a_cons (e_tup (a_cons (e_k (.str "<a")) (a_cons (e_k (.int 999)) a_nil))) a_nil)) (a_cons (e_op plusD (e_name 4) (e_tup (a_cons (e_tup (a_cons (e_k (.str "zz")) (a_cons (e_k (.int 1)) a_nil))) a_nil))) (a_cons (e_tup (a_cons (e_tup (a_cons (e_k (.str "<a")) (a_cons (e_k (.int 1000)) a_nil))) a_nil)) a_nil))))))
      (s_seq (s_if (t_val (e_op neD (e_new (n_lc [7] (i_any (e_name 6)) (g_name 7) t_yes (e_call F_is_book 1 (a_cons (e_name 7) a_nil)))) (e_lst (a_cons (e_k (.bl true)) (a_cons (e_k (.bl true)) (a_cons (e_k (.bl false)) (a_cons (e_k (.bl false)) a_nil))))))) (s_ret (e_k (.bl false))) s_next)
      (s_seq (s_set 8 (e_lst (a_cons (e_call F__law_do 3 (a_cons (e_k (.int 3)) (a_cons (e_name 4) (a_cons (e_k (.str "zz")) a_nil)))) (a_cons (e_call F__law_do 3 (a_cons (e_k (.int 5)) (a_cons (e_name 4) (a_cons (e_tup (a_cons (e_tup (a_cons (e_k (.str "zz")) (a_cons (e_k (.int 1)) a_nil))) a_nil)) a_nil)))) (a_cons (e_call F__law_do 3 (a_cons (e_k (.int 3)) (a_cons (e_tup (a_cons (e_tup (a_cons (e_k (.str "<a")) (a_cons (e_k (.int 999)) a_nil))) a_nil)) (a_cons (e_k (.str "a")) a_nil)))) a_nil)))))
      (s_seq (s_if (t_val (e_op neD (e_name 8) (e_op repD (e_lst (a_cons (e_k (.str "full")) a_nil)) (e_k (.int 3))))) (s_ret (e_k (.bl false))) s_next)
      (s_seq (s_set 9 (e_tup (a_cons (e_tup (a_cons (e_k (.str "<a")) (a_cons (e_k (.int 500)) a_nil))) a_nil)))
      (s_seq (s_if (t_or (t_val (e_op neD (e_call F__law_do 3 (a_cons (e_k (.int 5)) (a_cons (e_name 9) (a_cons (e_tup (a_cons (e_tup (a_cons (e_k (.str "<a")) (a_cons (e_k (.int 499)) a_nil))) a_nil)) a_nil)))) (e_tup (a_cons (e_tup (a_cons (e_k (.str "<a")) (a_cons (e_k (.int 999)) a_nil))) a_nil)))) (t_val (e_op neD (e_call F__law_do 3 (a_cons (e_k (.int 5)) (a_cons (e_name 9) (a_cons (e_name 9) a_nil)))) (e_k (.str "full"))))) (s_ret (e_k (.bl false))) s_next)
      (s_seq (s_set 10 (e_lst (a_cons (e_k (.str "abcdef")) (a_cons (e_k (.str "ghijkl")) (a_cons (e_k (.str "mnopqr")) (a_cons (e_k (.str "stuvwx")) (a_cons (e_k (.str "fedcba")) (a_cons (e_k (.str "lkjihg")) (a_cons (e_k (.str "rqponm")) (a_cons (e_k (.str "xwvuts")) (a_cons (e_k (.str "yz")) a_nil)))))))))))
      (s_seq (s_if (t_or (t_val (e_op neD (e_cb lenD (a_cons (e_call F__law_do 3 (a_cons (e_k (.int 1)) (a_cons (e_name 10) (a_cons (e_k .non) a_nil)))) a_nil)) (e_k (.int 59)))) (t_val (e_op neD (e_call F__law_do 3 (a_cons (e_k (.int 1)) (a_cons (e_op plusD (e_name 10) (e_lst (a_cons (e_k (.str "zy")) a_nil))) (a_cons (e_k .non) a_nil)))) (e_k (.str "full"))))) (s_ret (e_k (.bl false))) s_next)
      (s_seq (s_set 6 (e_lst (a_cons (e_k (.str "abcdef")) (a_cons (e_k (.str "z")) (a_cons (e_k (.str "")) (a_cons (e_k (.str "abcdefg")) (a_cons (e_k (.str "A")) (a_cons (e_k (.str "a>")) (a_cons (e_k (.str "a b")) (a_cons (e_k .non) (a_cons (e_k (.int 5)) (a_cons (e_lst (a_cons (e_k (.str "a")) a_nil)) (a_cons (e_tup (a_cons (e_k (.str "a")) a_nil)) a_nil)))))))))))))
      (s_seq (s_if (t_val (e_op neD (e_new (n_lc [7] (i_any (e_name 6)) (g_name 7) t_yes (e_call F_is_name 1 (a_cons (e_name 7) a_nil)))) (e_op plusD (e_op repD (e_lst (a_cons (e_k (.bl true)) a_nil)) (e_k (.int 2))) (e_op repD (e_lst (a_cons (e_k (.bl false)) a_nil)) (e_k (.int 9)))))) (s_ret (e_k (.bl false))) s_next)
      (s_seq (s_if (t_val (e_op neD (e_new (n_lc [7] (i_any (e_slice (e_name 6) (p_some (e_k (.int 2))) p_none)) (g_name 7) t_yes (e_call F__law_do 3 (a_cons (e_k (.int 0)) (a_cons (e_name 7) (a_cons (e_k .non) a_nil)))))) (e_op repD (e_lst (a_cons (e_k (.str "no name")) a_nil)) (e_k (.int 9))))) (s_ret (e_k (.bl false))) s_next)
      (s_seq (s_if (t_val (e_op neD (e_new (n_lc [7] (i_any (e_slice (e_name 6) (p_some (e_k (.int 2))) p_none)) (g_name 7) t_yes (e_call F__law_do 3 (a_cons (e_k (.int 3)) (a_cons (e_name 4) (a_cons (e_name 7) a_nil)))))) (e_op repD (e_lst (a_cons (e_k (.str "no name")) a_nil)) (e_k (.int 9))))) (s_ret (e_k (.bl false))) s_next)
      (s_seq (s_if (t_or (t_val (e_op neD (e_new (n_lc [7] (i_any (e_slice (e_name 6) (p_some (e_k (.int 2))) p_none)) (g_name 7) t_yes (e_call F__law_do 3 (a_cons (e_k (.int 4)) (a_cons (e_name 4) (a_cons (e_name 7) a_nil)))))) (e_op repD (e_lst (a_cons (e_k (.str "no name")) a_nil)) (e_k (.int 9))))) (t_val (e_op neD (e_call F__law_do 3 (a_cons (e_k (.int 4)) (a_cons (e_name 4) (a_cons (e_k (.str "zz")) a_nil)))) (e_k (.str "not there"))))) (s_ret (e_k (.bl false))) s_next)
      (s_seq (s_set 11 (e_lst (a_cons (e_k .non) (a_cons (e_k (.str "ab")) (a_cons (e_lst (a_cons (e_k .non) a_nil)) (a_cons (e_lst (a_cons (e_k (.str "a")) (a_cons (e_k (.str "")) a_nil))) (a_cons (e_op repD (e_lst (a_cons (e_k (.str "a")) a_nil)) (e_k (.int 41))) (a_cons (e_k (.int 5)) (a_cons (e_lst (a_cons (e_tup (a_cons (e_k (.str "a")) a_nil)) a_nil)) (a_cons (e_op plusD (e_name 0) (e_lst (a_cons (e_k (.str "A")) a_nil))) a_nil))))))))))
      (s_seq (s_if (t_val (e_op neD (e_call F__law_do 3 (a_cons (e_k (.int 1)) (a_cons (e_op repD (e_lst (a_cons (e_k (.str "a")) a_nil)) (e_k (.int 40))) (a_cons (e_k .non) a_nil)))) (e_tup (a_cons (e_tup (a_cons (e_k (.str "<a")) (a_cons (e_k (.int 40)) a_nil))) (a_cons (e_tup (a_cons (e_k (.str "a>")) (a_cons (e_k (.int 40)) a_nil))) a_nil))))) (s_ret (e_k (.bl false))) s_next)
      (s_ret (e_op eqD (e_new (n_lc [7] (i_any (e_name 11)) (g_name 7) t_yes (e_call F__law_do 3 (a_cons (e_k (.int 1)) (a_cons (e_name 7) (a_cons (e_k .non) a_nil)))))) (e_op repD (e_lst (a_cons (e_k (.str "no name")) a_nil)) (e_k (.int 8)))))))))))))))))))))))
def F__law_are_bounds_right : List D → RF := runD 11 g__law_are_bounds_right
def g_lowest : SM := (s_seq (s_par 2 3 (a_cons (e_name 0) (a_cons (e_name 1) a_nil)))
      (s_seq (s_while ((fuI 3)) (t_val (e_op neD (e_name 3) (e_k (.int 0)))) (s_par 2 3 (a_cons (e_name 3) (a_cons (e_op modD (e_name 2) (e_name 3)) a_nil))))
      (s_ret (e_tup (a_cons (e_op fdivD (e_name 0) (e_name 2)) (a_cons (e_op fdivD (e_name 1) (e_name 2)) a_nil))))))
def F_lowest : List D → RF := runD 2 g_lowest
def g_count_of : SM := (s_ret (e_get (e_new (n_ct dictO (a_cons (e_name 0) a_nil))) (e_name 1) (e_k (.int 0))))
def F_count_of : List D → RF := runD 0 g_count_of
def g_sum_behind : SM := (s_ret (e_cb sumD (a_cons (e_new (n_lc [2, 3] (i_any (e_name 0)) (g_tup 2 (gs_cons (g_name 2) (gs_cons (g_name 3) gs_nil))) (t_val (e_op eqD (e_op subD2 (e_name 2) (e_k (.int 0))) (e_name 1))) (e_name 3))) a_nil)))
def F_sum_behind : List D → RF := runD 2 g_sum_behind
def g_share_of : SM := (s_seq (s_set 2 (e_call F_sum_behind 2 (a_cons (e_name 0) (a_cons (e_op subD2 (e_name 1) (e_k (.int 0))) a_nil))))
      (s_ret (e_if (t_val (e_op gtD (e_name 2) (e_k (.int 0)))) (e_call F_lowest 2 (a_cons (e_call F_count_of 2 (a_cons (e_name 0) (a_cons (e_name 1) a_nil))) (a_cons (e_name 2) a_nil))) (e_tup (a_cons (e_k (.int 0)) (a_cons (e_k (.int 1)) a_nil))))))
def F_share_of : List D → RF := runD 1 g_share_of
def g_soft_of : SM := (s_seq (s_set 2 (e_if (t_val (e_op eqD (e_op subD2 (e_name 1) (e_k (.int 0))) (e_k (.str "<")))) (e_k (.int 26)) (e_k (.int 27))))
      (s_ret (e_call F_lowest 2 (a_cons (e_op plusD (e_call F_count_of 2 (a_cons (e_name 0) (a_cons (e_name 1) a_nil))) (e_k (.int 1))) (a_cons (e_op plusD (e_call F_sum_behind 2 (a_cons (e_name 0) (a_cons (e_op subD2 (e_name 1) (e_k (.int 0))) a_nil))) (e_name 2)) a_nil)))))
def F_soft_of : List D → RF := runD 1 g_soft_of
def g_look_pair : SM := (s_seq (s_expr (e_call F_look_book 1 (a_cons (e_name 0) a_nil)))
      (s_if (t_not (t_tru (e_call F_is_pair 1 (a_cons (e_name 1) a_nil)))) (s_raise "NoName") s_next))
def F_look_pair : List D → RF := runD 0 g_look_pair
def g_share : SM := (s_seq (s_expr (e_call F_look_pair 2 (a_cons (e_name 0) (a_cons (e_name 1) a_nil))))
      (s_ret (e_call F_share_of 2 (a_cons (e_name 0) (a_cons (e_name 1) a_nil)))))
def F_share : List D → RF := runD 0 g_share
def g_soft_share : SM := (s_seq (s_expr (e_call F_look_pair 2 (a_cons (e_name 0) (a_cons (e_name 1) a_nil))))
      (s_ret (e_call F_soft_of 2 (a_cons (e_name 0) (a_cons (e_name 1) a_nil)))))
def F_soft_share : List D → RF := runD 0 g_soft_share
def g_next_signs : SM := (s_seq (s_expr (e_call F_look_book 1 (a_cons (e_name 0) a_nil)))
      (s_seq (s_if (t_or (t_not (t_tru (e_isi "str" (e_name 1)))) (t_or (t_val (e_op neD (e_cb lenD (a_cons (e_name 1) a_nil)) (e_k (.int 1)))) (t_val (e_op ninsD (e_name 1) (e_op plusD (e_k (.str "<")) (e_k (.str "abcdefghijklmnopqrstuvwxyz"))))))) (s_raise "NoName") s_next)
      (s_ret (e_new (n_lc [2, 3] (i_any (e_name 0)) (g_tup 2 (gs_cons (g_name 2) (gs_cons (g_name 3) gs_nil))) (t_val (e_op eqD (e_op subD2 (e_name 2) (e_k (.int 0))) (e_name 1))) (e_tup (a_cons (e_op subD2 (e_name 2) (e_k (.int 1))) (a_cons (e_call F_share_of 2 (a_cons (e_name 0) (a_cons (e_name 2) a_nil))) a_nil))))))))
def F_next_signs : List D → RF := runD 2 g_next_signs
def g_product : SM := (s_seq (s_asg (e_tup (a_cons (e_k (.int 1)) (a_cons (e_k (.int 1)) a_nil))) (g_tup 2 (gs_cons (g_name 1) (gs_cons (g_name 2) gs_nil))))
      (s_seq (s_for (i_any (e_name 0)) (g_name 3) (s_asg (e_call F_lowest 2 (a_cons (e_op mulD (e_name 1) (e_op subD2 (e_name 3) (e_k (.int 0)))) (a_cons (e_op mulD (e_name 2) (e_op subD2 (e_name 3) (e_k (.int 1)))) a_nil))) (g_tup 2 (gs_cons (g_name 1) (gs_cons (g_name 2) gs_nil)))))
      (s_ret (e_tup (a_cons (e_name 1) (a_cons (e_name 2) a_nil))))))
def F_product : List D → RF := runD 3 g_product
def g_chance_of : SM := (s_ret (e_call F_product 1 (a_cons (e_new (n_lc [2] (i_any (e_call F_pairs_in 1 (a_cons (e_name 1) a_nil))) (g_name 2) t_yes (e_call F_share_of 2 (a_cons (e_name 0) (a_cons (e_name 2) a_nil))))) a_nil)))
def F_chance_of : List D → RF := runD 1 g_chance_of
def g_soft_chance_of : SM := (s_ret (e_call F_product 1 (a_cons (e_new (n_lc [2] (i_any (e_call F_pairs_in 1 (a_cons (e_name 1) a_nil))) (g_name 2) t_yes (e_call F_soft_of 2 (a_cons (e_name 0) (a_cons (e_name 2) a_nil))))) a_nil)))
def F_soft_chance_of : List D → RF := runD 1 g_soft_chance_of
def g_chance : SM := (s_seq (s_expr (e_call F_look_book 1 (a_cons (e_name 0) a_nil)))
      (s_seq (s_expr (e_call F_look_name 1 (a_cons (e_name 1) a_nil)))
      (s_ret (e_call F_chance_of 2 (a_cons (e_name 0) (a_cons (e_name 1) a_nil))))))
def F_chance : List D → RF := runD 0 g_chance
def g_soft_chance : SM := (s_seq (s_expr (e_call F_look_book 1 (a_cons (e_name 0) a_nil)))
      (s_seq (s_expr (e_call F_look_name 1 (a_cons (e_name 1) a_nil)))
      (s_ret (e_call F_soft_chance_of 2 (a_cons (e_name 0) (a_cons (e_name 1) a_nil))))))
def F_soft_chance : List D → RF := runD 0 g_soft_chance
def g__law_low : SM := (s_seq (s_par 2 3 (a_cons (e_name 0) (a_cons (e_name 1) a_nil)))
      (s_seq (s_while ((fuI 3)) (t_val (e_op neD (e_name 3) (e_k (.int 0)))) (s_par 2 3 (a_cons (e_name 3) (a_cons (e_op modD (e_name 2) (e_name 3)) a_nil))))
      (s_ret (e_tup (a_cons (e_op fdivD (e_name 0) (e_name 2)) (a_cons (e_op fdivD (e_name 1) (e_name 2)) a_nil))))))
def F__law_low : List D → RF := runD 2 g__law_low
def g__law_share : SM := (s_seq (s_asg (e_tup (a_cons (e_k (.int 0)) (a_cons (e_k (.int 0)) a_nil))) (g_tup 2 (gs_cons (g_name 3) (gs_cons (g_name 4) gs_nil))))
      (s_seq (s_for (i_any (e_name 0)) (g_tup 2 (gs_cons (g_name 5) (gs_cons (g_name 6) gs_nil))) (s_seq (s_set 3 (e_op plusD (e_name 3) (e_if (t_val (e_op eqD (e_op subD2 (e_name 5) (e_k (.int 0))) (e_op subD2 (e_name 1) (e_k (.int 0))))) (e_name 6) (e_k (.int 0)))))
      (s_set 4 (e_if (t_val (e_op eqD (e_name 5) (e_name 1))) (e_name 6) (e_name 4)))))
      (s_seq (s_if (t_tru (e_name 2)) (s_ret (e_call F__law_low 2 (a_cons (e_op plusD (e_name 4) (e_k (.int 1))) (a_cons (e_op plusD (e_name 3) (e_if (t_val (e_op eqD (e_op subD2 (e_name 1) (e_k (.int 0))) (e_k (.str "<")))) (e_k (.int 26)) (e_k (.int 27)))) a_nil)))) s_next)
      (s_ret (e_if (t_val (e_op gtD (e_name 3) (e_k (.int 0)))) (e_call F__law_low 2 (a_cons (e_name 4) (a_cons (e_name 3) a_nil))) (e_tup (a_cons (e_k (.int 0)) (a_cons (e_k (.int 1)) a_nil))))))))
def F__law_share : List D → RF := runD 4 g__law_share
def g__law_chance : SM := (s_seq (s_asg (e_tup (a_cons (e_k (.int 1)) (a_cons (e_k (.int 1)) a_nil))) (g_tup 2 (gs_cons (g_name 3) (gs_cons (g_name 4) gs_nil))))
      (s_seq (s_for (i_any (e_call F__law_pairs 1 (a_cons (e_name 1) a_nil))) (g_name 5) (s_seq (s_set 6 (e_call F__law_share 3 (a_cons (e_name 0) (a_cons (e_name 5) (a_cons (e_name 2) a_nil)))))
      (s_par 3 4 (a_cons (e_op mulD (e_name 3) (e_op subD2 (e_name 6) (e_k (.int 0)))) (a_cons (e_op mulD (e_name 4) (e_op subD2 (e_name 6) (e_k (.int 1)))) a_nil)))))
      (s_ret (e_call F__law_low 2 (a_cons (e_name 3) (a_cons (e_name 4) a_nil))))))
def F__law_chance : List D → RF := runD 4 g__law_chance
def g__law_do_v2 : SM := (s_seq (s_set 3 (e_k .non))
      (s_seq (s_set 4 (e_k .non))
      (s_seq (s_tryK 5 3 ["NoBook", "NoName", "NoNumber", "Full", "NotThere", "NoBack", "NoText"] (s_set 4 (e_callI [("share", 2, F_share), ("soft_share", 2, F_soft_share), ("next_signs", 2, F_next_signs), ("chance", 2, F_chance), ("soft_chance", 2, F_soft_chance)] (e_name 0) (a_cons (e_name 1) (a_cons (e_name 2) a_nil)))))
      (s_seq (s_if (t_val (e_op (isND false) (e_name 3) (e_k .non))) (s_ret (e_name 4)) s_next)
      (s_ret (e_call F__law_word 1 (a_cons (e_name 3) a_nil)))))))
def F__law_do_v2 : List D → RF := runD 3 g__law_do_v2
def g__law_sum : SM := (s_seq (s_asg (e_tup (a_cons (e_k (.int 0)) (a_cons (e_k (.int 1)) a_nil))) (g_tup 2 (gs_cons (g_name 1) (gs_cons (g_name 2) gs_nil))))
      (s_seq (s_for (i_any (e_name 0)) (g_name 3) (s_par 1 2 (a_cons (e_op plusD (e_op mulD (e_name 1) (e_op subD2 (e_name 3) (e_k (.int 1)))) (e_op mulD (e_op subD2 (e_name 3) (e_k (.int 0))) (e_name 2))) (a_cons (e_op mulD (e_name 2) (e_op subD2 (e_name 3) (e_k (.int 1)))) a_nil))))
      (s_ret (e_call F__law_low 2 (a_cons (e_name 1) (a_cons (e_name 2) a_nil))))))
def F__law_sum : List D → RF := runD 3 g__law_sum
def g_is_less : SM := (s_ret (e_op ltD (e_op mulD (e_op subD2 (e_name 0) (e_k (.int 0))) (e_op subD2 (e_name 1) (e_k (.int 1)))) (e_op mulD (e_op subD2 (e_name 1) (e_k (.int 0))) (e_op subD2 (e_name 0) (e_k (.int 1))))))
def F_is_less : List D → RF := runD 0 g_is_less
def g_look_long : SM := (s_seq (s_expr (e_call F_look_book 1 (a_cons (e_name 0) a_nil)))
      (s_if (t_not (t_tru (e_call F_is_whole 3 (a_cons (e_name 1) (a_cons (e_k (.int 1)) (a_cons (e_k (.int 6)) a_nil)))))) (s_raise "NoNumber") s_next))
def F_look_long : List D → RF := runD 0 g_look_long
def g_letters_behind : SM := (s_ret (e_new (n_lc [2, 3] (i_any (e_name 0)) (g_tup 2 (gs_cons (g_name 2) (gs_cons (g_name 3) gs_nil))) (t_and (t_val (e_op eqD (e_op subD2 (e_name 2) (e_k (.int 0))) (e_name 1))) (t_val (e_op neD (e_op subD2 (e_name 2) (e_k (.int 1))) (e_k (.str ">"))))) (e_op subD2 (e_name 2) (e_k (.int 1))))))
def F_letters_behind : List D → RF := runD 2 g_letters_behind
def g_can_end : SM := (s_ret (e_op (inLD false) (e_op plusD (e_name 1) (e_k (.str ">"))) (e_new (n_lc [2, 3] (i_any (e_name 0)) (g_tup 2 (gs_cons (g_name 2) (gs_cons (g_name 3) gs_nil))) t_yes (e_name 2)))))
def F_can_end : List D → RF := runD 2 g_can_end
def g_can_tell (R : List D → RF) : SM := (s_seq (s_if (t_val (e_op eqD (e_name 2) (e_k (.int 0)))) (s_ret (e_call F_can_end 2 (a_cons (e_name 0) (a_cons (e_name 1) a_nil)))) s_next)
      (s_ret (e_cb anyD (a_cons (e_new (n_lc [3] (i_any (e_call F_letters_behind 2 (a_cons (e_name 0) (a_cons (e_name 1) a_nil)))) (g_name 3) t_yes (e_call R 3 (a_cons (e_name 0) (a_cons (e_name 3) (a_cons (e_op subD (e_name 2) (e_k (.int 1))) a_nil)))))) a_nil))))
def F_can_tell : List D → RF := recD 1 g_can_tell 8
def g_names_behind (R : List D → RF) : SM := (s_seq (s_set 4 (e_if (t_val (e_op neD (e_name 1) (e_k (.str "")))) (e_op subD2 (e_name 1) (e_neg (e_k (.int 1)))) (e_k (.str "<"))))
      (s_seq (s_if (t_val (e_op eqD (e_name 2) (e_k (.int 0)))) (s_ret (e_if (t_tru (e_call F_can_end 2 (a_cons (e_name 0) (a_cons (e_name 4) a_nil)))) (e_lst (a_cons (e_name 1) a_nil)) (e_lst a_nil))) s_next)
      (s_seq (s_setN 5 (n_lst a_nil))
      (s_seq (s_for (i_any (e_call F_letters_behind 2 (a_cons (e_name 0) (a_cons (e_name 4) a_nil)))) (g_name 6) (s_if (t_and (t_val (e_op ltD (e_peek (e_cb lenD (a_cons (e_name 5) a_nil))) (e_name 3))) (t_tru (e_call F_can_tell 3 (a_cons (e_name 0) (a_cons (e_name 6) (a_cons (e_op subD (e_name 2) (e_k (.int 1))) a_nil)))))) (s_extend 5 (e_call R 4 (a_cons (e_name 0) (a_cons (e_op plusD (e_name 1) (e_name 6)) (a_cons (e_op subD (e_name 2) (e_k (.int 1))) (a_cons (e_op subD (e_name 3) (e_peek (e_cb lenD (a_cons (e_name 5) a_nil)))) a_nil)))))) s_next))
      (s_ret (e_name 5))))))
def F_names_behind : List D → RF := recD 3 g_names_behind 8
def g_names_in : SM := (s_seq (s_expr (e_call F_look_long 2 (a_cons (e_name 0) (a_cons (e_name 1) a_nil))))
      (s_ret (e_call F_names_behind 4 (a_cons (e_name 0) (a_cons (e_k (.str "")) (a_cons (e_name 1) (a_cons (e_k (.int 50)) a_nil)))))))
def F_names_in : List D → RF := runD 0 g_names_in
def g_best_in : SM := (s_seq (s_set 2 (e_new (n_disp [((e_k (.str ">")), (e_tup (a_cons (e_tup (a_cons (e_k (.int 1)) (a_cons (e_k (.int 1)) a_nil))) (a_cons (e_k (.str "")) a_nil))))])))
      (s_seq (s_for (i_range1 (a_cons (e_op plusD (e_name 1) (e_k (.int 1))) a_nil)) (g_name 3) (s_seq (s_setN 4 n_dct)
      (s_seq (s_for (i_any (e_name 0)) (g_tup 2 (gs_cons (g_name 5) (gs_cons (g_name 6) gs_nil))) (s_seq (s_asg (e_name 5) (g_tup 2 (gs_cons (g_name 7) (gs_cons (g_name 8) gs_nil))))
      (s_if (t_and (t_val (e_op dinD (e_name 8) (e_name 2))) (t_val (e_op eqD (e_op eqD (e_name 7) (e_k (.str "<"))) (e_op eqD (e_name 3) (e_name 1))))) (s_seq (s_set 9 (e_tup (a_cons (e_call F_product 1 (a_cons (e_lst (a_cons (e_call F_share_of 2 (a_cons (e_name 0) (a_cons (e_name 5) a_nil))) (a_cons (e_op subD2 (e_op subD2 (e_name 2) (e_name 8)) (e_k (.int 0))) a_nil))) a_nil)) (a_cons (e_op plusD (e_name 8) (e_op subD2 (e_op subD2 (e_name 2) (e_name 8)) (e_k (.int 1)))) a_nil))))
      (s_if (t_or (t_val (e_op dninD (e_name 7) (e_name 4))) (t_tru (e_call F_is_less 2 (a_cons (e_op subD2 (e_op subD2 (e_name 4) (e_name 7)) (e_k (.int 0))) (a_cons (e_op subD2 (e_name 9) (e_k (.int 0))) a_nil))))) (s_dput 4 (e_name 7) (e_name 9)) s_next)) s_next)))
      (s_set 2 (e_name 4)))))
      (s_ret (e_if (t_val (e_op dinD (e_k (.str "<")) (e_name 2))) (e_slice (e_op subD2 (e_op subD2 (e_name 2) (e_k (.str "<"))) (e_k (.int 1))) p_none (p_some (e_neg (e_k (.int 1))))) (e_k .non)))))
def F_best_in : List D → RF := runD 8 g_best_in
def g_best_name : SM := (s_seq (s_expr (e_call F_look_long 2 (a_cons (e_name 0) (a_cons (e_name 1) a_nil))))
      (s_ret (e_call F_best_in 2 (a_cons (e_name 0) (a_cons (e_name 1) a_nil)))))
def F_best_name : List D → RF := runD 0 g_best_name
def g_mass : SM := (s_seq (s_expr (e_call F_look_long 2 (a_cons (e_name 0) (a_cons (e_name 1) a_nil))))
      (s_seq (s_set 2 (e_new (n_disp [((e_k (.str "<")), (e_tup (a_cons (e_k (.int 1)) (a_cons (e_k (.int 1)) a_nil))))])))
      (s_seq (s_for (i_range1 (a_cons (e_op plusD (e_name 1) (e_k (.int 1))) a_nil)) (g_name 3) (s_seq (s_setN 4 n_dct)
      (s_seq (s_for (i_any (e_name 0)) (g_tup 2 (gs_cons (g_name 5) (gs_cons (g_name 6) gs_nil))) (s_if (t_and (t_val (e_op dinD (e_op subD2 (e_name 5) (e_k (.int 0))) (e_name 2))) (t_val (e_op eqD (e_op eqD (e_op subD2 (e_name 5) (e_k (.int 1))) (e_k (.str ">"))) (e_op eqD (e_name 3) (e_name 1))))) (s_seq (s_par 7 8 (a_cons (e_call F_product 1 (a_cons (e_lst (a_cons (e_op subD2 (e_name 2) (e_op subD2 (e_name 5) (e_k (.int 0)))) (a_cons (e_call F_share_of 2 (a_cons (e_name 0) (a_cons (e_name 5) a_nil))) a_nil))) a_nil)) (a_cons (e_getO 4 (e_op subD2 (e_name 5) (e_k (.int 1))) (e_tup (a_cons (e_k (.int 0)) (a_cons (e_k (.int 1)) a_nil)))) a_nil)))
      s_bad) s_next))
      (s_set 2 (e_name 4)))))
      (s_ret (e_get (e_name 2) (e_k (.str ">")) (e_tup (a_cons (e_k (.int 0)) (a_cons (e_k (.int 1)) a_nil))))))))
def F_mass : List D → RF := runD 7 g_mass
def g__law_do_v3 : SM := (s_seq (s_set 3 (e_k .non))
      (s_seq (s_set 4 (e_k .non))
      (s_seq (s_tryK 5 3 ["NoBook", "NoName", "NoNumber", "Full", "NotThere", "NoBack", "NoText"] (s_set 4 (e_callI [("names_in", 2, F_names_in), ("best_name", 2, F_best_name), ("mass", 2, F_mass)] (e_name 0) (a_cons (e_name 1) (a_cons (e_name 2) a_nil)))))
      (s_seq (s_if (t_val (e_op (isND false) (e_name 3) (e_k .non))) (s_ret (e_name 4)) s_next)
      (s_ret (e_call F__law_word 1 (a_cons (e_name 3) a_nil)))))))
def F__law_do_v3 : List D → RF := runD 3 g__law_do_v3
def g__law_all : SM := (s_seq (s_set 2 (e_lst (a_cons (e_tup (a_cons (e_k (.str "<")) (a_cons (e_k (.int 1)) (a_cons (e_k (.int 1)) a_nil)))) a_nil)))
      (s_seq (s_for (i_range1 (a_cons (e_op plusD (e_name 1) (e_k (.int 1))) a_nil)) (g_name 3) (s_seq (s_setN 4 (n_lst a_nil))
      (s_seq (s_for (i_any (e_name 2)) (g_tup 3 (gs_cons (g_name 5) (gs_cons (g_name 6) (gs_cons (g_name 7) gs_nil)))) (s_for (i_any (e_name 0)) (g_tup 2 (gs_cons (g_name 8) (gs_cons (g_name 9) gs_nil))) (s_if (t_and (t_val (e_op eqD (e_op subD2 (e_name 8) (e_k (.int 0))) (e_op subD2 (e_name 5) (e_neg (e_k (.int 1)))))) (t_val (e_op eqD (e_op eqD (e_op subD2 (e_name 8) (e_k (.int 1))) (e_k (.str ">"))) (e_op eqD (e_name 3) (e_name 1))))) (s_seq (s_set 10 (e_call F__law_share 3 (a_cons (e_name 0) (a_cons (e_name 8) (a_cons (e_k (.bl false)) a_nil)))))
      (s_append 4 (e_tup (a_cons (e_op plusD (e_name 5) (e_op subD2 (e_name 8) (e_k (.int 1)))) (a_cons (e_op mulD (e_name 6) (e_op subD2 (e_name 10) (e_k (.int 0)))) (a_cons (e_op mulD (e_name 7) (e_op subD2 (e_name 10) (e_k (.int 1)))) a_nil)))))) s_next)))
      (s_seq (s_set 2 (e_name 4))
      (s_if (t_val (e_op gtD (e_cb lenD (a_cons (e_name 2) a_nil)) (e_k (.int 60)))) (s_ret (e_k .non)) s_next)))))
      (s_ret (e_new (n_lc [5, 6, 7] (i_any (e_name 2)) (g_tup 3 (gs_cons (g_name 5) (gs_cons (g_name 6) (gs_cons (g_name 7) gs_nil)))) t_yes (e_tup (a_cons (e_slice (e_name 5) (p_some (e_k (.int 1))) (p_some (e_neg (e_k (.int 1))))) (a_cons (e_call F__law_low 2 (a_cons (e_name 6) (a_cons (e_name 7) a_nil))) a_nil))))))))
def F__law_all : List D → RF := runD 9 g__law_all
def g_look_books : SM := (s_seq (s_if (t_or (t_not (t_tru (e_isiA ["list", "tuple"] (e_name 0)))) (t_not (t_val (e_chain leD leD (e_k (.int 1)) (e_cb lenD (a_cons (e_name 0) a_nil)) (e_k (.int 5)))))) (s_raise "NoBook") s_next)
      (s_seq (s_if (t_not (t_tru (e_cb allD (a_cons (e_new (n_lc [2] (i_any (e_name 0)) (g_name 2) t_yes (e_call F_is_book 1 (a_cons (e_name 2) a_nil)))) a_nil)))) (s_raise "NoBook") s_next)
      (s_expr (e_call F_look_name 1 (a_cons (e_name 1) a_nil)))))
def F_look_books : List D → RF := runD 1 g_look_books
def g_order_of : SM := (s_seq (s_setN 2 (n_lrng (e_cb lenD (a_cons (e_name 0) a_nil))))
      (s_seq (s_setN 3 (n_lc [4] (i_any (e_name 0)) (g_name 4) t_yes (e_call F_soft_chance_of 2 (a_cons (e_name 4) (a_cons (e_name 1) a_nil)))))
      (s_seq (s_setN 5 (n_lst a_nil))
      (s_seq (s_while (fun _ => 64) (t_peek (t_val (e_op neD (e_name 2) (e_lst a_nil)))) (s_seq (s_set 6 (e_subO 2 (e_k (.int 0))))
      (s_seq (s_forO 2 (g_name 7) (s_set 6 (e_if (t_tru (e_call F_is_less 2 (a_cons (e_op subD2 (e_name 3) (e_name 6)) (a_cons (e_op subD2 (e_name 3) (e_name 7)) a_nil)))) (e_name 7) (e_name 6))))
      (s_seq (s_lmeth remH 2 (a_cons (e_name 6) a_nil))
      (s_append 5 (e_name 6))))))
      (s_ret (e_name 5))))))
def F_order_of : List D → RF := runD 6 g_order_of
def g_likeliest : SM := (s_seq (s_expr (e_call F_look_books 2 (a_cons (e_name 0) (a_cons (e_name 1) a_nil))))
      (s_ret (e_op subD2 (e_call F_order_of 2 (a_cons (e_name 0) (a_cons (e_name 1) a_nil))) (e_k (.int 0)))))
def F_likeliest : List D → RF := runD 0 g_likeliest
def g_ranked : SM := (s_seq (s_expr (e_call F_look_books 2 (a_cons (e_name 0) (a_cons (e_name 1) a_nil))))
      (s_ret (e_call F_order_of 2 (a_cons (e_name 0) (a_cons (e_name 1) a_nil)))))
def F_ranked : List D → RF := runD 0 g_ranked
def g_parting : SM := (s_seq (s_expr (e_call F_look_book 1 (a_cons (e_name 0) a_nil)))
      (s_seq (s_expr (e_call F_look_book 1 (a_cons (e_name 1) a_nil)))
      (s_seq (s_if (t_not (t_tru (e_call F_is_whole 3 (a_cons (e_name 2) (a_cons (e_k (.int 1)) (a_cons (e_k (.int 4)) a_nil)))))) (s_raise "NoNumber") s_next)
      (s_seq (s_for (i_range2 (a_cons (e_k (.int 1)) (a_cons (e_op plusD (e_name 2) (e_k (.int 1))) a_nil))) (g_name 3) (s_seq (s_set 4 (e_op plusD (e_call F_names_behind 4 (a_cons (e_name 0) (a_cons (e_k (.str "")) (a_cons (e_name 3) (a_cons (e_k (.int 999999)) a_nil))))) (e_call F_names_behind 4 (a_cons (e_name 1) (a_cons (e_k (.str "")) (a_cons (e_name 3) (a_cons (e_k (.int 999999)) a_nil)))))))
      (s_for (i_any (e_new (n_ct sortsetO (a_cons (e_name 4) a_nil)))) (g_name 5) (s_if (t_val (e_op neD (e_call F_chance_of 2 (a_cons (e_name 0) (a_cons (e_name 5) a_nil))) (e_call F_chance_of 2 (a_cons (e_name 1) (a_cons (e_name 5) a_nil))))) (s_ret (e_name 5)) s_next))))
      (s_ret (e_k .non))))))
def F_parting : List D → RF := runD 3 g_parting
def g_look_names : SM := (s_seq (s_expr (e_call F_look_book 1 (a_cons (e_name 0) a_nil)))
      (s_seq (s_expr (e_call F_look_book 1 (a_cons (e_name 1) a_nil)))
      (s_if (t_not (t_tru (e_call F_are_names 2 (a_cons (e_name 2) (a_cons (e_k (.int 6)) a_nil))))) (s_raise "NoName") s_next)))
def F_look_names : List D → RF := runD 0 g_look_names
def g_judge : SM := (s_seq (s_set 3 (e_call F_product 1 (a_cons (e_new (n_lc [4] (i_any (e_name 2)) (g_name 4) t_yes (e_call F_soft_chance_of 2 (a_cons (e_name 0) (a_cons (e_name 4) a_nil))))) a_nil)))
      (s_seq (s_set 5 (e_call F_product 1 (a_cons (e_new (n_lc [4] (i_any (e_name 2)) (g_name 4) t_yes (e_call F_soft_chance_of 2 (a_cons (e_name 1) (a_cons (e_name 4) a_nil))))) a_nil)))
      (s_seq (s_if (t_val (e_op eqD (e_name 3) (e_name 5))) (s_ret (e_k (.str "same"))) s_next)
      (s_ret (e_if (t_tru (e_call F_is_less 2 (a_cons (e_name 3) (a_cons (e_name 5) a_nil)))) (e_k (.str "other")) (e_k (.str "one")))))))
def F_judge : List D → RF := runD 3 g_judge
def g_judged : SM := (s_seq (s_expr (e_call F_look_names 3 (a_cons (e_name 0) (a_cons (e_name 1) (a_cons (e_name 2) a_nil)))))
      (s_ret (e_call F_judge 3 (a_cons (e_name 0) (a_cons (e_name 1) (a_cons (e_name 2) a_nil))))))
def F_judged : List D → RF := runD 0 g_judged
def g_choices : SM := (s_seq (s_set 1 (e_lst (a_cons (e_tup a_nil) a_nil)))
      (s_seq (s_for (i_range1 (a_cons (e_name 0) a_nil)) (g_name 2) (s_set 1 (e_op plusD (e_name 1) (e_new (n_lc [3] (i_any (e_name 1)) (g_name 3) t_yes (e_op plusD (e_name 3) (e_tup (a_cons (e_name 2) a_nil))))))))
      (s_ret (e_new (n_lc [4, 3] (i_any (e_new (n_ct sortedG (a_cons (e_new (n_lc [3] (i_any (e_name 1)) (g_name 3) t_yes (e_tup (a_cons (e_cb lenD (a_cons (e_name 3) a_nil)) (a_cons (e_name 3) a_nil))))) a_nil)))) (g_tup 2 (gs_cons (g_name 4) (gs_cons (g_name 3) gs_nil))) t_yes (e_name 3))))))
def F_choices : List D → RF := runD 4 g_choices
def g_fewest : SM := (s_seq (s_expr (e_call F_look_names 3 (a_cons (e_name 0) (a_cons (e_name 1) (a_cons (e_name 2) a_nil)))))
      (s_seq (s_for (i_any (e_call F_choices 1 (a_cons (e_cb lenD (a_cons (e_name 2) a_nil)) a_nil))) (g_name 3) (s_if (t_val (e_op eqD (e_call F_judge 3 (a_cons (e_name 0) (a_cons (e_name 1) (a_cons (e_new (n_lc [4] (i_range1 (a_cons (e_cb lenD (a_cons (e_name 2) a_nil)) a_nil)) (g_name 4) (t_val (e_op (inLD true) (e_name 4) (e_name 3))) (e_op subD2 (e_name 2) (e_name 4)))) a_nil)))) (e_k (.str "one")))) (s_ret (e_name 3)) s_next))
      (s_ret (e_k .non))))
def F_fewest : List D → RF := runD 2 g_fewest
def g__law_do_v4 : SM := (s_seq (s_set 4 (e_k .non))
      (s_seq (s_set 5 (e_k .non))
      (s_seq (s_tryK 6 4 ["NoBook", "NoName", "NoNumber", "Full", "NotThere", "NoBack", "NoText"] (s_if (t_val (e_op ltD (e_name 0) (e_k (.int 2)))) (s_set 5 (e_callI [("likeliest", 2, F_likeliest), ("ranked", 2, F_ranked)] (e_name 0) (a_cons (e_name 1) (a_cons (e_name 2) a_nil)))) (s_set 5 (e_callI [("parting", 3, F_parting), ("judged", 3, F_judged), ("fewest", 3, F_fewest)] (e_op subD (e_name 0) (e_k (.int 2))) (a_cons (e_name 1) (a_cons (e_name 2) (a_cons (e_name 3) a_nil)))))))
      (s_seq (s_if (t_val (e_op (isND false) (e_name 4) (e_k .non))) (s_ret (e_name 5)) s_next)
      (s_ret (e_call F__law_word 1 (a_cons (e_name 4) a_nil)))))))
def F__law_do_v4 : List D → RF := runD 3 g__law_do_v4
def g__law_is_more : SM := (s_ret (e_op gtD (e_op mulD (e_op subD2 (e_name 0) (e_k (.int 0))) (e_op subD2 (e_name 1) (e_k (.int 1)))) (e_op mulD (e_op subD2 (e_name 1) (e_k (.int 0))) (e_op subD2 (e_name 0) (e_k (.int 1))))))
def F__law_is_more : List D → RF := runD 0 g__law_is_more
def g__law_parting : SM := (s_seq (s_set 3 (e_sm joinD (e_k (.str "")) (e_new (n_lc [4, 5] (i_any (e_op plusD (e_name 0) (e_name 1))) (g_tup 2 (gs_cons (g_name 4) (gs_cons (g_name 5) gs_nil))) t_yes (e_name 4)))))
      (s_seq (s_setN 6 (n_lc [7] (i_any (e_new (n_ct sortsetO (a_cons (e_name 3) a_nil)))) (g_name 7) (t_val (e_op ninsD (e_name 7) (e_k (.str "<>")))) (e_name 7)))
      (s_seq (s_set 8 (e_lst (a_cons (e_k (.str "")) a_nil)))
      (s_seq (s_for (i_range1 (a_cons (e_name 2) a_nil)) (g_name 9) (s_seq (s_setN 10 (n_lst a_nil))
      (s_seq (s_for (i_any (e_name 8)) (g_name 11) (s_extend 10 (e_new (n_lc [12] (i_any (e_name 6)) (g_name 12) t_yes (e_op plusD (e_name 11) (e_name 12))))))
      (s_seq (s_set 8 (e_name 10))
      (s_for (i_any (e_name 8)) (g_name 13) (s_if (t_val (e_op neD (e_call F__law_chance 3 (a_cons (e_name 0) (a_cons (e_name 13) (a_cons (e_k (.bl false)) a_nil)))) (e_call F__law_chance 3 (a_cons (e_name 1) (a_cons (e_name 13) (a_cons (e_k (.bl false)) a_nil)))))) (s_ret (e_name 13)) s_next))))))
      (s_ret (e_k .non))))))
def F__law_parting : List D → RF := runD 11 g__law_parting
def g__law_judged : SM := (s_seq (s_setN 3 (n_lst a_nil))
      (s_seq (s_for (i_any (e_tup (a_cons (e_name 0) (a_cons (e_name 1) a_nil)))) (g_name 4) (s_seq (s_asg (e_tup (a_cons (e_k (.int 1)) (a_cons (e_k (.int 1)) a_nil))) (g_tup 2 (gs_cons (g_name 5) (gs_cons (g_name 6) gs_nil))))
      (s_seq (s_for (i_any (e_name 2)) (g_name 7) (s_seq (s_set 8 (e_call F__law_chance 3 (a_cons (e_name 4) (a_cons (e_name 7) (a_cons (e_k (.bl true)) a_nil)))))
      (s_par 5 6 (a_cons (e_op mulD (e_name 5) (e_op subD2 (e_name 8) (e_k (.int 0)))) (a_cons (e_op mulD (e_name 6) (e_op subD2 (e_name 8) (e_k (.int 1)))) a_nil)))))
      (s_append 3 (e_tup (a_cons (e_name 5) (a_cons (e_name 6) a_nil)))))))
      (s_seq (s_if (t_tru (e_call F__law_is_more 2 (a_cons (e_op subD2 (e_name 3) (e_k (.int 0))) (a_cons (e_op subD2 (e_name 3) (e_k (.int 1))) a_nil)))) (s_ret (e_k (.str "one"))) s_next)
      (s_ret (e_if (t_tru (e_call F__law_is_more 2 (a_cons (e_op subD2 (e_name 3) (e_k (.int 1))) (a_cons (e_op subD2 (e_name 3) (e_k (.int 0))) a_nil)))) (e_k (.str "other")) (e_k (.str "same")))))))
def F__law_judged : List D → RF := runD 6 g__law_judged
def g__law_fewest : SM := (s_seq (s_set 3 (e_lst (a_cons (e_tup a_nil) a_nil)))
      (s_seq (s_for (i_range1 (a_cons (e_cb lenD (a_cons (e_name 2) a_nil)) a_nil)) (g_name 4) (s_set 3 (e_op plusD (e_name 3) (e_new (n_lc [5] (i_any (e_name 3)) (g_name 5) t_yes (e_op plusD (e_name 5) (e_tup (a_cons (e_name 4) a_nil))))))))
      (s_seq (s_setN 6 (n_lst a_nil))
      (s_seq (s_for (i_any (e_name 3)) (g_name 5) (s_seq (s_setN 7 (n_lc [4] (i_range1 (a_cons (e_cb lenD (a_cons (e_name 2) a_nil)) a_nil)) (g_name 4) (t_val (e_op (inLD true) (e_name 4) (e_name 5))) (e_op subD2 (e_name 2) (e_name 4))))
      (s_extend 6 (e_if (t_val (e_op eqD (e_call F__law_judged 3 (a_cons (e_name 0) (a_cons (e_name 1) (a_cons (e_name 7) a_nil)))) (e_k (.str "one")))) (e_lst (a_cons (e_tup (a_cons (e_cb lenD (a_cons (e_name 5) a_nil)) (a_cons (e_name 5) a_nil))) a_nil)) (e_lst a_nil)))))
      (s_ret (e_if (t_val (e_op neD (e_name 6) (e_lst a_nil))) (e_op subD2 (e_cb minLD (a_cons (e_name 6) a_nil)) (e_k (.int 1))) (e_k .non)))))))
def F__law_fewest : List D → RF := runD 5 g__law_fewest
def g__law_refuses : SM := (s_seq (s_for (i_any (e_tup (a_cons (e_k .non) (a_cons (e_lst a_nil) (a_cons (e_lst (a_cons (e_k .non) a_nil)) (a_cons (e_op plusD (e_name 0) (e_lst (a_cons (e_k .non) a_nil))) (a_cons (e_op repD (e_lst (a_cons (e_name 1) a_nil)) (e_k (.int 6))) (a_cons (e_k (.int 5)) (a_cons (e_k (.str "ab")) a_nil))))))))) (g_name 3) (s_if (t_val (e_op neD (e_new (n_lc [4] (i_range1 (a_cons (e_k (.int 2)) a_nil)) (g_name 4) t_yes (e_call F__law_do_v4 4 (a_cons (e_name 4) (a_cons (e_name 3) (a_cons (e_k .non) (a_cons (e_k .non) a_nil))))))) (e_op repD (e_lst (a_cons (e_k (.str "no book")) a_nil)) (e_k (.int 2))))) (s_ret (e_k (.bl false))) s_next))
      (s_seq (s_asg (e_tup (a_cons (e_call F__law_book 1 (a_cons (e_lst (a_cons (e_k (.str "abcd")) a_nil)) a_nil)) (a_cons (e_call F__law_book 1 (a_cons (e_lst (a_cons (e_k (.str "abce")) a_nil)) a_nil)) a_nil))) (g_tup 2 (gs_cons (g_name 5) (gs_cons (g_name 6) gs_nil))))
      (s_seq (s_if (t_val (e_op neD (e_new (n_lc [7] (i_any (e_tup (a_cons (e_k (.int 1)) (a_cons (e_k (.int 2)) (a_cons (e_k (.int 3)) (a_cons (e_k (.int 4)) a_nil)))))) (g_name 7) t_yes (e_call F__law_do_v4 4 (a_cons (e_k (.int 2)) (a_cons (e_name 5) (a_cons (e_name 6) (a_cons (e_name 7) a_nil))))))) (e_lst (a_cons (e_k .non) (a_cons (e_k .non) (a_cons (e_k .non) (a_cons (e_k (.str "abcd")) a_nil))))))) (s_ret (e_k (.bl false))) s_next)
      (s_seq (s_for (i_any (e_tup (a_cons (e_k (.int 0)) (a_cons (e_k (.int 5)) (a_cons (e_k .non) (a_cons (e_k (.bl true)) a_nil)))))) (g_name 3) (s_if (t_or (t_val (e_op neD (e_call F__law_do_v4 4 (a_cons (e_k (.int 2)) (a_cons (e_name 1) (a_cons (e_name 2) (a_cons (e_name 3) a_nil))))) (e_k (.str "no number")))) (t_val (e_op neD (e_call F__law_do_v4 4 (a_cons (e_k (.int 2)) (a_cons (e_name 1) (a_cons (e_k .non) (a_cons (e_name 3) a_nil))))) (e_k (.str "no book"))))) (s_ret (e_k (.bl false))) s_next))
      (s_seq (s_for (i_any (e_tup (a_cons (e_k .non) (a_cons (e_k (.str "ab")) (a_cons (e_lst (a_cons (e_k .non) a_nil)) (a_cons (e_lst (a_cons (e_k (.str "A")) a_nil)) (a_cons (e_op repD (e_lst (a_cons (e_k (.str "a")) a_nil)) (e_k (.int 7))) (a_cons (e_k (.int 5)) a_nil)))))))) (g_name 3) (s_seq (s_set 8 (e_lst (a_cons (e_call F__law_do_v4 4 (a_cons (e_k (.int 3)) (a_cons (e_name 1) (a_cons (e_name 2) (a_cons (e_name 3) a_nil))))) (a_cons (e_call F__law_do_v4 4 (a_cons (e_k (.int 4)) (a_cons (e_name 1) (a_cons (e_name 2) (a_cons (e_name 3) a_nil))))) (a_cons (e_call F__law_do_v4 4 (a_cons (e_k (.int 3)) (a_cons (e_k .non) (a_cons (e_name 2) (a_cons (e_name 3) a_nil))))) a_nil)))))
      (s_if (t_val (e_op neD (e_name 8) (e_op plusD (e_op repD (e_lst (a_cons (e_k (.str "no name")) a_nil)) (e_k (.int 2))) (e_lst (a_cons (e_k (.str "no book")) a_nil))))) (s_ret (e_k (.bl false))) s_next)))
      (s_ret (e_op eqD (e_new (n_lc [4] (i_range1 (a_cons (e_k (.int 2)) a_nil)) (g_name 4) t_yes (e_call F__law_do_v4 4 (a_cons (e_name 4) (a_cons (e_name 0) (a_cons (e_k (.str "")) (a_cons (e_k .non) a_nil))))))) (e_op repD (e_lst (a_cons (e_k (.str "no name")) a_nil)) (e_k (.int 2))))))))))
def F__law_refuses : List D → RF := runD 6 g__law_refuses
def g_sign_at : SM := (s_seq (s_for (i_any (e_name 0)) (g_tup 2 (gs_cons (g_name 3) (gs_cons (g_name 4) gs_nil))) (s_seq (s_if (t_and (t_val (e_op eqD (e_op subD2 (e_name 3) (e_k (.int 0))) (e_name 1))) (t_val (e_op ltD (e_name 2) (e_name 4)))) (s_ret (e_op subD2 (e_name 3) (e_k (.int 1)))) s_next)
      (s_set 2 (e_if (t_val (e_op eqD (e_op subD2 (e_name 3) (e_k (.int 0))) (e_name 1))) (e_op subD (e_name 2) (e_name 4)) (e_name 2)))))
      (s_ret (e_k (.str ">"))))
def F_sign_at : List D → RF := runD 2 g_sign_at
def g_are_numbers : SM := (s_seq (s_if (t_or (t_not (t_tru (e_isiA ["list", "tuple"] (e_name 0)))) (t_val (e_op gtD (e_cb lenD (a_cons (e_name 0) a_nil)) (e_k (.int 20))))) (s_ret (e_k (.bl false))) s_next)
      (s_ret (e_cb allD (a_cons (e_new (n_lc [1] (i_any (e_name 0)) (g_name 1) t_yes (e_and (e_isi "int" (e_name 1)) (e_and (e_not (e_isi "bool" (e_name 1))) (e_op geD (e_name 1) (e_k (.int 0))))))) a_nil))))
def F_are_numbers : List D → RF := runD 1 g_are_numbers
def g_drawn_by : SM := (s_seq (s_expr (e_call F_look_book 1 (a_cons (e_name 0) a_nil)))
      (s_seq (s_if (t_not (t_tru (e_call F_are_numbers 1 (a_cons (e_name 1) a_nil)))) (s_raise "NoNumber") s_next)
      (s_seq (s_set 2 (e_k (.str "")))
      (s_seq (s_set 3 (e_k (.str "<")))
      (s_seq (s_for (i_any (e_name 1)) (g_name 4) (s_seq (s_set 5 (e_call F_sum_behind 2 (a_cons (e_name 0) (a_cons (e_name 3) a_nil))))
      (s_seq (s_if (t_val (e_op eqD (e_name 5) (e_k (.int 0)))) (s_ret (e_k .non)) s_next)
      (s_seq (s_set 3 (e_call F_sign_at 3 (a_cons (e_name 0) (a_cons (e_name 3) (a_cons (e_op modD (e_name 4) (e_name 5)) a_nil)))))
      (s_seq (s_if (t_val (e_op eqD (e_name 3) (e_k (.str ">")))) (s_ret (e_name 2)) s_next)
      (s_set 2 (e_op plusD (e_name 2) (e_name 3))))))))
      (s_ret (e_k .non)))))))
def F_drawn_by : List D → RF := runD 4 g_drawn_by
def g_numbers_for : SM := (s_seq (s_expr (e_call F_look_book 1 (a_cons (e_name 0) a_nil)))
      (s_seq (s_expr (e_call F_look_name 1 (a_cons (e_name 1) a_nil)))
      (s_seq (s_setN 2 (n_lst a_nil))
      (s_seq (s_for (i_any (e_call F_pairs_in 1 (a_cons (e_name 1) a_nil))) (g_name 3) (s_seq (s_if (t_val (e_op eqD (e_call F_count_of 2 (a_cons (e_name 0) (a_cons (e_name 3) a_nil))) (e_k (.int 0)))) (s_raise "NotThere") s_next)
      (s_append 2 (e_cb sumD (a_cons (e_new (n_lc [4, 5] (i_any (e_name 0)) (g_tup 2 (gs_cons (g_name 4) (gs_cons (g_name 5) gs_nil))) (t_and (t_val (e_op eqD (e_op subD2 (e_name 4) (e_k (.int 0))) (e_op subD2 (e_name 3) (e_k (.int 0))))) (t_val (e_op ltD (e_name 4) (e_name 3)))) (e_name 5))) a_nil)))))
      (s_ret (e_name 2))))))
def F_numbers_for : List D → RF := runD 4 g_numbers_for
def g__law_pick_v2 : SM := (s_seq (s_set 3 (e_op modD (e_op mulD (e_op plusD (e_call F__law_cell 2 (a_cons (e_name 0) (a_cons (e_name 1) a_nil))) (e_op mulD (e_k (.int 6151)) (e_op plusD (e_name 1) (e_k (.int 1))))) (e_k (.int 40692))) (e_k (.int 2147483399))))
      (s_ret (e_op modD (e_op modD (e_op plusD (e_op mulD (e_name 3) (e_name 3)) (e_op fdivD (e_name 3) (e_k (.int 31)))) (e_k (.int 2147483629))) (e_name 2))))
def F__law_pick_v2 : List D → RF := runD 1 g__law_pick_v2
def g__law_name_v2 : SM := (s_ret (e_sm joinD (e_k (.str "")) (e_new (n_lc [3] (i_range1 (a_cons (e_op plusD (e_k (.int 1)) (e_call F__law_pick_v2 3 (a_cons (e_name 0) (a_cons (e_name 1) (a_cons (e_k (.int 6)) a_nil))))) a_nil)) (g_name 3) t_yes (e_op subD2 (e_name 2) (e_call F__law_pick_v2 3 (a_cons (e_name 0) (a_cons (e_op plusD (e_op plusD (e_name 1) (e_k (.int 1))) (e_name 3)) (a_cons (e_cb lenD (a_cons (e_name 2) a_nil)) a_nil)))))))))
def F__law_name_v2 : List D → RF := runD 1 g__law_name_v2
def g__law_names_v2 : SM := (s_seq (s_set 3 (e_op subD2 (e_lst (a_cons (e_k (.str "a")) (a_cons (e_k (.str "ab")) (a_cons (e_k (.str "zba")) (a_cons (e_k (.str "nabe")) (a_cons (e_k (.str "keltor")) a_nil)))))) (e_call F__law_pick_v2 3 (a_cons (e_name 0) (a_cons (e_name 1) (a_cons (e_k (.int 5)) a_nil))))))
      (s_ret (e_new (n_lc [4] (i_range1 (a_cons (e_call F__law_pick_v2 3 (a_cons (e_name 0) (a_cons (e_op plusD (e_name 1) (e_k (.int 1))) (a_cons (e_op plusD (e_name 2) (e_k (.int 1))) a_nil)))) a_nil)) (g_name 4) t_yes (e_call F__law_name_v2 3 (a_cons (e_name 0) (a_cons (e_op plusD (e_op plusD (e_name 1) (e_k (.int 2))) (e_op mulD (e_k (.int 8)) (e_name 4))) (a_cons (e_name 3) a_nil))))))))
def F__law_names_v2 : List D → RF := runD 2 g__law_names_v2
def g__law_do_v5 : SM := (s_seq (s_set 3 (e_k .non))
      (s_seq (s_set 4 (e_k .non))
      (s_seq (s_tryK 5 3 ["NoBook", "NoName", "NoNumber", "Full", "NotThere", "NoBack", "NoText"] (s_set 4 (e_if (t_val (e_op eqD (e_name 0) (e_k (.int 0)))) (e_call F_drawn_by 2 (a_cons (e_name 1) (a_cons (e_name 2) a_nil))) (e_call F_numbers_for 2 (a_cons (e_name 1) (a_cons (e_name 2) a_nil))))))
      (s_seq (s_if (t_val (e_op (isND false) (e_name 3) (e_k .non))) (s_ret (e_name 4)) s_next)
      (s_ret (e_call F__law_word 1 (a_cons (e_name 3) a_nil)))))))
def F__law_do_v5 : List D → RF := runD 3 g__law_do_v5
def g__law_drawn : SM := (s_seq (s_set 2 (e_k (.str "<")))
      (s_seq (s_for (i_any (e_name 1)) (g_name 3) (s_seq (s_setN 4 (n_lst a_nil))
      (s_seq (s_for (i_any (e_name 0)) (g_tup 2 (gs_cons (g_name 5) (gs_cons (g_name 6) gs_nil))) (s_extend 4 (e_if (t_val (e_op eqD (e_op subD2 (e_name 5) (e_k (.int 0))) (e_op subD2 (e_name 2) (e_neg (e_k (.int 1)))))) (e_op repD (e_lst (a_cons (e_op subD2 (e_name 5) (e_k (.int 1))) a_nil)) (e_name 6)) (e_lst a_nil))))
      (s_seq (s_if (t_val (e_op eqD (e_name 4) (e_lst a_nil))) (s_ret (e_k .non)) s_next)
      (s_seq (s_set 2 (e_op plusD (e_name 2) (e_op subD2 (e_name 4) (e_op modD (e_name 3) (e_cb lenD (a_cons (e_name 4) a_nil))))))
      (s_if (t_val (e_op eqD (e_op subD2 (e_name 2) (e_neg (e_k (.int 1)))) (e_k (.str ">")))) (s_ret (e_slice (e_name 2) (p_some (e_k (.int 1))) (p_some (e_neg (e_k (.int 1)))))) s_next))))))
      (s_ret (e_k .non))))
def F__law_drawn : List D → RF := runD 5 g__law_drawn
def g__law_do_v6 : SM := (s_seq (s_set 3 (e_k .non))
      (s_seq (s_set 4 (e_k .non))
      (s_seq (s_tryK 5 3 ["NoBook", "NoName", "NoNumber", "Full", "NotThere", "NoBack", "NoText"] (s_if (t_val (e_op ltD (e_name 0) (e_k (.int 2)))) s_bad (s_if (t_val (e_op eqD (e_name 0) (e_k (.int 2)))) s_bad s_bad)))
      (s_seq (s_if (t_val (e_op (isND false) (e_name 3) (e_k .non))) (s_ret (e_name 4)) s_next)
      (s_ret (e_call F__law_word 1 (a_cons (e_name 3) a_nil)))))))
def F__law_do_v6 : List D → RF := runD 3 g__law_do_v6
def g__law_changed : SM := (s_seq (s_setN 3 (n_ct dictO (a_cons (e_name 0) a_nil)))
      (s_seq (s_for (i_any (e_call F__law_pairs 1 (a_cons (e_name 1) a_nil))) (g_name 4) (s_dput 3 (e_name 4) (e_op plusD (e_getO 3 (e_name 4) (e_k (.int 0))) (e_name 2))))
      (s_seq (s_if (t_val (e_op neD (e_new (n_lcK [4] 3 (g_name 4) (t_val (e_op ltD (e_op subD2 (e_name 3) (e_name 4)) (e_k (.int 0)))) (e_name 4))) (e_lst a_nil))) (s_ret (e_k .non)) s_next)
      (s_ret (e_cb tupleD (a_cons (e_new (n_lc [4] (i_any (e_new (n_ct sortedO (a_cons (e_new (n_ct listO (a_cons (e_name 3) a_nil))) a_nil)))) (g_name 4) (t_val (e_op gtD (e_op subD2 (e_name 3) (e_name 4)) (e_k (.int 0)))) (e_tup (a_cons (e_name 4) (a_cons (e_op subD2 (e_name 3) (e_name 4)) a_nil))))) a_nil))))))
def F__law_changed : List D → RF := runD 2 g__law_changed
def g__law_is_full : SM := (s_seq s_bad
      (s_seq s_bad
      (s_ret (e_op eqD (e_new (n_lc [1] (i_any (e_tup (a_cons (e_k .non) (a_cons (e_lst a_nil) (a_cons (e_tup (a_cons (e_tup (a_cons (e_k (.str "<>")) (a_cons (e_k (.int 1)) a_nil))) a_nil)) (a_cons (e_k (.str "ab")) a_nil)))))) (g_name 1) t_yes (e_call F__law_do_v6 3 (a_cons (e_k (.int 3)) (a_cons (e_k .non) (a_cons (e_name 1) a_nil)))))) (e_op repD (e_lst (a_cons (e_k (.str "no book")) a_nil)) (e_k (.int 4)))))))
def F__law_is_full : List D → RF := runD 2 g__law_is_full
def g_text_of : SM := s_bad
def F_text_of : List D → RF := runD 2 g_text_of
def g_book_text : SM := (s_seq (s_expr (e_call F_look_book 1 (a_cons (e_name 0) a_nil)))
      (s_ret (e_call F_text_of 1 (a_cons (e_name 0) a_nil))))
def F_book_text : List D → RF := runD 0 g_book_text
def g_line_in : SM := (s_seq s_bad
      (s_seq (s_if (t_or (t_val (e_op neD (e_cb lenD (a_cons (e_name 1) a_nil)) (e_k (.int 2)))) (t_or (t_not (t_val (e_chain leD leD (e_k (.int 1)) (e_cb lenD (a_cons (e_op subD2 (e_name 1) (e_k (.int 1))) a_nil)) (e_k (.int 3))))) (t_not (t_tru (e_cb allD (a_cons (e_new (n_lc [2] (i_any (e_op subD2 (e_name 1) (e_k (.int 1)))) (g_name 2) t_yes (e_op insD (e_name 2) (e_k (.str "0123456789"))))) a_nil)))))) (s_raise "NoText") s_next)
      (s_ret (e_tup (a_cons (e_op subD2 (e_name 1) (e_k (.int 0))) (a_cons (e_cb intC (a_cons (e_op subD2 (e_name 1) (e_k (.int 1))) a_nil)) a_nil))))))
def F_line_in : List D → RF := runD 2 g_line_in
def g_read_book : SM := (s_seq (s_if (t_not (t_tru (e_isi "str" (e_name 0)))) (s_raise "NoText") s_next)
      (s_seq s_bad
      (s_seq (s_if (t_or (t_not (t_tru (e_call F_is_book 1 (a_cons (e_name 1) a_nil)))) (t_val (e_op neD (e_call F_text_of 1 (a_cons (e_name 1) a_nil)) (e_name 0)))) (s_raise "NoText") s_next)
      (s_ret (e_name 1)))))
def F_read_book : List D → RF := runD 2 g_read_book
def g__law_spoilt : SM := (s_seq (s_set 3 (e_op modD (e_name 1) (e_op plusD (e_cb lenD (a_cons (e_name 0) a_nil)) (e_k (.int 1)))))
      (s_seq (s_set 4 (e_op subD2 (e_name 2) (e_op modD (e_op fdivD (e_name 1) (e_k (.int 1000))) (e_cb lenD (a_cons (e_name 2) a_nil)))))
      (s_seq (s_set 5 (e_op plusD (e_op plusD (e_name 3) (e_k (.int 1))) (e_op modD (e_op fdivD (e_name 1) (e_k (.int 7))) (e_k (.int 9)))))
      (s_seq (s_set 6 (e_op modD (e_op fdivD (e_name 1) (e_k (.int 100000))) (e_k (.int 8))))
      (s_seq (s_if (t_val (e_op ltD (e_name 6) (e_k (.int 2)))) (s_ret (e_op plusD (e_op plusD (e_slice (e_name 0) p_none (p_some (e_name 3))) (e_name 4)) (e_slice (e_name 0) (p_some (e_name 3)) p_none))) s_next)
      (s_seq (s_if (t_val (e_op eqD (e_name 6) (e_k (.int 2)))) (s_ret (e_op plusD (e_slice (e_name 0) p_none (p_some (e_name 3))) (e_slice (e_name 0) (p_some (e_op plusD (e_name 3) (e_k (.int 1)))) p_none))) s_next)
      (s_seq (s_if (t_val (e_op ltD (e_name 6) (e_k (.int 5)))) (s_ret (e_op plusD (e_op plusD (e_slice (e_name 0) p_none (p_some (e_name 3))) (e_name 4)) (e_slice (e_name 0) (p_some (e_op plusD (e_name 3) (e_k (.int 1)))) p_none))) s_next)
      (s_seq (s_if (t_val (e_op eqD (e_name 6) (e_k (.int 5)))) (s_ret (e_op plusD (e_slice (e_name 0) p_none (p_some (e_name 3))) (e_slice (e_name 0) (p_some (e_name 5)) p_none))) s_next)
      (s_seq (s_if (t_val (e_op eqD (e_name 6) (e_k (.int 6)))) (s_ret (e_op plusD (e_slice (e_name 0) p_none (p_some (e_name 5))) (e_slice (e_name 0) (p_some (e_name 3)) p_none))) s_next)
      (s_ret (e_op subD2 (e_lst (a_cons (e_op plusD (e_name 0) (e_k (.str " "))) (a_cons (e_op plusD (e_k (.str " ")) (e_name 0)) (a_cons (e_op plusD (e_slice (e_name 0) (p_some (e_name 3)) p_none) (e_slice (e_name 0) p_none (p_some (e_name 3)))) (a_cons (e_k (.str "")) (a_cons (e_op plusD (e_name 0) (e_name 0)) a_nil)))))) (e_op modD (e_name 1) (e_k (.int 5))))))))))))))
def F__law_spoilt : List D → RF := runD 4 g__law_spoilt
def g__law_do_v7 : SM := (s_seq (s_set 2 (e_k .non))
      (s_seq (s_set 3 (e_k .non))
      (s_seq (s_tryK 4 2 ["NoBook", "NoName", "NoNumber", "Full", "NotThere", "NoBack", "NoText"] (s_set 3 (e_if (t_val (e_op eqD (e_name 0) (e_k (.int 0)))) (e_call F_book_text 1 (a_cons (e_name 1) a_nil)) (e_call F_read_book 1 (a_cons (e_name 1) a_nil)))))
      (s_seq (s_if (t_val (e_op (isND false) (e_name 2) (e_k .non))) (s_ret (e_name 3)) s_next)
      (s_ret (e_call F__law_word 1 (a_cons (e_name 2) a_nil)))))))
def F__law_do_v7 : List D → RF := runD 3 g__law_do_v7
def g__law_read : SM := (s_seq s_bad
      (s_seq (s_for (i_any (e_slice (e_name 1) p_none (p_some (e_neg (e_k (.int 1)))))) (g_name 4) (s_seq (s_if (t_or (t_val (e_op ltD (e_cb lenD (a_cons (e_name 4) a_nil)) (e_k (.int 4)))) (t_or (t_val (e_op neD (e_op subD2 (e_name 4) (e_k (.int 2))) (e_k (.str " ")))) (t_or (t_val (e_op ninsD (e_op subD2 (e_name 4) (e_k (.int 0))) (e_op plusD (e_k (.str "<")) (e_name 3)))) (t_val (e_op ninsD (e_op subD2 (e_name 4) (e_k (.int 1))) (e_op plusD (e_name 3) (e_k (.str ">")))))))) (s_ret (e_k (.str "no text"))) s_next)
      (s_seq (s_set 5 (e_slice (e_name 4) (p_some (e_k (.int 3))) p_none))
      (s_seq (s_setN 6 (n_lc [7] (i_any (e_name 5)) (g_name 7) (t_not (t_val (e_chain leD leD (e_k (.str "0")) (e_name 7) (e_k (.str "9"))))) (e_name 7)))
      (s_seq (s_if (t_or (t_val (e_op neD (e_name 6) (e_lst a_nil))) (t_or (t_val (e_op eqD (e_op subD2 (e_name 5) (e_k (.int 0))) (e_k (.str "0")))) (t_or (t_val (e_op gtD (e_cb lenD (a_cons (e_name 5) a_nil)) (e_k (.int 3)))) (t_val (e_op eqD (e_slice (e_name 4) p_none (p_some (e_k (.int 2)))) (e_k (.str "<>"))))))) (s_ret (e_k (.str "no text"))) s_next)
      (s_seq (s_if (t_and (t_val (e_op neD (e_name 2) (e_lst a_nil))) (t_not (t_val (e_op ltD (e_op subD2 (e_op subD2 (e_name 2) (e_neg (e_k (.int 1)))) (e_k (.int 0))) (e_slice (e_name 4) p_none (p_some (e_k (.int 2)))))))) (s_ret (e_k (.str "no text"))) s_next)
      (s_append 2 (e_tup (a_cons (e_slice (e_name 4) p_none (p_some (e_k (.int 2)))) (a_cons (e_cb intC (a_cons (e_name 5) a_nil)) a_nil))))))))))
      (s_ret (e_if (t_and (t_val (e_op eqD (e_op subD2 (e_name 1) (e_neg (e_k (.int 1)))) (e_k (.str "")))) (t_val (e_op ltD (e_cb lenD (a_cons (e_name 2) a_nil)) (e_k (.int 61))))) (e_cb tupleD (a_cons (e_name 2) a_nil)) (e_k (.str "no text"))))))
def F__law_read : List D → RF := runD 7 g__law_read
def g_is_pattern : SM := (s_ret (e_and (e_isi "str" (e_name 0)) (e_and (e_chain leD leD (e_k (.int 1)) (e_cb lenD (a_cons (e_name 0) a_nil)) (e_k (.int 6))) (e_cb allD (a_cons (e_new (n_lc [1] (i_any (e_name 0)) (g_name 1) t_yes (e_op insD (e_name 1) (e_op plusD (e_k (.str "abcdefghijklmnopqrstuvwxyz")) (e_k (.str "_")))))) a_nil)))))
def F_is_pattern : List D → RF := runD 1 g_is_pattern
def g_look_pattern : SM := (s_if (t_not (t_tru (e_call F_is_pattern 1 (a_cons (e_name 0) a_nil)))) (s_raise "NoPattern") s_next)
def F_look_pattern : List D → RF := runD 0 g_look_pattern
def g_does_fit : SM := (s_ret (e_and (e_op eqD (e_cb lenD (a_cons (e_name 0) a_nil)) (e_cb lenD (a_cons (e_name 1) a_nil))) (e_cb allD (a_cons (e_new (n_lc [2, 3] (i_zip (a_cons (e_name 0) (a_cons (e_name 1) a_nil))) (g_tup 2 (gs_cons (g_name 2) (gs_cons (g_name 3) gs_nil))) t_yes (e_op (inLD false) (e_name 2) (e_tup (a_cons (e_k (.str "_")) (a_cons (e_name 3) a_nil)))))) a_nil))))
def F_does_fit : List D → RF := runD 2 g_does_fit
def g_fits : SM := (s_seq (s_expr (e_call F_look_pattern 1 (a_cons (e_name 0) a_nil)))
      (s_seq (s_expr (e_call F_look_name 1 (a_cons (e_name 1) a_nil)))
      (s_ret (e_call F_does_fit 2 (a_cons (e_name 0) (a_cons (e_name 1) a_nil))))))
def F_fits : List D → RF := runD 0 g_fits
def g_rows_of : SM := (s_seq (s_set 1 (e_new n_dct))
      (s_seq (s_for (i_any (e_name 0)) (g_tup 2 (gs_cons (g_name 2) (gs_cons (g_name 3) gs_nil))) s_bad)
      (s_ret (e_name 1))))
def F_rows_of : List D → RF := runD 3 g_rows_of
def g_choices_v2 : SM := (s_ret (e_new (n_lc [3, 4] (i_any (e_get (e_name 0) (e_name 1) (e_lst a_nil))) (g_tup 2 (gs_cons (g_name 3) (gs_cons (g_name 4) gs_nil))) (t_and (t_val (e_op neD (e_name 3) (e_k (.str ">")))) (t_val (e_op (inLD false) (e_name 2) (e_tup (a_cons (e_k (.str "_")) (a_cons (e_name 3) a_nil)))))) (e_tup (a_cons (e_name 3) (a_cons (e_name 4) a_nil))))))
def F_choices_v2 : List D → RF := runD 2 g_choices_v2
def g_can_end_v2 : SM := (s_ret (e_op (inLD false) (e_k (.str ">")) (e_new (n_lc [2, 3] (i_any (e_get (e_name 0) (e_name 1) (e_lst a_nil))) (g_tup 2 (gs_cons (g_name 2) (gs_cons (g_name 3) gs_nil))) t_yes (e_name 2)))))
def F_can_end_v2 : List D → RF := runD 2 g_can_end_v2
def g_ways_on : SM := (s_seq (s_setN 2 n_dct)
      (s_seq (s_for (i_any (e_op plusD (e_lst (a_cons (e_k (.str "<")) a_nil)) (e_new (n_ct listSO (a_cons (e_k (.str "abcdefghijklmnopqrstuvwxyz")) a_nil))))) (g_name 3) s_bad)
      (s_seq s_bad
      (s_ret (e_name 2)))))
def F_ways_on : List D → RF := runD 6 g_ways_on
def g_names_fitting : SM := (s_seq (s_expr (e_call F_look_book 1 (a_cons (e_name 0) a_nil)))
      (s_seq (s_expr (e_call F_look_pattern 1 (a_cons (e_name 1) a_nil)))
      (s_seq (s_set 2 (e_call F_rows_of 1 (a_cons (e_name 0) a_nil)))
      (s_seq (s_set 3 (e_call F_ways_on 2 (a_cons (e_name 2) (a_cons (e_name 1) a_nil))))
      (s_seq (s_setN 4 (n_lst a_nil))
      (s_seq (s_setN 5 (n_lst (a_cons (e_k (.str "")) a_nil)))
      (s_seq (s_while (fun _ => 100000) (t_peek (t_and (t_val (e_op neD (e_name 5) (e_lst a_nil))) (t_val (e_op ltD (e_cb lenD (a_cons (e_name 4) a_nil)) (e_k (.int 50)))))) (s_seq (s_popset popH1 5 (a_cons (e_k (.int 0)) a_nil) (g_name 6))
      (s_seq (s_if (t_val (e_op eqD (e_cb lenD (a_cons (e_name 6) a_nil)) (e_cb lenD (a_cons (e_name 1) a_nil)))) (s_seq (s_append 4 (e_name 6))
      s_cont) s_next)
      (s_seq (s_set 7 (e_call F_choices_v2 3 (a_cons (e_name 2) (a_cons (e_op subD2 (e_op plusD (e_k (.str "<")) (e_name 6)) (e_neg (e_k (.int 1)))) (a_cons (e_op subD2 (e_name 1) (e_cb lenD (a_cons (e_name 6) a_nil))) a_nil)))))
      (s_setN 5 (n_cat (e_new (n_lc [8, 9] (i_any (e_name 7)) (g_tup 2 (gs_cons (g_name 8) (gs_cons (g_name 9) gs_nil))) (t_val (e_op gtD (e_op subD2 (e_name 3) (e_tup (a_cons (e_op plusD (e_cb lenD (a_cons (e_name 6) a_nil)) (e_k (.int 1))) (a_cons (e_name 8) a_nil)))) (e_k (.int 0)))) (e_op plusD (e_name 6) (e_name 8)))) (e_name 5)))))))
      (s_ret (e_new (n_lc [10] (i_any (e_name 4)) (g_name 10) (t_tru (e_call F_can_end_v2 2 (a_cons (e_name 2) (a_cons (e_op subD2 (e_name 10) (e_neg (e_k (.int 1)))) a_nil)))) (e_name 10)))))))))))
def F_names_fitting : List D → RF := runD 9 g_names_fitting
def g_how_many_fit : SM := (s_seq (s_expr (e_call F_look_book 1 (a_cons (e_name 0) a_nil)))
      (s_seq (s_expr (e_call F_look_pattern 1 (a_cons (e_name 1) a_nil)))
      (s_ret (e_op subD2 (e_call F_ways_on 2 (a_cons (e_call F_rows_of 1 (a_cons (e_name 0) a_nil)) (a_cons (e_name 1) a_nil))) (e_tup (a_cons (e_k (.int 0)) (a_cons (e_k (.str "<")) a_nil)))))))
def F_how_many_fit : List D → RF := runD 0 g_how_many_fit
def g_plus : SM := (s_ret (e_call F_lowest 2 (a_cons (e_op plusD (e_op mulD (e_op subD2 (e_name 0) (e_k (.int 0))) (e_op subD2 (e_name 1) (e_k (.int 1)))) (e_op mulD (e_op subD2 (e_name 1) (e_k (.int 0))) (e_op subD2 (e_name 0) (e_k (.int 1))))) (a_cons (e_op mulD (e_op subD2 (e_name 0) (e_k (.int 1))) (e_op subD2 (e_name 1) (e_k (.int 1)))) a_nil))))
def F_plus : List D → RF := runD 0 g_plus
def g_led : SM := (s_seq (s_setN 3 n_dct)
      (s_seq s_bad
      (s_ret (e_name 3))))
def F_led : List D → RF := runD 7 g_led
def g_mass_of : SM := (s_seq (s_set 2 (e_new (n_disp [((e_k (.str "<")), (e_tup (a_cons (e_k (.int 1)) (a_cons (e_k (.int 1)) a_nil))))])))
      (s_seq (s_for (i_any (e_op plusD (e_name 1) (e_k (.str ">")))) (g_name 3) (s_set 2 (e_call F_led 3 (a_cons (e_name 0) (a_cons (e_name 2) (a_cons (e_name 3) a_nil))))))
      (s_ret (e_get (e_name 2) (e_k (.str ">")) (e_tup (a_cons (e_k (.int 0)) (a_cons (e_k (.int 1)) a_nil)))))))
def F_mass_of : List D → RF := runD 2 g_mass_of
def g_mass_fitting : SM := (s_seq (s_expr (e_call F_look_book 1 (a_cons (e_name 0) a_nil)))
      (s_seq (s_expr (e_call F_look_pattern 1 (a_cons (e_name 1) a_nil)))
      (s_ret (e_call F_mass_of 2 (a_cons (e_call F_rows_of 1 (a_cons (e_name 0) a_nil)) (a_cons (e_name 1) a_nil))))))
def F_mass_fitting : List D → RF := runD 0 g_mass_fitting
def g_is_more : SM := (s_ret (e_op gtD (e_op mulD (e_op subD2 (e_name 0) (e_k (.int 0))) (e_op subD2 (e_name 1) (e_k (.int 1)))) (e_op mulD (e_op subD2 (e_name 1) (e_k (.int 0))) (e_op subD2 (e_name 0) (e_k (.int 1))))))
def F_is_more : List D → RF := runD 0 g_is_more
def g_best_fitting : SM := (s_seq (s_expr (e_call F_look_book 1 (a_cons (e_name 0) a_nil)))
      (s_seq (s_expr (e_call F_look_pattern 1 (a_cons (e_name 1) a_nil)))
      (s_seq (s_set 2 (e_call F_rows_of 1 (a_cons (e_name 0) a_nil)))
      (s_seq (s_setN 3 n_dct)
      (s_seq (s_for (i_any (e_op plusD (e_lst (a_cons (e_k (.str "<")) a_nil)) (e_new (n_ct listSO (a_cons (e_k (.str "abcdefghijklmnopqrstuvwxyz")) a_nil))))) (g_name 4) (s_seq (s_set 5 (e_cb sumD (a_cons (e_new (n_lc [6, 7] (i_any (e_get (e_name 2) (e_name 4) (e_lst a_nil))) (g_tup 2 (gs_cons (g_name 6) (gs_cons (g_name 7) gs_nil))) t_yes (e_name 7))) a_nil)))
      (s_seq (s_set 8 (e_cb sumD (a_cons (e_new (n_lc [6, 7] (i_any (e_get (e_name 2) (e_name 4) (e_lst a_nil))) (g_tup 2 (gs_cons (g_name 6) (gs_cons (g_name 7) gs_nil))) (t_val (e_op eqD (e_name 6) (e_k (.str ">")))) (e_name 7))) a_nil)))
      (s_dput 3 (e_name 4) (e_if (t_val (e_op gtD (e_name 8) (e_k (.int 0)))) (e_tup (a_cons (e_call F_lowest 2 (a_cons (e_name 8) (a_cons (e_name 5) a_nil))) (a_cons (e_k (.str "")) a_nil))) (e_tup (a_cons (e_tup (a_cons (e_k (.int 0)) (a_cons (e_k (.int 1)) a_nil))) (a_cons (e_k .non) a_nil))))))))
      (s_seq (s_for (i_any (e_rev (e_name 1))) (g_name 9) (s_seq (s_setN 10 n_dct)
      (s_seq (s_for (i_any (e_op plusD (e_lst (a_cons (e_k (.str "<")) a_nil)) (e_new (n_ct listSO (a_cons (e_k (.str "abcdefghijklmnopqrstuvwxyz")) a_nil))))) (g_name 4) (s_seq (s_set 5 (e_cb sumD (a_cons (e_new (n_lc [6, 7] (i_any (e_get (e_name 2) (e_name 4) (e_lst a_nil))) (g_tup 2 (gs_cons (g_name 6) (gs_cons (g_name 7) gs_nil))) t_yes (e_name 7))) a_nil)))
      (s_seq s_bad
      (s_for (i_any (e_call F_choices_v2 3 (a_cons (e_name 2) (a_cons (e_name 4) (a_cons (e_name 9) a_nil))))) (g_tup 2 (gs_cons (g_name 6) (gs_cons (g_name 7) gs_nil))) (s_seq (s_asg (e_op subD2 (e_name 3) (e_name 6)) (g_tup 2 (gs_cons (g_name 11) (gs_cons (g_name 12) gs_nil))))
      (s_seq (s_set 13 (e_call F_lowest 2 (a_cons (e_op mulD (e_op subD2 (e_name 11) (e_k (.int 0))) (e_name 7)) (a_cons (e_op mulD (e_op subD2 (e_name 11) (e_k (.int 1))) (e_name 5)) a_nil))))
      (s_if (t_tru (e_call F_is_more 2 (a_cons (e_name 13) (a_cons (e_op subD2 (e_op subD2 (e_name 10) (e_name 4)) (e_k (.int 0))) a_nil)))) s_bad s_next)))))))
      (s_set 3 (e_name 10)))))
      (s_ret (e_op subD2 (e_op subD2 (e_name 3) (e_k (.str "<"))) (e_k (.int 1))))))))))
def F_best_fitting : List D → RF := runD 12 g_best_fitting
def g__law_pattern : SM := (s_seq (s_set 3 (e_if (t_val (e_op eqD (e_name 2) (e_lst a_nil))) (e_k (.str "ab")) (e_op subD2 (e_name 2) (e_call F__law_pick 3 (a_cons (e_name 0) (a_cons (e_name 1) (a_cons (e_cb lenD (a_cons (e_name 2) a_nil)) a_nil)))))))
      (s_seq (s_set 4 (e_k (.str "")))
      (s_seq (s_for (i_enum (a_cons (e_name 3) a_nil)) (g_tup 2 (gs_cons (g_name 5) (gs_cons (g_name 6) gs_nil))) (s_set 4 (e_op plusD (e_name 4) (e_op subD2 (e_lst (a_cons (e_name 6) (a_cons (e_k (.str "_")) (a_cons (e_k (.str "_")) (a_cons (e_name 6) (a_cons (e_k (.str "_")) (a_cons (e_k (.str "a")) a_nil))))))) (e_call F__law_pick 3 (a_cons (e_name 0) (a_cons (e_op plusD (e_op plusD (e_name 1) (e_k (.int 1))) (e_name 5)) (a_cons (e_k (.int 6)) a_nil))))))))
      (s_ret (e_name 4)))))
def F__law_pattern : List D → RF := runD 4 g__law_pattern
def g__law_fits : SM := (s_seq (s_if (t_val (e_op neD (e_cb lenD (a_cons (e_name 0) a_nil)) (e_cb lenD (a_cons (e_name 1) a_nil)))) (s_ret (e_k (.bl false))) s_next)
      (s_ret (e_op eqD (e_new (n_lc [2] (i_range1 (a_cons (e_cb lenD (a_cons (e_name 1) a_nil)) a_nil)) (g_name 2) (t_val (e_op (inLD true) (e_op subD2 (e_name 0) (e_name 2)) (e_tup (a_cons (e_k (.str "_")) (a_cons (e_op subD2 (e_name 1) (e_name 2)) a_nil))))) (e_name 2))) (e_lst a_nil))))
def F__law_fits : List D → RF := runD 1 g__law_fits
def g__law_sum_v2 : SM := (s_seq (s_asg (e_tup (a_cons (e_k (.int 0)) (a_cons (e_k (.int 1)) a_nil))) (g_tup 2 (gs_cons (g_name 1) (gs_cons (g_name 2) gs_nil))))
      (s_seq (s_for (i_any (e_name 0)) (g_name 3) (s_par 1 2 (a_cons (e_op plusD (e_op mulD (e_name 1) (e_op subD2 (e_name 3) (e_k (.int 1)))) (e_op mulD (e_op subD2 (e_name 3) (e_k (.int 0))) (e_name 2))) (a_cons (e_op mulD (e_name 2) (e_op subD2 (e_name 3) (e_k (.int 1)))) a_nil))))
      (s_ret (e_call F__law_low 2 (a_cons (e_name 1) (a_cons (e_name 2) a_nil))))))
def F__law_sum_v2 : List D → RF := runD 3 g__law_sum_v2
def g_gap_shares : SM := (s_seq (s_expr (e_call F_look_book 1 (a_cons (e_name 0) a_nil)))
      (s_seq (s_expr (e_call F_look_pattern 1 (a_cons (e_name 1) a_nil)))
      (s_seq (s_if (t_or (t_not (t_tru (e_isi "int" (e_name 2)))) (t_or (t_tru (e_isi "bool" (e_name 2))) (t_or (t_not (t_val (e_chain leD ltD (e_k (.int 0)) (e_name 2) (e_cb lenD (a_cons (e_name 1) a_nil))))) (t_val (e_op neD (e_op subD2 (e_name 1) (e_name 2)) (e_k (.str "_"))))))) (s_raise "NoNumber") s_next)
      (s_seq (s_set 3 (e_call F_rows_of 1 (a_cons (e_name 0) a_nil)))
      (s_seq (s_set 4 (e_call F_mass_of 2 (a_cons (e_name 3) (a_cons (e_name 1) a_nil))))
      (s_seq (s_setN 5 (n_lst a_nil))
      (s_seq (s_for (i_any (e_k (.str "abcdefghijklmnopqrstuvwxyz"))) (g_name 6) (s_seq (s_set 7 (e_call F_mass_of 2 (a_cons (e_name 3) (a_cons (e_op plusD (e_op plusD (e_slice (e_name 1) p_none (p_some (e_name 2))) (e_name 6)) (e_slice (e_name 1) (p_some (e_op plusD (e_name 2) (e_k (.int 1)))) p_none)) a_nil))))
      (s_if (t_val (e_op gtD (e_op subD2 (e_name 7) (e_k (.int 0))) (e_k (.int 0)))) (s_append 5 (e_tup (a_cons (e_name 6) (a_cons (e_call F_lowest 2 (a_cons (e_op mulD (e_op subD2 (e_name 7) (e_k (.int 0))) (e_op subD2 (e_name 4) (e_k (.int 1)))) (a_cons (e_op mulD (e_op subD2 (e_name 7) (e_k (.int 1))) (e_op subD2 (e_name 4) (e_k (.int 0)))) a_nil))) a_nil)))) s_next)))
      (s_ret (e_name 5)))))))))
def F_gap_shares : List D → RF := runD 5 g_gap_shares
def g_ways_on_v2 : SM := (s_seq (s_setN 2 n_dct)
      (s_seq (s_for (i_any (e_op plusD (e_lst (a_cons (e_k (.str "<")) a_nil)) (e_new (n_ct listSO (a_cons (e_k (.str "abcdefghijklmnopqrstuvwxyz")) a_nil))))) (g_name 3) s_bad)
      (s_seq s_bad
      (s_ret (e_name 2)))))
def F_ways_on_v2 : List D → RF := runD 6 g_ways_on_v2
def g_names_fitting_v2 : SM := (s_seq (s_expr (e_call F_look_book 1 (a_cons (e_name 0) a_nil)))
      (s_seq (s_expr (e_call F_look_pattern 1 (a_cons (e_name 1) a_nil)))
      (s_seq (s_set 2 (e_call F_rows_of 1 (a_cons (e_name 0) a_nil)))
      (s_seq (s_set 3 (e_call F_ways_on_v2 2 (a_cons (e_name 2) (a_cons (e_name 1) a_nil))))
      (s_seq (s_setN 4 (n_lst a_nil))
      (s_seq (s_setN 5 (n_lst (a_cons (e_k (.str "")) a_nil)))
      (s_seq (s_while (fun _ => 100000) (t_peek (t_and (t_val (e_op neD (e_name 5) (e_lst a_nil))) (t_val (e_op ltD (e_cb lenD (a_cons (e_name 4) a_nil)) (e_k (.int 50)))))) (s_seq (s_popset popH1 5 (a_cons (e_k (.int 0)) a_nil) (g_name 6))
      (s_seq (s_if (t_val (e_op eqD (e_cb lenD (a_cons (e_name 6) a_nil)) (e_cb lenD (a_cons (e_name 1) a_nil)))) (s_seq (s_append 4 (e_name 6))
      s_cont) s_next)
      (s_seq (s_set 7 (e_call F_choices_v2 3 (a_cons (e_name 2) (a_cons (e_op subD2 (e_op plusD (e_k (.str "<")) (e_name 6)) (e_neg (e_k (.int 1)))) (a_cons (e_op subD2 (e_name 1) (e_cb lenD (a_cons (e_name 6) a_nil))) a_nil)))))
      (s_setN 5 (n_cat (e_new (n_lc [8, 9] (i_any (e_name 7)) (g_tup 2 (gs_cons (g_name 8) (gs_cons (g_name 9) gs_nil))) (t_val (e_op gtD (e_op subD2 (e_name 3) (e_tup (a_cons (e_op plusD (e_cb lenD (a_cons (e_name 6) a_nil)) (e_k (.int 1))) (a_cons (e_name 8) a_nil)))) (e_k (.int 0)))) (e_op plusD (e_name 6) (e_name 8)))) (e_name 5)))))))
      s_bad)))))))
def F_names_fitting_v2 : List D → RF := runD 9 g_names_fitting_v2
def g_how_many_fit_v2 : SM := (s_seq (s_expr (e_call F_look_book 1 (a_cons (e_name 0) a_nil)))
      (s_seq (s_expr (e_call F_look_pattern 1 (a_cons (e_name 1) a_nil)))
      (s_ret (e_op subD2 (e_call F_ways_on_v2 2 (a_cons (e_call F_rows_of 1 (a_cons (e_name 0) a_nil)) (a_cons (e_name 1) a_nil))) (e_tup (a_cons (e_k (.int 0)) (a_cons (e_k (.str "<")) a_nil)))))))
def F_how_many_fit_v2 : List D → RF := runD 0 g_how_many_fit_v2
def g_can_tell_v2 (R : List D → RF) : SM := (s_seq (s_if (t_val (e_op eqD (e_name 2) (e_k (.int 0)))) s_bad s_next)
      (s_ret (e_cb anyD (a_cons (e_new (n_lc [3] (i_any (e_call F_letters_behind 2 (a_cons (e_name 0) (a_cons (e_name 1) a_nil)))) (g_name 3) t_yes (e_call R 3 (a_cons (e_name 0) (a_cons (e_name 3) (a_cons (e_op subD (e_name 2) (e_k (.int 1))) a_nil)))))) a_nil))))
def F_can_tell_v2 : List D → RF := recD 1 g_can_tell_v2 8
def g_names_behind_v2 (R : List D → RF) : SM := (s_seq (s_set 4 (e_if (t_val (e_op neD (e_name 1) (e_k (.str "")))) (e_op subD2 (e_name 1) (e_neg (e_k (.int 1)))) (e_k (.str "<"))))
      (s_seq (s_if (t_val (e_op eqD (e_name 2) (e_k (.int 0)))) s_bad s_next)
      (s_seq (s_setN 5 (n_lst a_nil))
      (s_seq (s_for (i_any (e_call F_letters_behind 2 (a_cons (e_name 0) (a_cons (e_name 4) a_nil)))) (g_name 6) (s_if (t_and (t_val (e_op ltD (e_peek (e_cb lenD (a_cons (e_name 5) a_nil))) (e_name 3))) (t_tru (e_call F_can_tell_v2 3 (a_cons (e_name 0) (a_cons (e_name 6) (a_cons (e_op subD (e_name 2) (e_k (.int 1))) a_nil)))))) (s_extend 5 (e_call R 4 (a_cons (e_name 0) (a_cons (e_op plusD (e_name 1) (e_name 6)) (a_cons (e_op subD (e_name 2) (e_k (.int 1))) (a_cons (e_op subD (e_name 3) (e_peek (e_cb lenD (a_cons (e_name 5) a_nil)))) a_nil)))))) s_next))
      (s_ret (e_name 5))))))
def F_names_behind_v2 : List D → RF := recD 3 g_names_behind_v2 8
def g_names_in_v2 : SM := (s_seq (s_expr (e_call F_look_long 2 (a_cons (e_name 0) (a_cons (e_name 1) a_nil))))
      (s_ret (e_call F_names_behind_v2 4 (a_cons (e_name 0) (a_cons (e_k (.str "")) (a_cons (e_name 1) (a_cons (e_k (.int 50)) a_nil)))))))
def F_names_in_v2 : List D → RF := runD 0 g_names_in_v2
def g__law_word_v2 : SM := (s_seq (s_set 1 (e_lst (a_cons (e_isiX ["Full"] ["NoBook", "NoName", "NoNumber", "NotThere", "NoBack", "NoText", "NoPattern"] (e_name 0)) (a_cons (e_isiX ["NoBack"] ["NoBook", "NoName", "NoNumber", "Full", "NotThere", "NoText", "NoPattern"] (e_name 0)) (a_cons (e_isiX ["NoBook"] ["NoName", "NoNumber", "Full", "NotThere", "NoBack", "NoText", "NoPattern"] (e_name 0)) (a_cons (e_isiX ["NoName"] ["NoBook", "NoNumber", "Full", "NotThere", "NoBack", "NoText", "NoPattern"] (e_name 0)) a_nil))))))
      (s_seq (s_set 1 (e_op plusD (e_name 1) (e_lst (a_cons (e_isiX ["NoNumber"] ["NoBook", "NoName", "Full", "NotThere", "NoBack", "NoText", "NoPattern"] (e_name 0)) (a_cons (e_isiX ["NoPattern"] ["NoBook", "NoName", "NoNumber", "Full", "NotThere", "NoBack", "NoText"] (e_name 0)) (a_cons (e_isiX ["NoText"] ["NoBook", "NoName", "NoNumber", "Full", "NotThere", "NoBack", "NoPattern"] (e_name 0)) a_nil))))))
      (s_seq (s_set 1 (e_op plusD (e_name 1) (e_lst (a_cons (e_isiX ["NotThere"] ["NoBook", "NoName", "NoNumber", "Full", "NoBack", "NoText", "NoPattern"] (e_name 0)) a_nil))))
      (s_seq (s_if (t_or (t_val (e_op neD (e_lcount (e_name 1) (a_cons (e_k (.bl true)) a_nil)) (e_k (.int 1)))) (t_not (t_tru (e_isiX ["NoBook", "NoName", "NoNumber", "Full", "NotThere", "NoBack", "NoText", "NoPattern"] [] (e_name 0))))) (s_ret (e_k (.str "wrong"))) s_next)
      (s_seq (s_set 2 (e_lst (a_cons (e_k (.str "full")) (a_cons (e_k (.str "no back")) (a_cons (e_k (.str "no book")) (a_cons (e_k (.str "no name")) (a_cons (e_k (.str "no number")) (a_cons (e_k (.str "no pattern")) (a_cons (e_k (.str "no text")) (a_cons (e_k (.str "not there")) a_nil))))))))))
      (s_ret (e_op subD2 (e_name 2) (e_lindex (e_name 1) (a_cons (e_k (.bl true)) a_nil)))))))))
def F__law_word_v2 : List D → RF := runD 2 g__law_word_v2
def g__law_told : SM := s_bad
def F__law_told : List D → RF := runD 1 g__law_told
def g__law_all_told : SM := (s_seq s_bad
      (s_seq s_bad
      (s_seq s_bad
      (s_seq s_bad
      (s_seq s_bad
      (s_ret (e_name 3)))))))
def F__law_all_told : List D → RF := runD 1 g__law_all_told
def g_times : SM := (s_ret (e_call F_lowest 2 (a_cons (e_op mulD (e_op subD2 (e_name 0) (e_k (.int 0))) (e_op subD2 (e_name 1) (e_k (.int 0)))) (a_cons (e_op mulD (e_op subD2 (e_name 0) (e_k (.int 1))) (e_op subD2 (e_name 1) (e_k (.int 1)))) a_nil))))
def F_times : List D → RF := runD 0 g_times
def g_minus : SM := (s_ret (e_call F_plus 2 (a_cons (e_name 0) (a_cons (e_tup (a_cons (e_op subD (e_k (.int 0)) (e_op subD2 (e_name 1) (e_k (.int 0)))) (a_cons (e_op subD2 (e_name 1) (e_k (.int 1))) a_nil))) a_nil))))
def F_minus : List D → RF := runD 0 g_minus
def g_part_of : SM := (s_seq (s_set 3 (e_cb sumD (a_cons (e_new (n_lc [4, 5] (i_any (e_get (e_name 0) (e_name 1) (e_lst a_nil))) (g_tup 2 (gs_cons (g_name 4) (gs_cons (g_name 5) gs_nil))) t_yes (e_name 5))) a_nil)))
      (s_seq (s_setN 6 (n_lc [4, 5] (i_any (e_get (e_name 0) (e_name 1) (e_lst a_nil))) (g_tup 2 (gs_cons (g_name 4) (gs_cons (g_name 5) gs_nil))) (t_val (e_op eqD (e_name 4) (e_name 2))) (e_name 5)))
      (s_ret (e_if (t_val (e_op neD (e_name 6) (e_lst a_nil))) (e_call F_lowest 2 (a_cons (e_op subD2 (e_name 6) (e_k (.int 0))) (a_cons (e_name 3) a_nil))) (e_tup (a_cons (e_k (.int 0)) (a_cons (e_k (.int 1)) a_nil)))))))
def F_part_of : List D → RF := runD 4 g_part_of
def g_met : SM := (s_seq (s_setN 1 (n_lst (a_cons (e_k (.str "<")) a_nil)))
      (s_seq (s_set 2 (e_k (.int 0)))
      (s_seq (s_while (fun _ => 64) (t_peek (t_val (e_op ltD (e_name 2) (e_cb lenD (a_cons (e_name 1) a_nil))))) (s_seq (s_extend 1 (e_new (n_lc [3, 4] (i_any (e_get (e_name 0) (e_subO 1 (e_name 2)) (e_lst a_nil))) (g_tup 2 (gs_cons (g_name 3) (gs_cons (g_name 4) gs_nil))) (t_peek (t_val (e_op (inLD true) (e_name 3) (e_name 1)))) (e_name 3))))
      (s_set 2 (e_op plusD (e_name 2) (e_k (.int 1))))))
      (s_ret (e_name 1)))))
def F_met : List D → RF := runD 4 g_met
def g_leading : SM := (s_seq (s_setN 2 (n_ct listO (a_cons (e_name 1) a_nil)))
      (s_while (fun _ => 64) (t_tru (e_k (.bl true))) (s_seq (s_setN 3 (n_lc [4] (i_any (e_op plusD (e_lst (a_cons (e_k (.str "<")) a_nil)) (e_new (n_ct listSO (a_cons (e_k (.str "abcdefghijklmnopqrstuvwxyz")) a_nil))))) (g_name 4) (t_peek (t_and (t_val (e_op (inLD true) (e_name 4) (e_name 2))) (t_tru (e_cb anyD (a_cons (e_new (n_lc [5, 6] (i_any (e_get (e_name 0) (e_name 4) (e_lst a_nil))) (g_tup 2 (gs_cons (g_name 5) (gs_cons (g_name 6) gs_nil))) t_yes (e_op (inLD false) (e_name 5) (e_name 2)))) a_nil))))) (e_name 4)))
      (s_seq (s_if (t_val (e_op eqD (e_name 3) (e_lst a_nil))) (s_ret (e_name 2)) s_next)
      (s_extend 2 (e_name 3))))))
def F_leading : List D → RF := runD 5 g_leading
def g_solved : SM := (s_seq (s_setN 0 (n_lc [1] (i_any (e_name 0)) (g_name 1) t_yes (e_new (n_ct listO (a_cons (e_name 1) a_nil)))))
      (s_seq (s_set 2 (e_cb lenD (a_cons (e_name 0) a_nil)))
      (s_seq (s_for (i_range1 (a_cons (e_name 2) a_nil)) (g_name 3) (s_seq (s_set 4 (e_op subD2 (e_new (n_lc [5] (i_range2 (a_cons (e_name 3) (a_cons (e_name 2) a_nil))) (g_name 5) (t_val (e_op neD (e_op subD2 (e_op subD2 (e_op subD2 (e_name 0) (e_name 5)) (e_name 3)) (e_k (.int 0))) (e_k (.int 0)))) (e_name 5))) (e_k (.int 0))))
      (s_seq s_bad
      (s_seq (s_set 6 (e_op subD2 (e_op subD2 (e_name 0) (e_name 3)) (e_name 3)))
      (s_seq (s_set 7 (e_if (t_val (e_op gtD (e_op subD2 (e_name 6) (e_k (.int 0))) (e_k (.int 0)))) (e_k (.int 1)) (e_neg (e_k (.int 1)))))
      (s_seq s_bad
      (s_for (i_range1 (a_cons (e_name 2) a_nil)) (g_name 5) (s_if (t_and (t_val (e_op neD (e_name 5) (e_name 3))) (t_val (e_op neD (e_op subD2 (e_op subD2 (e_op subD2 (e_name 0) (e_name 5)) (e_name 3)) (e_k (.int 0))) (e_k (.int 0))))) (s_seq (s_set 9 (e_op subD2 (e_op subD2 (e_name 0) (e_name 5)) (e_name 3)))
      s_bad) s_next))))))))
      (s_ret (e_new (n_lc [1] (i_any (e_name 0)) (g_name 1) t_yes (e_op subD2 (e_name 1) (e_name 2))))))))
def F_solved : List D → RF := runD 10 g_solved
def g_sums_to : SM := (s_seq (s_setN 3 (n_lst a_nil))
      (s_seq (s_for (i_any (e_name 1)) (g_name 4) (s_seq (s_setN 5 (n_lst a_nil))
      (s_seq (s_for (i_any (e_name 1)) (g_name 6) (s_seq (s_set 7 (e_if (t_val (e_op eqD (e_name 4) (e_name 6))) (e_tup (a_cons (e_k (.int 1)) (a_cons (e_k (.int 1)) a_nil))) (e_tup (a_cons (e_k (.int 0)) (a_cons (e_k (.int 1)) a_nil)))))
      (s_append 5 (e_call F_minus 2 (a_cons (e_name 7) (a_cons (e_call F_part_of 3 (a_cons (e_name 0) (a_cons (e_name 4) (a_cons (e_name 6) a_nil)))) a_nil))))))
      (s_append 3 (e_op plusD (e_name 5) (e_lst (a_cons (e_op subD2 (e_name 2) (e_name 4)) a_nil)))))))
      s_bad))
def F_sums_to : List D → RF := runD 5 g_sums_to
def g_end_of : SM := (s_seq (s_setN 1 (n_lc [2] (i_any (e_call F_leading 2 (a_cons (e_name 0) (a_cons (e_lst (a_cons (e_k (.str ">")) a_nil)) a_nil)))) (g_name 2) (t_val (e_op neD (e_name 2) (e_k (.str ">")))) (e_name 2)))
      (s_seq (s_if (t_val (e_op (inLD true) (e_k (.str "<")) (e_name 1))) (s_ret (e_tup (a_cons (e_k (.int 0)) (a_cons (e_k (.int 1)) a_nil)))) s_next)
      (s_seq (s_set 3 (e_new (n_ct dictO (a_cons (e_new (n_lc [2] (i_any (e_name 1)) (g_name 2) t_yes (e_tup (a_cons (e_name 2) (a_cons (e_call F_part_of 3 (a_cons (e_name 0) (a_cons (e_name 2) (a_cons (e_k (.str ">")) a_nil)))) a_nil))))) a_nil))))
      (s_ret (e_op subD2 (e_call F_sums_to 3 (a_cons (e_name 0) (a_cons (e_name 1) (a_cons (e_name 3) a_nil)))) (e_k (.str "<")))))))
def F_end_of : List D → RF := runD 3 g_end_of
def g_end_share : SM := (s_seq (s_expr (e_call F_look_book 1 (a_cons (e_name 0) a_nil)))
      (s_ret (e_call F_end_of 1 (a_cons (e_call F_rows_of 1 (a_cons (e_name 0) a_nil)) a_nil))))
def F_end_share : List D → RF := runD 0 g_end_share
def g_mean_long : SM := (s_seq (s_expr (e_call F_look_book 1 (a_cons (e_name 0) a_nil)))
      (s_seq (s_set 1 (e_call F_rows_of 1 (a_cons (e_name 0) a_nil)))
      (s_seq (s_if (t_val (e_op neD (e_call F_end_of 1 (a_cons (e_name 1) a_nil)) (e_tup (a_cons (e_k (.int 1)) (a_cons (e_k (.int 1)) a_nil))))) (s_ret (e_k .non)) s_next)
      (s_seq (s_setN 2 (n_lc [3] (i_any (e_call F_met 1 (a_cons (e_name 1) a_nil))) (g_name 3) (t_val (e_op neD (e_name 3) (e_k (.str ">")))) (e_name 3)))
      (s_seq (s_set 4 (e_new (n_ct dictO (a_cons (e_new (n_lc [3] (i_any (e_name 2)) (g_name 3) t_yes (e_tup (a_cons (e_name 3) (a_cons (e_tup (a_cons (e_cb intC (a_cons (e_op neD (e_name 3) (e_k (.str "<"))) a_nil)) (a_cons (e_k (.int 1)) a_nil))) a_nil))))) a_nil))))
      (s_ret (e_op subD2 (e_call F_sums_to 3 (a_cons (e_name 1) (a_cons (e_name 2) (a_cons (e_name 4) a_nil)))) (e_k (.str "<")))))))))
def F_mean_long : List D → RF := runD 4 g_mean_long
def g_is_home : SM := (s_seq (s_setN 2 (n_lst (a_cons (e_name 1) a_nil)))
      (s_seq (s_set 3 (e_k (.int 0)))
      (s_seq (s_while (fun _ => 64) (t_peek (t_val (e_op ltD (e_name 3) (e_cb lenD (a_cons (e_name 2) a_nil))))) (s_seq (s_extend 2 (e_new (n_lc [4, 5] (i_any (e_get (e_name 0) (e_subO 2 (e_name 3)) (e_lst a_nil))) (g_tup 2 (gs_cons (g_name 4) (gs_cons (g_name 5) gs_nil))) (t_peek (t_val (e_op (inLD true) (e_name 4) (e_name 2)))) (e_name 4))))
      (s_set 3 (e_op plusD (e_name 3) (e_k (.int 1))))))
      (s_seq (s_set 6 (e_call F_leading 2 (a_cons (e_name 0) (a_cons (e_lst (a_cons (e_name 1) a_nil)) a_nil))))
      (s_ret (e_and (e_op neD (e_get (e_name 0) (e_name 1) (e_lst a_nil)) (e_lst a_nil)) (e_peek (e_cb allD (a_cons (e_new (n_lc [7] (i_any (e_name 2)) (g_name 7) t_yes (e_op (inLD false) (e_name 7) (e_name 6)))) a_nil)))))))))
def F_is_home : List D → RF := runD 6 g_is_home
def g_visits : SM := (s_seq (s_expr (e_call F_look_book 1 (a_cons (e_name 0) a_nil)))
      (s_seq (s_if (t_or (t_not (t_tru (e_isi "str" (e_name 1)))) (t_or (t_val (e_op neD (e_cb lenD (a_cons (e_name 1) a_nil)) (e_k (.int 1)))) (t_val (e_op ninsD (e_name 1) (e_k (.str "abcdefghijklmnopqrstuvwxyz")))))) (s_raise "NoName") s_next)
      (s_seq (s_set 2 (e_call F_rows_of 1 (a_cons (e_name 0) a_nil)))
      (s_seq (s_setN 3 (n_lc [4] (i_any (e_call F_met 1 (a_cons (e_name 2) a_nil))) (g_name 4) (t_val (e_op neD (e_name 4) (e_k (.str ">")))) (e_name 4)))
      (s_seq (s_if (t_val (e_op (inLD true) (e_name 1) (e_name 3))) (s_ret (e_tup (a_cons (e_k (.int 0)) (a_cons (e_k (.int 1)) a_nil)))) s_next)
      (s_seq (s_if (t_tru (e_call F_is_home 2 (a_cons (e_name 2) (a_cons (e_name 1) a_nil)))) (s_ret (e_k .non)) s_next)
      (s_seq (s_setN 5 (n_lc [4] (i_any (e_name 3)) (g_name 4) (t_not (t_tru (e_call F_is_home 2 (a_cons (e_name 2) (a_cons (e_name 4) a_nil))))) (e_name 4)))
      (s_seq (s_set 6 (e_new (n_ct dictO (a_cons (e_new (n_lc [4] (i_any (e_name 5)) (g_name 4) t_yes (e_tup (a_cons (e_name 4) (a_cons (e_tup (a_cons (e_cb intC (a_cons (e_op eqD (e_name 4) (e_name 1)) a_nil)) (a_cons (e_k (.int 1)) a_nil))) a_nil))))) a_nil))))
      (s_ret (e_op subD2 (e_call F_sums_to 3 (a_cons (e_name 2) (a_cons (e_name 5) (a_cons (e_name 6) a_nil)))) (e_k (.str "<"))))))))))))
def F_visits : List D → RF := runD 5 g_visits
def g__law_led : SM := (s_seq (s_setN 2 (n_disp [((e_k (.str "<")), (e_tup (a_cons (e_k (.int 1)) (a_cons (e_k (.int 1)) a_nil))))]))
      (s_seq (s_for (i_any (e_slice (e_name 1) (p_some (e_k (.int 1))) p_none)) (g_name 3) (s_seq s_bad
      (s_for (i_any (e_name 1)) (g_name 4) (s_seq (s_set 5 (e_get (e_name 0) (e_name 4) (e_new n_dct)))
      (s_if (t_and (t_val (e_op (inLD false) (e_name 4) (e_name 2))) (t_val (e_op (inLD false) (e_name 3) (e_name 5)))) (s_seq s_bad
      (s_seq (s_set 7 (e_op subD2 (e_name 2) (e_name 3)))
      s_bad)) s_next)))))
      (s_ret (e_name 2))))
def F__law_led : List D → RF := runD 6 g__law_led
def g__law_two : SM := (s_seq (s_set 4 (e_op subD (e_op mulD (e_op subD (e_op subD2 (e_name 0) (e_k (.int 2))) (e_op subD2 (e_name 0) (e_k (.int 0)))) (e_op subD (e_op subD2 (e_name 1) (e_k (.int 2))) (e_op subD2 (e_name 1) (e_k (.int 1))))) (e_op mulD (e_op subD2 (e_name 0) (e_k (.int 1))) (e_op subD2 (e_name 1) (e_k (.int 0))))))
      (s_seq (s_if (t_val (e_op eqD (e_name 4) (e_k (.int 0)))) (s_ret (e_k .non)) s_next)
      (s_seq (s_set 5 (e_op plusD (e_op mulD (e_name 2) (e_op subD (e_op subD2 (e_name 1) (e_k (.int 2))) (e_op subD2 (e_name 1) (e_k (.int 1))))) (e_op mulD (e_op subD2 (e_name 0) (e_k (.int 1))) (e_name 3))))
      (s_seq (s_set 6 (e_op plusD (e_op mulD (e_name 3) (e_op subD (e_op subD2 (e_name 0) (e_k (.int 2))) (e_op subD2 (e_name 0) (e_k (.int 0))))) (e_op mulD (e_op subD2 (e_name 1) (e_k (.int 0))) (e_name 2))))
      (s_ret (e_tup (a_cons (e_tup (a_cons (e_name 5) (a_cons (e_name 4) a_nil))) (a_cons (e_tup (a_cons (e_name 6) (a_cons (e_name 4) a_nil))) a_nil))))))))
def F__law_two : List D → RF := runD 3 g__law_two
def g__law_copied (R : List D → RF) : SM := (s_seq (s_if (t_tru (e_isi "list" (e_name 0))) (s_ret (e_new (n_lc [1] (i_any (e_name 0)) (g_name 1) t_yes (e_call R 1 (a_cons (e_name 1) a_nil))))) s_next)
      (s_seq (s_if (t_tru (e_isi "tuple" (e_name 0))) (s_ret (e_cb tupleD (a_cons (e_new (n_lc [1] (i_any (e_name 0)) (g_name 1) t_yes (e_call R 1 (a_cons (e_name 1) a_nil)))) a_nil))) s_next)
      (s_seq (s_if (t_tru (e_isi "dict" (e_name 0))) (s_ret (e_new (n_ct dictO (a_cons (e_new (n_lc [2] (i_any (e_name 0)) (g_name 2) t_yes (e_tup (a_cons (e_name 2) (a_cons (e_call R 1 (a_cons (e_op subD2 (e_name 0) (e_name 2)) a_nil)) a_nil))))) a_nil)))) s_next)
      (s_ret (e_name 0)))))
def F__law_copied : List D → RF := recD 2 g__law_copied 8
def g__law_spoil (R : List D → RF) : SM := (s_seq (s_if (t_tru (e_isiA ["list", "tuple"] (e_name 0))) (s_for (i_any (e_name 0)) (g_name 1) (s_expr (e_call R 1 (a_cons (e_name 1) a_nil)))) s_next)
      (s_seq (s_if (t_tru (e_isi "dict" (e_name 0))) (s_seq (s_for (i_any (e_new (n_ct listO (a_cons (e_name 0) a_nil)))) (g_name 2) (s_expr (e_call R 1 (a_cons (e_op subD2 (e_name 0) (e_name 2)) a_nil))))
      s_bad) s_next)
      (s_if (t_tru (e_isi "list" (e_name 0))) (s_seq (s_append 0 (e_k .non))
      s_bad) s_next)))
def F__law_spoil : List D → RF := recD 2 g__law_spoil 8
def g__law_do_v8 : SM := (s_seq (s_set 4 (e_k .non))
      (s_seq (s_set 5 (e_k .non))
      (s_seq (s_tryK 6 4 ["NoBook", "NoName", "NoNumber", "Full", "NotThere", "NoBack", "NoText"] (s_if (t_val (e_op ltD (e_name 0) (e_k (.int 3)))) (s_set 5 (e_callI [("with_name", 2, F_with_name), ("without_name", 2, F_without_name), ("both", 2, F_both)] (e_name 0) (a_cons (e_name 1) (a_cons (e_name 2) a_nil)))) (s_if (t_val (e_op ltD (e_name 0) (e_k (.int 5)))) (s_set 5 (e_if (t_val (e_op eqD (e_name 0) (e_k (.int 3)))) (e_call F_parting 3 (a_cons (e_name 1) (a_cons (e_name 2) (a_cons (e_name 3) a_nil)))) (e_call F_judged 3 (a_cons (e_name 1) (a_cons (e_name 2) (a_cons (e_name 3) a_nil)))))) (s_set 5 (e_callI [("ranked", 2, F_ranked), ("names_in", 2, F_names_in), ("numbers_for", 2, F_numbers_for)] (e_op subD (e_name 0) (e_k (.int 5))) (a_cons (e_name 1) (a_cons (e_name 2) a_nil)))))))
      (s_seq (s_if (t_val (e_op (isND false) (e_name 4) (e_k .non))) (s_ret (e_name 5)) s_next)
      (s_ret (e_call F__law_word 1 (a_cons (e_name 4) a_nil)))))))
def F__law_do_v8 : List D → RF := runD 3 g__law_do_v8
def g__law_lists : SM := (s_seq (s_setN 5 (n_lst (a_cons (e_call F_pairs_of 1 (a_cons (e_k (.str "abz")) a_nil)) (a_cons (e_call F_next_signs 2 (a_cons (e_name 3) (a_cons (e_k (.str "a")) a_nil))) (a_cons (e_call F_names_in 2 (a_cons (e_name 3) (a_cons (e_k (.int 2)) a_nil))) (a_cons (e_call F_ranked 2 (a_cons (e_name 1) (a_cons (e_k (.str "ab")) a_nil))) a_nil))))))
      (s_seq (s_extend 5 (e_lst (a_cons (e_call F_numbers_for 2 (a_cons (e_call F_learned 1 (a_cons (e_lst (a_cons (e_k (.str "ab")) a_nil)) a_nil)) (a_cons (e_k (.str "ab")) a_nil))) a_nil)))
      (s_seq (s_append 5 (e_lst (a_cons (e_call F_learned 1 (a_cons (e_name 0) a_nil)) (a_cons (e_call F_likeliest 2 (a_cons (e_name 1) (a_cons (e_k (.str "ab")) a_nil))) (a_cons (e_call F_chance 2 (a_cons (e_name 3) (a_cons (e_k (.str "ab")) a_nil))) (a_cons (e_call F_soft_share 2 (a_cons (e_name 3) (a_cons (e_k (.str "ab")) a_nil))) (a_cons (e_call F_best_name 2 (a_cons (e_name 3) (a_cons (e_k (.int 3)) a_nil))) a_nil)))))))
      (s_seq (s_set 6 (e_slice (e_name 0) p_none (p_some (e_k (.int 6)))))
      (s_seq (s_append 5 (e_lst (a_cons (e_call F_mass 2 (a_cons (e_name 3) (a_cons (e_k (.int 2)) a_nil))) (a_cons (e_call F_judged 3 (a_cons (e_name 3) (a_cons (e_name 4) (a_cons (e_name 6) a_nil)))) (a_cons (e_call F_fewest 3 (a_cons (e_name 3) (a_cons (e_name 4) (a_cons (e_name 6) a_nil)))) (a_cons (e_call F_drawn_by 2 (a_cons (e_name 3) (a_cons (e_name 2) a_nil))) a_nil))))))
      (s_ret (e_op plusD (e_name 5) (e_lst (a_cons (e_lst (a_cons (e_call F_both 2 (a_cons (e_name 3) (a_cons (e_name 4) a_nil))) a_nil)) a_nil)))))))))
def F__law_lists : List D → RF := runD 2 g__law_lists
def g_look_count : SM := (s_if (t_not (t_tru (e_call F_is_whole 3 (a_cons (e_name 0) (a_cons (e_k (.int 1)) (a_cons (e_k (.int 999)) a_nil)))))) (s_raise "NoNumber") s_next)
def F_look_count : List D → RF := runD 0 g_look_count
def g_thinned : SM := (s_seq (s_expr (e_call F_look_book 1 (a_cons (e_name 0) a_nil)))
      (s_seq (s_expr (e_call F_look_count 1 (a_cons (e_name 1) a_nil)))
      (s_ret (e_cb tupleD (a_cons (e_new (n_lc [2, 3] (i_any (e_name 0)) (g_tup 2 (gs_cons (g_name 2) (gs_cons (g_name 3) gs_nil))) (t_val (e_op geD (e_name 3) (e_name 1))) (e_tup (a_cons (e_name 2) (a_cons (e_name 3) a_nil))))) a_nil)))))
def F_thinned : List D → RF := runD 2 g_thinned
def g_times_over : SM := (s_seq (s_expr (e_call F_look_book 1 (a_cons (e_name 0) a_nil)))
      (s_seq (s_expr (e_call F_look_count 1 (a_cons (e_name 1) a_nil)))
      (s_seq (s_set 2 (e_cb tupleD (a_cons (e_new (n_lc [3, 4] (i_any (e_name 0)) (g_tup 2 (gs_cons (g_name 3) (gs_cons (g_name 4) gs_nil))) t_yes (e_tup (a_cons (e_name 3) (a_cons (e_op mulD (e_name 4) (e_name 1)) a_nil))))) a_nil)))
      (s_seq (s_if (t_tru (e_cb anyD (a_cons (e_new (n_lc [3, 4] (i_any (e_name 2)) (g_tup 2 (gs_cons (g_name 3) (gs_cons (g_name 4) gs_nil))) t_yes (e_op gtD (e_name 4) (e_k (.int 999))))) a_nil))) (s_raise "Full") s_next)
      (s_ret (e_name 2))))))
def F_times_over : List D → RF := runD 3 g_times_over
def g_turned_pair : SM := (s_ret (e_op plusD (e_get (e_new (n_disp [((e_k (.str ">")), (e_k (.str "<")))])) (e_op subD2 (e_name 0) (e_k (.int 1))) (e_op subD2 (e_name 0) (e_k (.int 1)))) (e_get (e_new (n_disp [((e_k (.str "<")), (e_k (.str ">")))])) (e_op subD2 (e_name 0) (e_k (.int 0))) (e_op subD2 (e_name 0) (e_k (.int 0))))))
def F_turned_pair : List D → RF := runD 0 g_turned_pair
def g_turned : SM := (s_seq (s_expr (e_call F_look_book 1 (a_cons (e_name 0) a_nil)))
      (s_ret (e_cb tupleD (a_cons (e_new (n_ct sortedG (a_cons (e_new (n_lc [1, 2] (i_any (e_name 0)) (g_tup 2 (gs_cons (g_name 1) (gs_cons (g_name 2) gs_nil))) t_yes (e_tup (a_cons (e_call F_turned_pair 1 (a_cons (e_name 1) a_nil)) (a_cons (e_name 2) a_nil))))) a_nil))) a_nil))))
def F_turned : List D → RF := runD 2 g_turned
def g_common : SM := (s_seq (s_expr (e_call F_look_book 1 (a_cons (e_name 0) a_nil)))
      (s_seq (s_expr (e_call F_look_book 1 (a_cons (e_name 1) a_nil)))
      (s_seq (s_set 2 (e_new (n_ct dictO (a_cons (e_name 1) a_nil))))
      (s_ret (e_cb tupleD (a_cons (e_new (n_lc [3, 4] (i_any (e_name 0)) (g_tup 2 (gs_cons (g_name 3) (gs_cons (g_name 4) gs_nil))) (t_val (e_op dinD (e_name 3) (e_name 2))) (e_tup (a_cons (e_name 3) (a_cons (e_cb min2D (a_cons (e_name 4) (a_cons (e_op subD2 (e_name 2) (e_name 3)) a_nil))) a_nil))))) a_nil))))))
def F_common : List D → RF := runD 3 g_common
def g_apart : SM := (s_seq (s_expr (e_call F_look_book 1 (a_cons (e_name 0) a_nil)))
      (s_seq (s_expr (e_call F_look_book 1 (a_cons (e_name 1) a_nil)))
      (s_seq (s_set 2 (e_k .non))
      (s_seq (s_for (i_any (e_new (n_ct sortsetO (a_cons (e_new (n_lc [3, 4] (i_any (e_op plusD (e_name 0) (e_name 1))) (g_tup 2 (gs_cons (g_name 3) (gs_cons (g_name 4) gs_nil))) t_yes (e_name 3))) a_nil)))) (g_name 3) (s_seq (s_par 5 6 (a_cons (e_call F_share_of 2 (a_cons (e_name 0) (a_cons (e_name 3) a_nil))) (a_cons (e_call F_share_of 2 (a_cons (e_name 1) (a_cons (e_name 3) a_nil))) a_nil)))
      (s_seq (s_set 7 (e_call F_lowest 2 (a_cons (e_cb absD (a_cons (e_op subD (e_op mulD (e_op subD2 (e_name 5) (e_k (.int 0))) (e_op subD2 (e_name 6) (e_k (.int 1)))) (e_op mulD (e_op subD2 (e_name 6) (e_k (.int 0))) (e_op subD2 (e_name 5) (e_k (.int 1))))) a_nil)) (a_cons (e_op mulD (e_op subD2 (e_name 5) (e_k (.int 1))) (e_op subD2 (e_name 6) (e_k (.int 1)))) a_nil))))
      (s_if (t_and (t_val (e_op gtD (e_op subD2 (e_name 7) (e_k (.int 0))) (e_k (.int 0)))) (t_or (t_val (e_op (isND false) (e_name 2) (e_k .non))) (t_tru (e_call F_is_more 2 (a_cons (e_name 7) (a_cons (e_op subD2 (e_name 2) (e_k (.int 1))) a_nil)))))) (s_set 2 (e_tup (a_cons (e_name 3) (a_cons (e_name 7) a_nil)))) s_next))))
      (s_ret (e_name 2))))))
def F_apart : List D → RF := runD 6 g_apart
def g__wall : SM := s_bad
def F__wall : List D → RF := runD 0 g__wall
def g_look_books_v2 : SM := (s_seq (s_if (t_or (t_not (t_tru (e_isiA ["list", "tuple"] (e_name 0)))) (t_not (t_val (e_chain leD leD (e_k (.int 1)) (e_cb lenD (a_cons (e_name 0) a_nil)) (e_k (.int 5)))))) (s_raise "NoBook") s_next)
      (s_seq (s_if (t_not (t_tru (e_cb allD (a_cons (e_new (n_lc [2] (i_any (e_name 0)) (g_name 2) t_yes (e_call F_is_book 1 (a_cons (e_name 2) a_nil)))) a_nil)))) (s_raise "NoBook") s_next)
      (s_expr (e_call F_look_name 1 (a_cons (e_name 1) a_nil)))))
def F_look_books_v2 : List D → RF := runD 1 g_look_books_v2
def g_likeliest_v2 : SM := (s_seq (s_expr (e_call F_look_books_v2 2 (a_cons (e_name 0) (a_cons (e_name 1) a_nil))))
      (s_ret (e_op subD2 (e_call F_order_of 2 (a_cons (e_name 0) (a_cons (e_name 1) a_nil))) (e_k (.int 0)))))
def F_likeliest_v2 : List D → RF := runD 0 g_likeliest_v2
def g_ranked_v2 : SM := (s_seq (s_expr (e_call F_look_books_v2 2 (a_cons (e_name 0) (a_cons (e_name 1) a_nil))))
      (s_ret (e_call F_order_of 2 (a_cons (e_name 0) (a_cons (e_name 1) a_nil)))))
def F_ranked_v2 : List D → RF := runD 0 g_ranked_v2
def g__law_seen : SM := s_bad
def F__law_seen : List D → RF := runD 0 g__law_seen
def g__law_book_v2 : SM := (s_seq (s_setN 1 (n_lst a_nil))
      (s_seq (s_for (i_any (e_name 0)) (g_name 2) (s_extend 1 (e_call F__law_pairs 1 (a_cons (e_name 2) a_nil))))
      (s_ret (e_cb tupleD (a_cons (e_new (n_lc [3] (i_any (e_new (n_ct sortsetO (a_cons (e_name 1) a_nil)))) (g_name 3) t_yes (e_tup (a_cons (e_name 3) (a_cons (e_lcount (e_name 1) (a_cons (e_name 3) a_nil)) a_nil))))) a_nil)))))
def F__law_book_v2 : List D → RF := runD 3 g__law_book_v2
def g__law_told_v2 : SM := s_bad
def F__law_told_v2 : List D → RF := runD 1 g__law_told_v2
def g__law_plus : SM := (s_seq (s_setN 3 (n_ct dictO (a_cons (e_name 0) a_nil)))
      (s_seq (s_for (i_any (e_call F__law_pairs 1 (a_cons (e_name 1) a_nil))) (g_name 4) s_bad)
      (s_seq s_bad
      (s_seq (s_set 3 (e_cb tupleD (a_cons (e_new (n_lc [4] (i_any (e_new (n_ct sortedO (a_cons (e_name 3) a_nil)))) (g_name 4) (t_val (e_op gtD (e_op subD2 (e_name 3) (e_name 4)) (e_k (.int 0)))) (e_tup (a_cons (e_name 4) (a_cons (e_op subD2 (e_name 3) (e_name 4)) a_nil))))) a_nil)))
      (s_ret (e_if (t_or (t_val (e_op gtD (e_cb lenD (a_cons (e_name 3) a_nil)) (e_k (.int 60)))) (t_val (e_op gtD (e_cb maxLD (a_cons (e_op plusD (e_lst (a_cons (e_k (.int 0)) a_nil)) (e_new (n_lc [4, 5] (i_any (e_name 3)) (g_tup 2 (gs_cons (g_name 4) (gs_cons (g_name 5) gs_nil))) t_yes (e_name 5)))) a_nil)) (e_k (.int 999))))) (e_k (.str "full")) (e_name 3)))))))
def F__law_plus : List D → RF := runD 3 g__law_plus
def g__law_with : SM := (s_seq (s_setN 3 (n_ct dictO (a_cons (e_new (n_lc [4] (i_any (e_name 0)) (g_name 4) (t_val (e_op neD (e_name 4) (e_name 1))) (e_tup (a_cons (e_name 4) (a_cons (e_op subD2 (e_name 0) (e_name 4)) a_nil))))) a_nil)))
      (s_seq (s_if (t_val (e_op (isND true) (e_name 2) (e_k .non))) s_bad s_next)
      (s_ret (e_name 3))))
def F__law_with : List D → RF := runD 2 g__law_with
def g__law_deed : SM := (s_seq (s_set 3 (e_lst (a_cons (e_k (.str "x")) (a_cons (e_k (.str "yy")) (a_cons (e_k (.str "z")) a_nil)))))
      (s_seq (s_set 4 (e_op subD2 (e_lst (a_cons (e_k (.str "lay")) (a_cons (e_k (.str "learn")) (a_cons (e_k (.str "learn")) (a_cons (e_k (.str "learn")) (a_cons (e_k (.str "forget")) (a_cons (e_k (.str "move")) (a_cons (e_k (.str "clear")) a_nil)))))))) (e_call F__law_pick 3 (a_cons (e_name 0) (a_cons (e_name 1) (a_cons (e_k (.int 7)) a_nil))))))
      (s_seq (s_par 5 6 (a_cons (e_op subD2 (e_name 3) (e_call F__law_pick 3 (a_cons (e_name 0) (a_cons (e_op plusD (e_name 1) (e_k (.int 1))) (a_cons (e_k (.int 3)) a_nil))))) (a_cons (e_op subD2 (e_name 3) (e_call F__law_pick 3 (a_cons (e_name 0) (a_cons (e_op plusD (e_name 1) (e_k (.int 2))) (a_cons (e_k (.int 3)) a_nil))))) a_nil)))
      (s_seq (s_set 7 (e_slice (e_call F__law_name 3 (a_cons (e_name 0) (a_cons (e_op plusD (e_name 1) (e_k (.int 3))) (a_cons (e_op subD2 (e_lst (a_cons (e_k (.str "a")) (a_cons (e_k (.str "ab")) (a_cons (e_k (.str "abk")) a_nil)))) (e_call F__law_pick 3 (a_cons (e_name 0) (a_cons (e_op plusD (e_name 1) (e_k (.int 11))) (a_cons (e_k (.int 3)) a_nil))))) a_nil)))) p_none (p_some (e_k (.int 3)))))
      (s_ret (e_tup (a_cons (e_name 4) (a_cons (e_name 5) (a_cons (e_name 6) (a_cons (e_name 7) a_nil))))))))))
def F__law_deed : List D → RF := runD 5 g__law_deed
def g__law_behind : SM := (s_seq (s_asg (e_name 1) (g_tup 4 (gs_cons (g_name 2) (gs_cons (g_name 3) (gs_cons (g_name 4) (gs_cons (g_name 5) gs_nil))))))
      (s_seq (s_if (t_val (e_op eqD (e_name 2) (e_k (.str "lay")))) (s_ret (e_tup (a_cons (e_call F__law_with 3 (a_cons (e_name 0) (a_cons (e_name 3) (a_cons (e_call F__law_book_v2 1 (a_cons (e_lst (a_cons (e_name 5) (a_cons (e_name 4) a_nil))) a_nil)) a_nil)))) (a_cons (e_op (inLD false) (e_name 3) (e_name 0)) a_nil)))) s_next)
      (s_seq (s_if (t_or (t_val (e_op (inLD true) (e_name 3) (e_name 0))) (t_and (t_val (e_op eqD (e_name 2) (e_k (.str "move")))) (t_val (e_op (inLD true) (e_name 4) (e_name 0))))) (s_ret (e_tup (a_cons (e_name 0) (a_cons (e_k (.str "not there")) a_nil)))) s_next)
      (s_seq (s_if (t_val (e_op eqD (e_name 2) (e_k (.str "clear")))) (s_ret (e_tup (a_cons (e_call F__law_with 3 (a_cons (e_name 0) (a_cons (e_name 3) (a_cons (e_k .non) a_nil)))) (a_cons (e_op subD2 (e_name 0) (e_name 3)) a_nil)))) s_next)
      (s_seq (s_set 6 (e_call F__law_plus 3 (a_cons (e_op subD2 (e_name 0) (e_name 3)) (a_cons (e_name 5) (a_cons (e_if (t_val (e_op eqD (e_name 2) (e_k (.str "learn")))) (e_k (.int 1)) (e_neg (e_k (.int 1)))) a_nil)))))
      (s_seq (s_if (t_val (e_op (inLD false) (e_name 6) (e_tup (a_cons (e_k (.str "full")) (a_cons (e_k (.str "not there")) a_nil))))) (s_ret (e_tup (a_cons (e_name 0) (a_cons (e_name 6) a_nil)))) s_next)
      (s_seq (s_set 7 (e_call F__law_with 3 (a_cons (e_name 0) (a_cons (e_name 3) (a_cons (e_name 6) a_nil)))))
      (s_ret (e_tup (a_cons (e_if (t_val (e_op eqD (e_name 2) (e_k (.str "move")))) (e_call F__law_with 3 (a_cons (e_name 7) (a_cons (e_name 4) (a_cons (e_call F__law_plus 3 (a_cons (e_op subD2 (e_name 7) (e_name 4)) (a_cons (e_name 5) (a_cons (e_k (.int 1)) a_nil)))) a_nil)))) (e_name 7)) (a_cons (e_k .non) a_nil)))))))))))
def F__law_behind : List D → RF := runD 6 g__law_behind
def g__law_done : SM := (s_seq (s_asg (e_name 1) (g_tup 4 (gs_cons (g_name 2) (gs_cons (g_name 3) (gs_cons (g_name 4) (gs_cons (g_name 5) gs_nil))))))
      (s_seq (s_if (t_val (e_op eqD (e_name 2) (e_k (.str "lay")))) s_bad s_next)
      (s_seq (s_if (t_val (e_op eqD (e_name 2) (e_k (.str "clear")))) s_bad s_next)
      (s_seq (s_if (t_val (e_op eqD (e_name 2) (e_k (.str "learn")))) s_bad s_next)
      (s_seq (s_if (t_val (e_op eqD (e_name 2) (e_k (.str "forget")))) s_bad s_next)
      s_bad)))))
def F__law_done : List D → RF := runD 4 g__law_done
def g__law_seen_v2 : SM := s_bad
def F__law_seen_v2 : List D → RF := runD 1 g__law_seen_v2
def g__law_are_same : SM := (s_ret (e_and (e_op eqD (e_name 0) (e_name 1)) (e_op eqD (e_isi "bool" (e_name 0)) (e_isi "bool" (e_name 1)))))
def F__law_are_same : List D → RF := runD 0 g__law_are_same
def g__law_pairs_v2 : SM := (s_seq (s_set 1 (e_op plusD (e_op plusD (e_k (.str "<")) (e_name 0)) (e_k (.str ">"))))
      (s_ret (e_new (n_lc [2] (i_range1 (a_cons (e_op subD (e_cb lenD (a_cons (e_name 1) a_nil)) (e_k (.int 1))) a_nil)) (g_name 2) t_yes (e_slice (e_name 1) (p_some (e_name 2)) (p_some (e_op plusD (e_name 2) (e_k (.int 2)))))))))
def F__law_pairs_v2 : List D → RF := runD 2 g__law_pairs_v2
def g__law_book_v3 : SM := (s_seq (s_setN 1 (n_lst a_nil))
      (s_seq (s_for (i_any (e_name 0)) (g_name 2) (s_extend 1 (e_call F__law_pairs_v2 1 (a_cons (e_name 2) a_nil))))
      (s_ret (e_cb tupleD (a_cons (e_new (n_lc [3] (i_any (e_new (n_ct sortsetO (a_cons (e_name 1) a_nil)))) (g_name 3) t_yes (e_tup (a_cons (e_name 3) (a_cons (e_lcount (e_name 1) (a_cons (e_name 3) a_nil)) a_nil))))) a_nil)))))
def F__law_book_v3 : List D → RF := runD 3 g__law_book_v3
def g_paper : SM := s_bad
def F_paper : List D → RF := runD 1 g_paper
def g_desk_of : SM := (s_seq (s_if (t_not (t_tru (e_isi "str" (e_name 0)))) (s_raise "NoText") s_next)
      (s_seq (s_setN 1 n_dct)
      (s_seq (s_set 2 (e_k (.str "")))
      (s_seq s_bad
      (s_seq (s_setN 4 n_dct)
      (s_seq (s_for (i_any (e_name 1)) (g_name 2) (s_seq (s_if (t_not (t_tru (e_call F_is_name 1 (a_cons (e_name 2) a_nil)))) (s_raise "NoText") s_next)
      s_bad))
      (s_seq s_bad
      (s_seq s_bad
      (s_seq (s_if (t_or (t_val (e_op gtD (e_cb lenD (a_cons (e_name 4) a_nil)) (e_k (.int 5)))) (t_val (e_op neD (e_call F_paper 1 (a_cons (e_name 5) a_nil)) (e_name 0)))) (s_raise "NoText") s_next)
      (s_ret (e_name 5)))))))))))
def F_desk_of : List D → RF := runD 5 g_desk_of
def g__law_paper : SM := (s_seq (s_set 1 (e_k (.str "")))
      (s_seq (s_for (i_any (e_new (n_ct sortedO (a_cons (e_name 0) a_nil)))) (g_name 2) (s_seq (s_set 1 (e_op plusD (e_op plusD (e_op plusD (e_name 1) (e_k (.str "= "))) (e_name 2)) (e_k (.str "\n"))))
      s_bad))
      (s_ret (e_name 1))))
def F__law_paper : List D → RF := runD 4 g__law_paper
def g__law_stays : SM := (s_seq s_bad
      (s_seq (s_if (t_not (t_tru (e_isi "list" (e_name 1)))) (s_ret (e_k (.bl false))) s_next)
      (s_seq (s_set 2 (e_new (n_ct listO (a_cons (e_name 1) a_nil))))
      (s_seq (s_append 1 (e_k (.str "?")))
      s_bad))))
def F__law_stays : List D → RF := runD 2 g__law_stays
end PG

/-! evaluation: the functions of values at a known state, in rules for simp; texts as lists of their signs -/
namespace VL
open PySem PySem.Spec PyProof.Rows L2
def szB (n : Nat) : Bool := decide (n ≤ 16777216)
def szL (n : Nat) : Bool := decide (n < 16777216)
def fdB (j : Int) : Bool := decide (0 < j ∧ j.natAbs.log2 < 9000)
theorem szB_ok {n : Nat} (h : n ≤ 1000000) : szB n = true := decide_eq_true (Nat.le_trans h (by decide))
theorem szL_ok {n : Nat} (h : n ≤ 1000000) : szL n = true := decide_eq_true (Nat.lt_of_le_of_lt h (by decide))
theorem sz_ite {β : Type} (n : Nat) (x y : β) : (if n ≤ 16777216 then x else y) = if szB n = true then x else y := by
  unfold szB
  by_cases h : n ≤ 16777216
  · rw [if_pos h, if_pos (decide_eq_true h)]
  · rw [if_neg h, if_neg (by rw [decide_eq_true_iff]; exact h)]
theorem sl_ite {β : Type} (n : Nat) (x y : β) : (if n < 16777216 then x else y) = if szL n = true then x else y := by
  unfold szL
  by_cases h : n < 16777216
  · rw [if_pos h, if_pos (decide_eq_true h)]
  · rw [if_neg h, if_neg (by rw [decide_eq_true_iff]; exact h)]
theorem fd_ite {β : Type} (j : Int) (x y : β) : (if 0 < j ∧ j.natAbs.log2 < 9000 then x else y) = if fdB j = true then x else y := by
  unfold fdB
  by_cases h : 0 < j ∧ j.natAbs.log2 < 9000
  · rw [if_pos h, if_pos (decide_eq_true h)]
  · rw [if_neg h, if_neg (by rw [decide_eq_true_iff]; exact h)]
theorem fdB_ok {j : Int} (h : 0 < j) (h2 : j < 18446744073709551616) : fdB j = true := by
  refine decide_eq_true ⟨h, ?_⟩
  have h3 : j.natAbs < 2 ^ 64 := by omega
  have h4 : j.natAbs ≠ 0 := by omega
  have := (Nat.log2_lt h4).mpr h3
  omega
theorem mulB_l {i j : Int} (h1 : -18446744073709551616 < i) (h2 : i < 18446744073709551616) : mulB i j = true := by
  unfold mulB
  rw [decide_eq_true (p := -(2 ^ 64) < i ∧ i < 2 ^ 64) ⟨h1, h2⟩]
  rfl
theorem mulB_r {i j : Int} (h1 : -18446744073709551616 < j) (h2 : j < 18446744073709551616) : mulB i j = true := by
  unfold mulB
  rw [decide_eq_true (p := -(2 ^ 64) < j ∧ j < 2 ^ 64) ⟨h1, h2⟩]
  simp
@[simp high] theorem nth_0 {α : Type} (a : α) (l : List α) : (a :: l)[0]? = some a := rfl
@[simp high] theorem nth_S {α : Type} (a : α) (l : List α) (n : Nat) : (a :: l)[n + 1]? = l[n]? := rfl
def rngO (ds : List D) : Option (List D) := match ds with
  | [.int n] => if -(2 ^ 62) ≤ n ∧ n < 2 ^ 62 then some (rangeD 0 n.toNat) else none
  | _ => none
def rngB (n : Int) : Bool := decide (-4611686018427387904 ≤ n ∧ n < 4611686018427387904)
theorem rngB_ok {n : Int} (h1 : -4611686018427387904 ≤ n) (h2 : n < 4611686018427387904) : rngB n = true := decide_eq_true ⟨h1, h2⟩
@[simp] theorem rng_i (n : Int) : rngO [.int n] = if rngB n = true then some (rangeD 0 n.toNat) else none := by
  have e : (-(2 ^ 62) ≤ n ∧ n < 2 ^ 62) ↔ (-4611686018427387904 ≤ n ∧ n < 4611686018427387904) := by constructor <;> exact fun h => h
  show (if -(2 ^ 62) ≤ n ∧ n < 2 ^ 62 then some (rangeD 0 n.toNat) else none) = _
  unfold rngB
  by_cases h : -4611686018427387904 ≤ n ∧ n < 4611686018427387904
  · rw [if_pos (e.mpr h), if_pos (decide_eq_true h)]
  · rw [if_neg (fun q => h (e.mp q)), if_neg (by rw [decide_eq_true_iff]; exact h)]
def emB {α β : Type} (f : EM α) (k : α → EM β) : EM β := fun ρ => (f ρ).bind k
def emOk {α : Type} (a : α) : EM α := fun ρ => .ok a ρ
def emIf {α : Type} (b : Bool) (g h : EM α) : EM α := fun ρ => if b = true then g ρ else h ρ
def emC {α : Type} (d : D) (g h : EM α) : EM α := fun ρ => match d with
  | .bl true => g ρ
  | .bl false => h ρ
  | _ => .bad
def emO {α : Type} (d : Option D) (g h : EM α) : EM α := fun ρ => match d with
  | some (.bl true) => g ρ
  | some (.bl false) => h ρ
  | _ => .bad
def smIf (b : Bool) (g h : SM) : SM := fun ρ => if b = true then g ρ else h ρ
def callR (F : List D → RF) (n : Nat) (xs : List D) : EM D := fun ρ => if xs.length = n then (match F xs with
  | .bad => .bad
  | .ok d => .ok d ρ
  | .err c => .err c ρ) else .bad
def rfE (r : RF) : EM D := fun ρ => match r with
  | .bad => .bad
  | .ok d => .ok d ρ
  | .err c => .err c ρ
def lcK (vs : List Nat) (tg : D → Env → Option Env) (tt : EM Bool) (te : EM D) (ds : List D) : EM OD := fun ρ => lcD ρ vs tg tt te ds ρ []
def lcKK (vs : List Nat) (tg : D → Env → Option Env) (tt : EM Bool) (te : EM D) (d : D) : EM OD := fun ρ => match d with
  | .dct kvs => lcD ρ vs tg tt te (kvs.map fun kv => kD kv.1) ρ []
  | _ => .bad
def smJ (k : Str → D → Option D) (g : EM D) (x : D) : EM D := match x with
  | .str a => emB g fun w => o2 (k a w)
  | _ => fun _ => .bad
def getJ (g h : EM D) (x : D) : EM D := match x with
  | .dct kvs => emB g fun w => emB h fun z => o2 ((keyD w).map fun k => (valK kvs k).getD z)
  | _ => fun _ => .bad
def getOJ (i : Nat) (w z : D) : EM D := fun ρ => match ρ[i]? with
  | some (.own (.K kvs)) => o2 ((keyD w).map fun k => (valK kvs k).getD z) ρ
  | _ => .bad
def dputJ (i : Nat) (d w : D) : SM := fun ρ2 => match keyD w, ρ2[i]? with
  | some k, some (.own (.K kvs)) => if kvs.length < 16777216 then .next (ρ2.set i (.own (.K (putD kvs k d)))) else .bad
  | _, _ => .bad
def dputI (i : Nat) (fk : EM D) (d : D) : SM := fun ρ1 => match ρ1[i]? with
  | some (.own (.K _)) => (fk ρ1).to (dputJ i d)
  | _ => .bad
def appJ (i : Nat) (d : D) : SM := fun ρ1 => match ρ1[i]? with
  | some (.own (.L ds)) => if ds.length < 16777216 then .next (ρ1.set i (.own (.L (ds ++ [d])))) else .bad
  | _ => .bad
def extJ (i : Nat) (d : D) : SM := fun ρ1 => match d, ρ1[i]? with
  | .lst es, some (.own (.L ds)) => if ds.length + es.length ≤ 16777216 then .next (ρ1.set i (.own (.L (ds ++ es)))) else .bad
  | _, _ => .bad
def asgJ (gf : D → Env → Option Env) (d : D) : SM := fun ρ1 => match gf d ρ1 with
  | some ρ2 => .next ρ2
  | none => .bad
section
variable {α β : Type} {ρ : Env} {f g h : EM D} {i j n : Nat}
@[simp] theorem bind_ok (a : α) (ρ : Env) (g : α → EM β) : (RE.ok a ρ).bind g = g a ρ := rfl
@[simp] theorem bind_bad (g : α → EM β) : (RE.bad : RE α).bind g = .bad := rfl
@[simp] theorem bind_err (c : Str) (ρ : Env) (g : α → EM β) : (RE.err c ρ : RE α).bind g = .err c ρ := rfl
@[simp] theorem to_ok (a : α) (ρ : Env) (g : α → SM) : (RE.ok a ρ).to g = g a ρ := rfl
@[simp] theorem to_bad (g : α → SM) : (RE.bad : RE α).to g = .bad := rfl
@[simp] theorem to_err (c : Str) (ρ : Env) (g : α → SM) : (RE.err c ρ : RE α).to g = .err c ρ := rfl
@[simp] theorem then_next (ρ : Env) (g : SM) : (RS.next ρ).then g = g ρ := rfl
@[simp] theorem then_ret (d : D) (g : SM) : (RS.ret d).then g = .ret d := rfl
@[simp] theorem then_bad (g : SM) : RS.bad.then g = .bad := rfl
@[simp] theorem then_err (c : Str) (ρ : Env) (g : SM) : (RS.err c ρ).then g = .err c ρ := rfl
@[simp] theorem then_brk (ρ : Env) (g : SM) : (RS.brk ρ).then g = .brk ρ := rfl
@[simp] theorem then_cont (ρ : Env) (g : SM) : (RS.cont ρ).then g = .cont ρ := rfl
@[simp] theorem o2_some (z : α) (ρ : Env) : o2 (some z) ρ = .ok z ρ := rfl
@[simp] theorem o2_none (ρ : Env) : o2 (none : Option α) ρ = .bad := rfl
@[simp] theorem emB_a (f : EM α) (k : α → EM β) : emB f k ρ = (f ρ).bind k := rfl
@[simp] theorem emOk_a (a : α) : emOk a ρ = .ok a ρ := rfl
@[simp] theorem emIf_a (b : Bool) (g h : EM α) : emIf b g h ρ = if b = true then g ρ else h ρ := rfl
@[simp] theorem emC_a (b : Bool) (g h : EM α) : emC (.bl b) g h ρ = if b = true then g ρ else h ρ := by cases b <;> rfl
@[simp] theorem emO_a (b : Bool) (g h : EM α) : emO (some (.bl b)) g h ρ = if b = true then g ρ else h ρ := by cases b <;> rfl
@[simp] theorem smIf_a (b : Bool) (g h : SM) : smIf b g h ρ = if b = true then g ρ else h ρ := rfl
@[simp] theorem callR_a (F : List D → RF) (xs : List D) : callR F n xs ρ = if xs.length = n then rfE (F xs) ρ else .bad := rfl
@[simp] theorem rfE_ok (d : D) : rfE (.ok d) ρ = .ok d ρ := rfl
@[simp] theorem rfE_err (c : Str) : rfE (.err c) ρ = .err c ρ := rfl
@[simp] theorem lcK_a (vs : List Nat) (tg : D → Env → Option Env) (tt : EM Bool) (te : EM D) (ds : List D) : lcK vs tg tt te ds ρ = lcD ρ vs tg tt te ds ρ [] := rfl
@[simp] theorem lcKK_a (vs : List Nat) (tg : D → Env → Option Env) (tt : EM Bool) (te : EM D) (kvs : List (Key × D)) : lcKK vs tg tt te (.dct kvs) ρ = lcD ρ vs tg tt te (kvs.map fun kv => kD kv.1) ρ [] := rfl
@[simp] theorem smJ_a (k : Str → D → Option D) (a : Str) : smJ k g (.str a) ρ = (g ρ).bind fun w => o2 (k a w) := rfl
@[simp] theorem getJ_a (kvs : List (Key × D)) : getJ g h (.dct kvs) ρ = (g ρ).bind fun w => emB h fun z => o2 ((keyD w).map fun k => (valK kvs k).getD z) := rfl
@[simp] theorem getOJ_a (w z : D) : getOJ i w z ρ = match ρ[i]? with
  | some (.own (.K kvs)) => o2 ((keyD w).map fun k => (valK kvs k).getD z) ρ
  | _ => .bad := rfl
@[simp] theorem dputJ_a (d w : D) : dputJ i d w ρ = match keyD w, ρ[i]? with
  | some k, some (.own (.K kvs)) => if szL kvs.length = true then .next (ρ.set i (.own (.K (putD kvs k d)))) else .bad
  | _, _ => .bad := by
  simp only [← sl_ite]
  rfl
@[simp] theorem dputI_a (fk : EM D) (d : D) : dputI i fk d ρ = match ρ[i]? with
  | some (.own (.K _)) => (fk ρ).to (dputJ i d)
  | _ => .bad := rfl
@[simp] theorem appJ_a (d : D) : appJ i d ρ = match ρ[i]? with
  | some (.own (.L ds)) => if szL ds.length = true then .next (ρ.set i (.own (.L (ds ++ [d])))) else .bad
  | _ => .bad := by
  simp only [← sl_ite]
  rfl
@[simp] theorem extJ_a (d : D) : extJ i d ρ = match d, ρ[i]? with
  | .lst es, some (.own (.L ds)) => if szB (ds.length + es.length) = true then .next (ρ.set i (.own (.L (ds ++ es)))) else .bad
  | _, _ => .bad := by
  simp only [← sz_ite]
  rfl
@[simp] theorem asgJ_a (gf : D → Env → Option Env) (d : D) : asgJ gf d ρ = match gf d ρ with
  | some ρ2 => .next ρ2
  | none => .bad := rfl
@[simp] theorem e_name_a : e_name i ρ = match ρ[i]? with
  | some (.dat d) => .ok d ρ
  | some (.own o) => .ok o.d (ρ.set i (.dat o.d))
  | _ => .bad := rfl
@[simp] theorem e_k_a (d : D) : e_k d ρ = .ok d ρ := rfl
@[simp] theorem e_op_a (h : D → D → Option D) : e_op h f g ρ = (f ρ).bind fun x => emB g fun w => o2 (h x w) := rfl
@[simp] theorem t_val_a : t_val f ρ = (f ρ).bind fun d => o2 (match d with | .bl b => some b | _ => none) := rfl
@[simp] theorem t_tru_a : t_tru f ρ = (f ρ).bind fun d => o2 (truD d) := rfl
@[simp] theorem t_and_a (f g : EM Bool) : t_and f g ρ = (f ρ).bind fun b => emIf b g (emOk false) := rfl
@[simp] theorem t_or_a (f g : EM Bool) : t_or f g ρ = (f ρ).bind fun b => emIf b (emOk true) g := rfl
@[simp] theorem t_not_a (f : EM Bool) : t_not f ρ = (f ρ).bind fun b => emOk (!b) := rfl
@[simp] theorem t_yes_a : t_yes ρ = .ok true ρ := rfl
@[simp] theorem e_and_a : e_and f g ρ = (f ρ).bind fun d => emC d g (emOk (.bl false)) := rfl
@[simp] theorem e_or_a : e_or f g ρ = (f ρ).bind fun d => emC d (emOk (.bl true)) g := rfl
@[simp] theorem e_not_a : e_not f ρ = (f ρ).bind fun d => o2 (match d with | .bl b => some (.bl (!b)) | _ => none) := by
  unfold e_not
  cases f ρ with
  | ok d ρ1 => cases d <;> rfl
  | _ => rfl
@[simp] theorem e_if_a (t : EM Bool) : e_if t f g ρ = (t ρ).bind fun b => emIf b f g := rfl
@[simp] theorem e_chain_a (k k' : D → D → Option D) : e_chain k k' f g h ρ = (f ρ).bind fun x => emB g fun w => emO (k x w) (emB h fun z => o2 (k' w z)) (emOk (.bl false)) := rfl
@[simp] theorem a_nil_a : a_nil ρ = .ok [] ρ := rfl
@[simp] theorem a_cons_a (g : EM (List D)) : a_cons f g ρ = (f ρ).bind fun x => emB g fun xs => emOk (x :: xs) := rfl
@[simp] theorem e_tup_a (g : EM (List D)) : e_tup g ρ = (g ρ).bind fun xs => o2 (if szB xs.length = true then some (.tup xs) else none) := by
  simp only [← sz_ite]
  rfl
@[simp] theorem e_lst_a (g : EM (List D)) : e_lst g ρ = (g ρ).bind fun xs => o2 (if szB xs.length = true then some (.lst xs) else none) := by
  simp only [← sz_ite]
  rfl
@[simp] theorem e_cb_a (k : List D → Option D) (g : EM (List D)) : e_cb k g ρ = (g ρ).bind fun xs => o2 (k xs) := rfl
@[simp] theorem e_call_a (F : List D → RF) (g : EM (List D)) : e_call F n g ρ = (g ρ).bind (callR F n) := rfl
@[simp] theorem s_next_a : s_next ρ = .next ρ := rfl
@[simp] theorem s_seq_a (f g : SM) : s_seq f g ρ = (f ρ).then g := rfl
@[simp] theorem s_expr_a : s_expr f ρ = (f ρ).to fun _ => s_next := rfl
@[simp] theorem s_ret_a : s_ret f ρ = (f ρ).to fun d _ => .ret d := rfl
@[simp] theorem s_if_a (t : EM Bool) (f g : SM) : s_if t f g ρ = (t ρ).to fun b => smIf b f g := rfl
@[simp] theorem s_set_a : s_set i f ρ = (f ρ).to fun d ρ1 => .next (ρ1.set i (.dat d)) := rfl
@[simp] theorem s_brk_a : s_brk ρ = .brk ρ := rfl
@[simp] theorem s_cont_a : s_cont ρ = .cont ρ := rfl
@[simp] theorem s_raise_a (c : Str) : s_raise c ρ = .err c ρ := rfl
@[simp] theorem s_par_a (g : EM (List D)) : s_par i j g ρ = (g ρ).to fun ds ρ1 => match ds with
  | [c, d] => .next ((ρ1.set i (.dat c)).set j (.dat d))
  | _ => .bad := rfl
@[simp] theorem g_name_a (d : D) : g_name i d ρ = some (ρ.set i (.dat d)) := rfl
@[simp] theorem gs_nil_a : gs_nil [] ρ = some ρ := rfl
@[simp] theorem gs_cons_a (g : D → Env → Option Env) (h : List D → Env → Option Env) (d : D) (r : List D) : gs_cons g h (d :: r) ρ = match g d ρ with
    | some ρ1 => h r ρ1
    | none => none := rfl
@[simp] theorem g_tup_t (h : List D → Env → Option Env) (ds : List D) : g_tup n h (.tup ds) ρ = if ds.length = n then h ds ρ else none := rfl
@[simp] theorem g_tup_p (h : List D → Env → Option Env) (ds : List D) : g_tup n h (.pr ds) ρ = if ds.length = n then h ds ρ else none := rfl
@[simp] theorem i_any_a : i_any f ρ = (f ρ).bind fun d => o2 (anyI d) := rfl
@[simp] theorem i_range1_a (g : EM (List D)) : i_range1 g ρ = (g ρ).bind fun ds => o2 (rngO ds) := rfl
@[simp] theorem i_zip_a (g : EM (List D)) : i_zip g ρ = (g ρ).bind fun ds => o2 (match ds with
  | [.lst as, .lst bs] => some (zipD as bs)
  | [.tup as, .tup bs] => some (zipD as bs)
  | _ => none) := rfl
@[simp] theorem s_for_a (it : EM (List D)) (tg : D → Env → Option Env) (body : SM) : s_for it tg body ρ = (it ρ).to fun ds => forD tg body ds := rfl
@[simp] theorem e_new_a (f : EM OD) : e_new f ρ = (f ρ).bind fun o => emOk o.d := rfl
@[simp] theorem s_setN_a (f : EM OD) : s_setN i f ρ = (f ρ).to fun o ρ1 => .next (ρ1.set i (.own o)) := rfl
@[simp] theorem n_lst_a (g : EM (List D)) : n_lst g ρ = (g ρ).bind fun xs => o2 (if szB xs.length = true then some (.L xs) else none) := by
  simp only [← sz_ite]
  rfl
@[simp] theorem n_dct_a : n_dct ρ = .ok (.K []) ρ := rfl
@[simp] theorem n_ct_a (k : List D → Option OD) (g : EM (List D)) : n_ct k g ρ = (g ρ).bind fun xs => o2 (k xs) := rfl
@[simp] theorem n_lc_a (vs : List Nat) (it : EM (List D)) (tg : D → Env → Option Env) (tt : EM Bool) (te : EM D) : n_lc vs it tg tt te ρ = (it ρ).bind (lcK vs tg tt te) := rfl
@[simp] theorem n_lcK_a (vs : List Nat) (tg : D → Env → Option Env) (tt : EM Bool) (te : EM D) : n_lcK vs i tg tt te ρ = (e_name i ρ).bind (lcKK vs tg tt te) := rfl
@[simp] theorem e_isi_a (T : String) : e_isi T f ρ = (f ρ).bind fun d => o2 ((isiD d T).map .bl) := rfl
@[simp] theorem e_isiA_a (Ts : List String) : e_isiA Ts f ρ = (f ρ).bind fun d => o2 ((isiA d Ts).map .bl) := rfl
@[simp] theorem e_sm_a (k : Str → D → Option D) : e_sm k f g ρ = (f ρ).bind (smJ k g) := by
  unfold e_sm
  cases f ρ with
  | ok d ρ1 => cases d <;> rfl
  | _ => rfl
@[simp] theorem e_get_a : e_get f g h ρ = (f ρ).bind (getJ g h) := by
  unfold e_get
  cases f ρ with
  | ok d ρ1 => cases d <;> rfl
  | _ => rfl
@[simp] theorem e_getO_a : e_getO i g h ρ = match ρ[i]? with
  | some (.own (.K _)) => (g ρ).bind fun w => emB h fun z => getOJ i w z
  | _ => .bad := rfl
@[simp] theorem s_dput_a (fk fv : EM D) : s_dput i fk fv ρ = (fv ρ).to (dputI i fk) := rfl
@[simp] theorem s_append_a : s_append i f ρ = match ρ[i]? with
  | some (.own (.L _)) => (f ρ).to (appJ i)
  | _ => .bad := rfl
@[simp] theorem s_extend_a : s_extend i f ρ = match ρ[i]? with
  | some (.own (.L _)) => (f ρ).to (extJ i)
  | _ => .bad := rfl
@[simp] theorem s_asg_a (gf : D → Env → Option Env) : s_asg f gf ρ = (f ρ).to (asgJ gf) := rfl
@[simp] theorem e_neg_a : e_neg f ρ = (f ρ).bind fun d => o2 (match d with | .int i => some (.int (-i)) | _ => none) := rfl
@[simp] theorem e_rev_a : e_rev f ρ = (f ρ).bind fun d => o2 (match d with | .lst ds => some (.lst ds.reverse) | _ => none) := rfl
@[simp] theorem p_none_a : p_none ρ = .ok none ρ := rfl
@[simp] theorem p_some_a : p_some f ρ = (f ρ).bind fun d => o2 (match d with | .int i => some (some i) | _ => none) := rfl
@[simp] theorem e_slice_a (l k : EM (Option Int)) : e_slice f l k ρ = (f ρ).bind fun x => emB l fun lo => emB k fun hi => o2 (slD x lo hi) := rfl
end
def finD : RS → RF
  | .next _ => .ok .non
  | .ret d => .ok d
  | .err c _ => .err c
  | _ => .bad
theorem runD_eq (m : Nat) (g : SM) (ds : List D) : runD m g ds = finD (g (ds.map .dat ++ List.replicate m .no)) := by
  unfold runD finD startD
  rfl
@[simp] theorem fin_next (ρ : Env) : finD (.next ρ) = .ok .non := rfl
@[simp] theorem fin_ret (d : D) : finD (.ret d) = .ok d := rfl
@[simp] theorem fin_err (c : Str) (ρ : Env) : finD (.err c ρ) = .err c := rfl
section
variable {α β : Type} {p : Prop} [Decidable p] {ρ : Env}
@[simp] theorem fin_ite (x y : RS) : finD (if p then x else y) = if p then finD x else finD y := by split <;> rfl
@[simp] theorem then_ite (x y : RS) (g : SM) : (if p then x else y).then g = if p then x.then g else y.then g := by split <;> rfl
@[simp] theorem bind_ite (x y : RE α) (g : α → EM β) : (if p then x else y).bind g = if p then x.bind g else y.bind g := by split <;> rfl
@[simp] theorem to_ite (x y : RE α) (g : α → SM) : (if p then x else y).to g = if p then x.to g else y.to g := by split <;> rfl
@[simp] theorem ite_and_ok (q : Bool) : (if p then RE.ok (D.bl q) ρ else .ok (.bl false) ρ) = .ok (.bl (decide p && q)) ρ := by split <;> simp [*]
@[simp] theorem ite_or_ok (q : Bool) : (if p then RE.ok (D.bl true) ρ else .ok (.bl q) ρ) = .ok (.bl (decide p || q)) ρ := by split <;> simp [*]
@[simp] theorem ite_andb (q : Bool) : (if p then RE.ok q ρ else .ok false ρ) = .ok (decide p && q) ρ := by split <;> simp [*]
@[simp] theorem ite_orb (q : Bool) : (if p then RE.ok true ρ else .ok q ρ) = .ok (decide p || q) ρ := by split <;> simp [*]
@[simp] theorem o2_ite (x y : Option α) : o2 (if p then x else y) ρ = if p then o2 x ρ else o2 y ρ := by split <;> rfl
end
section
variable (i j : Int) (x y : Str) (b c : Bool)
@[simp] theorem lt_i : ltD (.int i) (.int j) = some (.bl (decide (i < j))) := rfl
@[simp] theorem le_i : leD (.int i) (.int j) = some (.bl (decide (i ≤ j))) := rfl
@[simp] theorem gt_i : gtD (.int i) (.int j) = some (.bl (decide (j < i))) := rfl
@[simp] theorem ge_i : geD (.int i) (.int j) = some (.bl (decide (j ≤ i))) := rfl
@[simp] theorem eq_i : eqD (.int i) (.int j) = some (.bl (decide (i = j))) := rfl
@[simp] theorem ne_i : neD (.int i) (.int j) = some (.bl (!decide (i = j))) := rfl
@[simp] theorem eq_s : eqD (.str x) (.str y) = some (.bl (decide (x = y))) := rfl
@[simp] theorem ne_s : neD (.str x) (.str y) = some (.bl (!decide (x = y))) := rfl
@[simp] theorem eq_b : eqD (.bl b) (.bl c) = some (.bl (decide (b = c))) := rfl
@[simp] theorem ne_b : neD (.bl b) (.bl c) = some (.bl (!decide (b = c))) := rfl
@[simp] theorem plus_i : plusD (.int i) (.int j) = some (.int (i + j)) := rfl
@[simp] theorem plus_s : plusD (.str x) (.str y) = if szB (x.length + y.length) = true then some (.str (x ++ y)) else none := by
  rw [← sz_ite]
  rfl
@[simp] theorem plus_t (xs ys : List D) : plusD (.tup xs) (.tup ys) = if szB (xs.length + ys.length) = true then some (.tup (xs ++ ys)) else none := by
  rw [← sz_ite]
  rfl
@[simp] theorem plus_l (xs ys : List D) : plusD (.lst xs) (.lst ys) = if szB (xs.length + ys.length) = true then some (.lst (xs ++ ys)) else none := by
  rw [← sz_ite]
  rfl
@[simp] theorem sub_i : subD (.int i) (.int j) = some (.int (i - j)) := rfl
@[simp] theorem mul_i : mulD (.int i) (.int j) = if mulB i j = true then some (.int (i * j)) else none := rfl
@[simp] theorem mod_i : modD (.int i) (.int j) = if 0 < j then some (.int (i % j)) else none := rfl
@[simp] theorem fdiv_i : fdivD (.int i) (.int j) = if fdB j = true then some (.int (i / j)) else none := by
  rw [← fd_ite]
  rfl
@[simp] theorem len_s : lenD [.str x] = if szB x.length = true then some (.int (x.length : Nat)) else none := by
  rw [← sz_ite]
  rfl
@[simp] theorem len_l (xs : List D) : lenD [.lst xs] = some (.int (xs.length : Nat)) := rfl
@[simp] theorem len_t (xs : List D) : lenD [.tup xs] = some (.int (xs.length : Nat)) := rfl
@[simp] theorem len_ll (xs : List D) : lenD [.ll xs] = some (.int (xs.length : Nat)) := rfl
@[simp] theorem len_p (xs : List D) : lenD [.pr xs] = some (.int (xs.length : Nat)) := rfl
@[simp] theorem len_d (kvs : List (Key × D)) : lenD [.dct kvs] = some (.int (kvs.length : Nat)) := rfl
@[simp] theorem any_l (xs : List D) : anyI (.lst xs) = some xs := rfl
@[simp] theorem any_t (xs : List D) : anyI (.tup xs) = some xs := rfl
@[simp] theorem any_p (xs : List D) : anyI (.pr xs) = some xs := rfl
@[simp] theorem any_ll (xs : List D) : anyI (.ll xs) = some xs := rfl
@[simp] theorem any_s : anyI (.str x) = some (signsD x) := rfl
@[simp] theorem tuple_l (xs : List D) : tupleD [.lst xs] = some (.tup xs) := rfl
@[simp] theorem tuple_t (xs : List D) : tupleD [.tup xs] = some (.tup xs) := rfl
@[simp] theorem list_l (xs : List D) : listO [.lst xs] = some (.L xs) := rfl
@[simp] theorem list_ll (xs : List D) : listO [.ll xs] = some (.L xs) := rfl
@[simp] theorem list_t (xs : List D) : listO [.tup xs] = some (.L xs) := rfl
@[simp] theorem list_d (kvs : List (Key × D)) : listO [.dct kvs] = some (.L (kvs.map fun kv => kD kv.1)) := rfl
@[simp] theorem tru_b : truD (.bl b) = some b := rfl
@[simp] theorem tru_i : truD (.int i) = some (i != 0) := rfl
@[simp] theorem tru_l (xs : List D) : truD (.lst xs) = some (!xs.isEmpty) := rfl
@[simp] theorem tru_t (xs : List D) : truD (.tup xs) = some (!xs.isEmpty) := rfl
@[simp] theorem sub2_dct (kvs : List (Key × D)) (w : D) : subD2 (.dct kvs) w = (keyD w).bind fun k => valK kvs k := rfl
@[simp] theorem sub2_l (xs : List D) : subD2 (.lst xs) (.int i) = atI xs i := rfl
@[simp] theorem sub2_t (xs : List D) : subD2 (.tup xs) (.int i) = atI xs i := rfl
@[simp] theorem sub2_p (xs : List D) : subD2 (.pr xs) (.int i) = atI xs i := rfl
@[simp] theorem sub2_ll (xs : List D) : subD2 (.ll xs) (.int i) = atI xs i := rfl
@[simp] theorem sub2_s : subD2 (.str x) (.int i) = if szB x.length = true then (atI x.cps.toList i).map fun c => .str ⟨#[c]⟩ else none := by
  rw [← sz_ite]
  rfl
@[simp] theorem key_i : keyD (.int i) = some (.inl i) := rfl
@[simp] theorem key_s : keyD (.str x) = some (.inr x) := rfl
end
section
variable {ρ : Env} {f : EM D}
def lcountJ (g : EM (List D)) (x : D) : EM D := match x with
  | .lst ds => emB g fun ys => o2 (countD (.lst ds) ys)
  | _ => fun _ => .bad
@[simp] theorem e_lcount_a (g : EM (List D)) : e_lcount f g ρ = (f ρ).bind (lcountJ g) := by
  unfold e_lcount
  cases f ρ with
  | ok d ρ1 => cases d <;> rfl
  | _ => rfl
@[simp] theorem lcountJ_a (g : EM (List D)) (ds : List D) : lcountJ g (.lst ds) ρ = (g ρ).bind fun ys => o2 (countD (.lst ds) ys) := rfl
@[simp] theorem prE_nil : prE [] ρ = .ok [] ρ := rfl
@[simp] theorem prE_cons (f h : EM D) (r : List (EM D × EM D)) : prE ((f, h) :: r) ρ = (f ρ).bind fun x => emB h fun w => emB (prE r) fun ds => emOk ((x, w) :: ds) := rfl
@[simp] theorem n_disp_a (fs : List (EM D × EM D)) : n_disp fs ρ = (prE fs ρ).bind fun ds => o2 ((keysD ds).bind fun es => if es.length ≤ 15 then some (.K (mergeD [] es)) else none) := rfl
@[simp] theorem keysD_nil : keysD [] = some [] := rfl
@[simp] theorem keysD_cons (k v : D) (r : List (D × D)) : keysD ((k, v) :: r) = match keyD k, keysD r with
    | some k, some rs => some ((k, v) :: rs)
    | _, _ => none := rfl
@[simp] theorem i_range2_a (g : EM (List D)) : i_range2 g ρ = (g ρ).bind fun ds => o2 (match ds with
  | [.int m, .int n] => if (-(2 ^ 62) ≤ m ∧ m < 2 ^ 62) ∧ -(2 ^ 62) ≤ n ∧ n < 2 ^ 62 then some (rangeD m (n - m).toNat) else none
  | _ => none) := rfl
end
@[simp] theorem od_L (ds : List D) : (OD.L ds).d = .lst ds := rfl
@[simp] theorem od_K (ds : List (Key × D)) : (OD.K ds).d = .dct ds := rfl
@[simp] theorem isi_non_int : isiD .non "int" = some false := by
  show kitB "NoneType" "int" = _
  decide +kernel
@[simp] theorem isi_non_bool : isiD .non "bool" = some false := by
  show kitB "NoneType" "bool" = _
  decide +kernel
@[simp] theorem isi_non_str : isiD .non "str" = some false := by
  show kitB "NoneType" "str" = _
  decide +kernel
@[simp] theorem isi_non_list : isiD .non "list" = some false := by
  show kitB "NoneType" "list" = _
  decide +kernel
@[simp] theorem isi_non_tuple : isiD .non "tuple" = some false := by
  show kitB "NoneType" "tuple" = _
  decide +kernel
@[simp] theorem isi_non_dict : isiD .non "dict" = some false := by
  show kitB "NoneType" "dict" = _
  decide +kernel
@[simp] theorem isi_bl_int (b : Bool) : isiD (.bl b) "int" = some true := by
  show kitB "bool" "int" = _
  decide +kernel
@[simp] theorem isi_bl_bool (b : Bool) : isiD (.bl b) "bool" = some true := by
  show kitB "bool" "bool" = _
  decide +kernel
@[simp] theorem isi_bl_str (b : Bool) : isiD (.bl b) "str" = some false := by
  show kitB "bool" "str" = _
  decide +kernel
@[simp] theorem isi_bl_list (b : Bool) : isiD (.bl b) "list" = some false := by
  show kitB "bool" "list" = _
  decide +kernel
@[simp] theorem isi_bl_tuple (b : Bool) : isiD (.bl b) "tuple" = some false := by
  show kitB "bool" "tuple" = _
  decide +kernel
@[simp] theorem isi_bl_dict (b : Bool) : isiD (.bl b) "dict" = some false := by
  show kitB "bool" "dict" = _
  decide +kernel
@[simp] theorem isi_int_int (i : Int) : isiD (.int i) "int" = some true := by
  show kitB "int" "int" = _
  decide +kernel
@[simp] theorem isi_int_bool (i : Int) : isiD (.int i) "bool" = some false := by
  show kitB "int" "bool" = _
  decide +kernel
@[simp] theorem isi_int_str (i : Int) : isiD (.int i) "str" = some false := by
  show kitB "int" "str" = _
  decide +kernel
@[simp] theorem isi_int_list (i : Int) : isiD (.int i) "list" = some false := by
  show kitB "int" "list" = _
  decide +kernel
@[simp] theorem isi_int_tuple (i : Int) : isiD (.int i) "tuple" = some false := by
  show kitB "int" "tuple" = _
  decide +kernel
@[simp] theorem isi_int_dict (i : Int) : isiD (.int i) "dict" = some false := by
  show kitB "int" "dict" = _
  decide +kernel
@[simp] theorem isi_str_int (x : Str) : isiD (.str x) "int" = some false := by
  show kitB "str" "int" = _
  decide +kernel
@[simp] theorem isi_str_bool (x : Str) : isiD (.str x) "bool" = some false := by
  show kitB "str" "bool" = _
  decide +kernel
@[simp] theorem isi_str_str (x : Str) : isiD (.str x) "str" = some true := by
  show kitB "str" "str" = _
  decide +kernel
@[simp] theorem isi_str_list (x : Str) : isiD (.str x) "list" = some false := by
  show kitB "str" "list" = _
  decide +kernel
@[simp] theorem isi_str_tuple (x : Str) : isiD (.str x) "tuple" = some false := by
  show kitB "str" "tuple" = _
  decide +kernel
@[simp] theorem isi_str_dict (x : Str) : isiD (.str x) "dict" = some false := by
  show kitB "str" "dict" = _
  decide +kernel
@[simp] theorem isi_tup_int (ds : List D) : isiD (.tup ds) "int" = some false := by
  show kitB "tuple" "int" = _
  decide +kernel
@[simp] theorem isi_tup_bool (ds : List D) : isiD (.tup ds) "bool" = some false := by
  show kitB "tuple" "bool" = _
  decide +kernel
@[simp] theorem isi_tup_str (ds : List D) : isiD (.tup ds) "str" = some false := by
  show kitB "tuple" "str" = _
  decide +kernel
@[simp] theorem isi_tup_list (ds : List D) : isiD (.tup ds) "list" = some false := by
  show kitB "tuple" "list" = _
  decide +kernel
@[simp] theorem isi_tup_tuple (ds : List D) : isiD (.tup ds) "tuple" = some true := by
  show kitB "tuple" "tuple" = _
  decide +kernel
@[simp] theorem isi_tup_dict (ds : List D) : isiD (.tup ds) "dict" = some false := by
  show kitB "tuple" "dict" = _
  decide +kernel
@[simp] theorem isi_lst_int (ds : List D) : isiD (.lst ds) "int" = some false := by
  show kitB "list" "int" = _
  decide +kernel
@[simp] theorem isi_lst_bool (ds : List D) : isiD (.lst ds) "bool" = some false := by
  show kitB "list" "bool" = _
  decide +kernel
@[simp] theorem isi_lst_str (ds : List D) : isiD (.lst ds) "str" = some false := by
  show kitB "list" "str" = _
  decide +kernel
@[simp] theorem isi_lst_list (ds : List D) : isiD (.lst ds) "list" = some true := by
  show kitB "list" "list" = _
  decide +kernel
@[simp] theorem isi_lst_tuple (ds : List D) : isiD (.lst ds) "tuple" = some false := by
  show kitB "list" "tuple" = _
  decide +kernel
@[simp] theorem isi_lst_dict (ds : List D) : isiD (.lst ds) "dict" = some false := by
  show kitB "list" "dict" = _
  decide +kernel
@[simp] theorem isi_ll_int (ds : List D) : isiD (.ll ds) "int" = some false := by
  show kitB "list" "int" = _
  decide +kernel
@[simp] theorem isi_ll_bool (ds : List D) : isiD (.ll ds) "bool" = some false := by
  show kitB "list" "bool" = _
  decide +kernel
@[simp] theorem isi_ll_str (ds : List D) : isiD (.ll ds) "str" = some false := by
  show kitB "list" "str" = _
  decide +kernel
@[simp] theorem isi_ll_list (ds : List D) : isiD (.ll ds) "list" = some true := by
  show kitB "list" "list" = _
  decide +kernel
@[simp] theorem isi_ll_tuple (ds : List D) : isiD (.ll ds) "tuple" = some false := by
  show kitB "list" "tuple" = _
  decide +kernel
@[simp] theorem isi_ll_dict (ds : List D) : isiD (.ll ds) "dict" = some false := by
  show kitB "list" "dict" = _
  decide +kernel
@[simp] theorem isi_dct_int (kvs : List (Key × D)) : isiD (.dct kvs) "int" = some false := by
  show kitB "dict" "int" = _
  decide +kernel
@[simp] theorem isi_dct_bool (kvs : List (Key × D)) : isiD (.dct kvs) "bool" = some false := by
  show kitB "dict" "bool" = _
  decide +kernel
@[simp] theorem isi_dct_str (kvs : List (Key × D)) : isiD (.dct kvs) "str" = some false := by
  show kitB "dict" "str" = _
  decide +kernel
@[simp] theorem isi_dct_list (kvs : List (Key × D)) : isiD (.dct kvs) "list" = some false := by
  show kitB "dict" "list" = _
  decide +kernel
@[simp] theorem isi_dct_tuple (kvs : List (Key × D)) : isiD (.dct kvs) "tuple" = some false := by
  show kitB "dict" "tuple" = _
  decide +kernel
@[simp] theorem isi_dct_dict (kvs : List (Key × D)) : isiD (.dct kvs) "dict" = some true := by
  show kitB "dict" "dict" = _
  decide +kernel
@[simp] theorem isiA_nil (d : D) : isiA d [] = some false := rfl
@[simp] theorem isiA_cons (d : D) (T : String) (Ts : List String) : isiA d (T :: Ts) = match isiD d T with
    | some true => some true
    | some false => isiA d Ts
    | none => none := rfl
end VL

/-! evaluation, more: what came with VLQ to VLV -/
namespace VL
open PySem PySem.Spec PyProof.Rows L2
def ciJ (fs : FTab) (g : EM (List D)) (d : D) : EM D := fun ρ1 => match d with
  | .int k => (match atI fs k with
    | some q => e_call q.2.2 q.2.1 g ρ1
    | none => .bad)
  | _ => .bad
def tryJ (i j : Nat) (cs : List Str) (r : RS) : RS := match r with
  | .err c ρ' => if c ∈ cs then .next (((ρ'.set i (.dat (.exc c))).set j (.dat (.exc c))).set i .no) else .bad
  | r => r
def peekJ (ρ : Env) (r : RE D) : RE D := match r with
  | .ok d _ => if pureD d = true then .ok d ρ else .bad
  | .err c _ => .err c ρ
  | .bad => .bad
def tpeekJ (ρ : Env) (r : RE Bool) : RE Bool := match r with
  | .ok d _ => .ok d ρ
  | .err c _ => .err c ρ
  | .bad => .bad
def ixOJ (i : Nat) (w : D) : EM D := fun ρ1 => match ρ1[i]? with
  | some (.own o) => o2 (ownIx o w) ρ1
  | _ => .bad
def lmJ (h : List D → List D → Option (List D)) (i : Nat) (as : List D) : SM := fun ρ1 => match ρ1[i]? with
  | some (.own (.L ds)) => (match h ds as with
    | some ds' => .next (ρ1.set i (.own (.L ds')))
    | none => .bad)
  | _ => .bad
def popJ (h : List D → List D → Option (D × List D)) (i : Nat) (gf : D → Env → Option Env) (as : List D) : SM := fun ρ1 => match ρ1[i]? with
  | some (.own (.L ds)) => (match h ds as with
    | some (d, ds') => (match gf d (ρ1.set i (.own (.L ds'))) with
      | some ρ2 => .next ρ2
      | none => .bad)
    | none => .bad)
  | _ => .bad
def parJ (i j : Nat) (h : EM OD) (d : D) : SM := fun ρ1 => (h ρ1).to fun o ρ2 => .next ((ρ2.set i (.dat d)).set j (.own o))
def lixJ (g : EM (List D)) (x : D) : EM D := fun ρ1 => match x with
  | .lst ds => (g ρ1).bind fun ys => o2 (indexD (.lst ds) ys)
  | _ => .bad
section
variable {ρ : Env} {f : EM D} {g : EM (List D)} {i j : Nat}
@[simp] theorem e_callI_a (fs : FTab) : e_callI fs f g ρ = (f ρ).bind (ciJ fs g) := rfl
@[simp] theorem ciJ_a (fs : FTab) (k : Int) : ciJ fs g (.int k) ρ = match atI fs k with
  | some q => e_call q.2.2 q.2.1 g ρ
  | none => .bad := rfl
@[simp] theorem s_tryK_a (cs : List Str) (h : SM) : s_tryK i j cs h ρ = tryJ i j cs (h ρ) := rfl
@[simp] theorem try_next (cs : List Str) : tryJ i j cs (.next ρ) = .next ρ := rfl
@[simp] theorem try_ret (cs : List Str) (d : D) : tryJ i j cs (.ret d) = .ret d := rfl
@[simp] theorem try_err (cs : List Str) (c : Str) : tryJ i j cs (.err c ρ) = if c ∈ cs then .next (((ρ.set i (.dat (.exc c))).set j (.dat (.exc c))).set i .no) else .bad := rfl
@[simp] theorem e_isiX_a (yes no : List Str) : e_isiX yes no f ρ = (f ρ).bind fun d => o2 (isiX yes no d) := rfl
@[simp] theorem isiX_a (yes no : List Str) (c : Str) : isiX yes no (.exc c) = if c ∈ yes then some (.bl true) else if c ∈ no then some (.bl false) else none := rfl
@[simp] theorem e_peek_a : e_peek f ρ = peekJ ρ (f ρ) := rfl
@[simp] theorem peek_ok {ρ' : Env} (d : D) : peekJ ρ (.ok d ρ') = if pureD d = true then .ok d ρ else .bad := rfl
@[simp] theorem t_peek_a (t : EM Bool) : t_peek t ρ = tpeekJ ρ (t ρ) := rfl
@[simp] theorem tpeek_ok {ρ' : Env} (d : Bool) : tpeekJ ρ (.ok d ρ') = .ok d ρ := rfl
@[simp] theorem e_subO_a : e_subO i f ρ = match ρ[i]? with
  | some (.own _) => (f ρ).bind (ixOJ i)
  | _ => .bad := rfl
@[simp] theorem ixOJ_a (w : D) : ixOJ i w ρ = match ρ[i]? with
  | some (.own o) => o2 (ownIx o w) ρ
  | _ => .bad := rfl
@[simp] theorem ownIx_L (ds : List D) (k : Int) : ownIx (.L ds) (.int k) = atI ds k := rfl
@[simp] theorem ownIx_K (kvs : List (Key × D)) (w : D) : ownIx (.K kvs) w = (keyD w).bind fun k => valK kvs k := rfl
@[simp] theorem s_lmeth_a (h : List D → List D → Option (List D)) : s_lmeth h i g ρ = match ρ[i]? with
  | some (.own (.L _)) => (g ρ).to (lmJ h i)
  | _ => .bad := rfl
@[simp] theorem lmJ_a (h : List D → List D → Option (List D)) (as : List D) : lmJ h i as ρ = match ρ[i]? with
  | some (.own (.L ds)) => (match h ds as with
    | some ds' => .next (ρ.set i (.own (.L ds')))
    | none => .bad)
  | _ => .bad := rfl
@[simp] theorem s_popset_a (h : List D → List D → Option (D × List D)) (gf : D → Env → Option Env) : s_popset h i g gf ρ = match ρ[i]? with
  | some (.own (.L _)) => (g ρ).to (popJ h i gf)
  | _ => .bad := rfl
@[simp] theorem popJ_a (h : List D → List D → Option (D × List D)) (gf : D → Env → Option Env) (as : List D) : popJ h i gf as ρ = match ρ[i]? with
  | some (.own (.L ds)) => (match h ds as with
    | some (d, ds') => (match gf d (ρ.set i (.own (.L ds'))) with
      | some ρ2 => .next ρ2
      | none => .bad)
    | none => .bad)
  | _ => .bad := rfl
@[simp] theorem s_parDN_a (h : EM OD) : s_parDN i j f h ρ = (f ρ).to (parJ i j h) := rfl
@[simp] theorem parJ_a (h : EM OD) (d : D) : parJ i j h d ρ = (h ρ).to fun o ρ2 => .next ((ρ2.set i (.dat d)).set j (.own o)) := rfl
@[simp] theorem e_lindex_a : e_lindex f g ρ = (f ρ).bind (lixJ g) := rfl
@[simp] theorem lixJ_a (ds : List D) : lixJ g (.lst ds) ρ = (g ρ).bind fun ys => o2 (indexD (.lst ds) ys) := rfl
@[simp] theorem i_enum_a : i_enum g ρ = (g ρ).bind fun ds => o2 (match ds with
  | [.lst as] => some (enumD 0 as)
  | [.ll as] => some (enumD 0 as)
  | [.tup as] => some (enumD 0 as)
  | [.str x] => some (enumD 0 (signsD x))
  | _ => none) := rfl
@[simp] theorem intC_i (k : Int) : intC [.int k] = some (.int k) := rfl
@[simp] theorem intC_b (b : Bool) : intC [.bl b] = some (.int (if b then 1 else 0)) := rfl
@[simp] theorem n_cat_a (h : EM D) : n_cat f h ρ = (f ρ).bind fun x => emB h fun w => o2 (match x, w with
  | .lst as, .lst bs => if as.length + bs.length ≤ 16777216 then some (.L (as ++ bs)) else none
  | _, _ => none) := rfl
@[simp] theorem pure_non : pureD .non = true := rfl
@[simp] theorem pure_bl (b : Bool) : pureD (.bl b) = true := rfl
@[simp] theorem pure_int (k : Int) : pureD (.int k) = true := rfl
@[simp] theorem pure_str (x : Str) : pureD (.str x) = true := rfl
@[simp] theorem pure_tup (xs : List D) : pureD (.tup xs) = pureD.pureL xs := rfl
@[simp] theorem pureL_nil : pureD.pureL [] = true := rfl
@[simp] theorem pureL_cons (d : D) (ds : List D) : pureD.pureL (d :: ds) = (pureD d && pureD.pureL ds) := rfl
@[simp] theorem enumD_nil (k : Nat) : enumD k [] = [] := rfl
@[simp] theorem isND_x (b : Bool) (c : Str) : isND b (.exc c) .non = some (.bl b) := rfl
@[simp] theorem isND_n (b : Bool) : isND b .non .non = some (.bl (!b)) := rfl
@[simp] theorem isND_s (b : Bool) (x : Str) : isND b (.str x) .non = some (.bl b) := rfl
@[simp] theorem isND_t (b : Bool) (xs : List D) : isND b (.tup xs) .non = some (.bl b) := rfl
@[simp] theorem isND_l (b : Bool) (xs : List D) : isND b (.lst xs) .non = some (.bl b) := rfl
@[simp] theorem isND_i (b : Bool) (k : Int) : isND b (.int k) .non = some (.bl b) := rfl
@[simp] theorem isND_b (b c : Bool) : isND b (.bl c) .non = some (.bl b) := rfl
@[simp] theorem repD_l (xs : List D) (k : Int) : repD (.lst xs) (.int k) = if -1000000 ≤ k ∧ k ≤ 1000000 ∧ xs.length * k.toNat ≤ 16777216 then some (.lst (List.replicate k.toNat xs).flatten) else none := rfl
@[simp] theorem powD_i (a b : Int) : powD (.int a) (.int b) = if 0 ≤ b ∧ b ≤ 1000 ∧ a.natAbs < 18446744073709551616 then some (.int (a ^ b.toNat)) else none := rfl
/-! the refusals' names -/
@[simp] theorem ne_Full_NoBack : (Str.ofString "Full" = Str.ofString "NoBack") = False := by
  rw [eq_iff_iff, iff_false]
  decide +kernel
@[simp] theorem ne_Full_NoBook : (Str.ofString "Full" = Str.ofString "NoBook") = False := by
  rw [eq_iff_iff, iff_false]
  decide +kernel
@[simp] theorem ne_Full_NoName : (Str.ofString "Full" = Str.ofString "NoName") = False := by
  rw [eq_iff_iff, iff_false]
  decide +kernel
@[simp] theorem ne_Full_NoNumber : (Str.ofString "Full" = Str.ofString "NoNumber") = False := by
  rw [eq_iff_iff, iff_false]
  decide +kernel
@[simp] theorem ne_Full_NoText : (Str.ofString "Full" = Str.ofString "NoText") = False := by
  rw [eq_iff_iff, iff_false]
  decide +kernel
@[simp] theorem ne_Full_NotThere : (Str.ofString "Full" = Str.ofString "NotThere") = False := by
  rw [eq_iff_iff, iff_false]
  decide +kernel
@[simp] theorem ne_Full_NoPattern : (Str.ofString "Full" = Str.ofString "NoPattern") = False := by
  rw [eq_iff_iff, iff_false]
  decide +kernel
@[simp] theorem ne_Full_ShareError : (Str.ofString "Full" = Str.ofString "ShareError") = False := by
  rw [eq_iff_iff, iff_false]
  decide +kernel
@[simp] theorem ne_NoBack_Full : (Str.ofString "NoBack" = Str.ofString "Full") = False := by
  rw [eq_iff_iff, iff_false]
  decide +kernel
@[simp] theorem ne_NoBack_NoBook : (Str.ofString "NoBack" = Str.ofString "NoBook") = False := by
  rw [eq_iff_iff, iff_false]
  decide +kernel
@[simp] theorem ne_NoBack_NoName : (Str.ofString "NoBack" = Str.ofString "NoName") = False := by
  rw [eq_iff_iff, iff_false]
  decide +kernel
@[simp] theorem ne_NoBack_NoNumber : (Str.ofString "NoBack" = Str.ofString "NoNumber") = False := by
  rw [eq_iff_iff, iff_false]
  decide +kernel
@[simp] theorem ne_NoBack_NoText : (Str.ofString "NoBack" = Str.ofString "NoText") = False := by
  rw [eq_iff_iff, iff_false]
  decide +kernel
@[simp] theorem ne_NoBack_NotThere : (Str.ofString "NoBack" = Str.ofString "NotThere") = False := by
  rw [eq_iff_iff, iff_false]
  decide +kernel
@[simp] theorem ne_NoBack_NoPattern : (Str.ofString "NoBack" = Str.ofString "NoPattern") = False := by
  rw [eq_iff_iff, iff_false]
  decide +kernel
@[simp] theorem ne_NoBack_ShareError : (Str.ofString "NoBack" = Str.ofString "ShareError") = False := by
  rw [eq_iff_iff, iff_false]
  decide +kernel
@[simp] theorem ne_NoBook_Full : (Str.ofString "NoBook" = Str.ofString "Full") = False := by
  rw [eq_iff_iff, iff_false]
  decide +kernel
@[simp] theorem ne_NoBook_NoBack : (Str.ofString "NoBook" = Str.ofString "NoBack") = False := by
  rw [eq_iff_iff, iff_false]
  decide +kernel
@[simp] theorem ne_NoBook_NoName : (Str.ofString "NoBook" = Str.ofString "NoName") = False := by
  rw [eq_iff_iff, iff_false]
  decide +kernel
@[simp] theorem ne_NoBook_NoNumber : (Str.ofString "NoBook" = Str.ofString "NoNumber") = False := by
  rw [eq_iff_iff, iff_false]
  decide +kernel
@[simp] theorem ne_NoBook_NoText : (Str.ofString "NoBook" = Str.ofString "NoText") = False := by
  rw [eq_iff_iff, iff_false]
  decide +kernel
@[simp] theorem ne_NoBook_NotThere : (Str.ofString "NoBook" = Str.ofString "NotThere") = False := by
  rw [eq_iff_iff, iff_false]
  decide +kernel
@[simp] theorem ne_NoBook_NoPattern : (Str.ofString "NoBook" = Str.ofString "NoPattern") = False := by
  rw [eq_iff_iff, iff_false]
  decide +kernel
@[simp] theorem ne_NoBook_ShareError : (Str.ofString "NoBook" = Str.ofString "ShareError") = False := by
  rw [eq_iff_iff, iff_false]
  decide +kernel
@[simp] theorem ne_NoName_Full : (Str.ofString "NoName" = Str.ofString "Full") = False := by
  rw [eq_iff_iff, iff_false]
  decide +kernel
@[simp] theorem ne_NoName_NoBack : (Str.ofString "NoName" = Str.ofString "NoBack") = False := by
  rw [eq_iff_iff, iff_false]
  decide +kernel
@[simp] theorem ne_NoName_NoBook : (Str.ofString "NoName" = Str.ofString "NoBook") = False := by
  rw [eq_iff_iff, iff_false]
  decide +kernel
@[simp] theorem ne_NoName_NoNumber : (Str.ofString "NoName" = Str.ofString "NoNumber") = False := by
  rw [eq_iff_iff, iff_false]
  decide +kernel
@[simp] theorem ne_NoName_NoText : (Str.ofString "NoName" = Str.ofString "NoText") = False := by
  rw [eq_iff_iff, iff_false]
  decide +kernel
@[simp] theorem ne_NoName_NotThere : (Str.ofString "NoName" = Str.ofString "NotThere") = False := by
  rw [eq_iff_iff, iff_false]
  decide +kernel
@[simp] theorem ne_NoName_NoPattern : (Str.ofString "NoName" = Str.ofString "NoPattern") = False := by
  rw [eq_iff_iff, iff_false]
  decide +kernel
@[simp] theorem ne_NoName_ShareError : (Str.ofString "NoName" = Str.ofString "ShareError") = False := by
  rw [eq_iff_iff, iff_false]
  decide +kernel
@[simp] theorem ne_NoNumber_Full : (Str.ofString "NoNumber" = Str.ofString "Full") = False := by
  rw [eq_iff_iff, iff_false]
  decide +kernel
@[simp] theorem ne_NoNumber_NoBack : (Str.ofString "NoNumber" = Str.ofString "NoBack") = False := by
  rw [eq_iff_iff, iff_false]
  decide +kernel
@[simp] theorem ne_NoNumber_NoBook : (Str.ofString "NoNumber" = Str.ofString "NoBook") = False := by
  rw [eq_iff_iff, iff_false]
  decide +kernel
@[simp] theorem ne_NoNumber_NoName : (Str.ofString "NoNumber" = Str.ofString "NoName") = False := by
  rw [eq_iff_iff, iff_false]
  decide +kernel
@[simp] theorem ne_NoNumber_NoText : (Str.ofString "NoNumber" = Str.ofString "NoText") = False := by
  rw [eq_iff_iff, iff_false]
  decide +kernel
@[simp] theorem ne_NoNumber_NotThere : (Str.ofString "NoNumber" = Str.ofString "NotThere") = False := by
  rw [eq_iff_iff, iff_false]
  decide +kernel
@[simp] theorem ne_NoNumber_NoPattern : (Str.ofString "NoNumber" = Str.ofString "NoPattern") = False := by
  rw [eq_iff_iff, iff_false]
  decide +kernel
@[simp] theorem ne_NoNumber_ShareError : (Str.ofString "NoNumber" = Str.ofString "ShareError") = False := by
  rw [eq_iff_iff, iff_false]
  decide +kernel
@[simp] theorem ne_NoText_Full : (Str.ofString "NoText" = Str.ofString "Full") = False := by
  rw [eq_iff_iff, iff_false]
  decide +kernel
@[simp] theorem ne_NoText_NoBack : (Str.ofString "NoText" = Str.ofString "NoBack") = False := by
  rw [eq_iff_iff, iff_false]
  decide +kernel
@[simp] theorem ne_NoText_NoBook : (Str.ofString "NoText" = Str.ofString "NoBook") = False := by
  rw [eq_iff_iff, iff_false]
  decide +kernel
@[simp] theorem ne_NoText_NoName : (Str.ofString "NoText" = Str.ofString "NoName") = False := by
  rw [eq_iff_iff, iff_false]
  decide +kernel
@[simp] theorem ne_NoText_NoNumber : (Str.ofString "NoText" = Str.ofString "NoNumber") = False := by
  rw [eq_iff_iff, iff_false]
  decide +kernel
@[simp] theorem ne_NoText_NotThere : (Str.ofString "NoText" = Str.ofString "NotThere") = False := by
  rw [eq_iff_iff, iff_false]
  decide +kernel
@[simp] theorem ne_NoText_NoPattern : (Str.ofString "NoText" = Str.ofString "NoPattern") = False := by
  rw [eq_iff_iff, iff_false]
  decide +kernel
@[simp] theorem ne_NoText_ShareError : (Str.ofString "NoText" = Str.ofString "ShareError") = False := by
  rw [eq_iff_iff, iff_false]
  decide +kernel
@[simp] theorem ne_NotThere_Full : (Str.ofString "NotThere" = Str.ofString "Full") = False := by
  rw [eq_iff_iff, iff_false]
  decide +kernel
@[simp] theorem ne_NotThere_NoBack : (Str.ofString "NotThere" = Str.ofString "NoBack") = False := by
  rw [eq_iff_iff, iff_false]
  decide +kernel
@[simp] theorem ne_NotThere_NoBook : (Str.ofString "NotThere" = Str.ofString "NoBook") = False := by
  rw [eq_iff_iff, iff_false]
  decide +kernel
@[simp] theorem ne_NotThere_NoName : (Str.ofString "NotThere" = Str.ofString "NoName") = False := by
  rw [eq_iff_iff, iff_false]
  decide +kernel
@[simp] theorem ne_NotThere_NoNumber : (Str.ofString "NotThere" = Str.ofString "NoNumber") = False := by
  rw [eq_iff_iff, iff_false]
  decide +kernel
@[simp] theorem ne_NotThere_NoText : (Str.ofString "NotThere" = Str.ofString "NoText") = False := by
  rw [eq_iff_iff, iff_false]
  decide +kernel
@[simp] theorem ne_NotThere_NoPattern : (Str.ofString "NotThere" = Str.ofString "NoPattern") = False := by
  rw [eq_iff_iff, iff_false]
  decide +kernel
@[simp] theorem ne_NotThere_ShareError : (Str.ofString "NotThere" = Str.ofString "ShareError") = False := by
  rw [eq_iff_iff, iff_false]
  decide +kernel
@[simp] theorem ne_NoPattern_Full : (Str.ofString "NoPattern" = Str.ofString "Full") = False := by
  rw [eq_iff_iff, iff_false]
  decide +kernel
@[simp] theorem ne_NoPattern_NoBack : (Str.ofString "NoPattern" = Str.ofString "NoBack") = False := by
  rw [eq_iff_iff, iff_false]
  decide +kernel
@[simp] theorem ne_NoPattern_NoBook : (Str.ofString "NoPattern" = Str.ofString "NoBook") = False := by
  rw [eq_iff_iff, iff_false]
  decide +kernel
@[simp] theorem ne_NoPattern_NoName : (Str.ofString "NoPattern" = Str.ofString "NoName") = False := by
  rw [eq_iff_iff, iff_false]
  decide +kernel
@[simp] theorem ne_NoPattern_NoNumber : (Str.ofString "NoPattern" = Str.ofString "NoNumber") = False := by
  rw [eq_iff_iff, iff_false]
  decide +kernel
@[simp] theorem ne_NoPattern_NoText : (Str.ofString "NoPattern" = Str.ofString "NoText") = False := by
  rw [eq_iff_iff, iff_false]
  decide +kernel
@[simp] theorem ne_NoPattern_NotThere : (Str.ofString "NoPattern" = Str.ofString "NotThere") = False := by
  rw [eq_iff_iff, iff_false]
  decide +kernel
@[simp] theorem ne_NoPattern_ShareError : (Str.ofString "NoPattern" = Str.ofString "ShareError") = False := by
  rw [eq_iff_iff, iff_false]
  decide +kernel
@[simp] theorem ne_ShareError_Full : (Str.ofString "ShareError" = Str.ofString "Full") = False := by
  rw [eq_iff_iff, iff_false]
  decide +kernel
@[simp] theorem ne_ShareError_NoBack : (Str.ofString "ShareError" = Str.ofString "NoBack") = False := by
  rw [eq_iff_iff, iff_false]
  decide +kernel
@[simp] theorem ne_ShareError_NoBook : (Str.ofString "ShareError" = Str.ofString "NoBook") = False := by
  rw [eq_iff_iff, iff_false]
  decide +kernel
@[simp] theorem ne_ShareError_NoName : (Str.ofString "ShareError" = Str.ofString "NoName") = False := by
  rw [eq_iff_iff, iff_false]
  decide +kernel
@[simp] theorem ne_ShareError_NoNumber : (Str.ofString "ShareError" = Str.ofString "NoNumber") = False := by
  rw [eq_iff_iff, iff_false]
  decide +kernel
@[simp] theorem ne_ShareError_NoText : (Str.ofString "ShareError" = Str.ofString "NoText") = False := by
  rw [eq_iff_iff, iff_false]
  decide +kernel
@[simp] theorem ne_ShareError_NotThere : (Str.ofString "ShareError" = Str.ofString "NotThere") = False := by
  rw [eq_iff_iff, iff_false]
  decide +kernel
@[simp] theorem ne_ShareError_NoPattern : (Str.ofString "ShareError" = Str.ofString "NoPattern") = False := by
  rw [eq_iff_iff, iff_false]
  decide +kernel
end
def lrngO (d : D) : Option OD := match d with
  | .int n => if 0 ≤ n ∧ n ≤ 16777216 then some (.L (rangeD 0 n.toNat)) else none
  | _ => none
section
variable {ρ : Env}
@[simp] theorem n_if_a (tf : EM Bool) (f g : EM OD) : n_if tf f g ρ = (tf ρ).bind fun t => if t then f else g := rfl
@[simp] theorem n_lrng_a (h : EM D) : n_lrng h ρ = (h ρ).bind fun d => o2 (lrngO d) := rfl
@[simp] theorem lrngO_i (n : Int) : lrngO (.int n) = if 0 ≤ n ∧ n ≤ 16777216 then some (.L (rangeD 0 n.toNat)) else none := rfl
@[simp] theorem listSO_s (x : Str) : listSO [.str x] = if szB x.length = true then some (.L (signsD x)) else none := by
  rw [← sz_ite]
  rfl
@[simp] theorem sortTO_s (x : Str) : sortTO [.str x] = if szB x.length = true then some (.L ((sortS (x.cps.toList.map fun c => (⟨#[c]⟩ : Str))).map .str)) else none := by
  rw [← sz_ite]
  rfl
end
end VL

namespace VL
open PySem PySem.Spec PyProof.Rows L2
theorem rep_ints (Y : Yc) (H : Hp) : ∀ ns : List Int, RepL Y H (ns.map V.int) (ns.map D.int)
  | [] => .nil
  | i :: ns => .cons (.int i) (rep_ints Y H ns)
/-- the law's end: its function of values says True of every script -/
theorem law_end {l : PySem.W.OpenLaw} {n k : Nat} {q : Program} {loose : List Str} {XP : (Str → Option Value) → Heap → Prop} {YP : World → Heap → Prop} {d : DefRec} {x : Str} {G : List D → RF} {at_ : PySem.W.Frag → V → Str → Prop} {ca : PySem.W.Frag → Str → Addr}
    (hn : l.most = some n) (hn2 : n ≤ sizeLine) (hdf : d.params.defaults = []) (hr : Room k callerA)
    (F : ∀ (w : World) (mg : Str → Option Value) (fa : Addr) (h : Heap), YP w h → h.Ns mainGlobals mg → mg d.name = some (.ref fa) →
      ∃ (K : PySem.W.Frag) (fd : FuncData), K.In h ∧ (∀ (s : Shared) (u : Value), BindsTo s fd ⟨[u], []⟩ [(x, u)]) ∧ ∀ base : Heap, K.In base → base.Ns mainGlobals mg → FnOk l.prog w K mg base (L2.CX l.prog w) k fa fd [x] (spV ⟨K, at_ K, ca K⟩ 1 G))
    (law : ∀ ns : List Int, ns.length ≤ n → G [.ll (ns.map D.int)] = .ok (.bl true)) :
    PySem.W.WalkO q loose XP YP l.row.toRowW d [] (fun f vs => PySem.call f vs) := by
  refine Att.attach_call hn hdf fun w s0 s1 mg mb fa ob pm cd doc a vs ns Gd Yw ho hd hcd hmg hobj hints hlen hgen => ?_
  obtain ⟨K, fd, KX, hb, hF⟩ := F w mg fa _ Yw Gd.T.g hmg
  refine law_call KX Gd.T.g Gd.T.b Gd.T.builtins Gd.T.nolimit hgen hobj hints (Nat.le_trans hlen hn2) hr hF hb (fun H hO hS => ?_) ?_
  · refine ⟨H, [.ll (ns.map D.int)], fun _ _ e => e, .cons (.ll hS (rep_ints _ _ ns)) .nil, rfl, ?_⟩
    rw [law ns hlen]
    intro v Hs' H' _ r
    cases r
    rfl
  · intro H e s' h
    obtain ⟨_, _, _, _, _, _, _, _, _, _, _, _, z⟩ := h
    exact z
/-! ### facts more: of exception classes -/
inductive Fx where
  /-- isinstance of the classes yes, no by the own class x | the built-in class T -/
  | isC (x : Str) (yes no : List Str) | isT (T : String) (yes no : List Str)
  /-- how isinstance asks these classes' exceptions -/
  | exC (cs : List Str)
  /-- an except clause with x takes these -/
  | exm (x : Str) (cs : List Str)
def isB (K : PySem.W.Frag) (u : Value) (b : Bool) (cs : List Str) : Bool := cs.all fun c => decide (PySem.W.kitOne K (.ref (He.ga K c)) u = some b)
def exCB (K : PySem.W.Frag) (D : Addr) : Bool :=
  He.eqO (PySem.W.findIn K (.ref D) "__getattribute__") (some (some (.builtin "BaseException.__getattribute__"))) && (He.eqO (PySem.W.findIn K (.ref D) "__getattr__") (some none) && (decide (PySem.W.subIn K (.ref D) (.type "BaseException") = some true) && (PySem.W.hasDictIn K D &&
    (He.eqO (PySem.W.findIn K (.ref D) "__class__") (some (some (.builtin "object.__class__"))) && (He.eqO (PySem.W.specialIn K (.builtin "object.__class__") "__get__") (some (some (.builtin "getset_descriptor.__get__"))) && (decide (PySem.W.takesIn K (.builtin "object.__class__") = some true) && decide (PySem.W.mroIn K D (.type "object") = some true)))))))
theorem exCB_ok {K : PySem.W.Frag} {D : Addr} (h : exCB K D = true) : ExcC K D := by
  obtain ⟨h1, h⟩ := He.ba h
  obtain ⟨h2, h⟩ := He.ba h
  obtain ⟨h3, h⟩ := He.ba h
  obtain ⟨h4, h⟩ := He.ba h
  obtain ⟨h5, h⟩ := He.ba h
  obtain ⟨h6, h⟩ := He.ba h
  obtain ⟨h7, h8⟩ := He.ba h
  exact ⟨He.eqO_ok h1, He.eqO_ok h2, of_decide_eq_true h3, h4, He.eqO_ok h5, He.eqO_ok h6, of_decide_eq_true h7, of_decide_eq_true h8⟩
def Fx.ok (K : PySem.W.Frag) : Fx → Bool
  | .isC x yes no => isB K (.ref (He.ga K x)) true yes && isB K (.ref (He.ga K x)) false no
  | .isT T yes no => isB K (.type T) true yes && isB K (.type T) false no
  | .exC cs => cs.all fun c => exCB K (He.ga K c)
  | .exm x cs => cs.all fun c => decide (PySem.W.exmOne K (.ref (He.ga K c)) (.ref (He.ga K x)) = some true)
theorem isKB_ok {K : PySem.W.Frag} {u : Value} {b : Bool} {cs : List Str} (h : isB K u b cs = true) : ∀ c ∈ cs, PySem.W.kitOne K (.ref (He.ga K c)) u = some b := fun c m => of_decide_eq_true (List.all_eq_true.mp h c m)
section
variable {K : PySem.W.Frag}
theorem isC_ok {x : Str} {yes no : List Str} (h : (Fx.isC x yes no).ok K = true) : (∀ c ∈ yes, PySem.W.kitOne K (.ref (He.ga K c)) (.ref (He.ga K x)) = some true) ∧ ∀ c ∈ no, PySem.W.kitOne K (.ref (He.ga K c)) (.ref (He.ga K x)) = some false :=
  let z := He.ba h; ⟨isKB_ok z.1, isKB_ok z.2⟩
theorem isT_ok {T : String} {yes no : List Str} (h : (Fx.isT T yes no).ok K = true) : (∀ c ∈ yes, PySem.W.kitOne K (.ref (He.ga K c)) (.type T) = some true) ∧ ∀ c ∈ no, PySem.W.kitOne K (.ref (He.ga K c)) (.type T) = some false :=
  let z := He.ba h; ⟨isKB_ok z.1, isKB_ok z.2⟩
theorem exC_ok {cs : List Str} (h : (Fx.exC cs).ok K = true) : ∀ c ∈ cs, ExcC K (He.ga K c) := fun c m => exCB_ok (List.all_eq_true.mp h c m)
theorem exm_okX {x : Str} {cs : List Str} (h : (Fx.exm x cs).ok K = true) : ∀ c ∈ cs, PySem.W.exmOne K (.ref (He.ga K c)) (.ref (He.ga K x)) = some true := fun c m => of_decide_eq_true (List.all_eq_true.mp h c m)
end
/-! ### the head's Hook with these -/
def obsX (fa : List He.Fa) (fx : List Fx) (fn : List He.DefD) (K : PySem.W.Frag) : He.AlD := ((He.obsD fa fn K).1 && fx.all fun f => f.ok K, (He.obsD fa fn K).2)
def SaysX (fa : List He.Fa) (fx : List Fx) (fn : List He.DefD) (K : PySem.W.Frag) : Prop := obsX fa fx fn K = He.valD fn
def obsXG (n : Nat) (fa : List He.Fa) (fx : List Fx) (fn : List He.DefD) (g : Addr → Option Obj) : He.AlD := obsX fa fx fn (He.frG g (He.asD g n))
def hookX (n : Nat) (fa : List He.Fa) (fx : List Fx) (fn : List He.DefD) : PySem.W.Hook where
  α := He.AlD
  obs := fun s => obsXG n fa fx fn s.heap.get?
  val := fun _ => He.valD fn
  says := fun _ h => ∃ K : PySem.W.Frag, K.In h ∧ SaysX fa fx fn K
  of := fun _ _ e => ⟨_, He.frG_in, e⟩
  keeps := fun _ _ _ ⟨K, hK, c⟩ k => ⟨K, PySem.W.Frag.In.keeps hK k, c⟩
theorem obsXG_eq {n : Nat} {fa : List He.Fa} {fx : List Fx} {fn : List He.DefD} {g : Addr → Option Obj} {s : Shared} (h : ∀ a, g a = s.heap.get? a) : obsXG n fa fx fn g = (hookX n fa fx fn).obs s := by
  have e : g = s.heap.get? := funext h
  rw [e] <;> rfl
section
variable {fa : List He.Fa} {fx : List Fx} {fn : List He.DefD} {K : PySem.W.Frag}
theorem SaysX.base (c : SaysX fa fx fn K) : He.SaysD fa fn K := by
  have h1 : ((He.obsD fa fn K).1 && fx.all fun f => f.ok K) = true := congrArg (fun z : He.AlD => z.1) c
  have h2 : (He.obsD fa fn K).2 = fn.map He.DefD.val := congrArg (fun z : He.AlD => z.2) c
  exact Prod.ext (He.ba h1).1 h2
theorem SaysX.more (c : SaysX fa fx fn K) (i : Nat) {f : Fx} (h : fx[i]? = some f := by rfl) : f.ok K = true := by
  have h1 : ((He.obsD fa fn K).1 && fx.all fun f => f.ok K) = true := congrArg (fun z : He.AlD => z.1) c
  exact List.all_eq_true.mp (He.ba h1).2 f (List.mem_of_getElem? h)
end
end VL

/-! the plain law, one: texts as lists of signs, loops, names, pairs, books -/
namespace VL
open PySem PySem.Spec PyProof.Rows L2
/-! ### loops -/
theorem lc_run {ρ0 : Env} {vs : List Nat} {tg : D → Env → Option Env} {tt : EM Bool} {te : EM D} (w : Env) (fx : D → Option D) : ∀ {ds : List D} {ρ : Env} {acc : List D},
    (∀ d ∈ ds, ∃ ρ1, tg d w = some ρ1 ∧ ((∃ ρ2 ρ3 x, tt ρ1 = .ok true ρ2 ∧ te ρ2 = .ok x ρ3 ∧ wipeE ρ3 vs = w ∧ fx d = some x) ∨ (∃ ρ2, tt ρ1 = .ok false ρ2 ∧ wipeE ρ2 vs = w ∧ fx d = none))) →
    wipeE ρ vs = w → wipeE w vs = w → unwipe ρ0 vs ρ = unwipe ρ0 vs w → acc.length + ds.length ≤ 16777216 →
    lcD ρ0 vs tg tt te ds ρ acc = .ok (.L (acc ++ ds.filterMap fx)) (unwipe ρ0 vs w)
  | [], ρ, acc, _, _, _, hu, _ => by
    show RE.ok (OD.L acc) (unwipe ρ0 vs ρ) = _
    rw [hu]
    simp
  | d :: ds, ρ, acc, h, hw, hww, hu, hl => by
    obtain ⟨ρ1, e1, h1⟩ := h d (List.mem_cons_self ..)
    have rest := fun d' (m : d' ∈ ds) => h d' (List.mem_cons_of_mem _ m)
    have hl' : acc.length + (ds.length + 1) ≤ 16777216 := hl
    unfold lcD
    rw [hw, e1]
    rcases h1 with ⟨ρ2, ρ3, x, e2, e3, e4, e5⟩ | ⟨ρ2, e2, e4, e5⟩
    · simp only [e2, e3]
      rw [if_pos (by omega), e4, lc_run w fx rest hww hww rfl (by rw [List.length_append]; simp; omega)]
      simp [e5]
    · simp only [e2]
      rw [e4, lc_run w fx rest hww hww rfl (by omega)]
      simp [e5]
/-- a comprehension without a test, of one value each -/
theorem lc_map {α : Type} {ρ0 : Env} {vs : List Nat} {tg : D → Env → Option Env} {te : EM D} {enc : α → D} (w : Env) (fx : α → D) {l : List α} {ρ : Env}
    (h : ∀ a ∈ l, ∃ ρ1 ρ3, tg (enc a) w = some ρ1 ∧ te ρ1 = .ok (fx a) ρ3 ∧ wipeE ρ3 vs = w) (hw : wipeE ρ vs = w) (hww : wipeE w vs = w) (hu : unwipe ρ0 vs ρ = unwipe ρ0 vs w) (hl : l.length ≤ 16777216) :
    lcD ρ0 vs tg t_yes te (l.map enc) ρ [] = .ok (.L (l.map fx)) (unwipe ρ0 vs w) := by
  have key : ∀ (l : List α) (ρ : Env) (acc : List D), (∀ a ∈ l, ∃ ρ1 ρ3, tg (enc a) w = some ρ1 ∧ te ρ1 = .ok (fx a) ρ3 ∧ wipeE ρ3 vs = w) → wipeE ρ vs = w → unwipe ρ0 vs ρ = unwipe ρ0 vs w → acc.length + l.length ≤ 16777216 →
      lcD ρ0 vs tg t_yes te (l.map enc) ρ acc = .ok (.L (acc ++ l.map fx)) (unwipe ρ0 vs w) := by
    intro l
    induction l with
    | nil =>
      intro ρ acc _ _ hu _
      show RE.ok (OD.L acc) (unwipe ρ0 vs ρ) = _
      rw [hu]
      simp
    | cons a l ih =>
      intro ρ acc h hw hu hl
      obtain ⟨ρ1, ρ3, e1, e2, e3⟩ := h a (List.mem_cons_self ..)
      have hl' : acc.length + (l.length + 1) ≤ 16777216 := hl
      rw [List.map_cons]
      unfold lcD
      rw [hw, e1]
      simp only [t_yes_a, e2]
      rw [if_pos (by omega), e3, ih w _ (fun a m => h a (List.mem_cons_of_mem _ m)) hww rfl (by rw [List.length_append]; simp; omega)]
      simp
  have := key l ρ [] h hw hu (by simpa using hl)
  simpa using this
/-- a comprehension with a test -/
theorem lc_filter {α : Type} {ρ0 : Env} {vs : List Nat} {tg : D → Env → Option Env} {tt : EM Bool} {te : EM D} {enc : α → D} (w : Env) (p : α → Bool) (fx : α → D) {l : List α} {ρ : Env}
    (h : ∀ a ∈ l, ∃ ρ1 ρ2, tg (enc a) w = some ρ1 ∧ tt ρ1 = .ok (p a) ρ2 ∧ wipeE ρ2 vs = w ∧ (p a = true → ∃ ρ3, te ρ2 = .ok (fx a) ρ3 ∧ wipeE ρ3 vs = w)) (hw : wipeE ρ vs = w) (hww : wipeE w vs = w) (hu : unwipe ρ0 vs ρ = unwipe ρ0 vs w) (hl : l.length ≤ 16777216) :
    lcD ρ0 vs tg tt te (l.map enc) ρ [] = .ok (.L ((l.filter p).map fx)) (unwipe ρ0 vs w) := by
  have key : ∀ (l : List α) (ρ : Env) (acc : List D), (∀ a ∈ l, ∃ ρ1 ρ2, tg (enc a) w = some ρ1 ∧ tt ρ1 = .ok (p a) ρ2 ∧ wipeE ρ2 vs = w ∧ (p a = true → ∃ ρ3, te ρ2 = .ok (fx a) ρ3 ∧ wipeE ρ3 vs = w)) → wipeE ρ vs = w → unwipe ρ0 vs ρ = unwipe ρ0 vs w → acc.length + l.length ≤ 16777216 →
      lcD ρ0 vs tg tt te (l.map enc) ρ acc = .ok (.L (acc ++ (l.filter p).map fx)) (unwipe ρ0 vs w) := by
    intro l
    induction l with
    | nil =>
      intro ρ acc _ _ hu _
      show RE.ok (OD.L acc) (unwipe ρ0 vs ρ) = _
      rw [hu]
      simp
    | cons a l ih =>
      intro ρ acc h hw hu hl
      obtain ⟨ρ1, ρ2, e1, e2, e2', e3⟩ := h a (List.mem_cons_self ..)
      have hl' : acc.length + (l.length + 1) ≤ 16777216 := hl
      rw [List.map_cons]
      unfold lcD
      rw [hw, e1]
      simp only [e2]
      cases hp : p a with
      | true =>
        obtain ⟨ρ3, e4, e5⟩ := e3 hp
        simp only [e4]
        rw [if_pos (by omega), e5, ih w _ (fun a m => h a (List.mem_cons_of_mem _ m)) hww rfl (by rw [List.length_append]; simp; omega)]
        simp [hp]
      | false =>
        simp only []
        rw [e2', ih w _ (fun a m => h a (List.mem_cons_of_mem _ m)) hww rfl (by omega)]
        simp [hp]
  have := key l ρ [] h hw hu (by simpa using hl)
  simpa using this
@[simp] theorem wipe_nil (ρ : Env) : wipeE ρ [] = ρ := rfl
@[simp] theorem wipe_cons (ρ : Env) (i : Nat) (is : List Nat) : wipeE ρ (i :: is) = (wipeE ρ is).set i .no := rfl
@[simp] theorem unwipe_nil (ρ0 ρ : Env) : unwipe ρ0 [] ρ = ρ := rfl
@[simp] theorem unwipe_cons (ρ0 ρ : Env) (i : Nat) (is : List Nat) : unwipe ρ0 (i :: is) ρ = match ρ0[i]? with
    | some (.dat d) => (unwipe ρ0 is ρ).set i (.dat d)
    | _ => (unwipe ρ0 is ρ).set i .no := rfl
@[simp] theorem all_lst (ds : List D) : allD [.lst ds] = (blsD ds).map fun bs => .bl (bs.all id) := rfl
@[simp] theorem any_lst (ds : List D) : anyD [.lst ds] = (blsD ds).map fun bs => .bl (bs.any id) := rfl
@[simp] theorem sum_lst (ds : List D) : sumD [.lst ds] = (intsD ds).map fun bs => .int bs.sum := rfl
theorem atI_k {α : Type} (xs : List α) (k : Nat) : atI xs (k : Int) = xs[k]? := by
  unfold atI ixN
  rw [if_pos (by omega)]
  by_cases h : (k : Int) < xs.length
  · rw [if_pos h]
    simp
  · rw [if_neg h]
    have : xs.length ≤ k := by omega
    simp [this]
@[simp] theorem atI_0 {α : Type} (xs : List α) : atI xs 0 = xs[0]? := atI_k xs 0
@[simp] theorem atI_1 {α : Type} (xs : List α) : atI xs 1 = xs[1]? := atI_k xs 1
@[simp] theorem atI_2 {α : Type} (xs : List α) : atI xs 2 = xs[2]? := atI_k xs 2
/-! ### texts -/
def S (l : List Nat) : Str := ⟨l.toArray⟩
theorem S_of (x : Str) : x = S x.cps.toList := by
  cases x
  simp [S]
@[simp] theorem S_len (l : List Nat) : (S l).length = l.length := by
  show (l.toArray).size = _
  simp
@[simp] theorem S_cps (l : List Nat) : (S l).cps.toList = l := by simp [S]
@[simp] theorem S_get (l : List Nat) (i : Nat) : (S l).cps[i]? = l[i]? := by simp [S]
theorem S_inj {a b : List Nat} (h : S a = S b) : a = b := by
  have := congrArg (fun x : Str => x.cps.toList) h
  simpa using this
@[simp] theorem S_eq {a b : List Nat} : (S a = S b) = (a = b) := propext ⟨S_inj, fun h => by rw [h]⟩
theorem S_one (c : Nat) : (⟨#[c]⟩ : Str) = S [c] := rfl
@[simp] theorem S_app (a b : List Nat) : S a ++ S b = S (a ++ b) := by
  show (⟨a.toArray ++ b.toArray⟩ : Str) = _
  simp [S]
@[simp] theorem signs_S (l : List Nat) : signsD (S l) = l.map fun c => .str (S [c]) := by
  unfold signsD
  rw [S_cps]
  rfl
@[simp] theorem ins_one (c : Nat) (x : Str) : insD (.str (S [c])) (.str x) = some (.bl (decide (c ∈ x.cps.toList))) := congrArg (fun b => some (D.bl b)) (PySem.StrLaws.found_one x c)
@[simp] theorem cut_S (l : List Nat) (lo hi : Option Int) : cutS (S l) lo hi = S ((l.drop (HT.sIx l.length 0 lo)).take (HT.sIx l.length l.length hi - HT.sIx l.length 0 lo)) := by
  unfold cutS
  rw [S_cps, S_len]
  rfl
def smallL : List Nat := (List.range 26).map (97 + ·)
@[simp] theorem small_len : smallL.length = 26 := by decide
theorem lit_small : Str.ofString "abcdefghijklmnopqrstuvwxyz" = S smallL := by decide +kernel
theorem lit_lt : Str.ofString "<" = S [60] := by decide +kernel
theorem lit_gt : Str.ofString ">" = S [62] := by decide +kernel
theorem lit_empty : Str.ofString "" = S [] := by decide +kernel
abbrev isSmall (c : Nat) : Bool := decide (c ∈ smallL)
theorem small_iff {c : Nat} : c ∈ smallL ↔ 97 ≤ c ∧ c ≤ 122 := by
  unfold smallL
  rw [List.mem_map]
  constructor
  · rintro ⟨a, h, rfl⟩
    have := List.mem_range.mp h
    omega
  · intro h
    exact ⟨c - 97, List.mem_range.mpr (by omega), by omega⟩
@[simp] theorem bls_map {α : Type} (f : α → Bool) (l : List α) : blsD (l.map fun a => .bl (f a)) = some (l.map f) := by
  induction l with
  | nil => rfl
  | cons a l ih => simp [blsD, ih]
@[simp] theorem ints_map {α : Type} (f : α → Int) (l : List α) : intsD (l.map fun a => .int (f a)) = some (l.map f) := by
  induction l with
  | nil => rfl
  | cons a l ih => simp [intsD, ih]
@[simp] theorem strs_map {α : Type} (f : α → Str) (l : List α) : strsD (l.map fun a => .str (f a)) = some (l.map f) := by
  induction l with
  | nil => rfl
  | cons a l ih => simp [strsD, ih]
end VL
namespace PG
open PySem PySem.Spec PyProof.Rows L2 VL
/-! ### whole numbers, names -/
@[simp] theorem is_whole_int (i a b : Int) : F_is_whole [.int i, .int a, .int b] = .ok (.bl (decide (a ≤ i) && decide (i ≤ b))) := by
  simp [F_is_whole, g_is_whole, runD_eq]
def nameOk (l : List Nat) : Bool := decide (1 ≤ l.length) && (decide (l.length ≤ 6) && l.all isSmall)
theorem is_name_str (l : List Nat) (hl : l.length ≤ 100000) : F_is_name [.str (S l)] = .ok (.bl (nameOk l)) := by
  simp -implicitDefEqProofs (disch := omega) [F_is_name, g_is_name, runD_eq, lit_small, szB_ok]
  rw [lc_map [.dat (.str (S l)), .no] (fun c => .bl (isSmall c))]
  · simp [nameOk]
    by_cases h : 1 ≤ l.length ∧ l.length ≤ 6
    · rw [if_pos (by omega)]
      simp [h.1, h.2, Function.comp_def]
    · rw [if_neg (by omega)]
      have : ¬ (1 ≤ l.length) ∨ ¬ (l.length ≤ 6) := by omega
      rcases this with h1 | h1 <;> simp [h1]
  all_goals try simp
  exact Nat.le_trans hl (by decide)
def pairOk (a b : Nat) : Bool := !(decide (a = 60) && decide (b = 62)) && (decide (a ∈ 60 :: smallL) && decide (b ∈ smallL ++ [62]))
theorem is_pair_two (a b : Nat) : F_is_pair [.str (S [a, b])] = .ok (.bl (pairOk a b)) := by
  simp -implicitDefEqProofs (disch := omega) [F_is_pair, g_is_pair, runD_eq, szB_ok, lit_small, lit_lt, lit_gt, S_one]
  unfold pairOk
  by_cases h : a = 60 ∧ b = 62
  · rw [if_pos h]
    simp [h.1, h.2]
  · rw [if_neg h]
    simp
    exact fun _ _ => by omega
theorem is_pair_not (l : List Nat) (hl : l.length ≤ 100000) (h : l.length ≠ 2) : F_is_pair [.str (S l)] = .ok (.bl false) := by
  have h' : ¬ ((l.length : Int) = 2) := by omega
  simp -implicitDefEqProofs (disch := omega) [F_is_pair, g_is_pair, runD_eq, szB_ok, h']
end PG

/-! the plain law, two: equal values, loops, books -/
namespace VL
open PySem PySem.Spec PyProof.Rows L2
/-! ### values that == tells apart as they are -/
mutual
def pu : D → Bool
  | .non => true
  | .int _ => true
  | .str x => PySem.PyData.strOk x
  | .tup xs => puL xs
  | .lst xs => puL xs
  | _ => false
def puL : List D → Bool
  | [] => true
  | d :: ds => pu d && puL ds
end
mutual
def dpt : D → Nat
  | .tup xs => dptL xs + 1
  | .lst xs => dptL xs + 1
  | _ => 0
def dptL : List D → Nat
  | [] => 0
  | d :: ds => max (dpt d) (dptL ds)
end
mutual
theorem pu_lay : ∀ {d : D}, pu d = true → d.toP.canLay0 = true ∧ d.toP.depth = dpt d
  | .non, _ => ⟨rfl, rfl⟩
  | .int _, _ => ⟨rfl, rfl⟩
  | .str x, h => ⟨by simpa [D.toP, PyData.canLay0] using (show PyData.strOk x = true from by simpa [pu] using h), rfl⟩
  | .tup xs, h => by
    have := puL_lay (ds := xs) (by simpa [pu] using h)
    exact ⟨by simpa [D.toP, PyData.canLay0] using this.1, by simp [D.toP, PyData.depth, dpt, this.2]⟩
  | .lst xs, h => by
    have := puL_lay (ds := xs) (by simpa [pu] using h)
    exact ⟨by simpa [D.toP, PyData.canLay0] using this.1, by simp [D.toP, PyData.depth, dpt, this.2]⟩
  | .bl _, h => by simp [pu] at h
  | .pr _, h => by simp [pu] at h
  | .ll _, h => by simp [pu] at h
  | .dct _, h => by simp [pu] at h
  | .atm _, h => by simp [pu] at h
  | .exc _, h => by simp [pu] at h
theorem puL_lay : ∀ {ds : List D}, puL ds = true → PyData.canLayAll0 (D.toPs ds) = true ∧ PyData.depthAll (D.toPs ds) = dptL ds
  | [], _ => ⟨rfl, rfl⟩
  | d :: ds, h => by
    have h' : pu d = true ∧ puL ds = true := by simpa [puL] using h
    have a := pu_lay h'.1
    have b := puL_lay h'.2
    exact ⟨by simp [D.toPs, PyData.canLayAll0, a.1, b.1], by simp [D.toPs, PyData.depthAll, dptL, a.2, b.2]⟩
end
mutual
theorem eqv_pu : ∀ {x w : D}, pu x = true → pu w = true → (PyData.eqv x.toP w.toP = true ↔ x = w)
  | .non, w, hx, hw => by cases w <;> simp_all [D.toP, PyData.eqv, pu]
  | .int i, w, hx, hw => by cases w <;> simp_all [D.toP, PyData.eqv, pu]
  | .str i, w, hx, hw => by cases w <;> simp_all [D.toP, PyData.eqv, pu]
  | .tup xs, w, hx, hw => by
    cases w with
    | tup ys =>
      have := eqv_puL (xs := xs) (ys := ys) (by simpa [pu] using hx) (by simpa [pu] using hw)
      simpa [D.toP, PyData.eqv] using this
    | _ => simp_all [D.toP, PyData.eqv, pu]
  | .lst xs, w, hx, hw => by
    cases w with
    | lst ys =>
      have := eqv_puL (xs := xs) (ys := ys) (by simpa [pu] using hx) (by simpa [pu] using hw)
      simpa [D.toP, PyData.eqv] using this
    | _ => simp_all [D.toP, PyData.eqv, pu]
  | .bl _, _, h, _ => by simp [pu] at h
  | .pr _, _, h, _ => by simp [pu] at h
  | .ll _, _, h, _ => by simp [pu] at h
  | .dct _, _, h, _ => by simp [pu] at h
  | .atm _, _, h, _ => by simp [pu] at h
  | .exc _, _, h, _ => by simp [pu] at h
theorem eqv_puL : ∀ {xs ys : List D}, puL xs = true → puL ys = true → (PyData.eqvAll (D.toPs xs) (D.toPs ys) = true ↔ xs = ys)
  | [], [], _, _ => by simp [D.toPs, PyData.eqvAll]
  | [], _ :: _, _, _ => by simp [D.toPs, PyData.eqvAll]
  | _ :: _, [], _, _ => by simp [D.toPs, PyData.eqvAll]
  | x :: xs, y :: ys, hx, hy => by
    have h1 : pu x = true ∧ puL xs = true := by simpa [puL] using hx
    have h2 : pu y = true ∧ puL ys = true := by simpa [puL] using hy
    simp [D.toPs, PyData.eqvAll, eqv_pu h1.1 h2.1, eqv_puL h1.2 h2.2]
end
theorem eqB_pu {x w : D} (hx : pu x = true) (hw : pu w = true) (dx : dpt x ≤ 64) (dw : dpt w ≤ 64) [Decidable (x = w)] : eqB x w = some (decide (x = w)) := by
  have a := pu_lay hx
  have b := pu_lay hw
  have sx : SeqAt.shaped x.toP = true := by simp [SeqAt.shaped, a.1, a.2, dx]
  have sw : SeqAt.shaped w.toP = true := by simp [SeqAt.shaped, b.1, b.2, dw]
  have e := eqv_pu hx hw
  have key : PyData.eqv x.toP w.toP = decide (x = w) := by
    by_cases h : x = w
    · simp [h, e.mpr h] <;> exact e.mpr h ▸ h ▸ rfl
    · have : PyData.eqv x.toP w.toP ≠ true := fun q => h (e.mp q)
      simp [h, this]
  unfold eqB
  split
  · simp
  · simp
  · simp [pu] at hx
  · rw [if_pos ⟨sx, sw⟩, key]
/-! ### a walk of a list that goes on to the end -/
theorem for_pre {α : Type} {tg : D → Env → Option Env} {body : SM} {enc : α → D} (l : List α) (Inv : List α → Env → Prop)
    (h : ∀ (pre : List α) (a : α) (post : List α) (ρ : Env), l = pre ++ a :: post → Inv pre ρ → ∃ ρ1 ρ2, tg (enc a) ρ = some ρ1 ∧ (body ρ1 = .next ρ2 ∨ body ρ1 = .cont ρ2) ∧ Inv (pre ++ [a]) ρ2) {ρ : Env} (h0 : Inv [] ρ) :
    ∃ ρ', forD tg body (l.map enc) ρ = .next ρ' ∧ Inv l ρ' := by
  have key : ∀ (post pre : List α) (ρ : Env), l = pre ++ post → Inv pre ρ → ∃ ρ', forD tg body (post.map enc) ρ = .next ρ' ∧ Inv l ρ' := by
    intro post
    induction post with
    | nil =>
      intro pre ρ e hi
      rw [List.append_nil] at e
      subst e
      exact ⟨ρ, rfl, hi⟩
    | cons a post ih =>
      intro pre ρ e hi
      obtain ⟨ρ1, ρ2, e1, e2, e3⟩ := h pre a post ρ e hi
      obtain ⟨ρ', f1, f2⟩ := ih (pre ++ [a]) ρ2 (by rw [e]; simp) e3
      refine ⟨ρ', ?_, f2⟩
      rw [List.map_cons]
      unfold forD
      rw [e1]
      rcases e2 with e2 | e2
      · simp only [e2]
        exact f1
      · simp only [e2]
        exact f1
  exact key l [] ρ rfl h0
theorem fin_seq {f g : SM} {ρ ρ1 : Env} {r : RF} (h : f ρ = .next ρ1) (k : finD (g ρ1) = r) : finD (s_seq f g ρ) = r := by
  rw [s_seq_a, h]
  exact k
theorem fin_fors {α : Type} {it : EM (List D)} {tg : D → Env → Option Env} {body g : SM} {enc : α → D} {l : List α} {ρ ρ1 : Env} {r : RF} (hi : it ρ = .ok (l.map enc) ρ1) (Inv : List α → Env → Prop)
    (h : ∀ (pre : List α) (a : α) (post : List α) (ρ : Env), l = pre ++ a :: post → Inv pre ρ → ∃ ρ1 ρ2, tg (enc a) ρ = some ρ1 ∧ (body ρ1 = .next ρ2 ∨ body ρ1 = .cont ρ2) ∧ Inv (pre ++ [a]) ρ2) (h0 : Inv [] ρ1)
    (hq : ∀ ρ', Inv l ρ' → finD (g ρ') = r) : finD (s_seq (s_for it tg body) g ρ) = r := by
  obtain ⟨ρ', e, hi'⟩ := for_pre (tg := tg) (body := body) (enc := enc) l Inv h h0
  rw [s_seq_a, s_for_a, hi, to_ok, e]
  exact hq ρ' hi'
theorem fin_for {α : Type} {tg : D → Env → Option Env} {body g : SM} {enc : α → D} {l : List α} {ρ : Env} {r : RF} (Inv : List α → Env → Prop)
    (h : ∀ (pre : List α) (a : α) (post : List α) (ρ : Env), l = pre ++ a :: post → Inv pre ρ → ∃ ρ1 ρ2, tg (enc a) ρ = some ρ1 ∧ (body ρ1 = .next ρ2 ∨ body ρ1 = .cont ρ2) ∧ Inv (pre ++ [a]) ρ2) (h0 : Inv [] ρ)
    (hq : ∀ ρ', Inv l ρ' → finD (g ρ') = r) : finD ((forD tg body (l.map enc) ρ).then g) = r := by
  obtain ⟨ρ', e, hi⟩ := for_pre (tg := tg) (body := body) (enc := enc) l Inv h h0
  rw [e]
  exact hq ρ' hi
theorem fin_for0 {α : Type} {tg : D → Env → Option Env} {body : SM} {enc : α → D} {l : List α} {ρ : Env} {r : RF} (Inv : List α → Env → Prop)
    (h : ∀ (pre : List α) (a : α) (post : List α) (ρ : Env), l = pre ++ a :: post → Inv pre ρ → ∃ ρ1 ρ2, tg (enc a) ρ = some ρ1 ∧ (body ρ1 = .next ρ2 ∨ body ρ1 = .cont ρ2) ∧ Inv (pre ++ [a]) ρ2) (h0 : Inv [] ρ)
    (hq : RF.ok .non = r) : finD (forD tg body (l.map enc) ρ) = r := by
  obtain ⟨ρ', e, hi⟩ := for_pre (tg := tg) (body := body) (enc := enc) l Inv h h0
  rw [e]
  exact hq
end VL
namespace PG
open PySem PySem.Spec PyProof.Rows L2 VL
/-! ### books -/
abbrev Pr := Nat × Nat
abbrev Bk := List (Pr × Int)
def keyS (k : Pr) : Str := S [k.1, k.2]
theorem keyS_inj {a b : Pr} (h : keyS a = keyS b) : a = b := by
  have := S_inj h
  obtain ⟨a1, a2⟩ := a
  obtain ⟨b1, b2⟩ := b
  simp at this
  simp [this]
@[simp] theorem keyS_eq {a b : Pr} : (keyS a = keyS b) = (a = b) := propext ⟨keyS_inj, fun h => by rw [h]⟩
def enD (e : Pr × Int) : D := .tup [.str (keyS e.1), .int e.2]
def bkD (b : Bk) : D := .tup (b.map enD)
theorem enD_inj {a b : Pr × Int} (h : enD a = enD b) : a = b := by
  unfold enD at h
  simp at h
  exact Prod.ext h.1 h.2
theorem map_inj {α β : Type} {f : α → β} (hf : ∀ a b, f a = f b → a = b) : ∀ {l m : List α}, l.map f = m.map f → l = m
  | [], [], _ => rfl
  | [], _ :: _, h => by simp at h
  | _ :: _, [], h => by simp at h
  | a :: l, b :: m, h => by
    simp at h
    rw [hf a b h.1, map_inj hf h.2]
theorem bkD_inj {a b : Bk} (h : bkD a = bkD b) : a = b := by
  unfold bkD at h
  simp at h
  exact map_inj (fun _ _ q => enD_inj q) h
def lookP (m : Bk) (k : Pr) : Option Int := (m.find? fun e => decide (e.1 = k)).map (·.2)
def cnt (m : Bk) (k : Pr) : Int := (lookP m k).getD 0
def putP (m : Bk) (k : Pr) (v : Int) : Bk := if m.any (fun e => decide (e.1 = k)) = true then m.map (fun e => if e.1 = k then (e.1, v) else e) else m ++ [(k, v)]
def dk (m : Bk) : List (Key × D) := m.map fun e => (.inr (keyS e.1), .int e.2)
theorem key_dec (a b : Pr) : decide ((Sum.inr (keyS a) : Key) = Sum.inr (keyS b)) = decide (a = b) := by
  by_cases h : a = b
  · simp [h]
  · have : ¬ (Sum.inr (keyS a) : Key) = Sum.inr (keyS b) := fun q => h (keyS_inj (Sum.inr.inj q))
    simp [h, this]
theorem val_dk (m : Bk) (k : Pr) : valK (dk m) (.inr (keyS k)) = (lookP m k).map .int := by
  unfold valK lookP dk
  induction m with
  | nil => rfl
  | cons e m ih =>
    rw [List.map_cons, List.find?_cons, List.find?_cons]
    simp only [key_dec]
    cases decide (e.1 = k) with
    | true => rfl
    | false => exact ih
theorem put_dk (m : Bk) (k : Pr) (v : Int) : putD (dk m) (.inr (keyS k)) (.int v) = dk (putP m k v) := by
  unfold putD putP
  have e1 : (dk m).any (fun kv => decide (kv.1 = (Sum.inr (keyS k) : Key))) = m.any (fun e => decide (e.1 = k)) := by
    unfold dk
    rw [List.any_map]
    congr 1
    funext e
    exact key_dec e.1 k
  rw [e1]
  split
  · unfold dk
    rw [List.map_map, List.map_map]
    congr 1
    funext e
    have := key_dec e.1 k
    by_cases h : e.1 = k
    · simp [h]
    · have h2 : ¬ (Sum.inr (keyS e.1) : Key) = Sum.inr (keyS k) := fun q => h (keyS_inj (Sum.inr.inj q))
      simp [h, h2]
  · unfold dk
    simp
@[simp] theorem look_nil (k : Pr) : lookP [] k = none := rfl
theorem look_cons (e : Pr × Int) (m : Bk) (k : Pr) : lookP (e :: m) k = if e.1 = k then some e.2 else lookP m k := by
  unfold lookP
  rw [List.find?_cons]
  by_cases h : e.1 = k
  · simp [h]
  · simp [h]
theorem look_app (m n : Bk) (k : Pr) : lookP (m ++ n) k = (lookP m k).or (lookP n k) := by
  induction m with
  | nil => simp
  | cons e m ih =>
    rw [List.cons_append, look_cons, look_cons, ih]
    split <;> simp
theorem look_none {m : Bk} {k : Pr} : lookP m k = none ↔ k ∉ m.map (·.1) := by
  induction m with
  | nil => simp
  | cons e m ih =>
    rw [look_cons]
    by_cases h : e.1 = k
    · simp [h]
    · rw [if_neg h, ih]
      simp
      exact fun _ => fun q => h q.symm
theorem look_mem {m : Bk} (hn : (m.map (·.1)).Nodup) {e : Pr × Int} (h : e ∈ m) : lookP m e.1 = some e.2 := by
  induction m with
  | nil => cases h
  | cons x m ih =>
    rw [look_cons]
    have hn' := List.nodup_cons.mp (by simpa using hn : (x.1 :: m.map (·.1)).Nodup)
    rcases List.mem_cons.mp h with rfl | h
    · simp
    · have : x.1 ≠ e.1 := fun q => hn'.1 (q ▸ List.mem_map_of_mem h)
      rw [if_neg this]
      exact ih hn'.2 h
theorem mem_look {m : Bk} {k : Pr} {v : Int} (h : lookP m k = some v) : (k, v) ∈ m := by
  induction m with
  | nil => simp at h
  | cons x m ih =>
    rw [look_cons] at h
    by_cases hk : x.1 = k
    · rw [if_pos hk] at h
      have := Option.some.inj h
      subst this
      subst hk
      exact List.mem_cons_self ..
    · rw [if_neg hk] at h
      exact List.mem_cons_of_mem _ (ih h)
theorem any_key (m : Bk) (k : Pr) : (m.any fun e => decide (e.1 = k)) = (lookP m k).isSome := by
  induction m with
  | nil => rfl
  | cons e m ih =>
    rw [List.any_cons, look_cons, ih]
    by_cases h : e.1 = k <;> simp [h]
theorem look_put (m : Bk) (k k' : Pr) (v : Int) : lookP (putP m k v) k' = if k = k' then some v else lookP m k' := by
  unfold putP
  rw [any_key]
  cases hl : lookP m k with
  | none =>
    simp only [Option.isSome_none, Bool.false_eq_true, if_false]
    rw [look_app, look_cons]
    by_cases h : k = k'
    · subst h
      simp [hl]
    · simp [h]
  | some v0 =>
    simp only [Option.isSome_some, if_true]
    induction m with
    | nil => simp at hl
    | cons e m ih =>
      rw [List.map_cons, look_cons, look_cons]
      by_cases h : e.1 = k
      · rw [if_pos h]
        simp only [h]
        by_cases h2 : k = k'
        · simp [h2]
        · rw [if_neg h2, if_neg h2, if_neg h2]
          clear ih hl
          induction m with
          | nil => rfl
          | cons x m ih =>
            rw [List.map_cons, look_cons, look_cons, ih]
            by_cases h3 : x.1 = k
            · rw [if_pos h3]
              simp only [h3, if_neg h2]
            · rw [if_neg h3]
      · rw [if_neg h]
        rw [look_cons, if_neg h] at hl
        rw [ih hl]
        by_cases h2 : k = k'
        · subst h2
          simp [h]
        · simp [h2]
theorem cnt_put (m : Bk) (k k' : Pr) (v : Int) : cnt (putP m k v) k' = if k = k' then v else cnt m k' := by
  unfold cnt
  rw [look_put]
  split <;> rfl
theorem keys_put (m : Bk) (k : Pr) (v : Int) : (putP m k v).map (·.1) = if (lookP m k).isSome then m.map (·.1) else m.map (·.1) ++ [k] := by
  unfold putP
  rw [any_key]
  split
  · rw [List.map_map]
    congr 1
    funext e
    by_cases h : e.1 = k <;> simp [h]
  · simp
theorem nodup_put {m : Bk} (h : (m.map (·.1)).Nodup) (k : Pr) (v : Int) : ((putP m k v).map (·.1)).Nodup := by
  rw [keys_put]
  split
  · exact h
  · rename_i hn
    have : lookP m k = none := by
      cases e : lookP m k with
      | none => rfl
      | some _ => simp [e] at hn
    rw [List.nodup_append]
    refine ⟨h, by simp, fun a ha b hb => ?_⟩
    simp at hb
    subst hb
    intro q
    subst q
    exact look_none.mp this ha
theorem len_put (m : Bk) (k : Pr) (v : Int) : (putP m k v).length ≤ m.length + 1 := by
  have := congrArg List.length (keys_put m k v)
  rw [List.length_map] at this
  rw [this]
  split <;> simp
theorem mem_put {m : Bk} {k : Pr} {v : Int} {x : Pr} (h : x ∈ (putP m k v).map (·.1)) : x ∈ m.map (·.1) ∨ x = k := by
  rw [keys_put] at h
  split at h
  · exact .inl h
  · simpa using h
/-- the counts, one more or less for each of the pairs -/
def addP (m : Bk) (ks : List Pr) (s : Int) : Bk := ks.foldl (fun m k => putP m k (cnt m k + s)) m
theorem cnt_add (s : Int) (k' : Pr) : ∀ (ks : List Pr) (m : Bk), cnt (addP m ks s) k' = cnt m k' + s * (ks.count k' : Nat)
  | [], m => by simp [addP]
  | k :: ks, m => by
    show cnt (addP (putP m k (cnt m k + s)) ks s) k' = _
    rw [cnt_add s k' ks, cnt_put, List.count_cons]
    by_cases h : k = k'
    · subst h
      simp
      rw [Int.mul_add]
      omega
    · simp [h]
theorem add_nodup (s : Int) : ∀ (ks : List Pr) {m : Bk}, (m.map (·.1)).Nodup → ((addP m ks s).map (·.1)).Nodup
  | [], _, h => h
  | k :: ks, m, h => add_nodup s ks (nodup_put h k _)
theorem add_len (s : Int) : ∀ (ks : List Pr) (m : Bk), (addP m ks s).length ≤ m.length + ks.length
  | [], m => Nat.le_refl _
  | k :: ks, m => by
    have h1 := add_len s ks (putP m k (cnt m k + s))
    have h2 := len_put m k (cnt m k + s)
    show (addP (putP m k (cnt m k + s)) ks s).length ≤ _
    simp only [List.length_cons]
    omega
theorem add_keys (s : Int) {x : Pr} : ∀ (ks : List Pr) {m : Bk}, x ∈ (addP m ks s).map (·.1) → x ∈ m.map (·.1) ∨ x ∈ ks
  | [], _, h => .inl h
  | k :: ks, m, h => by
    rcases add_keys s ks (m := putP m k (cnt m k + s)) h with h | h
    · rcases mem_put h with h | h
      · exact .inl h
      · exact .inr (by simp [h])
    · exact .inr (List.mem_cons_of_mem _ h)
/-! the order of pairs -/
def leP (a b : Pr) : Bool := decide (a.1 < b.1 ∨ (a.1 = b.1 ∧ a.2 ≤ b.2))
def ltP (a b : Pr) : Prop := a.1 < b.1 ∨ (a.1 = b.1 ∧ a.2 < b.2)
theorem leP_tot (a b : Pr) : (leP a b || leP b a) = true := by
  simp [leP]
  omega
theorem leP_trans (a b c : Pr) (h1 : leP a b = true) (h2 : leP b c = true) : leP a c = true := by
  simp [leP] at *
  omega
theorem leP_anti (a b : Pr) (h1 : leP a b = true) (h2 : leP b a = true) : a = b := by
  obtain ⟨a1, a2⟩ := a
  obtain ⟨b1, b2⟩ := b
  simp [leP] at *
  omega
theorem lt2 (a b c d : Nat) : ([a, b] : List Nat) < [c, d] ↔ a < c ∨ (a = c ∧ b < d) := by
  rw [List.cons_lt_cons_iff, List.cons_lt_cons_iff]
  simp
theorem leS_key (a b : Pr) : leS (keyS a) (keyS b) = leP a b := by
  obtain ⟨a1, a2⟩ := a
  obtain ⟨b1, b2⟩ := b
  unfold leS leP keyS
  simp only [S_cps, lt2]
  by_cases h : b1 < a1 ∨ b1 = a1 ∧ b2 < a2
  · simp [h]
    omega
  · simp [h]
    omega
def sortP (ks : List Pr) : List Pr := ks.mergeSort leP
theorem sortP_perm (ks : List Pr) : (sortP ks).Perm ks := List.mergeSort_perm ks leP
theorem sortP_srt (ks : List Pr) : (sortP ks).Pairwise (fun a b => leP a b = true) := List.pairwise_mergeSort leP_trans leP_tot ks
theorem sortS_key (ks : List Pr) : sortS (ks.map keyS) = (sortP ks).map keyS := by
  refine (sortS_is ((sortP_perm ks).map keyS) ?_).symm
  rw [List.pairwise_map]
  refine (sortP_srt ks).imp fun h => ?_
  rw [leS_key]
  exact h
theorem sortP_strict {ks : List Pr} (h : ks.Nodup) : (sortP ks).Pairwise ltP := by
  have n : (sortP ks).Nodup := (sortP_perm ks).nodup_iff.mpr h
  refine (List.Pairwise.and (sortP_srt ks) n).imp fun {a b} q => ?_
  obtain ⟨a1, a2⟩ := a
  obtain ⟨b1, b2⟩ := b
  have q1 := q.1
  have q2 := q.2
  simp [leP] at q1
  unfold ltP
  simp at q2
  by_cases e : a1 = b1
  · have := q2 e
    omega
  · omega
/-- the book that counts make -/
def bookOf (m : Bk) : Bk := ((sortP (m.map (·.1))).filter fun k => decide (0 < cnt m k)).map fun k => (k, cnt m k)
structure Srt (b : Bk) : Prop where
  srt : (b.map (·.1)).Pairwise ltP
  pos : ∀ e ∈ b, 0 < e.2
theorem ltP_ne {a b : Pr} (h : ltP a b) : a ≠ b := by
  intro q
  subst q
  unfold ltP at h
  omega
theorem Srt.nodup {b : Bk} (h : Srt b) : (b.map (·.1)).Nodup := h.srt.imp fun q => ltP_ne q
theorem cnt_none {m : Bk} {k : Pr} (h : k ∉ m.map (·.1)) : cnt m k = 0 := by
  unfold cnt
  rw [look_none.mpr h]
  rfl
theorem cnt_mem {m : Bk} (hn : (m.map (·.1)).Nodup) {e : Pr × Int} (h : e ∈ m) : cnt m e.1 = e.2 := by
  unfold cnt
  rw [look_mem hn h]
  rfl
theorem bookOf_keys (m : Bk) : (bookOf m).map (·.1) = (sortP (m.map (·.1))).filter fun k => decide (0 < cnt m k) := by
  unfold bookOf
  rw [List.map_map]
  exact List.map_id _
theorem bookOf_srt {m : Bk} (hn : (m.map (·.1)).Nodup) : Srt (bookOf m) where
  srt := by
    rw [bookOf_keys]
    exact (sortP_strict hn).filter _
  pos e h := by
    unfold bookOf at h
    obtain ⟨k, hk, rfl⟩ := List.mem_map.mp h
    have := (List.mem_filter.mp hk).2
    simpa using this
theorem bookOf_cnt {m : Bk} (hn : (m.map (·.1)).Nodup) (k : Pr) : cnt (bookOf m) k = if 0 < cnt m k then cnt m k else 0 := by
  have hs := bookOf_srt hn
  by_cases h : 0 < cnt m k
  · rw [if_pos h]
    have hk : k ∈ m.map (·.1) := by
      false_or_by_contra
      rename_i q
      rw [cnt_none q] at h
      omega
    have : (k, cnt m k) ∈ bookOf m := List.mem_map.mpr ⟨k, List.mem_filter.mpr ⟨(sortP_perm _).mem_iff.mpr hk, by simpa using h⟩, rfl⟩
    exact cnt_mem hs.nodup this
  · rw [if_neg h]
    refine cnt_none fun q => ?_
    rw [bookOf_keys] at q
    have := (List.mem_filter.mp q).2
    simp at this
    omega
/-- a sorted list of pairs with counts above nothing is told by its counts -/
theorem srt_ext : ∀ {a b : Bk}, Srt a → Srt b → (∀ k, cnt a k = cnt b k) → a = b := by
  intro a b ha hb h
  have mem : ∀ {x y : Bk}, Srt x → Srt y → (∀ k, cnt x k = cnt y k) → ∀ e ∈ x, e ∈ y := fun {x y} hx hy q e he => by
    have e1 := cnt_mem hx.nodup he
    have e2 := hx.pos e he
    rw [q] at e1
    unfold cnt at e1
    cases el : lookP y e.1 with
    | none => rw [el] at e1; simp at e1; omega
    | some v =>
      rw [el] at e1
      have e3 : v = e.2 := e1
      subst e3
      exact mem_look el
  have na : a.Nodup := (List.pairwise_map.mp ha.nodup).imp fun q e => q (by rw [e])
  have nb : b.Nodup := (List.pairwise_map.mp hb.nodup).imp fun q e => q (by rw [e])
  have p : a.Perm b := (List.perm_ext_iff_of_nodup na nb).mpr fun e => ⟨mem ha hb h e, mem hb ha (fun k => (h k).symm) e⟩
  refine p.eq_of_pairwise (le := fun x y => ltP x.1 y.1) (fun x y _ _ q1 q2 => ?_) (by simpa [List.pairwise_map] using ha.srt) (by simpa [List.pairwise_map] using hb.srt)
  unfold ltP at q1 q2
  omega
end PG

/-! the plain law, three: the program's defs of books -/
namespace PG
open PySem PySem.Spec PyProof.Rows L2 VL
structure BookOk (b : Bk) : Prop where
  len : b.length ≤ 60
  prs : ∀ e ∈ b, pairOk e.1.1 e.1.2 = true
  low : ∀ e ∈ b, 1 ≤ e.2
  top : ∀ e ∈ b, e.2 ≤ 999
  srt : (b.map (·.1)).Pairwise ltP
theorem BookOk.toSrt {b : Bk} (h : BookOk b) : Srt b := ⟨h.srt, fun e m => by have := h.low e m; omega⟩
@[simp] theorem pair_key (k : Pr) : F_is_pair [.str (keyS k)] = .ok (.bl (pairOk k.1 k.2)) := is_pair_two k.1 k.2
@[simp] theorem lt_str (x y : Str) : ltD (.str x) (.str y) = some (.bl (decide (x.cps.toList < y.cps.toList))) := rfl
theorem ltP_key {a b : Pr} (h : ltP a b) : (keyS a).cps.toList < (keyS b).cps.toList := by
  unfold keyS
  rw [S_cps, S_cps, lt2]
  exact h
theorem zipD_map {α β : Type} (f : α → D) (g : β → D) : ∀ (l : List α) (m : List β), zipD (l.map f) (m.map g) = (l.zip m).map fun p => .pr [f p.1, g p.2]
  | [], _ => rfl
  | _ :: _, [] => rfl
  | a :: l, b :: m => by
    show D.pr [f a, g b] :: zipD (l.map f) (m.map g) = _
    rw [zipD_map f g l m]
    rfl
theorem adj_zip {α : Type} {R : α → α → Prop} : ∀ {l : List α}, l.Pairwise R → ∀ p ∈ l.zip (l.drop 1), R p.1 p.2
  | [], _, p, h => by simp at h
  | [a], _, p, h => by simp at h
  | a :: b :: l, hp, p, h => by
    have h' : p ∈ (a, b) :: (b :: l).zip l := h
    rcases List.mem_cons.mp h' with rfl | h
    · exact (List.pairwise_cons.mp hp).1 b (List.mem_cons_self ..)
    · exact adj_zip (List.pairwise_cons.mp hp).2 p h
@[simp] theorem slT (xs : List D) (lo hi : Option Int) : slD (.tup xs) lo hi = some (.tup (cutD xs lo hi)) := rfl
@[simp] theorem slL (xs : List D) (lo hi : Option Int) : slD (.lst xs) lo hi = some (.lst (cutD xs lo hi)) := rfl
@[simp] theorem slStr (x : Str) (lo hi : Option Int) : slD (.str x) lo hi = if szB x.length = true then some (.str (cutS x lo hi)) else none := by
  rw [← sz_ite]
  rfl
theorem cut_drop (xs : List D) (k : Nat) : cutD xs (some (k : Int)) none = xs.drop k := by
  unfold VL.cutD
  rw [HT.sIx_nat, HT.sIx_none]
  rw [List.take_of_length_le]
  · by_cases h : k ≤ xs.length
    · rw [Nat.min_eq_left h]
    · rw [Nat.min_eq_right (by omega), List.drop_eq_nil_of_le (Nat.le_refl _), List.drop_eq_nil_of_le (by omega)]
  · rw [List.length_drop]
    omega
theorem cut_take (xs : List D) (k : Nat) : cutD xs none (some (k : Int)) = xs.take k := by
  unfold VL.cutD
  rw [HT.sIx_nat, HT.sIx_none, Nat.sub_zero, List.drop_zero]
  by_cases h : k ≤ xs.length
  · rw [Nat.min_eq_left h]
  · rw [Nat.min_eq_right (by omega), List.take_of_length_le (by omega), List.take_of_length_le (by omega)]
theorem is_book_ok {b : Bk} (h : BookOk b) : F_is_book [bkD b] = .ok (.bl true) := by
  have hl : ¬ (60 < (b.length : Int)) := by have := h.len; omega
  unfold bkD
  simp -implicitDefEqProofs [F_is_book, g_is_book, runD_eq, hl]
  refine fin_for (fun _ ρ => ∃ x y, ρ = [.dat (.tup (b.map enD)), x, y]) (fun pre a post ρ el ⟨x, y, hi⟩ => ?_) ⟨_, _, rfl⟩ fun ρ' ⟨x, y, hi⟩ => ?_
  · subst hi
    have ha : a ∈ b := by rw [el]; simp
    have h1 := h.prs a ha
    have h2 := h.low a ha
    have h3 := h.top a ha
    refine ⟨_, _, rfl, .inl ?_, .dat (enD a), y, rfl⟩
    simp [enD, h1, h2, h3]
  · subst hi
    have e1 : VL.cutD (b.map enD) (some 1) none = (b.map enD).drop 1 := cut_drop _ 1
    have e2 : (b.map enD).tail = (b.drop 1).map enD := by cases b <;> rfl
    have hlen : b.length ≤ 16777216 := by have := h.len; omega
    simp [e1]
    rw [e2, zipD_map]
    rw [lc_map [.dat (.tup (b.map enD)), .no, .no] (fun _ => .bl true)]
    · simp
    · intro p hp
      have h1 : p ∈ b.zip (b.drop 1) := by simpa using hp
      have h2 := adj_zip (R := fun x y => ltP x.1 y.1) (by simpa [List.pairwise_map] using h.srt) p h1
      have h3 := ltP_key h2
      simp [enD, h3]
    · simp
    · simp
    · cases x <;> cases y <;> simp
    · have : (b.zip (b.drop 1)).length ≤ b.length := by rw [List.length_zip]; omega
      simp at this ⊢
      omega
@[simp] theorem look_book_ok {b : Bk} (h : BookOk b) : F_look_book [bkD b] = .ok .non := by
  simp -implicitDefEqProofs [F_look_book, g_look_book, runD_eq, is_book_ok h]
theorem nameOk_len {l : List Nat} (h : nameOk l = true) : 1 ≤ l.length ∧ l.length ≤ 6 := by
  simp [nameOk] at h
  exact ⟨h.1, h.2.1⟩
@[simp] theorem look_name_ok {l : List Nat} (h : nameOk l = true) : F_look_name [.str (S l)] = .ok .non := by
  have := nameOk_len h
  simp -implicitDefEqProofs [F_look_name, g_look_name, runD_eq, is_name_str l (by omega), h]
abbrev txD (l : List Nat) : D := .str (S l)
theorem are_names_l {ns : List (List Nat)} {m : Nat} (h : ∀ n ∈ ns, nameOk n = true) (hm : ns.length ≤ m) (h2 : m ≤ 16777216) : F_are_names [.lst (ns.map txD), .int m] = .ok (.bl true) := by
  have hm' : (ns.length : Int) ≤ m := by omega
  simp -implicitDefEqProofs [F_are_names, g_are_names, runD_eq, hm]
  rw [lc_map [.dat (.lst (ns.map txD)), .dat (.int m), .no] (fun _ => .bl true)]
  · simp
  · intro a ha
    have h1 := h a ha
    have := nameOk_len h1
    simp [is_name_str a (by omega), h1]
  all_goals try simp
  omega
theorem are_names_t {ns : List (List Nat)} {m : Nat} (h : ∀ n ∈ ns, nameOk n = true) (hm : ns.length ≤ m) (h2 : m ≤ 16777216) : F_are_names [.tup (ns.map txD), .int m] = .ok (.bl true) := by
  have hm' : (ns.length : Int) ≤ m := by omega
  simp -implicitDefEqProofs [F_are_names, g_are_names, runD_eq, hm]
  rw [lc_map [.dat (.tup (ns.map txD)), .dat (.int m), .no] (fun _ => .bl true)]
  · simp
  · intro a ha
    have h1 := h a ha
    have := nameOk_len h1
    simp [is_name_str a (by omega), h1]
  all_goals try simp
  omega
/-- the pairs of a name -/
def prs (l : List Nat) : List Pr := (60 :: l).zip (l ++ [62])
theorem prs_len (l : List Nat) : (prs l).length = l.length + 1 := by
  simp [prs, List.length_zip]
theorem prs_get {l : List Nat} {j : Nat} (h : j < l.length + 1) : ((60 :: l ++ [62]).drop j).take 2 = [((prs l)[j]'(by rw [prs_len]; exact h)).1, ((prs l)[j]'(by rw [prs_len]; exact h)).2] := by
  have e : ((60 :: l ++ [62]).drop j) = (60 :: l ++ [62])[j]'(by simp; omega) :: (60 :: l ++ [62])[j+1]'(by simp; omega) :: (60 :: l ++ [62]).drop (j + 2) := by
    rw [List.drop_eq_getElem_cons (by simp; omega), List.drop_eq_getElem_cons (by simp; omega)]
  rw [e]
  unfold prs
  simp only [List.getElem_zip, List.take_succ_cons, List.take_zero]
  congr 1
  rw [List.getElem_append_left (by simp; omega)]
theorem range_eq (n : Nat) : rangeD 0 n = (List.range n).map fun (i : Nat) => D.int (i : Int) := by
  unfold rangeD
  congr 1
  funext i
  rw [Int.zero_add]
@[simp] theorem pairs_in_eq {l : List Nat} (hl : l.length ≤ 1000) : F_pairs_in [.str (S l)] = .ok (.lst ((prs l).map fun k => .str (keyS k))) := by
  simp -implicitDefEqProofs (disch := omega) [F_pairs_in, g_pairs_in, runD_eq, lit_lt, lit_gt, szB_ok, rngB_ok]
  rw [range_eq, lc_map [.dat (.str (S l)), .dat (.str (S (60 :: (l ++ [62])))), .no] (fun (i : Nat) => .str (S (((60 :: (l ++ [62])).drop i).take 2)))]
  · simp
    refine List.ext_getElem (by simp [prs_len]) fun j h1 h2 => ?_
    have hj : j < l.length + 1 := by simpa using h1
    have := prs_get hj
    simp [keyS] at this ⊢
    exact this
  · intro i hi
    have hi' : i < l.length + 1 := List.mem_range.mp hi
    have e1 : HT.sIx (l.length + 1 + 1) 0 (some (i : Int)) = i := by rw [HT.sIx_nat]; omega
    have e2 : HT.sIx (l.length + 1 + 1) (l.length + 1 + 1) (some ((i : Int) + 2)) = i + 2 := by
      have : (i : Int) + 2 = ((i + 2 : Nat) : Int) := by omega
      rw [this, HT.sIx_nat]
      omega
    have e3 : i + 2 - i = 2 := by omega
    simp -implicitDefEqProofs (disch := omega) [szB_ok, e1, e2, e3]
  · simp
  · simp
  · simp
  · simp
    omega
theorem pairOk_prs {l : List Nat} (h : nameOk l = true) : ∀ k ∈ prs l, pairOk k.1 k.2 = true := by
  intro k hk
  simp [nameOk] at h
  obtain ⟨h0, h1, h2⟩ := h
  have hs : ∀ x ∈ l, x ∈ smallL := h2
  unfold prs at hk
  obtain ⟨j, hj, rfl⟩ := List.getElem_of_mem hk
  have hj' : j < l.length + 1 := by simpa [List.length_zip] using hj
  simp only [List.getElem_zip]
  unfold pairOk
  have a1 : (60 :: l)[j] = 60 ∨ (60 :: l)[j] ∈ smallL := by
    rcases List.mem_cons.mp (List.getElem_mem (l := 60 :: l) (n := j) (by simp; omega)) with q | q
    · exact .inl q
    · exact .inr (hs _ q)
  have a2 : (l ++ [62])[j]'(by simp; omega) ∈ smallL ∨ (l ++ [62])[j]'(by simp; omega) = 62 := by
    rcases List.mem_append.mp (List.getElem_mem (l := l ++ [62]) (n := j) (by simp; omega)) with q | q
    · exact .inl (hs _ q)
    · exact .inr (by simpa using q)
  have a3 : ¬ ((60 :: l)[j] = 60 ∧ (l ++ [62])[j]'(by simp; omega) = 62) := by
    intro ⟨q1, q2⟩
    cases j with
    | zero =>
      have hl : l ≠ [] := by intro e; subst e; simp at h0
      obtain ⟨x, t, rfl⟩ := List.exists_cons_of_ne_nil hl
      have : x ∈ smallL := hs x (by simp)
      rw [small_iff] at this
      simp at q2
      omega
    | succ j =>
      have hj2 : j < l.length := by omega
      have : l[j] ∈ smallL := hs _ (List.getElem_mem hj2)
      rw [small_iff] at this
      simp at q1
      omega
  simp only [Bool.and_eq_true, Bool.not_eq_true', decide_eq_true_eq, Bool.and_eq_false_iff, decide_eq_false_iff_not]
  refine ⟨?_, ?_, ?_⟩
  · omega
  · exact List.mem_cons.mpr a1
  · exact List.mem_append.mpr (a2.imp id (by simp))
/-! ### counts -/
theorem pairs_en (m : Bk) : pairsD (m.map enD) = some (dk m) := by
  induction m with
  | nil => rfl
  | cons e m ih =>
    show (match keyD (.str (keyS e.1)), pairsD (m.map enD) with
    | some k, some rs => some ((k, D.int e.2) :: rs)
    | _, _ => none) = _
    rw [ih]
    rfl
theorem merge_dk (m : Bk) : ∀ (acc : Bk), ((acc ++ m).map (·.1)).Nodup → mergeD (dk acc) (dk m) = dk (acc ++ m) := by
  induction m with
  | nil => intro acc _; simp [mergeD, dk]
  | cons e m ih =>
    intro acc h
    show mergeD (putD (dk acc) (.inr (keyS e.1)) (.int e.2)) (dk m) = _
    rw [put_dk]
    have hl : lookP acc e.1 = none := look_none.mpr fun q => by
      rw [List.map_append, List.nodup_append] at h
      exact h.2.2 _ q _ (by simp) rfl
    have : putP acc e.1 e.2 = acc ++ [(e.1, e.2)] := by
      unfold putP
      rw [any_key, hl]
      rfl
    rw [this, ih _ (by simpa using h)]
    simp
theorem dict_bk {m : Bk} (h : (m.map (·.1)).Nodup) : dictO [bkD m] = some (.K (dk m)) := by
  show (pairsD (m.map enD)).map (fun es => OD.K (mergeD [] es)) = _
  rw [pairs_en]
  have := merge_dk m [] (by simpa using h)
  exact congrArg (fun q => some (OD.K q)) this
theorem with_pairs_eq {b : Bk} {ks : List Pr} {s : Int} (h : (b.map (·.1)).Nodup) (hl : b.length + ks.length ≤ 1000000) :
    F_with_pairs [bkD b, .lst (ks.map fun k => .str (keyS k)), .int s] = .ok (.dct (dk (addP b ks s))) := by
  simp -implicitDefEqProofs [F_with_pairs, g_with_pairs, runD_eq, dict_bk h]
  refine fin_for (fun pre ρ => ∃ x, ρ = [.dat (bkD b), .dat (.lst (ks.map fun k => .str (keyS k))), .dat (.int s), .own (.K (dk (addP b pre s))), x]) (fun pre a post ρ el ⟨x, hi⟩ => ?_) ⟨_, rfl⟩ fun ρ' ⟨x, hi⟩ => ?_
  · subst hi
    refine ⟨_, _, rfl, .inl ?_, .dat (.str (keyS a)), rfl⟩
    have h1 := add_len s pre b
    have h2 : ks.length = pre.length + (post.length + 1) := by rw [el]; simp
    have h3 : (dk (addP b pre s)).length = (addP b pre s).length := by simp [dk]
    have e : addP b (pre ++ [a]) s = putP (addP b pre s) a (cnt (addP b pre s) a + s) := by simp [addP, List.foldl_append]
    have e2 : ((lookP (addP b pre s) a).map D.int).getD (.int 0) = .int (cnt (addP b pre s) a) := by
      unfold cnt
      cases lookP (addP b pre s) a <;> rfl
    simp -implicitDefEqProofs (disch := omega) [szL_ok, val_dk, e2, put_dk, e, h3]
  · subst hi
    simp -implicitDefEqProofs
end PG

/-! the plain law, four: books made of counts -/
namespace PG
open PySem PySem.Spec PyProof.Rows L2 VL
theorem keys_dk (m : Bk) : (dk m).map (fun kv => kD kv.1) = m.map fun e => D.str (keyS e.1) := by
  unfold dk
  rw [List.map_map]
  rfl
theorem sorted_keys {m : Bk} (h : m.length < 64) : sortedO [.lst (m.map fun e => D.str (keyS e.1))] = some (.L ((sortP (m.map (·.1))).map fun k => .str (keyS k))) := by
  show (strsD (m.map fun e => D.str (keyS e.1))).bind (fun xs => if xs.length < 64 then some (OD.L ((sortS xs).map .str)) else none) = _
  rw [strs_map (fun e : Pr × Int => keyS e.1) m]
  show (if (m.map fun e => keyS e.1).length < 64 then _ else _) = _
  rw [if_pos (by simpa using h)]
  have : (m.map fun e => keyS e.1) = (m.map (·.1)).map keyS := by rw [List.map_map]; rfl
  rw [this, sortS_key, List.map_map]
  rfl
theorem book_of_eq {m : Bk} (hl : m.length < 64) (hn : (m.map (·.1)).Nodup) (h1 : (bookOf m).length ≤ 60) (h2 : ∀ e ∈ bookOf m, e.2 ≤ 999) : F_book_of [.dct (dk m)] = .ok (bkD (bookOf m)) := by
  have hs : ((sortP (m.map (·.1)))).length = m.length := by rw [(sortP_perm _).length_eq, List.length_map]
  simp -implicitDefEqProofs [F_book_of, g_book_of, runD_eq, keys_dk, sorted_keys hl]
  rw [lc_filter [.dat (.dct (dk m)), .no, .no, .no] (fun k => decide (0 < cnt m k)) (fun k => enD (k, cnt m k))]
  · have e1 : ((sortP (m.map (·.1))).filter fun k => decide (0 < cnt m k)).map (fun k => enD (k, cnt m k)) = (bookOf m).map enD := by
      unfold bookOf
      rw [List.map_map]
      rfl
    have h3 : ¬ (60 < ((bookOf m).length : Int)) := by omega
    have h4 : ((sortP (m.map (·.1))).filter fun k => decide (0 < cnt m k)).length = (bookOf m).length := by simp [bookOf]
    simp -implicitDefEqProofs [e1, h3]
    rw [lc_map [.dat (.dct (dk m)), .dat (.tup ((bookOf m).map enD)), .no, .no] (fun _ => .bl false)]
    · simp -implicitDefEqProofs [bkD]
    · intro e he
      have h9 : ¬ 999 < e.2 := by have := h2 e he; omega
      simp -implicitDefEqProofs [enD, h9]
    all_goals try simp
    omega
  · intro k hk
    have hk' : k ∈ m.map (·.1) := (sortP_perm _).mem_iff.mp hk
    have : ∃ v, lookP m k = some v := by
      cases e : lookP m k with
      | none => exact absurd hk' (look_none.mp e)
      | some v => exact ⟨v, rfl⟩
    obtain ⟨v, ev⟩ := this
    have ec : cnt m k = v := by unfold cnt; rw [ev]; rfl
    simp -implicitDefEqProofs (disch := omega) [val_dk, ev, ec, szB_ok]
    intro _
    simp [enD]
  · simp
  · simp
  · simp
  · omega
/-- all counts of a list that makes no more than a book holds -/
structure Fits (m : Bk) : Prop where
  nd : (m.map (·.1)).Nodup
  len : m.length < 64
  blen : (bookOf m).length ≤ 60
  top : ∀ e ∈ bookOf m, e.2 ≤ 999
  prs : ∀ k ∈ m.map (·.1), pairOk k.1 k.2 = true
theorem Fits.book {m : Bk} (h : Fits m) : BookOk (bookOf m) where
  len := h.blen
  prs e he := by
    have : e.1 ∈ (bookOf m).map (·.1) := List.mem_map_of_mem he
    rw [bookOf_keys] at this
    exact h.prs _ ((sortP_perm _).mem_iff.mp (List.mem_filter.mp this).1)
  low e he := by
    have := (bookOf_srt h.nd).pos e he
    omega
  top := h.top
  srt := (bookOf_srt h.nd).srt
theorem Fits.eq {m : Bk} (h : Fits m) : F_book_of [.dct (dk m)] = .ok (bkD (bookOf m)) := book_of_eq h.len h.nd h.blen h.top
theorem bookOf_len (m : Bk) : (bookOf m).length ≤ m.length := by
  unfold bookOf
  rw [List.length_map]
  refine Nat.le_trans (List.length_filter_le _ _) ?_
  rw [(sortP_perm _).length_eq, List.length_map]
  exact Nat.le_refl _
theorem Fits.of {m : Bk} (nd : (m.map (·.1)).Nodup) (len : m.length ≤ 60) (top : ∀ k, cnt m k ≤ 999) (prs : ∀ k ∈ m.map (·.1), pairOk k.1 k.2 = true) : Fits m where
  nd := nd
  len := by omega
  blen := Nat.le_trans (bookOf_len m) len
  top e he := by
    have h1 := cnt_mem (bookOf_srt nd).nodup he
    rw [bookOf_cnt nd] at h1
    have := top e.1
    split at h1 <;> omega
  prs := prs
@[simp] theorem plus_en (a b : Bk) : True := trivial
/-- the pairs of names, one behind the other -/
def prsAll (ns : List (List Nat)) : List Pr := ns.flatMap prs
def learnB (ns : List (List Nat)) : Bk := bookOf (addP [] (prsAll ns) 1)
theorem prsAll_len (ns : List (List Nat)) (h : ∀ n ∈ ns, nameOk n = true) : (prsAll ns).length ≤ 7 * ns.length := by
  induction ns with
  | nil => simp [prsAll]
  | cons n ns ih =>
    have h1 := nameOk_len (h n (List.mem_cons_self ..))
    have h2 := ih fun x m => h x (List.mem_cons_of_mem _ m)
    unfold prsAll at *
    rw [List.flatMap_cons, List.length_append, prs_len, List.length_cons]
    omega
theorem prsAll_ok {ns : List (List Nat)} (h : ∀ n ∈ ns, nameOk n = true) : ∀ k ∈ prsAll ns, pairOk k.1 k.2 = true := by
  intro k hk
  obtain ⟨n, hn, hk⟩ := List.mem_flatMap.mp hk
  exact pairOk_prs (h n hn) k hk
theorem count_le_len {α : Type} [BEq α] [LawfulBEq α] (l : List α) (a : α) : l.count a ≤ l.length := List.count_le_length
theorem cnt_learn_raw (ns : List (List Nat)) (k : Pr) : cnt (addP [] (prsAll ns) 1) k = ((prsAll ns).count k : Nat) := by
  rw [cnt_add]
  simp [cnt]
theorem fits_learn {ns : List (List Nat)} (h : ∀ n ∈ ns, nameOk n = true) (hl : ns.length ≤ 8) : Fits (addP [] (prsAll ns) 1) := by
  have h1 := prsAll_len ns h
  refine Fits.of (add_nodup 1 _ (by simp)) ?_ (fun k => ?_) (fun k hk => ?_)
  · have := add_len 1 (prsAll ns) []
    simp at this
    omega
  · rw [cnt_learn_raw]
    have := count_le_len (prsAll ns) k
    omega
  · rcases add_keys 1 _ hk with q | q
    · simp at q
    · exact prsAll_ok h k q
theorem learned_body {ns : List (List Nat)} (h : ∀ n ∈ ns, nameOk n = true) (hl : ns.length ≤ 8) (d : D) (hd : d = .lst (ns.map txD) ∨ d = .tup (ns.map txD)) : F_learned [d] = .ok (bkD (learnB ns)) := by
  have ha : F_are_names [d, .int 40] = .ok (.bl true) := by
    rcases hd with rfl | rfl
    · exact are_names_l (m := 40) h (by omega) (by omega)
    · exact are_names_t (m := 40) h (by omega) (by omega)
  have hi : anyI d = some (ns.map txD) := by rcases hd with rfl | rfl <;> rfl
  have hf := fits_learn h hl
  have hp := prsAll_len ns h
  simp -implicitDefEqProofs (disch := omega) [F_learned, g_learned, runD_eq, ha, hi, szB_ok]
  refine fin_for (fun pre ρ => ∃ x, ρ = [.dat d, .own (.L ((prsAll pre).map fun k => .str (keyS k))), x]) (fun pre a post ρ el ⟨x, hi⟩ => ?_) ⟨_, rfl⟩ fun ρ' ⟨x, hi⟩ => ?_
  · subst hi
    refine ⟨_, _, rfl, .inl ?_, .dat (txD a), rfl⟩
    have ha := h a (by rw [el]; simp)
    have h1 := nameOk_len ha
    have h2 := prsAll_len pre fun n m => h n (by rw [el]; simp [m])
    have h3 : pre.length ≤ ns.length := by rw [el]; simp
    have e : prsAll (pre ++ [a]) = prsAll pre ++ prs a := by simp [prsAll]
    have hz : szB ((prsAll pre).length + (a.length + 1)) = true := szB_ok (by omega)
    have e2 : F_pairs_in [txD a] = _ := pairs_in_eq (l := a) (by omega)
    simp -implicitDefEqProofs [e2, e, prs_len, hz]
  · subst hi
    have e1 : F_with_pairs [bkD [], .lst ((prsAll ns).map fun k => .str (keyS k)), .int 1] = _ := with_pairs_eq (by simp) (by simp; omega)
    have e2 : D.tup [] = bkD [] := rfl
    simp -implicitDefEqProofs (disch := omega) [szB_ok, e2, e1, hf.eq, learnB]
theorem learned_l {ns : List (List Nat)} (h : ∀ n ∈ ns, nameOk n = true) (hl : ns.length ≤ 8) : F_learned [.lst (ns.map txD)] = .ok (bkD (learnB ns)) := learned_body h hl _ (.inl rfl)
theorem learned_t {ns : List (List Nat)} (h : ∀ n ∈ ns, nameOk n = true) (hl : ns.length ≤ 8) : F_learned [.tup (ns.map txD)] = .ok (bkD (learnB ns)) := learned_body h hl _ (.inr rfl)
theorem learn_ok {ns : List (List Nat)} (h : ∀ n ∈ ns, nameOk n = true) (hl : ns.length ≤ 8) : BookOk (learnB ns) := (fits_learn h hl).book
theorem cnt_learn (ns : List (List Nat)) (k : Pr) : cnt (learnB ns) k = ((prsAll ns).count k : Nat) := by
  unfold learnB
  rw [bookOf_cnt (add_nodup 1 _ (by simp)), cnt_learn_raw]
  split <;> omega
/-! ### a name more, a name less -/
def withB (b : Bk) (n : List Nat) : Bk := bookOf (addP b (prs n) 1)
def lessB (b : Bk) (n : List Nat) : Bk := bookOf (addP b (prs n) (-1))
theorem with_name_eq {b : Bk} {n : List Nat} (hb : BookOk b) (hn : nameOk n = true) (hf : Fits (addP b (prs n) 1)) : F_with_name [bkD b, .str (S n)] = .ok (bkD (withB b n)) := by
  have h1 := nameOk_len hn
  have e2 := pairs_in_eq (l := n) (by omega)
  have e3 := with_pairs_eq (b := b) (ks := prs n) (s := 1) hb.toSrt.nodup (by have := hb.len; rw [prs_len]; omega)
  simp -implicitDefEqProofs [F_with_name, g_with_name, runD_eq, hb, hn, e2, e3, hf.eq, withB]
theorem without_name_eq {b : Bk} {n : List Nat} (hb : BookOk b) (hn : nameOk n = true) (hf : Fits (addP b (prs n) (-1))) (h0 : ∀ k, 0 ≤ cnt (addP b (prs n) (-1)) k) : F_without_name [bkD b, .str (S n)] = .ok (bkD (lessB b n)) := by
  have h1 := nameOk_len hn
  have e2 := pairs_in_eq (l := n) (by omega)
  have e3 := with_pairs_eq (b := b) (ks := prs n) (s := -1) hb.toSrt.nodup (by have := hb.len; rw [prs_len]; omega)
  simp -implicitDefEqProofs [F_without_name, g_without_name, runD_eq, hb, hn, e2, e3, keys_dk]
  rw [lc_map [.dat (bkD b), .dat (.str (S n)), .dat (.dct (dk (addP b (prs n) (-1)))), .no] (fun _ => .bl false)]
  · simp -implicitDefEqProofs [hf.eq, lessB]
  · intro e he
    have el := look_mem hf.nd he
    have := h0 e.1
    unfold cnt at this
    rw [el] at this
    have h9 : ¬ e.2 < 0 := by simpa using this
    simp -implicitDefEqProofs [val_dk, el, h9]
  all_goals try simp
  have := hf.len
  omega
/-! ### two books together -/
def bothP (a b : Bk) : Bk := b.foldl (fun m e => putP m e.1 (cnt m e.1 + e.2)) a
def bothB (a b : Bk) : Bk := bookOf (bothP a b)
theorem cnt_both (k : Pr) : ∀ (b a : Bk), (b.map (·.1)).Nodup → cnt (bothP a b) k = cnt a k + cnt b k
  | [], a, _ => by simp [bothP, cnt]
  | e :: b, a, h => by
    have h' := List.nodup_cons.mp (by simpa using h : (e.1 :: b.map (·.1)).Nodup)
    show cnt (bothP (putP a e.1 (cnt a e.1 + e.2)) b) k = _
    rw [cnt_both k b _ h'.2, cnt_put]
    by_cases q : e.1 = k
    · subst q
      have e1 : cnt b e.1 = 0 := cnt_none h'.1
      have e2 : cnt (e :: b) e.1 = e.2 := by unfold cnt; rw [look_cons, if_pos rfl]; rfl
      rw [if_pos rfl, e1, e2]
      omega
    · have e2 : cnt (e :: b) k = cnt b k := by unfold cnt; rw [look_cons, if_neg q]
      rw [if_neg q, e2]
theorem both_nodup : ∀ (b a : Bk), (a.map (·.1)).Nodup → ((bothP a b).map (·.1)).Nodup
  | [], _, h => h
  | e :: b, a, h => both_nodup b _ (nodup_put h _ _)
theorem both_keys {x : Pr} : ∀ (b a : Bk), x ∈ (bothP a b).map (·.1) → x ∈ a.map (·.1) ∨ x ∈ b.map (·.1)
  | [], _, h => .inl h
  | e :: b, a, h => by
    rcases both_keys b _ h with h | h
    · rcases mem_put h with h | h
      · exact .inl h
      · exact .inr (by simp [h])
    · exact .inr (List.mem_cons_of_mem _ h)
theorem both_len : ∀ (b a : Bk), (bothP a b).length ≤ a.length + b.length
  | [], a => Nat.le_refl _
  | e :: b, a => by
    have h1 := both_len b (putP a e.1 (cnt a e.1 + e.2))
    have h2 := len_put a e.1 (cnt a e.1 + e.2)
    show (bothP (putP a e.1 (cnt a e.1 + e.2)) b).length ≤ _
    simp only [List.length_cons]
    omega
theorem both_eq {a b : Bk} (ha : BookOk a) (hb : BookOk b) (hf : Fits (bothP a b)) : F_both [bkD a, bkD b] = .ok (bkD (bothB a b)) := by
  have hl := ha.len
  have hl2 := hb.len
  have ei : anyI (bkD b) = some (b.map enD) := rfl
  simp -implicitDefEqProofs [F_both, g_both, runD_eq, ha, hb, dict_bk ha.toSrt.nodup, ei]
  refine fin_for (fun pre ρ => ∃ x y, ρ = [.dat (bkD a), .dat (bkD b), .own (.K (dk (bothP a pre))), x, y]) (fun pre e post ρ el ⟨x, y, hi⟩ => ?_) ⟨_, _, rfl⟩ fun ρ' ⟨x, y, hi⟩ => ?_
  · subst hi
    refine ⟨_, _, rfl, .inl ?_, .dat (.str (keyS e.1)), .dat (.int e.2), rfl⟩
    have h1 := both_len pre a
    have h2 : b.length = pre.length + (post.length + 1) := by rw [el]; simp
    have h3 : (dk (bothP a pre)).length = (bothP a pre).length := by simp [dk]
    have e1 : bothP a (pre ++ [e]) = putP (bothP a pre) e.1 (cnt (bothP a pre) e.1 + e.2) := by simp [bothP, List.foldl_append]
    have e2 : ((lookP (bothP a pre) e.1).map D.int).getD (.int 0) = .int (cnt (bothP a pre) e.1) := by
      unfold cnt
      cases lookP (bothP a pre) e.1 <;> rfl
    simp -implicitDefEqProofs (disch := omega) [szL_ok, val_dk, e2, put_dk, e1, h3]
  · subst hi
    simp -implicitDefEqProofs [hf.eq, bothB]
def sumB (b : Bk) (p : Pr → Bool) : Int := ((b.filter fun e => p e.1).map (·.2)).sum
theorem begun_eq {b : Bk} (hb : BookOk b) : F_begun [bkD b] = .ok (.int (sumB b fun k => decide (k.1 = 60))) := by
  have hl := hb.len
  have ei : anyI (bkD b) = some (b.map enD) := rfl
  simp -implicitDefEqProofs [F_begun, g_begun, runD_eq, hb, ei]
  rw [lc_filter [.dat (bkD b), .no, .no] (fun e => decide (e.1.1 = 60)) (fun e => .int e.2)]
  · simp -implicitDefEqProofs [sumB]
  · intro e he
    have el : (keyS e.1).length = 2 := by simp [keyS]
    simp -implicitDefEqProofs (disch := omega) [enD, lit_lt, szB_ok, el]
    simp -implicitDefEqProofs [keyS, S_one]
  all_goals try simp
  omega
end PG

/-! the plain law, five: fractions; what is drawn of the script -/
namespace PG
open PySem PySem.Spec PyProof.Rows L2 VL
theorem fdB_nat {n : Nat} (h : 0 < n) (h2 : n.log2 < 9000) : fdB (n : Int) = true := decide_eq_true ⟨by omega, by simpa using h2⟩
theorem log2_mono {a b : Nat} (h : a ≤ b) (h0 : 0 < a) : a.log2 ≤ b.log2 := by
  have := Nat.log2_self_le (n := a) (by omega)
  exact (Nat.le_log2 (by omega)).mpr (Nat.le_trans this h)
@[simp] theorem s_while_a (fu : VL.Env → Nat) (c : EM Bool) (body : SM) (ρ : VL.Env) : s_while fu c body ρ = whileD c body (fu ρ) ρ := rfl
@[simp] theorem fuI_a (k : Nat) (ρ : VL.Env) : fuI k ρ = match ρ[k]? with
  | some (Slot.dat (D.int i)) => i.natAbs + 1
  | _ => 0 := rfl
theorem euclid (x y : D) : ∀ (n a b : Nat), b < n → whileD (t_val (e_op neD (e_name 3) (e_k (.int 0)))) (s_par 2 3 (a_cons (e_name 3) (a_cons (e_op modD (e_name 2) (e_name 3)) a_nil))) n
      [.dat x, .dat y, .dat (.int a), .dat (.int b)] = .next [.dat x, .dat y, .dat (.int (Nat.gcd a b : Nat)), .dat (.int 0)]
  | 0, _, _, h => absurd h (Nat.not_lt_zero _)
  | n + 1, a, b, h => by
    unfold whileD
    by_cases hb : b = 0
    · subst hb
      simp -implicitDefEqProofs
    · have h1 : ¬ ((b : Int) = 0) := by omega
      have h2 : (0 : Int) < b := by omega
      have h3 : (a : Int) % (b : Int) = ((a % b : Nat) : Int) := by omega
      have ih := euclid x y n b (a % b) (by have := Nat.mod_lt a (Nat.pos_of_ne_zero hb); omega)
      have h5 : 0 < b := by omega
      simp -implicitDefEqProofs [hb, h5]
      rw [h3, ih]
      have : Nat.gcd b (a % b) = Nat.gcd a b := by rw [Nat.gcd_comm a b, Nat.gcd_rec b a, Nat.gcd_comm]
      rw [this]
theorem lowest_eq {u d : Nat} (hd : 0 < d) (hl : d.log2 < 9000) : F_lowest [.int u, .int d] = .ok (.tup [.int ((u / Nat.gcd u d : Nat) : Int), .int ((d / Nat.gcd u d : Nat) : Int)]) := by
  have hg : 0 < Nat.gcd u d := Nat.gcd_pos_of_pos_right u hd
  have hf : fdB ((Nat.gcd u d : Nat) : Int) = true := fdB_nat hg (Nat.lt_of_le_of_lt (log2_mono (Nat.gcd_le_right u hd) hg) hl)
  simp -implicitDefEqProofs [F_lowest, g_lowest, runD_eq]
  rw [euclid _ _ (d + 1) u d (Nat.lt_succ_self d)]
  simp -implicitDefEqProofs (disch := omega) [hf, szB_ok]
/-! a fraction: how many of how many -/
abbrev Fr := Nat × Nat
def frD (f : Fr) : D := .tup [.int f.1, .int f.2]
def low (u d : Nat) : Fr := (u / Nat.gcd u d, d / Nat.gcd u d)
theorem lowest_low {u d : Nat} (hd : 0 < d) (hl : d.log2 < 9000) : F_lowest [.int u, .int d] = .ok (frD (low u d)) := lowest_eq hd hl
theorem low_pos {u d : Nat} (hd : 0 < d) : 0 < (low u d).2 := Nat.div_pos (Nat.gcd_le_right u hd) (Nat.gcd_pos_of_pos_right u hd)
theorem low_le {u d : Nat} : (low u d).1 ≤ u ∧ (low u d).2 ≤ d := ⟨Nat.div_le_self _ _, Nat.div_le_self _ _⟩
theorem low_up {u d : Nat} (hu : 0 < u) : 0 < (low u d).1 := Nat.div_pos (Nat.gcd_le_left d hu) (Nat.gcd_pos_of_pos_left d hu)
theorem count_of_eq {b : Bk} (hb : (b.map (·.1)).Nodup) (k : Pr) : F_count_of [bkD b, .str (keyS k)] = .ok (.int (cnt b k)) := by
  have e2 : ((lookP b k).map D.int).getD (.int 0) = .int (cnt b k) := by
    unfold cnt
    cases lookP b k <;> rfl
  simp -implicitDefEqProofs [F_count_of, g_count_of, runD_eq, dict_bk hb, val_dk, e2]
def behind (b : Bk) (s : Nat) : Int := sumB b fun k => decide (k.1 = s)
theorem sum_behind_eq {b : Bk} (hl : b.length ≤ 100000) (s : Nat) : F_sum_behind [bkD b, .str (S [s])] = .ok (.int (behind b s)) := by
  have ei : anyI (bkD b) = some (b.map enD) := rfl
  simp -implicitDefEqProofs [F_sum_behind, g_sum_behind, runD_eq, ei]
  rw [lc_filter [.dat (bkD b), .dat (.str (S [s])), .no, .no] (fun e => decide (e.1.1 = s)) (fun e => .int e.2)]
  · simp -implicitDefEqProofs [sumB, behind]
  · intro e he
    have el : (keyS e.1).length = 2 := by simp [keyS]
    simp -implicitDefEqProofs (disch := omega) [enD, szB_ok, el]
    simp -implicitDefEqProofs [keyS, S_one]
  all_goals try simp
  omega
theorem sumB_nonneg {b : Bk} (h : ∀ e ∈ b, 0 ≤ e.2) (p : Pr → Bool) : 0 ≤ sumB b p := by
  unfold sumB
  induction b with
  | nil => simp
  | cons e b ih =>
    have h1 := h e (List.mem_cons_self ..)
    have h2 := ih fun x m => h x (List.mem_cons_of_mem _ m)
    rw [List.filter_cons]
    split
    · simp
      omega
    · exact h2
theorem sumB_le {b : Bk} (h : ∀ e ∈ b, 0 ≤ e.2 ∧ e.2 ≤ 999) (p : Pr → Bool) : sumB b p ≤ 999 * b.length := by
  unfold sumB
  induction b with
  | nil => simp
  | cons e b ih =>
    have h1 := h e (List.mem_cons_self ..)
    have h2 := ih fun x m => h x (List.mem_cons_of_mem _ m)
    rw [List.filter_cons]
    split
    · simp
      omega
    · simp at *
      omega
theorem cnt_le_sum {b : Bk} (h : ∀ e ∈ b, 0 ≤ e.2) {p : Pr → Bool} {k : Pr} (hp : p k = true) : cnt b k ≤ sumB b p := by
  induction b with
  | nil => simp [cnt, sumB]
  | cons e b ih =>
    have h1 := h e (List.mem_cons_self ..)
    have h2 := ih fun x m => h x (List.mem_cons_of_mem _ m)
    have h3 := sumB_nonneg (fun x m => h x (List.mem_cons_of_mem _ m)) p
    have h4 : sumB (e :: b) p = (if p e.1 then e.2 else 0) + sumB b p := by
      unfold sumB
      rw [List.filter_cons]
      split <;> simp
    rw [h4]
    unfold cnt at *
    rw [look_cons]
    by_cases q : e.1 = k
    · rw [if_pos q]
      simp [q, hp]
      omega
    · rw [if_neg q]
      split <;> omega
def shareF (b : Bk) (k : Pr) : Fr := if 0 < behind b k.1 then low (cnt b k).toNat (behind b k.1).toNat else (0, 1)
theorem BookOk.range {b : Bk} (h : BookOk b) : ∀ e ∈ b, 0 ≤ e.2 ∧ e.2 ≤ 999 := fun e m => ⟨by have := h.low e m; omega, h.top e m⟩
theorem cnt_nonneg {b : Bk} (h : ∀ e ∈ b, 0 ≤ e.2) (k : Pr) : 0 ≤ cnt b k := by
  unfold cnt
  cases e : lookP b k with
  | none => simp
  | some v => exact h _ (mem_look e)
theorem behind_le {b : Bk} (h : BookOk b) (s : Nat) : 0 ≤ behind b s ∧ behind b s ≤ 59940 := by
  have h1 := sumB_nonneg (fun e m => (h.range e m).1) fun k => decide (k.1 = s)
  have h2 := sumB_le h.range fun k => decide (k.1 = s)
  have := h.len
  unfold behind
  omega
theorem log2_small {n : Nat} (h : n ≤ 1000000) : n.log2 < 9000 := by
  by_cases h0 : n = 0
  · subst h0
    decide
  · have := (Nat.log2_lt h0).mpr (show n < 2 ^ 20 by omega)
    omega
theorem share_of_eq {b : Bk} (h : BookOk b) (k : Pr) : F_share_of [bkD b, .str (keyS k)] = .ok (frD (shareF b k)) := by
  have hl := h.len
  obtain ⟨h1, h2⟩ := behind_le h k.1
  have h3 := cnt_nonneg (fun e m => (h.range e m).1) k
  have el : (keyS k).length = 2 := by simp [keyS]
  have ek : (keyS k).cps.toList[0]? = some k.1 := by simp [keyS]
  have e1 := sum_behind_eq (b := b) (by omega) k.1
  have e2 := count_of_eq h.toSrt.nodup k
  simp -implicitDefEqProofs (disch := omega) [F_share_of, g_share_of, runD_eq, szB_ok, el]
  simp -implicitDefEqProofs [keyS, S_one, e1]
  rw [← keyS, e2]
  by_cases hp : 0 < behind b k.1
  · have e3 := lowest_low (u := (cnt b k).toNat) (d := (behind b k.1).toNat) (by omega) (log2_small (by omega))
    rw [Int.toNat_of_nonneg h3, Int.toNat_of_nonneg h1] at e3
    simp -implicitDefEqProofs [hp, e3, shareF]
  · simp -implicitDefEqProofs (disch := omega) [hp, shareF, frD, szB_ok]
theorem lowest_bound {u d : Nat} : (low u d).2 ≤ d := low_le.2
/-- the product of fractions, made lowest at each step -/
def prodF (fs : List Fr) : Fr := fs.foldl (fun a f => low (a.1 * f.1) (a.2 * f.2)) (1, 1)
theorem prod_den_pos : ∀ {fs : List Fr}, (∀ f ∈ fs, 0 < f.2) → ∀ a : Fr, 0 < a.2 → 0 < (fs.foldl (fun a f => low (a.1 * f.1) (a.2 * f.2)) a).2
  | [], _, a, h => h
  | f :: fs, hf, a, h => prod_den_pos (fun x m => hf x (List.mem_cons_of_mem _ m)) _ (low_pos (Nat.mul_pos h (hf f (List.mem_cons_self ..))))
theorem prod_up_pos : ∀ {fs : List Fr}, (∀ f ∈ fs, 0 < f.1) → ∀ a : Fr, 0 < a.1 → 0 < (fs.foldl (fun a f => low (a.1 * f.1) (a.2 * f.2)) a).1
  | [], _, a, h => h
  | f :: fs, hf, a, h => prod_up_pos (fun x m => hf x (List.mem_cons_of_mem _ m)) _ (low_up (Nat.mul_pos h (hf f (List.mem_cons_self ..))))
/-- bounds: each part of a fraction below 2^17, so of k of them below 2^(17 k) -/
theorem prod_bound : ∀ {fs : List Fr}, (∀ f ∈ fs, f.1 < 2 ^ 17 ∧ f.2 < 2 ^ 17) → ∀ (a : Fr) (n : Nat), a.1 < 2 ^ n → a.2 < 2 ^ n →
    (fs.foldl (fun a f => low (a.1 * f.1) (a.2 * f.2)) a).1 < 2 ^ (n + 17 * fs.length) ∧ (fs.foldl (fun a f => low (a.1 * f.1) (a.2 * f.2)) a).2 < 2 ^ (n + 17 * fs.length)
  | [], _, a, n, h1, h2 => ⟨h1, h2⟩
  | f :: fs, hf, a, n, h1, h2 => by
    obtain ⟨b1, b2⟩ := hf f (List.mem_cons_self ..)
    have e1 : a.1 * f.1 < 2 ^ (n + 17) := by
      rw [Nat.pow_add]
      exact Nat.mul_lt_mul'' h1 b1
    have e2 : a.2 * f.2 < 2 ^ (n + 17) := by
      rw [Nat.pow_add]
      exact Nat.mul_lt_mul'' h2 b2
    have := prod_bound (fun x m => hf x (List.mem_cons_of_mem _ m)) (low (a.1 * f.1) (a.2 * f.2)) (n + 17) (Nat.lt_of_le_of_lt low_le.1 e1) (Nat.lt_of_le_of_lt low_le.2 e2)
    have e3 : n + 17 * (f :: fs).length = n + 17 + 17 * fs.length := by simp; omega
    rw [e3]
    exact this
theorem product_eq {fs : List Fr} (hp : ∀ f ∈ fs, 0 < f.2) (hb : ∀ f ∈ fs, f.1 < 2 ^ 17 ∧ f.2 < 2 ^ 17) (hl : fs.length ≤ 400) : F_product [.lst (fs.map frD)] = .ok (frD (prodF fs)) := by
  simp -implicitDefEqProofs (disch := omega) [F_product, g_product, runD_eq, szB_ok]
  refine fin_for (fun pre ρ => ∃ x, ρ = [.dat (.lst (fs.map frD)), .dat (.int ((prodF pre).1 : Nat)), .dat (.int ((prodF pre).2 : Nat)), x]) (fun pre f post ρ el ⟨x, hi⟩ => ?_) ⟨_, rfl⟩ fun ρ' ⟨x, hi⟩ => ?_
  · subst hi
    have hm : f ∈ fs := by rw [el]; simp
    have hpre : ∀ y ∈ pre, y ∈ fs := fun y m => by rw [el]; simp [m]
    have hlen : pre.length < 400 := by have := congrArg List.length el; simp at this; omega
    have b := prod_bound (fun y m => hb y (hpre y m)) (1, 1) 1 (by decide) (by decide)
    have d := prod_den_pos (fun y m => hp y (hpre y m)) (1, 1) (by decide)
    have bf := hb f hm
    have e : prodF (pre ++ [f]) = low ((prodF pre).1 * f.1) ((prodF pre).2 * f.2) := by simp [prodF, List.foldl_append]
    have m1 : mulB ((prodF pre).1 : Nat) (f.1 : Nat) = true := mulB_r (by omega) (by omega)
    have m2 : mulB ((prodF pre).2 : Nat) (f.2 : Nat) = true := mulB_r (by omega) (by omega)
    have hd : 0 < (prodF pre).2 * f.2 := Nat.mul_pos d (hp f hm)
    have hlog : ((prodF pre).2 * f.2).log2 < 9000 := by
      refine Nat.lt_of_lt_of_le ((Nat.log2_lt (k := 1 + 17 * pre.length + 17) (by omega)).mpr ?_) (by omega)
      have e1 : (prodF pre).2 * f.2 < 2 ^ (1 + 17 * pre.length) * 2 ^ 17 := Nat.mul_lt_mul'' b.2 bf.2
      rw [← Nat.pow_add] at e1
      exact e1
    have e5 := lowest_low (u := (prodF pre).1 * f.1) (d := (prodF pre).2 * f.2) hd hlog
    rw [Int.natCast_mul, Int.natCast_mul] at e5
    refine ⟨_, _, rfl, .inl ?_, .dat (frD f), rfl⟩
    rw [e]
    simp -implicitDefEqProofs [frD, m1, m2, e5]
  · subst hi
    simp -implicitDefEqProofs (disch := omega) [szB_ok, frD]
def chanceF (b : Bk) (n : List Nat) : Fr := prodF ((prs n).map (shareF b))
theorem share_pos {b : Bk} (h : BookOk b) (k : Pr) : 0 < (shareF b k).2 := by
  unfold shareF
  split
  · exact low_pos (by omega)
  · decide
theorem share_bound {b : Bk} (h : BookOk b) (k : Pr) : (shareF b k).1 < 2 ^ 17 ∧ (shareF b k).2 < 2 ^ 17 := by
  obtain ⟨h1, h2⟩ := behind_le h k.1
  have h3 := cnt_le_sum (fun e m => (h.range e m).1) (p := fun q => decide (q.1 = k.1)) (k := k) (by simp)
  have h4 : cnt b k ≤ behind b k.1 := h3
  unfold shareF
  split
  · have a := low_le (u := (cnt b k).toNat) (d := (behind b k.1).toNat)
    omega
  · decide
theorem chance_of_eq {b : Bk} (h : BookOk b) {n : List Nat} (hn : n.length ≤ 300) : F_chance_of [bkD b, .str (S n)] = .ok (frD (chanceF b n)) := by
  have e1 := pairs_in_eq (l := n) (by omega)
  simp -implicitDefEqProofs [F_chance_of, g_chance_of, runD_eq, e1]
  rw [lc_map [.dat (bkD b), .dat (.str (S n)), .no] (fun k => frD (shareF b k))]
  · have e2 : (prs n).map (fun k => frD (shareF b k)) = ((prs n).map (shareF b)).map frD := by rw [List.map_map]; rfl
    have e3 := product_eq (fs := (prs n).map (shareF b)) (fun f m => by obtain ⟨k, _, rfl⟩ := List.mem_map.mp m; exact share_pos h k) (fun f m => by obtain ⟨k, _, rfl⟩ := List.mem_map.mp m; exact share_bound h k) (by rw [List.length_map, prs_len]; omega)
    rw [List.map_map] at e3
    simp -implicitDefEqProofs [e2, e3, chanceF]
  · intro k hk
    simp -implicitDefEqProofs [share_of_eq h k]
  all_goals try simp
  rw [prs_len]
  omega
theorem chance_eq {b : Bk} (h : BookOk b) {n : List Nat} (hn : nameOk n = true) : F_chance [bkD b, .str (S n)] = .ok (frD (chanceF b n)) := by
  have h1 := nameOk_len hn
  simp -implicitDefEqProofs [F_chance, g_chance, runD_eq, h, hn, chance_of_eq h (show n.length ≤ 300 by omega)]
theorem chance_up {b : Bk} (h : BookOk b) {n : List Nat} (hk : ∀ k ∈ prs n, 0 < cnt b k) : 0 < (chanceF b n).1 := by
  refine prod_up_pos (fun f m => ?_) (1, 1) (by decide)
  obtain ⟨k, hm, rfl⟩ := List.mem_map.mp m
  have h1 := hk k hm
  have h2 : cnt b k ≤ behind b k.1 := cnt_le_sum (fun e m => (h.range e m).1) (p := fun q => decide (q.1 = k.1)) (k := k) (by simp)
  unfold shareF
  rw [if_pos (by omega)]
  exact low_up (by omega)
/-! ### what is drawn of the script -/
abbrev scD (ns : List Int) : D := .ll (ns.map .int)
theorem eq_ll_nil (ns : List Int) : eqD (scD ns) (.lst []) = some (.bl (decide (ns = []))) := by
  have e1 : ∀ ns : List Int, PyData.canLayAll0 (D.toPs (ns.map .int)) = true := fun ns => by
    induction ns with
    | nil => rfl
    | cons i ns ih => simp [D.toPs, D.toP, PyData.canLayAll0, PyData.canLay0, ih]
  have e2 : ∀ ns : List Int, PyData.depthAll (D.toPs (ns.map .int)) = 0 := fun ns => by
    induction ns with
    | nil => rfl
    | cons i ns ih => simp [D.toPs, D.toP, PyData.depthAll, PyData.depth, ih]
  have s1 : SeqAt.shaped (scD ns).toP = true := by simp [SeqAt.shaped, D.toP, PyData.canLay0, PyData.depth, e1, e2]
  have s2 : SeqAt.shaped (D.lst []).toP = true := by decide
  have e3 : PyData.eqv (scD ns).toP (D.lst []).toP = decide (ns = []) := by
    cases ns <;> simp [D.toP, D.toPs, PyData.eqv, PyData.eqvAll]
  show (eqB (scD ns) (.lst [])).map D.bl = _
  have : eqB (scD ns) (.lst []) = some (decide (ns = [])) := by
    show (if SeqAt.shaped (scD ns).toP = true ∧ SeqAt.shaped (D.lst []).toP = true then some (PyData.eqv (scD ns).toP (D.lst []).toP) else none) = _
    rw [if_pos ⟨s1, s2⟩, e3]
  rw [this]
  rfl
def cellZ (ns : List Int) (k : Nat) : Int := if h : k < ns.length then ns[k] else if ns = [] then 0 else ns.getD (k % ns.length) 0 * 31 + k
theorem cell_eq (ns : List Int) (k : Nat) : F__law_cell [scD ns, .int k] = .ok (.int (cellZ ns k)) := by
  simp -implicitDefEqProofs [F__law_cell, g__law_cell, runD_eq, eq_ll_nil]
  unfold cellZ
  by_cases h : k < ns.length
  · simp -implicitDefEqProofs [h, atI_k]
  · by_cases h2 : ns = []
    · simp -implicitDefEqProofs (disch := omega) [h, h2, szB_ok]
    · have h3 : 0 < ns.length := List.length_pos_iff.mpr h2
      have h4 : k % ns.length < ns.length := Nat.mod_lt _ h3
      have h5 : (k : Int) % (ns.length : Int) = ((k % ns.length : Nat) : Int) := by omega
      have h6 : ∀ z : Int, mulB z 31 = true := fun z => mulB_r (by omega) (by omega)
      simp -implicitDefEqProofs (disch := omega) [h, h2, h3, szB_ok]
      rw [h5, atI_k]
      simp -implicitDefEqProofs [h4, h6]
def pickZ (ns : List Int) (k : Nat) : Int := (cellZ ns k + 6151 * ((k : Int) + 1)) * 40692 % 2147483399
def pick (ns : List Int) (k : Nat) (m : Nat) : Nat := ((pickZ ns k * pickZ ns k + pickZ ns k / 31) % 2147483629).toNat % m
theorem pick_lt (ns : List Int) (k : Nat) {m : Nat} (h : 0 < m) : pick ns k m < m := Nat.mod_lt _ h
theorem pick_eq (ns : List Int) (k : Nat) {m : Nat} (h : 0 < m) : F__law_pick [scD ns, .int k, .int m] = .ok (.int (pick ns k m : Nat)) := by
  have h1 : ∀ z : Int, mulB 6151 z = true := fun z => mulB_l (by omega) (by omega)
  have h2 : ∀ z : Int, mulB z 40692 = true := fun z => mulB_r (by omega) (by omega)
  have h3 : 0 ≤ pickZ ns k ∧ pickZ ns k < 2147483399 := by unfold pickZ; omega
  have h4 : mulB (pickZ ns k) (pickZ ns k) = true := mulB_r (by omega) (by omega)
  have h5 : fdB 31 = true := fdB_ok (by omega) (by omega)
  have h6 : 0 ≤ (pickZ ns k * pickZ ns k + pickZ ns k / 31) % 2147483629 := by omega
  have h7 : ((pick ns k m : Nat) : Int) = (pickZ ns k * pickZ ns k + pickZ ns k / 31) % 2147483629 % m := by
    unfold pick
    rw [Int.natCast_emod, Int.toNat_of_nonneg h6]
  have e := cell_eq ns k
  rw [h7]
  simp -implicitDefEqProofs [F__law_pick, g__law_pick, runD_eq, e, h1, h2]
  rw [show (cellZ ns k + 6151 * ((k : Int) + 1)) * 40692 % 2147483399 = pickZ ns k from rfl]
  simp -implicitDefEqProofs [h4, h5, h]
end PG

/-! the plain law, six: drawn names -/
namespace PG
open PySem PySem.Spec PyProof.Rows L2 VL
theorem join_one : ∀ l : List Nat, Txt.join (S []) (l.map fun c => S [c]) = S l := by
  intro l
  rw [show Txt.join (S []) (l.map fun c => S [c]) = Str.join (S []) (l.map fun c => S [c]) from TL.join_eq _ _]
  induction l with
  | nil => rfl
  | cons c l ih =>
    cases l with
    | nil => rfl
    | cons d l =>
      show S [c] ++ S [] ++ Str.join (S []) (S [d] :: l.map fun c => S [c]) = _
      have ih' : Str.join (S []) (S [d] :: l.map fun c => S [c]) = S (d :: l) := ih
      rw [ih', S_app, S_app]
      rfl
theorem sum_ones (l : List Nat) : ((l.map fun c => S [c]).map (·.length)).sum = l.length := by
  induction l with
  | nil => rfl
  | cons c l ih =>
    rw [List.map_cons, List.map_cons, List.sum_cons, ih, S_len]
    simp
    omega
theorem joinD_one {l : List Nat} (h : l.length ≤ 1000000) : joinD (S []) (.lst (l.map fun c => .str (S [c]))) = some (.str (S l)) := by
  show (strsD (l.map fun c => D.str (S [c]))).bind (fun ys => if (ys.map (·.length)).sum + ys.length * (S []).length ≤ 16777216 then some (D.str (Txt.join (S []) ys)) else none) = _
  rw [strs_map (fun c : Nat => S [c]) l]
  show (if ((l.map fun c => S [c]).map (·.length)).sum + (l.map fun c => S [c]).length * (S []).length ≤ 16777216 then some (D.str (Txt.join (S []) (l.map fun c => S [c]))) else none) = _
  rw [sum_ones, join_one, sz_ite, S_len]
  have : szB (l.length + (l.map fun c => S [c]).length * ([] : List Nat).length) = true := szB_ok (by simp; omega)
  rw [if_pos this]
/-- the name that a law draws at a place out of a pool's letters -/
def nmW (ns : List Int) (p : Nat) (pool : List Nat) : List Nat := (List.range (1 + pick ns p 6)).map fun k => pool.getD (pick ns (p + 1 + k) pool.length) 0
theorem nmW_len (ns : List Int) (p : Nat) (pool : List Nat) : (nmW ns p pool).length = 1 + pick ns p 6 := by simp [nmW]
theorem nmW_ok (ns : List Int) (p : Nat) {pool : List Nat} (h0 : pool ≠ []) (hs : ∀ c ∈ pool, c ∈ smallL) : nameOk (nmW ns p pool) = true := by
  have h1 := pick_lt ns p (show 0 < 6 by decide)
  have h2 := nmW_len ns p pool
  have h3 : ∀ c ∈ nmW ns p pool, c ∈ smallL := fun c hc => by
    obtain ⟨k, _, rfl⟩ := List.mem_map.mp hc
    have h4 := pick_lt ns (p + 1 + k) (List.length_pos_iff.mpr h0)
    rw [List.getD_eq_getElem?_getD, List.getElem?_eq_getElem h4]
    exact hs _ (List.getElem_mem h4)
  simp [nameOk]
  exact ⟨by omega, by omega, h3⟩
theorem law_name_eq (ns : List Int) (p : Nat) {pool : List Nat} (h0 : pool ≠ []) (hl : pool.length ≤ 1000) : F__law_name [scD ns, .int p, .str (S pool)] = .ok (.str (S (nmW ns p pool))) := by
  have hp := List.length_pos_iff.mpr h0
  have e1 := pick_eq ns p (m := 6) (by decide)
  have e1' : F__law_pick [scD ns, .int p, .int 6] = _ := e1
  have h1 := pick_lt ns p (show 0 < 6 by decide)
  have e2 : (1 + (pick ns p 6 : Int)).toNat = 1 + pick ns p 6 := by omega
  simp -implicitDefEqProofs (disch := omega) [F__law_name, g__law_name, runD_eq, e1', rngB_ok, lit_empty]
  rw [e2, range_eq, lc_map [.dat (scD ns), .dat (.int p), .dat (.str (S pool)), .no] (fun k => .str (S [pool.getD (pick ns (p + 1 + k) pool.length) 0]))]
  · have e3 : (List.range (1 + pick ns p 6)).map (fun k => D.str (S [pool.getD (pick ns (p + 1 + k) pool.length) 0])) = (nmW ns p pool).map fun c => .str (S [c]) := by
      unfold nmW
      rw [List.map_map]
      rfl
    have e4 := joinD_one (l := nmW ns p pool) (by rw [nmW_len]; omega)
    simp -implicitDefEqProofs [e3, e4, -List.getD_eq_getElem?_getD]
  · intro k hk
    have e5 := pick_eq ns (p + 1 + k) hp
    have h6 := pick_lt ns (p + 1 + k) hp
    have e7 : ((p + 1 + k : Nat) : Int) = (p : Int) + 1 + (k : Int) := by omega
    rw [e7] at e5
    simp -implicitDefEqProofs (disch := omega) [szB_ok, e5, atI_k]
    simp [h6, S_one]
  all_goals try simp
  omega
def pools : List (List Nat) := [[97], [97, 98], [122, 98, 97], [110, 97, 98, 101], [107, 101, 108, 116, 111, 114]]
theorem lit_p0 : Str.ofString "a" = S [97] := by decide +kernel
theorem lit_p1 : Str.ofString "ab" = S [97, 98] := by decide +kernel
theorem lit_p2 : Str.ofString "zba" = S [122, 98, 97] := by decide +kernel
theorem lit_p3 : Str.ofString "nabe" = S [110, 97, 98, 101] := by decide +kernel
theorem lit_p4 : Str.ofString "keltor" = S [107, 101, 108, 116, 111, 114] := by decide +kernel
def poolAt (ns : List Int) (p : Nat) : List Nat := pools.getD (pick ns p 5) [97]
theorem pool_ok (ns : List Int) (p : Nat) : poolAt ns p ≠ [] ∧ (poolAt ns p).length ≤ 6 ∧ ∀ c ∈ poolAt ns p, c ∈ smallL := by
  unfold poolAt
  have h := pick_lt ns p (show 0 < 5 by decide)
  generalize pick ns p 5 = j at h
  match j, h with
  | 0, _ => decide
  | 1, _ => decide
  | 2, _ => decide
  | 3, _ => decide
  | 4, _ => decide
theorem pools_at (ns : List Int) (p : Nat) : atI (pools.map txD) (pick ns p 5 : Nat) = some (txD (poolAt ns p)) := by
  rw [atI_k]
  unfold poolAt
  have h := pick_lt ns p (show 0 < 5 by decide)
  generalize pick ns p 5 = j at h
  match j, h with
  | 0, _ => rfl
  | 1, _ => rfl
  | 2, _ => rfl
  | 3, _ => rfl
  | 4, _ => rfl
def namesW (ns : List Int) (p m : Nat) : List (List Nat) := (List.range (pick ns (p + 1) (m + 1))).map fun k => nmW ns (p + 2 + 8 * k) (poolAt ns p)
theorem namesW_len (ns : List Int) (p m : Nat) : (namesW ns p m).length ≤ m := by
  have := pick_lt ns (p + 1) (show 0 < m + 1 by omega)
  simp [namesW]
  omega
theorem namesW_ok (ns : List Int) (p m : Nat) : ∀ n ∈ namesW ns p m, nameOk n = true := by
  intro n hn
  obtain ⟨k, _, rfl⟩ := List.mem_map.mp hn
  have h := pool_ok ns p
  exact nmW_ok ns _ h.1 h.2.2
theorem law_names_eq (ns : List Int) (p m : Nat) (hm : m ≤ 1000) : F__law_names [scD ns, .int p, .int m] = .ok (.lst ((namesW ns p m).map txD)) := by
  have h5 := pick_lt ns p (show 0 < 5 by decide)
  have e1 : F__law_pick [scD ns, .int p, .int 5] = _ := pick_eq ns p (m := 5) (by decide)
  have e2 : F__law_pick [scD ns, .int ((p : Int) + 1), .int ((m : Int) + 1)] = _ := pick_eq ns (p + 1) (m := m + 1) (by omega)
  have h2 := pick_lt ns (p + 1) (show 0 < m + 1 by omega)
  have e3 : D.lst [.str (S [97]), .str (S [97, 98]), .str (S [122, 98, 97]), .str (S [110, 97, 98, 101]), .str (S [107, 101, 108, 116, 111, 114])] = .lst (pools.map txD) := rfl
  have e4 := pools_at ns p
  simp -implicitDefEqProofs (disch := omega) [F__law_names, g__law_names, runD_eq, lit_p0, lit_p1, lit_p2, lit_p3, lit_p4, szB_ok, e1]
  rw [show [D.str (S [97]), .str (S [97, 98]), .str (S [122, 98, 97]), .str (S [110, 97, 98, 101]), .str (S [107, 101, 108, 116, 111, 114])] = pools.map txD from rfl, e4]
  simp -implicitDefEqProofs (disch := omega) [e2, rngB_ok]
  rw [range_eq, lc_map [.dat (scD ns), .dat (.int p), .dat (.int m), .dat (txD (poolAt ns p)), .no] (fun k => txD (nmW ns (p + 2 + 8 * k) (poolAt ns p)))]
  · simp -implicitDefEqProofs [namesW]
  · intro k hk
    have h := pool_ok ns p
    have hk' : k < pick ns (p + 1) (m + 1) := List.mem_range.mp hk
    have m8 : mulB 8 (k : Int) = true := mulB_l (by omega) (by omega)
    have e5 := law_name_eq ns (p + 2 + 8 * k) h.1 (by omega)
    have e7 : ((p + 2 + 8 * k : Nat) : Int) = (p : Int) + 2 + 8 * (k : Int) := by omega
    rw [e7] at e5
    simp -implicitDefEqProofs [m8, e5]
  all_goals try simp
  omega
end PG

/-! the plain law, seven: books of names -/
namespace PG
open PySem PySem.Spec PyProof.Rows L2 VL
/-! ### == of books -/
theorem pairOk_lt {k : Pr} (h : pairOk k.1 k.2 = true) : k.1 < 1114112 ∧ k.2 < 1114112 := by
  simp [pairOk, small_iff] at h
  omega
theorem pu_bk {b : Bk} (h : ∀ e ∈ b, pairOk e.1.1 e.1.2 = true) : pu (bkD b) = true ∧ dpt (bkD b) ≤ 64 := by
  have h1 : puL (b.map enD) = true := by
    induction b with
    | nil => rfl
    | cons e b ih =>
      have h2 := pairOk_lt (h e (List.mem_cons_self ..))
      have h3 := ih fun x m => h x (List.mem_cons_of_mem _ m)
      simp [puL, pu, enD, h3, PyData.strOk, keyS, S]
      exact h2
  have h2 : dptL (b.map enD) ≤ 1 := by
    clear h h1
    induction b with
    | nil => simp [dptL]
    | cons e b ih =>
      simp [dptL, enD, dpt]
      omega
  exact ⟨by simpa [bkD, pu] using h1, by simp [bkD, dpt]; omega⟩
theorem bk_eq {a b : Bk} (ha : BookOk a) (hb : BookOk b) : eqD (bkD a) (bkD b) = some (.bl (decide (a = b))) := by
  have p := pu_bk ha.prs
  have q := pu_bk hb.prs
  have e : eqB (bkD a) (bkD b) = some (decide (a = b)) := by
    by_cases h : a = b
    · subst h
      have : Decidable (bkD a = bkD a) := isTrue rfl
      rw [eqB_pu p.1 p.1 p.2 p.2]
      simp
    · have h2 : ¬ bkD a = bkD b := fun z => h (bkD_inj z)
      have : Decidable (bkD a = bkD b) := isFalse h2
      rw [eqB_pu p.1 q.1 p.2 q.2]
      simp [h, h2]
  unfold eqD
  rw [e]
  rfl
theorem bk_ne {a b : Bk} (ha : BookOk a) (hb : BookOk b) : neD (bkD a) (bkD b) = some (.bl (!decide (a = b))) := by
  have := bk_eq ha hb
  unfold eqD at this
  unfold neD
  cases e : eqB (bkD a) (bkD b) with
  | none => rw [e] at this; simp at this
  | some c =>
    rw [e] at this
    simp at this
    simp [this]
/-! ### how many -/
theorem nodup_len {α : Type} [DecidableEq α] : ∀ {l m : List α}, l.Nodup → (∀ x ∈ l, x ∈ m) → l.length ≤ m.length
  | [], _, _, _ => Nat.zero_le _
  | a :: l, m, h, hs => by
    have h' := List.nodup_cons.mp h
    have ha := hs a (List.mem_cons_self ..)
    have ih := nodup_len (l := l) (m := m.erase a) h'.2 fun x hx => by
      have : x ≠ a := fun q => h'.1 (q ▸ hx)
      exact (List.mem_erase_of_ne this).mpr (hs x (List.mem_cons_of_mem _ hx))
    rw [List.length_erase_of_mem ha] at ih
    have := List.length_pos_of_mem ha
    simp only [List.length_cons]
    omega
theorem sum_cons (e : Pr × Int) (m : Bk) (p : Pr → Bool) : sumB (e :: m) p = (if p e.1 then e.2 else 0) + sumB m p := by
  unfold sumB
  rw [List.filter_cons]
  split <;> simp
theorem sum_app (m n : Bk) (p : Pr → Bool) : sumB (m ++ n) p = sumB m p + sumB n p := by
  induction m with
  | nil => simp [sumB]
  | cons e m ih =>
    rw [List.cons_append, sum_cons, sum_cons, ih]
    omega
theorem sum_repl {m : Bk} {k : Pr} (v : Int) (p : Pr → Bool) (hn : (m.map (·.1)).Nodup) (hk : k ∈ m.map (·.1)) :
    sumB (m.map fun e => if e.1 = k then (e.1, v) else e) p = sumB m p + if p k then v - cnt m k else 0 := by
  induction m with
  | nil => simp at hk
  | cons e m ih =>
    have hn' := List.nodup_cons.mp (by simpa using hn : (e.1 :: m.map (·.1)).Nodup)
    rw [List.map_cons, sum_cons, sum_cons]
    by_cases q : e.1 = k
    · have e1 : m.map (fun e => if e.1 = k then (e.1, v) else e) = m := by
        refine (List.map_congr_left fun x hx => ?_).trans (List.map_id _)
        have : x.1 ≠ k := fun z => hn'.1 (by rw [q, ← z]; exact List.mem_map_of_mem hx)
        simp [this]
      have e2 : cnt (e :: m) k = e.2 := by unfold cnt; rw [look_cons, if_pos q]; rfl
      rw [e1, e2]
      subst q
      simp
      split <;> omega
    · have hk' : k ∈ m.map (·.1) := by
        simp at hk
        rcases hk with hk | hk
        · exact absurd hk.symm q
        · simpa using hk
      have e2 : cnt (e :: m) k = cnt m k := by unfold cnt; rw [look_cons, if_neg q]
      rw [ih hn'.2 hk', e2, if_neg q]
      omega
theorem sum_put {m : Bk} (hn : (m.map (·.1)).Nodup) (k : Pr) (v : Int) (p : Pr → Bool) : sumB (putP m k v) p = sumB m p + if p k then v - cnt m k else 0 := by
  unfold putP
  rw [any_key]
  cases e : lookP m k with
  | none =>
    have h0 : cnt m k = 0 := by unfold cnt; rw [e]; rfl
    simp only [Option.isSome_none, Bool.false_eq_true, if_false]
    rw [sum_app, sum_cons, h0]
    simp [sumB]
  | some w =>
    simp only [Option.isSome_some, if_true]
    have hk : k ∈ m.map (·.1) := by
      false_or_by_contra
      rename_i q
      rw [look_none.mpr q] at e
      cases e
    exact sum_repl v p hn hk
theorem sum_add (s : Int) (p : Pr → Bool) : ∀ (ks : List Pr) {m : Bk}, (m.map (·.1)).Nodup → sumB (addP m ks s) p = sumB m p + s * (ks.countP p : Nat)
  | [], m, _ => by simp [addP]
  | k :: ks, m, h => by
    show sumB (addP (putP m k (cnt m k + s)) ks s) p = _
    rw [sum_add s p ks (nodup_put h _ _), sum_put h, List.countP_cons]
    by_cases hp : p k = true
    · simp [hp]
      rw [Int.mul_add]
      omega
    · simp [hp]
theorem bookOf_perm {m : Bk} (hn : (m.map (·.1)).Nodup) : (bookOf m).Perm (m.filter fun e => decide (0 < e.2)) := by
  unfold bookOf
  have h1 : ((sortP (m.map (·.1))).filter fun k => decide (0 < cnt m k)).Perm ((m.map (·.1)).filter fun k => decide (0 < cnt m k)) := (sortP_perm _).filter _
  refine (h1.map _).trans ?_
  have : ((m.map (·.1)).filter fun k => decide (0 < cnt m k)).map (fun k => (k, cnt m k)) = m.filter fun e => decide (0 < e.2) := by
    rw [List.filter_map, List.map_map]
    have e1 : m.filter ((fun k => decide (0 < cnt m k)) ∘ (·.1)) = m.filter fun e => decide (0 < e.2) := by
      refine List.filter_congr fun e he => ?_
      show decide (0 < cnt m e.1) = _
      rw [cnt_mem hn he]
    rw [e1]
    refine (List.map_congr_left fun e he => ?_).trans (List.map_id _)
    have he' := (List.mem_filter.mp he).1
    show (e.1, cnt m e.1) = e
    rw [cnt_mem hn he']
  rw [this]
theorem sum_perm {a b : Bk} (h : a.Perm b) (p : Pr → Bool) : sumB a p = sumB b p := by
  induction h with
  | nil => rfl
  | cons x _ ih => rw [sum_cons, sum_cons, ih]
  | swap x y l =>
    rw [sum_cons, sum_cons, sum_cons, sum_cons]
    omega
  | trans _ _ ih1 ih2 => rw [ih1, ih2]
theorem sum_pos (m : Bk) (h : ∀ e ∈ m, 0 ≤ e.2) (p : Pr → Bool) : sumB (m.filter fun e => decide (0 < e.2)) p = sumB m p := by
  induction m with
  | nil => rfl
  | cons e m ih =>
    have h1 := h e (List.mem_cons_self ..)
    have h2 := ih fun x hx => h x (List.mem_cons_of_mem _ hx)
    rw [List.filter_cons, sum_cons]
    split
    · rw [sum_cons, h2]
    · rename_i q
      have : e.2 = 0 := by simp at q; omega
      rw [h2, this]
      simp
theorem sum_bookOf {m : Bk} (hn : (m.map (·.1)).Nodup) (h : ∀ e ∈ m, 0 ≤ e.2) (p : Pr → Bool) : sumB (bookOf m) p = sumB m p := by
  rw [sum_perm (bookOf_perm hn), sum_pos m h]
/-! ### books learned -/
theorem learn_srt (ns : List (List Nat)) : Srt (learnB ns) := bookOf_srt (add_nodup 1 _ (by simp))
theorem learn_ext {a b : List (List Nat)} (h : ∀ k, (prsAll a).count k = (prsAll b).count k) : learnB a = learnB b :=
  srt_ext (learn_srt a) (learn_srt b) fun k => by rw [cnt_learn, cnt_learn, h]
theorem prsAll_app (a b : List (List Nat)) : prsAll (a ++ b) = prsAll a ++ prsAll b := by simp [prsAll]
theorem learn_rev (ns : List (List Nat)) : learnB ns.reverse = learnB ns := learn_ext fun k => by
  have : (prsAll ns.reverse).Perm (prsAll ns) := (List.reverse_perm ns).flatMap_right prs
  exact this.count_eq k
theorem prs_first {l : List Nat} (h : nameOk l = true) : (prs l).countP (fun k => decide (k.1 = 60)) = 1 := by
  have hs : ∀ x ∈ l, x ∈ smallL := by simp [nameOk] at h; exact h.2.2
  have key : ∀ (l r : List Nat), (∀ x ∈ l, x ∈ smallL) → (l.zip r).countP (fun k => decide (k.1 = 60)) = 0 := by
    intro l r hl
    rw [List.countP_eq_zero]
    intro k hk
    have := hl k.1 (List.of_mem_zip hk).1
    rw [small_iff] at this
    simp
    omega
  unfold prs
  cases e : l ++ [62] with
  | nil => simp at e
  | cons c t =>
    rw [List.zip_cons_cons, List.countP_cons, key l t hs]
    simp
theorem begun_count {ns : List (List Nat)} (h : ∀ n ∈ ns, nameOk n = true) : (prsAll ns).countP (fun k => decide (k.1 = 60)) = ns.length := by
  induction ns with
  | nil => rfl
  | cons n ns ih =>
    have e : prsAll (n :: ns) = prs n ++ prsAll ns := by simp [prsAll]
    rw [e, List.countP_append, prs_first (h n (List.mem_cons_self ..)), ih fun x m => h x (List.mem_cons_of_mem _ m), List.length_cons]
    omega
theorem begun_learn {ns : List (List Nat)} (h : ∀ n ∈ ns, nameOk n = true) : sumB (learnB ns) (fun k => decide (k.1 = 60)) = (ns.length : Int) := by
  unfold learnB
  have hn : ((addP [] (prsAll ns) 1).map (·.1)).Nodup := add_nodup 1 _ (by simp)
  rw [sum_bookOf hn (fun e he => ?_), sum_add 1 _ _ (by simp), begun_count h]
  · simp [sumB]
  · have := cnt_mem hn he
    rw [cnt_learn_raw] at this
    omega
theorem learn_keys {ns : List (List Nat)} {k : Pr} (h : k ∈ (learnB ns).map (·.1)) : k ∈ prsAll ns := by
  unfold learnB at h
  rw [bookOf_keys] at h
  have h1 := (sortP_perm _).mem_iff.mp (List.mem_filter.mp h).1
  rcases add_keys 1 _ h1 with q | q
  · simp at q
  · exact q
theorem prs_pos {n : List Nat} {k : Pr} : ((prs n).count k : Int) ≤ (prs n).length := by
  have := count_le_len (prs n) k
  omega
/-- a list of counts that has no other pairs than the names -/
theorem fits_of {m : Bk} {ns : List (List Nat)} (h : ∀ n ∈ ns, nameOk n = true) (hl : ns.length ≤ 8) (nd : (m.map (·.1)).Nodup) (hk : ∀ k ∈ m.map (·.1), k ∈ prsAll ns) (hc : ∀ k, cnt m k ≤ 999) : Fits m := by
  have h1 := nodup_len nd hk
  have h2 := prsAll_len ns h
  refine Fits.of nd ?_ hc fun k m => prsAll_ok h k (hk k m)
  rw [List.length_map] at h1
  omega
theorem count_small {ns : List (List Nat)} (h : ∀ n ∈ ns, nameOk n = true) (hl : ns.length ≤ 8) (k : Pr) : (prsAll ns).count k ≤ 56 := by
  have h1 := count_le_len (prsAll ns) k
  have h2 := prsAll_len ns h
  omega
theorem prsAll_snoc (a : List (List Nat)) (n : List Nat) : prsAll (a ++ [n]) = prsAll a ++ prs n := by simp [prsAll]
theorem with_learn {a : List (List Nat)} {n : List Nat} (h : ∀ x ∈ a ++ [n], nameOk x = true) (hl : a.length ≤ 7) : F_with_name [bkD (learnB a), txD n] = .ok (bkD (learnB (a ++ [n]))) := by
  have ha : ∀ x ∈ a, nameOk x = true := fun x m => h x (by simp [m])
  have hn : nameOk n = true := h n (by simp)
  have hb := learn_ok ha (by omega)
  have hc : ∀ k, cnt (addP (learnB a) (prs n) 1) k = ((prsAll (a ++ [n])).count k : Nat) := fun k => by
    rw [cnt_add, cnt_learn, prsAll_snoc, List.count_append]
    omega
  have hf : Fits (addP (learnB a) (prs n) 1) := by
    refine fits_of h (by simp; omega) (add_nodup 1 _ hb.toSrt.nodup) (fun k hk => ?_) fun k => ?_
    · rw [prsAll_snoc]
      rcases add_keys 1 _ hk with q | q
      · exact List.mem_append_left _ (learn_keys q)
      · exact List.mem_append_right _ q
    · rw [hc]
      have := count_small h (by simp; omega) k
      omega
  have e := with_name_eq hb hn hf
  have e2 : withB (learnB a) n = learnB (a ++ [n]) := srt_ext (bookOf_srt hf.nd) (learn_srt _) fun k => by
    unfold withB
    rw [bookOf_cnt hf.nd, hc, cnt_learn]
    split <;> omega
  rw [← e2]
  exact e
theorem less_learn {a c : List (List Nat)} {n : List Nat} (h : ∀ x ∈ a ++ n :: c, nameOk x = true) (hl : a.length + c.length ≤ 7) : F_without_name [bkD (learnB (a ++ n :: c)), txD n] = .ok (bkD (learnB (a ++ c))) := by
  have hn : nameOk n = true := h n (by simp)
  have hb := learn_ok h (by simp; omega)
  have e0 : prsAll (a ++ n :: c) = prsAll a ++ (prs n ++ prsAll c) := by simp [prsAll]
  have hc : ∀ k, cnt (addP (learnB (a ++ n :: c)) (prs n) (-1)) k = ((prsAll (a ++ c)).count k : Nat) := fun k => by
    rw [cnt_add, cnt_learn, e0, prsAll_app, List.count_append, List.count_append, List.count_append]
    omega
  have hf : Fits (addP (learnB (a ++ n :: c)) (prs n) (-1)) := by
    refine fits_of h (by simp; omega) (add_nodup _ _ hb.toSrt.nodup) (fun k hk => ?_) fun k => ?_
    · rcases add_keys _ _ hk with q | q
      · exact learn_keys q
      · rw [e0]
        simp [q]
    · rw [hc]
      have := count_small (ns := a ++ c) (fun x m => h x (by simp at m ⊢; rcases m with m | m <;> simp [m])) (by simp; omega) k
      omega
  have e := without_name_eq hb hn hf fun k => by rw [hc]; omega
  have e2 : lessB (learnB (a ++ n :: c)) n = learnB (a ++ c) := srt_ext (bookOf_srt hf.nd) (learn_srt _) fun k => by
    unfold lessB
    rw [bookOf_cnt hf.nd, hc, cnt_learn]
    split <;> omega
  rw [← e2]
  exact e
theorem both_learn {a c : List (List Nat)} (h : ∀ x ∈ a ++ c, nameOk x = true) (hl : a.length + c.length ≤ 8) : F_both [bkD (learnB a), bkD (learnB c)] = .ok (bkD (learnB (a ++ c))) := by
  have ha := learn_ok (ns := a) (fun x m => h x (by simp [m])) (by omega)
  have hb := learn_ok (ns := c) (fun x m => h x (by simp [m])) (by omega)
  have hc : ∀ k, cnt (bothP (learnB a) (learnB c)) k = ((prsAll (a ++ c)).count k : Nat) := fun k => by
    rw [cnt_both k _ _ hb.toSrt.nodup, cnt_learn, cnt_learn, prsAll_app, List.count_append]
    omega
  have hf : Fits (bothP (learnB a) (learnB c)) := by
    refine fits_of h (by simp; omega) (both_nodup _ _ ha.toSrt.nodup) (fun k hk => ?_) fun k => ?_
    · rw [prsAll_app]
      rcases both_keys _ _ hk with q | q
      · exact List.mem_append_left _ (learn_keys q)
      · exact List.mem_append_right _ (learn_keys q)
    · rw [hc]
      have := count_small h (by simp; omega) k
      omega
  have e := both_eq ha hb hf
  have e2 : bothB (learnB a) (learnB c) = learnB (a ++ c) := srt_ext (bookOf_srt hf.nd) (learn_srt _) fun k => by
    unfold bothB
    rw [bookOf_cnt hf.nd, hc, cnt_learn]
    split <;> omega
  rw [← e2]
  exact e
end PG

/-! the plain law, eight: a law's own book; books changed -/
namespace PG
open PySem PySem.Spec PyProof.Rows L2 VL
theorem law_pairs_eq {l : List Nat} (hl : l.length ≤ 1000) : F__law_pairs [.str (S l)] = .ok (.lst ((prs l).map fun k => .str (keyS k))) := pairs_in_eq hl
theorem flat_keys (L : List Pr) : (L.map fun k => D.str (keyS k)).all flatD = true := by
  rw [List.all_map, List.all_eq_true]
  intro k _
  rfl
theorem count_keys (L : List Pr) (k : Pr) : countD (.lst (L.map fun k => D.str (keyS k))) [.str (keyS k)] = some (.int (L.count k : Nat)) := by
  show (if flatD (.str (keyS k)) = true ∧ (L.map fun k => D.str (keyS k)).all flatD = true then some (D.int ((L.map fun k => D.str (keyS k)).countP fun z => eqF z (.str (keyS k)) : Nat)) else none) = _
  rw [if_pos ⟨rfl, flat_keys L⟩, List.countP_map]
  have : (L.countP ((fun z => eqF z (.str (keyS k))) ∘ fun k => D.str (keyS k))) = L.count k := by
    rw [List.count_eq_countP]
    refine List.countP_congr fun x _ => ?_
    show (keyS x == keyS k) = true ↔ (x == k) = true
    rw [beq_iff_eq, beq_iff_eq, keyS_eq]
  rw [this]
theorem learn_mem {ns : List (List Nat)} {k : Pr} : k ∈ (learnB ns).map (·.1) ↔ k ∈ prsAll ns := by
  refine ⟨learn_keys, fun h => ?_⟩
  have h1 := List.count_pos_iff.mpr h
  false_or_by_contra
  rename_i q
  have h2 := cnt_none q
  rw [cnt_learn] at h2
  omega
theorem setS_keys (ns : List (List Nat)) : setS ((prsAll ns).map keyS) = (learnB ns).map fun e => keyS e.1 := by
  have hs := learn_srt ns
  refine (setS_is ?_ ?_ fun k => ?_).symm
  · rw [List.pairwise_map]
    have := hs.srt
    rw [List.pairwise_map] at this
    refine this.imp fun {a b} h => ?_
    rw [leS_key]
    unfold ltP at h
    unfold leP
    rw [decide_eq_true_iff]
    omega
  · rw [List.nodup_iff_pairwise_ne, List.pairwise_map]
    have := hs.nodup
    rw [List.nodup_iff_pairwise_ne, List.pairwise_map] at this
    exact this.imp fun h q => h (keyS_inj q)
  · constructor
    · intro h
      obtain ⟨e, he, rfl⟩ := List.mem_map.mp h
      exact List.mem_map_of_mem (learn_keys (List.mem_map_of_mem he))
    · intro h
      obtain ⟨x, hx, rfl⟩ := List.mem_map.mp h
      obtain ⟨e, he, rfl⟩ := List.mem_map.mp (learn_mem.mpr hx)
      exact List.mem_map.mpr ⟨e, he, rfl⟩
theorem sortset_keys (ns : List (List Nat)) (hl : (prsAll ns).length ≤ 1000) : sortsetO [.lst ((prsAll ns).map fun k => .str (keyS k))] = some (.L ((learnB ns).map fun e => .str (keyS e.1))) := by
  show (strsD ((prsAll ns).map fun k => D.str (keyS k))).bind (fun xs => if xs.length + 1 < scanBound then some (OD.L ((setS xs).map .str)) else none) = _
  rw [VL.strs_map]
  show (if ((prsAll ns).map keyS).length + 1 < scanBound then some (OD.L ((setS ((prsAll ns).map keyS)).map .str)) else none) = _
  rw [if_pos (by rw [List.length_map]; unfold scanBound; omega), setS_keys, List.map_map]
  rfl
theorem law_book_eq {ns : List (List Nat)} (h : ∀ n ∈ ns, nameOk n = true) (hl : ns.length ≤ 100) : F__law_book [.lst (ns.map txD)] = .ok (bkD (learnB ns)) := by
  have hp := prsAll_len ns h
  simp -implicitDefEqProofs (disch := omega) [F__law_book, g__law_book, runD_eq, szB_ok]
  refine fin_for (fun pre ρ => ∃ x, ρ = [.dat (.lst (ns.map txD)), .own (.L ((prsAll pre).map fun k => .str (keyS k))), x, .no]) (fun pre a post ρ el ⟨x, hi⟩ => ?_) ⟨_, rfl⟩ fun ρ' ⟨x, hi⟩ => ?_
  · subst hi
    refine ⟨_, _, rfl, .inl ?_, .dat (txD a), rfl⟩
    have ha := h a (by rw [el]; simp)
    have h1 := nameOk_len ha
    have h2 := prsAll_len pre fun n m => h n (by rw [el]; simp [m])
    have h3 : pre.length ≤ ns.length := by rw [el]; simp
    have hz : szB ((prsAll pre).length + (a.length + 1)) = true := szB_ok (by omega)
    have e2 : F__law_pairs [txD a] = _ := law_pairs_eq (l := a) (by omega)
    simp -implicitDefEqProofs [e2, prsAll_snoc, prs_len, hz]
  · subst hi
    simp -implicitDefEqProofs [sortset_keys ns (by omega)]
    have hlen : (learnB ns).length ≤ (prsAll ns).length := by
      have := nodup_len (learn_srt ns).nodup fun k hk => learn_keys hk
      rw [List.length_map] at this
      exact this
    rw [lc_map [.dat (.lst (ns.map txD)), .dat (.lst ((prsAll ns).map fun k => .str (keyS k))), x, .no] enD]
    · simp -implicitDefEqProofs [bkD]
    · intro e he
      have e1 := cnt_mem (learn_srt ns).nodup he
      rw [cnt_learn] at e1
      simp -implicitDefEqProofs (disch := omega) [count_keys, szB_ok, enD, e1]
    · simp
    · simp
    · cases x <;> simp
    · omega
/-! ### what both have -/
def commB (a b : Bk) : Bk := (a.filter fun e => (lookP b e.1).isSome).map fun e => (e.1, if cnt b e.1 < e.2 then cnt b e.1 else e.2)
theorem comm_keys (a b : Bk) : (commB a b).map (·.1) = (a.filter fun e => (lookP b e.1).isSome).map (·.1) := by
  unfold commB
  rw [List.map_map]
  rfl
theorem filt_sub {α : Type} {R : Pr → Pr → Prop} {a : Bk} (p : Pr × Int → Bool) (h : (a.map (·.1)).Pairwise R) : ((a.filter p).map (·.1)).Pairwise R := by
  rw [List.pairwise_map] at h ⊢
  exact h.filter p
theorem comm_ok {a b : Bk} (ha : BookOk a) (hb : BookOk b) : BookOk (commB a b) where
  len := by
    unfold commB
    rw [List.length_map]
    exact Nat.le_trans (List.length_filter_le _ _) ha.len
  prs e he := by
    unfold commB at he
    obtain ⟨x, hx, rfl⟩ := List.mem_map.mp he
    exact ha.prs x (List.mem_filter.mp hx).1
  low e he := by
    unfold commB at he
    obtain ⟨x, hx, rfl⟩ := List.mem_map.mp he
    obtain ⟨h1, h2⟩ := List.mem_filter.mp hx
    have h3 := ha.low x h1
    obtain ⟨v, hv⟩ := Option.isSome_iff_exists.mp h2
    have h4 := hb.low _ (mem_look hv)
    have h5 : cnt b x.1 = v := by unfold cnt; rw [hv]; rfl
    dsimp only at h4 ⊢
    split <;> omega
  top e he := by
    unfold commB at he
    obtain ⟨x, hx, rfl⟩ := List.mem_map.mp he
    have h3 := ha.top x (List.mem_filter.mp hx).1
    dsimp only
    split <;> omega
  srt := by
    rw [comm_keys]
    exact filt_sub (α := Nat) _ ha.srt
theorem cnt_filt {a : Bk} (hn : (a.map (·.1)).Nodup) (p : Pr × Int → Bool) (k : Pr) : lookP (a.filter p) k = (lookP a k).bind fun v => if p (k, v) then some v else none := by
  cases e : lookP a k with
  | none =>
    have := look_none.mp e
    refine look_none.mpr fun q => this ?_
    obtain ⟨x, hx, rfl⟩ := List.mem_map.mp q
    exact List.mem_map_of_mem (List.mem_filter.mp hx).1
  | some v =>
    have hm := mem_look e
    have hn' : ((a.filter p).map (·.1)).Nodup := filt_sub (α := Nat) (R := (· ≠ ·)) p hn
    show lookP (a.filter p) k = if p (k, v) = true then some v else none
    by_cases hp : p (k, v) = true
    · rw [if_pos hp]
      exact look_mem hn' (List.mem_filter.mpr ⟨hm, hp⟩)
    · rw [if_neg hp]
      refine look_none.mpr fun q => ?_
      obtain ⟨x, hx, hk⟩ := List.mem_map.mp q
      obtain ⟨h1, h2⟩ := List.mem_filter.mp hx
      have h3 := look_mem hn h1
      rw [hk, e] at h3
      have h4 : x = (k, v) := Prod.ext hk (Option.some.inj h3).symm
      rw [h4] at h2
      exact hp h2
theorem look_map (f : Pr × Int → Int) : ∀ (a : Bk) (k : Pr), (a.map (·.1)).Nodup → lookP (a.map fun e => (e.1, f e)) k = (lookP a k).map fun v => f (k, v)
  | [], k, _ => rfl
  | e :: a, k, hn => by
    have hn' := List.nodup_cons.mp (by simpa using hn : (e.1 :: a.map (·.1)).Nodup)
    rw [List.map_cons, look_cons, look_cons, look_map f a k hn'.2]
    by_cases h : e.1 = k
    · rw [if_pos h, if_pos h, ← h]
      rfl
    · rw [if_neg h, if_neg h]
theorem cnt_comm {a b : Bk} (ha : BookOk a) (hb : BookOk b) (k : Pr) : cnt (commB a b) k = if cnt b k < cnt a k then cnt b k else cnt a k := by
  have hn := ha.toSrt.nodup
  have hn2 : ((a.filter fun e => (lookP b e.1).isSome).map (·.1)).Nodup := filt_sub (α := Nat) (R := (· ≠ ·)) _ hn
  have h0 : 0 ≤ cnt a k := cnt_nonneg (fun e m => (ha.range e m).1) k
  have h1 : 0 ≤ cnt b k := cnt_nonneg (fun e m => (hb.range e m).1) k
  have e1 : lookP (commB a b) k = (lookP (a.filter fun e => (lookP b e.1).isSome) k).map fun v => if cnt b k < v then cnt b k else v := look_map (fun e => if cnt b e.1 < e.2 then cnt b e.1 else e.2) _ k hn2
  rw [cnt_filt hn] at e1
  show (lookP (commB a b) k).getD 0 = _
  rw [e1]
  cases ea : lookP a k with
  | none =>
    have z : cnt a k = 0 := by unfold cnt; rw [ea]; rfl
    rw [z] at *
    simp
    omega
  | some v =>
    have z : cnt a k = v := by unfold cnt; rw [ea]; rfl
    have zv := ha.low _ (mem_look ea)
    dsimp only at zv
    cases eb : lookP b k with
    | none =>
      have z2 : cnt b k = 0 := by unfold cnt; rw [eb]; rfl
      simp [eb, z, z2]
      omega
    | some v2 =>
      simp [eb, z]
theorem common_eq {a b : Bk} (ha : BookOk a) (hb : BookOk b) : F_common [bkD a, bkD b] = .ok (bkD (commB a b)) := by
  have hl := ha.len
  have ei : anyI (bkD a) = some (a.map enD) := rfl
  simp -implicitDefEqProofs [F_common, g_common, runD_eq, ha, hb, dict_bk hb.toSrt.nodup, ei]
  rw [lc_filter [.dat (bkD a), .dat (bkD b), .dat (.dct (dk b)), .no, .no] (fun e => (lookP b e.1).isSome) (fun e => enD (e.1, if cnt b e.1 < e.2 then cnt b e.1 else e.2))]
  · have : (a.filter fun e => (lookP b e.1).isSome).map (fun e => enD (e.1, if cnt b e.1 < e.2 then cnt b e.1 else e.2)) = (commB a b).map enD := by
      unfold commB
      rw [List.map_map]
      rfl
    simp -implicitDefEqProofs [this, bkD]
  · intro e he
    have d1 : dinD (.str (keyS e.1)) (.dct (dk b)) = some (.bl (lookP b e.1).isSome) := by
      show (keyD (.str (keyS e.1))).map (fun k => D.bl (valK (dk b) k).isSome) = _
      show some (D.bl (valK (dk b) (.inr (keyS e.1))).isSome) = _
      rw [val_dk]
      cases lookP b e.1 <;> rfl
    simp -implicitDefEqProofs [enD, d1]
    intro h
    obtain ⟨v, hv⟩ := Option.isSome_iff_exists.mp h
    have h5 : cnt b e.1 = v := by unfold cnt; rw [hv]; rfl
    simp -implicitDefEqProofs (disch := omega) [val_dk, hv, h5, min2D, szB_ok]
  all_goals try simp
  omega
/-! ### thinned -/
theorem look_count_ok {m : Int} (h1 : 1 ≤ m) (h2 : m ≤ 999) : F_look_count [.int m] = .ok .non := by
  simp -implicitDefEqProofs [F_look_count, g_look_count, runD_eq, h1, h2]
def thinB (b : Bk) (m : Int) : Bk := b.filter fun e => decide (m ≤ e.2)
theorem thin_ok {b : Bk} (h : BookOk b) (m : Int) : BookOk (thinB b m) where
  len := Nat.le_trans (List.length_filter_le _ _) h.len
  prs e he := h.prs e (List.mem_filter.mp he).1
  low e he := h.low e (List.mem_filter.mp he).1
  top e he := h.top e (List.mem_filter.mp he).1
  srt := filt_sub (α := Nat) _ h.srt
theorem cnt_thin {b : Bk} (h : BookOk b) {m : Int} (hm : 1 ≤ m) (k : Pr) : cnt (thinB b m) k = if m ≤ cnt b k then cnt b k else 0 := by
  show (lookP (b.filter fun e => decide (m ≤ e.2)) k).getD 0 = _
  rw [cnt_filt h.toSrt.nodup]
  cases e : lookP b k with
  | none =>
    have z : cnt b k = 0 := by unfold cnt; rw [e]; rfl
    rw [z]
    simp
  | some v =>
    have z : cnt b k = v := by unfold cnt; rw [e]; rfl
    rw [z]
    simp
    split <;> simp
theorem thinned_eq {b : Bk} (h : BookOk b) {m : Int} (h1 : 1 ≤ m) (h2 : m ≤ 999) : F_thinned [bkD b, .int m] = .ok (bkD (thinB b m)) := by
  have hl := h.len
  have ei : anyI (bkD b) = some (b.map enD) := rfl
  simp -implicitDefEqProofs [F_thinned, g_thinned, runD_eq, h, look_count_ok h1 h2, ei]
  rw [lc_filter [.dat (bkD b), .dat (.int m), .no, .no] (fun e => decide (m ≤ e.2)) enD]
  · simp -implicitDefEqProofs [thinB, bkD]
  · intro e he
    simp -implicitDefEqProofs (disch := omega) [enD, szB_ok]
  all_goals try simp
  omega
/-! ### so many times over -/
def overB (b : Bk) (m : Int) : Bk := b.map fun e => (e.1, e.2 * m)
theorem over_keys (b : Bk) (m : Int) : (overB b m).map (·.1) = b.map (·.1) := by
  unfold overB
  rw [List.map_map]
  rfl
theorem over_ok {b : Bk} (h : BookOk b) {m : Int} (h1 : 1 ≤ m) (h2 : ∀ e ∈ b, e.2 * m ≤ 999) : BookOk (overB b m) where
  len := by unfold overB; rw [List.length_map]; exact h.len
  prs e he := by
    obtain ⟨x, hx, rfl⟩ := List.mem_map.mp he
    exact h.prs x hx
  low e he := by
    obtain ⟨x, hx, rfl⟩ := List.mem_map.mp he
    have := h.low x hx
    show 1 ≤ x.2 * m
    have : 1 * 1 ≤ x.2 * m := Int.mul_le_mul this h1 (by omega) (by omega)
    omega
  top e he := by
    obtain ⟨x, hx, rfl⟩ := List.mem_map.mp he
    exact h2 x hx
  srt := by rw [over_keys]; exact h.srt
theorem cnt_over {b : Bk} (h : BookOk b) (m : Int) (k : Pr) : cnt (overB b m) k = cnt b k * m := by
  show (lookP (b.map fun e => (e.1, e.2 * m)) k).getD 0 = _
  rw [look_map (fun e => e.2 * m) b k h.toSrt.nodup]
  unfold cnt
  cases lookP b k <;> simp
theorem times_over_eq {b : Bk} (h : BookOk b) {m : Int} (h1 : 1 ≤ m) (h2 : m ≤ 999) (h3 : ∀ e ∈ b, e.2 * m ≤ 999) : F_times_over [bkD b, .int m] = .ok (bkD (overB b m)) := by
  have hl := h.len
  have ei : anyI (bkD b) = some (b.map enD) := rfl
  simp -implicitDefEqProofs [F_times_over, g_times_over, runD_eq, h, look_count_ok h1 h2, ei]
  rw [lc_map [.dat (bkD b), .dat (.int m), .no, .no, .no] (fun e => enD (e.1, e.2 * m))]
  · have e1 : b.map (fun e => enD (e.1, e.2 * m)) = (overB b m).map enD := by
      unfold overB
      rw [List.map_map]
      rfl
    simp -implicitDefEqProofs [e1]
    rw [lc_map [.dat (bkD b), .dat (.int m), .dat (.tup ((overB b m).map enD)), .no, .no] (fun _ => .bl false)]
    · simp -implicitDefEqProofs [bkD]
    · intro e he
      obtain ⟨x, hx, rfl⟩ := List.mem_map.mp he
      have h9 : ¬ 999 < x.2 * m := by have := h3 x hx; omega
      simp -implicitDefEqProofs [enD, h9]
    all_goals try simp
    unfold overB
    rw [List.length_map]
    omega
  · intro e he
    have hb := h.range e he
    have hm : mulB e.2 m = true := mulB_r (by omega) (by omega)
    simp -implicitDefEqProofs (disch := omega) [enD, szB_ok, hm]
  all_goals try simp
  omega
end PG

/-! the plain law, nine: books turned -/
namespace PG
open PySem PySem.Spec PyProof.Rows L2 VL
def turnP (k : Pr) : Pr := (if k.2 = 62 then 60 else k.2, if k.1 = 60 then 62 else k.1)
theorem turn_pair {k : Pr} (h : pairOk k.1 k.2 = true) : F_turned_pair [.str (keyS k)] = .ok (.str (keyS (turnP k))) := by
  have el : (keyS k).length = 2 := by simp [keyS]
  have d1 : ∀ a b c : Nat, ((valK [((Sum.inr (S [a]) : Key), D.str (S [b]))] (.inr (S [c]))).getD (.str (S [c]))) = .str (S [if c = a then b else c]) := fun a b c => by
    unfold valK
    rw [List.find?_cons]
    by_cases q : c = a
    · subst q
      simp
    · have : ¬ (Sum.inr (S [a]) : Key) = Sum.inr (S [c]) := fun z => q (by have := S_inj (Sum.inr.inj z); simpa using this.symm)
      simp [this, q]
  simp -implicitDefEqProofs (disch := omega) [F_turned_pair, g_turned_pair, runD_eq, lit_lt, lit_gt, szB_ok, el, mergeD, putD, keyS, S_one, d1, turnP]
theorem turnP_ok {k : Pr} (h : pairOk k.1 k.2 = true) : pairOk (turnP k).1 (turnP k).2 = true ∧ turnP (turnP k) = k := by
  obtain ⟨a, b⟩ := k
  simp [pairOk, small_iff] at h
  unfold turnP
  dsimp only
  constructor
  · simp [pairOk, small_iff]
    split <;> split <;> omega
  · apply Prod.ext <;> dsimp only
    · split <;> split <;> omega
    · split <;> split <;> omega
theorem turnP_inj {a b : Pr} (ha : pairOk a.1 a.2 = true) (hb : pairOk b.1 b.2 = true) (h : turnP a = turnP b) : a = b := by
  rw [← (turnP_ok ha).2, ← (turnP_ok hb).2, h]
/-! the order of pairs with counts -/
instance decLtP (a b : Pr) : Decidable (ltP a b) := by unfold ltP; infer_instance
def leE (a b : Pr × Int) : Bool := decide (ltP a.1 b.1 ∨ (a.1 = b.1 ∧ a.2 ≤ b.2))
theorem alike_en (a b : Pr × Int) : PySem.W.alike (enD a).toP (enD b).toP = true := rfl
theorem lt_en (a b : Pr × Int) : leT (enD a) (enD b) = leE a b := by
  show (!PySem.W.dataLt (.tuple [.str (keyS b.1), .int b.2]) (.tuple [.str (keyS a.1), .int a.2])) = _
  rw [PySem.W.dataLt_pair rfl rfl, PySem.W.dataLt_str, PySem.W.dataLt_int]
  unfold leE keyS
  rw [S_cps, S_cps]
  have e1 : PyData.eqv (.str (S [b.1.1, b.1.2])) (.str (S [a.1.1, a.1.2])) = decide (b.1 = a.1) := by
    have : PyData.eqv (.str (S [b.1.1, b.1.2])) (.str (S [a.1.1, a.1.2])) = (S [b.1.1, b.1.2] == S [a.1.1, a.1.2]) := by simp [PyData.eqv]
    rw [this, Bool.eq_iff_iff, beq_iff_eq, decide_eq_true_iff]
    exact Iff.of_eq keyS_eq
  have e2 : PyData.eqv (.int b.2) (.int a.2) = decide (b.2 = a.2) := by
    simp only [PyData.eqv]
    rw [Bool.eq_iff_iff, beq_iff_eq, decide_eq_true_iff]
  rw [e1, e2]
  obtain ⟨⟨a1, a2⟩, a3⟩ := a
  obtain ⟨⟨b1, b2⟩, b3⟩ := b
  dsimp only
  by_cases h1 : (b1, b2) = (a1, a2)
  · rw [if_pos (decide_eq_true h1)]
    have h1' : b1 = a1 ∧ b2 = a2 := by simpa using h1
    by_cases h2 : b3 = a3
    · rw [if_pos (decide_eq_true h2)]
      simp [h1', h2]
    · rw [if_neg (by rw [decide_eq_true_iff]; exact h2)]
      rw [Bool.eq_iff_iff]
      simp [h1', ltP]
  · rw [if_neg (by rw [decide_eq_true_iff]; exact h1)]
    have h1' : ¬ (b1 = a1 ∧ b2 = a2) := by simpa using h1
    by_cases h3 : b1 < a1 ∨ (b1 = a1 ∧ b2 < a2)
    · have : ([b1, b2] : List Nat) < [a1, a2] := (lt2 ..).mpr h3
      simp [this, ltP]
      omega
    · have : ¬ ([b1, b2] : List Nat) < [a1, a2] := fun q => h3 ((lt2 ..).mp q)
      simp [this, ltP]
      omega
theorem leE_tot (a b : Pr × Int) : (leE a b || leE b a) = true := by
  obtain ⟨⟨a1, a2⟩, a3⟩ := a
  obtain ⟨⟨b1, b2⟩, b3⟩ := b
  simp [leE, ltP]
  omega
theorem leE_trans (a b c : Pr × Int) (h1 : leE a b = true) (h2 : leE b c = true) : leE a c = true := by
  obtain ⟨⟨a1, a2⟩, a3⟩ := a
  obtain ⟨⟨b1, b2⟩, b3⟩ := b
  obtain ⟨⟨c1, c2⟩, c3⟩ := c
  simp [leE, ltP] at *
  omega
def sortE (b : Bk) : Bk := b.mergeSort leE
theorem sortE_perm (b : Bk) : (sortE b).Perm b := List.mergeSort_perm b leE
theorem sortE_srt {b : Bk} (hn : (b.map (·.1)).Nodup) : ((sortE b).map (·.1)).Pairwise ltP := by
  have n1 : ((sortE b).map (·.1)).Nodup := ((sortE_perm b).map (·.1)).nodup_iff.mpr hn
  rw [List.nodup_iff_pairwise_ne, List.pairwise_map] at n1
  rw [List.pairwise_map]
  refine ((List.pairwise_mergeSort leE_trans leE_tot b).and n1).imp fun {x y} q => ?_
  have q1 := q.1
  unfold leE at q1
  rw [decide_eq_true_iff] at q1
  rcases q1 with q1 | ⟨q1, _⟩
  · exact q1
  · exact absurd q1 q.2
theorem sortG_en {b : Bk} (hl : b.length ≤ 1000) (hp : ∀ e ∈ b, e.1.1 < 1114112 ∧ e.1.2 < 1114112) : sortedG [.lst (b.map enD)] = some (.L ((sortE b).map enD)) := by
  have ok : sortOk (b.map enD) = true := by
    unfold sortOk
    simp only [Bool.and_eq_true, Bool.or_eq_true, List.all_eq_true, decide_eq_true_eq]
    refine ⟨fun x hx z hz => ?_, .inl fun x hx => ?_, fun x hx => ?_, ?_⟩
    · obtain ⟨e, _, rfl⟩ := List.mem_map.mp hx
      obtain ⟨f, _, rfl⟩ := List.mem_map.mp hz
      exact alike_en e f
    · obtain ⟨e, _, rfl⟩ := List.mem_map.mp hx
      rfl
    · obtain ⟨e, he, rfl⟩ := List.mem_map.mp hx
      have := hp e he
      refine ⟨?_, by show max 0 (max 0 0) + 1 ≤ 8; decide⟩
      simp [enD, D.toP, D.toPs, PyData.canLay0, PyData.canLayAll0, PyData.strOk, keyS, S]
      exact this
    · rw [List.length_map]
      exact Nat.le_trans hl (by decide)
  show (if sortOk (b.map enD) = true then some (OD.L ((b.map enD).mergeSort leT)) else none) = _
  rw [if_pos ok]
  have : (b.map enD).mergeSort leT = (sortE b).map enD := (List.map_mergeSort fun x _ z _ => (lt_en x z).symm).symm
  rw [this]
def turnB (b : Bk) : Bk := sortE (b.map fun e => (turnP e.1, e.2))
theorem turn_keys (b : Bk) : (b.map fun e => (turnP e.1, e.2)).map (·.1) = (b.map (·.1)).map turnP := by
  rw [List.map_map, List.map_map]
  rfl
theorem turn_nodup {b : Bk} (h : BookOk b) : ((b.map fun e => (turnP e.1, e.2)).map (·.1)).Nodup := by
  rw [List.map_map, List.nodup_iff_pairwise_ne, List.pairwise_map]
  have n1 := h.toSrt.nodup
  rw [List.nodup_iff_pairwise_ne, List.pairwise_map] at n1
  refine n1.imp_of_mem fun {x y} hx hy q z => q (turnP_inj (h.prs x hx) (h.prs y hy) z)
theorem turn_ok {b : Bk} (h : BookOk b) : BookOk (turnB b) where
  len := by
    unfold turnB
    rw [(sortE_perm _).length_eq, List.length_map]
    exact h.len
  prs e he := by
    obtain ⟨x, hx, rfl⟩ := List.mem_map.mp ((sortE_perm _).mem_iff.mp he)
    exact (turnP_ok (h.prs x hx)).1
  low e he := by
    obtain ⟨x, hx, rfl⟩ := List.mem_map.mp ((sortE_perm _).mem_iff.mp he)
    exact h.low x hx
  top e he := by
    obtain ⟨x, hx, rfl⟩ := List.mem_map.mp ((sortE_perm _).mem_iff.mp he)
    exact h.top x hx
  srt := sortE_srt (turn_nodup h)
theorem cnt_turn {b : Bk} (h : BookOk b) {k : Pr} (hk : pairOk k.1 k.2 = true) : cnt (turnB b) k = cnt b (turnP k) := by
  have ht := (turn_ok h).toSrt.nodup
  cases e : lookP b (turnP k) with
  | some v =>
    have hm := mem_look e
    have h1 : (k, v) ∈ turnB b := (sortE_perm _).mem_iff.mpr (List.mem_map.mpr ⟨(turnP k, v), hm, by rw [(turnP_ok hk).2]⟩)
    have h2 := cnt_mem ht h1
    rw [h2]
    unfold cnt
    rw [e]
    rfl
  | none =>
    have h1 : k ∉ (turnB b).map (·.1) := fun q => by
      obtain ⟨x, hx, hk2⟩ := List.mem_map.mp q
      obtain ⟨z, hz, rfl⟩ := List.mem_map.mp ((sortE_perm _).mem_iff.mp hx)
      have h3 : turnP k = z.1 := by rw [← hk2]; exact (turnP_ok (h.prs z hz)).2
      exact look_none.mp e (h3 ▸ List.mem_map_of_mem hz)
    rw [cnt_none h1]
    unfold cnt
    rw [e]
    rfl
theorem cnt_bad {b : Bk} (h : BookOk b) {k : Pr} (hk : ¬ pairOk k.1 k.2 = true) : cnt b k = 0 := cnt_none fun q => by
  obtain ⟨x, hx, rfl⟩ := List.mem_map.mp q
  exact hk (h.prs x hx)
theorem turned_eq {b : Bk} (h : BookOk b) : F_turned [bkD b] = .ok (bkD (turnB b)) := by
  have hl := h.len
  have ei : anyI (bkD b) = some (b.map enD) := rfl
  have hs := sortG_en (b := b.map fun e => (turnP e.1, e.2)) (by rw [List.length_map]; omega) fun e he => by
    obtain ⟨x, hx, rfl⟩ := List.mem_map.mp he
    exact pairOk_lt (turnP_ok (h.prs x hx)).1
  have e1 : (b.map fun e => (turnP e.1, e.2)).map enD = b.map fun e => enD (turnP e.1, e.2) := by
    rw [List.map_map]
    rfl
  rw [e1] at hs
  simp -implicitDefEqProofs [F_turned, g_turned, runD_eq, h, ei]
  rw [lc_map [.dat (bkD b), .no, .no] (fun e => enD (turnP e.1, e.2))]
  · simp -implicitDefEqProofs [hs, bkD, turnB]
  · intro e he
    have := turn_pair (h.prs e he)
    simp -implicitDefEqProofs (disch := omega) [enD, szB_ok, this]
  all_goals try simp
  omega
end PG

/-! the plain law, ten: drawing by numbers -/
namespace PG
open PySem PySem.Spec PyProof.Rows L2 VL
/-! ### the sign at a number -/
def signAt : Bk → Nat → Int → Nat
  | [], _, _ => 62
  | e :: b, s, n => if e.1.1 = s ∧ n < e.2 then e.1.2 else signAt b s (if e.1.1 = s then n - e.2 else n)
def cum (b : Bk) (k : Pr) : Int := sumB b fun x => decide (x.1 = k.1) && decide (x.2 < k.2)
theorem sumB_zero {b : Bk} {p : Pr → Bool} (h : ∀ e ∈ b, p e.1 = false) : sumB b p = 0 := by
  induction b with
  | nil => rfl
  | cons e b ih =>
    rw [sum_cons, h e (List.mem_cons_self ..), ih fun x m => h x (List.mem_cons_of_mem _ m)]
    simp
theorem behind_cons (e : Pr × Int) (b : Bk) (s : Nat) : behind (e :: b) s = (if e.1.1 = s then e.2 else 0) + behind b s := by
  unfold behind
  rw [sum_cons]
  by_cases h : e.1.1 = s <;> simp [h]
theorem cum_cons (e : Pr × Int) (b : Bk) (k : Pr) : cum (e :: b) k = (if e.1.1 = k.1 ∧ e.1.2 < k.2 then e.2 else 0) + cum b k := by
  unfold cum
  rw [sum_cons]
  by_cases h : e.1.1 = k.1 ∧ e.1.2 < k.2
  · rw [if_pos h]
    simp [h.1, h.2]
  · rw [if_neg h, if_neg]
    simp
    intro h1
    have := fun h2 => h ⟨h1, h2⟩
    omega
theorem cnt_cons (e : Pr × Int) (b : Bk) (k : Pr) : cnt (e :: b) k = if e.1 = k then e.2 else cnt b k := by
  unfold cnt
  rw [look_cons]
  split <;> rfl
theorem sign_in : ∀ {b : Bk} {s : Nat} {n : Int}, Srt b → 0 ≤ n → n < behind b s → (s, signAt b s n) ∈ b.map (·.1) ∧ cum b (s, signAt b s n) ≤ n ∧ n < cum b (s, signAt b s n) + cnt b (s, signAt b s n)
  | [], s, n, _, h0, h1 => by
    have : behind [] s = 0 := rfl
    omega
  | e :: b, s, n, hs, h0, h1 => by
    have hp := List.pairwise_cons.mp (by simpa using hs.srt : (e.1 :: b.map (·.1)).Pairwise ltP)
    have hs' : Srt b := ⟨hp.2, fun x m => hs.pos x (List.mem_cons_of_mem _ m)⟩
    rw [behind_cons] at h1
    by_cases q : e.1.1 = s
    · rw [if_pos q] at h1
      by_cases q2 : n < e.2
      · have e1 : signAt (e :: b) s n = e.1.2 := by
          show (if e.1.1 = s ∧ n < e.2 then e.1.2 else _) = _
          rw [if_pos ⟨q, q2⟩]
        have e2 : ((s, e.1.2) : Pr) = e.1 := by rw [← q]
        rw [e1, e2]
        have e3 : cum b e.1 = 0 := sumB_zero fun x hx => by
          have := hp.1 x.1 (List.mem_map_of_mem hx)
          unfold ltP at this
          simp
          omega
        rw [cum_cons, cnt_cons, if_pos rfl, e3, if_neg (by omega)]
        exact ⟨by simp, by omega, by omega⟩
      · have e1 : signAt (e :: b) s n = signAt b s (n - e.2) := by
          show (if e.1.1 = s ∧ n < e.2 then e.1.2 else signAt b s (if e.1.1 = s then n - e.2 else n)) = _
          rw [if_neg (fun z => q2 z.2), if_pos q]
        obtain ⟨i1, i2, i3⟩ := sign_in (b := b) (s := s) (n := n - e.2) hs' (by omega) (by omega)
        rw [e1]
        have lt := hp.1 _ i1
        unfold ltP at lt
        dsimp only at lt
        have ne : ¬ e.1 = (s, signAt b s (n - e.2)) := fun z => by
          rw [z] at lt
          dsimp only at lt
          omega
        rw [cum_cons, cnt_cons, if_neg ne, if_pos (by dsimp only; omega)]
        exact ⟨List.mem_cons_of_mem _ i1, by omega, by omega⟩
    · rw [if_neg q] at h1
      have e1 : signAt (e :: b) s n = signAt b s n := by
        show (if e.1.1 = s ∧ n < e.2 then e.1.2 else signAt b s (if e.1.1 = s then n - e.2 else n)) = _
        rw [if_neg (fun z => q z.1), if_neg q]
      obtain ⟨i1, i2, i3⟩ := sign_in (b := b) (s := s) (n := n) hs' h0 (by omega)
      rw [e1]
      have ne : ¬ e.1 = (s, signAt b s n) := fun z => q (by rw [z])
      rw [cum_cons, cnt_cons, if_neg ne, if_neg (by dsimp only; omega)]
      exact ⟨List.mem_cons_of_mem _ i1, by omega, by omega⟩
theorem sign_of : ∀ {b : Bk} {k : Pr} {n : Int}, Srt b → k ∈ b.map (·.1) → cum b k ≤ n → n < cum b k + cnt b k → signAt b k.1 n = k.2
  | [], k, n, _, h, _, _ => by simp at h
  | e :: b, k, n, hs, h, h1, h2 => by
    have hp := List.pairwise_cons.mp (by simpa using hs.srt : (e.1 :: b.map (·.1)).Pairwise ltP)
    have hs' : Srt b := ⟨hp.2, fun x m => hs.pos x (List.mem_cons_of_mem _ m)⟩
    have he := hs.pos e (List.mem_cons_self ..)
    have cnn : 0 ≤ cum b k := sumB_nonneg (fun x m => by have := hs'.pos x m; omega) _
    rw [cum_cons] at h1 h2
    rw [cnt_cons] at h2
    by_cases q : e.1 = k
    · rw [if_pos q] at h2
      have e3 : cum b k = 0 := sumB_zero fun x hx => by
        have := hp.1 x.1 (List.mem_map_of_mem hx)
        rw [q] at this
        unfold ltP at this
        simp
        omega
      have nq : ¬ (e.1.1 = k.1 ∧ e.1.2 < k.2) := by rw [q]; omega
      rw [if_neg nq, e3] at h1 h2
      show (if e.1.1 = k.1 ∧ n < e.2 then e.1.2 else _) = _
      rw [if_pos ⟨by rw [q], by omega⟩, q]
    · rw [if_neg q] at h2
      have hk : k ∈ b.map (·.1) := by
        simp at h
        rcases h with h | h
        · exact absurd h.symm q
        · simpa using h
      have lt := hp.1 k hk
      unfold ltP at lt
      show (if e.1.1 = k.1 ∧ n < e.2 then e.1.2 else signAt b k.1 (if e.1.1 = k.1 then n - e.2 else n)) = _
      by_cases q1 : e.1.1 = k.1
      · have q2 : e.1.2 < k.2 := by omega
        rw [if_pos ⟨q1, q2⟩] at h1 h2
        rw [if_neg (by omega), if_pos q1]
        exact sign_of hs' hk (by omega) (by omega)
      · rw [if_neg (fun z => q1 z.1)] at h1 h2
        rw [if_neg (fun z => q1 z.1), if_neg q1]
        exact sign_of hs' hk (by omega) (by omega)
theorem cum_le {b : Bk} (hs : Srt b) (k : Pr) : 0 ≤ cum b k ∧ cum b k + cnt b k ≤ behind b k.1 := by
  induction b with
  | nil => exact ⟨Int.le_refl _, Int.le_refl _⟩
  | cons e b ih =>
    have hp := List.pairwise_cons.mp (by simpa using hs.srt : (e.1 :: b.map (·.1)).Pairwise ltP)
    have hs' : Srt b := ⟨hp.2, fun x m => hs.pos x (List.mem_cons_of_mem _ m)⟩
    have he := hs.pos e (List.mem_cons_self ..)
    obtain ⟨i1, i2⟩ := ih hs'
    have nk := cnt_nonneg (b := b) (fun x m => by have := hs'.pos x m; omega) k
    rw [cum_cons, cnt_cons, behind_cons]
    by_cases q : e.1 = k
    · have h1 : ¬ (e.1.1 = k.1 ∧ e.1.2 < k.2) := by rw [q]; omega
      have h2 : e.1.1 = k.1 := by rw [q]
      rw [if_neg h1, if_pos q, if_pos h2]
      omega
    · rw [if_neg q]
      by_cases q1 : e.1.1 = k.1
      · rw [if_pos q1]
        split <;> omega
      · rw [if_neg q1, if_neg (fun z => q1 z.1)]
        omega
theorem for_next1 {tg : D → VL.Env → Option VL.Env} {body : SM} {d : D} {ds : List D} {ρ ρ1 ρ2 : VL.Env} (h1 : tg d ρ = some ρ1) (h2 : body ρ1 = .next ρ2) : forD tg body (d :: ds) ρ = forD tg body ds ρ2 := by
  show (match tg d ρ with
    | none => RS.bad
    | some ρ1 => match body ρ1 with
      | .next ρ2 => forD tg body ds ρ2
      | .cont ρ2 => forD tg body ds ρ2
      | .brk ρ2 => .next ρ2
      | .ret d => .ret d
      | .err c ρ2 => .err c ρ2
      | .bad => .bad) = _
  rw [h1]
  dsimp only
  rw [h2]
theorem for_ret1 {tg : D → VL.Env → Option VL.Env} {body : SM} {d z : D} {ds : List D} {ρ ρ1 : VL.Env} (h1 : tg d ρ = some ρ1) (h2 : body ρ1 = .ret z) : forD tg body (d :: ds) ρ = .ret z := by
  show (match tg d ρ with
    | none => RS.bad
    | some ρ1 => match body ρ1 with
      | .next ρ2 => forD tg body ds ρ2
      | .cont ρ2 => forD tg body ds ρ2
      | .brk ρ2 => .next ρ2
      | .ret d => .ret d
      | .err c ρ2 => .err c ρ2
      | .bad => .bad) = _
  rw [h1]
  dsimp only
  rw [h2]
def signBody : SM := s_seq (s_if (t_and (t_val (e_op eqD (e_op subD2 (e_name 3) (e_k (.int 0))) (e_name 1))) (t_val (e_op ltD (e_name 2) (e_name 4)))) (s_ret (e_op subD2 (e_name 3) (e_k (.int 1)))) s_next)
      (s_set 2 (e_if (t_val (e_op eqD (e_op subD2 (e_name 3) (e_k (.int 0))) (e_name 1))) (e_op subD (e_name 2) (e_name 4)) (e_name 2)))
abbrev signTg : D → VL.Env → Option VL.Env := g_tup 2 (gs_cons (g_name 3) (gs_cons (g_name 4) gs_nil))
@[simp high] theorem sub_key0 (k : Pr) : subD2 (.str (keyS k)) (.int 0) = some (.str (S [k.1])) := by
  have el : (keyS k).length = 2 := by simp [keyS]
  simp -implicitDefEqProofs (disch := omega) [szB_ok, el]
  simp [keyS, S_one]
@[simp high] theorem sub_key1 (k : Pr) : subD2 (.str (keyS k)) (.int 1) = some (.str (S [k.2])) := by
  have el : (keyS k).length = 2 := by simp [keyS]
  simp -implicitDefEqProofs (disch := omega) [szB_ok, el]
  simp [keyS, S_one]
theorem sign_loop (s : Nat) (b0 : D) : ∀ (b : Bk) (n : Int) (x y : VL.Slot), finD ((forD signTg signBody (b.map enD) [.dat b0, .dat (.str (S [s])), .dat (.int n), x, y]).then (s_ret (e_k (.str (S [62]))))) = .ok (.str (S [signAt b s n]))
  | [], n, x, y => rfl
  | e :: b, n, x, y => by
    have h1 : signTg (enD e) [.dat b0, .dat (.str (S [s])), .dat (.int n), x, y] = some [.dat b0, .dat (.str (S [s])), .dat (.int n), .dat (.str (keyS e.1)), .dat (.int e.2)] := rfl
    rw [List.map_cons]
    by_cases q : e.1.1 = s
    · by_cases q2 : n < e.2
      · rw [for_ret1 (z := .str (S [e.1.2])) h1 (by simp -implicitDefEqProofs [signBody, q, q2])]
        simp -implicitDefEqProofs [signAt, q, q2]
      · rw [for_next1 (ρ2 := [.dat b0, .dat (.str (S [s])), .dat (.int (n - e.2)), .dat (.str (keyS e.1)), .dat (.int e.2)]) h1 (by simp -implicitDefEqProofs [signBody, q, q2])]
        rw [sign_loop s b0 b]
        simp -implicitDefEqProofs [signAt, q, q2]
    · rw [for_next1 (ρ2 := [.dat b0, .dat (.str (S [s])), .dat (.int n), .dat (.str (keyS e.1)), .dat (.int e.2)]) h1 (by simp -implicitDefEqProofs [signBody, q])]
      rw [sign_loop s b0 b]
      simp -implicitDefEqProofs [signAt, q]
theorem sign_at_eq (b : Bk) (s : Nat) (n : Int) : F_sign_at [bkD b, .str (S [s]), .int n] = .ok (.str (S [signAt b s n])) := by
  have ei : anyI (bkD b) = some (b.map enD) := rfl
  have h := sign_loop s (bkD b) b n .no .no
  have e : g_sign_at = s_seq (s_for (i_any (e_name 0)) signTg signBody) (s_ret (e_k (.str (S [62])))) := by
    rw [← lit_gt]
    rfl
  rw [F_sign_at, runD_eq, e]
  simp -implicitDefEqProofs [ei]
  exact h
/-! ### drawn by numbers -/
def drawn (b : Bk) : List Int → Nat → List Nat → Option (List Nat)
  | [], _, _ => none
  | n :: ns, s, t => if behind b s = 0 then none else if signAt b s (n % behind b s) = 62 then some t else drawn b ns (signAt b s (n % behind b s)) (t ++ [signAt b s (n % behind b s)])
def optD : Option (List Nat) → D
  | none => .non
  | some t => .str (S t)
def drawBody : SM := s_seq (s_set 5 (e_call F_sum_behind 2 (a_cons (e_name 0) (a_cons (e_name 3) a_nil))))
      (s_seq (s_if (t_val (e_op eqD (e_name 5) (e_k (.int 0)))) (s_ret (e_k .non)) s_next)
      (s_seq (s_set 3 (e_call F_sign_at 3 (a_cons (e_name 0) (a_cons (e_name 3) (a_cons (e_op modD (e_name 4) (e_name 5)) a_nil)))))
      (s_seq (s_if (t_val (e_op eqD (e_name 3) (e_k (.str (S [62]))))) (s_ret (e_name 2)) s_next)
      (s_set 2 (e_op plusD (e_name 2) (e_name 3))))))
theorem drawn_loop {b : Bk} (hb : BookOk b) (nd : D) : ∀ (ns : List Int) (s : Nat) (t : List Nat) (x y : VL.Slot), t.length + ns.length ≤ 1000 →
    finD ((forD (g_name 4) drawBody (ns.map .int) [.dat (bkD b), .dat nd, .dat (.str (S t)), .dat (.str (S [s])), x, y]).then (s_ret (e_k .non))) = .ok (optD (drawn b ns s t))
  | [], s, t, x, y, _ => rfl
  | n :: ns, s, t, x, y, hl => by
    have hl' : t.length + (ns.length + 1) ≤ 1000 := hl
    have hbl := hb.len
    have e1 := sum_behind_eq (b := b) (by omega) s
    have h0 := behind_le hb s
    have h1 : g_name 4 (.int n) [.dat (bkD b), .dat nd, .dat (.str (S t)), .dat (.str (S [s])), x, y] = some [.dat (bkD b), .dat nd, .dat (.str (S t)), .dat (.str (S [s])), .dat (.int n), y] := rfl
    rw [List.map_cons]
    by_cases q : behind b s = 0
    · rw [for_ret1 (z := .non) h1 (by simp -implicitDefEqProofs [drawBody, e1, q])]
      simp -implicitDefEqProofs [drawn, q, optD]
    · have hp : 0 < behind b s := by omega
      have e2 := sign_at_eq b s (n % behind b s)
      by_cases q2 : signAt b s (n % behind b s) = 62
      · rw [for_ret1 (z := .str (S t)) h1 (by simp -implicitDefEqProofs [drawBody, e1, q, hp, e2, q2])]
        simp -implicitDefEqProofs [drawn, q, q2, optD]
      · rw [for_next1 (ρ2 := [.dat (bkD b), .dat nd, .dat (.str (S (t ++ [signAt b s (n % behind b s)]))), .dat (.str (S [signAt b s (n % behind b s)])), .dat (.int n), .dat (.int (behind b s))]) h1 (by simp -implicitDefEqProofs (disch := omega) [drawBody, e1, q, hp, e2, q2, szB_ok])]
        rw [drawn_loop hb nd ns _ _ _ _ (by rw [List.length_append]; simp; omega)]
        show RF.ok (optD (drawn b ns (signAt b s (n % behind b s)) (t ++ [signAt b s (n % behind b s)]))) = RF.ok (optD (if behind b s = 0 then none else if signAt b s (n % behind b s) = 62 then some t else drawn b ns (signAt b s (n % behind b s)) (t ++ [signAt b s (n % behind b s)])))
        rw [if_neg q, if_neg q2]
theorem are_numbers_eq {ns : List Int} (h : ∀ n ∈ ns, 0 ≤ n) (hl : ns.length ≤ 20) {d : D} (hd : d = .lst (ns.map .int) ∨ d = .tup (ns.map .int)) : F_are_numbers [d] = .ok (.bl true) := by
  have hi : anyI d = some (ns.map .int) := by rcases hd with rfl | rfl <;> rfl
  have ht : isiA d ["list", "tuple"] = some true := by rcases hd with rfl | rfl <;> simp
  have hn : lenD [d] = some (.int (ns.length : Nat)) := by rcases hd with rfl | rfl <;> simp
  have h20 : ¬ (20 < (ns.length : Int)) := by omega
  simp -implicitDefEqProofs only [F_are_numbers, g_are_numbers, runD_eq, List.map_cons, List.map_nil, List.replicate, List.cons_append, List.nil_append]
  refine fin_seq (ρ1 := [.dat d, .no]) ?_ ?_
  · simp -implicitDefEqProofs only [s_if_a, t_or_a, t_not_a, t_tru_a, e_isiA_a, e_name_a, nth_0, bind_ok, ht, o2_some, Option.map, tru_b, emIf_a, emOk_a, Bool.not_true, Bool.false_eq_true, if_false]
    simp -implicitDefEqProofs [hn, h20]
  · simp -implicitDefEqProofs [hi]
    rw [lc_map [.dat d, .no] (fun _ => .bl true)]
    · simp
    · intro n m
      have := h n m
      simp -implicitDefEqProofs [this]
    all_goals try simp
    omega
theorem drawn_by_eq {b : Bk} (hb : BookOk b) {ns : List Int} (h : ∀ n ∈ ns, 0 ≤ n) (hl : ns.length ≤ 20) {d : D} (hd : d = .lst (ns.map .int) ∨ d = .tup (ns.map .int)) : F_drawn_by [bkD b, d] = .ok (optD (drawn b ns 60 [])) := by
  have hi : anyI d = some (ns.map .int) := by rcases hd with rfl | rfl <;> rfl
  have ha := are_numbers_eq h hl hd
  have hloop := drawn_loop hb d ns 60 [] .no .no (by simp; omega)
  have e : g_drawn_by = s_seq (s_expr (e_call F_look_book 1 (a_cons (e_name 0) a_nil))) (s_seq (s_if (t_not (t_tru (e_call F_are_numbers 1 (a_cons (e_name 1) a_nil)))) (s_raise "NoNumber") s_next)
      (s_seq (s_set 2 (e_k (.str (S [])))) (s_seq (s_set 3 (e_k (.str (S [60])))) (s_seq (s_for (i_any (e_name 1)) (g_name 4) drawBody) (s_ret (e_k .non)))))) := by
    rw [← lit_empty, ← lit_lt]
    unfold drawBody
    rw [← lit_gt]
    rfl
  simp -implicitDefEqProofs only [F_drawn_by, e, runD_eq, List.map_cons, List.map_nil, List.replicate, List.cons_append, List.nil_append]
  refine fin_seq (ρ1 := [.dat (bkD b), .dat d, .no, .no, .no, .no]) (by simp -implicitDefEqProofs [hb]) ?_
  refine fin_seq (ρ1 := [.dat (bkD b), .dat d, .no, .no, .no, .no]) (by simp -implicitDefEqProofs [ha]) ?_
  refine fin_seq (ρ1 := [.dat (bkD b), .dat d, .dat (.str (S [])), .no, .no, .no]) (by simp -implicitDefEqProofs) ?_
  refine fin_seq (ρ1 := [.dat (bkD b), .dat d, .dat (.str (S [])), .dat (.str (S [60])), .no, .no]) (by simp -implicitDefEqProofs) ?_
  simp -implicitDefEqProofs [hi]
  exact hloop
/-! ### numbers for a name -/
theorem numbers_for_eq {b : Bk} (hb : BookOk b) {n : List Nat} (hn : nameOk n = true) (hk : ∀ k ∈ prs n, 0 < cnt b k) : F_numbers_for [bkD b, .str (S n)] = .ok (.lst ((prs n).map fun k => .int (cum b k))) := by
  have h1 := nameOk_len hn
  have hl := hb.len
  have ep := pairs_in_eq (l := n) (by omega)
  simp -implicitDefEqProofs only [F_numbers_for, g_numbers_for, runD_eq, List.map_cons, List.map_nil, List.replicate, List.cons_append, List.nil_append]
  refine fin_seq (ρ1 := [.dat (bkD b), .dat (.str (S n)), .no, .no, .no, .no]) (by simp -implicitDefEqProofs [hb]) ?_
  refine fin_seq (ρ1 := [.dat (bkD b), .dat (.str (S n)), .no, .no, .no, .no]) (by simp -implicitDefEqProofs [hn]) ?_
  refine fin_seq (ρ1 := [.dat (bkD b), .dat (.str (S n)), .own (.L []), .no, .no, .no]) (by simp -implicitDefEqProofs (disch := omega) [szB_ok]) ?_
  refine fin_fors (l := prs n) (enc := fun k => .str (keyS k)) (ρ1 := [.dat (bkD b), .dat (.str (S n)), .own (.L []), .no, .no, .no]) (by simp -implicitDefEqProofs [ep])
    (fun pre ρ => ∃ x, ρ = [.dat (bkD b), .dat (.str (S n)), .own (.L (pre.map fun k => .int (cum b k))), x, .no, .no]) (fun pre a post ρ el ⟨x, hi⟩ => ?_) ⟨_, rfl⟩ fun ρ' ⟨x, hi⟩ => ?_
  · subst hi
    have ha : a ∈ prs n := by rw [el]; simp
    have hc := hk a ha
    have hc' : ¬ cnt b a = 0 := by omega
    have hpl : pre.length ≤ 8 := by have := congrArg List.length el; rw [prs_len] at this; simp at this; omega
    have ec := count_of_eq hb.toSrt.nodup a
    have ei : anyI (bkD b) = some (b.map enD) := rfl
    refine ⟨[.dat (bkD b), .dat (.str (S n)), .own (.L (pre.map fun k => .int (cum b k))), .dat (.str (keyS a)), .no, .no], _, rfl, .inl ?_, .dat (.str (keyS a)), rfl⟩
    simp -implicitDefEqProofs [ec, hc', ei]
    rw [lc_filter [.dat (bkD b), .dat (.str (S n)), .own (.L (pre.map fun k => .int (cum b k))), .dat (.str (keyS a)), .no, .no] (fun e => decide (e.1.1 = a.1) && decide (e.1.2 < a.2)) (fun e => .int e.2)]
    · have e9 : ((b.filter fun e => decide (e.1.1 = a.1) && decide (e.1.2 < a.2)).map (·.2)).sum = cum b a := rfl
      simp -implicitDefEqProofs (disch := omega) [szL_ok, e9]
    · intro e he
      have lt : decide ((keyS e.1).cps.toList < (keyS a).cps.toList) = decide (e.1.1 < a.1 ∨ e.1.1 = a.1 ∧ e.1.2 < a.2) := by
        unfold keyS
        rw [S_cps, S_cps]
        simp only [lt2]
      by_cases z : e.1.1 = a.1
      · have lt2' : ((keyS e.1).cps.toList < (keyS a).cps.toList) ↔ e.1.2 < a.2 := by
          rw [← decide_eq_true_iff (p := (keyS e.1).cps.toList < (keyS a).cps.toList), lt, decide_eq_true_iff]
          omega
        by_cases z2 : e.1.2 < a.2
        · have l3 : (keyS e.1).cps < (keyS a).cps := by simpa using lt2'.mpr z2
          simp -implicitDefEqProofs [enD, z, z2, l3]
        · have l3 : ¬ (keyS e.1).cps < (keyS a).cps := by simpa using fun q => z2 (lt2'.mp q)
          simp -implicitDefEqProofs [enD, z, z2, l3]
      · simp -implicitDefEqProofs [enD, z]
    all_goals try simp
    all_goals try omega
  · subst hi
    simp -implicitDefEqProofs
/-! ### a way through the pairs -/
def path (s : Nat) (l : List Nat) : List Pr := (s :: l).zip (l ++ [62])
theorem path_nil (s : Nat) : path s [] = [(s, 62)] := rfl
theorem path_cons (s c : Nat) (l : List Nat) : path s (c :: l) = (s, c) :: path c l := rfl
theorem path_prs (l : List Nat) : path 60 l = prs l := rfl
theorem path_len (s : Nat) (l : List Nat) : (path s l).length = l.length + 1 := by simp [path, List.length_zip]
theorem draw_one {b : Bk} (hs : Srt b) {k : Pr} (hk : 0 < cnt b k) : behind b k.1 ≠ 0 ∧ signAt b k.1 (cum b k % behind b k.1) = k.2 := by
  obtain ⟨h1, h2⟩ := cum_le hs k
  have hm : k ∈ b.map (·.1) := by
    false_or_by_contra
    rename_i q
    rw [cnt_none q] at hk
    omega
  rw [Int.emod_eq_of_lt h1 (by omega)]
  exact ⟨by omega, sign_of hs hm (by omega) (by omega)⟩
theorem drawn_name {b : Bk} (hs : Srt b) (more : List Int) : ∀ (l : List Nat) (s : Nat) (t : List Nat), (∀ c ∈ l, c ≠ 62) → (∀ k ∈ path s l, 0 < cnt b k) → drawn b ((path s l).map (cum b) ++ more) s t = some (t ++ l)
  | [], s, t, _, h => by
    obtain ⟨h1, h2⟩ := draw_one hs (h (s, 62) (by simp [path_nil]))
    dsimp only at h1 h2
    show (if behind b s = 0 then none else if signAt b s (cum b (s, 62) % behind b s) = 62 then some t else _) = _
    rw [if_neg h1, h2, if_pos rfl, List.append_nil]
  | c :: l, s, t, hc, h => by
    obtain ⟨h1, h2⟩ := draw_one hs (h (s, c) (by simp [path_cons]))
    dsimp only at h1 h2
    have ih := drawn_name hs more l c (t ++ [c]) (fun x m => hc x (List.mem_cons_of_mem _ m)) fun k m => h k (by rw [path_cons]; exact List.mem_cons_of_mem _ m)
    show (if behind b s = 0 then none else if signAt b s (cum b (s, c) % behind b s) = 62 then some t else drawn b ((path c l).map (cum b) ++ more) (signAt b s (cum b (s, c) % behind b s)) (t ++ [signAt b s (cum b (s, c) % behind b s)])) = _
    rw [if_neg h1, h2, if_neg (hc c (List.mem_cons_self ..)), ih]
    simp
theorem drawn_few {b : Bk} (hs : Srt b) : ∀ (l : List Nat) (s : Nat) (t : List Nat), (∀ c ∈ l, c ≠ 62) → (∀ k ∈ path s l, 0 < cnt b k) → drawn b (((path s l).map (cum b)).take l.length) s t = none
  | [], s, t, _, h => rfl
  | c :: l, s, t, hc, h => by
    obtain ⟨h1, h2⟩ := draw_one hs (h (s, c) (by simp [path_cons]))
    dsimp only at h1 h2
    have ih := drawn_few hs l c (t ++ [c]) (fun x m => hc x (List.mem_cons_of_mem _ m)) fun k m => h k (by rw [path_cons]; exact List.mem_cons_of_mem _ m)
    show (if behind b s = 0 then none else if signAt b s (cum b (s, c) % behind b s) = 62 then some t else drawn b (((path c l).map (cum b)).take l.length) (signAt b s (cum b (s, c) % behind b s)) (t ++ [signAt b s (cum b (s, c) % behind b s)])) = _
    rw [if_neg h1, h2, if_neg (hc c (List.mem_cons_self ..)), ih]
theorem drawn_path {b : Bk} (hs : Srt b) : ∀ (ns : List Int) (s : Nat) (t u : List Nat), (∀ n ∈ ns, 0 ≤ n) → drawn b ns s t = some u →
    ∃ l, u = t ++ l ∧ (∀ k ∈ path s l, k ∈ b.map (·.1)) ∧ (∀ c ∈ l, c ≠ 62) ∧ l.length + 1 ≤ ns.length ∧ ∀ p ∈ (path s l).zip ns, cum b p.1 ≤ p.2
  | [], s, t, u, _, h => by cases h
  | n :: ns, s, t, u, hn, h => by
    have h0 := hn n (List.mem_cons_self ..)
    have h' : (if behind b s = 0 then none else if signAt b s (n % behind b s) = 62 then some t else drawn b ns (signAt b s (n % behind b s)) (t ++ [signAt b s (n % behind b s)])) = some u := h
    by_cases q : behind b s = 0
    · rw [if_pos q] at h'
      cases h'
    · rw [if_neg q] at h'
      have hb : 0 ≤ behind b s := sumB_nonneg (fun e m => by have := hs.pos e m; omega) _
      have hm1 : 0 ≤ n % behind b s := Int.emod_nonneg _ q
      have hm2 : n % behind b s < behind b s := Int.emod_lt_of_pos _ (by omega)
      have hm3 : n % behind b s ≤ n := by
        obtain ⟨x, rfl⟩ := Int.eq_ofNat_of_zero_le h0
        obtain ⟨z, hz⟩ := Int.eq_ofNat_of_zero_le hb
        rw [hz, ← Int.natCast_emod]
        exact Int.ofNat_le.mpr (Nat.mod_le x z)
      obtain ⟨i1, i2, i3⟩ := sign_in hs hm1 hm2
      generalize signAt b s (n % behind b s) = c at h' i1 i2 i3
      by_cases q2 : c = 62
      · rw [if_pos q2] at h'
        have e := Option.some.inj h'
        subst e
        subst q2
        refine ⟨[], by simp, fun k hk => ?_, by simp, by simp, fun p hp => ?_⟩
        · rw [path_nil] at hk
          rw [List.mem_singleton.mp hk]
          exact i1
        · rw [path_nil, List.zip_cons_cons, List.zip_nil_left] at hp
          rw [List.mem_singleton.mp hp]
          dsimp only
          omega
      · rw [if_neg q2] at h'
        obtain ⟨l, e, j1, j2, j3, j4⟩ := drawn_path hs ns c _ _ (fun x m => hn x (List.mem_cons_of_mem _ m)) h'
        refine ⟨c :: l, by rw [e]; simp, fun k hk => ?_, fun x hx => ?_, by simp; omega, fun p hp => ?_⟩
        · rw [path_cons] at hk
          rcases List.mem_cons.mp hk with rfl | hk
          · exact i1
          · exact j1 k hk
        · rcases List.mem_cons.mp hx with rfl | hx
          · exact q2
          · exact j2 x hx
        · rw [path_cons, List.zip_cons_cons] at hp
          rcases List.mem_cons.mp hp with rfl | hp
          · dsimp only
            omega
          · exact j4 p hp
/-- what is drawn of a book is a name -/
theorem drawn_ok {b : Bk} (hb : BookOk b) {ns : List Int} (hn : ∀ n ∈ ns, 0 ≤ n) (hl : ns.length ≤ 7) {u : List Nat} (h : drawn b ns 60 [] = some u) : nameOk u = true ∧ (∀ k ∈ prs u, 0 < cnt b k) ∧ ∀ p ∈ (prs u).zip ns, cum b p.1 ≤ p.2 := by
  obtain ⟨l, e, h1, h2, h3, h4⟩ := drawn_path hb.toSrt ns 60 [] u hn h
  rw [List.nil_append] at e
  subst e
  have hk : ∀ k ∈ prs u, pairOk k.1 k.2 = true := fun k m => by
    obtain ⟨x, hx, rfl⟩ := List.mem_map.mp (h1 k m)
    exact hb.prs x hx
  refine ⟨?_, fun k m => ?_, h4⟩
  · have hne : u ≠ [] := fun z => by
      subst z
      have := hk (60, 62) (by simp [prs])
      simp [pairOk] at this
    have hsm : ∀ c ∈ u, c ∈ smallL := fun c hc => by
      obtain ⟨j, hj, rfl⟩ := List.getElem_of_mem hc
      have hp : (prs u)[j]'(by rw [prs_len]; omega) ∈ prs u := List.getElem_mem _
      have := hk _ hp
      unfold prs at this
      simp only [List.getElem_zip] at this
      rw [List.getElem_append_left (by omega)] at this
      have h62 := h2 _ (List.getElem_mem hj)
      simp [pairOk] at this
      rcases this.2.2 with q | q
      · exact q
      · exact absurd q h62
    have := List.length_pos_iff.mpr hne
    simp [nameOk]
    exact ⟨by omega, by omega, hsm⟩
  · obtain ⟨x, hx, rfl⟩ := List.mem_map.mp (h1 k m)
    rw [cnt_mem hb.toSrt.nodup hx]
    have := hb.low x hx
    omega
end PG

/-! the plain law, eleven: sums of fractions -/
namespace PG
open PySem PySem.Spec PyProof.Rows L2 VL
theorem low_mul {u d c : Nat} (hd : 0 < d) (hc : 0 < c) : low (u * c) (d * c) = low u d := by
  unfold low
  rw [Nat.gcd_mul_right, Nat.mul_div_mul_right _ _ hc, Nat.mul_div_mul_right _ _ hc]
theorem low_eq {u d u' d' : Nat} (hd : 0 < d) (hd' : 0 < d') (h : u * d' = u' * d) : low u d = low u' d' := by
  rw [← low_mul (u := u) hd hd', ← low_mul (u := u') hd' hd, h, Nat.mul_comm d d']
theorem low_rat {u d : Nat} (hd : 0 < d) : (low u d).1 * d = u * (low u d).2 := by
  unfold low
  dsimp only
  have h1 := Nat.gcd_dvd_left u d
  have h2 := Nat.gcd_dvd_right u d
  obtain ⟨a, ha⟩ := h1
  obtain ⟨b, hb⟩ := h2
  have hg : 0 < Nat.gcd u d := Nat.gcd_pos_of_pos_right u hd
  have e1 : u / Nat.gcd u d = a := Nat.div_eq_of_eq_mul_right hg ha
  have e2 : d / Nat.gcd u d = b := Nat.div_eq_of_eq_mul_right hg hb
  rw [e1, e2]
  generalize Nat.gcd u d = g at *
  rw [ha, hb]
  rw [Nat.mul_comm g a, Nat.mul_assoc]
/-- a sum of two fractions, made lowest -/
def addF (a f : Fr) : Fr := low (a.1 * f.2 + f.1 * a.2) (a.2 * f.2)
theorem addF_low {u v d : Nat} (hd : 0 < d) : addF (low u d) (low v d) = low (u + v) d := by
  unfold addF
  have p1 := low_pos (u := u) hd
  have p2 := low_pos (u := v) hd
  refine low_eq (Nat.mul_pos p1 p2) hd ?_
  have r1 := low_rat (u := u) hd
  have r2 := low_rat (u := v) hd
  generalize low u d = A at *
  generalize low v d = B at *
  obtain ⟨a1, a2⟩ := A
  obtain ⟨b1, b2⟩ := B
  dsimp only at *
  have e1 : a1 * b2 * d = u * (a2 * b2) := by rw [Nat.mul_right_comm, r1, Nat.mul_assoc]
  have e2 : b1 * a2 * d = v * (a2 * b2) := by rw [Nat.mul_right_comm, r2, Nat.mul_assoc, Nat.mul_comm b2 a2]
  rw [Nat.add_mul, Nat.add_mul, e1, e2]
theorem low_one {d : Nat} (hd : 0 < d) : low d d = (1, 1) := by
  unfold low
  rw [Nat.gcd_self, Nat.div_self hd]
theorem low_zero {d : Nat} (hd : 0 < d) : low 0 d = (0, 1) := by
  unfold low
  rw [Nat.gcd_zero_left, Nat.div_self hd, Nat.zero_div]
theorem sum_low {d : Nat} (hd : 0 < d) : ∀ (us : List Nat) (u : Nat), (us.map fun v => low v d).foldl addF (low u d) = low (u + us.sum) d
  | [], u => rfl
  | v :: us, u => by
    rw [List.map_cons, List.foldl_cons, addF_low hd, sum_low hd us, List.sum_cons, Nat.add_assoc]
/-! ### share, soft share, next signs -/
theorem look_pair_ok {b : Bk} (h : BookOk b) {k : Pr} (hk : pairOk k.1 k.2 = true) : F_look_pair [bkD b, .str (keyS k)] = .ok .non := by
  simp -implicitDefEqProofs [F_look_pair, g_look_pair, runD_eq, h, hk]
theorem share_eq {b : Bk} (h : BookOk b) {k : Pr} (hk : pairOk k.1 k.2 = true) : F_share [bkD b, .str (keyS k)] = .ok (frD (shareF b k)) := by
  simp -implicitDefEqProofs [F_share, g_share, runD_eq, look_pair_ok h hk, share_of_eq h k]
def ways (s : Nat) : Nat := if s = 60 then 26 else 27
def softF (b : Bk) (k : Pr) : Fr := low ((cnt b k).toNat + 1) ((behind b k.1).toNat + ways k.1)
theorem soft_of_eq {b : Bk} (h : BookOk b) (k : Pr) : F_soft_of [bkD b, .str (keyS k)] = .ok (frD (softF b k)) := by
  have hl := h.len
  obtain ⟨h1, h2⟩ := behind_le h k.1
  have h3 := cnt_nonneg (fun e m => (h.range e m).1) k
  have e1 := sum_behind_eq (b := b) (by omega) k.1
  have e2 := count_of_eq h.toSrt.nodup k
  have hw : 0 < ways k.1 ∧ ways k.1 ≤ 27 := by unfold ways; split <;> omega
  have e3 := lowest_low (u := (cnt b k).toNat + 1) (d := (behind b k.1).toNat + ways k.1) (by omega) (log2_small (by omega))
  have c1 : (((cnt b k).toNat + 1 : Nat) : Int) = cnt b k + 1 := by omega
  have c2 : (((behind b k.1).toNat + ways k.1 : Nat) : Int) = behind b k.1 + (ways k.1 : Nat) := by omega
  rw [c1, c2] at e3
  by_cases q : k.1 = 60
  · have w : ways k.1 = 26 := by simp [ways, q]
    rw [w] at e3
    have e3' : F_lowest [.int (cnt b k + 1), .int (behind b k.1 + 26)] = _ := e3
    simp -implicitDefEqProofs [F_soft_of, g_soft_of, runD_eq, lit_lt, q]
    rw [q] at e1 e3' w
    simp -implicitDefEqProofs [e1, e2, e3', softF, w, q]
  · have w : ways k.1 = 27 := by simp [ways, q]
    rw [w] at e3
    have e3' : F_lowest [.int (cnt b k + 1), .int (behind b k.1 + 27)] = _ := e3
    simp -implicitDefEqProofs [F_soft_of, g_soft_of, runD_eq, lit_lt, q, e1, e2, e3', softF, w]
theorem soft_share_eq {b : Bk} (h : BookOk b) {k : Pr} (hk : pairOk k.1 k.2 = true) : F_soft_share [bkD b, .str (keyS k)] = .ok (frD (softF b k)) := by
  simp -implicitDefEqProofs [F_soft_share, g_soft_share, runD_eq, look_pair_ok h hk, soft_of_eq h k]
theorem nins_one (c : Nat) (x : Str) : ninsD (.str (S [c])) (.str x) = some (.bl (!decide (c ∈ x.cps.toList))) := congrArg (fun b => some (D.bl (!b))) (PySem.StrLaws.found_one x c)
def nextD (b : Bk) (s : Nat) : List D := (b.filter fun e => decide (e.1.1 = s)).map fun e => .tup [.str (S [e.1.2]), frD (shareF b e.1)]
theorem next_signs_eq {b : Bk} (h : BookOk b) {s : Nat} (hs : s ∈ 60 :: smallL) : F_next_signs [bkD b, .str (S [s])] = .ok (.lst (nextD b s)) := by
  have hl := h.len
  have ei : anyI (bkD b) = some (b.map enD) := rfl
  have hn : ninsD (.str (S [s])) (.str (S (60 :: smallL))) = some (.bl false) := by
    rw [nins_one]
    simp at hs
    simp [hs]
  simp -implicitDefEqProofs only [F_next_signs, g_next_signs, runD_eq, List.map_cons, List.map_nil, List.replicate, List.cons_append, List.nil_append]
  refine fin_seq (ρ1 := [.dat (bkD b), .dat (.str (S [s])), .no, .no]) (by simp -implicitDefEqProofs [h]) ?_
  refine fin_seq (ρ1 := [.dat (bkD b), .dat (.str (S [s])), .no, .no]) (by simp -implicitDefEqProofs (disch := omega) [lit_lt, lit_small, hn, szB_ok]) ?_
  simp -implicitDefEqProofs [ei]
  rw [lc_filter [.dat (bkD b), .dat (.str (S [s])), .no, .no] (fun e => decide (e.1.1 = s)) (fun e => .tup [.str (S [e.1.2]), frD (shareF b e.1)])]
  · simp -implicitDefEqProofs [nextD]
  · intro e he
    simp -implicitDefEqProofs (disch := omega) [enD, szB_ok, share_of_eq h e.1]
  all_goals try simp
  omega
end PG

/-! the plain law: fractions as rational numbers -/
namespace PG
open PySem PySem.Spec PyProof.Rows L2 VL
def qD (q : Rat) : D := .tup [.int q.num, .int (q.den : Int)]
theorem qD_inj {a b : Rat} (h : qD a = qD b) : a = b := by
  unfold qD at h
  simp at h
  exact Rat.ext h.1 (by omega)
theorem qD_ne {a b : Rat} : (qD a = qD b) = (a = b) := propext ⟨qD_inj, fun h => by rw [h]⟩
theorem num_div (u d : Int) (hd : 0 < d) : ((u : Rat) / d).num = u / (Int.gcd d u : Int) := by
  rw [← Rat.divInt_eq_div, Rat.num_divInt, Int.sign_eq_one_of_pos hd, Int.one_mul]
theorem den_div (u d : Int) (hd : 0 < d) : (((u : Rat) / d).den : Int) = d / (Int.gcd d u : Int) := by
  rw [← Rat.divInt_eq_div, Rat.den_divInt, if_neg (by omega)]
  have : ((d.natAbs / d.gcd u : Nat) : Int) = (d.natAbs : Int) / (d.gcd u : Int) := by simp
  rw [this]
  have e : (d.natAbs : Int) = d := by omega
  rw [e]
theorem lowest_q (u d : Int) (hd : 0 < d) (hl : d.natAbs.log2 < 9000) : F_lowest [.int u, .int d] = .ok (qD ((u : Rat) / d)) := by
  obtain ⟨n, rfl⟩ : ∃ n : Nat, d = n := ⟨d.toNat, by omega⟩
  have hn : 0 < n := by omega
  have hg : 0 < Int.gcd (n : Int) u := Int.gcd_pos_of_ne_zero_left _ (by omega)
  have hl' : n.log2 < 9000 := by simpa using hl
  have hle : Int.gcd (n : Int) u ≤ n := by
    have := Int.gcd_le_natAbs_left (a := (n : Int)) u (by omega)
    simpa using this
  have hf : fdB ((Int.gcd (n : Int) u : Nat) : Int) = true := fdB_nat hg (Nat.lt_of_le_of_lt (log2_mono hle hg) hl')
  obtain ⟨m, hm⟩ : ∃ m : Nat, u % (n : Int) = m := ⟨(u % (n : Int)).toNat, by have := Int.emod_nonneg u (show (n : Int) ≠ 0 by omega); omega⟩
  have hmn : m < n := by have := Int.emod_lt_of_pos u (show (0 : Int) < n by omega); omega
  have eg : Nat.gcd n m = Int.gcd (n : Int) u := by
    have h1 : Int.gcd (n : Int) (u % (n : Int)) = Int.gcd (n : Int) u := by 
      have : u % n = u - n * (u / n) := by have := Int.mul_ediv_add_emod u n; omega
      rw [this]
      simp
    rw [← h1, hm]
    rfl
  simp -implicitDefEqProofs [F_lowest, g_lowest, runD_eq]
  rw [whileD]
  have h1 : ¬ ((n : Int) = 0) := by omega
  have h2 : ¬ n = 0 := by omega
  simp -implicitDefEqProofs [h1, h2, hn, hm]
  rw [euclid _ _ n n m hmn, eg]
  simp -implicitDefEqProofs (disch := omega) [hf, szB_ok]
  rw [qD, num_div u n (by omega), den_div u n (by omega)]
theorem low_lowq : F__law_low = F_lowest := rfl
theorem fr_q (u d : Nat) (hd : 0 < d) : frD (low u d) = qD ((u : Rat) / (d : Rat)) := by
  have e : ((u : Rat) / (d : Rat)) = (((u : Int) : Rat) / ((d : Int) : Rat)) := by simp only [Rat.intCast_natCast]
  unfold frD qD low
  rw [e, num_div u d (by omega), den_div u d (by omega)]
  have : Int.gcd (d : Int) (u : Int) = Nat.gcd u d := by rw [Nat.gcd_comm]; rfl
  rw [this]
  simp
theorem num_den (q : Rat) : (q.num : Rat) / ((q.den : Int) : Rat) = q := by
  rw [← Rat.divInt_eq_div]
  exact Rat.num_divInt_den q
theorem den_pos (q : Rat) : 0 < q.den := q.den_pos
theorem den_ne (q : Rat) : ((q.den : Int) : Rat) ≠ 0 := by
  have := q.den_nz
  intro h
  have : ((q.den : Int) : Rat) = ((0 : Int) : Rat) := h
  have := Rat.intCast_inj.mp this
  omega
theorem den_posq (q : Rat) : (0 : Rat) < ((q.den : Int) : Rat) := by
  have h : ((0 : Int) : Rat) < ((q.den : Int) : Rat) := Rat.intCast_lt_intCast.mpr (by have := q.den_pos; omega)
  exact h
theorem num_eq (q : Rat) : (q.num : Rat) = q * ((q.den : Int) : Rat) := by
  have h := num_den q
  have h2 := den_ne q
  generalize ((q.den : Int) : Rat) = d at *
  generalize (q.num : Rat) = n at *
  rw [← h]
  grind
/-! how many bits -/
def Bd (n : Nat) (q : Rat) : Prop := q.num.natAbs < 2 ^ n ∧ q.den < 2 ^ n
theorem Bd.mono {m n : Nat} {q : Rat} (h : Bd m q) (hm : m ≤ n) : Bd n q :=
  ⟨Nat.lt_of_lt_of_le h.1 (Nat.pow_le_pow_right (by decide) hm), Nat.lt_of_lt_of_le h.2 (Nat.pow_le_pow_right (by decide) hm)⟩
theorem Bd.div {n : Nat} {u d : Int} (hd : 0 < d) (h1 : u.natAbs < 2 ^ n) (h2 : d.natAbs < 2 ^ n) : Bd n ((u : Rat) / d) := by
  have e1 := num_div u d hd
  have e2 := den_div u d hd
  refine ⟨?_, ?_⟩
  · rw [e1, Int.natAbs_ediv_of_dvd (Int.gcd_dvd_right d u)]
    exact Nat.lt_of_le_of_lt (Nat.div_le_self _ _) h1
  · have : (((u : Rat) / d).den : Int) ≤ d := by rw [e2]; exact Int.ediv_le_self _ (by omega)
    omega
theorem lt_two_mul {a b m n : Nat} (h1 : a < 2 ^ m) (h2 : b < 2 ^ n) : a * b < 2 ^ (m + n) := by
  rw [Nat.pow_add]
  exact Nat.mul_lt_mul'' h1 h2
theorem mulB_pow {i j : Int} {m n : Nat} (h1 : i.natAbs < 2 ^ m) (h2 : j.natAbs < 2 ^ n) (h : m + n ≤ 900000) : mulB i j = true := by
  have l1 : ∀ {x k : Nat}, x < 2 ^ k → x.log2 ≤ k := fun {x k} hx => by
    by_cases h0 : x = 0
    · subst h0
      rw [Nat.log2_zero]
      omega
    · exact Nat.le_of_lt ((Nat.log2_lt h0).mpr hx)
  have a1 := l1 h1
  have a2 := l1 h2
  unfold mulB
  have : decide (i.natAbs.log2 + j.natAbs.log2 < 1000000) = true := decide_eq_true (by omega)
  rw [this]
  simp
theorem log2_of_lt {x k : Nat} (h : x < 2 ^ k) (hk : 0 < k) : x.log2 < k := by
  by_cases h0 : x = 0
  · subst h0
    rw [Nat.log2_zero]
    omega
  · exact (Nat.log2_lt h0).mpr h
theorem Bd.mul {m n : Nat} {p q : Rat} (h1 : Bd m p) (h2 : Bd n q) : Bd (m + n) (p * q) := by
  have e : p * q = ((p.num * q.num : Int) : Rat) / ((p.den * q.den : Int) : Rat) := by
    rw [Rat.intCast_mul, Rat.intCast_mul, num_eq p, num_eq q]
    have := den_ne p
    have := den_ne q
    generalize ((p.den : Int) : Rat) = a at *
    generalize ((q.den : Int) : Rat) = b at *
    grind
  rw [e]
  have d1 := p.den_pos
  have d2 := q.den_pos
  refine Bd.div (Int.mul_pos (by omega) (by omega)) ?_ ?_
  · rw [Int.natAbs_mul]
    exact lt_two_mul h1.1 h2.1
  · rw [Int.natAbs_mul]
    exact lt_two_mul h1.2 h2.2
theorem plus_q_eq (p q : Rat) : p + q = ((p.num * (q.den : Int) + q.num * (p.den : Int) : Int) : Rat) / ((p.den * q.den : Int) : Rat) := by
  rw [Rat.intCast_add, Rat.intCast_mul, Rat.intCast_mul, Rat.intCast_mul, num_eq p, num_eq q]
  have := den_ne p
  have := den_ne q
  generalize ((p.den : Int) : Rat) = a at *
  generalize ((q.den : Int) : Rat) = b at *
  grind
theorem times_q_eq (p q : Rat) : p * q = ((p.num * q.num : Int) : Rat) / ((p.den * q.den : Int) : Rat) := by
  rw [Rat.intCast_mul, Rat.intCast_mul, num_eq p, num_eq q]
  have := den_ne p
  have := den_ne q
  generalize ((p.den : Int) : Rat) = a at *
  generalize ((q.den : Int) : Rat) = b at *
  grind
theorem dd_pos (p q : Rat) : (0 : Int) < p.den * q.den := by
  have d1 := p.den_pos
  have d2 := q.den_pos
  exact Int.mul_pos (by omega) (by omega)
theorem Bd.add {m n : Nat} {p q : Rat} (h1 : Bd m p) (h2 : Bd n q) : Bd (m + n + 1) (p + q) := by
  rw [plus_q_eq]
  refine Bd.div (dd_pos p q) ?_ ?_
  · have a := lt_two_mul h1.1 h2.2
    have b := lt_two_mul h2.1 h1.2
    rw [Nat.add_comm n m] at b
    have c := Int.natAbs_add_le (p.num * (q.den : Int)) (q.num * (p.den : Int))
    rw [Int.natAbs_mul, Int.natAbs_mul] at c
    have e : ∀ x : Nat, (x : Int).natAbs = x := fun x => by omega
    rw [e, e] at c
    rw [Nat.pow_succ]
    omega
  · rw [Int.natAbs_mul]
    have := lt_two_mul h1.2 h2.2
    rw [Nat.pow_succ]
    have e : ∀ x : Nat, (x : Int).natAbs = x := fun x => by omega
    rw [e, e]
    omega
theorem Bd.neg {m : Nat} {p : Rat} (h : Bd m p) : Bd m (-p) := by
  refine ⟨?_, ?_⟩
  · rw [Rat.neg_num]
    have := h.1
    omega
  · rw [Rat.neg_den]
    exact h.2
theorem Bd.zero (n : Nat) (hn : 0 < n) : Bd n 0 := by
  have h2 : 2 ^ 1 ≤ 2 ^ n := Nat.pow_le_pow_right (by decide) hn
  refine ⟨?_, ?_⟩
  · show (0 : Int).natAbs < 2 ^ n
    simp
    omega
  · show (1 : Nat) < 2 ^ n
    omega
theorem Bd.one (n : Nat) (hn : 0 < n) : Bd n 1 := by
  have h2 : 2 ^ 1 ≤ 2 ^ n := Nat.pow_le_pow_right (by decide) hn
  refine ⟨?_, ?_⟩
  · show (1 : Int).natAbs < 2 ^ n
    simp
    omega
  · show (1 : Nat) < 2 ^ n
    omega
theorem zero_q : D.tup [.int 0, .int 1] = qD 0 := rfl
theorem one_q : D.tup [.int 1, .int 1] = qD 1 := rfl
theorem Bd.mulB_nn {m n : Nat} {p q : Rat} (h1 : Bd m p) (h2 : Bd n q) (h : m + n ≤ 9000) : mulB p.num q.num = true := mulB_pow h1.1 h2.1 (by omega)
theorem Bd.mulB_nd {m n : Nat} {p q : Rat} (h1 : Bd m p) (h2 : Bd n q) (h : m + n ≤ 9000) : mulB p.num (q.den : Int) = true := mulB_pow h1.1 (by simpa using h2.2) (by omega)
theorem Bd.mulB_dd {m n : Nat} {p q : Rat} (h1 : Bd m p) (h2 : Bd n q) (h : m + n ≤ 9000) : mulB (p.den : Int) (q.den : Int) = true := mulB_pow (m := m) (n := n) (by simpa using h1.2) (by simpa using h2.2) (by omega)
theorem Bd.dd_log {m n : Nat} {p q : Rat} (h1 : Bd m p) (h2 : Bd n q) (h : m + n ≤ 9000) (h0 : 0 < m + n) : ((p.den : Int) * (q.den : Int)).natAbs.log2 < 9000 := by
  have := lt_two_mul h1.2 h2.2
  rw [Int.natAbs_mul]
  have e : ∀ x : Nat, (x : Int).natAbs = x := fun x => by omega
  rw [e, e]
  have := log2_of_lt this h0
  omega
section
variable {m n : Nat} {p q : Rat} (h1 : Bd m p) (h2 : Bd n q) (h : m + n ≤ 9000) (h0 : 0 < m + n)
include h1 h2 h h0
theorem plus_q : F_plus [qD p, qD q] = .ok (qD (p + q)) := by
  have e := lowest_q (p.num * (q.den : Int) + q.num * (p.den : Int)) (p.den * q.den) (dd_pos p q) (h1.dd_log h2 h h0)
  rw [← plus_q_eq] at e
  have m1 := h1.mulB_nd h2 h
  have m2 := h2.mulB_nd h1 (by omega)
  have m3 := h1.mulB_dd h2 h
  simp -implicitDefEqProofs [F_plus, g_plus, runD_eq, qD, m1, m2, m3]
  rw [e]
  rfl
theorem times_q : F_times [qD p, qD q] = .ok (qD (p * q)) := by
  have e := lowest_q (p.num * q.num) (p.den * q.den) (dd_pos p q) (h1.dd_log h2 h h0)
  rw [← times_q_eq] at e
  have m1 := h1.mulB_nn h2 h
  have m3 := h1.mulB_dd h2 h
  simp -implicitDefEqProofs [F_times, g_times, runD_eq, qD, m1, m3]
  rw [e]
  rfl
theorem is_less_q : F_is_less [qD p, qD q] = .ok (.bl (decide (p < q))) := by
  have m1 := h1.mulB_nd h2 h
  have m2 := h2.mulB_nd h1 (by omega)
  have e : decide (p.num * (q.den : Int) < q.num * (p.den : Int)) = decide (p < q) := decide_eq_decide.mpr (Rat.lt_iff p q).symm
  simp -implicitDefEqProofs [F_is_less, g_is_less, runD_eq, qD, m1, m2]
  rw [Rat.lt_iff]
theorem is_more_q : F_is_more [qD p, qD q] = .ok (.bl (decide (q < p))) := by
  have m1 := h1.mulB_nd h2 h
  have m2 := h2.mulB_nd h1 (by omega)
  simp -implicitDefEqProofs [F_is_more, g_is_more, runD_eq, qD, m1, m2]
  rw [Rat.lt_iff]
end
theorem qD_pu (q : Rat) : pu (qD q) = true ∧ dpt (qD q) = 1 := by simp [qD, pu, puL, dpt, dptL]
theorem eq_pu {x w : D} (hx : pu x = true) (hw : pu w = true) (dx : dpt x ≤ 64) (dw : dpt w ≤ 64) (p : Prop) [Decidable p] (h : p ↔ x = w) : eqD x w = some (.bl (decide p)) := by
  have : Decidable (x = w) := decidable_of_iff _ h
  unfold eqD
  rw [eqB_pu hx hw dx dw]
  simp [h]
theorem ne_pu {x w : D} (hx : pu x = true) (hw : pu w = true) (dx : dpt x ≤ 64) (dw : dpt w ≤ 64) (p : Prop) [Decidable p] (h : p ↔ x = w) : neD x w = some (.bl (!decide p)) := by
  have : Decidable (x = w) := decidable_of_iff _ h
  unfold neD
  rw [eqB_pu hx hw dx dw]
  simp [h]
theorem eq_self {x : D} (hx : pu x = true) (dx : dpt x ≤ 64) : eqD x x = some (.bl true) := eq_pu hx hx dx dx True (by simp)
theorem ne_self {x : D} (hx : pu x = true) (dx : dpt x ≤ 64) : neD x x = some (.bl false) := ne_pu hx hx dx dx True (by simp)
theorem eq_q (p q : Rat) : eqD (qD p) (qD q) = some (.bl (decide (p = q))) := eq_pu (qD_pu p).1 (qD_pu q).1 (by simp [(qD_pu p).2]) (by simp [(qD_pu q).2]) _ (by rw [qD_ne])
theorem ne_q (p q : Rat) : neD (qD p) (qD q) = some (.bl (!decide (p = q))) := ne_pu (qD_pu p).1 (qD_pu q).1 (by simp [(qD_pu p).2]) (by simp [(qD_pu q).2]) _ (by rw [qD_ne])
/-! shares -/
def shareQ (b : Bk) (k : Pr) : Rat := (cnt b k : Rat) / (behind b k.1 : Rat)
def softQ (b : Bk) (k : Pr) : Rat := ((cnt b k + 1 : Int) : Rat) / ((behind b k.1 + (ways k.1 : Nat) : Int) : Rat)
theorem share_fq {b : Bk} (h : BookOk b) (k : Pr) : frD (shareF b k) = qD (shareQ b k) := by
  obtain ⟨h1, h2⟩ := behind_le h k.1
  have h3 := cnt_nonneg (fun e m => (h.range e m).1) k
  unfold shareF shareQ
  by_cases q : 0 < behind b k.1
  · rw [if_pos q, fr_q _ _ (by omega)]
    congr 1
    have e1 : (((cnt b k).toNat : Nat) : Rat) = (((cnt b k).toNat : Int) : Rat) := (Rat.intCast_natCast _).symm
    have e2 : (((behind b k.1).toNat : Nat) : Rat) = (((behind b k.1).toNat : Int) : Rat) := (Rat.intCast_natCast _).symm
    rw [e1, e2, Int.toNat_of_nonneg h3, Int.toNat_of_nonneg h1]
  · rw [if_neg q]
    have e : behind b k.1 = 0 := by omega
    rw [e]
    have : (cnt b k : Rat) / ((0 : Int) : Rat) = 0 := by
      show (cnt b k : Rat) / 0 = 0
      rw [Rat.div_def]
      rw [Rat.inv_zero, Rat.mul_zero]
    rw [this]
    rfl
theorem soft_fq {b : Bk} (h : BookOk b) (k : Pr) : frD (softF b k) = qD (softQ b k) := by
  obtain ⟨h1, h2⟩ := behind_le h k.1
  have h3 := cnt_nonneg (fun e m => (h.range e m).1) k
  unfold softF softQ
  have hw : 0 < ways k.1 := by unfold ways; split <;> omega
  rw [fr_q _ _ (by omega)]
  congr 1
  have e1 : ((((cnt b k).toNat + 1 : Nat)) : Rat) = ((((cnt b k).toNat + 1 : Nat) : Int) : Rat) := (Rat.intCast_natCast _).symm
  have e2 : ((((behind b k.1).toNat + ways k.1 : Nat)) : Rat) = ((((behind b k.1).toNat + ways k.1 : Nat) : Int) : Rat) := (Rat.intCast_natCast _).symm
  rw [e1, e2]
  congr 2
  · omega
  · omega
end PG

/-! the plain law: shares come to the whole; what follows a sign; sorted rows of a letter and a fraction -/
namespace PG
open PySem PySem.Spec PyProof.Rows L2 VL
theorem sq_eq {f g : SM} {ρ ρ1 : VL.Env} (h : f ρ = .next ρ1) : s_seq f g ρ = g ρ1 := by
  rw [s_seq_a, h]
  rfl
theorem sq_for {α : Type} {it : EM (List D)} {tg : D → VL.Env → Option VL.Env} {body g : SM} {enc : α → D} {l : List α} {ρ ρ1 : VL.Env} {R : RS} (hi : it ρ = .ok (l.map enc) ρ1) (Inv : List α → VL.Env → Prop)
    (h : ∀ (pre : List α) (a : α) (post : List α) (ρ : VL.Env), l = pre ++ a :: post → Inv pre ρ → ∃ ρ1 ρ2, tg (enc a) ρ = some ρ1 ∧ (body ρ1 = .next ρ2 ∨ body ρ1 = .cont ρ2) ∧ Inv (pre ++ [a]) ρ2) (h0 : Inv [] ρ1)
    (hq : ∀ ρ', Inv l ρ' → g ρ' = R) : s_seq (s_for it tg body) g ρ = R := by
  obtain ⟨ρ', e, hi'⟩ := for_pre (tg := tg) (body := body) (enc := enc) l Inv h h0
  rw [s_seq_a, s_for_a, hi, to_ok, e]
  exact hq ρ' hi'
/-! one statement after another, whatever is asked of the end -/
def Fi (v : RF) (r : RS) : Prop := finD r = v
def Nx (Inv : VL.Env → Prop) (r : RS) : Prop := ∃ ρ, (r = .next ρ ∨ r = .cont ρ) ∧ Inv ρ
theorem p_seq {P : RS → Prop} {f g : SM} {ρ ρ1 : VL.Env} (h : f ρ = .next ρ1) (k : P (g ρ1)) : P (s_seq f g ρ) := by
  rw [sq_eq h]
  exact k
theorem p_for {P : RS → Prop} {α : Type} {it : EM (List D)} {tg : D → VL.Env → Option VL.Env} {body g : SM} (enc : α → D) (l : List α) {ρ ρ1 : VL.Env} (hi : it ρ = .ok (l.map enc) ρ1) (Inv : List α → VL.Env → Prop)
    (h : ∀ (pre : List α) (a : α) (post : List α) (ρ : VL.Env), l = pre ++ a :: post → Inv pre ρ → ∃ ρ1, tg (enc a) ρ = some ρ1 ∧ Nx (Inv (pre ++ [a])) (body ρ1)) (h0 : Inv [] ρ1)
    (hq : ∀ ρ', Inv l ρ' → P (g ρ')) : P (s_seq (s_for it tg body) g ρ) := by
  obtain ⟨ρ', e, hi'⟩ := for_pre (tg := tg) (body := body) (enc := enc) l Inv (fun pre a post ρ e i => by
    obtain ⟨ρ1, h1, ρ2, h2, h3⟩ := h pre a post ρ e i
    exact ⟨ρ1, ρ2, h1, h2, h3⟩) h0
  rw [s_seq_a, s_for_a, hi, to_ok, e]
  exact hq ρ' hi'
theorem p_for1 {P : RS → Prop} {α : Type} {it : EM (List D)} {tg : D → VL.Env → Option VL.Env} {body : SM} (enc : α → D) (l : List α) {ρ ρ1 : VL.Env} (hi : it ρ = .ok (l.map enc) ρ1) (Inv : List α → VL.Env → Prop)
    (h : ∀ (pre : List α) (a : α) (post : List α) (ρ : VL.Env), l = pre ++ a :: post → Inv pre ρ → ∃ ρ1, tg (enc a) ρ = some ρ1 ∧ Nx (Inv (pre ++ [a])) (body ρ1)) (h0 : Inv [] ρ1)
    (hq : ∀ ρ', Inv l ρ' → P (.next ρ')) : P (s_for it tg body ρ) := by
  obtain ⟨ρ', e, hi'⟩ := for_pre (tg := tg) (body := body) (enc := enc) l Inv (fun pre a post ρ e i => by
    obtain ⟨ρ1, h1, ρ2, h2, h3⟩ := h pre a post ρ e i
    exact ⟨ρ1, ρ2, h1, h2, h3⟩) h0
  rw [s_for_a, hi, to_ok, e]
  exact hq ρ' hi'
theorem nx_of {Inv : VL.Env → Prop} {r : RS} {ρ : VL.Env} (h : r = .next ρ) (i : Inv ρ) : Nx Inv r := ⟨ρ, .inl h, i⟩
theorem nx_cont {Inv : VL.Env → Prop} {r : RS} {ρ : VL.Env} (h : r = .cont ρ) (i : Inv ρ) : Nx Inv r := ⟨ρ, .inr h, i⟩
theorem fi_of {v : RF} {r : RS} (h : finD r = v) : Fi v r := h
theorem fi_run {m : Nat} {g : SM} {ds : List D} {v : RF} (h : Fi v (g (ds.map .dat ++ List.replicate m .no))) : runD m g ds = v := by
  rw [runD_eq]
  exact h
def Pl (s : VL.Slot) : Prop := s = .no ∨ ∃ d, s = .dat d
theorem pl_no : Pl .no := .inl rfl
theorem pl_dat {d : D} : Pl (.dat d) := .inr ⟨d, rfl⟩
/-! one-sign texts, sorted, each once -/
def ddN : List Nat → List Nat
  | [] => []
  | a :: l => if a ∈ l then ddN l else a :: ddN l
theorem ddN_mem {c : Nat} : ∀ {l : List Nat}, c ∈ ddN l ↔ c ∈ l
  | [] => Iff.rfl
  | a :: l => by
    unfold ddN
    split
    · rename_i h
      rw [ddN_mem (l := l), List.mem_cons]
      exact ⟨.inr, fun q => by rcases q with rfl | q; exact h; exact q⟩
    · rw [List.mem_cons, List.mem_cons, ddN_mem (l := l)]
theorem ddN_nodup : ∀ l : List Nat, (ddN l).Nodup
  | [] => List.nodup_nil
  | a :: l => by
    unfold ddN
    split
    · exact ddN_nodup l
    · rename_i h
      exact List.nodup_cons.mpr ⟨fun q => h (ddN_mem.mp q), ddN_nodup l⟩
abbrev sgD (c : Nat) : D := .str (S [c])
def setN (l : List Nat) : List Nat := (ddN l).mergeSort fun a b => decide (a ≤ b)
theorem setN_mem {l : List Nat} {c : Nat} : c ∈ setN l ↔ c ∈ l := by
  unfold setN
  rw [(List.mergeSort_perm _ _).mem_iff, ddN_mem]
theorem setN_srt (l : List Nat) : (setN l).Pairwise (· < ·) := by
  have h1 : (setN l).Pairwise fun a b => decide (a ≤ b) = true := List.pairwise_mergeSort (fun a b c h1 h2 => by simp at *; omega) (fun a b => by simp; omega) _
  have h2 : (setN l).Nodup := ((List.mergeSort_perm _ _).nodup_iff).mpr (ddN_nodup l)
  exact (h1.and (List.nodup_iff_pairwise_ne.mp h2)).imp fun q => by simp at q; omega
theorem setN_len (l : List Nat) : (setN l).length ≤ l.length := nodup_len (List.nodup_iff_pairwise_ne.mpr ((setN_srt l).imp fun q => Nat.ne_of_lt q)) fun x hx => setN_mem.mp hx
theorem set_one (l : List Nat) : setS (l.map fun c => S [c]) = (setN l).map fun c => S [c] := by
  refine (setS_is ?_ ?_ ?_).symm
  · rw [List.pairwise_map]
    refine (setN_srt l).imp fun {a b} q => ?_
    unfold leS
    have : ([b] < [a]) = False := by
      rw [List.cons_lt_cons_iff]
      simp
      omega
    simp only [S_cps, this]
    rfl
  · rw [List.nodup_iff_pairwise_ne, List.pairwise_map]
    exact (setN_srt l).imp fun q w => by simp at w; omega
  · intro k
    rw [List.mem_map, List.mem_map]
    constructor
    · rintro ⟨c, hc, rfl⟩
      exact ⟨c, setN_mem.mp hc, rfl⟩
    · rintro ⟨c, hc, rfl⟩
      exact ⟨c, setN_mem.mpr hc, rfl⟩
theorem sortset_one (l : List Nat) (hl : l.length ≤ 1000) : sortsetO [.lst (l.map sgD)] = some (.L ((setN l).map sgD)) := by
  show (strsD (l.map fun c => D.str (S [c]))).bind _ = _
  rw [strs_map (fun c : Nat => S [c]) l]
  show (if (l.map fun c => S [c]).length + 1 < scanBound then some (OD.L ((setS (l.map fun c => S [c])).map .str)) else none) = _
  rw [if_pos (by rw [List.length_map]; unfold scanBound; omega), set_one, List.map_map]
  rfl
/-! sums -/
theorem sum_zero {α : Type} (l : List α) : (l.map fun _ => (0 : Int)).sum = 0 := by
  induction l with
  | nil => rfl
  | cons a l ih => rw [List.map_cons, List.sum_cons, ih]; rfl
theorem sum_map_add {α : Type} (f g : α → Int) (l : List α) : (l.map fun a => f a + g a).sum = (l.map f).sum + (l.map g).sum := by
  induction l with
  | nil => rfl
  | cons a l ih => simp [ih]; omega
theorem sum_one {l : List Nat} (hn : l.Nodup) {x : Nat} (hx : x ∈ l) (v : Int) : (l.map fun c => if x = c then v else 0).sum = v := by
  induction l with
  | nil => cases hx
  | cons a l ih =>
    have hn' := List.nodup_cons.mp hn
    rw [List.map_cons, List.sum_cons]
    by_cases h : x = a
    · subst h
      have : (l.map fun c => if x = c then v else 0).sum = 0 := by
        have z : ∀ c ∈ l, (if x = c then v else 0) = 0 := fun c hc => by
          rw [if_neg]
          intro q
          subst q
          exact hn'.1 hc
        rw [List.map_congr_left z, sum_zero]
      rw [this, if_pos rfl]
      omega
    · rw [if_neg h, ih hn'.2 (by
        rcases List.mem_cons.mp hx with q | q
        · exact absurd q h
        · exact q)]
      omega
theorem sum_none {l : List Nat} {x : Nat} (hx : x ∉ l) (v : Int) : (l.map fun c => if x = c then v else 0).sum = 0 := by
  induction l with
  | nil => rfl
  | cons a l ih =>
    rw [List.map_cons, List.sum_cons, ih (fun q => hx (List.mem_cons_of_mem _ q)), if_neg (fun q => hx (by rw [q]; exact List.mem_cons_self ..))]
    rfl
/-- all counts behind a sign -/
theorem sum_cnt {cs : List Nat} (hc : cs.Nodup) (s : Nat) : ∀ {b : Bk}, (b.map (·.1)).Nodup → (∀ e ∈ b, e.1.1 = s → e.1.2 ∈ cs) → (cs.map fun c => cnt b (s, c)).sum = behind b s
  | [], _, _ => by
    have : (cs.map fun c => cnt [] (s, c)).sum = 0 := sum_zero cs
    rw [this]
    rfl
  | e :: b, hn, h => by
    have hn' := List.nodup_cons.mp (by simpa using hn : (e.1 :: b.map (·.1)).Nodup)
    have ih := sum_cnt hc s hn'.2 fun x hx => h x (List.mem_cons_of_mem _ hx)
    rw [behind_cons, ← ih]
    have e1 : ∀ c ∈ cs, cnt (e :: b) (s, c) = (if e.1.1 = s then (if e.1.2 = c then e.2 else 0) else 0) + cnt b (s, c) := fun c _ => by
      rw [cnt_cons]
      by_cases h1 : e.1 = (s, c)
      · have h2 : cnt b (s, c) = 0 := cnt_none fun q => hn'.1 (by rw [h1]; exact q)
        rw [if_pos h1, h2]
        rw [h1]
        simp
      · rw [if_neg h1]
        by_cases h2 : e.1.1 = s
        · have h3 : ¬ e.1.2 = c := fun q => h1 (Prod.ext h2 q)
          rw [if_pos h2, if_neg h3]
          omega
        · rw [if_neg h2]
          omega
    rw [List.map_congr_left e1, sum_map_add]
    by_cases h2 : e.1.1 = s
    · simp only [if_pos h2]
      rw [sum_one hc (h e (List.mem_cons_self ..) h2)]
    · simp only [if_neg h2]
      rw [sum_zero]
theorem sum_div {α : Type} (f : α → Int) (d : Rat) (l : List α) : (l.map fun a => (f a : Rat) / d).sum = (((l.map f).sum : Int) : Rat) / d := by
  induction l with
  | nil =>
    show (0 : Rat) = ((0 : Int) : Rat) / d
    have : ((0 : Int) : Rat) = 0 := rfl
    rw [this, Rat.div_def, Rat.zero_mul]
  | cons a l ih =>
    rw [List.map_cons, List.map_cons, List.sum_cons, List.sum_cons, ih, Rat.intCast_add, Rat.div_def, Rat.div_def, Rat.div_def]
    grind
/-- the signs that may stand behind one -/
def restL : List Nat := smallL ++ [62]
def othL (s : Nat) : List Nat := restL.filter fun c => !(decide (s = 60) && decide (c = 62))
theorem oth_nodup (s : Nat) : (othL s).Nodup := List.Pairwise.filter _ (by decide)
theorem oth_mem {s c : Nat} (h : s ∈ 60 :: smallL) : c ∈ othL s ↔ pairOk s c = true := by
  unfold othL pairOk restL
  rw [List.mem_filter]
  simp
  simp at h
  constructor
  · intro q
    exact ⟨q.2, h, q.1⟩
  · intro q
    exact ⟨q.2.2, q.1⟩
theorem oth_len {s : Nat} : (othL s).length ≤ 27 := by
  unfold othL
  exact Nat.le_trans (List.length_filter_le _ _) (by decide)
theorem oth_ways {s : Nat} : (othL s).length = ways s := by
  unfold othL ways
  by_cases h : s = 60
  · subst h
    decide
  · simp only [h, decide_false, Bool.false_and, Bool.not_false, if_false]
    decide
theorem share_sum {b : Bk} (h : BookOk b) (s : Nat) : ((othL s).map fun c => shareQ b (s, c)).sum = if behind b s = 0 then 0 else 1 := by
  have e : ((othL s).map fun c => cnt b (s, c)).sum = behind b s := sum_cnt (oth_nodup s) s h.toSrt.nodup fun e he hs => by
    have := h.prs e he
    rw [hs] at this
    refine (oth_mem ?_).mpr this
    unfold pairOk at this
    simp at this
    simp
    exact this.2.1
  have e2 : ((othL s).map fun c => shareQ b (s, c)).sum = (((othL s).map fun c => (cnt b (s, c) : Rat) / (behind b s : Rat)).sum) := rfl
  rw [e2, sum_div, e]
  by_cases q : behind b s = 0
  · rw [if_pos q, q]
    have : ((0 : Int) : Rat) = 0 := rfl
    rw [this, Rat.div_def, Rat.zero_mul]
  · rw [if_neg q]
    have : (behind b s : Rat) ≠ 0 := fun z => q (Rat.intCast_inj.mp (show (behind b s : Rat) = ((0 : Int) : Rat) from z))
    grind
theorem soft_sum {b : Bk} (h : BookOk b) (s : Nat) : ((othL s).map fun c => softQ b (s, c)).sum = 1 := by
  have e : ((othL s).map fun c => cnt b (s, c)).sum = behind b s := sum_cnt (oth_nodup s) s h.toSrt.nodup fun e he hs => by
    have := h.prs e he
    rw [hs] at this
    refine (oth_mem ?_).mpr this
    unfold pairOk at this
    simp at this
    simp
    exact this.2.1
  have e2 : ((othL s).map fun c => softQ b (s, c)).sum = (((othL s).map fun c => ((cnt b (s, c) + 1 : Int) : Rat) / ((behind b s + (ways s : Nat) : Int) : Rat)).sum) := rfl
  have e3 : ((othL s).map fun c => cnt b (s, c) + 1).sum = behind b s + (ways s : Nat) := by
    rw [sum_map_add, e]
    congr 1
    rw [← oth_ways]
    generalize othL s = l
    induction l with
    | nil => rfl
    | cons a l ih => simp at ih ⊢; omega
  rw [e2, sum_div, e3]
  have h1 := (behind_le h s).1
  have h2 : 0 < ways s := by unfold ways; split <;> omega
  have : ((behind b s + (ways s : Nat) : Int) : Rat) ≠ 0 := fun z => by
    have := Rat.intCast_inj.mp (show ((behind b s + (ways s : Nat) : Int) : Rat) = ((0 : Int) : Rat) from z)
    omega
  generalize ((behind b s + (ways s : Nat) : Int) : Rat) = d at *
  grind
theorem share_bd {b : Bk} (h : BookOk b) (k : Pr) : Bd 17 (shareQ b k) := by
  have := share_bound h k
  have e := share_fq h k
  unfold frD qD at e
  simp at e
  refine ⟨?_, ?_⟩
  · rw [← e.1]
    have := this.1
    omega
  · have h1 := this.2
    have h2 := e.2
    omega
theorem soft_bd {b : Bk} (h : BookOk b) (k : Pr) : Bd 17 (softQ b k) := by
  obtain ⟨h1, h2⟩ := behind_le h k.1
  have h3 := cnt_nonneg (fun e m => (h.range e m).1) k
  have h5 : cnt b k ≤ behind b k.1 := cnt_le_sum (fun e m => (h.range e m).1) (by simp)
  have h4 : 0 < ways k.1 ∧ ways k.1 ≤ 27 := by unfold ways; split <;> omega
  exact Bd.div (by omega) (by omega) (by omega)
theorem share_pos_iff {b : Bk} (h : BookOk b) (k : Pr) : 0 < (shareQ b k).num ↔ 0 < cnt b k := by
  obtain ⟨h1, h2⟩ := behind_le h k.1
  have h3 := cnt_nonneg (fun e m => (h.range e m).1) k
  have h5 : cnt b k ≤ behind b k.1 := cnt_le_sum (fun e m => (h.range e m).1) (by simp)
  constructor
  · intro q
    false_or_by_contra
    have e : cnt b k = 0 := by omega
    unfold shareQ at q
    rw [e] at q
    have : ((0 : Int) : Rat) / (behind b k.1 : Rat) = 0 := by
      have : ((0 : Int) : Rat) = 0 := rfl
      rw [this, Rat.div_def, Rat.zero_mul]
    rw [this] at q
    exact absurd q (by decide)
  · intro q
    have hb : 0 < behind b k.1 := by omega
    unfold shareQ
    rw [num_div _ _ hb]
    have hg : Int.gcd (behind b k.1) (cnt b k) ∣ (cnt b k).natAbs := by
      have := Int.gcd_dvd_right (behind b k.1) (cnt b k)
      exact Int.natAbs_dvd_natAbs.mpr this
    have hle : Int.gcd (behind b k.1) (cnt b k) ≤ (cnt b k).natAbs := Nat.le_of_dvd (by omega) hg
    have hp : 0 < Int.gcd (behind b k.1) (cnt b k) := Int.gcd_pos_of_ne_zero_left _ (by omega)
    exact Int.ediv_pos_of_pos_of_dvd q (by omega) (Int.gcd_dvd_right _ _)
theorem num_pos_iff {q : Rat} : 0 < q.num ↔ 0 < q := by
  have e := num_eq q
  have h := den_posq q
  constructor
  · intro z
    have z' : (0 : Rat) < (q.num : Rat) := Rat.intCast_lt_intCast.mpr z
    rw [e] at z'
    generalize ((q.den : Int) : Rat) = d at *
    false_or_by_contra
    rename_i w
    have w' : q ≤ 0 := Rat.not_lt.mp w
    have := Rat.mul_le_mul_of_nonneg_right w' (Rat.le_of_lt h)
    grind
  · intro z
    have : (0 : Rat) < (q.num : Rat) := by
      rw [e]
      exact Rat.mul_pos z h
    exact Rat.intCast_lt_intCast.mp this
theorem soft_num_pos {b : Bk} (h : BookOk b) (k : Pr) : 0 < (softQ b k).num := by
  obtain ⟨h1, h2⟩ := behind_le h k.1
  have h3 := cnt_nonneg (fun e m => (h.range e m).1) k
  have h4 : 0 < ways k.1 ∧ ways k.1 ≤ 27 := by unfold ways; split <;> omega
  unfold softQ
  have hb : 0 < behind b k.1 + (ways k.1 : Nat) := by omega
  rw [num_div _ _ hb]
  exact Int.ediv_pos_of_pos_of_dvd (by omega) (by omega) (Int.gcd_dvd_right _ _)
/-! rows of a letter and a fraction -/
def enF (e : Nat × Rat) : D := .tup [.str (S [e.1]), qD e.2]
theorem alike_F (a b : Nat × Rat) : PySem.W.alike (enF a).toP (enF b).toP = true := rfl
theorem eqv_self {x : D} (h : pu x = true) : PyData.eqv x.toP x.toP = true := (eqv_pu h h).mpr rfl
theorem leT_F (a b : Nat × Rat) (h : a.1 = b.1 → a = b) : leT (enF a) (enF b) = decide (a.1 ≤ b.1) := by
  show (!PySem.W.dataLt (.tuple [.str (S [b.1]), (qD b.2).toP]) (.tuple [.str (S [a.1]), (qD a.2).toP])) = _
  rw [PySem.W.dataLt_pair rfl rfl, PySem.W.dataLt_str]
  have e1 : PyData.eqv (.str (S [b.1])) (.str (S [a.1])) = decide (b.1 = a.1) := by
    have : PyData.eqv (.str (S [b.1])) (.str (S [a.1])) = (S [b.1] == S [a.1]) := by simp [PyData.eqv]
    rw [this, Bool.eq_iff_iff, beq_iff_eq, decide_eq_true_iff]
    simp
  rw [e1]
  by_cases q : b.1 = a.1
  · have := h q.symm
    subst this
    rw [if_pos (by simp), if_pos (eqv_self (qD_pu _).1)]
    simp
  · rw [if_neg (by simpa using q)]
    have e3 : ([b.1] < [a.1]) = (b.1 < a.1) := by
      rw [List.cons_lt_cons_iff]
      simp
    simp only [S_cps, e3]
    by_cases z : b.1 < a.1
    · simp [z]
    · simp [z]
      omega
theorem sortG_F {L M : List (Nat × Rat)} (hl : L.length ≤ 1000) (hs : ∀ e ∈ L, e.1 < 1114112) (hM : (M.map (·.1)).Pairwise (· < ·)) (hp : M.Perm L) : sortedG [.lst (L.map enF)] = some (.L (M.map enF)) := by
  have nd : (L.map (·.1)).Nodup := ((hp.map (·.1)).nodup_iff).mp (List.nodup_iff_pairwise_ne.mpr (hM.imp fun q => Nat.ne_of_lt q))
  have inj : ∀ a ∈ L, ∀ b ∈ L, a.1 = b.1 → a = b := fun a ha b hb q => by
    false_or_by_contra
    rename_i w
    have p := List.pairwise_map.mp nd
    obtain ⟨i, hi, ei⟩ := List.mem_iff_getElem.mp ha
    obtain ⟨j, hj, ej⟩ := List.mem_iff_getElem.mp hb
    rcases Nat.lt_trichotomy i j with z | z | z
    · exact (List.pairwise_iff_getElem.mp p i j hi hj z) (by rw [ei, ej]; exact q)
    · subst z
      exact w (ei.symm.trans ej)
    · exact (List.pairwise_iff_getElem.mp p j i hj hi z) (by rw [ei, ej]; exact q.symm)
  have ok : sortOk (L.map enF) = true := by
    unfold sortOk
    simp only [Bool.and_eq_true, Bool.or_eq_true, List.all_eq_true, decide_eq_true_eq]
    refine ⟨fun x hx z hz => ?_, .inl fun x hx => ?_, fun x hx => ?_, ?_⟩
    · obtain ⟨e, _, rfl⟩ := List.mem_map.mp hx
      obtain ⟨f, _, rfl⟩ := List.mem_map.mp hz
      exact alike_F e f
    · obtain ⟨e, _, rfl⟩ := List.mem_map.mp hx
      rfl
    · obtain ⟨e, he, rfl⟩ := List.mem_map.mp hx
      have := hs e he
      refine ⟨?_, by show max 0 (max (max 0 (max 0 0) + 1) 0) + 1 ≤ 8; decide⟩
      simp [enF, qD, D.toP, D.toPs, PyData.canLay0, PyData.canLayAll0, PyData.strOk, S]
      exact this
    · rw [List.length_map]
      exact Nat.le_trans hl (by decide)
  show (if sortOk (L.map enF) = true then some (OD.L ((L.map enF).mergeSort leT)) else none) = _
  rw [if_pos ok]
  have e : (L.map enF).mergeSort leT = (L.mergeSort fun a b => decide (a.1 ≤ b.1)).map enF := (List.map_mergeSort fun x hx z hz => (leT_F x z (inj x hx z hz)).symm).symm
  have p2 : (L.mergeSort fun a b => decide (a.1 ≤ b.1)).Perm M := (List.mergeSort_perm _ _).trans hp.symm
  have s2 : (L.mergeSort fun a b => decide (a.1 ≤ b.1)).Pairwise fun a b => decide (a.1 ≤ b.1) = true := List.pairwise_mergeSort (fun a b c h1 h2 => by simp at *; omega) (fun a b => by simp; omega) L
  have : (L.mergeSort fun a b => decide (a.1 ≤ b.1)) = M := by
    refine p2.eq_of_pairwise (le := fun a b => a.1 ≤ b.1) (fun a b ha hb h1 h2 => ?_) (s2.imp fun q => by simpa using q) ((List.pairwise_map.mp hM).imp fun q => Nat.le_of_lt q)
    exact inj a ((List.mergeSort_perm _ _).mem_iff.mp ha) b (hp.mem_iff.mp hb) (Nat.le_antisymm h1 h2)
  rw [e, this]
/-- what follows a sign -/
def nextL (b : Bk) (s : Nat) : List (Nat × Rat) := (b.filter fun e => decide (e.1.1 = s)).map fun e => (e.1.2, shareQ b e.1)
theorem next_eq {b : Bk} (h : BookOk b) {s : Nat} (hs : s ∈ 60 :: smallL) : F_next_signs [bkD b, .str (S [s])] = .ok (.lst ((nextL b s).map enF)) := by
  rw [next_signs_eq h hs]
  unfold nextD nextL
  rw [List.map_map]
  congr 2
  refine List.map_congr_left fun e _ => ?_
  simp [enF, share_fq h]
theorem next_srt {b : Bk} (h : BookOk b) (s : Nat) : ((nextL b s).map (·.1)).Pairwise (· < ·) := by
  unfold nextL
  rw [List.map_map, List.pairwise_map]
  have := List.pairwise_map.mp h.srt
  rw [List.pairwise_filter]
  refine this.imp fun {x z} q h1 h2 => ?_
  simp at h1 h2
  unfold ltP at q
  show x.1.2 < z.1.2
  omega
theorem next_perm {b : Bk} (h : BookOk b) {s : Nat} (hs : s ∈ 60 :: smallL) : (nextL b s).Perm (((othL s).filter fun c => decide (0 < (shareQ b (s, c)).num)).map fun c => (c, shareQ b (s, c))) := by
  have n1 : (nextL b s).Nodup := (List.pairwise_map.mp (next_srt h s)).imp fun q w => by rw [w] at q; exact Nat.lt_irrefl _ q
  have n2 : (((othL s).filter fun c => decide (0 < (shareQ b (s, c)).num)).map fun c => (c, shareQ b (s, c))).Nodup := by
    exact List.pairwise_map.mpr ((List.Pairwise.filter _ (oth_nodup s)).imp fun q w => q (by simpa using congrArg Prod.fst w))
  refine (List.perm_ext_iff_of_nodup n1 n2).mpr fun x => ?_
  unfold nextL
  rw [List.mem_map, List.mem_map]
  constructor
  · rintro ⟨e, he, rfl⟩
    have h1 := List.mem_filter.mp he
    have h2 : e.1.1 = s := by simpa using h1.2
    have h3 := h.low e h1.1
    have h4 := cnt_mem h.toSrt.nodup h1.1
    have h5 := h.prs e h1.1
    have h6 : (s, e.1.2) = e.1 := by rw [← h2]
    refine ⟨e.1.2, List.mem_filter.mpr ⟨(oth_mem hs).mpr (by rw [← h2]; exact h5), ?_⟩, by rw [h6]⟩
    rw [h6, decide_eq_true_iff, share_pos_iff h, h4]
    omega
  · rintro ⟨c, hc, rfl⟩
    have h1 := List.mem_filter.mp hc
    have h2 : 0 < (shareQ b (s, c)).num := by simpa using h1.2
    rw [share_pos_iff h] at h2
    have h3 : (s, c) ∈ b.map (·.1) := by
      false_or_by_contra
      rename_i q
      rw [cnt_none q] at h2
      omega
    obtain ⟨e, he, q⟩ := List.mem_map.mp h3
    exact ⟨e, List.mem_filter.mpr ⟨he, by rw [q]; simp⟩, by rw [q]⟩
theorem over_share {b : Bk} (h : BookOk b) {m : Int} (hm : 0 < m) (k : Pr) : shareQ (overB b m) k = shareQ b k := by
  have e1 := cnt_over h m k
  have e2 : behind (overB b m) k.1 = behind b k.1 * m := by
    clear e1 h
    induction b with
    | nil => simp [overB, behind, sumB]
    | cons e b ih =>
      show behind ((e.1, e.2 * m) :: overB b m) k.1 = _
      rw [behind_cons, behind_cons, ih, Int.add_mul]
      congr 1
      dsimp only
      split
      · rfl
      · omega
  unfold shareQ
  rw [e1, e2, Rat.intCast_mul, Rat.intCast_mul]
  have : (m : Rat) ≠ 0 := fun z => by
    have := Rat.intCast_inj.mp (show (m : Rat) = ((0 : Int) : Rat) from z)
    omega
  generalize (m : Rat) = x at *
  generalize (cnt b k : Rat) = y at *
  generalize (behind b k.1 : Rat) = z at *
  by_cases hz : z = 0
  · subst hz
    rw [Rat.zero_mul, Rat.div_def, Rat.div_def, Rat.inv_zero, Rat.mul_zero, Rat.mul_zero]
  · grind
theorem over_next {b : Bk} (h : BookOk b) {m : Int} (hm : 0 < m) (s : Nat) : nextL (overB b m) s = nextL b s := by
  unfold nextL
  have : ((overB b m).filter fun e => decide (e.1.1 = s)) = (b.filter fun e => decide (e.1.1 = s)).map fun e => (e.1, e.2 * m) := by
    unfold overB
    rw [List.filter_map]
    rfl
  rw [this, List.map_map]
  refine List.map_congr_left fun e _ => ?_
  simp [over_share h hm]
theorem shaped_pu {x : D} (h : pu x = true) (d : dpt x ≤ 64) : SeqAt.shaped x.toP = true := by
  have a := pu_lay h
  simp [SeqAt.shaped, a.1, a.2, d]
theorem in_pu {α : Type} {enc : α → D} {x : α} {l : List α} [DecidableEq α] (neg : Bool) (hi : ∀ a b, enc a = enc b → a = b) (hx : pu (enc x) = true) (hl : ∀ a ∈ l, pu (enc a) = true) (dx : dpt (enc x) ≤ 60) (dl : ∀ a ∈ l, dpt (enc a) ≤ 60) :
    inDD neg (enc x) (.lst (l.map enc)) = some (.bl (if neg = true then !decide (x ∈ l) else decide (x ∈ l))) := by
  have h1 : puL (l.map enc) = true ∧ dptL (l.map enc) ≤ 60 ∧ ((D.toPs (l.map enc)).any fun z => PyData.eqv z (enc x).toP) = decide (x ∈ l) := by
    induction l with
    | nil => simp [puL, dptL, D.toPs]
    | cons a l ih =>
      have i := ih (fun b m => hl b (List.mem_cons_of_mem _ m)) (fun b m => dl b (List.mem_cons_of_mem _ m))
      have p1 := hl a (List.mem_cons_self ..)
      have p2 := dl a (List.mem_cons_self ..)
      refine ⟨by simp [puL, p1, i.1], by have := i.2.1; simp only [List.map_cons, dptL]; omega, ?_⟩
      have e : PyData.eqv (enc a).toP (enc x).toP = decide (x = a) := by
        rw [Bool.eq_iff_iff, eqv_pu p1 hx, decide_eq_true_iff]
        exact ⟨fun q => (hi _ _ q).symm, fun q => by rw [q]⟩
      show (PyData.eqv (enc a).toP (enc x).toP || (D.toPs (l.map enc)).any fun z => PyData.eqv z (enc x).toP) = _
      rw [e, i.2.2]
      simp
  have s1 := shaped_pu hx (by omega)
  have s2 := shaped_pu (x := .lst (l.map enc)) (by simpa [pu] using h1.1) (by simp only [dpt]; omega)
  show (if SeqAt.shaped (enc x).toP = true ∧ SeqAt.shaped (D.lst (l.map enc)).toP = true then some (D.bl (if neg = true then !(D.toPs (l.map enc)).any (fun z => PyData.eqv z (enc x).toP) else (D.toPs (l.map enc)).any fun z => PyData.eqv z (enc x).toP)) else none) = _
  rw [if_pos ⟨s1, s2⟩, h1.2.2]
theorem in_q (neg : Bool) (q : Rat) (l : List Rat) : inDD neg (qD q) (.lst (l.map qD)) = some (.bl (if neg = true then !decide (q ∈ l) else decide (q ∈ l))) :=
  in_pu neg (fun _ _ => qD_inj) (qD_pu q).1 (fun a _ => (qD_pu a).1) (by simp [(qD_pu q).2]) (fun a _ => by simp [(qD_pu a).2])
theorem zipD_same {α : Type} (f g : α → D) : ∀ l : List α, zipD (l.map f) (l.map g) = l.map fun a => .pr [f a, g a]
  | [] => rfl
  | a :: l => by
    show D.pr [f a, g a] :: zipD (l.map f) (l.map g) = _
    rw [zipD_same f g l]
    rfl
theorem pu_F {L : List (Nat × Rat)} (h : ∀ e ∈ L, e.1 < 1114112) : pu (.lst (L.map enF)) = true ∧ dpt (.lst (L.map enF)) ≤ 60 := by
  have : puL (L.map enF) = true ∧ dptL (L.map enF) ≤ 2 := by
    induction L with
    | nil => simp [puL, dptL]
    | cons a l ih =>
      have i := ih (fun b m => h b (List.mem_cons_of_mem _ m))
      have := h a (List.mem_cons_self ..)
      refine ⟨by simp [puL, i.1, enF, pu, qD, PyData.strOk, S, this], ?_⟩
      have e : dpt (enF a) = 2 := by simp [enF, dpt, dptL, qD]
      have := i.2
      simp only [List.map_cons, dptL, e]
      omega
  refine ⟨by simpa [pu] using this.1, ?_⟩
  have := this.2
  simp only [dpt]
  omega
theorem foldl_min_ge : ∀ (xs : List Int) (x z : Int), z ≤ x → (∀ w ∈ xs, z ≤ w) → z ≤ xs.foldl min x
  | [], x, z, h, _ => h
  | w :: xs, x, z, h, h2 => foldl_min_ge xs (min x w) z (by have := h2 w (List.mem_cons_self ..); omega) fun u hu => h2 u (List.mem_cons_of_mem _ hu)
end PG

/-! the plain law: the laws' own share, chance, sum; products of fractions; keys, sorted, each once; apart -/
namespace PG
open PySem PySem.Spec PyProof.Rows L2 VL
theorem cnt_snoc {b : Bk} (e : Pr × Int) (hn : ((b ++ [e]).map (·.1)).Nodup) (k : Pr) : cnt (b ++ [e]) k = if e.1 = k then e.2 else cnt b k := by
  unfold cnt
  rw [look_app]
  by_cases h : e.1 = k
  · have : lookP b k = none := look_none.mpr fun q => by
      rw [List.map_append, List.nodup_append] at hn
      exact hn.2.2 _ q _ (by simp) h.symm
    rw [this, look_cons, if_pos h, if_pos h]
    rfl
  · rw [look_cons, if_neg h, if_neg h]
    cases lookP b k <;> rfl
theorem behind_snoc (b : Bk) (e : Pr × Int) (s : Nat) : behind (b ++ [e]) s = behind b s + if e.1.1 = s then e.2 else 0 := by
  unfold behind sumB
  rw [List.filter_append, List.map_append, List.sum_append]
  by_cases h : e.1.1 = s
  · simp [h]
  · simp [h]
theorem share_frq {b : Bk} (h : BookOk b) (k : Pr) : F_share_of [bkD b, .str (keyS k)] = .ok (qD (shareQ b k)) := by
  rw [share_of_eq h k, share_fq h]
theorem log_small {d : Int} (h0 : 0 ≤ d) (h : d ≤ 100000) : d.natAbs.log2 < 9000 := by
  have := log2_of_lt (x := d.natAbs) (k := 17) (by omega) (by omega)
  omega
theorem law_share_q {b : Bk} (h : BookOk b) (k : Pr) (soft : Bool) : F__law_share [bkD b, .str (keyS k), .bl soft] = .ok (qD (if soft then softQ b k else shareQ b k)) := by
  have hb := behind_le h k.1
  have h3 := cnt_nonneg (fun e m => (h.range e m).1) k
  refine fi_run (show Fi _ (g__law_share [.dat (bkD b), .dat (.str (keyS k)), .dat (.bl soft), .no, .no, .no, .no]) from ?_)
  rw [g__law_share]
  refine p_seq (ρ1 := [.dat (bkD b), .dat (.str (keyS k)), .dat (.bl soft), .dat (.int (behind [] k.1)), .dat (.int (cnt [] k)), .no, .no]) (by simp -implicitDefEqProofs (disch := omega) [szB_ok, rngB_ok, behind, sumB, cnt, lookP]) ?_
  have ei : anyI (bkD b) = some (b.map enD) := rfl
  refine p_for enD b (ρ1 := [.dat (bkD b), .dat (.str (keyS k)), .dat (.bl soft), .dat (.int (behind [] k.1)), .dat (.int (cnt [] k)), .no, .no]) (by simp -implicitDefEqProofs (disch := omega) [szB_ok, rngB_ok, ei])
    (fun pre ρ => ∃ x5 x6 : VL.Slot, ρ = [.dat (bkD b), .dat (.str (keyS k)), .dat (.bl soft), .dat (.int (behind pre k.1)), .dat (.int (cnt pre k)), x5, x6])
    (fun pre e post ρ el ⟨x5, x6, hi⟩ => ?_) ⟨_, _, rfl⟩ fun ρ' ⟨x5, x6, hi⟩ => ?_
  · subst hi
    have hn : ((pre ++ [e]).map (·.1)).Nodup := by
      have := h.toSrt.nodup
      rw [el, show pre ++ e :: post = (pre ++ [e]) ++ post by simp, List.map_append, List.nodup_append] at this
      exact this.1
    refine ⟨[.dat (bkD b), .dat (.str (keyS k)), .dat (.bl soft), .dat (.int (behind pre k.1)), .dat (.int (cnt pre k)), .dat (.str (keyS e.1)), .dat (.int e.2)], by simp [enD], ?_⟩
    refine nx_of (ρ := [.dat (bkD b), .dat (.str (keyS k)), .dat (.bl soft), .dat (.int (behind (pre ++ [e]) k.1)), .dat (.int (cnt (pre ++ [e]) k)), .dat (.str (keyS e.1)), .dat (.int e.2)]) ?_ ⟨_, _, rfl⟩
    rw [behind_snoc, cnt_snoc e hn]
    refine (sq_eq (ρ1 := [.dat (bkD b), .dat (.str (keyS k)), .dat (.bl soft), .dat (.int (behind pre k.1 + if e.1.1 = k.1 then e.2 else 0)), .dat (.int (cnt pre k)), .dat (.str (keyS e.1)), .dat (.int e.2)]) ?_).trans ?_
    · by_cases q : e.1.1 = k.1
      · simp -implicitDefEqProofs (disch := omega) [szB_ok, rngB_ok, keyS, q]
      · simp -implicitDefEqProofs (disch := omega) [szB_ok, rngB_ok, keyS, q, S_one]
    · by_cases q : e.1 = k
      · simp -implicitDefEqProofs (disch := omega) [szB_ok, rngB_ok, q]
      · simp -implicitDefEqProofs (disch := omega) [szB_ok, rngB_ok, q]
  · subst hi
    cases soft with
    | true =>
      have e := lowest_q (cnt b k + 1) (behind b k.1 + (ways k.1 : Nat)) (by unfold ways; split <;> omega) (log_small (by omega) (by unfold ways; split <;> omega))
      rw [← low_lowq] at e
      by_cases q : k.1 = 60
      · have w : (ways k.1 : Int) = 26 := by simp [ways, q]
        rw [w] at e
        refine fi_of ?_
        simp only [q] at e
        simp -implicitDefEqProofs (disch := omega) [szB_ok, rngB_ok, keyS, lit_lt, q, S_one, e]
        simp [softQ, ways, q]
      · have w : (ways k.1 : Int) = 27 := by simp [ways, q]
        rw [w] at e
        refine fi_of ?_
        simp -implicitDefEqProofs (disch := omega) [szB_ok, rngB_ok, keyS, lit_lt, q, S_one, e]
        simp [softQ, ways, q]
    | false =>
      by_cases q : 0 < behind b k.1
      · have e := lowest_q (cnt b k) (behind b k.1) q (log_small (by omega) (by omega))
        rw [← low_lowq] at e
        refine fi_of ?_
        simp -implicitDefEqProofs (disch := omega) [szB_ok, rngB_ok, q]
        rw [e]
        rfl
      · have q0 : behind b k.1 = 0 := by omega
        have e : shareQ b k = 0 := by
          unfold shareQ
          rw [q0]
          rw [Rat.intCast_zero, Rat.div_def, Rat.inv_zero, Rat.mul_zero]
        refine fi_of ?_
        simp -implicitDefEqProofs (disch := omega) [szB_ok, rngB_ok, q, e, zero_q]
/-! products -/
def prodQ (qs : List Rat) : Rat := qs.foldl (· * ·) 1
theorem prodQ_snoc (qs : List Rat) (q : Rat) : prodQ (qs ++ [q]) = prodQ qs * q := by simp [prodQ, List.foldl_append]
theorem prodQ_bd' {m : Nat} : ∀ {qs : List Rat}, (∀ q ∈ qs, Bd m q) → ∀ (a : Rat) (n : Nat), Bd n a → Bd (n + m * qs.length) (qs.foldl (· * ·) a)
  | [], _, a, n, h => h
  | q :: qs, hq, a, n, h => by
    have := prodQ_bd' (fun x hx => hq x (List.mem_cons_of_mem _ hx)) (a * q) (n + m) (h.mul (hq q (List.mem_cons_self ..)))
    refine this.mono ?_
    rw [List.length_cons, Nat.mul_succ]
    omega
theorem prodQ_bd {m : Nat} {qs : List Rat} (h : ∀ q ∈ qs, Bd m q) : Bd (m * qs.length + 1) (prodQ qs) :=
  (prodQ_bd' h 1 1 (Bd.one _ (by omega))).mono (by omega)
theorem product_q {m : Nat} {qs : List Rat} (h : ∀ q ∈ qs, Bd m q) (hl : m * qs.length ≤ 8000) (hm : m ≤ 900) (hl2 : qs.length ≤ 1000) : F_product [.lst (qs.map qD)] = .ok (qD (prodQ qs)) := by
  refine fi_run (show Fi _ (g_product [.dat (.lst (qs.map qD)), .no, .no, .no]) from ?_)
  rw [g_product]
  refine p_seq (ρ1 := [.dat (.lst (qs.map qD)), .dat (.int (prodQ []).num), .dat (.int ((prodQ []).den : Int)), .no]) (by simp -implicitDefEqProofs (disch := omega) [szB_ok, rngB_ok, prodQ]) ?_
  refine p_for qD qs (ρ1 := [.dat (.lst (qs.map qD)), .dat (.int (prodQ []).num), .dat (.int ((prodQ []).den : Int)), .no]) (by simp -implicitDefEqProofs (disch := omega) [szB_ok, rngB_ok])
    (fun pre ρ => ∃ x : VL.Slot, ρ = [.dat (.lst (qs.map qD)), .dat (.int (prodQ pre).num), .dat (.int ((prodQ pre).den : Int)), x])
    (fun pre q post ρ el ⟨x, hi⟩ => ?_) ⟨_, rfl⟩ fun ρ' ⟨x, hi⟩ => ?_
  · subst hi
    have b1 := prodQ_bd (m := m) (qs := pre) fun x hx => h x (by rw [el]; simp [hx])
    have b2 := h q (by rw [el]; simp)
    have hle : m * pre.length ≤ m * qs.length := Nat.mul_le_mul_left _ (by rw [el]; simp)
    have m1 := b1.mulB_nn b2 (by omega)
    have m2 := b1.mulB_dd b2 (by omega)
    have e := lowest_q ((prodQ pre).num * q.num) ((prodQ pre).den * q.den) (dd_pos _ q) (b1.dd_log b2 (by omega) (by omega))
    rw [← times_q_eq] at e
    refine ⟨[.dat (.lst (qs.map qD)), .dat (.int (prodQ pre).num), .dat (.int ((prodQ pre).den : Int)), .dat (qD q)], rfl, ?_⟩
    refine nx_of (ρ := [.dat (.lst (qs.map qD)), .dat (.int (prodQ (pre ++ [q])).num), .dat (.int ((prodQ (pre ++ [q])).den : Int)), .dat (qD q)]) ?_ ⟨_, rfl⟩
    rw [prodQ_snoc]
    simp -implicitDefEqProofs (disch := omega) [szB_ok, rngB_ok, qD, m1, m2, e]
  · subst hi
    exact fi_of (by simp -implicitDefEqProofs (disch := omega) [szB_ok, rngB_ok, qD])
/-! chances -/
def chanceQ (b : Bk) (n : List Nat) : Rat := prodQ ((prs n).map (shareQ b))
def softChQ (b : Bk) (n : List Nat) : Rat := prodQ ((prs n).map (softQ b))
theorem chance_bd {b : Bk} (h : BookOk b) {n : List Nat} (hn : n.length ≤ 6) : Bd 120 (chanceQ b n) := by
  refine (prodQ_bd (m := 17) (qs := (prs n).map (shareQ b)) fun q hq => ?_).mono ?_
  · obtain ⟨k, _, rfl⟩ := List.mem_map.mp hq
    exact share_bd h k
  · rw [List.length_map, prs_len]
    omega
theorem softCh_bd {b : Bk} (h : BookOk b) {n : List Nat} (hn : n.length ≤ 6) : Bd 120 (softChQ b n) := by
  refine (prodQ_bd (m := 17) (qs := (prs n).map (softQ b)) fun q hq => ?_).mono ?_
  · obtain ⟨k, _, rfl⟩ := List.mem_map.mp hq
    exact soft_bd h k
  · rw [List.length_map, prs_len]
    omega
theorem chance_of_q {b : Bk} (h : BookOk b) {n : List Nat} (hn : n.length ≤ 200) : F_chance_of [bkD b, .str (S n)] = .ok (qD (chanceQ b n)) := by
  have e1 := pairs_in_eq (l := n) (by omega)
  have e3 := product_q (m := 17) (qs := (prs n).map (shareQ b)) (fun q hq => by obtain ⟨k, _, rfl⟩ := List.mem_map.mp hq; exact share_bd h k) (by rw [List.length_map, prs_len]; omega) (by omega) (by rw [List.length_map, prs_len]; omega)
  rw [List.map_map] at e3
  simp -implicitDefEqProofs (disch := omega) [szB_ok, rngB_ok, F_chance_of, g_chance_of, runD_eq, e1]
  rw [lc_map [.dat (bkD b), .dat (.str (S n)), .no] (fun k => qD (shareQ b k))]
  · have e2 : (prs n).map (fun k => qD (shareQ b k)) = (prs n).map (qD ∘ shareQ b) := rfl
    simp -implicitDefEqProofs (disch := omega) [szB_ok, rngB_ok, e2, e3, chanceQ]
  · intro k hk
    simp -implicitDefEqProofs (disch := omega) [szB_ok, rngB_ok, share_frq h k]
  all_goals try simp
  rw [prs_len]
  omega
theorem soft_chance_of_q {b : Bk} (h : BookOk b) {n : List Nat} (hn : n.length ≤ 200) : F_soft_chance_of [bkD b, .str (S n)] = .ok (qD (softChQ b n)) := by
  have e1 := pairs_in_eq (l := n) (by omega)
  have e3 := product_q (m := 17) (qs := (prs n).map (softQ b)) (fun q hq => by obtain ⟨k, _, rfl⟩ := List.mem_map.mp hq; exact soft_bd h k) (by rw [List.length_map, prs_len]; omega) (by omega) (by rw [List.length_map, prs_len]; omega)
  rw [List.map_map] at e3
  simp -implicitDefEqProofs (disch := omega) [szB_ok, rngB_ok, F_soft_chance_of, g_soft_chance_of, runD_eq, e1]
  rw [lc_map [.dat (bkD b), .dat (.str (S n)), .no] (fun k => qD (softQ b k))]
  · have e2 : (prs n).map (fun k => qD (softQ b k)) = (prs n).map (qD ∘ softQ b) := rfl
    simp -implicitDefEqProofs (disch := omega) [szB_ok, rngB_ok, e2, e3, softChQ]
  · intro k hk
    have := soft_of_eq h k
    rw [soft_fq h] at this
    simp -implicitDefEqProofs (disch := omega) [szB_ok, rngB_ok, this]
  all_goals try simp
  rw [prs_len]
  omega
theorem chance_q {b : Bk} (h : BookOk b) {n : List Nat} (hn : nameOk n = true) : F_chance [bkD b, .str (S n)] = .ok (qD (chanceQ b n)) := by
  have h1 := nameOk_len hn
  simp -implicitDefEqProofs (disch := omega) [szB_ok, rngB_ok, F_chance, g_chance, runD_eq, h, hn, chance_of_q h (show n.length ≤ 200 by omega)]
theorem soft_chance_q {b : Bk} (h : BookOk b) {n : List Nat} (hn : nameOk n = true) : F_soft_chance [bkD b, .str (S n)] = .ok (qD (softChQ b n)) := by
  have h1 := nameOk_len hn
  simp -implicitDefEqProofs (disch := omega) [szB_ok, rngB_ok, F_soft_chance, g_soft_chance, runD_eq, h, hn, soft_chance_of_q h (show n.length ≤ 200 by omega)]
/-! unreduced fractions -/
structure Un (m : Nat) (u d : Int) (q : Rat) : Prop where
  pos : 0 < d
  up : u.natAbs < 2 ^ m
  dn : d.natAbs < 2 ^ m
  eq : (u : Rat) / d = q
theorem Un.one (m : Nat) (hm : 0 < m) : Un m 1 1 1 := ⟨by decide, Nat.one_lt_two_pow (by omega), Nat.one_lt_two_pow (by omega), by decide +kernel⟩
theorem Un.zero (m : Nat) (hm : 0 < m) : Un m 0 1 0 := ⟨by decide, Nat.pow_pos (by decide), Nat.one_lt_two_pow (by omega), by decide +kernel⟩
theorem Un.ne {m : Nat} {u d : Int} {q : Rat} (h : Un m u d q) : (d : Rat) ≠ 0 := fun w => by
  have := h.pos
  have : d = 0 := Rat.intCast_eq_zero_iff.mp w
  omega
theorem Un.low {m : Nat} {u d : Int} {q : Rat} (h : Un m u d q) (hm : m ≤ 9000) (h0 : 0 < m) : F__law_low [.int u, .int d] = .ok (qD q) := by
  have e := lowest_q u d h.pos (by have := log2_of_lt h.dn h0; omega)
  rw [low_lowq, e, h.eq]
theorem Un.mul {m n : Nat} {u d : Int} {p q : Rat} (h : Un m u d p) (h2 : Bd n q) : Un (m + n) (u * q.num) (d * q.den) (p * q) where
  pos := Int.mul_pos h.pos (by have := q.den_pos; omega)
  up := by rw [Int.natAbs_mul]; exact lt_two_mul h.up h2.1
  dn := by rw [Int.natAbs_mul]; exact lt_two_mul h.dn (by simpa using h2.2)
  eq := by
    rw [Rat.intCast_mul, Rat.intCast_mul, num_eq q, ← h.eq]
    have := h.ne
    have := den_ne q
    generalize ((q.den : Int) : Rat) = x at *
    grind
theorem Un.add {m n : Nat} {u d : Int} {p q : Rat} (h : Un m u d p) (h2 : Bd n q) : Un (m + n + 1) (u * q.den + q.num * d) (d * q.den) (p + q) where
  pos := Int.mul_pos h.pos (by have := q.den_pos; omega)
  up := by
    have a : (u * (q.den : Int)).natAbs < 2 ^ (m + n) := by rw [Int.natAbs_mul]; exact lt_two_mul h.up (by simpa using h2.2)
    have b : (q.num * d).natAbs < 2 ^ (m + n) := by rw [Int.natAbs_mul, Nat.mul_comm]; exact lt_two_mul h.dn h2.1
    rw [Nat.pow_succ]
    omega
  dn := by
    have a : (d * (q.den : Int)).natAbs < 2 ^ (m + n) := by rw [Int.natAbs_mul]; exact lt_two_mul h.dn (by simpa using h2.2)
    rw [Nat.pow_succ]
    omega
  eq := by
    rw [Rat.intCast_mul, Rat.intCast_add, Rat.intCast_mul, Rat.intCast_mul, num_eq q, ← h.eq]
    have := h.ne
    have := den_ne q
    generalize ((q.den : Int) : Rat) = x at *
    grind
theorem law_chance_q {b : Bk} (h : BookOk b) {n : List Nat} (hn : n.length ≤ 200) (soft : Bool) : F__law_chance [bkD b, .str (S n), .bl soft] = .ok (qD (if soft then softChQ b n else chanceQ b n)) := by
  have e1 := law_pairs_eq (l := n) (by omega)
  have ef : (if soft then softChQ b n else chanceQ b n) = prodQ ((prs n).map fun k => if soft then softQ b k else shareQ b k) := by cases soft <;> rfl
  have hb : ∀ k, Bd 17 (if soft then softQ b k else shareQ b k) := fun k => by
    cases soft
    · exact share_bd h k
    · exact soft_bd h k
  have ee := fun k => law_share_q h k soft
  rw [ef]
  generalize hf : (fun k => if soft then softQ b k else shareQ b k) = f at *
  replace hb : ∀ k, Bd 17 (f k) := fun k => by rw [← hf]; exact hb k
  replace ee : ∀ k, F__law_share [bkD b, .str (keyS k), .bl soft] = .ok (qD (f k)) := fun k => by rw [← hf]; exact ee k
  refine fi_run (show Fi _ (g__law_chance [.dat (bkD b), .dat (.str (S n)), .dat (.bl soft), .no, .no, .no, .no]) from ?_)
  rw [g__law_chance]
  refine p_seq (ρ1 := [.dat (bkD b), .dat (.str (S n)), .dat (.bl soft), .dat (.int 1), .dat (.int 1), .no, .no]) (by simp -implicitDefEqProofs (disch := omega) [szB_ok, rngB_ok]) ?_
  refine p_for (fun k => D.str (keyS k)) (prs n) (ρ1 := [.dat (bkD b), .dat (.str (S n)), .dat (.bl soft), .dat (.int 1), .dat (.int 1), .no, .no]) (by simp -implicitDefEqProofs (disch := omega) [szB_ok, rngB_ok, e1])
    (fun pre ρ => ∃ (x5 x6 : VL.Slot) (u d : Int), Un (17 * pre.length + 1) u d (prodQ (pre.map f)) ∧ ρ = [.dat (bkD b), .dat (.str (S n)), .dat (.bl soft), .dat (.int u), .dat (.int d), x5, x6])
    (fun pre k post ρ el ⟨x5, x6, u, d, hu, hi⟩ => ?_) ⟨_, _, _, _, Un.one _ (by omega), rfl⟩ fun ρ' ⟨x5, x6, u, d, hu, hi⟩ => ?_
  · subst hi
    have hlen : pre.length ≤ n.length := by
      have := congrArg List.length el
      rw [prs_len] at this
      simp at this
      omega
    have b2 := hb k
    have m1 : mulB u (f k).num = true := mulB_pow hu.up b2.1 (by omega)
    have m2 : mulB d ((f k).den : Int) = true := mulB_pow hu.dn (n := 17) (by simpa using b2.2) (by omega)
    refine ⟨[.dat (bkD b), .dat (.str (S n)), .dat (.bl soft), .dat (.int u), .dat (.int d), .dat (.str (keyS k)), x6], rfl, ?_⟩
    refine nx_of (ρ := [.dat (bkD b), .dat (.str (S n)), .dat (.bl soft), .dat (.int (u * (f k).num)), .dat (.int (d * (f k).den)), .dat (.str (keyS k)), .dat (qD (f k))]) ?_ ⟨_, _, _, _, ?_, rfl⟩
    · refine (sq_eq (ρ1 := [.dat (bkD b), .dat (.str (S n)), .dat (.bl soft), .dat (.int u), .dat (.int d), .dat (.str (keyS k)), .dat (qD (f k))]) (by simp -implicitDefEqProofs (disch := omega) [szB_ok, rngB_ok, ee])).trans ?_
      simp -implicitDefEqProofs (disch := omega) [szB_ok, rngB_ok, qD, m1, m2]
    · rw [List.map_append, List.map_singleton, prodQ_snoc]
      have := hu.mul b2
      have e : 17 * (pre ++ [k]).length + 1 = 17 * pre.length + 1 + 17 := by simp; omega
      rw [e]
      exact this
  · subst hi
    have := hu.low (by rw [prs_len]; omega) (by omega)
    exact fi_of (by simp -implicitDefEqProofs (disch := omega) [szB_ok, rngB_ok, this])
theorem law_sum_q {m : Nat} {qs : List Rat} (hm : m ≤ 100) (h : ∀ q ∈ qs, Bd m q) (hl : qs.length ≤ 60) : F__law_sum [.lst (qs.map qD)] = .ok (qD qs.sum) := by
  refine fi_run (show Fi _ (g__law_sum [.dat (.lst (qs.map qD)), .no, .no, .no]) from ?_)
  rw [g__law_sum]
  have hle : (m + 1) * qs.length ≤ 101 * 60 := Nat.mul_le_mul (by omega) hl
  refine p_seq (ρ1 := [.dat (.lst (qs.map qD)), .dat (.int 0), .dat (.int 1), .no]) (by simp -implicitDefEqProofs (disch := omega) [szB_ok, rngB_ok]) ?_
  refine p_for qD qs (ρ1 := [.dat (.lst (qs.map qD)), .dat (.int 0), .dat (.int 1), .no]) (by simp -implicitDefEqProofs (disch := omega) [szB_ok, rngB_ok])
    (fun pre ρ => ∃ (x : VL.Slot) (u d : Int), Un ((m + 1) * pre.length + 1) u d pre.sum ∧ ρ = [.dat (.lst (qs.map qD)), .dat (.int u), .dat (.int d), x])
    (fun pre q post ρ el ⟨x, u, d, hu, hi⟩ => ?_) ⟨_, _, _, Un.zero _ (by omega), rfl⟩ fun ρ' ⟨x, u, d, hu, hi⟩ => ?_
  · subst hi
    have b2 := h q (by rw [el]; simp)
    have hle2 : (m + 1) * pre.length ≤ (m + 1) * qs.length := Nat.mul_le_mul_left _ (by rw [el]; simp)
    have m1 : mulB u (q.den : Int) = true := mulB_pow hu.up (n := m) (by simpa using b2.2) (by omega)
    have m2 : mulB q.num d = true := mulB_pow b2.1 hu.dn (by omega)
    have m3 : mulB d (q.den : Int) = true := mulB_pow hu.dn (n := m) (by simpa using b2.2) (by omega)
    refine ⟨[.dat (.lst (qs.map qD)), .dat (.int u), .dat (.int d), .dat (qD q)], rfl, ?_⟩
    refine nx_of (ρ := [.dat (.lst (qs.map qD)), .dat (.int (u * q.den + q.num * d)), .dat (.int (d * q.den)), .dat (qD q)]) (by simp -implicitDefEqProofs (disch := omega) [szB_ok, rngB_ok, qD, m1, m2, m3]) ⟨_, _, _, ?_, rfl⟩
    rw [List.sum_append, List.sum_singleton]
    have := hu.add b2
    have e : (m + 1) * (pre ++ [q]).length + 1 = (m + 1) * pre.length + 1 + m + 1 := by rw [List.length_append, Nat.mul_add]; simp; omega
    rw [e]
    exact this
  · subst hi
    have := hu.low (by omega) (by omega)
    exact fi_of (by simp -implicitDefEqProofs (disch := omega) [szB_ok, rngB_ok, this])
end PG

/-! the plain law: keys sorted, each once; apart -/
namespace PG
open PySem PySem.Spec PyProof.Rows L2 VL
def ddP : List Pr → List Pr
  | [] => []
  | a :: l => if a ∈ l then ddP l else a :: ddP l
theorem ddP_mem {c : Pr} : ∀ {l : List Pr}, c ∈ ddP l ↔ c ∈ l
  | [] => Iff.rfl
  | a :: l => by
    unfold ddP
    split
    · rename_i h
      rw [ddP_mem, List.mem_cons]
      exact ⟨.inr, fun q => q.elim (fun w => w ▸ h) id⟩
    · rw [List.mem_cons, List.mem_cons, ddP_mem]
theorem ddP_nodup : ∀ l : List Pr, (ddP l).Nodup
  | [] => List.nodup_nil
  | a :: l => by
    unfold ddP
    split
    · exact ddP_nodup l
    · rename_i h
      exact List.nodup_cons.mpr ⟨fun q => h (ddP_mem.mp q), ddP_nodup l⟩
def setP (l : List Pr) : List Pr := sortP (ddP l)
theorem setP_mem {l : List Pr} {c : Pr} : c ∈ setP l ↔ c ∈ l := by
  unfold setP
  rw [(sortP_perm _).mem_iff, ddP_mem]
theorem setP_srt (l : List Pr) : (setP l).Pairwise ltP := sortP_strict (ddP_nodup l)
theorem setP_nodup (l : List Pr) : (setP l).Nodup := List.nodup_iff_pairwise_ne.mpr ((setP_srt l).imp fun q => ltP_ne q)
theorem setP_len (l : List Pr) : (setP l).length ≤ l.length := nodup_len (setP_nodup l) fun x hx => setP_mem.mp hx
theorem setP_congr {a b : List Pr} (h : ∀ k, k ∈ a ↔ k ∈ b) : setP a = setP b := by
  refine List.Perm.eq_of_pairwise (le := ltP) (fun x y _ _ p q => ?_) (setP_srt a) (setP_srt b) ((List.perm_ext_iff_of_nodup (setP_nodup a) (setP_nodup b)).mpr fun k => by rw [setP_mem, setP_mem, h])
  unfold ltP at p q
  omega
theorem set_key (l : List Pr) : setS (l.map keyS) = (setP l).map keyS := by
  refine (setS_is ?_ ?_ fun k => ?_).symm
  · rw [List.pairwise_map]
    refine (setP_srt l).imp fun {a b} q => ?_
    rw [leS_key]
    unfold ltP at q
    unfold leP
    rw [decide_eq_true_iff]
    omega
  · rw [List.nodup_iff_pairwise_ne, List.pairwise_map]
    exact (setP_srt l).imp fun q w => ltP_ne q (keyS_inj w)
  · constructor
    · intro h
      obtain ⟨e, he, rfl⟩ := List.mem_map.mp h
      exact List.mem_map_of_mem (setP_mem.mp he)
    · intro h
      obtain ⟨e, he, rfl⟩ := List.mem_map.mp h
      exact List.mem_map_of_mem (setP_mem.mpr he)
abbrev kyD (k : Pr) : D := .str (keyS k)
theorem sortset_key (l : List Pr) (hl : l.length ≤ 1000) : sortsetO [.lst (l.map kyD)] = some (.L ((setP l).map kyD)) := by
  show (strsD (l.map fun c => D.str (keyS c))).bind _ = _
  rw [strs_map keyS l]
  show (if (l.map keyS).length + 1 < scanBound then some (OD.L ((setS (l.map keyS)).map .str)) else none) = _
  rw [if_pos (by rw [List.length_map]; unfold scanBound; omega), set_key, List.map_map]
  rfl
/-! ### apart -/
def absQ (q : Rat) : Rat := if q < 0 then -q else q
theorem abs_q (p q : Rat) : absQ (p - q) = (((p.num * (q.den : Int) - q.num * (p.den : Int)).natAbs : Int) : Rat) / ((p.den * q.den : Int) : Rat) := by
  have e : p - q = ((p.num * (q.den : Int) - q.num * (p.den : Int) : Int) : Rat) / ((p.den * q.den : Int) : Rat) := by
    rw [Rat.intCast_sub, Rat.intCast_mul, Rat.intCast_mul, Rat.intCast_mul, num_eq p, num_eq q]
    have := den_ne p
    have := den_ne q
    generalize ((q.den : Int) : Rat) = x at *
    generalize ((p.den : Int) : Rat) = y at *
    grind
  have hd := dd_pos p q
  generalize p.num * (q.den : Int) - q.num * (p.den : Int) = u at *
  generalize (p.den * q.den : Int) = d at *
  have hdq : (0 : Rat) < (d : Rat) := Rat.intCast_lt_intCast.mpr hd
  have hs : (u : Rat) / (d : Rat) < 0 ↔ u < 0 := by
    constructor
    · intro w
      have : (u : Rat) < 0 := by
        have e2 : (u : Rat) = (u : Rat) / (d : Rat) * d := by grind
        rw [e2]
        generalize (u : Rat) / (d : Rat) = z at *
        generalize (d : Rat) = y at *
        have := Rat.mul_pos (a := -z) (b := y) (by grind) hdq
        grind
      exact Rat.intCast_lt_intCast.mp this
    · intro w
      have : (u : Rat) < 0 := Rat.intCast_lt_intCast.mpr w
      false_or_by_contra
      rename_i nz
      have e2 : (u : Rat) = (u : Rat) / (d : Rat) * d := by grind
      rw [e2] at this
      generalize (u : Rat) / (d : Rat) = z at *
      generalize (d : Rat) = y at *
      have := Rat.mul_nonneg (a := z) (b := y) (by grind) (by grind)
      grind
  rw [e]
  unfold absQ
  by_cases w : u < 0
  · rw [if_pos (hs.mpr w)]
    have : ((u.natAbs : Int) : Rat) = -(u : Rat) := by
      rw [show ((u.natAbs : Nat) : Int) = -u by omega, Rat.intCast_neg]
    rw [this]
    grind
  · rw [if_neg (fun x => w (hs.mp x))]
    rw [show ((u.natAbs : Nat) : Int) = u by omega]
theorem absQ_sub (p q : Rat) : absQ (p - q) = absQ (q - p) := by unfold absQ; grind
theorem absQ_zero {p q : Rat} : absQ (p - q) = 0 ↔ p = q := by unfold absQ; grind
theorem absQ_nonneg (q : Rat) : 0 ≤ absQ q := by unfold absQ; grind
section
variable {m n : Nat} {p q : Rat} (h1 : Bd m p) (h2 : Bd n q) (h : m + n ≤ 8000) (h0 : 0 < m + n)
include h1 h2 h h0
theorem step_q : F_lowest [.int (if p.num * (q.den : Int) - q.num * (p.den : Int) < 0 then -(p.num * (q.den : Int) - q.num * (p.den : Int)) else p.num * (q.den : Int) - q.num * (p.den : Int)), .int (p.den * q.den)] = .ok (qD (absQ (p - q))) := by
  have e := lowest_q ((p.num * (q.den : Int) - q.num * (p.den : Int)).natAbs : Int) (p.den * q.den) (dd_pos p q) (h1.dd_log h2 (by omega) h0)
  rw [abs_q, ← e]
  congr 3
  split <;> omega
theorem absQ_bd : Bd (m + n + 1) (absQ (p - q)) := by
  have e : p - q = p + -q := by grind
  have b := h1.add h2.neg
  rw [← e] at b
  unfold absQ
  split
  · exact b.neg
  · exact b
end
/-- the pair where shares differ most, and by how much: the first of them -/
def stepB (a b : Bk) (o : Option (Pr × Rat)) (k : Pr) : Option (Pr × Rat) :=
  if 0 < absQ (shareQ a k - shareQ b k) ∧ (∀ z, o = some z → z.2 < absQ (shareQ a k - shareQ b k)) then some (k, absQ (shareQ a k - shareQ b k)) else o
def apartB (a b : Bk) : Option (Pr × Rat) := (setP ((a ++ b).map (·.1))).foldl (stepB a b) none
theorem step_none {a b : Bk} {k : Pr} : stepB a b none k = if 0 < absQ (shareQ a k - shareQ b k) then some (k, absQ (shareQ a k - shareQ b k)) else none := by
  unfold stepB
  by_cases h : 0 < absQ (shareQ a k - shareQ b k)
  · rw [if_pos h, if_pos ⟨h, fun z e => by cases e⟩]
  · rw [if_neg h, if_neg fun w => h w.1]
theorem step_some {a b : Bk} {k : Pr} {z : Pr × Rat} (hz : 0 < z.2) : stepB a b (some z) k = if z.2 < absQ (shareQ a k - shareQ b k) then some (k, absQ (shareQ a k - shareQ b k)) else some z := by
  unfold stepB
  by_cases h : z.2 < absQ (shareQ a k - shareQ b k)
  · rw [if_pos h, if_pos ⟨by grind, fun y e => by cases e; exact h⟩]
  · rw [if_neg h, if_neg fun w => h (w.2 z rfl)]
/-- what is best so far is of a pair seen, and more than nothing -/
def OkB (a b : Bk) (o : Option (Pr × Rat)) : Prop := ∀ z, o = some z → 0 < z.2 ∧ z.2 = absQ (shareQ a z.1 - shareQ b z.1)
theorem OkB.step {a b : Bk} {o : Option (Pr × Rat)} (h : OkB a b o) (k : Pr) : OkB a b (stepB a b o k) := by
  intro z e
  unfold stepB at e
  split at e
  · rename_i w
    cases e
    exact ⟨w.1, rfl⟩
  · exact h z e
theorem OkB.fold {a b : Bk} : ∀ (l : List Pr) {o : Option (Pr × Rat)}, OkB a b o → OkB a b (l.foldl (stepB a b) o)
  | [], _, h => h
  | k :: l, _, h => OkB.fold l (h.step k)
theorem OkB.bd {a b : Bk} (ha : BookOk a) (hb : BookOk b) {o : Option (Pr × Rat)} (h : OkB a b o) {z : Pr × Rat} (e : o = some z) : Bd 35 z.2 := by
  rw [(h z e).2]
  exact absQ_bd (share_bd ha _) (share_bd hb _) (by decide) (by decide)
theorem plus_bk {a b : Bk} (h : (a ++ b).length ≤ 1000) : plusD (bkD a) (bkD b) = some (bkD (a ++ b)) := by
  unfold bkD
  rw [List.map_append]
  rw [List.length_append] at h
  simp -implicitDefEqProofs (disch := omega) [szB_ok, rngB_ok]
theorem any_bk (b : Bk) : anyI (bkD b) = some (b.map enD) := rfl
def bestD : Option (Pr × Rat) → D
  | none => .non
  | some z => .tup [kyD z.1, qD z.2]
theorem share_eqB {a : Bk} {k : Pr} : shareQ a k - shareQ a k = 0 := by grind
theorem apart_self (a : Bk) : apartB a a = none := by
  unfold apartB
  generalize setP ((a ++ a).map (·.1)) = l
  induction l with
  | nil => rfl
  | cons k l ih =>
    rw [List.foldl_cons, step_none, share_eqB, if_neg (by unfold absQ; grind)]
    exact ih
theorem apart_comm (a b : Bk) : apartB a b = apartB b a := by
  unfold apartB
  have e : setP ((a ++ b).map (·.1)) = setP ((b ++ a).map (·.1)) := setP_congr fun k => by simp [or_comm]
  rw [e]
  have : stepB a b = stepB b a := by
    funext o k
    unfold stepB
    rw [absQ_sub]
  rw [this]
theorem apart_q {a b : Bk} (ha : BookOk a) (hb : BookOk b) : F_apart [bkD a, bkD b] = .ok (bestD (apartB a b)) := by
  have la := ha.len
  have lb := hb.len
  have el : (a ++ b).length ≤ 120 := by rw [List.length_append]; omega
  have eL : ((a ++ b).map (·.1)).length ≤ 1000 := by rw [List.length_map]; omega
  have eS := sortset_key ((a ++ b).map (·.1)) eL
  rw [List.map_map] at eS
  refine fi_run (show Fi _ (g_apart [.dat (bkD a), .dat (bkD b), .no, .no, .no, .no, .no, .no]) from ?_)
  rw [g_apart]
  refine p_seq (ρ1 := [.dat (bkD a), .dat (bkD b), .no, .no, .no, .no, .no, .no]) (by simp -implicitDefEqProofs (disch := omega) [szB_ok, rngB_ok, ha]) ?_
  refine p_seq (ρ1 := [.dat (bkD a), .dat (bkD b), .no, .no, .no, .no, .no, .no]) (by simp -implicitDefEqProofs (disch := omega) [szB_ok, rngB_ok, hb]) ?_
  refine p_seq (ρ1 := [.dat (bkD a), .dat (bkD b), .dat (.non), .no, .no, .no, .no, .no]) (by simp -implicitDefEqProofs (disch := omega) [szB_ok, rngB_ok]) ?_
  have pl := plus_bk (a := a) (b := b) (by omega)
  unfold apartB
  generalize a ++ b = C at *
  refine p_for kyD (setP (C.map (·.1))) (ρ1 := [.dat (bkD a), .dat (bkD b), .dat (.non), .no, .no, .no, .no, .no]) (by
    simp -implicitDefEqProofs (disch := omega) [szB_ok, rngB_ok, pl, any_bk]
    rw [lc_map [.dat (bkD a), .dat (bkD b), .dat (.non), .no, .no, .no, .no, .no] (fun e => kyD e.1)]
    · have z : szB ((setP (C.map (·.1))).length) = true := szB_ok (by have := setP_len (C.map (·.1)); rw [List.length_map] at this; omega)
      have e2 : C.map (fun e => kyD e.1) = C.map (kyD ∘ (·.1)) := rfl
      simp -implicitDefEqProofs (disch := omega) [szB_ok, rngB_ok, e2, eS]
    · intro e he
      simp -implicitDefEqProofs (disch := omega) [szB_ok, rngB_ok, enD]
    all_goals try simp
    omega)
    (fun pre ρ => ∃ x4 x5 x6 x7 x8 : VL.Slot, OkB a b (pre.foldl (stepB a b) none) ∧ ρ = [.dat (bkD a), .dat (bkD b), .dat (bestD (pre.foldl (stepB a b) none)), x4, x5, x6, x7, x8])
    (fun pre k post ρ el ⟨x4, x5, x6, x7, x8, hk, hi⟩ => ?_) ⟨_, _, _, _, _, (fun z e => by cases e), rfl⟩ fun ρ' ⟨x4, x5, x6, x7, x8, hk, hi⟩ => ?_
  · subst hi
    have n1 := hk.step k
    rw [List.foldl_append]
    generalize pre.foldl (stepB a b) none = o at *
    have ea := share_frq ha k
    have eb := share_frq hb k
    have ba := share_bd ha k
    have bb := share_bd hb k
    generalize hp : shareQ a k = p at *
    generalize hq : shareQ b k = q at *
    have st := step_q ba bb (by decide) (by decide)
    have m1 := ba.mulB_nd bb (by decide)
    have m2 := bb.mulB_nd ba (by decide)
    have m3 := ba.mulB_dd bb (by decide)
    have bs := absQ_bd ba bb (by decide) (by decide)
    refine ⟨[.dat (bkD a), .dat (bkD b), .dat (bestD o), .dat (kyD k), x5, x6, x7, x8], rfl, ?_⟩
    refine nx_of (ρ := [.dat (bkD a), .dat (bkD b), .dat (bestD (stepB a b o k)), .dat (kyD k), x5, .dat (qD p), .dat (qD q), .dat (qD (absQ (p - q)))]) ?_ ⟨_, _, _, _, _, n1, rfl⟩
    refine (sq_eq (ρ1 := [.dat (bkD a), .dat (bkD b), .dat (bestD o), .dat (kyD k), x5, .dat (qD p), .dat (qD q), x8]) (by simp -implicitDefEqProofs (disch := omega) [szB_ok, rngB_ok, ea, eb])).trans ?_
    refine (sq_eq (ρ1 := [.dat (bkD a), .dat (bkD b), .dat (bestD o), .dat (kyD k), x5, .dat (qD p), .dat (qD q), .dat (qD (absQ (p - q)))]) (by simp -implicitDefEqProofs (disch := omega) [szB_ok, rngB_ok, qD, m1, m2, m3, absD, st])).trans ?_
    cases o with
    | none =>
      rw [step_none, hp, hq]
      by_cases w : 0 < absQ (p - q)
      · rw [if_pos w]
        have w2 := num_pos_iff.mpr w
        simp -implicitDefEqProofs (disch := omega) [szB_ok, rngB_ok, bestD, qD, w2]
      · rw [if_neg w]
        have w2 : ¬ 0 < (absQ (p - q)).num := fun z => w (num_pos_iff.mp z)
        simp -implicitDefEqProofs (disch := omega) [szB_ok, rngB_ok, bestD, qD, w2]
    | some z =>
      have hz := hk z rfl
      have bz := hk.bd ha hb rfl
      have im := is_more_q bs bz (by decide) (by decide)
      rw [step_some hz.1, hp, hq]
      by_cases w : z.2 < absQ (p - q)
      · rw [if_pos w]
        have w2 : 0 < (absQ (p - q)).num := num_pos_iff.mpr (by grind)
        simp only [qD] at im
        simp -implicitDefEqProofs (disch := omega) [szB_ok, rngB_ok, bestD, qD, w2, im, w]
      · rw [if_neg w]
        simp only [qD] at im
        by_cases w2 : 0 < (absQ (p - q)).num
        · simp -implicitDefEqProofs (disch := omega) [szB_ok, rngB_ok, bestD, qD, w2, im, w]
        · simp -implicitDefEqProofs (disch := omega) [szB_ok, rngB_ok, bestD, qD, w2]
  · subst hi
    exact fi_of (by simp -implicitDefEqProofs (disch := omega) [szB_ok, rngB_ok])
end PG

/-! the plain law: a walk that may end early; the law's own wheel; numbers that are refused -/
namespace PG
open PySem PySem.Spec PyProof.Rows L2 VL
/-- ends a walk -/
def Stop (r : RS) : Prop := (∃ d, r = .ret d) ∨ ∃ c ρ, r = .err c ρ
theorem stop_ret {d : D} : Stop (.ret d) := .inl ⟨d, rfl⟩
theorem stop_err {c : Str} {ρ : VL.Env} : Stop (.err c ρ) := .inr ⟨c, ρ, rfl⟩
theorem forR {P : RS → Prop} {α : Type} {tg : D → VL.Env → Option VL.Env} {body g : SM} {enc : α → D} (l : List α) (Inv : List α → VL.Env → Prop)
    (h : ∀ (pre : List α) (a : α) (post : List α) (ρ : VL.Env), l = pre ++ a :: post → Inv pre ρ → ∃ ρ1, tg (enc a) ρ = some ρ1 ∧ (Nx (Inv (pre ++ [a])) (body ρ1) ∨ (Stop (body ρ1) ∧ P (body ρ1))))
    (hq : ∀ ρ', Inv l ρ' → P (g ρ')) {ρ : VL.Env} (h0 : Inv [] ρ) : P ((forD tg body (l.map enc) ρ).then g) := by
  have key : ∀ (post pre : List α) (ρ : VL.Env), l = pre ++ post → Inv pre ρ → P ((forD tg body (post.map enc) ρ).then g) := by
    intro post
    induction post with
    | nil =>
      intro pre ρ e hi
      rw [List.append_nil] at e
      subst e
      exact hq ρ hi
    | cons a post ih =>
      intro pre ρ e hi
      obtain ⟨ρ1, e1, e2⟩ := h pre a post ρ e hi
      rw [List.map_cons]
      unfold forD
      rw [e1]
      rcases e2 with ⟨ρ2, e2, e3⟩ | ⟨s, p⟩
      · have f := ih (pre ++ [a]) ρ2 (by rw [e]; simp) e3
        rcases e2 with e2 | e2
        · simp only [e2]
          exact f
        · simp only [e2]
          exact f
      · rcases s with ⟨d, e2⟩ | ⟨c, ρ2, e2⟩
        · simp only [e2]
          rw [e2] at p
          exact p
        · simp only [e2]
          rw [e2] at p
          exact p
  exact key l [] ρ rfl h0
theorem p_forR {P : RS → Prop} {α : Type} {it : EM (List D)} {tg : D → VL.Env → Option VL.Env} {body g : SM} (enc : α → D) (l : List α) {ρ ρ1 : VL.Env} (hi : it ρ = .ok (l.map enc) ρ1) (Inv : List α → VL.Env → Prop)
    (h : ∀ (pre : List α) (a : α) (post : List α) (ρ : VL.Env), l = pre ++ a :: post → Inv pre ρ → ∃ ρ1, tg (enc a) ρ = some ρ1 ∧ (Nx (Inv (pre ++ [a])) (body ρ1) ∨ (Stop (body ρ1) ∧ P (body ρ1)))) (h0 : Inv [] ρ1)
    (hq : ∀ ρ', Inv l ρ' → P (g ρ')) : P (s_seq (s_for it tg body) g ρ) := by
  rw [s_seq_a, s_for_a, hi, to_ok]
  exact forR l Inv h hq h0
theorem st_of {P : RS → Prop} {r : RS} {d : D} (h : r = .ret d) (p : P (.ret d)) : Stop r ∧ P r := by
  subst h
  exact ⟨stop_ret, p⟩
theorem st_err {P : RS → Prop} {r : RS} {c : Str} {ρ : VL.Env} (h : r = .err c ρ) (p : P (.err c ρ)) : Stop r ∧ P r := by
  subst h
  exact ⟨stop_err, p⟩
/-! ### the wheel -/
def wheel (b : Bk) (s : Nat) : List Nat := b.flatMap fun e => if e.1.1 = s then List.replicate e.2.toNat e.1.2 else []
theorem wheel_cons (e : Pr × Int) (b : Bk) (s : Nat) : wheel (e :: b) s = (if e.1.1 = s then List.replicate e.2.toNat e.1.2 else []) ++ wheel b s := rfl
theorem wheel_snoc (b : Bk) (e : Pr × Int) (s : Nat) : wheel (b ++ [e]) s = wheel b s ++ (if e.1.1 = s then List.replicate e.2.toNat e.1.2 else []) := by
  unfold wheel
  rw [List.flatMap_append]
  simp
theorem wheel_len : ∀ {b : Bk} (h : ∀ e ∈ b, 0 ≤ e.2) (s : Nat), ((wheel b s).length : Int) = behind b s
  | [], _, _ => rfl
  | e :: b, h, s => by
    have ih := wheel_len (b := b) (fun x hx => h x (List.mem_cons_of_mem _ hx)) s
    have h0 := h e (List.mem_cons_self ..)
    rw [wheel_cons, behind_cons, List.length_append, ← ih]
    split
    · rw [List.length_replicate]; omega
    · simp
theorem wheel_get : ∀ {b : Bk} (h : ∀ e ∈ b, 0 ≤ e.2) (s : Nat) (n : Int), 0 ≤ n → n < behind b s → (wheel b s)[n.toNat]? = some (signAt b s n)
  | [], _, s, n, h0, h1 => by
    have : behind [] s = 0 := rfl
    omega
  | e :: b, h, s, n, h0, h1 => by
    have hb := fun x hx => h x (List.mem_cons_of_mem e hx)
    have he := h e (List.mem_cons_self ..)
    rw [behind_cons] at h1
    rw [wheel_cons]
    show _ = some (if e.1.1 = s ∧ n < e.2 then e.1.2 else signAt b s (if e.1.1 = s then n - e.2 else n))
    by_cases q : e.1.1 = s
    · simp only [if_pos q] at h1 ⊢
      by_cases w : n < e.2
      · rw [if_pos ⟨q, w⟩, List.getElem?_append_left (by rw [List.length_replicate]; omega), List.getElem?_replicate, if_pos (by omega)]
      · rw [if_neg (fun z => w z.2), List.getElem?_append_right (by rw [List.length_replicate]; omega), List.length_replicate]
        have := wheel_get hb s (n - e.2) (by omega) (by omega)
        rw [← this]
        congr 1
        omega
    · simp only [if_neg q] at h1 ⊢
      rw [if_neg (fun z => q z.1), List.nil_append]
      exact wheel_get hb s n h0 (by omega)
theorem atI_last {α : Type} (w : List α) (s : α) : atI (w ++ [s]) (-1) = some s := by
  unfold atI ixN
  rw [if_neg (by decide), if_pos (by rw [List.length_append, List.length_singleton]; omega)]
  have : (-1 + (((w ++ [s]).length : Nat) : Int)).toNat = w.length := by rw [List.length_append, List.length_singleton]; omega
  show (w ++ [s])[(-1 + (((w ++ [s]).length : Nat) : Int)).toNat]? = some s
  rw [this]
  simp
theorem sub_last {w : List Nat} {s : Nat} (h : w.length ≤ 1000) : subD2 (.str (S (w ++ [s]))) (.int (-1)) = some (sgD s) := by
  have z : szB (w.length + 1) = true := szB_ok (by omega)
  simp -implicitDefEqProofs (disch := omega) [szB_ok, rngB_ok, z, atI_last]
  rfl
theorem sl_mid {a c : Nat} {t : List Nat} (h : t.length ≤ 1000) : slD (.str (S (a :: (t ++ [c])))) (some 1) (some (-1)) = some (.str (S t)) := by
  have z : szB (t.length + 1 + 1) = true := szB_ok (by omega)
  have e1 : HT.sIx (t.length + 1 + 1) 0 (some 1) = 1 := by unfold HT.sIx; simp
  have e2 : HT.sIx (t.length + 1 + 1) (t.length + 1 + 1) (some (-1)) = t.length + 1 := by unfold HT.sIx; simp; omega
  simp -implicitDefEqProofs (disch := omega) [szB_ok, rngB_ok, z, e1, e2]
theorem eq_sg_nil {l : List Nat} (h : ∀ c ∈ l, c < 1114112) : eqD (.lst (l.map sgD)) (.lst []) = some (.bl (decide (l = []))) := by
  have h1 : puL (l.map sgD) = true ∧ dptL (l.map sgD) = 0 := by
    induction l with
    | nil => exact ⟨rfl, rfl⟩
    | cons c l ih =>
      have i := ih fun x m => h x (List.mem_cons_of_mem _ m)
      have h2 := h c (List.mem_cons_self ..)
      refine ⟨?_, by simp [dptL, dpt, i.2]⟩
      simp [puL, pu, i.1, PyData.strOk, S]
      exact h2
  exact eq_pu (by simp [pu, h1.1]) rfl (by simp [dpt, h1.2]) (by decide) _ (by simp)
theorem flat_one (k : Nat) (d : D) : (List.replicate k [d]).flatten = List.replicate k d := by
  induction k with
  | zero => rfl
  | succ k ih => rw [List.replicate_succ, List.flatten_cons, ih, List.replicate_succ]; rfl
theorem law_drawn_q {b : Bk} (hb : BookOk b) {ns : List Int} (hl : ns.length ≤ 100) : F__law_drawn [bkD b, .lst (ns.map .int)] = .ok (optD (drawn b ns 60 [])) := by
  have hb0 := fun e he => (hb.range e he).1
  have ei : anyI (bkD b) = some (b.map enD) := rfl
  refine fi_run (show Fi _ (g__law_drawn [.dat (bkD b), .dat (.lst (ns.map .int)), .no, .no, .no, .no, .no]) from ?_)
  rw [g__law_drawn]
  refine p_seq (ρ1 := [.dat (bkD b), .dat (.lst (ns.map .int)), .dat (.str (S [60])), .no, .no, .no, .no]) (by simp -implicitDefEqProofs (disch := omega) [szB_ok, rngB_ok, lit_lt]) ?_
  refine p_forR D.int ns (ρ1 := [.dat (bkD b), .dat (.lst (ns.map .int)), .dat (.str (S [60])), .no, .no, .no, .no]) (by simp -implicitDefEqProofs (disch := omega) [szB_ok, rngB_ok])
    (fun pre ρ => ∃ (x3 x4 x5 x6 : VL.Slot) (t w : List Nat) (s : Nat), (∀ post, ns = pre ++ post → drawn b ns 60 [] = drawn b post s t) ∧ t.length = pre.length ∧ 60 :: t = w ++ [s] ∧ ρ = [.dat (bkD b), .dat (.lst (ns.map .int)), .dat (.str (S (60 :: t))), x3, x4, x5, x6])
    (fun pre n post ρ el ⟨x3, x4, x5, x6, t, w, s, hd, ht, hw, hi⟩ => ?_) ⟨_, _, _, _, [], [], 60, fun post e => by rw [e]; rfl, rfl, rfl, rfl⟩ fun ρ' ⟨x3, x4, x5, x6, t, w, s, hd, ht, hw, hi⟩ => ?_
  · subst hi
    have h1 := hd _ el
    have hpl : pre.length < 100 := by have := congrArg List.length el; simp at this; omega
    have hwl : w.length = t.length := by have := congrArg List.length hw; simp at this; omega
    have h0 := behind_le hb s
    have wl := wheel_len hb0 s
    refine ⟨[.dat (bkD b), .dat (.lst (ns.map .int)), .dat (.str (S (60 :: t))), .dat (.int n), x4, x5, x6], rfl, ?_⟩
    have step : ∀ Q : RS → Prop, (∀ x5 x6 : VL.Slot, Q ((s_seq (s_if (t_val (e_op eqD (e_name 4) (e_lst a_nil))) (s_ret (e_k .non)) s_next)
      (s_seq (s_set 2 (e_op plusD (e_name 2) (e_op subD2 (e_name 4) (e_op modD (e_name 3) (e_cb lenD (a_cons (e_name 4) a_nil))))))
      (s_if (t_val (e_op eqD (e_op subD2 (e_name 2) (e_neg (e_k (.int 1)))) (e_k (.str ">")))) (s_ret (e_slice (e_name 2) (p_some (e_k (.int 1))) (p_some (e_neg (e_k (.int 1)))))) s_next))) [.dat (bkD b), .dat (.lst (ns.map .int)), .dat (.str (S (60 :: t))), .dat (.int n), .own (.L ((wheel b s).map sgD)), x5, x6])) → Q ((s_seq (s_setN 4 (n_lst a_nil))
      (s_seq (s_for (i_any (e_name 0)) (g_tup 2 (gs_cons (g_name 5) (gs_cons (g_name 6) gs_nil))) (s_extend 4 (e_if (t_val (e_op eqD (e_op subD2 (e_name 5) (e_k (.int 0))) (e_op subD2 (e_name 2) (e_neg (e_k (.int 1)))))) (e_op repD (e_lst (a_cons (e_op subD2 (e_name 5) (e_k (.int 1))) a_nil)) (e_name 6)) (e_lst a_nil))))
      (s_seq (s_if (t_val (e_op eqD (e_name 4) (e_lst a_nil))) (s_ret (e_k .non)) s_next)
      (s_seq (s_set 2 (e_op plusD (e_name 2) (e_op subD2 (e_name 4) (e_op modD (e_name 3) (e_cb lenD (a_cons (e_name 4) a_nil))))))
      (s_if (t_val (e_op eqD (e_op subD2 (e_name 2) (e_neg (e_k (.int 1)))) (e_k (.str ">")))) (s_ret (e_slice (e_name 2) (p_some (e_k (.int 1))) (p_some (e_neg (e_k (.int 1)))))) s_next))))) [.dat (bkD b), .dat (.lst (ns.map .int)), .dat (.str (S (60 :: t))), .dat (.int n), x4, x5, x6]) := by
      intro Q hQ
      refine p_seq (ρ1 := [.dat (bkD b), .dat (.lst (ns.map .int)), .dat (.str (S (60 :: t))), .dat (.int n), .own (.L (((wheel [] s).map sgD))), x5, x6]) (by simp -implicitDefEqProofs (disch := omega) [szB_ok, rngB_ok, wheel]) ?_
      refine p_for enD b (ρ1 := [.dat (bkD b), .dat (.lst (ns.map .int)), .dat (.str (S (60 :: t))), .dat (.int n), .own (.L (((wheel [] s).map sgD))), x5, x6]) (by simp -implicitDefEqProofs (disch := omega) [szB_ok, rngB_ok, ei])
        (fun pre ρ => ∃ x5 x6 : VL.Slot, ρ = [.dat (bkD b), .dat (.lst (ns.map .int)), .dat (.str (S (60 :: t))), .dat (.int n), .own (.L (((wheel pre s).map sgD))), x5, x6])
        (fun pre e post ρ el ⟨x5, x6, hi⟩ => ?_) ⟨_, _, rfl⟩ fun ρ' ⟨x5, x6, hi⟩ => ?_
      · subst hi
        have hp0 : ∀ x ∈ pre, 0 ≤ x.2 := fun x hx => hb0 x (by rw [el]; simp [hx])
        have hle : behind pre s ≤ behind b s := by
          have h1 : behind (pre ++ e :: post) s = behind pre s + behind (e :: post) s := sum_app _ _ _
          have h2 : 0 ≤ behind (e :: post) s := sumB_nonneg (fun x hx => hb0 x (by rw [el]; exact List.mem_append_right _ hx)) _
          rw [el, h1]
          omega
        have wp := wheel_len hp0 s
        have he := hb.range e (by rw [el]; simp)
        have hwl2 : (wheel pre s).length ≤ 60000 := by omega
        refine ⟨[.dat (bkD b), .dat (.lst (ns.map .int)), .dat (.str (S (60 :: t))), .dat (.int n), .own (.L (((wheel pre s).map sgD))), .dat (.str (keyS e.1)), .dat (.int e.2)], by simp [enD], ?_⟩
        refine nx_of (ρ := [.dat (bkD b), .dat (.lst (ns.map .int)), .dat (.str (S (60 :: t))), .dat (.int n), .own (.L (((wheel (pre ++ [e]) s).map sgD))), .dat (.str (keyS e.1)), .dat (.int e.2)]) ?_ ⟨_, _, rfl⟩
        have sl : subD2 (.str (S (60 :: t))) (.int (-1)) = some (sgD s) := by rw [hw]; exact sub_last (by omega)
        rw [wheel_snoc]
        by_cases q : e.1.1 = s
        · have z1 : -1000000 ≤ e.2 ∧ e.2 ≤ 1000000 ∧ e.2.toNat ≤ 16777216 := by omega
          have z2 : szB ((wheel pre s).length + e.2.toNat) = true := szB_ok (by omega)
          simp -implicitDefEqProofs (disch := omega) [szB_ok, rngB_ok, sl, q, keyS, z1, z2, flat_one, S_one]
        · have z2 : szB ((wheel pre s).length) = true := szB_ok (by omega)
          simp -implicitDefEqProofs (disch := omega) [szB_ok, rngB_ok, sl, q, keyS, z2, S_one]
      · subst hi
        exact hQ _ _
    refine step (fun r => Nx _ r ∨ (Stop r ∧ Fi _ r)) fun x5 x6 => ?_
    by_cases q : behind b s = 0
    · right
      have q2 : wheel b s = [] := List.eq_nil_of_length_eq_zero (by omega)
      refine st_of (d := .non) ?_ (fi_of ?_)
      · have := eq_self (x := .lst []) rfl (by decide)
        simp -implicitDefEqProofs (disch := omega) [szB_ok, rngB_ok, q2, this]
      · rw [h1]
        simp [drawn, q, optD]
    · have hp : 0 < behind b s := by omega
      have m0 := Int.emod_nonneg n q
      have m1 := Int.emod_lt_of_pos n hp
      have wg := wheel_get hb0 s (n % behind b s) m0 m1
      have hne : eqD (.lst ((wheel b s).map sgD)) (.lst []) = some (.bl false) := by
        have hh := eq_sg_nil (l := wheel b s) (fun c hc => by
          obtain ⟨e, he, h2⟩ := List.mem_flatMap.mp hc
          have h3 := pairOk_lt (hb.prs e he)
          split at h2
          · have := (List.mem_replicate.mp h2).2
            omega
          · cases h2)
        rw [hh, decide_eq_false]
        intro z
        rw [z] at wl
        simp at wl
        omega
      have hx : atI ((wheel b s).map sgD) (n % behind b s) = some (sgD (signAt b s (n % behind b s))) := by
        rw [← Int.toNat_of_nonneg m0, atI_k, List.getElem?_map, wg]
        simp only [Int.toNat_of_nonneg m0]
        rfl
      generalize hc : signAt b s (n % behind b s) = c at *
      have hs : (60 :: (t ++ [c])) = (w ++ [s]) ++ [c] := by rw [← hw]; rfl
      have sl : subD2 (.str (S (60 :: (t ++ [c])))) (.int (-1)) = some (sgD c) := by rw [hs]; exact sub_last (by simp; omega)
      have st : s_seq (s_if (t_val (e_op eqD (e_name 4) (e_lst a_nil))) (s_ret (e_k .non)) s_next)
        (s_seq (s_set 2 (e_op plusD (e_name 2) (e_op subD2 (e_name 4) (e_op modD (e_name 3) (e_cb lenD (a_cons (e_name 4) a_nil))))))
        (s_if (t_val (e_op eqD (e_op subD2 (e_name 2) (e_neg (e_k (.int 1)))) (e_k (.str ">")))) (s_ret (e_slice (e_name 2) (p_some (e_k (.int 1))) (p_some (e_neg (e_k (.int 1)))))) s_next)) [.dat (bkD b), .dat (.lst (ns.map .int)), .dat (.str (S (60 :: t))), .dat (.int n), .own (.L ((wheel b s).map sgD)), x5, x6] =
        s_if (t_val (e_op eqD (e_op subD2 (e_name 2) (e_neg (e_k (.int 1)))) (e_k (.str ">")))) (s_ret (e_slice (e_name 2) (p_some (e_k (.int 1))) (p_some (e_neg (e_k (.int 1)))))) s_next [.dat (bkD b), .dat (.lst (ns.map .int)), .dat (.str (S (60 :: (t ++ [c])))), .dat (.int n), .dat (.lst ((wheel b s).map sgD)), x5, x6] := by
        refine (sq_eq (ρ1 := [.dat (bkD b), .dat (.lst (ns.map .int)), .dat (.str (S (60 :: t))), .dat (.int n), .dat (.lst ((wheel b s).map sgD)), x5, x6]) (by simp -implicitDefEqProofs (disch := omega) [szB_ok, rngB_ok, hne])).trans ?_
        refine (sq_eq (ρ1 := [.dat (bkD b), .dat (.lst (ns.map .int)), .dat (.str (S (60 :: (t ++ [c])))), .dat (.int n), .dat (.lst ((wheel b s).map sgD)), x5, x6]) (by
          simp -implicitDefEqProofs (disch := omega) [szB_ok, rngB_ok, wl, hp, hx])).trans rfl
      rw [st]
      by_cases q2 : c = 62
      · right
        subst q2
        refine st_of (d := .str (S t)) ?_ (fi_of ?_)
        · have e1 : HT.sIx (t.length + 1 + 1) 0 (some 1) = 1 := by unfold HT.sIx; simp
          have e2 : HT.sIx (t.length + 1 + 1) (t.length + 1 + 1) (some (-1)) = t.length + 1 := by unfold HT.sIx; simp; omega
          simp -implicitDefEqProofs (disch := omega) [szB_ok, rngB_ok, sl, e1, e2, lit_gt]
        · rw [h1]
          simp [drawn, q, optD, hc]
      · left
        refine nx_of (ρ := [.dat (bkD b), .dat (.lst (ns.map .int)), .dat (.str (S (60 :: (t ++ [c])))), .dat (.int n), .dat (.lst ((wheel b s).map sgD)), x5, x6]) (by
          simp -implicitDefEqProofs (disch := omega) [szB_ok, rngB_ok, sl, lit_gt, q2]) ⟨_, _, _, _, t ++ [c], w ++ [s], c, fun post2 e2 => ?_, by simp [ht], hs, rfl⟩
        have : post2 = post := by
          rw [el, List.append_assoc] at e2
          have := List.append_cancel_left e2
          simpa using this.symm
        rw [this, h1]
        simp [drawn, q, hc, q2]
  · subst hi
    have := hd [] (by simp)
    rw [this]
    exact fi_of rfl
end PG

/-! the plain law: what is refused, as a law's words -/
namespace PG
open PySem PySem.Spec PyProof.Rows L2 VL
theorem word_full : F__law_word [.exc "Full"] = .ok (.str "full") := by rfl
theorem word_back : F__law_word [.exc "NoBack"] = .ok (.str "no back") := by rfl
theorem word_book : F__law_word [.exc "NoBook"] = .ok (.str "no book") := by rfl
theorem word_name : F__law_word [.exc "NoName"] = .ok (.str "no name") := by rfl
theorem word_number : F__law_word [.exc "NoNumber"] = .ok (.str "no number") := by rfl
theorem word_text : F__law_word [.exc "NoText"] = .ok (.str "no text") := by rfl
theorem word_there : F__law_word [.exc "NotThere"] = .ok (.str "not there") := by rfl
end PG

/-! the plain law: the law's call of a def, its refusals; numbers for a name that is not there -/
namespace PG
open PySem PySem.Spec PyProof.Rows L2 VL
theorem do5_0 {b t d : D} (h : F_drawn_by [b, t] = .ok d) : F__law_do_v5 [.int 0, b, t] = .ok d := by
  simp -implicitDefEqProofs (disch := omega) [szB_ok, rngB_ok, F__law_do_v5, g__law_do_v5, runD_eq, h]
theorem do5_1 {b t d : D} (h : F_numbers_for [b, t] = .ok d) : F__law_do_v5 [.int 1, b, t] = .ok d := by
  simp -implicitDefEqProofs (disch := omega) [szB_ok, rngB_ok, F__law_do_v5, g__law_do_v5, runD_eq, h]
theorem do5_0b {b t : D} (h : F_drawn_by [b, t] = .err "NoBook") : F__law_do_v5 [.int 0, b, t] = .ok (.str "no book") := by
  simp -implicitDefEqProofs (disch := omega) [szB_ok, rngB_ok, F__law_do_v5, g__law_do_v5, runD_eq, h, word_book]
theorem do5_1b {b t : D} (h : F_numbers_for [b, t] = .err "NoBook") : F__law_do_v5 [.int 1, b, t] = .ok (.str "no book") := by
  simp -implicitDefEqProofs (disch := omega) [szB_ok, rngB_ok, F__law_do_v5, g__law_do_v5, runD_eq, h, word_book]
theorem do5_0n {b t : D} (h : F_drawn_by [b, t] = .err "NoNumber") : F__law_do_v5 [.int 0, b, t] = .ok (.str "no number") := by
  simp -implicitDefEqProofs (disch := omega) [szB_ok, rngB_ok, F__law_do_v5, g__law_do_v5, runD_eq, h, word_number]
theorem do5_1n {b t : D} (h : F_numbers_for [b, t] = .err "NoName") : F__law_do_v5 [.int 1, b, t] = .ok (.str "no name") := by
  simp -implicitDefEqProofs (disch := omega) [szB_ok, rngB_ok, F__law_do_v5, g__law_do_v5, runD_eq, h, word_name]
theorem do5_1t {b t : D} (h : F_numbers_for [b, t] = .err "NotThere") : F__law_do_v5 [.int 1, b, t] = .ok (.str "not there") := by
  simp -implicitDefEqProofs (disch := omega) [szB_ok, rngB_ok, F__law_do_v5, g__law_do_v5, runD_eq, h, word_there]
theorem numbers_not {b : Bk} (hb : BookOk b) {n : List Nat} (hn : nameOk n = true) (hk : ∃ k ∈ prs n, cnt b k = 0) : F_numbers_for [bkD b, .str (S n)] = .err "NotThere" := by
  have h1 := nameOk_len hn
  have hl := hb.len
  have ep := pairs_in_eq (l := n) (by omega)
  refine fi_run (show Fi _ (g_numbers_for [.dat (bkD b), .dat (.str (S n)), .no, .no, .no, .no]) from ?_)
  rw [g_numbers_for]
  refine p_seq (ρ1 := [.dat (bkD b), .dat (.str (S n)), .no, .no, .no, .no]) (by simp -implicitDefEqProofs (disch := omega) [szB_ok, rngB_ok, hb]) ?_
  refine p_seq (ρ1 := [.dat (bkD b), .dat (.str (S n)), .no, .no, .no, .no]) (by simp -implicitDefEqProofs (disch := omega) [szB_ok, rngB_ok, hn]) ?_
  refine p_seq (ρ1 := [.dat (bkD b), .dat (.str (S n)), .own (.L (([] : List Pr).map fun k => .int (cum b k))), .no, .no, .no]) (by simp -implicitDefEqProofs (disch := omega) [szB_ok, rngB_ok]) ?_
  refine p_forR (fun k => .str (keyS k)) (prs n) (ρ1 := [.dat (bkD b), .dat (.str (S n)), .own (.L (([] : List Pr).map fun k => .int (cum b k))), .no, .no, .no]) (by simp -implicitDefEqProofs (disch := omega) [szB_ok, rngB_ok, ep])
    (fun pre ρ => (∀ k ∈ pre, cnt b k ≠ 0) ∧ ∃ x, ρ = [.dat (bkD b), .dat (.str (S n)), .own (.L (pre.map fun k => .int (cum b k))), x, .no, .no]) (fun pre a post ρ el ⟨hp, x, hi⟩ => ?_) ⟨by simp, _, rfl⟩ fun ρ' ⟨hp, x, hi⟩ => ?_
  · subst hi
    have hpl : pre.length ≤ 8 := by have := congrArg List.length el; rw [prs_len] at this; simp at this; omega
    have ec := count_of_eq hb.toSrt.nodup a
    have ei : anyI (bkD b) = some (b.map enD) := rfl
    refine ⟨[.dat (bkD b), .dat (.str (S n)), .own (.L (pre.map fun k => .int (cum b k))), .dat (.str (keyS a)), .no, .no], rfl, ?_⟩
    by_cases hc : cnt b a = 0
    · right
      exact st_err (c := "NotThere") (ρ := [.dat (bkD b), .dat (.str (S n)), .own (.L (pre.map fun k => .int (cum b k))), .dat (.str (keyS a)), .no, .no]) (by simp -implicitDefEqProofs (disch := omega) [szB_ok, rngB_ok, ec, hc]) (fi_of rfl)
    · left
      refine nx_of (ρ := [.dat (bkD b), .dat (.str (S n)), .own (.L ((pre ++ [a]).map fun k => .int (cum b k))), .dat (.str (keyS a)), .no, .no]) ?_ ⟨fun k hk => by
        rcases List.mem_append.mp hk with q | q
        · exact hp k q
        · rw [List.mem_singleton.mp q]; exact hc, _, rfl⟩
      simp -implicitDefEqProofs (disch := omega) [szB_ok, rngB_ok, ec, hc, ei]
      rw [lc_filter [.dat (bkD b), .dat (.str (S n)), .own (.L (pre.map fun k => .int (cum b k))), .dat (.str (keyS a)), .no, .no] (fun e => decide (e.1.1 = a.1) && decide (e.1.2 < a.2)) (fun e => .int e.2)]
      · have e9 : ((b.filter fun e => decide (e.1.1 = a.1) && decide (e.1.2 < a.2)).map (·.2)).sum = cum b a := rfl
        simp -implicitDefEqProofs (disch := omega) [szL_ok, e9]
      · intro e he
        have lt : decide ((keyS e.1).cps.toList < (keyS a).cps.toList) = decide (e.1.1 < a.1 ∨ e.1.1 = a.1 ∧ e.1.2 < a.2) := by
          unfold keyS
          rw [S_cps, S_cps]
          simp only [lt2]
        by_cases z : e.1.1 = a.1
        · have lt2' : ((keyS e.1).cps.toList < (keyS a).cps.toList) ↔ e.1.2 < a.2 := by
            rw [← decide_eq_true_iff (p := (keyS e.1).cps.toList < (keyS a).cps.toList), lt, decide_eq_true_iff]
            omega
          by_cases z2 : e.1.2 < a.2
          · have l3 : (keyS e.1).cps < (keyS a).cps := by simpa using lt2'.mpr z2
            simp -implicitDefEqProofs [enD, z, z2, l3]
          · have l3 : ¬ (keyS e.1).cps < (keyS a).cps := by simpa using fun q => z2 (lt2'.mp q)
            simp -implicitDefEqProofs [enD, z, z2, l3]
        · simp -implicitDefEqProofs [enD, z]
      all_goals try simp
      omega
  · obtain ⟨k, hm, hc⟩ := hk
    exact absurd hc (hp k hm)
theorem drawn_less {b : Bk} (hs : Srt b) {n : List Nat} {j : Nat} (hj : j < (prs n).length) (hp : 0 < cum b ((prs n)[j])) :
    drawn b (((prs n).map (cum b)).set j (cum b ((prs n)[j]) - 1)) 60 [] ≠ some n := by
  intro h
  obtain ⟨l, e, _, _, _, h4⟩ := drawn_path hs _ 60 [] n (fun x hx => by
    rcases List.mem_or_eq_of_mem_set hx with q | q
    · obtain ⟨k, _, rfl⟩ := List.mem_map.mp q
      exact (cum_le hs k).1
    · omega) h
  rw [List.nil_append] at e
  subst e
  rw [path_prs] at h4
  have hm : ((prs n)[j], cum b ((prs n)[j]) - 1) ∈ (prs n).zip (((prs n).map (cum b)).set j (cum b ((prs n)[j]) - 1)) := by
    have hz : j < ((prs n).zip (((prs n).map (cum b)).set j (cum b ((prs n)[j]) - 1))).length := by simp; exact hj
    have := List.getElem_mem hz
    rw [List.getElem_zip] at this
    simpa using this
  have := h4 _ hm
  dsimp only at this
  omega
theorem no_numbers {b : Bk} (hb : BookOk b) {d : D} (h : F_are_numbers [d] = .ok (.bl false)) : F__law_do_v5 [.int 0, bkD b, d] = .ok (.str "no number") := by
  refine do5_0n ?_
  refine fi_run (show Fi _ (g_drawn_by [.dat (bkD b), .dat (d), .no, .no, .no, .no]) from ?_)
  rw [g_drawn_by]
  refine p_seq (ρ1 := [.dat (bkD b), .dat (d), .no, .no, .no, .no]) (by simp -implicitDefEqProofs (disch := omega) [szB_ok, rngB_ok, hb]) ?_
  exact fi_of (by simp -implicitDefEqProofs (disch := omega) [szB_ok, rngB_ok, h])
theorem no_name_for {b : Bk} (hb : BookOk b) {d : D} (h : F_is_name [d] = .ok (.bl false)) : F__law_do_v5 [.int 1, bkD b, d] = .ok (.str "no name") := by
  refine do5_1n ?_
  refine fi_run (show Fi _ (g_numbers_for [.dat (bkD b), .dat (d), .no, .no, .no, .no]) from ?_)
  rw [g_numbers_for]
  refine p_seq (ρ1 := [.dat (bkD b), .dat (d), .no, .no, .no, .no]) (by simp -implicitDefEqProofs (disch := omega) [szB_ok, rngB_ok, hb]) ?_
  exact fi_of (by simp -implicitDefEqProofs (disch := omega) [szB_ok, rngB_ok, F_look_name, g_look_name, runD_eq, h])
end PG

/-! the plain law: names behind a sign -/
namespace PG
open PySem PySem.Spec PyProof.Rows L2 VL
theorem inL_map {α : Type} [DecidableEq α] {enc : α → D} (neg : Bool) (hf : ∀ a, flatD (enc a) = true) (he : ∀ a b, eqF (enc a) (enc b) = decide (a = b)) (x : α) (l : List α) :
    inLD neg (enc x) (.lst (l.map enc)) = some (.bl (if neg = true then !decide (x ∈ l) else decide (x ∈ l))) := by
  have h1 : (l.map enc).all flatD = true := by
    rw [List.all_eq_true]
    intro d hd
    obtain ⟨a, _, rfl⟩ := List.mem_map.mp hd
    exact hf a
  have h2 : ((l.map enc).any fun y => eqF y (enc x)) = decide (x ∈ l) := by
    rw [List.any_map]
    induction l with
    | nil => rfl
    | cons a l ih =>
      have h1' : (l.map enc).all flatD = true := by
        rw [List.map_cons, List.all_cons] at h1
        simp at h1 ⊢
        exact h1.2
      rw [List.any_cons, ih h1']
      simp only [Function.comp, he]
      rw [← Bool.decide_or]
      refine decide_eq_decide.mpr ?_
      rw [List.mem_cons]
      exact or_congr eq_comm Iff.rfl
  show (if flatD (enc x) = true ∧ (l.map enc).all flatD = true then _ else _) = _
  rw [if_pos ⟨hf x, h1⟩, h2]
theorem inL_key (k : Pr) (l : List Pr) : inLD false (.str (keyS k)) (.lst (l.map kyD)) = some (.bl (decide (k ∈ l))) := by
  have := inL_map (enc := kyD) false (fun _ => rfl) (fun a b => by
    show decide (keyS a = keyS b) = _
    simp) k l
  refine this.trans (congrArg (fun c => some (D.bl c)) ?_)
  rw [Bool.eq_iff_iff]
  simp
def lets (b : Bk) (s : Nat) : List Nat := (b.filter fun e => decide (e.1.1 = s) && !decide (e.1.2 = 62)).map fun e => e.1.2
theorem plus_sg (s c : Nat) : plusD (sgD s) (sgD c) = some (.str (keyS (s, c))) := by simp -implicitDefEqProofs (disch := omega) [szB_ok, rngB_ok, keyS]
theorem can_end_q {b : Bk} (h : b.length ≤ 1000) (s : Nat) : F_can_end [bkD b, sgD s] = .ok (.bl (decide ((s, 62) ∈ b.map (·.1)))) := by
  have pl := plus_sg s 62
  have ik := inL_key (s, 62) (b.map (·.1))
  rw [List.map_map] at ik
  simp -implicitDefEqProofs (disch := omega) [szB_ok, rngB_ok, F_can_end, g_can_end, runD_eq, lit_gt, any_bk, pl]
  rw [lc_map [.dat (bkD b), .dat (sgD s), .no, .no] (fun e => kyD e.1)]
  · have e9 : b.map (fun e => kyD e.1) = b.map (kyD ∘ fun x => x.1) := rfl
    simp -implicitDefEqProofs (disch := omega) [szB_ok, rngB_ok, e9, ik]
  · intro e he
    simp -implicitDefEqProofs (disch := omega) [szB_ok, rngB_ok, enD]
  all_goals try simp
  omega
theorem lets_q {b : Bk} (h : b.length ≤ 1000) (s : Nat) : F_letters_behind [bkD b, sgD s] = .ok (.lst ((lets b s).map sgD)) := by
  simp -implicitDefEqProofs (disch := omega) [szB_ok, rngB_ok, F_letters_behind, g_letters_behind, runD_eq, lit_gt, any_bk]
  rw [lc_filter [.dat (bkD b), .dat (sgD s), .no, .no] (fun e => decide (e.1.1 = s) && !decide (e.1.2 = 62)) (fun e => sgD e.1.2)]
  · simp -implicitDefEqProofs (disch := omega) [szB_ok, rngB_ok, lets, Function.comp_def]
  · intro e he
    by_cases q : e.1.1 = s
    · simp -implicitDefEqProofs (disch := omega) [szB_ok, rngB_ok, enD, keyS, S_one, q]
    · simp -implicitDefEqProofs (disch := omega) [szB_ok, rngB_ok, enD, keyS, S_one, q]
  all_goals try simp
  omega
/-- the names of n letters that end, behind s -/
def tells (b : Bk) : Nat → Nat → List (List Nat)
  | s, 0 => if (s, 62) ∈ b.map (·.1) then [[]] else []
  | s, n + 1 => (lets b s).flatMap fun c => (tells b c n).map (c :: ·)
theorem any_lets (b : Bk) (s n : Nat) : tells b s (n + 1) = (lets b s).flatMap fun c => (tells b c n).map (c :: ·) := by
  conv => lhs; unfold tells
theorem any_map_bl {α : Type} (l : List α) (p : α → Bool) : anyD [.lst (l.map fun a => .bl (p a))] = some (.bl (l.any p)) := by
  rw [any_lst]
  have : blsD (l.map fun a => D.bl (p a)) = some (l.map p) := by
    induction l with
    | nil => rfl
    | cons a l ih =>
      rw [List.map_cons]
      show (blsD (l.map fun a => D.bl (p a))).map (p a :: ·) = _
      rw [ih]
      rfl
  rw [this]
  simp [List.any_map, Function.comp_def]
theorem can_tell_q {b : Bk} (h : b.length ≤ 1000) : ∀ (n s j : Nat), n < j → recD 1 g_can_tell j [bkD b, sgD s, .int (n : Int)] = .ok (.bl (decide (tells b s n ≠ [])))
  | 0, s, j + 1, _ => by
    have ce := can_end_q h s
    show runD 1 (g_can_tell (recD 1 g_can_tell j)) [bkD b, sgD s, .int 0] = _
    simp -implicitDefEqProofs (disch := omega) [szB_ok, rngB_ok, g_can_tell, runD_eq, ce]
    unfold tells
    by_cases q : (s, 62) ∈ b.map (·.1)
    · rw [if_pos q]
      simpa using q
    · rw [if_neg q]
      simpa using q
  | n + 1, s, j + 1, hj => by
    have lq := lets_q h s
    have ih := fun c => can_tell_q h n c j (by omega)
    have hl : (lets b s).length ≤ 1000 := by
      unfold lets
      rw [List.length_map]
      exact Nat.le_trans (List.length_filter_le _ _) h
    have e0 : ¬ ((n : Int) + 1 = 0) := by omega
    have e1 : (n : Int) + 1 - 1 = n := by omega
    have am := any_map_bl (lets b s) fun c => decide (tells b c n ≠ [])
    show runD 1 (g_can_tell (recD 1 g_can_tell j)) [bkD b, sgD s, .int ((n : Int) + 1)] = _
    simp -implicitDefEqProofs (disch := omega) [szB_ok, rngB_ok, g_can_tell, runD_eq, lq, e0]
    rw [lc_map [.dat (bkD b), .dat (sgD s), .dat (.int ((n : Int) + 1)), .no] (fun c => .bl (decide (tells b c n ≠ [])))]
    · simp -implicitDefEqProofs (disch := omega) [szB_ok, rngB_ok, am]
      rw [Bool.eq_iff_iff, List.any_eq_true]
      have ee : (!decide (tells b s (n + 1) = [])) = true ↔ tells b s (n + 1) ≠ [] := by simp
      rw [ee, any_lets]
      constructor
      · rintro ⟨c, hc, hd⟩ z
        rw [List.flatMap_eq_nil_iff] at z
        have := z c hc
        simp at this hd
        exact hd this
      · intro z
        false_or_by_contra
        rename_i w
        refine z (List.flatMap_eq_nil_iff.mpr fun c hc => ?_)
        simp
        false_or_by_contra
        rename_i w2
        exact w ⟨c, hc, by simpa using w2⟩
    · intro c hc
      have := ih c
      simp -implicitDefEqProofs (disch := omega) [szB_ok, rngB_ok, e1, this]
    all_goals try simp
    omega
theorem tells_len : ∀ (b : Bk) (n s : Nat) {l : List Nat}, l ∈ tells b s n → l.length = n
  | b, 0, s, l, h => by
    unfold tells at h
    split at h
    · simp at h
      rw [h]
      rfl
    · cases h
  | b, n + 1, s, l, h => by
    unfold tells at h
    obtain ⟨c, _, h⟩ := List.mem_flatMap.mp h
    obtain ⟨l', h', rfl⟩ := List.mem_map.mp h
    rw [List.length_cons, tells_len b n c h']
def lastS (t : List Nat) : Nat := t.getLast?.getD 60
theorem last_snoc (t : List Nat) (c : Nat) : lastS (t ++ [c]) = c := by simp [lastS]
theorem behind_names {b : Bk} (h : b.length ≤ 1000) : ∀ (n : Nat) (t : List Nat) (m j : Nat), n < j → n < 8 → 0 < m → m ≤ 1000000 → t.length + n ≤ 1000 →
    recD 3 g_names_behind j [bkD b, .str (S t), .int (n : Int), .int (m : Int)] = .ok (.lst ((((tells b (lastS t) n).take m).map fun l => t ++ l).map txD))
  | n, t, m, j + 1, hj, h8, hm, hm2, hl => by
    have ls : ∀ (x y : VL.Slot), s_set 4 (e_if (t_val (e_op neD (e_name 1) (e_k (.str "")))) (e_op subD2 (e_name 1) (e_neg (e_k (.int 1)))) (e_k (.str "<"))) [.dat (bkD b), .dat (.str (S t)), .dat (.int (n : Int)), .dat (.int (m : Int)), .no, x, y] = .next [.dat (bkD b), .dat (.str (S t)), .dat (.int (n : Int)), .dat (.int (m : Int)), .dat (sgD (lastS t)), x, y] := fun x y => by
      rcases List.eq_nil_or_concat t with rfl | ⟨w, c, rfl⟩
      · simp -implicitDefEqProofs (disch := omega) [szB_ok, rngB_ok, lit_empty, lit_lt, lastS]
      · rw [List.concat_eq_append] at *
        rw [last_snoc]
        have z : szB (w.length + 1) = true := szB_ok (by simp at hl; omega)
        simp -implicitDefEqProofs (disch := omega) [szB_ok, rngB_ok, lit_empty, lit_lt, z, atI_last]
        rfl
    refine fi_run (show Fi _ (g_names_behind (recD 3 g_names_behind j) [.dat (bkD b), .dat (.str (S t)), .dat (.int (n : Int)), .dat (.int (m : Int)), .no, .no, .no]) from ?_)
    rw [g_names_behind]
    refine p_seq (ls _ _) ?_
    generalize lastS t = s
    have ce := can_end_q h s
    match n, hj, h8, hl with
    | 0, _, _, _ =>
      refine fi_of ?_
      simp -implicitDefEqProofs (disch := omega) [szB_ok, rngB_ok, ce]
      unfold tells
      have e : ((1 : Nat) - 1) = 0 := rfl
      by_cases q : (s, 62) ∈ b.map (·.1)
      · obtain ⟨m', rfl⟩ : ∃ m', m = m' + 1 := ⟨m - 1, by omega⟩
        rw [if_pos q]
        have q2 := q
        simp only [List.mem_map] at q2
        simp -implicitDefEqProofs (disch := omega) [szB_ok, rngB_ok, q2]
      · rw [if_neg q]
        have q2 := q
        simp only [List.mem_map] at q2
        simp -implicitDefEqProofs (disch := omega) [szB_ok, rngB_ok, q2]
    | n + 1, hj, h8, hl =>
      have lq := lets_q h s
      have e0 : ¬ ((n : Int) + 1 = 0) := by omega
      have e1 : (n : Int) + 1 - 1 = n := by omega
      have hll : (lets b s).length ≤ 1000 := by
        unfold lets
        rw [List.length_map]
        exact Nat.le_trans (List.length_filter_le _ _) h
      have ct := fun c => can_tell_q h n c 8 (by omega)
      rw [any_lets]
      refine p_seq (ρ1 := [.dat (bkD b), .dat (.str (S t)), .dat (.int ((n : Int) + 1)), .dat (.int (m : Int)), .dat (sgD s), .no, .no]) (by simp -implicitDefEqProofs (disch := omega) [szB_ok, rngB_ok, e0]) ?_
      refine p_seq (ρ1 := [.dat (bkD b), .dat (.str (S t)), .dat (.int ((n : Int) + 1)), .dat (.int (m : Int)), .dat (sgD s), .own (.L ([])), .no]) (by simp -implicitDefEqProofs (disch := omega) [szB_ok, rngB_ok]) ?_
      refine p_for sgD (lets b s) (ρ1 := [.dat (bkD b), .dat (.str (S t)), .dat (.int ((n : Int) + 1)), .dat (.int (m : Int)), .dat (sgD s), .own (.L ([])), .no]) (by simp -implicitDefEqProofs (disch := omega) [szB_ok, rngB_ok, lq])
        (fun pre ρ => ∃ x : VL.Slot, ρ = [.dat (bkD b), .dat (.str (S t)), .dat (.int ((n : Int) + 1)), .dat (.int (m : Int)), .dat (sgD s), .own (.L (((((pre.flatMap fun c => (tells b c n).map (c :: ·)).take m).map fun l => t ++ l).map txD))), x])
        (fun pre c post ρ el ⟨x, hi⟩ => ?_) ⟨.no, by simp⟩ fun ρ' ⟨x, hi⟩ => ?_
      · subst hi
        refine ⟨[.dat (bkD b), .dat (.str (S t)), .dat (.int ((n : Int) + 1)), .dat (.int (m : Int)), .dat (sgD s), .own (.L (((((pre.flatMap fun c => (tells b c n).map (c :: ·)).take m).map fun l => t ++ l).map txD))), .dat (sgD c)], rfl, ?_⟩
        have ctc : F_can_tell [bkD b, sgD c, .int (n : Int)] = _ := ct c
        rw [List.flatMap_append, List.flatMap_singleton, List.take_append]
        generalize hP : (pre.flatMap fun c => (tells b c n).map (c :: ·)) = P at *
        have hPl : (((P.take m).map fun l => t ++ l).map txD).length = min m P.length := by simp
        have pt : plusD (.str (S t)) (sgD c) = some (.str (S (t ++ [c]))) := by
          have z : szB (t.length + 1) = true := szB_ok (by omega)
          simp -implicitDefEqProofs (disch := omega) [szB_ok, rngB_ok]
        by_cases w : P.length < m
        · have hmin : min m P.length = P.length := by omega
          rw [hmin] at hPl
          have lt : (P.length : Int) < m := by omega
          by_cases q : tells b c n = []
          · refine nx_of (ρ := [.dat (bkD b), .dat (.str (S t)), .dat (.int ((n : Int) + 1)), .dat (.int (m : Int)), .dat (sgD s), .own (.L ((((P.take m).map fun l => t ++ l).map txD))), .dat (sgD c)]) ?_ ⟨sgD c |> .dat, by simp [q]⟩
            simp only [q, ne_eq, not_true_eq_false, decide_false] at ctc
            simp -implicitDefEqProofs (disch := omega) [szB_ok, rngB_ok, hmin, lt, ctc, e1]
          · have ih := behind_names h n (t ++ [c]) (m - P.length) j (by omega) (by omega) (by omega) (by omega) (by rw [List.length_append]; simp; omega)
            rw [last_snoc, show ((m - P.length : Nat) : Int) = (m : Int) - P.length by omega] at ih
            have hq : decide (tells b c n ≠ []) = true := by simpa using q
            rw [hq] at ctc
            refine nx_of (ρ := [.dat (bkD b), .dat (.str (S t)), .dat (.int ((n : Int) + 1)), .dat (.int (m : Int)), .dat (sgD s), .own (.L ((((P.take m).map fun l => t ++ l).map txD) ++ ((((tells b c n).take (m - P.length)).map fun l => t ++ [c] ++ l).map txD))), .dat (sgD c)]) ?_ ⟨sgD c |> .dat, by simp [← List.map_take, Function.comp_def]⟩
            have z : szB (P.length + min (m - P.length) (tells b c n).length) = true := szB_ok (by omega)
            simp -implicitDefEqProofs (disch := omega) [szB_ok, rngB_ok, hmin, lt, ctc, e1, pt, ih, z]
        · have hmin : min m P.length = m := by omega
          have lt : ¬ (m : Int) < m := by omega
          refine nx_of (ρ := [.dat (bkD b), .dat (.str (S t)), .dat (.int ((n : Int) + 1)), .dat (.int (m : Int)), .dat (sgD s), .own (.L ((((P.take m).map fun l => t ++ l).map txD))), .dat (sgD c)]) ?_ ⟨sgD c |> .dat, by
            have : m - P.length = 0 := by omega
            simp [this]⟩
          simp -implicitDefEqProofs (disch := omega) [szB_ok, rngB_ok, hmin, lt]
      · subst hi
        exact fi_of (by simp -implicitDefEqProofs (disch := omega) [szB_ok, rngB_ok])
end PG

/-! the plain law: books in order of a name's chance -/
namespace PG
open PySem PySem.Spec PyProof.Rows L2 VL
/-- a while, by a number that falls -/
theorem p_while {P : RS → Prop} {fu : VL.Env → Nat} {c : EM Bool} {body g : SM} {ρ : VL.Env} (k : Nat) (Inv : Nat → VL.Env → Prop) (h0 : Inv k ρ) (hk : k < fu ρ)
    (h : ∀ k ρ, Inv k ρ → ∃ b ρ1, c ρ = .ok b ρ1 ∧ (b = true → ∃ k', k' < k ∧ Nx (Inv k') (body ρ1)) ∧ (b = false → P (g ρ1))) : P (s_seq (s_while fu c body) g ρ) := by
  have key : ∀ (n k : Nat) (ρ : VL.Env), Inv k ρ → k < n → P ((whileD c body n ρ).then g) := by
    intro n
    induction n with
    | zero => intro k ρ _ hk; omega
    | succ n ih =>
      intro k ρ hi hk
      obtain ⟨b, ρ1, e1, e2, e3⟩ := h k ρ hi
      unfold whileD
      rw [e1]
      cases b with
      | true =>
        obtain ⟨k', hk', ρ2, e4, i2⟩ := e2 rfl
        rcases e4 with e4 | e4
        · simp only [e4, if_true]
          exact ih k' ρ2 i2 (by omega)
        · simp only [e4, if_true]
          exact ih k' ρ2 i2 (by omega)
      | false => exact e3 rfl
  rw [s_seq_a]
  exact key _ k ρ h0 hk
def bestN (q : Nat → Rat) (l : List Nat) (x : Nat) : Nat := l.foldl (fun best n => if q best < q n then n else best) x
theorem bestN_spec (q : Nat → Rat) : ∀ (l : List Nat) (x : Nat), (bestN q l x = x ∨ bestN q l x ∈ l) ∧ q x ≤ q (bestN q l x) ∧ ∀ y ∈ l, q y ≤ q (bestN q l x)
  | [], x => ⟨.inl rfl, Rat.le_refl, by simp⟩
  | n :: l, x => by
    have ih := bestN_spec q l (if q x < q n then n else x)
    have e : bestN q (n :: l) x = bestN q l (if q x < q n then n else x) := rfl
    rw [e]
    by_cases w : q x < q n
    · rw [if_pos w] at ih ⊢
      obtain ⟨i1, i2, i3⟩ := ih
      refine ⟨.inr ?_, by grind, fun y hy => ?_⟩
      · rcases i1 with i1 | i1
        · rw [i1]; exact List.mem_cons_self ..
        · exact List.mem_cons_of_mem _ i1
      · rcases List.mem_cons.mp hy with rfl | hy
        · exact i2
        · exact i3 y hy
    · rw [if_neg w] at ih ⊢
      obtain ⟨i1, i2, i3⟩ := ih
      refine ⟨?_, i2, fun y hy => ?_⟩
      · rcases i1 with i1 | i1
        · exact .inl i1
        · exact .inr (List.mem_cons_of_mem _ i1)
      · rcases List.mem_cons.mp hy with rfl | hy
        · grind
        · exact i3 y hy
/-- ranks by q: what is made so far, what is left -/
structure Rk (q : Nat → Rat) (n : Nat) (made left : List Nat) : Prop where
  perm : (made ++ left).Perm (List.range n)
  down : made.Pairwise fun a b => q b ≤ q a
  over : ∀ a ∈ made, ∀ b ∈ left, q b ≤ q a
theorem Rk.start (q : Nat → Rat) (n : Nat) : Rk q n [] (List.range n) := ⟨List.Perm.refl _, List.Pairwise.nil, by simp⟩
theorem Rk.step {q : Nat → Rat} {n : Nat} {made left : List Nat} {x : Nat} (h : Rk q n made left) (hx : x ∈ left) (hm : ∀ y ∈ left, q y ≤ q x) : Rk q n (made ++ [x]) (left.erase x) where
  perm := by
    refine List.Perm.trans ?_ h.perm
    rw [List.append_assoc]
    exact List.Perm.append_left _ (List.perm_cons_erase hx).symm
  down := by
    rw [List.pairwise_append]
    exact ⟨h.down, List.pairwise_singleton .., fun a ha b hb => by
      rw [List.mem_singleton.mp hb]
      exact h.over a ha x hx⟩
  over := fun a ha b hb => by
    have hb := List.mem_of_mem_erase hb
    rcases List.mem_append.mp ha with q | q
    · exact h.over a q b hb
    · rw [List.mem_singleton.mp q]
      exact hm b hb
/-- a walk of an own list that the body leaves alone -/
theorem p_forO {P : RS → Prop} {α : Type} {i : Nat} {tg : D → VL.Env → Option VL.Env} {body g : SM} (enc : α → D) (l : List α) {ρ : VL.Env} (Inv : List α → VL.Env → Prop) (h0 : Inv [] ρ)
    (ho : ∀ pre ρ, Inv pre ρ → ρ[i]? = some (.own (.L (l.map enc))))
    (h : ∀ (pre : List α) (a : α) (post : List α) (ρ : VL.Env), l = pre ++ a :: post → Inv pre ρ → ∃ ρ1, tg (enc a) ρ = some ρ1 ∧ Nx (Inv (pre ++ [a])) (body ρ1))
    (hq : ∀ ρ', Inv l ρ' → P (g ρ')) : P (s_seq (s_forO i tg body) g ρ) := by
  have key : ∀ (post pre : List α) (n : Nat) (ρ : VL.Env), l = pre ++ post → Inv pre ρ → post.length < n → P ((forOD i tg body n pre.length ρ).then g) := by
    intro post
    induction post with
    | nil =>
      intro pre n ρ e hi hn
      obtain ⟨n, rfl⟩ : ∃ n', n = n' + 1 := ⟨n - 1, by omega⟩
      unfold forOD
      rw [ho pre ρ hi]
      have e2 : (l.map enc)[pre.length]? = none := by
        rw [e, List.append_nil]
        simp
      dsimp only
      rw [e2]
      rw [List.append_nil] at e
      subst e
      exact hq ρ hi
    | cons a post ih =>
      intro pre n ρ e hi hn
      obtain ⟨n, rfl⟩ : ∃ n', n = n' + 1 := ⟨n - 1, by omega⟩
      unfold forOD
      rw [ho pre ρ hi]
      have e2 : (l.map enc)[pre.length]? = some (enc a) := by
        rw [e]
        simp
      dsimp only
      rw [e2]
      obtain ⟨ρ1, f1, ρ2, f2, f3⟩ := h pre a post ρ e hi
      dsimp only
      rw [f1]
      have := ih (pre ++ [a]) n ρ2 (by rw [e]; simp) f3 (by simp at hn ⊢; omega)
      rw [List.length_append, List.length_singleton] at this
      rcases f2 with f2 | f2
      · simp only [f2]
        exact this
      · simp only [f2]
        exact this
  rw [s_seq_a]
  have e : s_forO i tg body ρ = forOD i tg body ((l.map enc).length + 1) 0 ρ := by
    unfold s_forO
    rw [ho [] ρ h0]
  rw [e]
  exact key l [] _ ρ rfl h0 (by simp)
abbrev itD (i : Nat) : D := .int (i : Int)
theorem rem_it (l : List Nat) {x : Nat} (h : x ∈ l) : remH (l.map itD) [itD x] = some ((l.erase x).map itD) := by
  have e1 : intsD (l.map itD) = some (l.map fun i : Nat => (i : Int)) := ints_map _ _
  show (intsD (l.map itD)).bind _ = _
  rw [e1]
  show (remZ (l.map fun i : Nat => (i : Int)) (x : Int)).map _ = _
  have : remZ (l.map fun i : Nat => (i : Int)) (x : Int) = some ((l.erase x).map fun i : Nat => (i : Int)) := by
    induction l with
    | nil => cases h
    | cons a l ih =>
      rw [List.map_cons]
      unfold remZ
      by_cases q : a = x
      · subst q
        simp
      · have q2 : ¬ (a : Int) = (x : Int) := by omega
        have hx : x ∈ l := (List.mem_cons.mp h).resolve_left fun z => q z.symm
        rw [if_neg q2, ih hx (ints_map _ _), List.erase_cons_tail (by simpa using q)]
        rfl
  rw [this]
  simp
theorem pu_its (l : List Nat) : puL (l.map itD) = true ∧ dptL (l.map itD) = 0 := by
  induction l with
  | nil => exact ⟨rfl, rfl⟩
  | cons c l ih => exact ⟨by simp [puL, pu, ih.1], by simp [dptL, dpt, ih.2]⟩
theorem ne_its_nil (l : List Nat) : neD (.lst (l.map itD)) (.lst []) = some (.bl (!decide (l = []))) := by
  have := pu_its l
  exact ne_pu (by simp [pu, this.1]) rfl (by simp [dpt, this.2]) (by decide) _ (by simp)
theorem order_of_q {Bs : List Bk} (hB : ∀ b ∈ Bs, BookOk b) (hl : Bs.length ≤ 5) {n : List Nat} (hn : n.length ≤ 6) :
    ∃ r : List Nat, F_order_of [.lst (Bs.map bkD), .str (S n)] = .ok (.lst (r.map itD)) ∧ Rk (fun i => softChQ (Bs.getD i []) n) Bs.length r [] := by
  generalize hq : (fun i => softChQ (Bs.getD i []) n) = q
  have hbd : ∀ i, i < Bs.length → Bd 120 (q i) := fun i hi => by
    rw [← hq]
    have e : Bs.getD i [] = Bs[i] := by simp [List.getD, List.getElem?_eq_getElem hi]
    dsimp only
    rw [e]
    exact softCh_bd (hB _ (List.getElem_mem hi)) hn
  have hqs : Bs.map (fun b => softChQ b n) = (List.range Bs.length).map q := by
    refine List.ext_getElem (by simp) fun i h1 h2 => ?_
    have hi : i < Bs.length := by simpa using h1
    rw [List.getElem_map, List.getElem_map, List.getElem_range]
    have := congrFun hq i
    rw [← this]
    simp [List.getD, List.getElem?_eq_getElem hi]
  have hget : ∀ i, i < Bs.length → atI ((Bs.map fun b => softChQ b n).map qD) (i : Int) = some (qD (q i)) := fun i hi => by
    rw [hqs, atI_k, List.getElem?_map, List.getElem?_map, List.getElem?_range hi]
    rfl
  have fin : ∃ r : List Nat, Rk q Bs.length r [] ∧ Fi (.ok (.lst (r.map itD))) (g_order_of [.dat (.lst (Bs.map bkD)), .dat (.str (S n)), .no, .no, .no, .no, .no, .no]) := by
    rw [g_order_of]
    refine p_seq (P := fun R => ∃ r : List Nat, Rk q Bs.length r [] ∧ Fi (.ok (.lst (r.map itD))) R) (ρ1 := [.dat (.lst (Bs.map bkD)), .dat (.str (S n)), .own (.L ((List.range Bs.length).map itD)), .no, .no, .no, .no, .no]) (by
      have h1 : (0 : Int) ≤ Bs.length ∧ (Bs.length : Int) ≤ 16777216 := by omega
      have rr := range_eq Bs.length
      simp -implicitDefEqProofs (disch := omega) [szB_ok, rngB_ok, h1, rr]) ?_
    refine p_seq (P := fun R => ∃ r : List Nat, Rk q Bs.length r [] ∧ Fi (.ok (.lst (r.map itD))) R) (ρ1 := [.dat (.lst (Bs.map bkD)), .dat (.str (S n)), .own (.L ((List.range Bs.length).map itD)), .own (.L ((Bs.map fun b => softChQ b n).map qD)), .no, .no, .no, .no]) (by
      simp -implicitDefEqProofs (disch := omega) [szB_ok, rngB_ok]
      rw [lc_map [.dat (.lst (Bs.map bkD)), .dat (.str (S n)), .own (.L ((List.range Bs.length).map itD)), .no, .no, .no, .no, .no] (fun b => qD (softChQ b n))]
      · simp -implicitDefEqProofs (disch := omega) [szB_ok, rngB_ok, Function.comp_def]
      · intro b hb
        have := soft_chance_of_q (hB b hb) (n := n) (by omega)
        simp -implicitDefEqProofs (disch := omega) [szB_ok, rngB_ok, this]
      all_goals try simp
      omega) ?_
    refine p_seq (P := fun R => ∃ r : List Nat, Rk q Bs.length r [] ∧ Fi (.ok (.lst (r.map itD))) R) (ρ1 := [.dat (.lst (Bs.map bkD)), .dat (.str (S n)), .own (.L ((List.range Bs.length).map itD)), .own (.L ((Bs.map fun b => softChQ b n).map qD)), .no, .own (.L ([])), .no, .no]) (by simp -implicitDefEqProofs (disch := omega) [szB_ok, rngB_ok]) ?_
    generalize hQ : (Bs.map fun b => softChQ b n).map qD = Q at *
    refine p_while (P := fun R => ∃ r : List Nat, Rk q Bs.length r [] ∧ Fi (.ok (.lst (r.map itD))) R) Bs.length (fun k ρ => ∃ (made left : List Nat) (x3 x6 x7 : VL.Slot), Rk q Bs.length made left ∧ left.length = k ∧ (x3 = .own (.L Q) ∨ x3 = .dat (.lst Q)) ∧ ρ = [.dat (.lst (Bs.map bkD)), .dat (.str (S n)), .own (.L (left.map itD)), x3, .no, .own (.L (made.map itD)), x6, x7])
      ⟨[], List.range Bs.length, _, _, _, Rk.start q _, by simp, .inl rfl, rfl⟩ (show Bs.length < 64 by omega) fun k ρ ⟨made, left, x3, x6, x7, hr, hk, h3, hi⟩ => ?_
    subst hi
    have ne := ne_its_nil left
    have hml : ∀ x ∈ left, x < Bs.length := fun x hx => List.mem_range.mp (hr.perm.mem_iff.mp (List.mem_append_right _ hx))
    have hmk : made.length + left.length = Bs.length := by have := hr.perm.length_eq; simp at this; omega
    refine ⟨!decide (left = []), [.dat (.lst (Bs.map bkD)), .dat (.str (S n)), .own (.L (left.map itD)), x3, .no, .own (.L (made.map itD)), x6, x7], by simp -implicitDefEqProofs (disch := omega) [szB_ok, rngB_ok, ne], fun hb => ?_, fun hb => ?_⟩
    · cases left with
      | nil => simp at hb
      | cons y left =>
        refine ⟨k - 1, by simp at hk; omega, ?_⟩
        have hy := hml y (List.mem_cons_self ..)
        have bs := bestN_spec q (y :: left) y
        refine p_seq (ρ1 := [.dat (.lst (Bs.map bkD)), .dat (.str (S n)), .own (.L ((y :: left).map itD)), x3, .no, .own (.L (made.map itD)), .dat (itD (bestN q [] y)), x7]) (by simp -implicitDefEqProofs (disch := omega) [szB_ok, rngB_ok, bestN]) ?_
        refine p_forO itD (y :: left) (fun pre ρ => ∃ z3 z7 : VL.Slot, (z3 = .own (.L Q) ∨ z3 = .dat (.lst Q)) ∧ ρ = [.dat (.lst (Bs.map bkD)), .dat (.str (S n)), .own (.L ((y :: left).map itD)), z3, .no, .own (.L (made.map itD)), .dat (itD (bestN q pre y)), z7])
          ⟨_, _, h3, rfl⟩ (fun pre ρ ⟨_, _, _, hi⟩ => by subst hi; rfl) (fun pre a post ρ el ⟨z3, z7, g3, hi⟩ => ?_) fun ρ' ⟨z3, z7, g3, hi⟩ => ?_
        · subst hi
          have ha := hml a (by rw [el]; simp)
          have hbp : bestN q pre y < Bs.length := by
            rcases (bestN_spec q pre y).1 with w | w
            · rw [w]; exact hy
            · exact hml _ (by rw [el]; exact List.mem_append_left _ w)
          have il := is_less_q (hbd _ hbp) (hbd _ ha) (by decide) (by decide)
          have g1 := hget _ hbp
          have g2 := hget _ ha
          refine ⟨[.dat (.lst (Bs.map bkD)), .dat (.str (S n)), .own (.L ((y :: left).map itD)), z3, .no, .own (.L (made.map itD)), .dat (itD (bestN q pre y)), .dat (itD a)], rfl, ?_⟩
          refine nx_of (ρ := [.dat (.lst (Bs.map bkD)), .dat (.str (S n)), .own (.L ((y :: left).map itD)), .dat (.lst Q), .no, .own (.L (made.map itD)), .dat (itD (bestN q (pre ++ [a]) y)), .dat (itD a)]) ?_ ⟨_, _, .inr rfl, rfl⟩
          have e : bestN q (pre ++ [a]) y = if q (bestN q pre y) < q a then a else bestN q pre y := by
            show (pre ++ [a]).foldl _ y = _
            rw [List.foldl_append]
            rfl
          rw [e]
          by_cases w : q (bestN q pre y) < q a
          · rw [if_pos w]
            rw [decide_eq_true w] at il
            rcases g3 with rfl | rfl
            · simp -implicitDefEqProofs (disch := omega) [szB_ok, rngB_ok, g1, g2, il]
            · simp -implicitDefEqProofs (disch := omega) [szB_ok, rngB_ok, g1, g2, il]
          · rw [if_neg w]
            rw [decide_eq_false w] at il
            rcases g3 with rfl | rfl
            · simp -implicitDefEqProofs (disch := omega) [szB_ok, rngB_ok, g1, g2, il]
            · simp -implicitDefEqProofs (disch := omega) [szB_ok, rngB_ok, g1, g2, il]
        · subst hi
          generalize bestN q (y :: left) y = x at *
          have hx : x ∈ y :: left := by
            rcases bs.1 with w | w
            · rw [w]; exact List.mem_cons_self ..
            · exact w
          have rm := rem_it (y :: left) hx
          refine p_seq (ρ1 := [.dat (.lst (Bs.map bkD)), .dat (.str (S n)), .own (.L (((y :: left).erase x).map itD)), z3, .no, .own (.L (made.map itD)), .dat (itD x), z7]) (by
            generalize (y :: left).map itD = U at *
            simp -implicitDefEqProofs (disch := omega) [szB_ok, rngB_ok, rm]) ?_
          refine nx_of (ρ := [.dat (.lst (Bs.map bkD)), .dat (.str (S n)), .own (.L (((y :: left).erase x).map itD)), z3, .no, .own (.L ((made ++ [x]).map itD)), .dat (itD x), z7]) ?_ ⟨made ++ [x], (y :: left).erase x, _, _, _, hr.step hx bs.2.2, ?_, g3, rfl⟩
          · have z : szL made.length = true := szL_ok (by omega)
            simp -implicitDefEqProofs (disch := omega) [szB_ok, rngB_ok, z]
          · rw [List.length_erase_of_mem hx]
            omega
    · have hnil : left = [] := by simpa using hb
      subst hnil
      exact ⟨made, hr, fi_of (by simp -implicitDefEqProofs (disch := omega) [szB_ok, rngB_ok])⟩
  obtain ⟨r, h1, h2⟩ := fin
  exact ⟨r, fi_run h2, h1⟩
end PG

/-! the plain law: two books judged by names; the fewest that must go -/
namespace PG
open PySem PySem.Spec PyProof.Rows L2 VL
def judS (p q : Rat) : Str := if p = q then "same" else if p < q then "other" else "one"
def names6 (N : List (List Nat)) : Prop := N.length ≤ 6 ∧ ∀ n ∈ N, nameOk n = true
def lots (b : Bk) (N : List (List Nat)) : Rat := prodQ (N.map (softChQ b))
theorem lots_bd {b : Bk} (hb : BookOk b) {N : List (List Nat)} (hN : names6 N) : Bd 721 (lots b N) := by
  refine (prodQ_bd (m := 120) (qs := N.map (softChQ b)) fun q hq => ?_).mono ?_
  · obtain ⟨n, hn, rfl⟩ := List.mem_map.mp hq
    exact softCh_bd hb (nameOk_len (hN.2 n hn)).2
  · have := hN.1
    rw [List.length_map]
    omega
theorem lots_q {b : Bk} (hb : BookOk b) {N : List (List Nat)} (hN : names6 N) : F_product [.lst (N.map fun n => qD (softChQ b n))] = .ok (qD (lots b N)) := by
  have := product_q (m := 120) (qs := N.map (softChQ b)) (fun q hq => by
    obtain ⟨n, hn, rfl⟩ := List.mem_map.mp hq
    exact softCh_bd hb (nameOk_len (hN.2 n hn)).2) (by have := hN.1; rw [List.length_map]; omega) (by decide) (by have := hN.1; rw [List.length_map]; omega)
  rw [List.map_map] at this
  exact this
theorem judge_q {a b : Bk} (ha : BookOk a) (hb : BookOk b) {N : List (List Nat)} (hN : names6 N) : F_judge [bkD a, bkD b, .lst (N.map txD)] = .ok (.str (judS (lots a N) (lots b N))) := by
  have pa := lots_q ha hN
  have pb := lots_q hb hN
  have il := is_less_q (lots_bd ha hN) (lots_bd hb hN) (by decide) (by decide)
  have h6 := hN.1
  refine fi_run (show Fi _ (g_judge [.dat (bkD a), .dat (bkD b), .dat (.lst (N.map txD)), .no, .no, .no]) from ?_)
  rw [g_judge]
  refine p_seq (ρ1 := [.dat (bkD a), .dat (bkD b), .dat (.lst (N.map txD)), .dat (qD (lots a N)), .no, .no]) (by
    simp -implicitDefEqProofs (disch := omega) [szB_ok, rngB_ok]
    rw [lc_map [.dat (bkD a), .dat (bkD b), .dat (.lst (N.map txD)), .no, .no, .no] (fun n => qD (softChQ a n))]
    · simp -implicitDefEqProofs (disch := omega) [szB_ok, rngB_ok, pa]
    · intro n hn
      have := soft_chance_of_q ha (n := n) (by have := nameOk_len (hN.2 n hn); omega)
      simp -implicitDefEqProofs (disch := omega) [szB_ok, rngB_ok, this]
    all_goals try simp
    omega) ?_
  refine p_seq (ρ1 := [.dat (bkD a), .dat (bkD b), .dat (.lst (N.map txD)), .dat (qD (lots a N)), .no, .dat (qD (lots b N))]) (by
    simp -implicitDefEqProofs (disch := omega) [szB_ok, rngB_ok]
    rw [lc_map [.dat (bkD a), .dat (bkD b), .dat (.lst (N.map txD)), .dat (qD (lots a N)), .no, .no] (fun n => qD (softChQ b n))]
    · simp -implicitDefEqProofs (disch := omega) [szB_ok, rngB_ok, pb]
    · intro n hn
      have := soft_chance_of_q hb (n := n) (by have := nameOk_len (hN.2 n hn); omega)
      simp -implicitDefEqProofs (disch := omega) [szB_ok, rngB_ok, this]
    all_goals try simp
    omega) ?_
  have eq := eq_q (lots a N) (lots b N)
  unfold judS
  by_cases w : lots a N = lots b N
  · rw [decide_eq_true w] at eq
    rw [if_pos w]
    exact fi_of (by simp -implicitDefEqProofs (disch := omega) [szB_ok, rngB_ok, eq])
  · rw [decide_eq_false w] at eq
    rw [if_neg w]
    by_cases w2 : lots a N < lots b N
    · rw [decide_eq_true w2] at il
      rw [if_pos w2]
      exact fi_of (by simp -implicitDefEqProofs (disch := omega) [szB_ok, rngB_ok, eq, il])
    · rw [decide_eq_false w2] at il
      rw [if_neg w2]
      exact fi_of (by simp -implicitDefEqProofs (disch := omega) [szB_ok, rngB_ok, eq, il])
theorem look_names_q {a b : Bk} (ha : BookOk a) (hb : BookOk b) {N : List (List Nat)} (hN : names6 N) : F_look_names [bkD a, bkD b, .lst (N.map txD)] = .ok .non := by
  have an := are_names_l (ns := N) (m := 6) hN.2 hN.1 (by decide)
  have an : F_are_names [.lst (N.map txD), .int 6] = _ := an
  simp -implicitDefEqProofs (disch := omega) [szB_ok, rngB_ok, F_look_names, g_look_names, runD_eq, ha, hb, an]
theorem judged_q {a b : Bk} (ha : BookOk a) (hb : BookOk b) {N : List (List Nat)} (hN : names6 N) : F_judged [bkD a, bkD b, .lst (N.map txD)] = .ok (.str (judS (lots a N) (lots b N))) := by
  have l := look_names_q ha hb hN
  have j := judge_q ha hb hN
  simp -implicitDefEqProofs (disch := omega) [szB_ok, rngB_ok, F_judged, g_judged, runD_eq, l, j]
/-! choices -/
def subs : Nat → List (List Int)
  | 0 => [[]]
  | n + 1 => subs n ++ (subs n).map (· ++ [(n : Int)])
abbrev chD (s : List Int) : D := .tup (s.map .int)
def prD (s : List Int) : D := .tup [.int (s.length : Nat), chD s]
def leC (a b : List Int) : Bool := decide (a.length < b.length ∨ (a.length = b.length ∧ a ≤ b))
theorem toPs_ints (l : List Int) : D.toPs (l.map .int) = l.map .int := by
  induction l with
  | nil => rfl
  | cons a l ih =>
    show _ :: _ = _ :: _
    rw [ih]
    rfl
theorem alike_ints : ∀ a b : List Int, PySem.W.alikeAll (a.map .int) (b.map .int) = true
  | [], _ => by simp [PySem.W.alikeAll]
  | _ :: _, [] => by simp [PySem.W.alikeAll]
  | x :: a, y :: b => by
    simp only [List.map_cons, PySem.W.alikeAll, PySem.W.alike, alike_ints a b, Bool.and_self]
theorem pu_ints' (l : List Int) : puL (l.map .int) = true := by
  induction l with
  | nil => rfl
  | cons c l ih => simp [puL, pu, ih]
theorem dpt_ints (l : List Int) : dptL (l.map .int) = 0 := by
  induction l with
  | nil => rfl
  | cons c l ih => simp [dptL, dpt, ih]
theorem leT_pr (a b : List Int) : leT (prD a) (prD b) = leC a b := by
  show (!PySem.W.dataLt (.tuple [.int (b.length : Nat), .tuple (D.toPs (b.map .int))]) (.tuple [.int (a.length : Nat), .tuple (D.toPs (a.map .int))])) = _
  rw [toPs_ints, toPs_ints, PySem.W.dataLt_pair (by simp [PySem.W.alike]) (by simp only [PySem.W.alike]; exact alike_ints b a), PySem.W.dataLt_int, PySem.W.dataLt_tuple, show PyProof.Rows.lexLt itemOrd (PySem.W.keyToksAll (b.map PyData.int)) (PySem.W.keyToksAll (a.map PyData.int)) = decide (b < a) from PySem.W.dataLt_ints b a]
  have e1 : PyData.eqv (.int (b.length : Nat)) (.int (a.length : Nat)) = decide (a.length = b.length) := by
    rw [Bool.eq_iff_iff, decide_eq_true_iff]
    simp [PyData.eqv]
    omega
  rw [e1]
  unfold leC
  by_cases q : a.length = b.length
  · have hn : ¬ a.length < b.length := by omega
    simp only [q, decide_true, if_true, Nat.lt_irrefl, false_or, true_and]
    by_cases w : PyData.eqv (PyData.tuple (b.map .int)) (PyData.tuple (a.map .int)) = true
    · rw [if_pos w]
      have hx : b = a := by
        have := (eqv_pu (x := chD b) (w := chD a) (by have := pu_ints' b; simpa [pu] using this) (by have := pu_ints' a; simpa [pu] using this)).mp (by
          show PyData.eqv (.tuple (D.toPs (b.map .int))) (.tuple (D.toPs (a.map .int))) = true
          rw [toPs_ints, toPs_ints]
          exact w)
        have := D.tup.inj this
        exact map_inj (fun x y h => by simpa using h) this
      subst hx
      simp
    · rw [if_neg w, ← decide_not]
      exact decide_eq_decide.mpr List.not_lt
  · have : decide (a.length = b.length) = false := by simpa using q
    simp only [this, q, decide_false, Bool.false_eq_true, if_false, false_and, or_false]
    rw [← decide_not]
    refine decide_eq_decide.mpr ?_
    omega
theorem leC_tot (a b : List Int) : (leC a b || leC b a) = true := by
  unfold leC
  rw [← Bool.decide_or, decide_eq_true_iff]
  rcases Nat.lt_trichotomy a.length b.length with h | h | h
  · exact .inl (.inl h)
  · rcases List.le_total a b with q | q
    · exact .inl (.inr ⟨h, q⟩)
    · exact .inr (.inr ⟨h.symm, q⟩)
  · exact .inr (.inl h)
theorem leC_trans (a b c : List Int) (h1 : leC a b = true) (h2 : leC b c = true) : leC a c = true := by
  unfold leC at *
  rw [decide_eq_true_iff] at *
  rcases h1 with h1 | ⟨h1, p1⟩
  · exact .inl (by omega)
  · rcases h2 with h2 | ⟨h2, p2⟩
    · exact .inl (by omega)
    · exact .inr ⟨by omega, List.le_trans p1 p2⟩
def csort (n : Nat) : List (List Int) := (subs n).mergeSort leC
theorem subs_cnt {n : Nat} (h : n ≤ 6) : (subs n).count [] = 1 := by
  match n, h with
  | 0, _ => decide
  | 1, _ => decide
  | 2, _ => decide
  | 3, _ => decide
  | 4, _ => decide
  | 5, _ => decide
  | 6, _ => decide
theorem subs_len (n : Nat) : (subs n).length = 2 ^ n := by
  induction n with
  | zero => rfl
  | succ n ih =>
    unfold subs
    rw [List.length_append, List.length_map, ih, Nat.pow_succ]
    omega
/-- the empty choice comes first, and once -/
theorem csort_head {n : Nat} (h : n ≤ 6) : ∃ r, csort n = [] :: r ∧ ∀ s ∈ r, s ≠ [] := by
  have hp : (csort n).Perm (subs n) := List.mergeSort_perm _ _
  have hs : (csort n).Pairwise fun a b => leC a b = true := List.pairwise_mergeSort leC_trans leC_tot _
  have hc : (csort n).count [] = 1 := by rw [hp.count_eq, subs_cnt h]
  generalize csort n = l at hp hs hc
  cases l with
  | nil => cases hc
  | cons a r =>
    have ha : a = [] := by
      false_or_by_contra
      rename_i q
      have hm : [] ∈ r := by
        have h1 : [] ∈ a :: r := List.count_pos_iff.mp (by omega)
        exact (List.mem_cons.mp h1).resolve_left fun z => q z.symm
      have := (List.pairwise_cons.mp hs).1 [] hm
      unfold leC at this
      rw [decide_eq_true_iff] at this
      rcases this with z | ⟨z, _⟩
      · simp at z
      · exact q (List.eq_nil_of_length_eq_zero z)
    subst ha
    refine ⟨r, rfl, fun s hsr z => ?_⟩
    subst z
    rw [List.count_cons_self] at hc
    have := List.count_pos_iff.mpr hsr
    omega
theorem plus_ch (s : List Int) (k : Int) (h : s.length ≤ 1000) : plusD (chD s) (.tup [.int k]) = some (chD (s ++ [k])) := by
  have z : szB (s.length + 1) = true := szB_ok (by omega)
  simp -implicitDefEqProofs (disch := omega) [szB_ok, rngB_ok, z]
theorem subs_short : ∀ (n : Nat), ∀ s ∈ subs n, s.length ≤ n
  | 0, s, h => by
    simp [subs] at h
    simp [h]
  | n + 1, s, h => by
    unfold subs at h
    rcases List.mem_append.mp h with h | h
    · have := subs_short n s h
      omega
    · obtain ⟨t, ht, rfl⟩ := List.mem_map.mp h
      have := subs_short n t ht
      simp
      omega
theorem sort_subs {n : Nat} (h : n ≤ 6) : sortedG [.lst ((subs n).map prD)] = some (.L ((csort n).map prD)) := by
  have ok : sortOk ((subs n).map prD) = true := by
    unfold sortOk
    simp only [Bool.and_eq_true, Bool.or_eq_true, List.all_eq_true, decide_eq_true_eq]
    refine ⟨fun x hx z hz => ?_, .inl fun x hx => ?_, fun x hx => ?_, ?_⟩
    · obtain ⟨e, _, rfl⟩ := List.mem_map.mp hx
      obtain ⟨f, _, rfl⟩ := List.mem_map.mp hz
      show PySem.W.alike (.tuple [.int (e.length : Nat), .tuple (D.toPs (e.map .int))]) (.tuple [.int (f.length : Nat), .tuple (D.toPs (f.map .int))]) = true
      rw [toPs_ints, toPs_ints]
      simp only [PySem.W.alike, PySem.W.alikeAll, alike_ints, Bool.and_self]
    · obtain ⟨e, _, rfl⟩ := List.mem_map.mp hx
      rfl
    · obtain ⟨e, _, rfl⟩ := List.mem_map.mp hx
      have p1 := pu_ints' e
      have p2 := dpt_ints e
      have := pu_lay (d := prD e) (by simp [prD, pu, puL, p1])
      refine ⟨this.1, ?_⟩
      rw [this.2]
      simp [prD, dpt, dptL, p2]
    · rw [List.length_map, subs_len]
      have : 2 ^ n ≤ 2 ^ 6 := Nat.pow_le_pow_right (by decide) h
      omega
  show (if sortOk ((subs n).map prD) = true then some (OD.L (((subs n).map prD).mergeSort leT)) else none) = _
  rw [if_pos ok]
  have e : ((subs n).map prD).mergeSort leT = (csort n).map prD := (List.map_mergeSort fun x _ z _ => (leT_pr x z).symm).symm
  rw [e]
theorem choices_q {n : Nat} (h : n ≤ 6) : F_choices [.int (n : Int)] = .ok (.lst ((csort n).map chD)) := by
  have h64 : ∀ k ≤ n, (subs k).length ≤ 64 := fun k hk => by
    rw [subs_len]
    have : 2 ^ k ≤ 2 ^ 6 := Nat.pow_le_pow_right (by decide) (by omega)
    omega
  have hcs : (csort n).length = (subs n).length := (List.mergeSort_perm _ _).length_eq
  have h6 := h64 n (Nat.le_refl _)
  refine fi_run (show Fi _ (g_choices [.dat (.int (n : Int)), .no, .no, .no, .no]) from ?_)
  rw [g_choices]
  refine p_seq (ρ1 := [.dat (.int (n : Int)), .dat (.lst ((subs 0).map chD)), .no, .no, .no]) (by simp -implicitDefEqProofs (disch := omega) [szB_ok, rngB_ok, subs]) ?_
  refine p_for itD (List.range n) (ρ1 := [.dat (.int (n : Int)), .dat (.lst ((subs 0).map chD)), .no, .no, .no]) (by
      have hr := rngB_ok (n := (n : Nat)) (by omega) (by omega)
      have rr := range_eq n
      simp -implicitDefEqProofs (disch := omega) [szB_ok, rngB_ok, hr, rr])
    (fun pre ρ => ∃ x : VL.Slot, ρ = [.dat (.int (n : Int)), .dat (.lst ((subs pre.length).map chD)), x, .no, .no])
    (fun pre k post ρ el ⟨x, hi⟩ => ?_) ⟨_, rfl⟩ fun ρ' ⟨x, hi⟩ => ?_
  · subst hi
    have hk : k = pre.length := by
      have h1 : pre.length < (List.range n).length := by rw [el]; simp
      have h2 : (List.range n)[pre.length]? = some k := by rw [el]; simp
      rw [List.length_range] at h1
      rw [List.getElem?_range h1] at h2
      exact (Option.some.inj h2).symm
    have hkn : pre.length ≤ n := by have := congrArg List.length el; simp at this; omega
    have hl := h64 pre.length hkn
    refine ⟨[.dat (.int (n : Int)), .dat (.lst ((subs pre.length).map chD)), .dat (itD k), .no, .no], rfl, ?_⟩
    refine nx_of (ρ := [.dat (.int (n : Int)), .dat (.lst ((subs (pre ++ [k]).length).map chD)), .dat (itD k), .no, .no]) ?_ ⟨_, rfl⟩
    have e : subs (pre ++ [k]).length = subs pre.length ++ (subs pre.length).map (· ++ [(k : Int)]) := by
      rw [List.length_append, List.length_singleton, hk]
      conv => lhs; unfold subs
    rw [e]
    have hsh := subs_short pre.length
    generalize subs pre.length = L at *
    simp -implicitDefEqProofs (disch := omega) [szB_ok, rngB_ok]
    rw [lc_map [.dat (.int (n : Int)), .dat (.lst (L.map chD)), .dat (itD k), .no, .no] (fun s => chD (s ++ [(k : Int)]))]
    · have z : szB (L.length + L.length) = true := szB_ok (by omega)
      simp -implicitDefEqProofs (disch := omega) [szB_ok, rngB_ok, z, Function.comp_def]
    · intro s hs
      have pl := plus_ch s k (by have := hsh s hs; omega)
      refine ⟨[.dat (.int (n : Int)), .dat (.lst (L.map chD)), .dat (itD k), .dat (chD s), .no], [.dat (.int (n : Int)), .dat (.lst (L.map chD)), .dat (itD k), .dat (chD s), .no], rfl, ?_, rfl⟩
      generalize chD (s ++ [(k : Int)]) = U at *
      generalize chD s = V at *
      simp -implicitDefEqProofs (disch := omega) [szB_ok, rngB_ok, pl]
    all_goals try simp
    omega
  · subst hi
    rw [List.length_range]
    have ss := sort_subs h
    refine fi_of ?_
    generalize subs n = L at *
    generalize csort n = M at *
    simp -implicitDefEqProofs (disch := omega) [szB_ok, rngB_ok]
    rw [lc_map [.dat (.int (n : Int)), .dat (.lst (L.map chD)), x, .no, .no] prD]
    · simp -implicitDefEqProofs (disch := omega) [szB_ok, rngB_ok, ss]
      rw [lc_map [.dat (.int (n : Int)), .dat (.lst (L.map chD)), x, .no, .no] chD]
      · simp -implicitDefEqProofs (disch := omega) [szB_ok, rngB_ok]
      · intro s hs
        simp -implicitDefEqProofs (disch := omega) [szB_ok, rngB_ok, prD]
      all_goals try simp
      omega
    · intro s hs
      simp -implicitDefEqProofs (disch := omega) [szB_ok, rngB_ok, prD]
    all_goals try simp
    omega
end PG

/-! the plain law: the fewest that must go; where two books part -/
namespace PG
open PySem PySem.Spec PyProof.Rows L2 VL
theorem then_next (r : RS) : r.then s_next = r := by cases r <;> rfl
theorem p_for1R {P : RS → Prop} {α : Type} {it : EM (List D)} {tg : D → VL.Env → Option VL.Env} {body : SM} (enc : α → D) (l : List α) {ρ ρ1 : VL.Env} (hi : it ρ = .ok (l.map enc) ρ1) (Inv : List α → VL.Env → Prop)
    (h : ∀ (pre : List α) (a : α) (post : List α) (ρ : VL.Env), l = pre ++ a :: post → Inv pre ρ → ∃ ρ1, tg (enc a) ρ = some ρ1 ∧ (Nx (Inv (pre ++ [a])) (body ρ1) ∨ (Stop (body ρ1) ∧ P (body ρ1)))) (h0 : Inv [] ρ1)
    (hq : ∀ ρ', Inv l ρ' → P (.next ρ')) : P (s_for it tg body ρ) := by
  rw [s_for_a, hi, to_ok, ← then_next (forD tg body (l.map enc) ρ1)]
  exact forR l Inv h hq h0
theorem inT_map {α : Type} [DecidableEq α] {enc : α → D} (neg : Bool) (hf : ∀ a, flatD (enc a) = true) (he : ∀ a b, eqF (enc a) (enc b) = decide (a = b)) (x : α) (l : List α) :
    inLD neg (enc x) (.tup (l.map enc)) = some (.bl (if neg = true then !decide (x ∈ l) else decide (x ∈ l))) := inL_map neg hf he x l
def leftN (N : List (List Nat)) (s : List Int) : List (List Nat) := ((List.range N.length).filter fun p : Nat => !decide ((p : Int) ∈ s)).map fun p => N.getD p []
theorem leftN_nil (N : List (List Nat)) : leftN N [] = N := by
  unfold leftN
  have : (List.range N.length).filter (fun p : Nat => !decide ((p : Int) ∈ ([] : List Int))) = List.range N.length := by
    rw [List.filter_eq_self]
    intro p _
    simp
  rw [this]
  refine List.ext_getElem (by simp) fun i h1 h2 => ?_
  simp [List.getD, List.getElem?_eq_getElem h2]
theorem leftN_ok {N : List (List Nat)} (h : names6 N) (s : List Int) : names6 (leftN N s) := by
  refine ⟨?_, fun n hn => ?_⟩
  · unfold leftN
    rw [List.length_map]
    exact Nat.le_trans (List.length_filter_le _ _) (by rw [List.length_range]; exact h.1)
  · obtain ⟨p, hp, rfl⟩ := List.mem_map.mp hn
    have hp := List.mem_range.mp (List.mem_filter.mp hp).1
    have e : N.getD p [] = N[p] := by simp [List.getD, List.getElem?_eq_getElem hp]
    rw [e]
    exact h.2 _ (List.getElem_mem hp)
def oneB (a b : Bk) (N : List (List Nat)) : Bool := decide (judS (lots a N) (lots b N) = "one")
def fewS (a b : Bk) (N : List (List Nat)) : Option (List Int) := (csort N.length).find? fun s => oneB a b (leftN N s)
def fewD : Option (List Int) → D
  | none => .non
  | some s => chD s
theorem lc_left {N : List (List Nat)} (hl : N.length ≤ 6) (s : List Int) (p : Nat) (hp : p ∈ List.range N.length) : atI (N.map txD) (p : Int) = some (txD (N.getD p [])) := by
  have hp := List.mem_range.mp hp
  rw [atI_k, List.getElem?_map]
  simp [List.getD, List.getElem?_eq_getElem hp]
theorem in_ch (p : Nat) (s : List Int) : inLD true (itD p) (chD s) = some (.bl (!decide ((p : Int) ∈ s))) :=
  inT_map (enc := D.int) true (fun _ => rfl) (fun a b => rfl) (p : Int) s
theorem fewest_q {a b : Bk} (ha : BookOk a) (hb : BookOk b) {N : List (List Nat)} (hN : names6 N) : F_fewest [bkD a, bkD b, .lst (N.map txD)] = .ok (fewD (fewS a b N)) := by
  have l := look_names_q ha hb hN
  have ch := choices_q hN.1
  have h6 := hN.1
  refine fi_run (show Fi _ (g_fewest [.dat (bkD a), .dat (bkD b), .dat (.lst (N.map txD)), .no, .no]) from ?_)
  rw [g_fewest]
  refine p_seq (ρ1 := [.dat (bkD a), .dat (bkD b), .dat (.lst (N.map txD)), .no, .no]) (by simp -implicitDefEqProofs (disch := omega) [szB_ok, rngB_ok, l]) ?_
  refine p_forR chD (csort N.length) (ρ1 := [.dat (bkD a), .dat (bkD b), .dat (.lst (N.map txD)), .no, .no]) (by simp -implicitDefEqProofs (disch := omega) [szB_ok, rngB_ok, ch])
    (fun pre ρ => (∀ s ∈ pre, (!oneB a b (leftN N s)) = true) ∧ ∃ x : VL.Slot, ρ = [.dat (bkD a), .dat (bkD b), .dat (.lst (N.map txD)), x, .no])
    (fun pre s post ρ el ⟨hp, x, hi⟩ => ?_) ⟨by simp, _, rfl⟩ fun ρ' ⟨hp, x, hi⟩ => ?_
  · subst hi
    have hL := leftN_ok hN s
    have j := judge_q ha hb hL
    refine ⟨[.dat (bkD a), .dat (bkD b), .dat (.lst (N.map txD)), .dat (chD s), .no], rfl, ?_⟩
    have step : s_if (t_val (e_op eqD (e_call F_judge 3 (a_cons (e_name 0) (a_cons (e_name 1) (a_cons (e_new (n_lc [4] (i_range1 (a_cons (e_cb lenD (a_cons (e_name 2) a_nil)) a_nil)) (g_name 4) (t_val (e_op (inLD true) (e_name 4) (e_name 3))) (e_op subD2 (e_name 2) (e_name 4)))) a_nil)))) (e_k (.str "one")))) (s_ret (e_name 3)) s_next [.dat (bkD a), .dat (bkD b), .dat (.lst (N.map txD)), .dat (chD s), .no] = (RE.ok (oneB a b (leftN N s)) [.dat (bkD a), .dat (bkD b), .dat (.lst (N.map txD)), .dat (chD s), .no]).to fun t => smIf t (s_ret (e_name 3)) s_next := by
      have hr := rngB_ok (n := (N.length : Nat)) (by omega) (by omega)
      have rr := range_eq N.length
      have e9 : ((List.range N.length).filter fun p : Nat => !decide ((p : Int) ∈ s)).map (fun p => txD (N.getD p [])) = (leftN N s).map txD := by
        unfold leftN
        rw [List.map_map]
        rfl
      have e : t_val (e_op eqD (e_call F_judge 3 (a_cons (e_name 0) (a_cons (e_name 1) (a_cons (e_new (n_lc [4] (i_range1 (a_cons (e_cb lenD (a_cons (e_name 2) a_nil)) a_nil)) (g_name 4) (t_val (e_op (inLD true) (e_name 4) (e_name 3))) (e_op subD2 (e_name 2) (e_name 4)))) a_nil)))) (e_k (.str "one"))) [.dat (bkD a), .dat (bkD b), .dat (.lst (N.map txD)), .dat (chD s), .no] = .ok (oneB a b (leftN N s)) [.dat (bkD a), .dat (bkD b), .dat (.lst (N.map txD)), .dat (chD s), .no] := by
        have ic := fun p => in_ch p s
        have lf := fun p hp => lc_left h6 s p hp
        generalize chD s = C at *
        simp -implicitDefEqProofs (disch := omega) [szB_ok, rngB_ok, hr, rr]
        rw [lc_filter [.dat (bkD a), .dat (bkD b), .dat (.lst (N.map txD)), .dat (C), .no] (fun p : Nat => !decide ((p : Int) ∈ s)) (fun p => txD (N.getD p []))]
        · rw [e9]
          simp -implicitDefEqProofs (disch := omega) [szB_ok, rngB_ok, j, oneB]
        · intro p hp
          have h1 := ic p
          have h2 := lf p hp
          by_cases q : (p : Int) ∈ s
          · simp -implicitDefEqProofs (disch := omega) [szB_ok, rngB_ok, h1, q]
          · simp only [List.getD_eq_getElem?_getD] at h2
            simp -implicitDefEqProofs (disch := omega) [szB_ok, rngB_ok, h1, q, h2]
        all_goals try simp
        omega
      rw [s_if_a, e]
    rw [step]
    cases ho : oneB a b (leftN N s) with
    | true =>
      right
      refine st_of (d := chD s) (by simp -implicitDefEqProofs (disch := omega) [szB_ok, rngB_ok]) (fi_of ?_)
      have : fewS a b N = some s := by
        unfold fewS
        rw [List.find?_eq_some_iff_append]
        exact ⟨ho, pre, post, el, hp⟩
      rw [this]
      rfl
    | false =>
      left
      refine nx_of (ρ := [.dat (bkD a), .dat (bkD b), .dat (.lst (N.map txD)), .dat (chD s), .no]) (by simp -implicitDefEqProofs (disch := omega) [szB_ok, rngB_ok]) ⟨fun t ht => ?_, _, rfl⟩
      rcases List.mem_append.mp ht with q | q
      · exact hp t q
      · rw [List.mem_singleton.mp q, ho]
        rfl
  · subst hi
    have : fewS a b N = none := by
      unfold fewS
      rw [List.find?_eq_none]
      intro s hs
      have := hp s hs
      simpa using this
    rw [this]
    exact fi_of rfl
theorem few_one {a b : Bk} {N : List (List Nat)} (hl : N.length ≤ 6) {s : List Int} (h : fewS a b N = some s) : oneB a b (leftN N s) = true := List.find?_some (p := fun s => oneB a b (leftN N s)) h
theorem few_empty {a b : Bk} {N : List (List Nat)} (hl : N.length ≤ 6) : fewS a b N = some [] ↔ oneB a b N = true := by
  obtain ⟨r, e, hr⟩ := csort_head hl
  unfold fewS
  rw [e, List.find?_cons, leftN_nil]
  cases oneB a b N with
  | true => simp
  | false =>
    simp
    intro h
    exact hr [] (List.mem_of_find?_eq_some h) rfl
end PG

/-! the plain law: where two books part -/
namespace PG
open PySem PySem.Spec PyProof.Rows L2 VL
/-! how many names there are -/
theorem lets_len (b : Bk) (s : Nat) : (lets b s).length ≤ b.length := by
  unfold lets
  rw [List.length_map]
  exact List.length_filter_le _ _
theorem lets_nodup {b : Bk} (h : (b.map (·.1)).Nodup) (s : Nat) : (lets b s).Nodup := by
  unfold lets
  rw [List.nodup_iff_pairwise_ne, List.pairwise_map]
  have h1 := List.pairwise_map.mp (List.nodup_iff_pairwise_ne.mp h)
  refine List.Pairwise.imp_of_mem (fun {x y} hx hy q w => ?_) (h1.filter _)
  have hx := (List.mem_filter.mp hx).2
  have hy := (List.mem_filter.mp hy).2
  simp at hx hy
  exact q (Prod.ext (hx.1.trans hy.1.symm) w)
def sumN {α : Type} (l : List α) (f : α → Nat) : Nat := (l.map f).sum
theorem sumN_cons {α : Type} (a : α) (l : List α) (f : α → Nat) : sumN (a :: l) f = f a + sumN l f := by simp [sumN]
theorem sumN_le {α : Type} {l : List α} {f : α → Nat} {m : Nat} (h : ∀ a ∈ l, f a ≤ m) : sumN l f ≤ l.length * m := by
  induction l with
  | nil => simp [sumN]
  | cons a l ih =>
    rw [sumN_cons, List.length_cons, Nat.succ_mul]
    have h1 := h a (List.mem_cons_self ..)
    have h2 := ih fun x hx => h x (List.mem_cons_of_mem _ hx)
    omega
/-- each pair counts at most once, whichever letter it stands behind -/
theorem sum_lets (f : Nat → Nat) : ∀ (b : Bk) (cs : List Nat), cs.Nodup → sumN cs (fun c => sumN (lets b c) f) ≤ sumN b fun e => f e.1.2
  | [], cs, _ => by
    have : sumN cs (fun c => sumN (lets [] c) f) ≤ cs.length * 0 := sumN_le fun c _ => by simp [lets, sumN]
    omega
  | e :: b, cs, hn => by
    have ih := sum_lets f b cs hn
    rw [sumN_cons]
    have h1 : sumN cs (fun c => sumN (lets (e :: b) c) f) ≤ sumN cs (fun c => sumN (lets b c) f) + sumN cs (fun c => if e.1.1 = c then f e.1.2 else 0) := by
      clear ih hn
      induction cs with
      | nil => simp [sumN]
      | cons c cs ih =>
        rw [sumN_cons, sumN_cons, sumN_cons]
        have : sumN (lets (e :: b) c) f ≤ sumN (lets b c) f + if e.1.1 = c then f e.1.2 else 0 := by
          unfold lets
          rw [List.filter_cons]
          by_cases q : (decide (e.1.1 = c) && !decide (e.1.2 = 62)) = true
          · rw [if_pos q, List.map_cons, sumN_cons]
            have : e.1.1 = c := by simp at q; exact q.1
            rw [if_pos this]
            omega
          · rw [if_neg q]
            omega
        omega
    have h2 : sumN cs (fun c => if e.1.1 = c then f e.1.2 else 0) ≤ f e.1.2 := by
      clear ih h1
      induction cs with
      | nil => simp [sumN]
      | cons c cs ih =>
        rw [sumN_cons]
        have hc := List.nodup_cons.mp hn
        by_cases q : e.1.1 = c
        · rw [if_pos q]
          have : sumN cs (fun c => if e.1.1 = c then f e.1.2 else 0) ≤ cs.length * 0 := sumN_le fun x hx => by
            rw [if_neg fun z => hc.1 (by rw [← q, z]; exact hx)]
            exact Nat.le_refl _
          omega
        · rw [if_neg q]
          have := ih hc.2
          omega
    omega
theorem tells_cnt1 (b : Bk) (s n : Nat) : (tells b s (n + 1)).length = sumN (lets b s) fun c => (tells b c n).length := by
  rw [any_lets, List.length_flatMap]
  simp [sumN]
theorem tells_two {b : Bk} (h : (b.map (·.1)).Nodup) (s n : Nat) : (tells b s (n + 2)).length ≤ sumN b fun e => (tells b e.1.2 n).length := by
  rw [tells_cnt1]
  have : (fun c => (tells b c (n + 1)).length) = fun c => sumN (lets b c) fun d => (tells b d n).length := by
    funext c
    rw [tells_cnt1]
  rw [this]
  exact sum_lets _ b _ (lets_nodup h s)
theorem tells0 (b : Bk) (s : Nat) : (tells b s 0).length ≤ 1 := by
  unfold tells
  split <;> simp
theorem tells1 (b : Bk) (s : Nat) : (tells b s 1).length ≤ b.length := by
  rw [tells_cnt1]
  have h1 : sumN (lets b s) (fun c => (tells b c 0).length) ≤ (lets b s).length * 1 := sumN_le fun c _ => tells0 b c
  have h2 := lets_len b s
  omega
theorem tells2 {b : Bk} (h : (b.map (·.1)).Nodup) (s : Nat) : (tells b s 2).length ≤ b.length := by
  have h1 : (tells b s 2).length ≤ sumN b fun e => (tells b e.1.2 0).length := tells_two h s 0
  have h2 : sumN b (fun e => (tells b e.1.2 0).length) ≤ b.length * 1 := sumN_le fun e _ => tells0 b e.1.2
  omega
theorem tells_cnt {b : Bk} (h : (b.map (·.1)).Nodup) (hl : b.length ≤ 28) : ∀ {n : Nat}, n ≤ 4 → ∀ s, (tells b s n).length ≤ 784 := by
  intro n hn s
  have h1 := tells0 b s
  have h2 := tells1 b s
  have h3 := tells2 h s
  have h4 : (tells b s 3).length ≤ 784 := by
    have a : (tells b s 3).length ≤ sumN b fun e => (tells b e.1.2 1).length := tells_two h s 1
    have c : sumN b (fun e => (tells b e.1.2 1).length) ≤ b.length * 28 := sumN_le fun e _ => Nat.le_trans (tells1 b e.1.2) hl
    omega
  have h5 : (tells b s 4).length ≤ 784 := by
    have a : (tells b s 4).length ≤ sumN b fun e => (tells b e.1.2 2).length := tells_two h s 2
    have c : sumN b (fun e => (tells b e.1.2 2).length) ≤ b.length * 28 := sumN_le fun e _ => Nat.le_trans (tells2 h e.1.2) hl
    omega
  match n, hn with
  | 0, _ => omega
  | 1, _ => omega
  | 2, _ => omega
  | 3, _ => exact h4
  | 4, _ => exact h5
/-- the names told are names -/
theorem tells_small {b : Bk} (hb : BookOk b) : ∀ (n s : Nat) {l : List Nat}, l ∈ tells b s n → ∀ c ∈ l, c ∈ smallL
  | 0, s, l, h, c, hc => by
    have := tells_len b 0 s h
    rw [List.eq_nil_of_length_eq_zero this] at hc
    cases hc
  | n + 1, s, l, h, c, hc => by
    rw [any_lets] at h
    obtain ⟨x, hx, h⟩ := List.mem_flatMap.mp h
    obtain ⟨l', h', rfl⟩ := List.mem_map.mp h
    rcases List.mem_cons.mp hc with rfl | hc
    · unfold lets at hx
      obtain ⟨e, he, rfl⟩ := List.mem_map.mp hx
      have hm := List.mem_filter.mp he
      have hp := hb.prs e hm.1
      have h2 := hm.2
      unfold pairOk at hp
      simp at hp h2
      rcases hp.2.2 with w | w
      · exact w
      · exact absurd w h2.2
    · exact tells_small hb n x h' c hc
theorem tells_name {b : Bk} (hb : BookOk b) {n : Nat} (h1 : 1 ≤ n) (h2 : n ≤ 6) {s : Nat} {l : List Nat} (h : l ∈ tells b s n) : nameOk l = true := by
  have e := tells_len b n s h
  have k := tells_small hb n s h
  unfold nameOk
  simp only [Bool.and_eq_true, decide_eq_true_eq, List.all_eq_true]
  exact ⟨by omega, by omega, fun c hc => by simpa using k c hc⟩
/-! parting -/
def partT (a b : Bk) (m : Nat) : List Str := setS ((tells a 60 m ++ tells b 60 m).map S)
theorem setS_mem {x : Str} {l : List Str} : x ∈ setS l ↔ x ∈ l := by
  unfold setS
  exact (List.mergeSort_perm _ _).mem_iff.trans dedup_mem
theorem setS_srt (l : List Str) : (setS l).Pairwise fun a b => leS a b = true := List.pairwise_mergeSort leS_trans leS_tot _
theorem setS_nodup (l : List Str) : (setS l).Nodup := ((List.mergeSort_perm _ _).nodup_iff).mpr (dedup_nodup l)
theorem partT_comm (a b : Bk) (m : Nat) : partT a b m = partT b a m := by
  unfold partT
  exact setS_is (setS_srt _) (setS_nodup _) fun k => by
    rw [setS_mem, List.map_append, List.map_append, List.mem_append, List.mem_append]
    exact or_comm
theorem partT_mem {a b : Bk} {m : Nat} {x : Str} (h : x ∈ partT a b m) : ∃ l, x = S l ∧ (l ∈ tells a 60 m ∨ l ∈ tells b 60 m) := by
  unfold partT at h
  rw [setS_mem] at h
  obtain ⟨l, hl, rfl⟩ := List.mem_map.mp h
  exact ⟨l, rfl, List.mem_append.mp hl⟩
def unlike (a b : Bk) (x : Str) : Bool := !decide (chanceQ a x.cps.toList = chanceQ b x.cps.toList)
def partS (a b : Bk) (k : Nat) : Option Str := ((List.range k).flatMap fun i => partT a b (i + 1)).find? (unlike a b)
def strO : Option Str → D
  | none => .non
  | some x => .str x
theorem partS_comm (a b : Bk) (k : Nat) : partS a b k = partS b a k := by
  unfold partS
  have e1 : (fun i => partT a b (i + 1)) = fun i => partT b a (i + 1) := funext fun i => partT_comm a b _
  have e2 : unlike a b = unlike b a := funext fun x => by
    unfold unlike
    exact congrArg (!·) (decide_eq_decide.mpr eq_comm)
  rw [e1, e2]
theorem partS_self (a : Bk) (k : Nat) : partS a a k = none := by
  unfold partS
  rw [List.find?_eq_none]
  intro x _
  simp [unlike]
theorem partS_some {a b : Bk} {k : Nat} {x : Str} (h : partS a b k = some x) : unlike a b x = true ∧ ∃ m, 1 ≤ m ∧ m ≤ k ∧ x ∈ partT a b m := by
  refine ⟨List.find?_some h, ?_⟩
  obtain ⟨i, hi, hx⟩ := List.mem_flatMap.mp (List.mem_of_find?_eq_some h)
  have := List.mem_range.mp hi
  exact ⟨i + 1, by omega, by omega, hx⟩
theorem sortset_tx (L : List (List Nat)) (h : L.length < 4095) : sortsetO [.lst (L.map txD)] = some (.L ((setS (L.map S)).map .str)) := by
  show (strsD (L.map fun l => D.str (S l))).bind _ = _
  rw [strs_map S L]
  show (if (L.map S).length + 1 < scanBound then some (OD.L ((setS (L.map S)).map .str)) else none) = _
  rw [if_pos (by rw [List.length_map]; unfold scanBound; omega)]
theorem all_names {b : Bk} (hb : BookOk b) (hl : b.length ≤ 28) {m : Nat} (h4 : m ≤ 4) : F_names_behind [bkD b, .str (S []), .int (m : Int), .int 999999] = .ok (.lst ((tells b 60 m).map txD)) := by
  have h := behind_names (b := b) (by omega) m [] 999999 8 (by omega) (by omega) (by decide) (by decide) (by simp; omega)
  have c := tells_cnt hb.toSrt.nodup hl h4 60
  have e : ((tells b (lastS []) m).take 999999).map (fun l => [] ++ l) = tells b 60 m := by
    show ((tells b 60 m).take 999999).map (fun l => [] ++ l) = _
    rw [List.take_of_length_le (by omega)]
    simp
  rw [e] at h
  exact h
theorem rng2_ok {f g : EM D} {m n : Int} {ρ : VL.Env} (h : -1000000 ≤ m ∧ m ≤ 1000000 ∧ -1000000 ≤ n ∧ n ≤ 1000000) (hf : f ρ = .ok (.int m) ρ) (hg : g ρ = .ok (.int n) ρ) :
    i_range2 (a_cons f (a_cons g a_nil)) ρ = .ok (rangeD m (n - m).toNat) ρ := by
  have p : (2 : Int) ^ 62 = 4611686018427387904 := by decide
  have e : a_cons f (a_cons g a_nil) ρ = .ok [.int m, .int n] ρ := by simp -implicitDefEqProofs (disch := omega) [szB_ok, rngB_ok, hf, hg]
  rw [i_range2_a, e]
  show o2 (if (-(2 ^ 62) ≤ m ∧ m < 2 ^ 62) ∧ -(2 ^ 62) ≤ n ∧ n < 2 ^ 62 then some (rangeD m (n - m).toNat) else none) ρ = _
  rw [p, if_pos (by omega)]
  rfl
theorem parting_q {a b : Bk} (ha : BookOk a) (hb : BookOk b) (la : a.length ≤ 28) (lb : b.length ≤ 28) {k : Nat} (h1 : 1 ≤ k) (h4 : k ≤ 4) : F_parting [bkD a, bkD b, .int (k : Int)] = .ok (strO (partS a b k)) := by
  refine fi_run (show Fi _ (g_parting [.dat (bkD a), .dat (bkD b), .dat (.int (k : Int)), .no, .no, .no]) from ?_)
  rw [g_parting]
  have i1 : (1 : Int) ≤ k := by omega
  have i4 : (k : Int) ≤ 4 := by omega
  refine p_seq (ρ1 := [.dat (bkD a), .dat (bkD b), .dat (.int (k : Int)), .no, .no, .no]) (by simp -implicitDefEqProofs (disch := omega) [szB_ok, rngB_ok, ha]) ?_
  refine p_seq (ρ1 := [.dat (bkD a), .dat (bkD b), .dat (.int (k : Int)), .no, .no, .no]) (by simp -implicitDefEqProofs (disch := omega) [szB_ok, rngB_ok, hb]) ?_
  refine p_seq (ρ1 := [.dat (bkD a), .dat (bkD b), .dat (.int (k : Int)), .no, .no, .no]) (by simp -implicitDefEqProofs (disch := omega) [szB_ok, rngB_ok, F_is_whole, g_is_whole, runD_eq, i1, i4]) ?_
  refine p_forR (fun i : Nat => D.int (1 + (i : Int))) (List.range k) (ρ1 := [.dat (bkD a), .dat (bkD b), .dat (.int (k : Int)), .no, .no, .no]) (by
      have e : ((k : Int) + 1 - 1).toNat = k := by omega
      rw [rng2_ok (m := 1) (n := (k : Int) + 1) (ρ := [.dat (bkD a), .dat (bkD b), .dat (.int (k : Int)), .no, .no, .no]) (by omega) (by simp -implicitDefEqProofs (disch := omega) [szB_ok, rngB_ok]) (by simp -implicitDefEqProofs (disch := omega) [szB_ok, rngB_ok]), e]
      rfl)
    (fun pre ρ => (∀ i ∈ pre, ∀ x ∈ partT a b (i + 1), unlike a b x = false) ∧ ∃ x3 x4 x5 : VL.Slot, ρ = [.dat (bkD a), .dat (bkD b), .dat (.int (k : Int)), x3, x4, x5])
    (fun pre i post ρ el ⟨hp, x3, x4, x5, hi⟩ => ?_) ⟨by simp, _, _, _, rfl⟩ fun ρ' ⟨hp, x3, x4, x5, hi⟩ => ?_
  · subst hi
    have hik : i < k := by
      have : i ∈ List.range k := by rw [el]; simp
      exact List.mem_range.mp this
    have na := all_names ha la (m := i + 1) (by omega)
    have nb := all_names hb lb (m := i + 1) (by omega)
    have ca := tells_cnt ha.toSrt.nodup la (n := i + 1) (by omega) 60
    have cb := tells_cnt hb.toSrt.nodup lb (n := i + 1) (by omega) 60
    have ei : ((i + 1 : Nat) : Int) = 1 + (i : Int) := by omega
    rw [ei] at na nb
    have st := sortset_tx (tells a 60 (i + 1) ++ tells b 60 (i + 1)) (by rw [List.length_append]; omega)
    refine ⟨[.dat (bkD a), .dat (bkD b), .dat (.int (k : Int)), .dat (.int (1 + (i : Int))), x4, x5], rfl, ?_⟩
    refine p_seq (P := fun r => Nx _ r ∨ (Stop r ∧ Fi _ r)) (ρ1 := [.dat (bkD a), .dat (bkD b), .dat (.int (k : Int)), .dat (.int (1 + (i : Int))), .dat (.lst ((tells a 60 (i + 1) ++ tells b 60 (i + 1)).map txD)), x5]) (by
      have z : szB ((tells a 60 (i + 1)).length + (tells b 60 (i + 1)).length) = true := szB_ok (by omega)
      simp -implicitDefEqProofs (disch := omega) [szB_ok, rngB_ok, lit_empty, na, nb, z]) ?_
    have hmem := fun x => partT_mem (a := a) (b := b) (m := i + 1) (x := x)
    have hPT : setS ((tells a 60 (i + 1) ++ tells b 60 (i + 1)).map S) = partT a b (i + 1) := rfl
    rw [hPT] at st
    have hzl : (partT a b (i + 1)).length ≤ 1000000 := by
      have : (partT a b (i + 1)).length ≤ ((tells a 60 (i + 1) ++ tells b 60 (i + 1)).map S).length := nodup_len (setS_nodup _) fun x hx => setS_mem.mp hx
      rw [List.length_map, List.length_append] at this
      omega
    have fnd : ∀ pre2 x post2, partT a b (i + 1) = pre2 ++ x :: post2 → (∀ y ∈ pre2, unlike a b y = false) → unlike a b x = true → partS a b k = some x := fun pre2 x post2 e2 h2 hx => by
      unfold partS
      rw [el, List.flatMap_append, List.flatMap_cons, e2, List.find?_eq_some_iff_append]
      refine ⟨hx, pre.flatMap (fun i => partT a b (i + 1)) ++ pre2, post2 ++ post.flatMap fun i => partT a b (i + 1), by simp, fun y hy => ?_⟩
      rcases List.mem_append.mp hy with q | q
      · obtain ⟨j, hj, hy⟩ := List.mem_flatMap.mp q
        rw [hp j hj y hy]
        rfl
      · rw [h2 y q]
        rfl
    generalize hT : partT a b (i + 1) = T at *
    generalize (tells a 60 (i + 1) ++ tells b 60 (i + 1)).map txD = U at *
    refine p_for1R (P := fun r => Nx (fun ρ => (∀ i_1 ∈ pre ++ [i], ∀ x ∈ partT a b (i_1 + 1), unlike a b x = false) ∧ ∃ x3 x4 x5 : VL.Slot, ρ = [.dat (bkD a), .dat (bkD b), .dat (.int (k : Int)), x3, x4, x5]) r ∨ (Stop r ∧ Fi (.ok (strO (partS a b k))) r)) D.str T (ρ1 := [.dat (bkD a), .dat (bkD b), .dat (.int (k : Int)), .dat (.int (1 + (i : Int))), .dat (.lst U), x5]) (by
        have z : szB T.length = true := szB_ok hzl
        simp -implicitDefEqProofs (disch := omega) [szB_ok, rngB_ok, st, z])
      (fun pre2 ρ => (∀ y ∈ pre2, unlike a b y = false) ∧ ∃ x5 : VL.Slot, ρ = [.dat (bkD a), .dat (bkD b), .dat (.int (k : Int)), .dat (.int (1 + (i : Int))), .dat (.lst U), x5])
      (fun pre2 x post2 ρ el2 ⟨h2, x5, hi⟩ => ?_) ⟨by simp, _, rfl⟩ fun ρ' ⟨h2, x5, hi⟩ => ?_
    · subst hi
      obtain ⟨l, rfl, hl⟩ := hmem x (by rw [el2]; simp)
      have hll : l.length = i + 1 := by
        rcases hl with q | q
        · exact tells_len _ _ _ q
        · exact tells_len _ _ _ q
      have qa := chance_of_q ha (n := l) (by omega)
      have qb := chance_of_q hb (n := l) (by omega)
      have nq := ne_q (chanceQ a l) (chanceQ b l)
      have hu : unlike a b (S l) = !decide (chanceQ a l = chanceQ b l) := by unfold unlike; rw [S_cps]
      refine ⟨[.dat (bkD a), .dat (bkD b), .dat (.int (k : Int)), .dat (.int (1 + (i : Int))), .dat (.lst U), .dat (.str (S l))], rfl, ?_⟩
      rw [← hu] at nq
      cases hw : unlike a b (S l) with
      | true =>
        rw [hw] at nq
        right
        have w := st_of (P := Fi (.ok (strO (partS a b k)))) (d := .str (S l)) (r := s_if (t_val (e_op neD (e_call F_chance_of 2 (a_cons (e_name 0) (a_cons (e_name 5) a_nil))) (e_call F_chance_of 2 (a_cons (e_name 1) (a_cons (e_name 5) a_nil))))) (s_ret (e_name 5)) s_next [.dat (bkD a), .dat (bkD b), .dat (.int (k : Int)), .dat (.int (1 + (i : Int))), .dat (.lst U), .dat (.str (S l))]) (by simp -implicitDefEqProofs (disch := omega) [szB_ok, rngB_ok, qa, qb, nq]) (fi_of (by rw [fnd pre2 (S l) post2 el2 h2 hw]; rfl))
        exact ⟨w.1, .inr w⟩
      | false =>
        rw [hw] at nq
        left
        refine nx_of (ρ := [.dat (bkD a), .dat (bkD b), .dat (.int (k : Int)), .dat (.int (1 + (i : Int))), .dat (.lst U), .dat (.str (S l))]) (by simp -implicitDefEqProofs (disch := omega) [szB_ok, rngB_ok, qa, qb, nq]) ⟨fun y hy => ?_, _, rfl⟩
        rcases List.mem_append.mp hy with q | q
        · exact h2 y q
        · rw [List.mem_singleton.mp q]
          exact hw
    · subst hi
      left
      refine nx_of rfl ⟨fun j hj y hy => ?_, _, _, _, rfl⟩
      rcases List.mem_append.mp hj with q | q
      · exact hp j q y hy
      · rw [List.mem_singleton.mp q, hT] at hy
        exact h2 y hy
  · subst hi
    have : partS a b k = none := by
      unfold partS
      rw [List.find?_eq_none]
      intro x hx
      obtain ⟨i, hi, hx⟩ := List.mem_flatMap.mp hx
      rw [hp i hi x hx]
      simp
    rw [this]
    exact fi_of rfl
end PG

namespace K89
open PySem PySem.Spec PyProof.Rows L2 VL PG
/-! the text by places; each def: its names, its function of values -/
def top (i : Nat) : Stmt := PySem.Challenge.pw_lettershares_k89_whole_judged.main.body.getD i (.Pass ⟨0, 0, 0, 0⟩)
abbrev s_is_whole : Stmt := top 12
abbrev N_is_whole : List Str := ["thing", "low", "high"]
theorem sc_is_whole : FnScope N_is_whole ["thing", "low", "high"] (defScope s_is_whole) := ⟨rfl, rfl, rfl, by decide +kernel, rfl, by decide +kernel, by decide +kernel⟩
abbrev s_is_name : Stmt := top 13
abbrev N_is_name : List Str := ["thing", "sign"]
theorem sc_is_name : FnScope N_is_name ["thing"] (defScope s_is_name) := ⟨rfl, rfl, rfl, by decide +kernel, rfl, by decide +kernel, by decide +kernel⟩
abbrev s_is_pair : Stmt := top 14
abbrev N_is_pair : List Str := ["thing"]
theorem sc_is_pair : FnScope N_is_pair ["thing"] (defScope s_is_pair) := ⟨rfl, rfl, rfl, by decide +kernel, rfl, by decide +kernel, by decide +kernel⟩
abbrev s_is_book : Stmt := top 15
abbrev N_is_book : List Str := ["thing", "one", "other"]
theorem sc_is_book : FnScope N_is_book ["thing"] (defScope s_is_book) := ⟨rfl, rfl, rfl, by decide +kernel, rfl, by decide +kernel, by decide +kernel⟩
abbrev s_look_book : Stmt := top 16
abbrev N_look_book : List Str := ["book"]
theorem sc_look_book : FnScope N_look_book ["book"] (defScope s_look_book) := ⟨rfl, rfl, rfl, by decide +kernel, rfl, by decide +kernel, by decide +kernel⟩
abbrev s_look_name : Stmt := top 17
abbrev N_look_name : List Str := ["name"]
theorem sc_look_name : FnScope N_look_name ["name"] (defScope s_look_name) := ⟨rfl, rfl, rfl, by decide +kernel, rfl, by decide +kernel, by decide +kernel⟩
abbrev s_are_names : Stmt := top 18
abbrev N_are_names : List Str := ["thing", "most", "one"]
theorem sc_are_names : FnScope N_are_names ["thing", "most"] (defScope s_are_names) := ⟨rfl, rfl, rfl, by decide +kernel, rfl, by decide +kernel, by decide +kernel⟩
abbrev s_pairs_in : Stmt := top 19
abbrev N_pairs_in : List Str := ["name", "signs", "at"]
theorem sc_pairs_in : FnScope N_pairs_in ["name"] (defScope s_pairs_in) := ⟨rfl, rfl, rfl, by decide +kernel, rfl, by decide +kernel, by decide +kernel⟩
abbrev s_lowest : Stmt := top 21
abbrev N_lowest : List Str := ["up", "down", "one", "other"]
theorem sc_lowest : FnScope N_lowest ["up", "down"] (defScope s_lowest) := ⟨rfl, rfl, rfl, by decide +kernel, rfl, by decide +kernel, by decide +kernel⟩
abbrev s_count_of : Stmt := top 22
abbrev N_count_of : List Str := ["book", "pair"]
theorem sc_count_of : FnScope N_count_of ["book", "pair"] (defScope s_count_of) := ⟨rfl, rfl, rfl, by decide +kernel, rfl, by decide +kernel, by decide +kernel⟩
abbrev s_sum_behind : Stmt := top 23
abbrev N_sum_behind : List Str := ["book", "sign", "pair", "count"]
theorem sc_sum_behind : FnScope N_sum_behind ["book", "sign"] (defScope s_sum_behind) := ⟨rfl, rfl, rfl, by decide +kernel, rfl, by decide +kernel, by decide +kernel⟩
abbrev s_share_of : Stmt := top 24
abbrev N_share_of : List Str := ["book", "pair", "whole"]
theorem sc_share_of : FnScope N_share_of ["book", "pair"] (defScope s_share_of) := ⟨rfl, rfl, rfl, by decide +kernel, rfl, by decide +kernel, by decide +kernel⟩
abbrev s_soft_of : Stmt := top 25
abbrev N_soft_of : List Str := ["book", "pair", "more"]
theorem sc_soft_of : FnScope N_soft_of ["book", "pair"] (defScope s_soft_of) := ⟨rfl, rfl, rfl, by decide +kernel, rfl, by decide +kernel, by decide +kernel⟩
abbrev s_product : Stmt := top 26
abbrev N_product : List Str := ["fractions", "up", "down", "one"]
theorem sc_product : FnScope N_product ["fractions"] (defScope s_product) := ⟨rfl, rfl, rfl, by decide +kernel, rfl, by decide +kernel, by decide +kernel⟩
abbrev s_chance_of : Stmt := top 27
abbrev N_chance_of : List Str := ["book", "name", "pair"]
theorem sc_chance_of : FnScope N_chance_of ["book", "name"] (defScope s_chance_of) := ⟨rfl, rfl, rfl, by decide +kernel, rfl, by decide +kernel, by decide +kernel⟩
abbrev s_soft_chance_of : Stmt := top 28
abbrev N_soft_chance_of : List Str := ["book", "name", "pair"]
theorem sc_soft_chance_of : FnScope N_soft_chance_of ["book", "name"] (defScope s_soft_chance_of) := ⟨rfl, rfl, rfl, by decide +kernel, rfl, by decide +kernel, by decide +kernel⟩
abbrev s_chance : Stmt := top 29
abbrev N_chance : List Str := ["book", "name"]
theorem sc_chance : FnScope N_chance ["book", "name"] (defScope s_chance) := ⟨rfl, rfl, rfl, by decide +kernel, rfl, by decide +kernel, by decide +kernel⟩
abbrev s_soft_chance : Stmt := top 30
abbrev N_soft_chance : List Str := ["book", "name"]
theorem sc_soft_chance : FnScope N_soft_chance ["book", "name"] (defScope s_soft_chance) := ⟨rfl, rfl, rfl, by decide +kernel, rfl, by decide +kernel, by decide +kernel⟩
abbrev s_is_less : Stmt := top 31
abbrev N_is_less : List Str := ["one", "other"]
theorem sc_is_less : FnScope N_is_less ["one", "other"] (defScope s_is_less) := ⟨rfl, rfl, rfl, by decide +kernel, rfl, by decide +kernel, by decide +kernel⟩
abbrev s_letters_behind : Stmt := top 33
abbrev N_letters_behind : List Str := ["book", "sign", "pair", "count"]
theorem sc_letters_behind : FnScope N_letters_behind ["book", "sign"] (defScope s_letters_behind) := ⟨rfl, rfl, rfl, by decide +kernel, rfl, by decide +kernel, by decide +kernel⟩
abbrev s_can_end : Stmt := top 34
abbrev N_can_end : List Str := ["book", "sign", "pair", "count"]
theorem sc_can_end : FnScope N_can_end ["book", "sign"] (defScope s_can_end) := ⟨rfl, rfl, rfl, by decide +kernel, rfl, by decide +kernel, by decide +kernel⟩
abbrev s_can_tell : Stmt := top 35
abbrev N_can_tell : List Str := ["book", "sign", "long", "letter"]
theorem sc_can_tell : FnScope N_can_tell ["book", "sign", "long"] (defScope s_can_tell) := ⟨rfl, rfl, rfl, by decide +kernel, rfl, by decide +kernel, by decide +kernel⟩
abbrev s_names_behind : Stmt := top 36
abbrev N_names_behind : List Str := ["book", "text", "long", "most", "sign", "made", "letter"]
theorem sc_names_behind : FnScope N_names_behind ["book", "text", "long", "most"] (defScope s_names_behind) := ⟨rfl, rfl, rfl, by decide +kernel, rfl, by decide +kernel, by decide +kernel⟩
abbrev s_look_books : Stmt := top 42
abbrev N_look_books : List Str := ["books", "name", "one"]
theorem sc_look_books : FnScope N_look_books ["books", "name"] (defScope s_look_books) := ⟨rfl, rfl, rfl, by decide +kernel, rfl, by decide +kernel, by decide +kernel⟩
abbrev s_order_of : Stmt := top 43
abbrev N_order_of : List Str := ["books", "name", "left", "chances", "book", "made", "best", "number"]
theorem sc_order_of : FnScope N_order_of ["books", "name"] (defScope s_order_of) := ⟨rfl, rfl, rfl, by decide +kernel, rfl, by decide +kernel, by decide +kernel⟩
abbrev s_likeliest : Stmt := top 44
abbrev N_likeliest : List Str := ["books", "name"]
theorem sc_likeliest : FnScope N_likeliest ["books", "name"] (defScope s_likeliest) := ⟨rfl, rfl, rfl, by decide +kernel, rfl, by decide +kernel, by decide +kernel⟩
abbrev s_ranked : Stmt := top 45
abbrev N_ranked : List Str := ["books", "name"]
theorem sc_ranked : FnScope N_ranked ["books", "name"] (defScope s_ranked) := ⟨rfl, rfl, rfl, by decide +kernel, rfl, by decide +kernel, by decide +kernel⟩
abbrev s_parting : Stmt := top 46
abbrev N_parting : List Str := ["one", "other", "long", "many", "some", "name"]
theorem sc_parting : FnScope N_parting ["one", "other", "long"] (defScope s_parting) := ⟨rfl, rfl, rfl, by decide +kernel, rfl, by decide +kernel, by decide +kernel⟩
abbrev s_look_names : Stmt := top 47
abbrev N_look_names : List Str := ["one", "other", "names"]
theorem sc_look_names : FnScope N_look_names ["one", "other", "names"] (defScope s_look_names) := ⟨rfl, rfl, rfl, by decide +kernel, rfl, by decide +kernel, by decide +kernel⟩
abbrev s_judge : Stmt := top 48
abbrev N_judge : List Str := ["one", "other", "names", "mine", "name", "yours"]
theorem sc_judge : FnScope N_judge ["one", "other", "names"] (defScope s_judge) := ⟨rfl, rfl, rfl, by decide +kernel, rfl, by decide +kernel, by decide +kernel⟩
abbrev s_judged : Stmt := top 49
abbrev N_judged : List Str := ["one", "other", "names"]
theorem sc_judged : FnScope N_judged ["one", "other", "names"] (defScope s_judged) := ⟨rfl, rfl, rfl, by decide +kernel, rfl, by decide +kernel, by decide +kernel⟩
abbrev s_choices : Stmt := top 50
abbrev N_choices : List Str := ["many", "made", "place", "some", "size"]
theorem sc_choices : FnScope N_choices ["many"] (defScope s_choices) := ⟨rfl, rfl, rfl, by decide +kernel, rfl, by decide +kernel, by decide +kernel⟩
abbrev s_fewest : Stmt := top 51
abbrev N_fewest : List Str := ["one", "other", "names", "some", "place"]
theorem sc_fewest : FnScope N_fewest ["one", "other", "names"] (defScope s_fewest) := ⟨rfl, rfl, rfl, by decide +kernel, rfl, by decide +kernel, by decide +kernel⟩
abbrev s__law_cell : Stmt := top 53
abbrev N__law_cell : List Str := ["_law_script", "_law_k"]
theorem sc__law_cell : FnScope N__law_cell ["_law_script", "_law_k"] (defScope s__law_cell) := ⟨rfl, rfl, rfl, by decide +kernel, rfl, by decide +kernel, by decide +kernel⟩
abbrev s__law_pick : Stmt := top 54
abbrev N__law_pick : List Str := ["_law_script", "_law_k", "_law_many", "_law_drawn"]
theorem sc__law_pick : FnScope N__law_pick ["_law_script", "_law_k", "_law_many"] (defScope s__law_pick) := ⟨rfl, rfl, rfl, by decide +kernel, rfl, by decide +kernel, by decide +kernel⟩
abbrev s__law_name : Stmt := top 55
abbrev N__law_name : List Str := ["_law_script", "_law_at", "_law_pool", "_law_k"]
theorem sc__law_name : FnScope N__law_name ["_law_script", "_law_at", "_law_pool"] (defScope s__law_name) := ⟨rfl, rfl, rfl, by decide +kernel, rfl, by decide +kernel, by decide +kernel⟩
abbrev s__law_names : Stmt := top 56
abbrev N__law_names : List Str := ["_law_script", "_law_at", "_law_most", "_law_pool", "_law_k"]
theorem sc__law_names : FnScope N__law_names ["_law_script", "_law_at", "_law_most"] (defScope s__law_names) := ⟨rfl, rfl, rfl, by decide +kernel, rfl, by decide +kernel, by decide +kernel⟩
abbrev s__law_pairs : Stmt := top 57
abbrev N__law_pairs : List Str := ["_law_name_here", "_law_signs", "_law_k"]
theorem sc__law_pairs : FnScope N__law_pairs ["_law_name_here"] (defScope s__law_pairs) := ⟨rfl, rfl, rfl, by decide +kernel, rfl, by decide +kernel, by decide +kernel⟩
abbrev s__law_book : Stmt := top 58
abbrev N__law_book : List Str := ["_law_names_here", "_law_pairs_here", "_law_name_here", "_law_pair"]
theorem sc__law_book : FnScope N__law_book ["_law_names_here"] (defScope s__law_book) := ⟨rfl, rfl, rfl, by decide +kernel, rfl, by decide +kernel, by decide +kernel⟩
abbrev s_law : Stmt := top 59
abbrev N_law : List Str := ["_law_script", "_law_books", "_law_k", "_law_names_here", "_law_name_here", "_law_some", "_law_parts", "_law_mine", "_law_most", "_law_one", "_law_other", "_law_places", "_law_left"]
theorem sc_law : FnScope N_law ["_law_script"] (defScope s_law) := ⟨rfl, rfl, rfl, by decide +kernel, rfl, by decide +kernel, by decide +kernel⟩
def g_law : SM := (s_seq (s_setN 1 (n_lc [2] (i_range1 (a_cons (e_k (.int 3)) a_nil)) (g_name 2) t_yes (e_call F__law_book 1 (a_cons (e_call F__law_names 3 (a_cons (e_name 0) (a_cons (e_op plusD (e_k (.int 10)) (e_op mulD (e_k (.int 60)) (e_name 2))) (a_cons (e_k (.int 4)) a_nil)))) a_nil))))
      (s_seq (s_set 3 (e_call F__law_names 3 (a_cons (e_name 0) (a_cons (e_k (.int 300)) (a_cons (e_k (.int 4)) a_nil)))))
      (s_seq (s_for (i_any (e_op plusD (e_name 3) (e_lst (a_cons (e_k (.str "a")) a_nil)))) (g_name 4) (s_seq (s_set 5 (e_call F_ranked 2 (a_cons (e_name 1) (a_cons (e_name 4) a_nil))))
      (s_seq (s_if (t_or (t_val (e_op neD (e_new (n_ct sortedG (a_cons (e_name 5) a_nil))) (e_lst (a_cons (e_k (.int 0)) (a_cons (e_k (.int 1)) (a_cons (e_k (.int 2)) a_nil)))))) (t_val (e_op neD (e_op subD2 (e_name 5) (e_k (.int 0))) (e_call F_likeliest 2 (a_cons (e_name 1) (a_cons (e_name 4) a_nil)))))) (s_ret (e_k (.bl false))) s_next)
      (s_seq (s_setN 6 (n_lc [2] (i_any (e_name 5)) (g_name 2) t_yes (e_call F_soft_chance 2 (a_cons (e_op subD2 (e_name 1) (e_name 2)) (a_cons (e_name 4) a_nil)))))
      (s_for (i_zip (a_cons (e_slice (e_name 6) (p_some (e_k (.int 1))) p_none) (a_cons (e_name 6) a_nil))) (g_tup 2 (gs_cons (g_name 7) (gs_cons (g_name 8) gs_nil))) (s_if (t_val (e_op gtD (e_op mulD (e_op subD2 (e_name 7) (e_k (.int 0))) (e_op subD2 (e_name 8) (e_k (.int 1)))) (e_op mulD (e_op subD2 (e_name 8) (e_k (.int 0))) (e_op subD2 (e_name 7) (e_k (.int 1)))))) (s_ret (e_k (.bl false))) s_next))))))
      (s_seq (s_par 9 10 (a_cons (e_op subD2 (e_name 1) (e_k (.int 0))) (a_cons (e_op subD2 (e_name 1) (e_k (.int 1))) a_nil)))
      (s_seq (s_if (t_val (e_op neD (e_call F_judged 3 (a_cons (e_name 10) (a_cons (e_name 9) (a_cons (e_name 3) a_nil)))) (e_op subD2 (e_new (n_disp [((e_k (.str "one")), (e_k (.str "other"))), ((e_k (.str "other")), (e_k (.str "one"))), ((e_k (.str "same")), (e_k (.str "same")))])) (e_call F_judged 3 (a_cons (e_name 9) (a_cons (e_name 10) (a_cons (e_name 3) a_nil))))))) (s_ret (e_k (.bl false))) s_next)
      (s_seq (s_set 11 (e_call F_fewest 3 (a_cons (e_name 9) (a_cons (e_name 10) (a_cons (e_name 3) a_nil)))))
      (s_seq (s_if (t_val (e_op (isND true) (e_name 11) (e_k .non))) (s_seq (s_setN 12 (n_lc [2] (i_range1 (a_cons (e_cb lenD (a_cons (e_name 3) a_nil)) a_nil)) (g_name 2) (t_val (e_op (inLD true) (e_name 2) (e_name 11))) (e_op subD2 (e_name 3) (e_name 2))))
      (s_if (t_val (e_op neD (e_call F_judged 3 (a_cons (e_name 9) (a_cons (e_name 10) (a_cons (e_name 12) a_nil)))) (e_k (.str "one")))) (s_ret (e_k (.bl false))) s_next)) s_next)
      (s_seq (s_if (t_val (e_op neD (e_op eqD (e_name 11) (e_tup a_nil)) (e_op eqD (e_call F_judged 3 (a_cons (e_name 9) (a_cons (e_name 10) (a_cons (e_name 3) a_nil)))) (e_k (.str "one"))))) (s_ret (e_k (.bl false))) s_next)
      (s_seq (s_set 4 (e_call F_parting 3 (a_cons (e_name 9) (a_cons (e_name 10) (a_cons (e_k (.int 3)) a_nil)))))
      (s_seq (s_if (t_or (t_val (e_op neD (e_call F_parting 3 (a_cons (e_name 10) (a_cons (e_name 9) (a_cons (e_k (.int 3)) a_nil)))) (e_name 4))) (t_val (e_op (isND true) (e_call F_parting 3 (a_cons (e_name 9) (a_cons (e_name 9) (a_cons (e_k (.int 4)) a_nil)))) (e_k .non)))) (s_ret (e_k (.bl false))) s_next)
      (s_ret (e_or (e_op (isND false) (e_name 4) (e_k .non)) (e_op neD (e_call F_chance 2 (a_cons (e_name 9) (a_cons (e_name 4) a_nil))) (e_call F_chance 2 (a_cons (e_name 10) (a_cons (e_name 4) a_nil))))))))))))))))
def F_law : List D → RF := runD 12 g_law
abbrev yo (K : PySem.W.Frag) : Yo := ⟨fun v n => v = .ref (He.ga K n), He.ga K⟩
/-- what the top has left -/
structure Tx (K : PySem.W.Frag) (mg : Str → Option Value) : Prop where
  i_LONGEST : ∃ t, mg "LONGEST" = some (.int 6 t)
  i_MOST : ∃ t, mg "MOST" = some (.int 999 t)
  i_MOST_BOOKS : ∃ t, mg "MOST_BOOKS" = some (.int 5 t)
  i_MOST_LETTERS : ∃ t, mg "MOST_LETTERS" = some (.int 4 t)
  i_MOST_NAMES : ∃ t, mg "MOST_NAMES" = some (.int 6 t)
  i_MOST_PAIRS : ∃ t, mg "MOST_PAIRS" = some (.int 60 t)
  i_MOST_SOUGHT : ∃ t, mg "MOST_SOUGHT" = some (.int 999999 t)
  n_all : mg "all" = none
  n_any : mg "any" = none
  n_bool : mg "bool" = none
  n_dict : mg "dict" = none
  n_int : mg "int" = none
  n_isinstance : mg "isinstance" = none
  n_len : mg "len" = none
  n_list : mg "list" = none
  n_range : mg "range" = none
  n_set : mg "set" = none
  n_sorted : mg "sorted" = none
  n_str : mg "str" = none
  n_sum : mg "sum" = none
  n_tuple : mg "tuple" = none
  n_zip : mg "zip" = none
  s_BEGIN : ∃ t, mg "BEGIN" = some (.str "<" t)
  s_END : ∃ t, mg "END" = some (.str ">" t)
  s_SMALL : ∃ t, mg "SMALL" = some (.str "abcdefghijklmnopqrstuvwxyz" t)
  x_NoBook : PySem.W.excIn K (He.ga K "NoBook") He.veBase "ValueError.__new__" = true ∧ mg "NoBook" = some (.ref (He.ga K "NoBook")) ∧ PySem.W.keepIn K (.ref (He.ga K "NoBook")) = true ∧ PySem.W.subIn K (.ref (He.ga K "NoBook")) (.type "BaseException") = some true ∧ PySem.W.typeIn K (.ref (He.ga K "NoBook")) = some (.type "type")
  x_NoName : PySem.W.excIn K (He.ga K "NoName") He.veBase "ValueError.__new__" = true ∧ mg "NoName" = some (.ref (He.ga K "NoName")) ∧ PySem.W.keepIn K (.ref (He.ga K "NoName")) = true ∧ PySem.W.subIn K (.ref (He.ga K "NoName")) (.type "BaseException") = some true ∧ PySem.W.typeIn K (.ref (He.ga K "NoName")) = some (.type "type")
  x_NoNumber : PySem.W.excIn K (He.ga K "NoNumber") He.veBase "ValueError.__new__" = true ∧ mg "NoNumber" = some (.ref (He.ga K "NoNumber")) ∧ PySem.W.keepIn K (.ref (He.ga K "NoNumber")) = true ∧ PySem.W.subIn K (.ref (He.ga K "NoNumber")) (.type "BaseException") = some true ∧ PySem.W.typeIn K (.ref (He.ga K "NoNumber")) = some (.type "type")
section
variable {P : Program} {w : World} {K : PySem.W.Frag} {mg : Str → Option Value} {base : Heap} {f : Addr} {fd : FuncData}
theorem k_is_whole (T : Tx K mg) (F : FunD K "is_whole" "is_whole" (defArgs s_is_whole) (defBody s_is_whole) (defScope s_is_whole) [] [] f fd) (hm : mg "is_whole" = some (.ref f)) : Cl P w K mg base (yo K) 1 "is_whole" 3 F_is_whole :=
  cl_of F hm sc_is_whole rfl rfl (fun _ _ _ _ _ _ us hl => match us, hl with | [_, _, _], _ => rfl) fun cdv A outer s H E v => by
    exact (vss_one (vs_ret (ve_and (ve_isi T.n_isinstance bt_isinstance T.n_int bt_int (ve_name 0)) (ve_and (ve_not (ve_isi T.n_isinstance bt_isinstance T.n_bool bt_bool (ve_name 0))) (ve_one (ve_chain op_les op_les ord_ok ord_ok (ve_name 1) (ve_name 0) (ve_name 2)))))))
theorem k_is_name (T : Tx K mg) (F : FunD K "is_name" "is_name" (defArgs s_is_name) (defBody s_is_name) (defScope s_is_name) [] [] f fd) (hm : mg "is_name" = some (.ref f)) : Cl P w K mg base (yo K) 1 "is_name" 1 F_is_name :=
  cl_of F hm sc_is_name rfl rfl (fun _ _ _ _ _ _ us hl => match us, hl with | [_], _ => rfl) fun cdv A outer s H E v => by
    exact (vss_one (vs_ret (ve_and (ve_isi T.n_isinstance bt_isinstance T.n_str bt_str (ve_name 0)) (ve_and (ve_chain op_les op_les ord_ok ord_ok ve_int (ve_cb call_len2 len_ok T.n_len bt_len (va_cons (ve_name 0) va_nil)) (ve_gint (by rfl) T.i_LONGEST)) (ve_one (ve_cb (cr_all v.calm) all_ok T.n_all bt_all (va_cons (ve_new (vn_lc [("sign", 1)] v (vi_any (ve_name 0)) (blkOk_by (N := N_is_name) (sc := defScope s_is_name) (by decide +kernel)) (fun _ _ _ _ _ => (vg_name 1 (cv_blk v).nd)) (fun _ _ _ _ _ => vts_nil) (fun _ _ _ _ _ => (ve_cmp op_in_str ins_ok (ve_name 1) (ve_gstr (by rfl) T.s_SMALL) (by rfl))))) va_nil)))))))
theorem k_is_pair (T : Tx K mg) (F : FunD K "is_pair" "is_pair" (defArgs s_is_pair) (defBody s_is_pair) (defScope s_is_pair) [] [] f fd) (hm : mg "is_pair" = some (.ref f)) : Cl P w K mg base (yo K) 1 "is_pair" 1 F_is_pair :=
  cl_of F hm sc_is_pair rfl rfl (fun _ _ _ _ _ _ us hl => match us, hl with | [_], _ => rfl) fun cdv A outer s H E v => by
    exact (vss_cons (vs_if (vt_w (vw_or (vt_not (vt_tru (ve_isi T.n_isinstance bt_isinstance T.n_str bt_str (ve_name 0)))) (vw_or (vt_cmp (op_nes v.room.units) ne_ok (ve_cb call_len2 len_ok T.n_len bt_len (va_cons (ve_name 0) va_nil)) ve_int (nomark _)) (vw_or1 (vt_cmp (op_eqs v.room.units) eq_ok (ve_name 0) (ve_op op_plus plus_ok (ve_gstr (by rfl) T.s_BEGIN) (ve_gstr (by rfl) T.s_END)) (nomark _)))))) (vss_one (vs_ret ve_bl)) vss_nil)
      (vss_one (vs_ret (ve_and (ve_cmp op_in_str ins_ok (ve_sub v (ve_name 0) ve_int) (ve_op op_plus plus_ok (ve_gstr (by rfl) T.s_BEGIN) (ve_gstr (by rfl) T.s_SMALL)) (by rfl)) (ve_one (ve_cmp op_in_str ins_ok (ve_sub v (ve_name 0) ve_int) (ve_op op_plus plus_ok (ve_gstr (by rfl) T.s_SMALL) (ve_gstr (by rfl) T.s_END)) (by rfl)))))))
theorem k_is_book (T : Tx K mg) (c_is_whole : Cl P w K mg base (yo K) 1 "is_whole" 3 F_is_whole) (c_is_pair : Cl P w K mg base (yo K) 1 "is_pair" 1 F_is_pair) (F : FunD K "is_book" "is_book" (defArgs s_is_book) (defBody s_is_book) (defScope s_is_book) [] [] f fd) (hm : mg "is_book" = some (.ref f)) : Cl P w K mg base (yo K) 2 "is_book" 1 F_is_book :=
  cl_of F hm sc_is_book rfl rfl (fun _ _ _ _ _ _ us hl => match us, hl with | [_], _ => rfl) fun cdv A outer s H E v => by
    exact (vss_cons (vs_if (vt_w (vw_or (vt_not (vt_tru (ve_isi T.n_isinstance bt_isinstance T.n_tuple bt_tuple (ve_name 0)))) (vw_or1 (vt_cmp op_gts ord_ok (ve_cb call_len2 len_ok T.n_len bt_len (va_cons (ve_name 0) va_nil)) (ve_gint (by rfl) T.i_MOST_PAIRS) (nomark _))))) (vss_one (vs_ret ve_bl)) vss_nil)
      (vss_cons (vs_for v (vi_any (ve_name 0)) (vg_name 1 v.nd) (vss_one (vs_if (vt_w (vw_or (vt_not (vt_tru (ve_isi T.n_isinstance bt_isinstance T.n_tuple bt_tuple (ve_name 1)))) (vw_or (vt_cmp (op_nes v.room.units) ne_ok (ve_cb call_len2 len_ok T.n_len bt_len (va_cons (ve_name 1) va_nil)) ve_int (nomark _)) (vw_or (vt_not (vt_tru (ve_call c_is_pair v (va_cons (ve_sub v (ve_name 1) ve_int) va_nil)))) (vw_or1 (vt_not (vt_tru (ve_call c_is_whole v (va_cons (ve_sub v (ve_name 1) ve_int) (va_cons ve_int (va_cons (ve_gint (by rfl) T.i_MOST) va_nil))))))))))) (vss_one (vs_ret ve_bl)) vss_nil)))
      (vss_one (vs_ret (ve_cb (cr_all v.calm) all_ok T.n_all bt_all (va_cons (ve_new (vn_lc [("one", 1), ("other", 2)] v (vi_zip T.n_zip (va_cons (ve_name 0) (va_cons (ve_slice (ve_name 0) (vp_some ve_int) vp_none) va_nil))) (blkOk_by (N := N_is_book) (sc := defScope s_is_book) (by decide +kernel)) (fun _ _ _ _ _ => (vg_tup (cv_blk v).calm (vgs_cons (vg_name 1 (cv_blk v).nd) (vgs_cons (vg_name 2 (cv_blk v).nd) vgs_nil)))) (fun _ _ _ _ _ => vts_nil) (fun _ _ _ _ _ => (ve_cmp op_lts ord_ok (ve_sub (cv_blk v) (ve_name 1) ve_int) (ve_sub (cv_blk v) (ve_name 2) ve_int) (nomark _))))) va_nil))))))
theorem k_look_book (T : Tx K mg) (c_is_book : Cl P w K mg base (yo K) 2 "is_book" 1 F_is_book) (F : FunD K "look_book" "look_book" (defArgs s_look_book) (defBody s_look_book) (defScope s_look_book) [] [] f fd) (hm : mg "look_book" = some (.ref f)) : Cl P w K mg base (yo K) 3 "look_book" 1 F_look_book :=
  cl_of F hm sc_look_book rfl rfl (fun _ _ _ _ _ _ us hl => match us, hl with | [_], _ => rfl) fun cdv A outer s H E v => by
    exact (vss_one (vs_if (vt_not (vt_tru (ve_call c_is_book v (va_cons (ve_name 0) va_nil)))) (vss_one (vs_raise (cd := 0) v PySem.F.excBase_ValueError T.x_NoBook.1 T.x_NoBook.2.1 T.x_NoBook.2.2.1 T.x_NoBook.2.2.2.1 T.x_NoBook.2.2.2.2)) vss_nil))
theorem k_look_name (T : Tx K mg) (c_is_name : Cl P w K mg base (yo K) 1 "is_name" 1 F_is_name) (F : FunD K "look_name" "look_name" (defArgs s_look_name) (defBody s_look_name) (defScope s_look_name) [] [] f fd) (hm : mg "look_name" = some (.ref f)) : Cl P w K mg base (yo K) 2 "look_name" 1 F_look_name :=
  cl_of F hm sc_look_name rfl rfl (fun _ _ _ _ _ _ us hl => match us, hl with | [_], _ => rfl) fun cdv A outer s H E v => by
    exact (vss_one (vs_if (vt_not (vt_tru (ve_call c_is_name v (va_cons (ve_name 0) va_nil)))) (vss_one (vs_raise (cd := 0) v PySem.F.excBase_ValueError T.x_NoName.1 T.x_NoName.2.1 T.x_NoName.2.2.1 T.x_NoName.2.2.2.1 T.x_NoName.2.2.2.2)) vss_nil))
theorem k_are_names (T : Tx K mg) (c_is_name : Cl P w K mg base (yo K) 1 "is_name" 1 F_is_name) (F : FunD K "are_names" "are_names" (defArgs s_are_names) (defBody s_are_names) (defScope s_are_names) [] [] f fd) (hm : mg "are_names" = some (.ref f)) : Cl P w K mg base (yo K) 2 "are_names" 2 F_are_names :=
  cl_of F hm sc_are_names rfl rfl (fun _ _ _ _ _ _ us hl => match us, hl with | [_, _], _ => rfl) fun cdv A outer s H E v => by
    exact (vss_one (vs_ret (ve_and (ve_isi2 T.n_isinstance bt_isinstance T.n_list bt_list T.n_tuple bt_tuple (ve_name 0)) (ve_and (ve_cmp op_les ord_ok (ve_cb call_len2 len_ok T.n_len bt_len (va_cons (ve_name 0) va_nil)) (ve_name 1) (nomark _)) (ve_one (ve_cb (cr_all v.calm) all_ok T.n_all bt_all (va_cons (ve_new (vn_lc [("one", 2)] v (vi_any (ve_name 0)) (blkOk_by (N := N_are_names) (sc := defScope s_are_names) (by decide +kernel)) (fun _ _ _ _ _ => (vg_name 2 (cv_blk v).nd)) (fun _ _ _ _ _ => vts_nil) (fun _ _ _ _ _ => (ve_call c_is_name (cv_blk v) (va_cons (ve_name 2) va_nil))))) va_nil)))))))
theorem k_pairs_in (T : Tx K mg) (F : FunD K "pairs_in" "pairs_in" (defArgs s_pairs_in) (defBody s_pairs_in) (defScope s_pairs_in) [] [] f fd) (hm : mg "pairs_in" = some (.ref f)) : Cl P w K mg base (yo K) 1 "pairs_in" 1 F_pairs_in :=
  cl_of F hm sc_pairs_in rfl rfl (fun _ _ _ _ _ _ us hl => match us, hl with | [_], _ => rfl) fun cdv A outer s H E v => by
    exact (vss_cons (vs_set 1 v (ve_op op_plus plus_ok (ve_op op_plus plus_ok (ve_gstr (by rfl) T.s_BEGIN) (ve_name 0)) (ve_gstr (by rfl) T.s_END)))
      (vss_one (vs_ret (ve_new (vn_lc [("at", 2)] v (vi_range1 T.n_range (va_cons (ve_op op_sub sub_ok (ve_cb call_len2 len_ok T.n_len bt_len (va_cons (ve_name 1) va_nil)) ve_int) va_nil)) (blkOk_by (N := N_pairs_in) (sc := defScope s_pairs_in) (by decide +kernel)) (fun _ _ _ _ _ => (vg_name 2 (cv_blk v).nd)) (fun _ _ _ _ _ => vts_nil) (fun _ _ _ _ _ => (ve_slice (ve_name 1) (vp_some (ve_name 2)) (vp_some (ve_op op_plus plus_ok (ve_name 2) ve_int)))))))))
theorem k_lowest (T : Tx K mg) (F : FunD K "lowest" "lowest" (defArgs s_lowest) (defBody s_lowest) (defScope s_lowest) [] [] f fd) (hm : mg "lowest" = some (.ref f)) : Cl P w K mg base (yo K) 1 "lowest" 2 F_lowest :=
  cl_of F hm sc_lowest rfl rfl (fun _ _ _ _ _ _ us hl => match us, hl with | [_, _], _ => rfl) fun cdv A outer s H E v => by
    exact (vss_cons (vs_par 2 3 v (va_cons (ve_name 0) (va_cons (ve_name 1) va_nil)))
      (vss_cons (vs_while v ((fuI 3)) (vt_cmp (op_nes v.room.units) ne_ok (ve_name 3) ve_int (nomark _)) (vss_one (vs_par 2 3 v (va_cons (ve_name 3) (va_cons (ve_op op_mod mod_ok (ve_name 2) (ve_name 3)) va_nil)))))
      (vss_one (vs_ret (ve_tup (va_cons (ve_op op_fdivW fdiv_ok (ve_name 0) (ve_name 2)) (va_cons (ve_op op_fdivW fdiv_ok (ve_name 1) (ve_name 2)) va_nil)))))))
theorem k_count_of (T : Tx K mg) (F : FunD K "count_of" "count_of" (defArgs s_count_of) (defBody s_count_of) (defScope s_count_of) [] [] f fd) (hm : mg "count_of" = some (.ref f)) : Cl P w K mg base (yo K) 1 "count_of" 2 F_count_of :=
  cl_of F hm sc_count_of rfl rfl (fun _ _ _ _ _ _ us hl => match us, hl with | [_, _], _ => rfl) fun cdv A outer s H E v => by
    exact (vss_one (vs_ret (ve_get v (ve_new (vn_ct (call_dictA v.calm) dict_ok T.n_dict bt_dict (va_cons (ve_name 0) va_nil))) (ve_name 1) ve_int ⟨rfl, rfl, rfl, rfl⟩)))
theorem k_sum_behind (T : Tx K mg) (F : FunD K "sum_behind" "sum_behind" (defArgs s_sum_behind) (defBody s_sum_behind) (defScope s_sum_behind) [] [] f fd) (hm : mg "sum_behind" = some (.ref f)) : Cl P w K mg base (yo K) 1 "sum_behind" 2 F_sum_behind :=
  cl_of F hm sc_sum_behind rfl rfl (fun _ _ _ _ _ _ us hl => match us, hl with | [_, _], _ => rfl) fun cdv A outer s H E v => by
    exact (vss_one (vs_ret (ve_cb (cr_sum v.calm) sum_ok T.n_sum bt_sum (va_cons (ve_new (vn_lc [("pair", 2), ("count", 3)] v (vi_any (ve_name 0)) (blkOk_by (N := N_sum_behind) (sc := defScope s_sum_behind) (by decide +kernel)) (fun _ _ _ _ _ => (vg_tup (cv_blk v).calm (vgs_cons (vg_name 2 (cv_blk v).nd) (vgs_cons (vg_name 3 (cv_blk v).nd) vgs_nil)))) (fun _ _ _ _ _ => (vts_one (vt_cmp (op_eqs (cv_blk v).room.units) eq_ok (ve_sub (cv_blk v) (ve_name 2) ve_int) (ve_name 1) (nomark _)))) (fun _ _ _ _ _ => (ve_name 3)))) va_nil))))
theorem k_share_of (T : Tx K mg) (c_sum_behind : Cl P w K mg base (yo K) 1 "sum_behind" 2 F_sum_behind) (c_lowest : Cl P w K mg base (yo K) 1 "lowest" 2 F_lowest) (c_count_of : Cl P w K mg base (yo K) 1 "count_of" 2 F_count_of) (F : FunD K "share_of" "share_of" (defArgs s_share_of) (defBody s_share_of) (defScope s_share_of) [] [] f fd) (hm : mg "share_of" = some (.ref f)) : Cl P w K mg base (yo K) 2 "share_of" 2 F_share_of :=
  cl_of F hm sc_share_of rfl rfl (fun _ _ _ _ _ _ us hl => match us, hl with | [_, _], _ => rfl) fun cdv A outer s H E v => by
    exact (vss_cons (vs_set 2 v (ve_call c_sum_behind v (va_cons (ve_name 0) (va_cons (ve_sub v (ve_name 1) ve_int) va_nil))))
      (vss_one (vs_ret (ve_if (vt_cmp op_gts ord_ok (ve_name 2) ve_int (nomark _)) (ve_call c_lowest v (va_cons (ve_call c_count_of v (va_cons (ve_name 0) (va_cons (ve_name 1) va_nil))) (va_cons (ve_name 2) va_nil))) (ve_tup (va_cons ve_int (va_cons ve_int va_nil)))))))
theorem k_soft_of (T : Tx K mg) (c_lowest : Cl P w K mg base (yo K) 1 "lowest" 2 F_lowest) (c_sum_behind : Cl P w K mg base (yo K) 1 "sum_behind" 2 F_sum_behind) (c_count_of : Cl P w K mg base (yo K) 1 "count_of" 2 F_count_of) (F : FunD K "soft_of" "soft_of" (defArgs s_soft_of) (defBody s_soft_of) (defScope s_soft_of) [] [] f fd) (hm : mg "soft_of" = some (.ref f)) : Cl P w K mg base (yo K) 2 "soft_of" 2 F_soft_of :=
  cl_of F hm sc_soft_of rfl rfl (fun _ _ _ _ _ _ us hl => match us, hl with | [_, _], _ => rfl) fun cdv A outer s H E v => by
    exact (vss_cons (vs_set 2 v (ve_if (vt_cmp (op_eqs v.room.units) eq_ok (ve_sub v (ve_name 1) ve_int) (ve_gstr (by rfl) T.s_BEGIN) (nomark _)) ve_int ve_int))
      (vss_one (vs_ret (ve_call c_lowest v (va_cons (ve_op op_plus plus_ok (ve_call c_count_of v (va_cons (ve_name 0) (va_cons (ve_name 1) va_nil))) ve_int) (va_cons (ve_op op_plus plus_ok (ve_call c_sum_behind v (va_cons (ve_name 0) (va_cons (ve_sub v (ve_name 1) ve_int) va_nil))) (ve_name 2)) va_nil))))))
theorem k_product (T : Tx K mg) (c_lowest : Cl P w K mg base (yo K) 1 "lowest" 2 F_lowest) (F : FunD K "product" "product" (defArgs s_product) (defBody s_product) (defScope s_product) [] [] f fd) (hm : mg "product" = some (.ref f)) : Cl P w K mg base (yo K) 2 "product" 1 F_product :=
  cl_of F hm sc_product rfl rfl (fun _ _ _ _ _ _ us hl => match us, hl with | [_], _ => rfl) fun cdv A outer s H E v => by
    exact (vss_cons (vs_asg (ve_tup (va_cons ve_int (va_cons ve_int va_nil))) (vg_tup v.calm (vgs_cons (vg_name 1 v.nd) (vgs_cons (vg_name 2 v.nd) vgs_nil))))
      (vss_cons (vs_for v (vi_any (ve_name 0)) (vg_name 3 v.nd) (vss_one (vs_asg (ve_call c_lowest v (va_cons (ve_op op_times mul_ok (ve_name 1) (ve_sub v (ve_name 3) ve_int)) (va_cons (ve_op op_times mul_ok (ve_name 2) (ve_sub v (ve_name 3) ve_int)) va_nil))) (vg_tup v.calm (vgs_cons (vg_name 1 v.nd) (vgs_cons (vg_name 2 v.nd) vgs_nil))))))
      (vss_one (vs_ret (ve_tup (va_cons (ve_name 1) (va_cons (ve_name 2) va_nil)))))))
theorem k_chance_of (T : Tx K mg) (c_product : Cl P w K mg base (yo K) 2 "product" 1 F_product) (c_share_of : Cl P w K mg base (yo K) 2 "share_of" 2 F_share_of) (c_pairs_in : Cl P w K mg base (yo K) 1 "pairs_in" 1 F_pairs_in) (F : FunD K "chance_of" "chance_of" (defArgs s_chance_of) (defBody s_chance_of) (defScope s_chance_of) [] [] f fd) (hm : mg "chance_of" = some (.ref f)) : Cl P w K mg base (yo K) 3 "chance_of" 2 F_chance_of :=
  cl_of F hm sc_chance_of rfl rfl (fun _ _ _ _ _ _ us hl => match us, hl with | [_, _], _ => rfl) fun cdv A outer s H E v => by
    exact (vss_one (vs_ret (ve_call c_product v (va_cons (ve_new (vn_lc [("pair", 2)] v (vi_any (ve_call c_pairs_in v (va_cons (ve_name 1) va_nil))) (blkOk_by (N := N_chance_of) (sc := defScope s_chance_of) (by decide +kernel)) (fun _ _ _ _ _ => (vg_name 2 (cv_blk v).nd)) (fun _ _ _ _ _ => vts_nil) (fun _ _ _ _ _ => (ve_call c_share_of (cv_blk v) (va_cons (ve_name 0) (va_cons (ve_name 2) va_nil)))))) va_nil))))
theorem k_soft_chance_of (T : Tx K mg) (c_product : Cl P w K mg base (yo K) 2 "product" 1 F_product) (c_soft_of : Cl P w K mg base (yo K) 2 "soft_of" 2 F_soft_of) (c_pairs_in : Cl P w K mg base (yo K) 1 "pairs_in" 1 F_pairs_in) (F : FunD K "soft_chance_of" "soft_chance_of" (defArgs s_soft_chance_of) (defBody s_soft_chance_of) (defScope s_soft_chance_of) [] [] f fd) (hm : mg "soft_chance_of" = some (.ref f)) : Cl P w K mg base (yo K) 3 "soft_chance_of" 2 F_soft_chance_of :=
  cl_of F hm sc_soft_chance_of rfl rfl (fun _ _ _ _ _ _ us hl => match us, hl with | [_, _], _ => rfl) fun cdv A outer s H E v => by
    exact (vss_one (vs_ret (ve_call c_product v (va_cons (ve_new (vn_lc [("pair", 2)] v (vi_any (ve_call c_pairs_in v (va_cons (ve_name 1) va_nil))) (blkOk_by (N := N_soft_chance_of) (sc := defScope s_soft_chance_of) (by decide +kernel)) (fun _ _ _ _ _ => (vg_name 2 (cv_blk v).nd)) (fun _ _ _ _ _ => vts_nil) (fun _ _ _ _ _ => (ve_call c_soft_of (cv_blk v) (va_cons (ve_name 0) (va_cons (ve_name 2) va_nil)))))) va_nil))))
theorem k_chance (T : Tx K mg) (c_look_book : Cl P w K mg base (yo K) 3 "look_book" 1 F_look_book) (c_look_name : Cl P w K mg base (yo K) 2 "look_name" 1 F_look_name) (c_chance_of : Cl P w K mg base (yo K) 3 "chance_of" 2 F_chance_of) (F : FunD K "chance" "chance" (defArgs s_chance) (defBody s_chance) (defScope s_chance) [] [] f fd) (hm : mg "chance" = some (.ref f)) : Cl P w K mg base (yo K) 4 "chance" 2 F_chance :=
  cl_of F hm sc_chance rfl rfl (fun _ _ _ _ _ _ us hl => match us, hl with | [_, _], _ => rfl) fun cdv A outer s H E v => by
    exact (vss_cons (vs_expr (ve_call c_look_book v (va_cons (ve_name 0) va_nil)))
      (vss_cons (vs_expr (ve_call c_look_name v (va_cons (ve_name 1) va_nil)))
      (vss_one (vs_ret (ve_call c_chance_of v (va_cons (ve_name 0) (va_cons (ve_name 1) va_nil)))))))
theorem k_soft_chance (T : Tx K mg) (c_look_book : Cl P w K mg base (yo K) 3 "look_book" 1 F_look_book) (c_look_name : Cl P w K mg base (yo K) 2 "look_name" 1 F_look_name) (c_soft_chance_of : Cl P w K mg base (yo K) 3 "soft_chance_of" 2 F_soft_chance_of) (F : FunD K "soft_chance" "soft_chance" (defArgs s_soft_chance) (defBody s_soft_chance) (defScope s_soft_chance) [] [] f fd) (hm : mg "soft_chance" = some (.ref f)) : Cl P w K mg base (yo K) 4 "soft_chance" 2 F_soft_chance :=
  cl_of F hm sc_soft_chance rfl rfl (fun _ _ _ _ _ _ us hl => match us, hl with | [_, _], _ => rfl) fun cdv A outer s H E v => by
    exact (vss_cons (vs_expr (ve_call c_look_book v (va_cons (ve_name 0) va_nil)))
      (vss_cons (vs_expr (ve_call c_look_name v (va_cons (ve_name 1) va_nil)))
      (vss_one (vs_ret (ve_call c_soft_chance_of v (va_cons (ve_name 0) (va_cons (ve_name 1) va_nil)))))))
theorem k_is_less (T : Tx K mg) (F : FunD K "is_less" "is_less" (defArgs s_is_less) (defBody s_is_less) (defScope s_is_less) [] [] f fd) (hm : mg "is_less" = some (.ref f)) : Cl P w K mg base (yo K) 1 "is_less" 2 F_is_less :=
  cl_of F hm sc_is_less rfl rfl (fun _ _ _ _ _ _ us hl => match us, hl with | [_, _], _ => rfl) fun cdv A outer s H E v => by
    exact (vss_one (vs_ret (ve_cmp op_lts ord_ok (ve_op op_times mul_ok (ve_sub v (ve_name 0) ve_int) (ve_sub v (ve_name 1) ve_int)) (ve_op op_times mul_ok (ve_sub v (ve_name 1) ve_int) (ve_sub v (ve_name 0) ve_int)) (nomark _))))
theorem k_letters_behind (T : Tx K mg) (F : FunD K "letters_behind" "letters_behind" (defArgs s_letters_behind) (defBody s_letters_behind) (defScope s_letters_behind) [] [] f fd) (hm : mg "letters_behind" = some (.ref f)) : Cl P w K mg base (yo K) 1 "letters_behind" 2 F_letters_behind :=
  cl_of F hm sc_letters_behind rfl rfl (fun _ _ _ _ _ _ us hl => match us, hl with | [_, _], _ => rfl) fun cdv A outer s H E v => by
    exact (vss_one (vs_ret (ve_new (vn_lc [("pair", 2), ("count", 3)] v (vi_any (ve_name 0)) (blkOk_by (N := N_letters_behind) (sc := defScope s_letters_behind) (by decide +kernel)) (fun _ _ _ _ _ => (vg_tup (cv_blk v).calm (vgs_cons (vg_name 2 (cv_blk v).nd) (vgs_cons (vg_name 3 (cv_blk v).nd) vgs_nil)))) (fun _ _ _ _ _ => (vts_one (vt_w (vw_and (vt_cmp (op_eqs (cv_blk v).room.units) eq_ok (ve_sub (cv_blk v) (ve_name 2) ve_int) (ve_name 1) (nomark _)) (vw_and1 (vt_cmp (op_nes (cv_blk v).room.units) ne_ok (ve_sub (cv_blk v) (ve_name 2) ve_int) (ve_gstr (by rfl) T.s_END) (nomark _))))))) (fun _ _ _ _ _ => (ve_sub (cv_blk v) (ve_name 2) ve_int))))))
theorem k_can_end (T : Tx K mg) (F : FunD K "can_end" "can_end" (defArgs s_can_end) (defBody s_can_end) (defScope s_can_end) [] [] f fd) (hm : mg "can_end" = some (.ref f)) : Cl P w K mg base (yo K) 1 "can_end" 2 F_can_end :=
  cl_of F hm sc_can_end rfl rfl (fun _ _ _ _ _ _ us hl => match us, hl with | [_, _], _ => rfl) fun cdv A outer s H E v => by
    exact (vss_one (vs_ret (ve_cmp op_in_seq (inL_ok false) (ve_op op_plus plus_ok (ve_name 1) (ve_gstr (by rfl) T.s_END)) (ve_new (vn_lc [("pair", 2), ("count", 3)] v (vi_any (ve_name 0)) (blkOk_by (N := N_can_end) (sc := defScope s_can_end) (by decide +kernel)) (fun _ _ _ _ _ => (vg_tup (cv_blk v).calm (vgs_cons (vg_name 2 (cv_blk v).nd) (vgs_cons (vg_name 3 (cv_blk v).nd) vgs_nil)))) (fun _ _ _ _ _ => vts_nil) (fun _ _ _ _ _ => (ve_name 2)))) (by rfl))))
theorem k_can_tell (T : Tx K mg) (c_can_end : Cl P w K mg base (yo K) 1 "can_end" 2 F_can_end) (c_letters_behind : Cl P w K mg base (yo K) 1 "letters_behind" 2 F_letters_behind) (F : FunD K "can_tell" "can_tell" (defArgs s_can_tell) (defBody s_can_tell) (defScope s_can_tell) [] [] f fd) (hm : mg "can_tell" = some (.ref f)) : Cl P w K mg base (yo K) 10 "can_tell" 3 F_can_tell :=
  cl_rec (k0 := 1) (cl_of F hm sc_can_tell rfl rfl (fun _ _ _ _ _ _ us hl => match us, hl with | [_, _, _], _ => rfl) fun cdv A outer s H E v => vss_bad) (fun l R hl cR => cl_of F hm sc_can_tell rfl rfl (fun _ _ _ _ _ _ us hl => match us, hl with | [_, _, _], _ => rfl) fun cdv A outer s H E v => by
    exact (vss_cons (vs_if (vt_cmp (op_eqs v.room.units) eq_ok (ve_name 2) ve_int (nomark _)) (vss_one (vs_ret (ve_call c_can_end v (va_cons (ve_name 0) (va_cons (ve_name 1) va_nil)) (hk := Nat.le_trans (by decide) hl)))) vss_nil)
      (vss_one (vs_ret (ve_cb (cr_any v.calm) any_ok T.n_any bt_any (va_cons (ve_new (vn_lc [("letter", 3)] v (vi_any (ve_call c_letters_behind v (va_cons (ve_name 0) (va_cons (ve_name 1) va_nil)) (hk := Nat.le_trans (by decide) hl))) (blkOk_by (N := N_can_tell) (sc := defScope s_can_tell) (by decide +kernel)) (fun _ _ _ _ _ => (vg_name 3 (cv_blk v).nd)) (fun _ _ _ _ _ => vts_nil) (fun _ _ _ _ _ => (ve_call cR (cv_blk v) (va_cons (ve_name 0) (va_cons (ve_name 3) (va_cons (ve_op op_sub sub_ok (ve_name 2) ve_int) va_nil))) (hk := Nat.le_refl _))))) va_nil)))))) 8
theorem k_names_behind (T : Tx K mg) (c_can_end : Cl P w K mg base (yo K) 1 "can_end" 2 F_can_end) (c_letters_behind : Cl P w K mg base (yo K) 1 "letters_behind" 2 F_letters_behind) (c_can_tell : Cl P w K mg base (yo K) 10 "can_tell" 3 F_can_tell) (F : FunD K "names_behind" "names_behind" (defArgs s_names_behind) (defBody s_names_behind) (defScope s_names_behind) [] [] f fd) (hm : mg "names_behind" = some (.ref f)) : Cl P w K mg base (yo K) 19 "names_behind" 4 F_names_behind :=
  cl_rec (k0 := 10) (cl_of F hm sc_names_behind rfl rfl (fun _ _ _ _ _ _ us hl => match us, hl with | [_, _, _, _], _ => rfl) fun cdv A outer s H E v => vss_bad) (fun l R hl cR => cl_of F hm sc_names_behind rfl rfl (fun _ _ _ _ _ _ us hl => match us, hl with | [_, _, _, _], _ => rfl) fun cdv A outer s H E v => by
    exact (vss_cons (vs_set 4 v (ve_if (vt_cmp (op_nes v.room.units) ne_ok (ve_name 1) ve_str (nomark _)) (ve_sub v (ve_name 1) (ve_neg ve_int)) (ve_gstr (by rfl) T.s_BEGIN)))
      (vss_cons (vs_if (vt_cmp (op_eqs v.room.units) eq_ok (ve_name 2) ve_int (nomark _)) (vss_one (vs_ret (ve_if (vt_tru (ve_call c_can_end v (va_cons (ve_name 0) (va_cons (ve_name 4) va_nil)) (hk := Nat.le_trans (by decide) hl))) (ve_lst (va_cons (ve_name 1) va_nil)) (ve_lst va_nil)))) vss_nil)
      (vss_cons (vs_setN 5 v (vn_lst va_nil))
      (vss_cons (vs_for v (vi_any (ve_call c_letters_behind v (va_cons (ve_name 0) (va_cons (ve_name 4) va_nil)) (hk := Nat.le_trans (by decide) hl))) (vg_name 6 v.nd) (vss_one (vs_if (vt_w (vw_and (vt_cmp op_lts ord_ok (ve_peek (ve_cb call_len2 len_ok T.n_len bt_len (va_cons (ve_name 5) va_nil))) (ve_name 3) (nomark _)) (vw_and1 (vt_tru (ve_call c_can_tell v (va_cons (ve_name 0) (va_cons (ve_name 6) (va_cons (ve_op op_sub sub_ok (ve_name 2) ve_int) va_nil))) (hk := Nat.le_trans (by decide) hl)))))) (vss_one (vs_extend 5 (pv 5) (ve_call cR v (va_cons (ve_name 0) (va_cons (ve_op op_plus plus_ok (ve_name 1) (ve_name 6)) (va_cons (ve_op op_sub sub_ok (ve_name 2) ve_int) (va_cons (ve_op op_sub sub_ok (ve_name 3) (ve_peek (ve_cb call_len2 len_ok T.n_len bt_len (va_cons (ve_name 5) va_nil)))) va_nil)))) (hk := Nat.le_refl _)))) vss_nil)))
      (vss_one (vs_ret (ve_name 5)))))))) 8
theorem k_look_books (T : Tx K mg) (c_is_book : Cl P w K mg base (yo K) 2 "is_book" 1 F_is_book) (c_look_name : Cl P w K mg base (yo K) 2 "look_name" 1 F_look_name) (F : FunD K "look_books" "look_books" (defArgs s_look_books) (defBody s_look_books) (defScope s_look_books) [] [] f fd) (hm : mg "look_books" = some (.ref f)) : Cl P w K mg base (yo K) 3 "look_books" 2 F_look_books :=
  cl_of F hm sc_look_books rfl rfl (fun _ _ _ _ _ _ us hl => match us, hl with | [_, _], _ => rfl) fun cdv A outer s H E v => by
    exact (vss_cons (vs_if (vt_w (vw_or (vt_not (vt_tru (ve_isi2 T.n_isinstance bt_isinstance T.n_list bt_list T.n_tuple bt_tuple (ve_name 0)))) (vw_or1 (vt_not (vt_chain op_les op_les ord_ok ord_ok ve_int (ve_cb call_len2 len_ok T.n_len bt_len (va_cons (ve_name 0) va_nil)) (ve_gint (by rfl) T.i_MOST_BOOKS)))))) (vss_one (vs_raise (cd := 0) v PySem.F.excBase_ValueError T.x_NoBook.1 T.x_NoBook.2.1 T.x_NoBook.2.2.1 T.x_NoBook.2.2.2.1 T.x_NoBook.2.2.2.2)) vss_nil)
      (vss_cons (vs_if (vt_not (vt_tru (ve_cb (cr_all v.calm) all_ok T.n_all bt_all (va_cons (ve_new (vn_lc [("one", 2)] v (vi_any (ve_name 0)) (blkOk_by (N := N_look_books) (sc := defScope s_look_books) (by decide +kernel)) (fun _ _ _ _ _ => (vg_name 2 (cv_blk v).nd)) (fun _ _ _ _ _ => vts_nil) (fun _ _ _ _ _ => (ve_call c_is_book (cv_blk v) (va_cons (ve_name 2) va_nil))))) va_nil)))) (vss_one (vs_raise (cd := 0) v PySem.F.excBase_ValueError T.x_NoBook.1 T.x_NoBook.2.1 T.x_NoBook.2.2.1 T.x_NoBook.2.2.2.1 T.x_NoBook.2.2.2.2)) vss_nil)
      (vss_one (vs_expr (ve_call c_look_name v (va_cons (ve_name 1) va_nil))))))
theorem k_order_of (T : Tx K mg) (c_soft_chance_of : Cl P w K mg base (yo K) 3 "soft_chance_of" 2 F_soft_chance_of) (c_is_less : Cl P w K mg base (yo K) 1 "is_less" 2 F_is_less) (F : FunD K "order_of" "order_of" (defArgs s_order_of) (defBody s_order_of) (defScope s_order_of) [] [] f fd) (hm : mg "order_of" = some (.ref f)) : Cl P w K mg base (yo K) 4 "order_of" 2 F_order_of :=
  cl_of F hm sc_order_of rfl rfl (fun _ _ _ _ _ _ us hl => match us, hl with | [_, _], _ => rfl) fun cdv A outer s H E v => by
    exact (vss_cons (vs_setN 2 v (vn_lrng v T.n_list T.n_range (ve_cb call_len2 len_ok T.n_len bt_len (va_cons (ve_name 0) va_nil))))
      (vss_cons (vs_setLc 3 [("book", 4)] v rfl rfl (sw_true rfl rfl rfl (by decide +kernel)) (vi_any (ve_name 0)) (blkOk_by (N := N_order_of) (sc := defScope s_order_of) (by decide +kernel)) (fun _ _ _ _ _ => (vg_name 4 (cv_blk v).nd)) (fun _ _ _ _ _ => vts_nil) (fun _ _ _ _ _ => (ve_call c_soft_chance_of (cv_blk v) (va_cons (ve_name 4) (va_cons (ve_name 1) va_nil)))))
      (vss_cons (vs_setN 5 v (vn_lst va_nil))
      (vss_cons (vs_while v (fun _ => 64) (vt_peek (vt_cmp (op_nes v.room.units) ne_ok (ve_name 2) (ve_lst va_nil) (nomark _))) (vss_cons (vs_set 6 v (ve_subO 2 v (pv 2) ve_int))
      (vss_cons (vs_forO 2 6 v (pv 2) (vg_name 7 v.nd) (ve_if (vt_tru (ve_call c_is_less v (va_cons (ve_sub v (ve_name 3) (ve_name 6)) (va_cons (ve_sub v (ve_name 3) (ve_name 7)) va_nil)))) (ve_name 7) (ve_name 6)))
      (vss_cons (vs_lmeth 2 PySem.F.slot_list_remove PySem.F.type_list_remove mt_remove rem_ok (pv 2) (va_cons (ve_name 6) va_nil))
      (vss_one (vs_append 5 (pv 5) (ve_name 6)))))))
      (vss_one (vs_ret (ve_name 5)))))))
theorem k_likeliest (T : Tx K mg) (c_look_books : Cl P w K mg base (yo K) 3 "look_books" 2 F_look_books) (c_order_of : Cl P w K mg base (yo K) 4 "order_of" 2 F_order_of) (F : FunD K "likeliest" "likeliest" (defArgs s_likeliest) (defBody s_likeliest) (defScope s_likeliest) [] [] f fd) (hm : mg "likeliest" = some (.ref f)) : Cl P w K mg base (yo K) 5 "likeliest" 2 F_likeliest :=
  cl_of F hm sc_likeliest rfl rfl (fun _ _ _ _ _ _ us hl => match us, hl with | [_, _], _ => rfl) fun cdv A outer s H E v => by
    exact (vss_cons (vs_expr (ve_call c_look_books v (va_cons (ve_name 0) (va_cons (ve_name 1) va_nil))))
      (vss_one (vs_ret (ve_sub v (ve_call c_order_of v (va_cons (ve_name 0) (va_cons (ve_name 1) va_nil))) ve_int))))
theorem k_ranked (T : Tx K mg) (c_look_books : Cl P w K mg base (yo K) 3 "look_books" 2 F_look_books) (c_order_of : Cl P w K mg base (yo K) 4 "order_of" 2 F_order_of) (F : FunD K "ranked" "ranked" (defArgs s_ranked) (defBody s_ranked) (defScope s_ranked) [] [] f fd) (hm : mg "ranked" = some (.ref f)) : Cl P w K mg base (yo K) 5 "ranked" 2 F_ranked :=
  cl_of F hm sc_ranked rfl rfl (fun _ _ _ _ _ _ us hl => match us, hl with | [_, _], _ => rfl) fun cdv A outer s H E v => by
    exact (vss_cons (vs_expr (ve_call c_look_books v (va_cons (ve_name 0) (va_cons (ve_name 1) va_nil))))
      (vss_one (vs_ret (ve_call c_order_of v (va_cons (ve_name 0) (va_cons (ve_name 1) va_nil))))))
theorem k_parting (T : Tx K mg) (c_look_book : Cl P w K mg base (yo K) 3 "look_book" 1 F_look_book) (c_is_whole : Cl P w K mg base (yo K) 1 "is_whole" 3 F_is_whole) (c_names_behind : Cl P w K mg base (yo K) 19 "names_behind" 4 F_names_behind) (c_chance_of : Cl P w K mg base (yo K) 3 "chance_of" 2 F_chance_of) (F : FunD K "parting" "parting" (defArgs s_parting) (defBody s_parting) (defScope s_parting) [] [] f fd) (hm : mg "parting" = some (.ref f)) : Cl P w K mg base (yo K) 20 "parting" 3 F_parting :=
  cl_of F hm sc_parting rfl rfl (fun _ _ _ _ _ _ us hl => match us, hl with | [_, _, _], _ => rfl) fun cdv A outer s H E v => by
    exact (vss_cons (vs_expr (ve_call c_look_book v (va_cons (ve_name 0) va_nil)))
      (vss_cons (vs_expr (ve_call c_look_book v (va_cons (ve_name 1) va_nil)))
      (vss_cons (vs_if (vt_not (vt_tru (ve_call c_is_whole v (va_cons (ve_name 2) (va_cons ve_int (va_cons (ve_gint (by rfl) T.i_MOST_LETTERS) va_nil)))))) (vss_one (vs_raise (cd := 0) v PySem.F.excBase_ValueError T.x_NoNumber.1 T.x_NoNumber.2.1 T.x_NoNumber.2.2.1 T.x_NoNumber.2.2.2.1 T.x_NoNumber.2.2.2.2)) vss_nil)
      (vss_cons (vs_for v (vi_range2 T.n_range (va_cons ve_int (va_cons (ve_op op_plus plus_ok (ve_name 2) ve_int) va_nil))) (vg_name 3 v.nd) (vss_cons (vs_set 4 v (ve_op op_plus plus_ok (ve_call c_names_behind v (va_cons (ve_name 0) (va_cons ve_str (va_cons (ve_name 3) (va_cons (ve_gint (by rfl) T.i_MOST_SOUGHT) va_nil))))) (ve_call c_names_behind v (va_cons (ve_name 1) (va_cons ve_str (va_cons (ve_name 3) (va_cons (ve_gint (by rfl) T.i_MOST_SOUGHT) va_nil)))))))
      (vss_one (vs_for v (vi_any (ve_new (vn_sortedset v T.n_sorted T.n_set (va_cons (ve_name 4) va_nil)))) (vg_name 5 v.nd) (vss_one (vs_if (vt_cmp (op_nes v.room.units) ne_ok (ve_call c_chance_of v (va_cons (ve_name 0) (va_cons (ve_name 5) va_nil))) (ve_call c_chance_of v (va_cons (ve_name 1) (va_cons (ve_name 5) va_nil))) (nomark _)) (vss_one (vs_ret (ve_name 5))) vss_nil))))))
      (vss_one (vs_ret ve_non))))))
theorem k_look_names (T : Tx K mg) (c_look_book : Cl P w K mg base (yo K) 3 "look_book" 1 F_look_book) (c_are_names : Cl P w K mg base (yo K) 2 "are_names" 2 F_are_names) (F : FunD K "look_names" "look_names" (defArgs s_look_names) (defBody s_look_names) (defScope s_look_names) [] [] f fd) (hm : mg "look_names" = some (.ref f)) : Cl P w K mg base (yo K) 4 "look_names" 3 F_look_names :=
  cl_of F hm sc_look_names rfl rfl (fun _ _ _ _ _ _ us hl => match us, hl with | [_, _, _], _ => rfl) fun cdv A outer s H E v => by
    exact (vss_cons (vs_expr (ve_call c_look_book v (va_cons (ve_name 0) va_nil)))
      (vss_cons (vs_expr (ve_call c_look_book v (va_cons (ve_name 1) va_nil)))
      (vss_one (vs_if (vt_not (vt_tru (ve_call c_are_names v (va_cons (ve_name 2) (va_cons (ve_gint (by rfl) T.i_MOST_NAMES) va_nil))))) (vss_one (vs_raise (cd := 0) v PySem.F.excBase_ValueError T.x_NoName.1 T.x_NoName.2.1 T.x_NoName.2.2.1 T.x_NoName.2.2.2.1 T.x_NoName.2.2.2.2)) vss_nil))))
theorem k_judge (T : Tx K mg) (c_product : Cl P w K mg base (yo K) 2 "product" 1 F_product) (c_soft_chance_of : Cl P w K mg base (yo K) 3 "soft_chance_of" 2 F_soft_chance_of) (c_is_less : Cl P w K mg base (yo K) 1 "is_less" 2 F_is_less) (F : FunD K "judge" "judge" (defArgs s_judge) (defBody s_judge) (defScope s_judge) [] [] f fd) (hm : mg "judge" = some (.ref f)) : Cl P w K mg base (yo K) 4 "judge" 3 F_judge :=
  cl_of F hm sc_judge rfl rfl (fun _ _ _ _ _ _ us hl => match us, hl with | [_, _, _], _ => rfl) fun cdv A outer s H E v => by
    exact (vss_cons (vs_set 3 v (ve_call c_product v (va_cons (ve_new (vn_lc [("name", 4)] v (vi_any (ve_name 2)) (blkOk_by (N := N_judge) (sc := defScope s_judge) (by decide +kernel)) (fun _ _ _ _ _ => (vg_name 4 (cv_blk v).nd)) (fun _ _ _ _ _ => vts_nil) (fun _ _ _ _ _ => (ve_call c_soft_chance_of (cv_blk v) (va_cons (ve_name 0) (va_cons (ve_name 4) va_nil)))))) va_nil)))
      (vss_cons (vs_set 5 v (ve_call c_product v (va_cons (ve_new (vn_lc [("name", 4)] v (vi_any (ve_name 2)) (blkOk_by (N := N_judge) (sc := defScope s_judge) (by decide +kernel)) (fun _ _ _ _ _ => (vg_name 4 (cv_blk v).nd)) (fun _ _ _ _ _ => vts_nil) (fun _ _ _ _ _ => (ve_call c_soft_chance_of (cv_blk v) (va_cons (ve_name 1) (va_cons (ve_name 4) va_nil)))))) va_nil)))
      (vss_cons (vs_if (vt_cmp (op_eqs v.room.units) eq_ok (ve_name 3) (ve_name 5) (nomark _)) (vss_one (vs_ret ve_str)) vss_nil)
      (vss_one (vs_ret (ve_if (vt_tru (ve_call c_is_less v (va_cons (ve_name 3) (va_cons (ve_name 5) va_nil)))) ve_str ve_str))))))
theorem k_judged (T : Tx K mg) (c_look_names : Cl P w K mg base (yo K) 4 "look_names" 3 F_look_names) (c_judge : Cl P w K mg base (yo K) 4 "judge" 3 F_judge) (F : FunD K "judged" "judged" (defArgs s_judged) (defBody s_judged) (defScope s_judged) [] [] f fd) (hm : mg "judged" = some (.ref f)) : Cl P w K mg base (yo K) 5 "judged" 3 F_judged :=
  cl_of F hm sc_judged rfl rfl (fun _ _ _ _ _ _ us hl => match us, hl with | [_, _, _], _ => rfl) fun cdv A outer s H E v => by
    exact (vss_cons (vs_expr (ve_call c_look_names v (va_cons (ve_name 0) (va_cons (ve_name 1) (va_cons (ve_name 2) va_nil)))))
      (vss_one (vs_ret (ve_call c_judge v (va_cons (ve_name 0) (va_cons (ve_name 1) (va_cons (ve_name 2) va_nil)))))))
theorem k_choices (T : Tx K mg) (F : FunD K "choices" "choices" (defArgs s_choices) (defBody s_choices) (defScope s_choices) [] [] f fd) (hm : mg "choices" = some (.ref f)) : Cl P w K mg base (yo K) 1 "choices" 1 F_choices :=
  cl_of F hm sc_choices rfl rfl (fun _ _ _ _ _ _ us hl => match us, hl with | [_], _ => rfl) fun cdv A outer s H E v => by
    exact (vss_cons (vs_set 1 v (ve_lst (va_cons (ve_tup va_nil) va_nil)))
      (vss_cons (vs_for v (vi_range1 T.n_range (va_cons (ve_name 0) va_nil)) (vg_name 2 v.nd) (vss_one (vs_set 1 v (ve_op op_plus plus_ok (ve_name 1) (ve_new (vn_lc [("some", 3)] v (vi_any (ve_name 1)) (blkOk_by (N := N_choices) (sc := defScope s_choices) (by decide +kernel)) (fun _ _ _ _ _ => (vg_name 3 (cv_blk v).nd)) (fun _ _ _ _ _ => vts_nil) (fun _ _ _ _ _ => (ve_op op_plus plus_ok (ve_name 3) (ve_tup (va_cons (ve_name 2) va_nil))))))))))
      (vss_one (vs_ret (ve_new (vn_lc [("size", 4), ("some", 3)] v (vi_any (ve_new (vn_cb (cr_sortG v.room.units) sortG_ok T.n_sorted bt_sorted (va_cons (ve_new (vn_lc [("some", 3)] v (vi_any (ve_name 1)) (blkOk_by (N := N_choices) (sc := defScope s_choices) (by decide +kernel)) (fun _ _ _ _ _ => (vg_name 3 (cv_blk v).nd)) (fun _ _ _ _ _ => vts_nil) (fun _ _ _ _ _ => (ve_tup (va_cons (ve_cb call_len2 len_ok T.n_len bt_len (va_cons (ve_name 3) va_nil)) (va_cons (ve_name 3) va_nil)))))) va_nil)))) (blkOk_by (N := N_choices) (sc := defScope s_choices) (by decide +kernel)) (fun _ _ _ _ _ => (vg_tup (cv_blk v).calm (vgs_cons (vg_name 4 (cv_blk v).nd) (vgs_cons (vg_name 3 (cv_blk v).nd) vgs_nil)))) (fun _ _ _ _ _ => vts_nil) (fun _ _ _ _ _ => (ve_name 3))))))))
theorem k_fewest (T : Tx K mg) (c_look_names : Cl P w K mg base (yo K) 4 "look_names" 3 F_look_names) (c_choices : Cl P w K mg base (yo K) 1 "choices" 1 F_choices) (c_judge : Cl P w K mg base (yo K) 4 "judge" 3 F_judge) (F : FunD K "fewest" "fewest" (defArgs s_fewest) (defBody s_fewest) (defScope s_fewest) [] [] f fd) (hm : mg "fewest" = some (.ref f)) : Cl P w K mg base (yo K) 5 "fewest" 3 F_fewest :=
  cl_of F hm sc_fewest rfl rfl (fun _ _ _ _ _ _ us hl => match us, hl with | [_, _, _], _ => rfl) fun cdv A outer s H E v => by
    exact (vss_cons (vs_expr (ve_call c_look_names v (va_cons (ve_name 0) (va_cons (ve_name 1) (va_cons (ve_name 2) va_nil)))))
      (vss_cons (vs_for v (vi_any (ve_call c_choices v (va_cons (ve_cb call_len2 len_ok T.n_len bt_len (va_cons (ve_name 2) va_nil)) va_nil))) (vg_name 3 v.nd) (vss_one (vs_if (vt_cmp (op_eqs v.room.units) eq_ok (ve_call c_judge v (va_cons (ve_name 0) (va_cons (ve_name 1) (va_cons (ve_new (vn_lc [("place", 4)] v (vi_range1 T.n_range (va_cons (ve_cb call_len2 len_ok T.n_len bt_len (va_cons (ve_name 2) va_nil)) va_nil)) (blkOk_by (N := N_fewest) (sc := defScope s_fewest) (by decide +kernel)) (fun _ _ _ _ _ => (vg_name 4 (cv_blk v).nd)) (fun _ _ _ _ _ => (vts_one (vt_cmp op_notIn_seq (inL_ok true) (ve_name 4) (ve_name 3) (by rfl)))) (fun _ _ _ _ _ => (ve_sub (cv_blk v) (ve_name 2) (ve_name 4))))) va_nil)))) ve_str (nomark _)) (vss_one (vs_ret (ve_name 3))) vss_nil)))
      (vss_one (vs_ret ve_non))))
theorem k__law_cell (T : Tx K mg) (F : FunD K "_law_cell" "_law_cell" (defArgs s__law_cell) (defBody s__law_cell) (defScope s__law_cell) [] [] f fd) (hm : mg "_law_cell" = some (.ref f)) : Cl P w K mg base (yo K) 1 "_law_cell" 2 F__law_cell :=
  cl_of F hm sc__law_cell rfl rfl (fun _ _ _ _ _ _ us hl => match us, hl with | [_, _], _ => rfl) fun cdv A outer s H E v => by
    exact (vss_cons (vs_if (vt_cmp op_lts ord_ok (ve_name 1) (ve_cb call_len2 len_ok T.n_len bt_len (va_cons (ve_name 0) va_nil)) (nomark _)) (vss_one (vs_ret (ve_sub v (ve_name 0) (ve_name 1)))) vss_nil)
      (vss_cons (vs_if (vt_cmp (op_eqs v.room.units) eq_ok (ve_name 0) (ve_lst va_nil) (nomark _)) (vss_one (vs_ret ve_int)) vss_nil)
      (vss_one (vs_ret (ve_op op_plus plus_ok (ve_op op_times mul_ok (ve_sub v (ve_name 0) (ve_op op_mod mod_ok (ve_name 1) (ve_cb call_len2 len_ok T.n_len bt_len (va_cons (ve_name 0) va_nil)))) ve_int) (ve_name 1))))))
theorem k__law_pick (T : Tx K mg) (c__law_cell : Cl P w K mg base (yo K) 1 "_law_cell" 2 F__law_cell) (F : FunD K "_law_pick" "_law_pick" (defArgs s__law_pick) (defBody s__law_pick) (defScope s__law_pick) [] [] f fd) (hm : mg "_law_pick" = some (.ref f)) : Cl P w K mg base (yo K) 2 "_law_pick" 3 F__law_pick :=
  cl_of F hm sc__law_pick rfl rfl (fun _ _ _ _ _ _ us hl => match us, hl with | [_, _, _], _ => rfl) fun cdv A outer s H E v => by
    exact (vss_cons (vs_set 3 v (ve_op op_mod mod_ok (ve_op op_times mul_ok (ve_op op_plus plus_ok (ve_call c__law_cell v (va_cons (ve_name 0) (va_cons (ve_name 1) va_nil))) (ve_op op_times mul_ok ve_int (ve_op op_plus plus_ok (ve_name 1) ve_int))) ve_int) ve_int))
      (vss_one (vs_ret (ve_op op_mod mod_ok (ve_op op_mod mod_ok (ve_op op_plus plus_ok (ve_op op_times mul_ok (ve_name 3) (ve_name 3)) (ve_op op_fdivW fdiv_ok (ve_name 3) ve_int)) ve_int) (ve_name 2)))))
theorem k__law_name (T : Tx K mg) (c__law_pick : Cl P w K mg base (yo K) 2 "_law_pick" 3 F__law_pick) (F : FunD K "_law_name" "_law_name" (defArgs s__law_name) (defBody s__law_name) (defScope s__law_name) [] [] f fd) (hm : mg "_law_name" = some (.ref f)) : Cl P w K mg base (yo K) 3 "_law_name" 3 F__law_name :=
  cl_of F hm sc__law_name rfl rfl (fun _ _ _ _ _ _ us hl => match us, hl with | [_, _, _], _ => rfl) fun cdv A outer s H E v => by
    exact (vss_one (vs_ret (ve_join ve_str (ve_new (vn_lc [("_law_k", 3)] v (vi_range1 T.n_range (va_cons (ve_op op_plus plus_ok ve_int (ve_call c__law_pick v (va_cons (ve_name 0) (va_cons (ve_name 1) (va_cons ve_int va_nil))))) va_nil)) (blkOk_by (N := N__law_name) (sc := defScope s__law_name) (by decide +kernel)) (fun _ _ _ _ _ => (vg_name 3 (cv_blk v).nd)) (fun _ _ _ _ _ => vts_nil) (fun _ _ _ _ _ => (ve_sub (cv_blk v) (ve_name 2) (ve_call c__law_pick (cv_blk v) (va_cons (ve_name 0) (va_cons (ve_op op_plus plus_ok (ve_op op_plus plus_ok (ve_name 1) ve_int) (ve_name 3)) (va_cons (ve_cb call_len2 len_ok T.n_len bt_len (va_cons (ve_name 2) va_nil)) va_nil)))))))))))
theorem k__law_names (T : Tx K mg) (c__law_pick : Cl P w K mg base (yo K) 2 "_law_pick" 3 F__law_pick) (c__law_name : Cl P w K mg base (yo K) 3 "_law_name" 3 F__law_name) (F : FunD K "_law_names" "_law_names" (defArgs s__law_names) (defBody s__law_names) (defScope s__law_names) [] [] f fd) (hm : mg "_law_names" = some (.ref f)) : Cl P w K mg base (yo K) 4 "_law_names" 3 F__law_names :=
  cl_of F hm sc__law_names rfl rfl (fun _ _ _ _ _ _ us hl => match us, hl with | [_, _, _], _ => rfl) fun cdv A outer s H E v => by
    exact (vss_cons (vs_set 3 v (ve_sub v (ve_lst (va_cons ve_str (va_cons ve_str (va_cons ve_str (va_cons ve_str (va_cons ve_str va_nil)))))) (ve_call c__law_pick v (va_cons (ve_name 0) (va_cons (ve_name 1) (va_cons ve_int va_nil))))))
      (vss_one (vs_ret (ve_new (vn_lc [("_law_k", 4)] v (vi_range1 T.n_range (va_cons (ve_call c__law_pick v (va_cons (ve_name 0) (va_cons (ve_op op_plus plus_ok (ve_name 1) ve_int) (va_cons (ve_op op_plus plus_ok (ve_name 2) ve_int) va_nil)))) va_nil)) (blkOk_by (N := N__law_names) (sc := defScope s__law_names) (by decide +kernel)) (fun _ _ _ _ _ => (vg_name 4 (cv_blk v).nd)) (fun _ _ _ _ _ => vts_nil) (fun _ _ _ _ _ => (ve_call c__law_name (cv_blk v) (va_cons (ve_name 0) (va_cons (ve_op op_plus plus_ok (ve_op op_plus plus_ok (ve_name 1) ve_int) (ve_op op_times mul_ok ve_int (ve_name 4))) (va_cons (ve_name 3) va_nil))))))))))
theorem k__law_pairs (T : Tx K mg) (F : FunD K "_law_pairs" "_law_pairs" (defArgs s__law_pairs) (defBody s__law_pairs) (defScope s__law_pairs) [] [] f fd) (hm : mg "_law_pairs" = some (.ref f)) : Cl P w K mg base (yo K) 1 "_law_pairs" 1 F__law_pairs :=
  cl_of F hm sc__law_pairs rfl rfl (fun _ _ _ _ _ _ us hl => match us, hl with | [_], _ => rfl) fun cdv A outer s H E v => by
    exact (vss_cons (vs_set 1 v (ve_op op_plus plus_ok (ve_op op_plus plus_ok ve_str (ve_name 0)) ve_str))
      (vss_one (vs_ret (ve_new (vn_lc [("_law_k", 2)] v (vi_range1 T.n_range (va_cons (ve_op op_sub sub_ok (ve_cb call_len2 len_ok T.n_len bt_len (va_cons (ve_name 1) va_nil)) ve_int) va_nil)) (blkOk_by (N := N__law_pairs) (sc := defScope s__law_pairs) (by decide +kernel)) (fun _ _ _ _ _ => (vg_name 2 (cv_blk v).nd)) (fun _ _ _ _ _ => vts_nil) (fun _ _ _ _ _ => (ve_slice (ve_name 1) (vp_some (ve_name 2)) (vp_some (ve_op op_plus plus_ok (ve_name 2) ve_int)))))))))
theorem k__law_book (T : Tx K mg) (c__law_pairs : Cl P w K mg base (yo K) 1 "_law_pairs" 1 F__law_pairs) (F : FunD K "_law_book" "_law_book" (defArgs s__law_book) (defBody s__law_book) (defScope s__law_book) [] [] f fd) (hm : mg "_law_book" = some (.ref f)) : Cl P w K mg base (yo K) 2 "_law_book" 1 F__law_book :=
  cl_of F hm sc__law_book rfl rfl (fun _ _ _ _ _ _ us hl => match us, hl with | [_], _ => rfl) fun cdv A outer s H E v => by
    exact (vss_cons (vs_setN 1 v (vn_lst va_nil))
      (vss_cons (vs_for v (vi_any (ve_name 0)) (vg_name 2 v.nd) (vss_one (vs_extend 1 (pv 1) (ve_call c__law_pairs v (va_cons (ve_name 2) va_nil)))))
      (vss_one (vs_ret (ve_ct call_tupleS tuple_ok T.n_tuple bt_tuple (va_cons (ve_new (vn_lc [("_law_pair", 3)] v (vi_any (ve_new (vn_sortedset v T.n_sorted T.n_set (va_cons (ve_name 1) va_nil)))) (blkOk_by (N := N__law_book) (sc := defScope s__law_book) (by decide +kernel)) (fun _ _ _ _ _ => (vg_name 3 (cv_blk v).nd)) (fun _ _ _ _ _ => vts_nil) (fun _ _ _ _ _ => (ve_tup (va_cons (ve_name 3) (va_cons (ve_lcount (ve_name 1) (va_cons (ve_name 3) va_nil)) va_nil)))))) va_nil))))))
theorem k_law (T : Tx K mg) (c__law_book : Cl P w K mg base (yo K) 2 "_law_book" 1 F__law_book) (c__law_names : Cl P w K mg base (yo K) 4 "_law_names" 3 F__law_names) (c_ranked : Cl P w K mg base (yo K) 5 "ranked" 2 F_ranked) (c_likeliest : Cl P w K mg base (yo K) 5 "likeliest" 2 F_likeliest) (c_soft_chance : Cl P w K mg base (yo K) 4 "soft_chance" 2 F_soft_chance) (c_judged : Cl P w K mg base (yo K) 5 "judged" 3 F_judged) (c_fewest : Cl P w K mg base (yo K) 5 "fewest" 3 F_fewest) (c_parting : Cl P w K mg base (yo K) 20 "parting" 3 F_parting) (c_chance : Cl P w K mg base (yo K) 4 "chance" 2 F_chance) (F : FunD K "law" "law" (defArgs s_law) (defBody s_law) (defScope s_law) [] [] f fd) : FnOk P w K mg base (L2.CX P w) 21 f fd ["_law_script"] (spV ⟨K, (yo K).at_, (yo K).ca⟩ 1 F_law) :=
  fo_of F sc_law rfl rfl fun cdv A outer s H E v => by
    exact (vss_cons (vs_setN 1 v (vn_lc [("_law_k", 2)] v (vi_range1 T.n_range (va_cons ve_int va_nil)) (blkOk_by (N := N_law) (sc := defScope s_law) (by decide +kernel)) (fun _ _ _ _ _ => (vg_name 2 (cv_blk v).nd)) (fun _ _ _ _ _ => vts_nil) (fun _ _ _ _ _ => (ve_call c__law_book (cv_blk v) (va_cons (ve_call c__law_names (cv_blk v) (va_cons (ve_name 0) (va_cons (ve_op op_plus plus_ok ve_int (ve_op op_times mul_ok ve_int (ve_name 2))) (va_cons ve_int va_nil)))) va_nil)))))
      (vss_cons (vs_set 3 v (ve_call c__law_names v (va_cons (ve_name 0) (va_cons ve_int (va_cons ve_int va_nil)))))
      (vss_cons (vs_for v (vi_any (ve_op op_plus plus_ok (ve_name 3) (ve_lst (va_cons ve_str va_nil)))) (vg_name 4 v.nd) (vss_cons (vs_set 5 v (ve_call c_ranked v (va_cons (ve_name 1) (va_cons (ve_name 4) va_nil))))
      (vss_cons (vs_if (vt_w (vw_or (vt_cmp (op_nes v.room.units) ne_ok (ve_new (vn_cb (cr_sortG v.room.units) sortG_ok T.n_sorted bt_sorted (va_cons (ve_name 5) va_nil))) (ve_lst (va_cons ve_int (va_cons ve_int (va_cons ve_int va_nil)))) (nomark _)) (vw_or1 (vt_cmp (op_nes v.room.units) ne_ok (ve_sub v (ve_name 5) ve_int) (ve_call c_likeliest v (va_cons (ve_name 1) (va_cons (ve_name 4) va_nil))) (nomark _))))) (vss_one (vs_ret ve_bl)) vss_nil)
      (vss_cons (vs_setLc 6 [("_law_k", 2)] v rfl rfl (sw_true rfl rfl rfl (by decide +kernel)) (vi_any (ve_name 5)) (blkOk_by (N := N_law) (sc := defScope s_law) (by decide +kernel)) (fun _ _ _ _ _ => (vg_name 2 (cv_blk v).nd)) (fun _ _ _ _ _ => vts_nil) (fun _ _ _ _ _ => (ve_call c_soft_chance (cv_blk v) (va_cons (ve_sub (cv_blk v) (ve_name 1) (ve_name 2)) (va_cons (ve_name 4) va_nil)))))
      (vss_one (vs_for v (vi_zip T.n_zip (va_cons (ve_slice (ve_name 6) (vp_some ve_int) vp_none) (va_cons (ve_name 6) va_nil))) (vg_tup v.calm (vgs_cons (vg_name 7 v.nd) (vgs_cons (vg_name 8 v.nd) vgs_nil))) (vss_one (vs_if (vt_cmp op_gts ord_ok (ve_op op_times mul_ok (ve_sub v (ve_name 7) ve_int) (ve_sub v (ve_name 8) ve_int)) (ve_op op_times mul_ok (ve_sub v (ve_name 8) ve_int) (ve_sub v (ve_name 7) ve_int)) (nomark _)) (vss_one (vs_ret ve_bl)) vss_nil))))))))
      (vss_cons (vs_par 9 10 v (va_cons (ve_sub v (ve_name 1) ve_int) (va_cons (ve_sub v (ve_name 1) ve_int) va_nil)))
      (vss_cons (vs_if (vt_cmp (op_nes v.room.units) ne_ok (ve_call c_judged v (va_cons (ve_name 10) (va_cons (ve_name 9) (va_cons (ve_name 3) va_nil)))) (ve_sub v (ve_new (vn_disp (.cons ve_str ve_str (.cons ve_str ve_str (.cons ve_str ve_str .nil))))) (ve_call c_judged v (va_cons (ve_name 9) (va_cons (ve_name 10) (va_cons (ve_name 3) va_nil))))) (nomark _)) (vss_one (vs_ret ve_bl)) vss_nil)
      (vss_cons (vs_set 11 v (ve_call c_fewest v (va_cons (ve_name 9) (va_cons (ve_name 10) (va_cons (ve_name 3) va_nil)))))
      (vss_cons (vs_if (vt_cmp op_notN isNN_ok (ve_name 11) ve_non (nomark _)) (vss_cons (vs_setLc 12 [("_law_k", 2)] v rfl rfl (sw_true rfl rfl rfl (by decide +kernel)) (vi_range1 T.n_range (va_cons (ve_cb call_len2 len_ok T.n_len bt_len (va_cons (ve_name 3) va_nil)) va_nil)) (blkOk_by (N := N_law) (sc := defScope s_law) (by decide +kernel)) (fun _ _ _ _ _ => (vg_name 2 (cv_blk v).nd)) (fun _ _ _ _ _ => (vts_one (vt_cmp op_notIn_seq (inL_ok true) (ve_name 2) (ve_name 11) (by rfl)))) (fun _ _ _ _ _ => (ve_sub (cv_blk v) (ve_name 3) (ve_name 2))))
      (vss_one (vs_if (vt_cmp (op_nes v.room.units) ne_ok (ve_call c_judged v (va_cons (ve_name 9) (va_cons (ve_name 10) (va_cons (ve_name 12) va_nil)))) ve_str (nomark _)) (vss_one (vs_ret ve_bl)) vss_nil))) vss_nil)
      (vss_cons (vs_if (vt_cmp (op_nes v.room.units) ne_ok (ve_cmp (op_eqs v.room.units) eq_ok (ve_name 11) (ve_tup va_nil) (nomark _)) (ve_cmp (op_eqs v.room.units) eq_ok (ve_call c_judged v (va_cons (ve_name 9) (va_cons (ve_name 10) (va_cons (ve_name 3) va_nil)))) ve_str (nomark _)) (nomark _)) (vss_one (vs_ret ve_bl)) vss_nil)
      (vss_cons (vs_set 4 v (ve_call c_parting v (va_cons (ve_name 9) (va_cons (ve_name 10) (va_cons ve_int va_nil)))))
      (vss_cons (vs_if (vt_w (vw_or (vt_cmp (op_nes v.room.units) ne_ok (ve_call c_parting v (va_cons (ve_name 10) (va_cons (ve_name 9) (va_cons ve_int va_nil)))) (ve_name 4) (nomark _)) (vw_or1 (vt_cmp op_notN isNN_ok (ve_call c_parting v (va_cons (ve_name 9) (va_cons (ve_name 9) (va_cons ve_int va_nil)))) ve_non (nomark _))))) (vss_one (vs_ret ve_bl)) vss_nil)
      (vss_one (vs_ret (ve_or (ve_cmp op_isN isN_ok (ve_name 4) ve_non (nomark _)) (ve_one (ve_cmp (op_nes v.room.units) ne_ok (ve_call c_chance v (va_cons (ve_name 9) (va_cons (ve_name 4) va_nil))) (ve_call c_chance v (va_cons (ve_name 10) (va_cons (ve_name 4) va_nil))) (nomark _))))))))))))))))
end
/-! what the head is asked -/
def d_is_whole : He.DefD := ⟨("is_whole", none), "is_whole", "is_whole", defArgs s_is_whole, defBody s_is_whole, defScope s_is_whole, [], []⟩
def d_is_name : He.DefD := ⟨("is_name", none), "is_name", "is_name", defArgs s_is_name, defBody s_is_name, defScope s_is_name, [], []⟩
def d_is_pair : He.DefD := ⟨("is_pair", none), "is_pair", "is_pair", defArgs s_is_pair, defBody s_is_pair, defScope s_is_pair, [], []⟩
def d_is_book : He.DefD := ⟨("is_book", none), "is_book", "is_book", defArgs s_is_book, defBody s_is_book, defScope s_is_book, [], []⟩
def d_look_book : He.DefD := ⟨("look_book", none), "look_book", "look_book", defArgs s_look_book, defBody s_look_book, defScope s_look_book, [], []⟩
def d_look_name : He.DefD := ⟨("look_name", none), "look_name", "look_name", defArgs s_look_name, defBody s_look_name, defScope s_look_name, [], []⟩
def d_are_names : He.DefD := ⟨("are_names", none), "are_names", "are_names", defArgs s_are_names, defBody s_are_names, defScope s_are_names, [], []⟩
def d_pairs_in : He.DefD := ⟨("pairs_in", none), "pairs_in", "pairs_in", defArgs s_pairs_in, defBody s_pairs_in, defScope s_pairs_in, [], []⟩
def d_lowest : He.DefD := ⟨("lowest", none), "lowest", "lowest", defArgs s_lowest, defBody s_lowest, defScope s_lowest, [], []⟩
def d_count_of : He.DefD := ⟨("count_of", none), "count_of", "count_of", defArgs s_count_of, defBody s_count_of, defScope s_count_of, [], []⟩
def d_sum_behind : He.DefD := ⟨("sum_behind", none), "sum_behind", "sum_behind", defArgs s_sum_behind, defBody s_sum_behind, defScope s_sum_behind, [], []⟩
def d_share_of : He.DefD := ⟨("share_of", none), "share_of", "share_of", defArgs s_share_of, defBody s_share_of, defScope s_share_of, [], []⟩
def d_soft_of : He.DefD := ⟨("soft_of", none), "soft_of", "soft_of", defArgs s_soft_of, defBody s_soft_of, defScope s_soft_of, [], []⟩
def d_product : He.DefD := ⟨("product", none), "product", "product", defArgs s_product, defBody s_product, defScope s_product, [], []⟩
def d_chance_of : He.DefD := ⟨("chance_of", none), "chance_of", "chance_of", defArgs s_chance_of, defBody s_chance_of, defScope s_chance_of, [], []⟩
def d_soft_chance_of : He.DefD := ⟨("soft_chance_of", none), "soft_chance_of", "soft_chance_of", defArgs s_soft_chance_of, defBody s_soft_chance_of, defScope s_soft_chance_of, [], []⟩
def d_chance : He.DefD := ⟨("chance", none), "chance", "chance", defArgs s_chance, defBody s_chance, defScope s_chance, [], []⟩
def d_soft_chance : He.DefD := ⟨("soft_chance", none), "soft_chance", "soft_chance", defArgs s_soft_chance, defBody s_soft_chance, defScope s_soft_chance, [], []⟩
def d_is_less : He.DefD := ⟨("is_less", none), "is_less", "is_less", defArgs s_is_less, defBody s_is_less, defScope s_is_less, [], []⟩
def d_letters_behind : He.DefD := ⟨("letters_behind", none), "letters_behind", "letters_behind", defArgs s_letters_behind, defBody s_letters_behind, defScope s_letters_behind, [], []⟩
def d_can_end : He.DefD := ⟨("can_end", none), "can_end", "can_end", defArgs s_can_end, defBody s_can_end, defScope s_can_end, [], []⟩
def d_can_tell : He.DefD := ⟨("can_tell", none), "can_tell", "can_tell", defArgs s_can_tell, defBody s_can_tell, defScope s_can_tell, [], []⟩
def d_names_behind : He.DefD := ⟨("names_behind", none), "names_behind", "names_behind", defArgs s_names_behind, defBody s_names_behind, defScope s_names_behind, [], []⟩
def d_look_books : He.DefD := ⟨("look_books", none), "look_books", "look_books", defArgs s_look_books, defBody s_look_books, defScope s_look_books, [], []⟩
def d_order_of : He.DefD := ⟨("order_of", none), "order_of", "order_of", defArgs s_order_of, defBody s_order_of, defScope s_order_of, [], []⟩
def d_likeliest : He.DefD := ⟨("likeliest", none), "likeliest", "likeliest", defArgs s_likeliest, defBody s_likeliest, defScope s_likeliest, [], []⟩
def d_ranked : He.DefD := ⟨("ranked", none), "ranked", "ranked", defArgs s_ranked, defBody s_ranked, defScope s_ranked, [], []⟩
def d_parting : He.DefD := ⟨("parting", none), "parting", "parting", defArgs s_parting, defBody s_parting, defScope s_parting, [], []⟩
def d_look_names : He.DefD := ⟨("look_names", none), "look_names", "look_names", defArgs s_look_names, defBody s_look_names, defScope s_look_names, [], []⟩
def d_judge : He.DefD := ⟨("judge", none), "judge", "judge", defArgs s_judge, defBody s_judge, defScope s_judge, [], []⟩
def d_judged : He.DefD := ⟨("judged", none), "judged", "judged", defArgs s_judged, defBody s_judged, defScope s_judged, [], []⟩
def d_choices : He.DefD := ⟨("choices", none), "choices", "choices", defArgs s_choices, defBody s_choices, defScope s_choices, [], []⟩
def d_fewest : He.DefD := ⟨("fewest", none), "fewest", "fewest", defArgs s_fewest, defBody s_fewest, defScope s_fewest, [], []⟩
def d__law_cell : He.DefD := ⟨("_law_cell", none), "_law_cell", "_law_cell", defArgs s__law_cell, defBody s__law_cell, defScope s__law_cell, [], []⟩
def d__law_pick : He.DefD := ⟨("_law_pick", none), "_law_pick", "_law_pick", defArgs s__law_pick, defBody s__law_pick, defScope s__law_pick, [], []⟩
def d__law_name : He.DefD := ⟨("_law_name", none), "_law_name", "_law_name", defArgs s__law_name, defBody s__law_name, defScope s__law_name, [], []⟩
def d__law_names : He.DefD := ⟨("_law_names", none), "_law_names", "_law_names", defArgs s__law_names, defBody s__law_names, defScope s__law_names, [], []⟩
def d__law_pairs : He.DefD := ⟨("_law_pairs", none), "_law_pairs", "_law_pairs", defArgs s__law_pairs, defBody s__law_pairs, defScope s__law_pairs, [], []⟩
def d__law_book : He.DefD := ⟨("_law_book", none), "_law_book", "_law_book", defArgs s__law_book, defBody s__law_book, defScope s__law_book, [], []⟩
def d_law : He.DefD := ⟨("law", none), "law", "law", defArgs s_law, defBody s_law, defScope s_law, [], []⟩
def fn : List He.DefD := [d_is_whole, d_is_name, d_is_pair, d_is_book, d_look_book, d_look_name, d_are_names, d_pairs_in, d_lowest, d_count_of, d_sum_behind, d_share_of, d_soft_of, d_product, d_chance_of, d_soft_chance_of, d_chance, d_soft_chance, d_is_less, d_letters_behind, d_can_end, d_can_tell, d_names_behind, d_look_books, d_order_of, d_likeliest, d_ranked, d_parting, d_look_names, d_judge, d_judged, d_choices, d_fewest, d__law_cell, d__law_pick, d__law_name, d__law_names, d__law_pairs, d__law_book, d_law]
def fa : List He.Fa := [.int "LONGEST" 6, .int "MOST" 999, .int "MOST_BOOKS" 5, .int "MOST_LETTERS" 4, .int "MOST_NAMES" 6, .int "MOST_PAIRS" 60, .int "MOST_SOUGHT" 999999, .free "all", .free "any", .free "bool", .free "dict", .free "int", .free "isinstance", .free "len", .free "list", .free "range", .free "set", .free "sorted", .free "str", .free "sum", .free "tuple", .free "zip", .str "BEGIN" "<", .str "END" ">", .str "SMALL" "abcdefghijklmnopqrstuvwxyz", .exc "NoBook", .glo "NoBook", .exc "NoName", .glo "NoName", .exc "NoNumber", .glo "NoNumber", .glo "is_whole", .glo "is_name", .glo "is_pair", .glo "is_book", .glo "look_book", .glo "look_name", .glo "are_names", .glo "pairs_in", .glo "lowest", .glo "count_of", .glo "sum_behind", .glo "share_of", .glo "soft_of", .glo "product", .glo "chance_of", .glo "soft_chance_of", .glo "chance", .glo "soft_chance", .glo "is_less", .glo "letters_behind", .glo "can_end", .glo "can_tell", .glo "names_behind", .glo "look_books", .glo "order_of", .glo "likeliest", .glo "ranked", .glo "parting", .glo "look_names", .glo "judge", .glo "judged", .glo "choices", .glo "fewest", .glo "_law_cell", .glo "_law_pick", .glo "_law_name", .glo "_law_names", .glo "_law_pairs", .glo "_law_book", .glo "law"]
def fx : List Fx := []
theorem tx_of {K : PySem.W.Frag} {h : Heap} {mg : Str → Option Value} (X : K.In h) (G : h.Ns mainGlobals mg) (c : SaysX fa fx fn K) : Tx K mg where
  i_LONGEST := He.int_ok X G (c.base.fact 0 (f := .int "LONGEST" 6) rfl)
  i_MOST := He.int_ok X G (c.base.fact 1 (f := .int "MOST" 999) rfl)
  i_MOST_BOOKS := He.int_ok X G (c.base.fact 2 (f := .int "MOST_BOOKS" 5) rfl)
  i_MOST_LETTERS := He.int_ok X G (c.base.fact 3 (f := .int "MOST_LETTERS" 4) rfl)
  i_MOST_NAMES := He.int_ok X G (c.base.fact 4 (f := .int "MOST_NAMES" 6) rfl)
  i_MOST_PAIRS := He.int_ok X G (c.base.fact 5 (f := .int "MOST_PAIRS" 60) rfl)
  i_MOST_SOUGHT := He.int_ok X G (c.base.fact 6 (f := .int "MOST_SOUGHT" 999999) rfl)
  n_all := He.free_ok X G (c.base.fact 7 (f := .free "all") rfl)
  n_any := He.free_ok X G (c.base.fact 8 (f := .free "any") rfl)
  n_bool := He.free_ok X G (c.base.fact 9 (f := .free "bool") rfl)
  n_dict := He.free_ok X G (c.base.fact 10 (f := .free "dict") rfl)
  n_int := He.free_ok X G (c.base.fact 11 (f := .free "int") rfl)
  n_isinstance := He.free_ok X G (c.base.fact 12 (f := .free "isinstance") rfl)
  n_len := He.free_ok X G (c.base.fact 13 (f := .free "len") rfl)
  n_list := He.free_ok X G (c.base.fact 14 (f := .free "list") rfl)
  n_range := He.free_ok X G (c.base.fact 15 (f := .free "range") rfl)
  n_set := He.free_ok X G (c.base.fact 16 (f := .free "set") rfl)
  n_sorted := He.free_ok X G (c.base.fact 17 (f := .free "sorted") rfl)
  n_str := He.free_ok X G (c.base.fact 18 (f := .free "str") rfl)
  n_sum := He.free_ok X G (c.base.fact 19 (f := .free "sum") rfl)
  n_tuple := He.free_ok X G (c.base.fact 20 (f := .free "tuple") rfl)
  n_zip := He.free_ok X G (c.base.fact 21 (f := .free "zip") rfl)
  s_BEGIN := He.str_ok X G (c.base.fact 22 (f := .str "BEGIN" "<") rfl)
  s_END := He.str_ok X G (c.base.fact 23 (f := .str "END" ">") rfl)
  s_SMALL := He.str_ok X G (c.base.fact 24 (f := .str "SMALL" "abcdefghijklmnopqrstuvwxyz") rfl)
  x_NoBook := let z := He.exc_ok (c.base.fact 25 (f := .exc "NoBook") rfl); ⟨z.1, He.glo_ok X G (c.base.fact 26 (f := .glo "NoBook") rfl), z.2.1, z.2.2.1, z.2.2.2⟩
  x_NoName := let z := He.exc_ok (c.base.fact 27 (f := .exc "NoName") rfl); ⟨z.1, He.glo_ok X G (c.base.fact 28 (f := .glo "NoName") rfl), z.2.1, z.2.2.1, z.2.2.2⟩
  x_NoNumber := let z := He.exc_ok (c.base.fact 29 (f := .exc "NoNumber") rfl); ⟨z.1, He.glo_ok X G (c.base.fact 30 (f := .glo "NoNumber") rfl), z.2.1, z.2.2.1, z.2.2.2⟩
theorem facts {P : Program} {w : World} {K : PySem.W.Frag} {h : Heap} {mg : Str → Option Value} {f : Addr} (X : K.In h) (G : h.Ns mainGlobals mg) (hfa : mg "law" = some (.ref f)) (c : SaysX fa fx fn K) :
    ∃ fd : FuncData, (∀ (s : Shared) (u : Value), BindsTo s fd ⟨[u], []⟩ [("_law_script", u)]) ∧ ∀ base : Heap, K.In base → base.Ns mainGlobals mg → FnOk P w K mg base (L2.CX P w) 21 f fd ["_law_script"] (spV ⟨K, (yo K).at_, (yo K).ca⟩ 1 F_law) := by
  have T := tx_of X G c
  obtain ⟨fd_is_whole, D_is_whole⟩ := c.base.def_ 0 (d := d_is_whole) rfl
  obtain ⟨fd_is_name, D_is_name⟩ := c.base.def_ 1 (d := d_is_name) rfl
  obtain ⟨fd_is_pair, D_is_pair⟩ := c.base.def_ 2 (d := d_is_pair) rfl
  obtain ⟨fd_is_book, D_is_book⟩ := c.base.def_ 3 (d := d_is_book) rfl
  obtain ⟨fd_look_book, D_look_book⟩ := c.base.def_ 4 (d := d_look_book) rfl
  obtain ⟨fd_look_name, D_look_name⟩ := c.base.def_ 5 (d := d_look_name) rfl
  obtain ⟨fd_are_names, D_are_names⟩ := c.base.def_ 6 (d := d_are_names) rfl
  obtain ⟨fd_pairs_in, D_pairs_in⟩ := c.base.def_ 7 (d := d_pairs_in) rfl
  obtain ⟨fd_lowest, D_lowest⟩ := c.base.def_ 8 (d := d_lowest) rfl
  obtain ⟨fd_count_of, D_count_of⟩ := c.base.def_ 9 (d := d_count_of) rfl
  obtain ⟨fd_sum_behind, D_sum_behind⟩ := c.base.def_ 10 (d := d_sum_behind) rfl
  obtain ⟨fd_share_of, D_share_of⟩ := c.base.def_ 11 (d := d_share_of) rfl
  obtain ⟨fd_soft_of, D_soft_of⟩ := c.base.def_ 12 (d := d_soft_of) rfl
  obtain ⟨fd_product, D_product⟩ := c.base.def_ 13 (d := d_product) rfl
  obtain ⟨fd_chance_of, D_chance_of⟩ := c.base.def_ 14 (d := d_chance_of) rfl
  obtain ⟨fd_soft_chance_of, D_soft_chance_of⟩ := c.base.def_ 15 (d := d_soft_chance_of) rfl
  obtain ⟨fd_chance, D_chance⟩ := c.base.def_ 16 (d := d_chance) rfl
  obtain ⟨fd_soft_chance, D_soft_chance⟩ := c.base.def_ 17 (d := d_soft_chance) rfl
  obtain ⟨fd_is_less, D_is_less⟩ := c.base.def_ 18 (d := d_is_less) rfl
  obtain ⟨fd_letters_behind, D_letters_behind⟩ := c.base.def_ 19 (d := d_letters_behind) rfl
  obtain ⟨fd_can_end, D_can_end⟩ := c.base.def_ 20 (d := d_can_end) rfl
  obtain ⟨fd_can_tell, D_can_tell⟩ := c.base.def_ 21 (d := d_can_tell) rfl
  obtain ⟨fd_names_behind, D_names_behind⟩ := c.base.def_ 22 (d := d_names_behind) rfl
  obtain ⟨fd_look_books, D_look_books⟩ := c.base.def_ 23 (d := d_look_books) rfl
  obtain ⟨fd_order_of, D_order_of⟩ := c.base.def_ 24 (d := d_order_of) rfl
  obtain ⟨fd_likeliest, D_likeliest⟩ := c.base.def_ 25 (d := d_likeliest) rfl
  obtain ⟨fd_ranked, D_ranked⟩ := c.base.def_ 26 (d := d_ranked) rfl
  obtain ⟨fd_parting, D_parting⟩ := c.base.def_ 27 (d := d_parting) rfl
  obtain ⟨fd_look_names, D_look_names⟩ := c.base.def_ 28 (d := d_look_names) rfl
  obtain ⟨fd_judge, D_judge⟩ := c.base.def_ 29 (d := d_judge) rfl
  obtain ⟨fd_judged, D_judged⟩ := c.base.def_ 30 (d := d_judged) rfl
  obtain ⟨fd_choices, D_choices⟩ := c.base.def_ 31 (d := d_choices) rfl
  obtain ⟨fd_fewest, D_fewest⟩ := c.base.def_ 32 (d := d_fewest) rfl
  obtain ⟨fd__law_cell, D__law_cell⟩ := c.base.def_ 33 (d := d__law_cell) rfl
  obtain ⟨fd__law_pick, D__law_pick⟩ := c.base.def_ 34 (d := d__law_pick) rfl
  obtain ⟨fd__law_name, D__law_name⟩ := c.base.def_ 35 (d := d__law_name) rfl
  obtain ⟨fd__law_names, D__law_names⟩ := c.base.def_ 36 (d := d__law_names) rfl
  obtain ⟨fd__law_pairs, D__law_pairs⟩ := c.base.def_ 37 (d := d__law_pairs) rfl
  obtain ⟨fd__law_book, D__law_book⟩ := c.base.def_ 38 (d := d__law_book) rfl
  obtain ⟨fd_law, D_law⟩ := c.base.def_ 39 (d := d_law) rfl
  have e := hfa.symm.trans (He.glo_ok X G (c.base.fact 70 (f := .glo "law") rfl))
  cases e
  have b := FunD.bindsA (ps := ["_law_script"]) D_law fun _ _ _ _ _ _ us hl => match us, hl with | [_], _ => rfl
  refine ⟨fd_law, fun s u => b s [u] rfl, fun base _ _ => ?_⟩
  have c_is_whole := k_is_whole (P := P) (w := w) (base := base) T D_is_whole (He.glo_ok X G (c.base.fact 31 (f := .glo "is_whole") rfl))
  have c_is_name := k_is_name (P := P) (w := w) (base := base) T D_is_name (He.glo_ok X G (c.base.fact 32 (f := .glo "is_name") rfl))
  have c_is_pair := k_is_pair (P := P) (w := w) (base := base) T D_is_pair (He.glo_ok X G (c.base.fact 33 (f := .glo "is_pair") rfl))
  have c_is_book := k_is_book (P := P) (w := w) (base := base) T c_is_whole c_is_pair D_is_book (He.glo_ok X G (c.base.fact 34 (f := .glo "is_book") rfl))
  have c_look_book := k_look_book (P := P) (w := w) (base := base) T c_is_book D_look_book (He.glo_ok X G (c.base.fact 35 (f := .glo "look_book") rfl))
  have c_look_name := k_look_name (P := P) (w := w) (base := base) T c_is_name D_look_name (He.glo_ok X G (c.base.fact 36 (f := .glo "look_name") rfl))
  have c_are_names := k_are_names (P := P) (w := w) (base := base) T c_is_name D_are_names (He.glo_ok X G (c.base.fact 37 (f := .glo "are_names") rfl))
  have c_pairs_in := k_pairs_in (P := P) (w := w) (base := base) T D_pairs_in (He.glo_ok X G (c.base.fact 38 (f := .glo "pairs_in") rfl))
  have c_lowest := k_lowest (P := P) (w := w) (base := base) T D_lowest (He.glo_ok X G (c.base.fact 39 (f := .glo "lowest") rfl))
  have c_count_of := k_count_of (P := P) (w := w) (base := base) T D_count_of (He.glo_ok X G (c.base.fact 40 (f := .glo "count_of") rfl))
  have c_sum_behind := k_sum_behind (P := P) (w := w) (base := base) T D_sum_behind (He.glo_ok X G (c.base.fact 41 (f := .glo "sum_behind") rfl))
  have c_share_of := k_share_of (P := P) (w := w) (base := base) T c_sum_behind c_lowest c_count_of D_share_of (He.glo_ok X G (c.base.fact 42 (f := .glo "share_of") rfl))
  have c_soft_of := k_soft_of (P := P) (w := w) (base := base) T c_lowest c_sum_behind c_count_of D_soft_of (He.glo_ok X G (c.base.fact 43 (f := .glo "soft_of") rfl))
  have c_product := k_product (P := P) (w := w) (base := base) T c_lowest D_product (He.glo_ok X G (c.base.fact 44 (f := .glo "product") rfl))
  have c_chance_of := k_chance_of (P := P) (w := w) (base := base) T c_product c_share_of c_pairs_in D_chance_of (He.glo_ok X G (c.base.fact 45 (f := .glo "chance_of") rfl))
  have c_soft_chance_of := k_soft_chance_of (P := P) (w := w) (base := base) T c_product c_soft_of c_pairs_in D_soft_chance_of (He.glo_ok X G (c.base.fact 46 (f := .glo "soft_chance_of") rfl))
  have c_chance := k_chance (P := P) (w := w) (base := base) T c_look_book c_look_name c_chance_of D_chance (He.glo_ok X G (c.base.fact 47 (f := .glo "chance") rfl))
  have c_soft_chance := k_soft_chance (P := P) (w := w) (base := base) T c_look_book c_look_name c_soft_chance_of D_soft_chance (He.glo_ok X G (c.base.fact 48 (f := .glo "soft_chance") rfl))
  have c_is_less := k_is_less (P := P) (w := w) (base := base) T D_is_less (He.glo_ok X G (c.base.fact 49 (f := .glo "is_less") rfl))
  have c_letters_behind := k_letters_behind (P := P) (w := w) (base := base) T D_letters_behind (He.glo_ok X G (c.base.fact 50 (f := .glo "letters_behind") rfl))
  have c_can_end := k_can_end (P := P) (w := w) (base := base) T D_can_end (He.glo_ok X G (c.base.fact 51 (f := .glo "can_end") rfl))
  have c_can_tell := k_can_tell (P := P) (w := w) (base := base) T c_can_end c_letters_behind D_can_tell (He.glo_ok X G (c.base.fact 52 (f := .glo "can_tell") rfl))
  have c_names_behind := k_names_behind (P := P) (w := w) (base := base) T c_can_end c_letters_behind c_can_tell D_names_behind (He.glo_ok X G (c.base.fact 53 (f := .glo "names_behind") rfl))
  have c_look_books := k_look_books (P := P) (w := w) (base := base) T c_is_book c_look_name D_look_books (He.glo_ok X G (c.base.fact 54 (f := .glo "look_books") rfl))
  have c_order_of := k_order_of (P := P) (w := w) (base := base) T c_soft_chance_of c_is_less D_order_of (He.glo_ok X G (c.base.fact 55 (f := .glo "order_of") rfl))
  have c_likeliest := k_likeliest (P := P) (w := w) (base := base) T c_look_books c_order_of D_likeliest (He.glo_ok X G (c.base.fact 56 (f := .glo "likeliest") rfl))
  have c_ranked := k_ranked (P := P) (w := w) (base := base) T c_look_books c_order_of D_ranked (He.glo_ok X G (c.base.fact 57 (f := .glo "ranked") rfl))
  have c_parting := k_parting (P := P) (w := w) (base := base) T c_look_book c_is_whole c_names_behind c_chance_of D_parting (He.glo_ok X G (c.base.fact 58 (f := .glo "parting") rfl))
  have c_look_names := k_look_names (P := P) (w := w) (base := base) T c_look_book c_are_names D_look_names (He.glo_ok X G (c.base.fact 59 (f := .glo "look_names") rfl))
  have c_judge := k_judge (P := P) (w := w) (base := base) T c_product c_soft_chance_of c_is_less D_judge (He.glo_ok X G (c.base.fact 60 (f := .glo "judge") rfl))
  have c_judged := k_judged (P := P) (w := w) (base := base) T c_look_names c_judge D_judged (He.glo_ok X G (c.base.fact 61 (f := .glo "judged") rfl))
  have c_choices := k_choices (P := P) (w := w) (base := base) T D_choices (He.glo_ok X G (c.base.fact 62 (f := .glo "choices") rfl))
  have c_fewest := k_fewest (P := P) (w := w) (base := base) T c_look_names c_choices c_judge D_fewest (He.glo_ok X G (c.base.fact 63 (f := .glo "fewest") rfl))
  have c__law_cell := k__law_cell (P := P) (w := w) (base := base) T D__law_cell (He.glo_ok X G (c.base.fact 64 (f := .glo "_law_cell") rfl))
  have c__law_pick := k__law_pick (P := P) (w := w) (base := base) T c__law_cell D__law_pick (He.glo_ok X G (c.base.fact 65 (f := .glo "_law_pick") rfl))
  have c__law_name := k__law_name (P := P) (w := w) (base := base) T c__law_pick D__law_name (He.glo_ok X G (c.base.fact 66 (f := .glo "_law_name") rfl))
  have c__law_names := k__law_names (P := P) (w := w) (base := base) T c__law_pick c__law_name D__law_names (He.glo_ok X G (c.base.fact 67 (f := .glo "_law_names") rfl))
  have c__law_pairs := k__law_pairs (P := P) (w := w) (base := base) T D__law_pairs (He.glo_ok X G (c.base.fact 68 (f := .glo "_law_pairs") rfl))
  have c__law_book := k__law_book (P := P) (w := w) (base := base) T c__law_pairs D__law_book (He.glo_ok X G (c.base.fact 69 (f := .glo "_law_book") rfl))
  exact k_law (P := P) (w := w) (base := base) T c__law_book c__law_names c_ranked c_likeliest c_soft_chance c_judged c_fewest c_parting c_chance D_law
end K89

namespace K89
open PySem PySem.Spec PyProof.Rows L2 VL PG
theorem learn_len {N : List (List Nat)} (h : ∀ n ∈ N, nameOk n = true) (hl : N.length ≤ 4) : (learnB N).length ≤ 28 := by
  have h1 := bookOf_len (addP [] (prsAll N) 1)
  have h2 := add_len 1 (prsAll N) []
  have h3 := prsAll_len N h
  unfold learnB
  simp at h2
  omega
theorem look_books_q {Bs : List Bk} (hB : ∀ b ∈ Bs, BookOk b) (h1 : 1 ≤ Bs.length) (h5 : Bs.length ≤ 5) {n : List Nat} (hn : nameOk n = true) : F_look_books [.lst (Bs.map bkD), .str (S n)] = .ok .non := by
  refine fi_run (show Fi _ (g_look_books [.dat (.lst (Bs.map bkD)), .dat (.str (S n)), .no]) from ?_)
  rw [g_look_books]
  have i1 : (1 : Int) ≤ Bs.length := by omega
  have i5 : (Bs.length : Int) ≤ 5 := by omega
  refine p_seq (ρ1 := [.dat (.lst (Bs.map bkD)), .dat (.str (S n)), .no]) (by simp -implicitDefEqProofs (disch := omega) [szB_ok, rngB_ok, i1, i5]) ?_
  refine p_seq (ρ1 := [.dat (.lst (Bs.map bkD)), .dat (.str (S n)), .no]) (by
    simp -implicitDefEqProofs (disch := omega) [szB_ok, rngB_ok]
    rw [lc_map [.dat (.lst (Bs.map bkD)), .dat (.str (S n)), .no] (fun _ => .bl true)]
    · simp -implicitDefEqProofs (disch := omega) [szB_ok, rngB_ok]
    · intro b hb
      have := is_book_ok (hB b hb)
      simp -implicitDefEqProofs (disch := omega) [szB_ok, rngB_ok, this]
    all_goals try simp
    omega) ?_
  exact fi_of (by simp -implicitDefEqProofs (disch := omega) [szB_ok, rngB_ok, hn])
theorem sort_its {r : List Nat} (h : r.Perm (List.range 3)) : sortedG [.lst (r.map itD)] = some (.L [.int 0, .int 1, .int 2]) := by
  have hl : r.length = 3 := by rw [h.length_eq]; rfl
  have ok : sortOk (r.map itD) = true := by
    unfold sortOk
    simp only [Bool.and_eq_true, Bool.or_eq_true, List.all_eq_true, decide_eq_true_eq]
    refine ⟨fun x hx z hz => ?_, .inr fun x hx => ?_, fun x hx => ?_, by rw [List.length_map, hl]; decide⟩
    · obtain ⟨e, _, rfl⟩ := List.mem_map.mp hx
      obtain ⟨f, _, rfl⟩ := List.mem_map.mp hz
      show PySem.W.alike (.int (e : Int)) (.int (f : Int)) = true
      simp [PySem.W.alike]
    · obtain ⟨e, _, rfl⟩ := List.mem_map.mp hx
      rfl
    · obtain ⟨e, _, rfl⟩ := List.mem_map.mp hx
      exact ⟨rfl, by show (0 : Nat) ≤ 8; decide⟩
  show (if sortOk (r.map itD) = true then some (OD.L ((r.map itD).mergeSort leT)) else none) = _
  rw [if_pos ok]
  have e : (r.map itD).mergeSort leT = (r.mergeSort fun a b => decide (a ≤ b)).map itD := (List.map_mergeSort fun x _ z _ => by
    show decide (x ≤ z) = (!PySem.W.dataLt (.int (z : Int)) (.int (x : Int)))
    rw [PySem.W.dataLt_int, ← decide_not]
    exact decide_eq_decide.mpr (by omega)).symm
  have e2 : (r.mergeSort fun a b => decide (a ≤ b)) = [0, 1, 2] := by
    refine List.Perm.eq_of_pairwise (le := fun a b => a ≤ b) (fun a b _ _ h1 h2 => Nat.le_antisymm h1 h2) ((List.pairwise_mergeSort (fun a b c h1 h2 => by simp at *; omega) (fun a b => by simp; omega) r).imp fun q => by simpa using q) (by decide) ((List.mergeSort_perm _ _).trans h)
  rw [e, e2]
  rfl
def swapS (s : Str) : Str := if s = "one" then "other" else if s = "other" then "one" else "same"
theorem ne1 : (Str.ofString "one" = Str.ofString "other") = False := by rw [eq_iff_iff, iff_false]; decide +kernel
theorem ne2 : (Str.ofString "other" = Str.ofString "one") = False := by rw [eq_iff_iff, iff_false]; decide +kernel
theorem ne3 : (Str.ofString "one" = Str.ofString "same") = False := by rw [eq_iff_iff, iff_false]; decide +kernel
theorem ne4 : (Str.ofString "same" = Str.ofString "one") = False := by rw [eq_iff_iff, iff_false]; decide +kernel
theorem ne5 : (Str.ofString "other" = Str.ofString "same") = False := by rw [eq_iff_iff, iff_false]; decide +kernel
theorem ne6 : (Str.ofString "same" = Str.ofString "other") = False := by rw [eq_iff_iff, iff_false]; decide +kernel
theorem jud_swap (p q : Rat) : judS q p = swapS (judS p q) := by
  unfold judS swapS
  by_cases h : p = q
  · simp [h, ne4, ne6]
  · have h' : ¬ q = p := fun z => h z.symm
    by_cases w : p < q
    · have w' : ¬ q < p := by grind
      simp [h, h', w, w', ne2]
    · have w' : q < p := by grind
      simp [h, h', w, w']
theorem jud_or (p q : Rat) : judS p q = "one" ∨ judS p q = "other" ∨ judS p q = "same" := by
  unfold judS
  split
  · exact .inr (.inr rfl)
  · split
    · exact .inr (.inl rfl)
    · exact .inl rfl
theorem zip_adj {α : Type} {R : α → α → Prop} {l : List α} (h : l.Pairwise R) : ∀ p ∈ (l.drop 1).zip l, R p.2 p.1 := fun p hp => by
  refine adj_zip h (p.2, p.1) ?_
  obtain ⟨i, hi, e⟩ := List.getElem_of_mem hp
  rw [List.getElem_zip] at e
  rw [← e]
  have hi2 : i < (l.zip (l.drop 1)).length := by simp at hi ⊢; omega
  have := List.getElem_mem hi2
  rw [List.getElem_zip] at this
  exact this
theorem eq_few (o : Option (List Int)) : eqD (fewD o) (.tup []) = some (.bl (decide (o = some []))) := by
  cases o with
  | none => exact eq_pu (x := .non) rfl rfl (by decide) (by decide) _ (by simp)
  | some s => exact eq_pu (x := chD s) (by have := pu_ints' s; simpa [pu] using this) rfl (by simp [dpt, dpt_ints]) (by decide) _ (by simp)
theorem law_true (ns : List Int) : F_law [scD ns] = .ok (.bl true) := by
  have hM := fun k => namesW_ok ns (10 + 60 * k) 4
  have hML := fun k => namesW_len ns (10 + 60 * k) 4
  have hN := namesW_ok ns 300 4
  have hNL := namesW_len ns 300 4
  have e3 : F__law_names [scD ns, .int 300, .int 4] = _ := law_names_eq ns 300 4 (by omega)
  have eM : ∀ k : Nat, F__law_names [scD ns, .int (10 + 60 * (k : Int)), .int 4] = .ok (.lst ((namesW ns (10 + 60 * k) 4).map txD)) := fun k => by
    have := law_names_eq ns (10 + 60 * k) 4 (by omega)
    have e : ((10 + 60 * k : Nat) : Int) = 10 + 60 * (k : Int) := by omega
    rw [e] at this
    exact this
  have hbk := fun k => learn_ok (hM k) (by have := hML k; omega)
  have hbl := fun k => learn_len (hM k) (hML k)
  have eB := fun k => law_book_eq (hM k) (by have := hML k; omega)
  generalize (fun k => namesW ns (10 + 60 * k) 4) = M at *
  generalize hBs : (fun k => learnB (namesW ns (10 + 60 * k) 4)) = Bf
  have hbk : ∀ k, BookOk (Bf k) := fun k => by rw [← hBs]; exact hbk k
  have hbl : ∀ k, (Bf k).length ≤ 28 := fun k => by rw [← hBs]; exact hbl k
  have eB : ∀ k, F__law_book [.lst ((namesW ns (10 + 60 * k) 4).map txD)] = .ok (bkD (Bf k)) := fun k => by rw [← hBs]; exact eB k
  generalize namesW ns 300 4 = N at hN hNL e3
  have hN6 : names6 N := ⟨by omega, hN⟩
  refine fi_run (show Fi (.ok (.bl true)) (g_law [.dat (scD ns), .no, .no, .no, .no, .no, .no, .no, .no, .no, .no, .no, .no]) from ?_)
  rw [g_law]
  refine p_seq (ρ1 := [.dat (scD ns), .own (.L (((List.range 3).map Bf).map bkD)), .no, .no, .no, .no, .no, .no, .no, .no, .no, .no, .no]) (by
    have hr := rngB_ok (n := 3) (by omega) (by omega)
    have rr : rangeD 0 3 = (List.range 3).map fun i : Nat => D.int (i : Int) := range_eq 3
    simp -implicitDefEqProofs (disch := omega) [szB_ok, rngB_ok, hr, rr]
    rw [lc_map [.dat (scD ns), .no, .no, .no, .no, .no, .no, .no, .no, .no, .no, .no, .no] (fun k => bkD (Bf k))]
    · rfl
    · intro k hk
      have hk := List.mem_range.mp hk
      have z : mulB 60 (k : Int) = true := mulB_r (by omega) (by omega)
      have h1 := eM k
      have h2 := eB k
      simp -implicitDefEqProofs (disch := omega) [szB_ok, rngB_ok, z, h1, h2]
    all_goals try simp) ?_
  have hBL : ((List.range 3).map Bf).length = 3 := by simp
  have hB : ∀ b ∈ (List.range 3).map Bf, BookOk b := fun b hb => by
    obtain ⟨k, _, rfl⟩ := List.mem_map.mp hb
    exact hbk k
  have hx0 : atI (((List.range 3).map Bf).map bkD) 0 = some (bkD (Bf 0)) := rfl
  have hx1 : atI (((List.range 3).map Bf).map bkD) 1 = some (bkD (Bf 1)) := rfl
  have hxi : ∀ i : Nat, i < 3 → atI (((List.range 3).map Bf).map bkD) (i : Int) = some (bkD (((List.range 3).map Bf).getD i [])) := fun i hi => by
    rw [atI_k, List.getElem?_map]
    have hi' : i < ((List.range 3).map Bf).length := by rw [hBL]; exact hi
    simp [List.getD, List.getElem?_eq_getElem hi']
  have hBi : ∀ i : Nat, i < 3 → BookOk (((List.range 3).map Bf).getD i []) := fun i hi => by
    have hi' : i < ((List.range 3).map Bf).length := by rw [hBL]; exact hi
    have e : ((List.range 3).map Bf).getD i [] = ((List.range 3).map Bf)[i] := by simp [List.getD, List.getElem?_eq_getElem hi']
    rw [e]
    exact hB _ (List.getElem_mem hi')
  generalize (List.range 3).map Bf = Bs at *
  refine p_seq (ρ1 := [.dat (scD ns), .own (.L (Bs.map bkD)), .no, .dat (.lst (N.map txD)), .no, .no, .no, .no, .no, .no, .no, .no, .no]) (by simp -implicitDefEqProofs (disch := omega) [szB_ok, rngB_ok, e3]) ?_
  have hall : ∀ n ∈ N ++ [[97]], nameOk n = true := fun n hn => by
    rcases List.mem_append.mp hn with q | q
    · exact hN n q
    · rw [List.mem_singleton.mp q]; decide
  refine p_for txD (N ++ [[97]]) (ρ1 := [.dat (scD ns), .own (.L (Bs.map bkD)), .no, .dat (.lst (N.map txD)), .no, .no, .no, .no, .no, .no, .no, .no, .no]) (by simp -implicitDefEqProofs (disch := omega) [szB_ok, rngB_ok, lit_p0])
    (fun _ ρ => ∃ x1 x4 x5 x6 x7 x8 : VL.Slot, (x1 = .own (.L (Bs.map bkD)) ∨ x1 = .dat (.lst (Bs.map bkD))) ∧ ρ = [.dat (scD ns), x1, .no, .dat (.lst (N.map txD)), x4, x5, x6, x7, x8, .no, .no, .no, .no])
    (fun pre n post ρ el ⟨x1, x4, x5, x6, x7, x8, g1, hi⟩ => ?_) ⟨_, _, _, _, _, _, .inl rfl, rfl⟩ fun ρ' ⟨x1, x4, x5, x6, x7, x8, g1, hi⟩ => ?_
  · subst hi
    have hn := hall n (by rw [el]; simp)
    have hnl := nameOk_len hn
    obtain ⟨r, er, hr⟩ := order_of_q hB (by omega) (n := n) (by omega)
    rw [hBL] at hr
    have lk := look_books_q hB (by omega) (by omega) hn
    have rk : F_ranked [.lst (Bs.map bkD), .str (S n)] = .ok (.lst (r.map itD)) := by simp -implicitDefEqProofs (disch := omega) [szB_ok, rngB_ok, F_ranked, g_ranked, runD_eq, lk, er]
    have hrp : r.Perm (List.range 3) := by have := hr.perm; rwa [List.append_nil] at this
    have hrl : r.length = 3 := by rw [hrp.length_eq]; rfl
    have hr0 : 0 < r.length := by omega
    have a0 : atI (r.map itD) 0 = some (itD (r[0]'hr0)) := by
      rw [atI_0, List.getElem?_map, List.getElem?_eq_getElem hr0]
      rfl
    have li : F_likeliest [.lst (Bs.map bkD), .str (S n)] = .ok (itD (r[0]'hr0)) := by
      simp -implicitDefEqProofs (disch := omega) [szB_ok, rngB_ok, F_likeliest, g_likeliest, runD_eq, lk, er, -atI_0, a0]
    have sr := sort_its hrp
    have nl := ne_self (x := .lst [.int 0, .int 1, .int 2]) rfl (by decide)
    have hri : ∀ i ∈ r, i < 3 := fun i hi => List.mem_range.mp (hrp.mem_iff.mp hi)
    generalize hq : (fun i => softChQ (Bs.getD i []) n) = q at *
    have hdown : r.Pairwise fun a b => q b ≤ q a := hr.down
    have hqi : ∀ i, softChQ (Bs.getD i []) n = q i := fun i => congrFun hq i
    generalize r[0]'hr0 = r0 at *
    refine ⟨[.dat (scD ns), x1, .no, .dat (.lst (N.map txD)), .dat (txD n), x5, x6, x7, x8, .no, .no, .no, .no], rfl, ?_⟩
    refine p_seq (ρ1 := [.dat (scD ns), .dat (.lst (Bs.map bkD)), .no, .dat (.lst (N.map txD)), .dat (txD n), .dat (.lst (r.map itD)), x6, x7, x8, .no, .no, .no, .no]) (by
      rcases g1 with rfl | rfl
      · simp -implicitDefEqProofs (disch := omega) [szB_ok, rngB_ok, rk]
      · simp -implicitDefEqProofs (disch := omega) [szB_ok, rngB_ok, rk]) ?_
    refine p_seq (ρ1 := [.dat (scD ns), .dat (.lst (Bs.map bkD)), .no, .dat (.lst (N.map txD)), .dat (txD n), .dat (.lst (r.map itD)), x6, x7, x8, .no, .no, .no, .no]) (by
      generalize r.map itD = R at *
      simp -implicitDefEqProofs (disch := omega) [szB_ok, rngB_ok, sr, nl, -atI_0, a0, li]) ?_
    refine p_seq (ρ1 := [.dat (scD ns), .dat (.lst (Bs.map bkD)), .no, .dat (.lst (N.map txD)), .dat (txD n), .dat (.lst (r.map itD)), .own (.L ((r.map q).map qD)), x7, x8, .no, .no, .no, .no]) (by
      simp -implicitDefEqProofs (disch := omega) [szB_ok, rngB_ok]
      rw [lc_map [.dat (scD ns), .dat (.lst (Bs.map bkD)), .no, .dat (.lst (N.map txD)), .dat (txD n), .dat (.lst (r.map itD)), x6, x7, x8, .no, .no, .no, .no] (fun i => qD (q i))]
      · simp -implicitDefEqProofs (disch := omega) [szB_ok, rngB_ok, Function.comp_def]
      · intro i hi
        have h1 := hxi i (hri i hi)
        have h2 := soft_chance_q (hBi i (hri i hi)) hn
        rw [hqi] at h2
        generalize Bs.getD i [] = Bi at *
        generalize Bs.map bkD = BB at *
        simp -implicitDefEqProofs (disch := omega) [szB_ok, rngB_ok, h1, h2]
      all_goals try simp
      omega) ?_
    have hqd : (r.map q).Pairwise fun a b => b ≤ a := List.pairwise_map.mpr hdown
    have hqb : ∀ x ∈ r.map q, Bd 120 x := fun x hx => by
      obtain ⟨i, hi, rfl⟩ := List.mem_map.mp hx
      rw [← hqi]
      exact softCh_bd (hBi i (hri i hi)) hnl.2
    have hQl : (r.map q).length = 3 := by rw [List.length_map, hrl]
    generalize r.map q = Q at *
    have cz : VL.cutD (Q.map qD) (some 1) none = (Q.drop 1).map qD := by
      rw [List.map_drop]
      exact cut_drop _ 1
    have zz := zipD_map qD qD (Q.drop 1) Q
    have hadj := zip_adj hqd
    have hmem : ∀ p ∈ (Q.drop 1).zip Q, p.1 ∈ Q ∧ p.2 ∈ Q := fun p hp => ⟨List.mem_of_mem_drop (List.of_mem_zip hp).1, (List.of_mem_zip hp).2⟩
    generalize hZ : (Q.drop 1).zip Q = Z at *
    refine p_for1 (fun p : Rat × Rat => D.pr [qD p.1, qD p.2]) Z (ρ1 := [.dat (scD ns), .dat (.lst (Bs.map bkD)), .no, .dat (.lst (N.map txD)), .dat (txD n), .dat (.lst (r.map itD)), .dat (.lst (Q.map qD)), x7, x8, .no, .no, .no, .no]) (by
        simp -implicitDefEqProofs (disch := omega) [szB_ok, rngB_ok, cz]
        rw [← List.drop_one, ← List.map_drop]
        exact zz)
      (fun _ ρ => ∃ y7 y8 : VL.Slot, ρ = [.dat (scD ns), .dat (.lst (Bs.map bkD)), .no, .dat (.lst (N.map txD)), .dat (txD n), .dat (.lst (r.map itD)), .dat (.lst (Q.map qD)), y7, y8, .no, .no, .no, .no])
      (fun pre p post ρ el ⟨y7, y8, hi⟩ => ?_) ⟨_, _, rfl⟩ fun ρ' ⟨y7, y8, hi⟩ => ?_
    · subst hi
      have hp : p ∈ Z := by rw [el]; simp
      have hm := hmem p hp
      have ha := hadj p hp
      have b1 := hqb _ hm.1
      have b2 := hqb _ hm.2
      have m1 := b1.mulB_nd b2 (by decide)
      have m2 := b2.mulB_nd b1 (by decide)
      have hlt : ¬ p.2.num * (p.1.den : Int) < p.1.num * (p.2.den : Int) := fun w => by
        have := (Rat.lt_iff p.2 p.1).mpr w
        grind
      refine ⟨[.dat (scD ns), .dat (.lst (Bs.map bkD)), .no, .dat (.lst (N.map txD)), .dat (txD n), .dat (.lst (r.map itD)), .dat (.lst (Q.map qD)), .dat (qD p.1), .dat (qD p.2), .no, .no, .no, .no], rfl, ?_⟩
      exact nx_of (ρ := [.dat (scD ns), .dat (.lst (Bs.map bkD)), .no, .dat (.lst (N.map txD)), .dat (txD n), .dat (.lst (r.map itD)), .dat (.lst (Q.map qD)), .dat (qD p.1), .dat (qD p.2), .no, .no, .no, .no]) (by simp -implicitDefEqProofs (disch := omega) [szB_ok, rngB_ok, qD, m1, m2, hlt]) ⟨_, _, rfl⟩
    · subst hi
      exact nx_of rfl ⟨_, _, _, _, _, _, .inr rfl, rfl⟩
  · subst hi
    have h0 := hbk 0
    have h1 := hbk 1
    have l0 := hbl 0
    have l1 := hbl 1
    generalize Bf 0 = A at *
    generalize Bf 1 = B at *
    refine p_seq (ρ1 := [.dat (scD ns), .dat (.lst (Bs.map bkD)), .no, .dat (.lst (N.map txD)), x4, x5, x6, x7, x8, .dat (bkD A), .dat (bkD B), .no, .no]) (by
      generalize Bs.map bkD = BB at *
      rcases g1 with rfl | rfl
      · simp -implicitDefEqProofs (disch := omega) [szB_ok, rngB_ok, -atI_0, -atI_1, hx0, hx1]
      · simp -implicitDefEqProofs (disch := omega) [szB_ok, rngB_ok, -atI_0, -atI_1, hx0, hx1]) ?_
    have jab := judged_q h0 h1 hN6
    have jba := judged_q h1 h0 hN6
    rw [jud_swap (lots A N)] at jba
    have hone : oneB A B N = decide (judS (lots A N) (lots B N) = "one") := rfl
    have fe := few_empty (a := A) (b := B) (N := N) hN6.1
    generalize hW : judS (lots A N) (lots B N) = W at *
    have hWo : W = "one" ∨ W = "other" ∨ W = "same" := by rw [← hW]; exact jud_or _ _
    refine p_seq (ρ1 := [.dat (scD ns), .dat (.lst (Bs.map bkD)), .no, .dat (.lst (N.map txD)), x4, x5, x6, x7, x8, .dat (bkD A), .dat (bkD B), .no, .no]) (by
      have v1 : valK (mergeD [] [(Sum.inr (Str.ofString "one"), D.str (Str.ofString "other")), (Sum.inr (Str.ofString "other"), D.str (Str.ofString "one")), (Sum.inr (Str.ofString "same"), D.str (Str.ofString "same"))]) (Sum.inr (Str.ofString "one")) = some (.str (Str.ofString "other")) := rfl
      have v2 : valK (mergeD [] [(Sum.inr (Str.ofString "one"), D.str (Str.ofString "other")), (Sum.inr (Str.ofString "other"), D.str (Str.ofString "one")), (Sum.inr (Str.ofString "same"), D.str (Str.ofString "same"))]) (Sum.inr (Str.ofString "other")) = some (.str (Str.ofString "one")) := rfl
      have v3 : valK (mergeD [] [(Sum.inr (Str.ofString "one"), D.str (Str.ofString "other")), (Sum.inr (Str.ofString "other"), D.str (Str.ofString "one")), (Sum.inr (Str.ofString "same"), D.str (Str.ofString "same"))]) (Sum.inr (Str.ofString "same")) = some (.str (Str.ofString "same")) := rfl
      rcases hWo with rfl | rfl | rfl
      · simp -implicitDefEqProofs (disch := omega) [szB_ok, rngB_ok, jab, jba, swapS, ne1, ne2, ne3, ne4, ne5, ne6, v1, v2, v3]
      · simp -implicitDefEqProofs (disch := omega) [szB_ok, rngB_ok, jab, jba, swapS, ne1, ne2, ne3, ne4, ne5, ne6, v1, v2, v3]
      · simp -implicitDefEqProofs (disch := omega) [szB_ok, rngB_ok, jab, jba, swapS, ne1, ne2, ne3, ne4, ne5, ne6, v1, v2, v3]) ?_
    have fq := fewest_q h0 h1 hN6
    refine p_seq (ρ1 := [.dat (scD ns), .dat (.lst (Bs.map bkD)), .no, .dat (.lst (N.map txD)), x4, x5, x6, x7, x8, .dat (bkD A), .dat (bkD B), .dat (fewD (fewS A B N)), .no]) (by simp -implicitDefEqProofs (disch := omega) [szB_ok, rngB_ok, fq]) ?_
    have fo := fun s h => few_one (a := A) (b := B) (N := N) hN6.1 (s := s) h
    generalize hO : fewS A B N = O at *
    have mid : ∃ x12 : VL.Slot, ∀ P : RS → Prop, ∀ g : SM, P (g [.dat (scD ns), .dat (.lst (Bs.map bkD)), .no, .dat (.lst (N.map txD)), x4, x5, x6, x7, x8, .dat (bkD A), .dat (bkD B), .dat (fewD O), x12]) → P (s_seq (s_if (t_val (e_op (isND true) (e_name 11) (e_k .non))) (s_seq (s_setN 12 (n_lc [2] (i_range1 (a_cons (e_cb lenD (a_cons (e_name 3) a_nil)) a_nil)) (g_name 2) (t_val (e_op (inLD true) (e_name 2) (e_name 11))) (e_op subD2 (e_name 3) (e_name 2))))
      (s_if (t_val (e_op neD (e_call F_judged 3 (a_cons (e_name 9) (a_cons (e_name 10) (a_cons (e_name 12) a_nil)))) (e_k (.str "one")))) (s_ret (e_k (.bl false))) s_next)) s_next) g [.dat (scD ns), .dat (.lst (Bs.map bkD)), .no, .dat (.lst (N.map txD)), x4, x5, x6, x7, x8, .dat (bkD A), .dat (bkD B), .dat (fewD O), .no]) := by
      cases O with
      | none => exact ⟨.no, fun P g h => p_seq (by simp -implicitDefEqProofs (disch := omega) [szB_ok, rngB_ok, fewD]) h⟩
      | some s =>
        have hL := leftN_ok hN6 s
        have j := judged_q h0 h1 hL
        have h1s := fo s rfl
        unfold oneB at h1s
        rw [decide_eq_true_iff] at h1s
        rw [h1s] at j
        refine ⟨.dat (.lst ((leftN N s).map txD)), fun P g h => p_seq ?_ h⟩
        have ht : ∀ f : SM, s_if (t_val (e_op (isND true) (e_name 11) (e_k .non))) f s_next [.dat (scD ns), .dat (.lst (Bs.map bkD)), .no, .dat (.lst (N.map txD)), x4, x5, x6, x7, x8, .dat (bkD A), .dat (bkD B), .dat (fewD (some s)), .no] = f [.dat (scD ns), .dat (.lst (Bs.map bkD)), .no, .dat (.lst (N.map txD)), x4, x5, x6, x7, x8, .dat (bkD A), .dat (bkD B), .dat (fewD (some s)), .no] := fun f => by simp -implicitDefEqProofs (disch := omega) [szB_ok, rngB_ok, fewD]
        rw [ht]
        have e9 : ((List.range N.length).filter fun p : Nat => !decide ((p : Int) ∈ s)).map (fun p => txD (N.getD p [])) = (leftN N s).map txD := by
          unfold leftN
          rw [List.map_map]
          rfl
        refine (sq_eq (ρ1 := [.dat (scD ns), .dat (.lst (Bs.map bkD)), .no, .dat (.lst (N.map txD)), x4, x5, x6, x7, x8, .dat (bkD A), .dat (bkD B), .dat (fewD (some s)), .own (.L ((leftN N s).map txD))]) ?_).trans ?_
        · have ic : ∀ p : Nat, inLD true (itD p) (fewD (some s)) = _ := fun p => in_ch p s
          have lf := fun p hp => lc_left hN6.1 s p hp
          have hrg := rngB_ok (n := (N.length : Nat)) (by omega) (by omega)
          have rr := range_eq N.length
          generalize fewD (some s) = C at *
          simp -implicitDefEqProofs (disch := omega) [szB_ok, rngB_ok, hrg, rr]
          rw [lc_filter [.dat (scD ns), .dat (.lst (Bs.map bkD)), .no, .dat (.lst (N.map txD)), x4, x5, x6, x7, x8, .dat (bkD A), .dat (bkD B), .dat (C), .no] (fun p : Nat => !decide ((p : Int) ∈ s)) (fun p => txD (N.getD p []))]
          · rw [e9]
            simp -implicitDefEqProofs (disch := omega) [szB_ok, rngB_ok]
          · intro p hp
            have h1 := ic p
            have h2 := lf p hp
            simp only [List.getD_eq_getElem?_getD] at h2
            by_cases q : (p : Int) ∈ s
            · simp -implicitDefEqProofs (disch := omega) [szB_ok, rngB_ok, h1, q]
            · simp -implicitDefEqProofs (disch := omega) [szB_ok, rngB_ok, h1, q, h2]
          all_goals try simp
          omega
        · generalize fewD (some s) = C at *
          simp -implicitDefEqProofs (disch := omega) [szB_ok, rngB_ok, j]
    obtain ⟨x12, mid⟩ := mid
    refine mid _ _ ?_
    have ef := eq_few O
    have eo : decide (O = some []) = decide (W = "one") := decide_eq_decide.mpr (fe.trans (by rw [hone, decide_eq_true_iff]))
    rw [eo] at ef
    refine p_seq (ρ1 := [.dat (scD ns), .dat (.lst (Bs.map bkD)), .no, .dat (.lst (N.map txD)), x4, x5, x6, x7, x8, .dat (bkD A), .dat (bkD B), .dat (fewD O), x12]) (by
      generalize fewD O = C at *
      simp -implicitDefEqProofs (disch := omega) [szB_ok, rngB_ok, ef, jab]) ?_
    have p3 : F_parting [bkD A, bkD B, .int 3] = _ := parting_q h0 h1 l0 l1 (k := 3) (by decide) (by decide)
    have p3' : F_parting [bkD B, bkD A, .int 3] = _ := parting_q h1 h0 l1 l0 (k := 3) (by decide) (by decide)
    have p4 : F_parting [bkD A, bkD A, .int 4] = _ := parting_q h0 h0 l0 l0 (k := 4) (by decide) (by decide)
    rw [partS_comm B A] at p3'
    rw [partS_self] at p4
    have p4 : F_parting [bkD A, bkD A, .int 4] = .ok .non := p4
    have hps := fun x h => partS_some (a := A) (b := B) (k := 3) (x := x) h
    refine p_seq (ρ1 := [.dat (scD ns), .dat (.lst (Bs.map bkD)), .no, .dat (.lst (N.map txD)), .dat (strO (partS A B 3)), x5, x6, x7, x8, .dat (bkD A), .dat (bkD B), .dat (fewD O), x12]) (by simp -implicitDefEqProofs (disch := omega) [szB_ok, rngB_ok, p3]) ?_
    generalize partS A B 3 = X at *
    have nX : neD (strO X) (strO X) = some (.bl false) := by
      cases X with
      | none => exact ne_self rfl (by decide)
      | some x => simp [strO]
    refine p_seq (ρ1 := [.dat (scD ns), .dat (.lst (Bs.map bkD)), .no, .dat (.lst (N.map txD)), .dat (strO X), x5, x6, x7, x8, .dat (bkD A), .dat (bkD B), .dat (fewD O), x12]) (by
      simp -implicitDefEqProofs (disch := omega) [szB_ok, rngB_ok, p3', p4, nX]) ?_
    refine fi_of ?_
    cases X with
    | none => simp -implicitDefEqProofs (disch := omega) [szB_ok, rngB_ok, strO]
    | some x =>
      obtain ⟨hu, m, hm1, hm2, hx⟩ := hps x rfl
      obtain ⟨l, rfl, hl⟩ := partT_mem hx
      have hn : nameOk l = true := by
        rcases hl with w | w
        · exact tells_name h0 hm1 (by omega) w
        · exact tells_name h1 hm1 (by omega) w
      have c0 := chance_q h0 hn
      have c1 := chance_q h1 hn
      have nq := ne_q (chanceQ A l) (chanceQ B l)
      have hu' : (!decide (chanceQ A l = chanceQ B l)) = true := by
        unfold unlike at hu
        rwa [S_cps] at hu
      rw [hu'] at nq
      simp -implicitDefEqProofs (disch := omega) [szB_ok, rngB_ok, strO, c0, c1, nq]
end K89

namespace K89
open PySem PySem.Spec PyProof.Rows L2 VL
abbrev rowR : PySem.W.OpenRow := PySem.W.OpenLaw.row PySem.Challenge.rw_lettershares_k89_whole_judged
abbrev hkR : PySem.W.Hook := VL.hookX 4 fa fx fn
def obR (s : PySem.W.SharedT) : He.AlD := VL.obsXG 4 fa fx fn (HandSHeadRun.getT s)
theorem obR_eq (s : PySem.W.SharedT) : obR s = hkR.obs s.abs := VL.obsXG_eq (HandSHeadRun.getT_eq s)
def looseR : List Str := (["ShareError", "NoBook", "NoName", "NoNumber", "is_whole", "is_name", "is_pair", "is_book", "look_book", "look_name", "are_names", "pairs_in", "lowest", "count_of", "sum_behind", "share_of", "soft_of", "product", "chance_of", "soft_chance_of", "chance", "soft_chance", "is_less", "letters_behind", "can_end", "can_tell", "names_behind", "look_books", "order_of", "likeliest", "ranked", "parting", "look_names", "judge", "judged", "choices", "fewest", "_law_cell", "_law_pick", "_law_name", "_law_names", "_law_pairs", "_law_book", "LONGEST", "SMALL", "BEGIN", "END", "MOST_PAIRS", "MOST", "MOST_BOOKS", "MOST_NAMES", "MOST_LETTERS", "MOST_SOUGHT"] : List String).map Str.ofString
theorem runR (w : World) : HandSHeadRun.RunEq rowR (PySem.W.view rowR.prog [59]) hkR obR 4000 looseR w := by
  intro os
  kernel_rfl
end K89
open PySem PySem.W PySem.Calls PyProof.Rows
theorem PySem.Challenge.cw_lettershares_k89_whole_judged_holds : PySem.Challenge.rw_lettershares_k89_whole_judged.Holds := by
  w_on; o_law
  refine HandSHeadRun.head_any (r := OpenLaw.row PySem.Challenge.rw_lettershares_k89_whole_judged) (q := view (OpenLaw.row PySem.Challenge.rw_lettershares_k89_whole_judged).prog [59]) (H := K89.hkR) (ob := K89.obR) (M := 4000) (loose := K89.looseR) (d := HandSHeadRun.topDef (OpenLaw.row PySem.Challenge.rw_lettershares_k89_whole_judged).prog 59) (kwd := []) K89.obR_eq
    (by kernel_rfl) (fun s => by kernel_rfl) K89.runR (by kernel_rfl) (by kernel_rfl) (by kernel_rfl) (by rfl) (by first | assumption | decide +kernel) (by decide +kernel) ⟨rfl, rfl, rfl, rfl, rfl, by decide +kernel⟩ ?hw ?hc
  case hw => w_witness2
  case hc =>
    refine VL.law_end (l := PySem.Challenge.rw_lettershares_k89_whole_judged) (n := 63) (k := 21) (x := "_law_script") (G := K89.F_law) (at_ := fun K v n => v = .ref (He.ga K n)) (ca := fun K => He.ga K) rfl (by decide) (by kernel_rfl) ⟨rfl, by decide, by decide⟩ ?F (fun ns _ => K89.law_true ns)
    intro w mg fa h Y G hmg0
    obtain ⟨K, KX, c⟩ := Y
    have hmg : mg ("law" : PySem.Str) = some (.ref fa) := by
      have eName : (HandSHeadRun.topDef (OpenLaw.row PySem.Challenge.rw_lettershares_k89_whole_judged).prog 59).name = ("law" : PySem.Str) := by kernel_rfl
      rw [← eName]
      exact hmg0
    obtain ⟨fd, hb, hF⟩ := K89.facts (P := (PySem.Challenge.rw_lettershares_k89_whole_judged).prog) (w := w) KX G hmg c
    exact ⟨K, fd, KX, hb, hF⟩
