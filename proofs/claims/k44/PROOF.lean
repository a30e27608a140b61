import PyProof.Rows.All
import Wide.All
import OpenK.AllK
import Wide.FinOn
import KE.SortData
import HandS.Base
import HandS.Call
import HandS.List
import HandS.Comp
import HandS.Dict
import HandS.Iter
import HandS.Ends
import HandS.Words
import HandS.WordsList
import HandS.Evl
import HandS.Deep
import HandS.TupAny
import HandS.RevTup
import HandS.Rev
import HandS.Walk
import HandS.Conv
import HandS.Flow
import HandS.Style
import HandS.Wide
import HandS.WideBits
import HandS.Defaults
import HandS.NoneIn
import HandS.HeadHook1
import HandS.HeadHook2
import HandS.WordsExc
import KE.GoesEnum
import PyProof.TupleOfSeq
import HandS.Sort
import PyProof.SumWalkG
import KE.KDictWalk
import PySem.Challenge.RW_doingbook_k44_whole_papers_are_right
import KE.KStateDown
import HandS.Head0
import HandS.Head1
import HandS.Head2
import HandS.HeadEnd
set_option Elab.async false
set_option linter.all false
set_option maxRecDepth 100000
set_option maxHeartbeats 4000000
namespace W3
open PySem PySem.Spec PyProof.Rows L2 Evl

/-! ### data -/
/-- the text's written part, the address of the class Drawing -/
structure Tx where
  K : PySem.W.Frag
  C : Addr
inductive Dt where
  | non | bl (b : Bool) | int (i : Int) | str (x : Str) | tup (l : List Dt) | lst (l : List Dt)
  | drw (n : Int) (ties bows : List (Int × Int)) | dk (kvs : List (Int × Int)) | dt (kvs : List (List Int × Int)) | du (kvs : List (List Int × Int)) | scr (ns : List Int)
def dI (ns : List Int) : Dt := .tup (ns.map .int)
def lI (ns : List Int) : Dt := .lst (ns.map .int)
def dP (p : Int × Int) : Dt := .tup [.int p.1, .int p.2]
def dTP (ps : List (Int × Int)) : Dt := .tup (ps.map dP)
def lTP (ps : List (Int × Int)) : Dt := .lst (ps.map dP)
def dTI (L : List (List Int)) : Dt := .tup (L.map dI)
def lTI (L : List (List Int)) : Dt := .lst (L.map dI)
def kvK (kvs : List (Int × Int)) : List (Key × V) := kvs.map fun p => (Sum.inl p.1, V.int p.2)
def kvT (kvs : List (List Int × Int)) : List (List Key × V) := kvs.map fun p => (p.1.map Sum.inl, V.int p.2)
mutual
inductive Rp (T : Tx) (H : Hp) : V → Dt → Prop
  | non : Rp T H .non .non
  | bl (b : Bool) : Rp T H (.bl b) (.bl b)
  | int (i : Int) : Rp T H (.int i) (.int i)
  | str (x : Str) : Rp T H (.str x) (.str x)
  | tup {a : Addr} {xs : List V} {ds : List Dt} : H a = some (.tup xs) → RpAll T H xs ds → Rp T H (.ref a) (.tup ds)
  | lst {a : Addr} {xs : List V} {ds : List Dt} : H a = some (.lst xs) → RpAll T H xs ds → Rp T H (.ref a) (.lst ds)
  | drw {a dx : Addr} {v1 v2 : V} {n : Int} {ties bows : List (Int × Int)} : H a = some (.ins T.C dx [("count", .int n), ("ties", v1), ("bows", v2)]) →
      Rp T H v1 (.tup (ties.map dP)) → Rp T H v2 (.tup (bows.map dP)) → Rp T H (.ref a) (.drw n ties bows)
  | dk {a : Addr} {kvs : List (Int × Int)} : Rd H a (.dK (kvK kvs)) → Rp T H (.ref a) (.dk kvs)
  | dt {a : Addr} {kvs : List (List Int × Int)} : Rd H a (.dT (kvT kvs)) → Rp T H (.ref a) (.dt kvs)
  | du {a : Addr} {kvs : List (List Int × Int)} : H a = some (.dT (kvT kvs)) → Rp T H (.ref a) (.du kvs)
  | scr {a : Addr} {ns : List Int} : SqL T.K H a (ns.map V.int) → Rp T H (.ref a) (.scr ns)
inductive RpAll (T : Tx) (H : Hp) : List V → List Dt → Prop
  | nil : RpAll T H [] []
  | cons {v : V} {vs : List V} {d : Dt} {ds : List Dt} : Rp T H v d → RpAll T H vs ds → RpAll T H (v :: vs) (d :: ds)
end
section
variable {T : Tx} {H H' : Hp}
mutual
theorem Rp.mono (e : Ex H H') : ∀ {v : V} {d : Dt}, Rp T H v d → Rp T H' v d
  | _, _, .non => .non
  | _, _, .bl b => .bl b
  | _, _, .int i => .int i
  | _, _, .str x => .str x
  | _, _, .tup h r => .tup (e _ _ h) (RpAll.mono e r)
  | _, _, .lst h r => .lst (e _ _ h) (RpAll.mono e r)
  | _, _, .drw h r1 r2 => .drw (e _ _ h) (Rp.mono e r1) (Rp.mono e r2)
  | _, _, .dk h => .dk (ex_rd e h)
  | _, _, .dt h => .dt (ex_rd e h)
  | _, _, .du h => .du (e _ _ h)
  | _, _, .scr h => .scr (ex_l e h)
theorem RpAll.mono (e : Ex H H') : ∀ {vs : List V} {ds : List Dt}, RpAll T H vs ds → RpAll T H' vs ds
  | _, _, .nil => .nil
  | _, _, .cons r t => .cons (Rp.mono e r) (RpAll.mono e t)
end
theorem RpAll.length : ∀ {vs : List V} {ds : List Dt}, RpAll T H vs ds → vs.length = ds.length
  | _, _, .nil => rfl
  | _, _, .cons _ t => congrArg Nat.succ (RpAll.length t)
theorem RpAll.get : ∀ {vs : List V} {ds : List Dt} {i : Nat} {d : Dt}, RpAll T H vs ds → ds[i]? = some d → ∃ v, vs[i]? = some v ∧ Rp T H v d
  | _, _, _, _, .nil, e => by simp at e
  | _, _, 0, _, .cons r _, e => by simp at e; subst e; exact ⟨_, rfl, r⟩
  | _, _, i + 1, d, .cons _ t, e => by
    obtain ⟨v, h1, h2⟩ := RpAll.get (i := i) (d := d) t (by simpa using e)
    exact ⟨v, by simpa using h1, h2⟩
theorem RpAll.getV : ∀ {vs : List V} {ds : List Dt} {i : Nat} {v : V}, RpAll T H vs ds → vs[i]? = some v → ∃ d, ds[i]? = some d ∧ Rp T H v d
  | _, _, _, _, .nil, e => by simp at e
  | _, _, 0, _, .cons r _, e => by simp at e; subst e; exact ⟨_, rfl, r⟩
  | _, _, i + 1, d, .cons _ t, e => by
    obtain ⟨v, h1, h2⟩ := RpAll.getV (i := i) (v := d) t (by simpa using e)
    exact ⟨v, by simpa using h1, h2⟩
theorem RpAll.append : ∀ {vs ws : List V} {ds es : List Dt}, RpAll T H vs ds → RpAll T H ws es → RpAll T H (vs ++ ws) (ds ++ es)
  | _, _, _, _, .nil, s => s
  | _, _, _, _, .cons r t, s => .cons r (RpAll.append t s)
theorem RpAll.take : ∀ {vs : List V} {ds : List Dt} (n : Nat), RpAll T H vs ds → RpAll T H (vs.take n) (ds.take n)
  | _, _, 0, _ => .nil
  | _, _, _ + 1, .nil => .nil
  | _, _, n + 1, .cons r t => .cons r (RpAll.take n t)
theorem RpAll.drop : ∀ {vs : List V} {ds : List Dt} (n : Nat), RpAll T H vs ds → RpAll T H (vs.drop n) (ds.drop n)
  | _, _, 0, r => r
  | _, _, _ + 1, .nil => .nil
  | _, _, n + 1, .cons _ t => RpAll.drop n t
theorem RpAll.reverse {vs : List V} {ds : List Dt} (h : RpAll T H vs ds) : RpAll T H vs.reverse ds.reverse := by
  induction vs generalizing ds with
  | nil => cases h; exact .nil
  | cons v vs ih => cases h with
    | cons r t =>
      rw [List.reverse_cons, List.reverse_cons]
      exact (ih t).append (.cons r .nil)
theorem RpAll.ints : ∀ {vs : List V} {ns : List Int}, RpAll T H vs (ns.map Dt.int) → vs = ns.map V.int
  | _, [], h => by cases h; rfl
  | _, n :: ns, h => by
    cases h with
    | cons r t =>
      cases r
      rw [RpAll.ints t]
      rfl
theorem RpAll.of_ints : ∀ (ns : List Int), RpAll T H (ns.map V.int) (ns.map Dt.int)
  | [] => .nil
  | n :: ns => .cons (.int n) (RpAll.of_ints ns)
end

/-! ### a part of the heap left out -/
open Classical in
noncomputable def wo (H : Hp) (O : Addr → Prop) : Hp := fun a => if O a then none else H a
theorem wo_ex (H : Hp) (O : Addr → Prop) : Ex (wo H O) H := fun a o e => by
  unfold wo at e
  split at e
  · cases e
  · exact e
theorem wo_mono {H H' : Hp} {O : Addr → Prop} (e : Ex H H') : Ex (wo H O) (wo H' O) := fun a o h => by
  unfold wo at h ⊢
  split at h
  · cases h
  · rename_i n
    rw [if_neg n]
    exact e a o h
theorem wo_sub {H : Hp} {O O' : Addr → Prop} (s : ∀ a, O' a → O a) : Ex (wo H O) (wo H O') := fun a o h => by
  unfold wo at h ⊢
  split at h
  · cases h
  · rename_i n
    rw [if_neg fun z => n (s a z)]
    exact h
theorem wo_at {H : Hp} {O : Addr → Prop} {a : Addr} (n : ¬ O a) : wo H O a = H a := by
  unfold wo
  rw [if_neg n]
theorem wo_in {H : Hp} {O : Addr → Prop} {a : Addr} (n : O a) : wo H O a = none := by
  unfold wo
  rw [if_pos n]
theorem wo_upd {H : Hp} {O : Addr → Prop} {p : Addr} {o : HO} (h : O p) : wo (upd H p o) O = wo H O := by
  funext a
  unfold wo
  split
  · rfl
  · rename_i n
    rw [upd_ne fun e => n (by rw [e]; exact h)]

/-! ### what the slots hold -/
inductive Cell where
  | lst (ds : List Dt) | dt (kvs : List (List Int × Int)) | dk (kvs : List (Int × Int)) | ob (dx : Addr) (fs : List (Str × Dt))
inductive Sl where
  | un | d (x : Dt) | own (c : Cell)
def CellOk (T : Tx) (Hd : Hp) (o : Option HO) : Cell → Prop
  | .lst ds => ∃ vs, o = some (.lst vs) ∧ RpAll T Hd vs ds
  | .dt kvs => o = some (.dT (kvT kvs))
  | .dk kvs => o = some (.dK (kvK kvs))
  | .ob dx fs => ∃ vs, o = some (.ins T.C dx ((fs.map (·.1)).zip vs)) ∧ RpAll T Hd vs (fs.map (·.2))
/-- a thing that may change -/
def Mu (o : Option HO) : Prop := o ≠ none ∧ ∀ xs, o ≠ some (.tup xs)
theorem CellOk.mono {T : Tx} {Hd Hd' : Hp} {o : Option HO} (e : Ex Hd Hd') : ∀ {c : Cell}, CellOk T Hd o c → CellOk T Hd' o c
  | .lst _, ⟨vs, h, r⟩ => ⟨vs, h, r.mono e⟩
  | .dt _, h => h
  | .dk _, h => h
  | .ob _ _, ⟨vs, h, r⟩ => ⟨vs, h, r.mono e⟩
theorem CellOk.some {T : Tx} {Hd : Hp} {o : Option HO} : ∀ {c : Cell}, CellOk T Hd o c → ∃ u, o = some u
  | .lst _, ⟨vs, h, r⟩ => ⟨_, h⟩
  | .dt _, h => ⟨_, h⟩
  | .dk _, h => ⟨_, h⟩
  | .ob _ _, ⟨vs, h, r⟩ => ⟨_, h⟩
theorem CellOk.mu {T : Tx} {Hd : Hp} {o : Option HO} : ∀ {c : Cell}, CellOk T Hd o c → Mu o
  | .lst _, ⟨vs, h, r⟩ => by rw [h]; exact ⟨(fun z => nomatch z), fun _ z => nomatch z⟩
  | .dt _, h => by rw [show o = _ from h]; exact ⟨(fun z => nomatch z), fun _ z => nomatch z⟩
  | .dk _, h => by rw [show o = _ from h]; exact ⟨(fun z => nomatch z), fun _ z => nomatch z⟩
  | .ob _ _, ⟨vs, h, r⟩ => by rw [h]; exact ⟨(fun z => nomatch z), fun _ z => nomatch z⟩
/-- the caller's heap, the addresses that others own -/
structure Base where
  Hb : Hp
  O : Addr → Prop
def own (B : Base) (G : List Sl) (ad : Nat → Addr) : Addr → Prop := fun a => B.O a ∨ ∃ i c, G[i]? = some (.own c) ∧ ad i = a
structure EnvOk (T : Tx) (B : Base) (ad : Nat → Addr) (H : Hp) (s : L2.St) (G : List Sl) : Prop where
  ex : Ex B.Hb H
  len : s.length = G.length
  fo : ∀ a, B.O a → Mu (H a)
  d : ∀ (i : Nat) x, G[i]? = some (.d x) → ∃ v, s[i]? = some (some v) ∧ Rp T (wo H (own B G ad)) v x
  ow : ∀ (i : Nat) c, G[i]? = some (.own c) → s[i]? = some (some (.ref (ad i))) ∧ B.Hb (ad i) = none ∧ ¬ B.O (ad i) ∧ CellOk T (wo H (own B G ad)) (H (ad i)) c
  inj : ∀ (i j : Nat) c c', G[i]? = some (.own c) → G[j]? = some (.own c') → ad i = ad j → i = j
section
variable {T : Tx} {B : Base} {ad : Nat → Addr} {H H2 : Hp} {s : L2.St} {G : List Sl}
theorem EnvOk.mono (I : EnvOk T B ad H s G) (e : Ex H H2) : EnvOk T B ad H2 s G where
  ex := I.ex.trans e
  len := I.len
  fo := fun a h => by
    have m := I.fo a h
    cases q : H a with
    | none => exact absurd q m.1
    | some o => rw [e a o q]; rw [q] at m; exact m
  d := fun i x h => let ⟨v, h1, h2⟩ := I.d i x h; ⟨v, h1, h2.mono (wo_mono e)⟩
  ow := fun i c h => by
    obtain ⟨h1, h2, h3, h4⟩ := I.ow i c h
    obtain ⟨u, hu⟩ := h4.some
    refine ⟨h1, h2, h3, ?_⟩
    rw [e _ u hu]
    rw [hu] at h4
    exact h4.mono (wo_mono e)
  inj := I.inj
theorem EnvOk.there (I : EnvOk T B ad H s G) {a : Addr} (h : own B G ad a) : H a ≠ none := by
  rcases h with h | ⟨i, c, h, rfl⟩
  · exact (I.fo a h).1
  · obtain ⟨_, _, _, h4⟩ := I.ow i c h
    obtain ⟨u, hu⟩ := h4.some
    rw [hu]
    exact fun z => nomatch z
theorem EnvOk.mu (I : EnvOk T B ad H s G) {a : Addr} (h : own B G ad a) : Mu (H a) := by
  rcases h with h | ⟨i, c, h, rfl⟩
  · exact I.fo a h
  · exact (I.ow i c h).2.2.2.mu
theorem EnvOk.new (I : EnvOk T B ad H s G) {a : Addr} (h : H a = none) : ¬ own B G ad a := fun z => I.there z h
end

/-! ### evaluation -/
/-- te, over slots as G says, comes to a value that R tells -/
def EvR (T : Tx) (te : TE) (G : List Sl) (R : (Addr → Prop) → Hp → V → Hp → Prop) : Prop :=
  ∀ (B : Base) (ad : Nat → Addr) (H : Hp) (s : L2.St), EnvOk T B ad H s G → ∀ Q : VK, (∀ v H2, Ex H H2 → R (own B G ad) H v H2 → Q v H2) → te s H Q
/-- data of which P holds -/
def EvP (T : Tx) (te : TE) (G : List Sl) (P : Dt → Prop) : Prop := EvR T te G fun O _ v H2 => ∃ x, P x ∧ Rp T (wo H2 O) v x
/-- the datum x -/
def EvD (T : Tx) (te : TE) (G : List Sl) (x : Dt) : Prop := EvR T te G fun O _ v H2 => Rp T (wo H2 O) v x
/-- a list or tuple of these -/
def EvS (T : Tx) (te : TE) (G : List Sl) (ds : List Dt) : Prop := EvR T te G fun O _ v H2 => ∃ p vs, v = .ref p ∧ (H2 p = some (.lst vs) ∨ wo H2 O p = some (.tup vs)) ∧ RpAll T (wo H2 O) vs ds
/-- a new list of these -/
def EvN (T : Tx) (te : TE) (G : List Sl) (ds : List Dt) : Prop := EvR T te G fun O H v H2 => ∃ p vs, v = .ref p ∧ H p = none ∧ H2 p = some (.lst vs) ∧ RpAll T (wo H2 fun a => O a ∨ a = p) vs ds
def EvT (T : Tx) (tt : TT) (G : List Sl) (b : Bool) : Prop :=
  ∀ (B : Base) (ad : Nat → Addr) (H : Hp) (s : L2.St), EnvOk T B ad H s G → ∀ Q : Bool → Hp → Prop, (∀ H2, Ex H H2 → Q b H2) → tt s H Q
def EvA (T : Tx) (ta : TA) (G : List Sl) (ds : List Dt) : Prop :=
  ∀ (B : Base) (ad : Nat → Addr) (H : Hp) (s : L2.St), EnvOk T B ad H s G → ∀ Q : List V → Hp → Prop, (∀ vs H2, Ex H H2 → RpAll T (wo H2 (own B G ad)) vs ds → Q vs H2) → ta s H Q
def EvO (T : Tx) (to : TO) (G : List Sl) (o : Option Int) : Prop :=
  ∀ (B : Base) (ad : Nat → Addr) (H : Hp) (s : L2.St), EnvOk T B ad H s G → ∀ Q : Option Int → Hp → Prop, (∀ H2, Ex H H2 → Q o H2) → to s H Q
section
variable {T : Tx} {G : List Sl} {te ta tb tc : TE} {x y : Dt} {ds es : List Dt}
theorem EvD.as (h : EvD T te G x) (e : x = y) : EvD T te G y := e ▸ h
theorem EvT.as {t : TT} {b c : Bool} (h : EvT T t G b) (e : b = c) : EvT T t G c := e ▸ h
theorem EvN.as (h : EvN T te G ds) (e : ds = es) : EvN T te G es := e ▸ h
theorem EvS.as (h : EvS T te G ds) (e : ds = es) : EvS T te G es := e ▸ h
theorem EvA.as {ta : TA} (h : EvA T ta G ds) (e : ds = es) : EvA T ta G es := e ▸ h
theorem EvD.p {P : Dt → Prop} (h : EvD T te G x) (hp : P x) : EvP T te G P := fun B ad H s I Q q => h B ad H s I Q fun v H2 e r => q v H2 e ⟨x, hp, r⟩
theorem EvP.mono {P P' : Dt → Prop} (h : EvP T te G P) (hp : ∀ x, P x → P' x) : EvP T te G P' := fun B ad H s I Q q => h B ad H s I Q fun v H2 e ⟨x, h1, r⟩ => q v H2 e ⟨x, hp x h1, r⟩
theorem EvN.d (h : EvN T te G ds) : EvD T te G (.lst ds) := fun B ad H s I Q q => h B ad H s I Q fun v H2 e ⟨p, vs, ev, hp, h2, r⟩ => q v H2 e (by
  subst ev
  have n : ¬ own B G ad p := I.new hp
  refine .lst (xs := vs) (by rw [wo_at n]; exact h2) (r.mono (wo_sub fun a z => .inl z)))
theorem EvN.s (h : EvN T te G ds) : EvS T te G ds := fun B ad H s I Q q => h B ad H s I Q fun v H2 e ⟨p, vs, ev, hp, h2, r⟩ => q v H2 e ⟨p, vs, ev, .inl h2, r.mono (wo_sub fun a z => .inl z)⟩
theorem EvD.sL (h : EvD T te G (.lst ds)) : EvS T te G ds := fun B ad H s I Q q => h B ad H s I Q fun v H2 e r => q v H2 e (by
  cases r with
  | lst h1 r => exact ⟨_, _, rfl, .inl (wo_ex _ _ _ _ h1), r⟩)
theorem EvD.sT (h : EvD T te G (.tup ds)) : EvS T te G ds := fun B ad H s I Q q => h B ad H s I Q fun v H2 e r => q v H2 e (by
  cases r with
  | tup h1 r => exact ⟨_, _, rfl, .inr h1, r⟩)

/-! names, constants -/
theorem ev_var {i : Nat} (h : G[i]? = some (.d x)) : EvD T (tVar i) G x := fun B ad H s I Q q => by
  obtain ⟨v, e, r⟩ := I.d i x h
  exact ⟨v, e, q v H (Ex.refl H) r⟩
theorem es_own {i : Nat} (h : G[i]? = some (.own (.lst ds))) : EvS T (tVar i) G ds := fun B ad H s I Q q => by
  obtain ⟨e, _, _, vs, h1, r⟩ := I.ow i _ h
  exact ⟨_, e, q _ H (Ex.refl H) ⟨_, vs, rfl, .inl h1, r⟩⟩
theorem ev_int {i : Int} : EvD T (tC (.int i)) G (.int i) := fun B ad H s I Q q => q _ H (Ex.refl H) (.int i)
theorem ev_bl {b : Bool} : EvD T (tC (.bl b)) G (.bl b) := fun B ad H s I Q q => q _ H (Ex.refl H) (.bl b)
theorem ev_str {z : Str} : EvD T (tC (.str z)) G (.str z) := fun B ad H s I Q q => q _ H (Ex.refl H) (.str z)
theorem ev_non : EvD T (tC .non) G .non := fun B ad H s I Q q => q _ H (Ex.refl H) .non

/-! two operands: the values and the heap behind them -/
theorem ev_two {r : R2} {R : (Addr → Prop) → Hp → V → Hp → Prop} {Ra Rb : (Addr → Prop) → Hp → V → Hp → Prop} (ha : EvR T ta G Ra) (hb : EvR T tb G Rb)
    (hr : ∀ B ad H H1 H2 s u v, EnvOk T B ad H s G → EnvOk T B ad H2 s G → Ex H H1 → Ex H1 H2 → Ra (own B G ad) H u H1 → Rb (own B G ad) H1 v H2 → ∀ Q : VK, (∀ z H3, Ex H2 H3 → R (own B G ad) H z H3 → Q z H3) → r u v H2 Q) :
    EvR T (tOp r ta tb) G R := fun B ad H s I Q q =>
  ha B ad H s I _ fun u H1 e1 r1 => hb B ad H1 s (I.mono e1) _ fun v H2 e2 r2 => hr B ad H H1 H2 s u v I (I.mono (e1.trans e2)) e1 e2 r1 r2 Q fun z H3 e3 r3 => q z H3 ((e1.trans e2).trans e3) r3
theorem ev_opI0 {g : Int → Int → V} {i j : Int} {x : Dt} (ha : EvD T ta G (.int i)) (hb : EvD T tb G (.int j)) (hg : ∀ H, Rp T H (g i j) x) : EvD T (tOp (rI0 g) ta tb) G x :=
  ev_two ha hb fun B ad H H1 H2 s u v I I2 e1 e2 r1 r2 Q q => by
    cases r1
    cases r2
    exact ⟨i, j, rfl, rfl, q _ H2 (Ex.refl H2) (hg _)⟩
theorem ev_opI {Cn : Int → Int → Prop} {g : Int → Int → V} {i j : Int} {x : Dt} (ha : EvD T ta G (.int i)) (hb : EvD T tb G (.int j)) (hc : Cn i j) (hg : ∀ H, Rp T H (g i j) x) : EvD T (tOp (rI Cn g) ta tb) G x :=
  ev_two ha hb fun B ad H H1 H2 s u v I I2 e1 e2 r1 r2 Q q => by
    cases r1
    cases r2
    exact ⟨i, j, rfl, rfl, hc, q _ H2 (Ex.refl H2) (hg _)⟩
end
end W3

namespace W3
open PySem PySem.Spec PyProof.Rows L2 Evl

/-! ### operations on whatever stands there -/
def rAddX (K : PySem.W.Frag) : R2 := fun x y H Q => rI0 (fun i j => .int (i + j)) x y H Q ∨ (rCat x y H Q ∨ rCatA K x y H Q)
def rInDT (K : PySem.W.Frag) : R2 := fun x y H Q => ∃ d ds, Dp K H x d ∧ Dp K H y (.tuple ds) ∧ SeqAt.shaped d = true ∧ SeqAt.shaped (.tuple ds) = true ∧ Q (.bl (ds.any fun z => PyData.eqv z d)) H
def rNiDT (K : PySem.W.Frag) : R2 := fun x y H Q => ∃ d ds, Dp K H x d ∧ Dp K H y (.tuple ds) ∧ SeqAt.shaped d = true ∧ SeqAt.shaped (.tuple ds) = true ∧ Q (.bl (!ds.any fun z => PyData.eqv z d)) H
def rInX (K : PySem.W.Frag) : R2 := fun x y H Q => rIn K false x y H Q ∨ (rInD K x y H Q ∨ rInDT K x y H Q)
def rNiX (K : PySem.W.Frag) : R2 := fun x y H Q => rIn K true x y H Q ∨ (rNotInD K x y H Q ∨ rNiDT K x y H Q)
def rEqX (K : PySem.W.Frag) : R2 := fun x y H Q => rEq x y H Q ∨ rEqD K x y H Q
def rNeX (K : PySem.W.Frag) : R2 := fun x y H Q => rNe x y H Q ∨ rNeD K x y H Q
def rSlX (K : PySem.W.Frag) : V → Option Int → Option Int → Hp → VK → Prop := fun x lo hi H Q => rSlL K x lo hi H Q ∨ rSlA K x lo hi H Q
def rLenX (K : PySem.W.Frag) : List V → Hp → VK → Prop := fun xs H Q => ∃ p ys, xs = [.ref p] ∧ (SqL K H p ys ∨ SqT K H p ys) ∧ Q (.int ys.length) H
def rTupX (K : PySem.W.Frag) : List V → Hp → VK → Prop := fun xs H Q => ∃ p ys, xs = [.ref p] ∧ ((SqL K H p ys ∧ ∀ l, H l = none → Q (.ref l) (upd H l (.tup ys))) ∨ (SqT K H p ys ∧ Q (.ref p) H))
def rLstX (K : PySem.W.Frag) : List V → Hp → VK → Prop := fun xs H Q => ∃ p ys, xs = [.ref p] ∧ (SqL K H p ys ∨ SqT K H p ys) ∧ ∀ l, H l = none → Q (.ref l) (upd H l (.lst ys))
def rIntX : List V → Hp → VK → Prop := fun xs H Q => (∃ i, xs = [.int i] ∧ Q (.int i) H) ∨ ∃ k, xs = [.bl k] ∧ Q (.int (if k then 1 else 0)) H
def rSubX : R2 := rI0 fun i j => .int (i - j)
def rMulX : R2 := rI CMulX fun i j => .int (i * j)
def rDivX : R2 := rI CDivW fun i j => .int (i / j)
def rModX : R2 := rI (fun _ j => 0 < j) fun i j => .int (i % j)
def rPowX : R2 := rI CPow fun i j => .int (i ^ j.toNat)
def rShlX : R2 := rI CPow fun i j => .int (i * 2 ^ j.toNat)
def rShrX : R2 := rI (fun _ j => 0 ≤ j) fun i j => .int (i / 2 ^ j.toNat)
def rLtX : R2 := rI0 fun i j => .bl (decide (i < j))
def rLeX : R2 := rI0 fun i j => .bl (decide (i ≤ j))
def rGtX : R2 := rI0 fun i j => .bl (decide (j < i))
def rGeX : R2 := rI0 fun i j => .bl (decide (j ≤ i))
def iSeq (K : PySem.W.Frag) (tl : TE) : TI := fun σ H R => iList K tl σ H R ∨ iTup K tl σ H R
section
variable {X : Cx}
theorem op_addX : OpR X (binaryOp .Add) (rAddX X.K) := op_add.or (op_cat.or op_catA)
theorem op_inDT (hu : X.A.units + 65 < cLine) : OpR X (compareOp .In) (rInDT X.K) := by
  intro pins s σ H x y v u Q I rx ry h
  obtain ⟨d, ds, hd, he, sd, se, q⟩ := h
  obtain ⟨as, r1⟩ := Dp.reads I d x v hd rx
  obtain ⟨bs, r2⟩ := Dp.reads I (.tuple ds) y u he ry
  exact SeqAt.in_tuple_reads r2 r1 (SeqAt.canLay_of_shaped se) (SeqAt.canLay_of_shaped sd) (room_in_shaped sd hu) ⟨.bl _, H, I, rfl, q⟩
theorem op_niDT (hu : X.A.units + 65 < cLine) : OpR X (compareOp .NotIn) (rNiDT X.K) := by
  intro pins s σ H x y v u Q I rx ry h
  obtain ⟨d, ds, hd, he, sd, se, q⟩ := h
  obtain ⟨as, r1⟩ := Dp.reads I d x v hd rx
  obtain ⟨bs, r2⟩ := Dp.reads I (.tuple ds) y u he ry
  exact SeqAt.notIn_tuple_reads r2 r1 (SeqAt.canLay_of_shaped se) (SeqAt.canLay_of_shaped sd) (room_in_shaped sd hu) ⟨.bl _, H, I, rfl, q⟩
theorem hu65 {k : Nat} {A : Around} (r : Room k A) : A.units + 65 < cLine := by have := r.un; omega
theorem op_inX {k : Nat} (hr : Room k X.A) : OpR X (compareOp .In) (rInX X.K) := op_in_seq.or ((op_inD (hu65 hr)).or (op_inDT (hu65 hr)))
theorem op_niX {k : Nat} (hr : Room k X.A) : OpR X (compareOp .NotIn) (rNiX X.K) := op_notIn_seq.or ((op_notInD (hu65 hr)).or (op_niDT (hu65 hr)))
theorem op_eqX {k : Nat} (hr : Room k X.A) : OpR X (compareOp .Eq) (rEqX X.K) := op_eq.or (op_eqD hr.units)
theorem op_neX {k : Nat} (hr : Room k X.A) : OpR X (compareOp .NotEq) (rNeX X.K) := op_ne.or (op_neD hr.units)
theorem op_ltX : OpR X (compareOp .Lt) rLtX := op_lt
theorem op_leX : OpR X (compareOp .LtE) rLeX := op_le
theorem op_gtX : OpR X (compareOp .Gt) rGtX := op_gt
theorem op_geX : OpR X (compareOp .GtE) rGeX := op_ge
theorem op_subX : OpR X (binaryOp .Sub) rSubX := op_sub
theorem op_mulXX : OpR X (binaryOp .Mult) rMulX := op_mulX
theorem op_divX : OpR X (binaryOp .FloorDiv) rDivX := op_fdivW
theorem op_modX : OpR X (binaryOp .Mod) rModX := op_mod
theorem op_powX : OpR X (binaryOp .Pow) rPowX := op_pow
theorem op_shlX : OpR X (binaryOp .LShift) rShlX := op_shl
theorem op_shrX : OpR X (binaryOp .RShift) rShrX := op_shr
theorem sl_X : SlR X (rSlX X.K) := sl_list.or sl_tupA
theorem call_lenX : CallR X (.builtin "len") (rLenX X.K) := call_len_seq
theorem call_tupX : CallR X (.type "tuple") (rTupX X.K) := call_tuple_of
theorem call_lstX : CallR X (.type "list") (rLstX X.K) := call_list_of
theorem call_intX : CallR X (.type "int") rIntX := call_int1
theorem PI.or {tg e : Expr} {w1 w2 : TI} (h1 : PI X tg e w1) (h2 : PI X tg e w2) : PI X tg e (fun σ H R => w1 σ H R ∨ w2 σ H R) := ⟨fun pins s σ H R I h => by
  rcases h with h | h
  · exact h1.run pins s σ H R I h
  · exact h2.run pins s σ H R I h⟩
theorem pi_seq {tg l : Expr} {tl : TE} (hl : PE X l tl) : PI X tg l (iSeq X.K tl) := PI.or (pi_list hl) (pi_tup hl)
end

/-! ### plain data: equality -/
theorem dp_ints {K : PySem.W.Frag} {H : Hp} : ∀ ns : List Int, DpAll K H (ns.map V.int) (ns.map PyData.int)
  | [] => .nil
  | n :: ns => .cons (.int n) (dp_ints ns)
def pI (ns : List Int) : PyData := .tuple (ns.map .int)
theorem lay_ints : ∀ ns : List Int, PyData.canLayAll0 (ns.map PyData.int) = true
  | [] => by simp only [List.map_nil, PyData.canLayAll0]
  | n :: ns => by rw [List.map_cons, PyData.canLayAll0, lay_ints ns]; simp only [PyData.canLay0, Bool.and_self]
theorem lay_pI : ∀ L : List (List Int), PyData.canLayAll0 (L.map pI) = true
  | [] => by simp only [List.map_nil, PyData.canLayAll0]
  | n :: ns => by rw [List.map_cons, PyData.canLayAll0, lay_pI ns, pI, PyData.canLay0, lay_ints, Bool.and_self]
theorem depth_pI : ∀ L : List (List Int), PyData.depthAll (L.map pI) ≤ 1
  | [] => by simp [PyData.depthAll]
  | n :: ns => by
    have h := depth_pI ns
    rw [List.map_cons, PyData.depthAll, pI, PyData.depth, PySem.W.depth_ints]
    omega
theorem shaped_pI (ns : List Int) : SeqAt.shaped (pI ns) = true := by
  show ((pI ns).canLay0 && decide ((pI ns).depth ≤ 64)) = true
  rw [pI, PyData.canLay0, PyData.depth, lay_ints, PySem.W.depth_ints] <;> rfl
theorem shaped_lI (ns : List Int) : SeqAt.shaped (.list (ns.map .int)) = true := by
  show ((PyData.list (ns.map .int)).canLay0 && decide ((PyData.list (ns.map .int)).depth ≤ 64)) = true
  rw [PyData.canLay0, PyData.depth, lay_ints, PySem.W.depth_ints] <;> rfl
theorem shaped_lTI (L : List (List Int)) : SeqAt.shaped (.list (L.map pI)) = true := by
  show ((PyData.list (L.map pI)).canLay0 && decide ((PyData.list (L.map pI)).depth ≤ 64)) = true
  have h := depth_pI L
  rw [PyData.canLay0, PyData.depth, lay_pI, Bool.true_and]
  exact decide_eq_true (by omega)
theorem shaped_tTI (L : List (List Int)) : SeqAt.shaped (.tuple (L.map pI)) = true := by
  show ((PyData.tuple (L.map pI)).canLay0 && decide ((PyData.tuple (L.map pI)).depth ≤ 64)) = true
  have h := depth_pI L
  rw [PyData.canLay0, PyData.depth, lay_pI, Bool.true_and]
  exact decide_eq_true (by omega)
theorem eqv_ints : ∀ ns ms : List Int, PyData.eqvAll (ns.map .int) (ms.map .int) = decide (ns = ms)
  | [], [] => by simp [PyData.eqvAll]
  | [], m :: ms => by simp [PyData.eqvAll]
  | n :: ns, [] => by simp [PyData.eqvAll]
  | n :: ns, m :: ms => by
    rw [List.map_cons, List.map_cons, PyData.eqvAll, eqv_ints ns ms, PyData.eqv]
    by_cases h : n = m <;> by_cases h2 : ns = ms <;> simp [h, h2]
theorem eqv_pI (ns ms : List Int) : PyData.eqv (pI ns) (pI ms) = decide (ns = ms) := by rw [pI, pI, PyData.eqv, eqv_ints]
theorem eqv_lI (ns ms : List Int) : PyData.eqv (.list (ns.map .int)) (.list (ms.map .int)) = decide (ns = ms) := by rw [PyData.eqv, eqv_ints]
theorem eqv_pIs : ∀ L M : List (List Int), PyData.eqvAll (L.map pI) (M.map pI) = decide (L = M)
  | [], [] => by simp [PyData.eqvAll]
  | [], m :: ms => by simp [PyData.eqvAll]
  | n :: ns, [] => by simp [PyData.eqvAll]
  | n :: ns, m :: ms => by
    rw [List.map_cons, List.map_cons, PyData.eqvAll, eqv_pIs ns ms, eqv_pI]
    by_cases h : n = m <;> by_cases h2 : ns = ms <;> simp [h, h2]
theorem eqv_lTI (L M : List (List Int)) : PyData.eqv (.list (L.map pI)) (.list (M.map pI)) = decide (L = M) := by rw [PyData.eqv, eqv_pIs]
theorem any_pI (ns : List Int) : ∀ L : List (List Int), ((L.map pI).any fun z => PyData.eqv z (pI ns)) = decide (ns ∈ L)
  | [] => by simp
  | m :: ms => by
    rw [List.map_cons, List.any_cons, any_pI ns ms, eqv_pI]
    by_cases h : m = ns
    · subst h; simp
    · have h' : ¬ ns = m := fun e => h e.symm
      simp [h, h']
section
variable {T : Tx} {H : Hp}
theorem Rp.pI {v : V} {ns : List Int} (h : Rp T H v (dI ns)) : Dp T.K H v (pI ns) := by
  cases h with
  | tup h r =>
    rw [RpAll.ints r] at h
    exact .tup (SqT.of h) (dp_ints ns)
theorem Rp.lI {v : V} {ns : List Int} (h : Rp T H v (lI ns)) : Dp T.K H v (.list (ns.map .int)) := by
  cases h with
  | lst h r =>
    rw [RpAll.ints r] at h
    exact .lst (SqL.of h) (dp_ints ns)
theorem RpAll.pIs : ∀ {L : List (List Int)} {vs : List V}, RpAll T H vs (L.map dI) → DpAll T.K H vs (L.map W3.pI)
  | [], _, h => by cases h; exact .nil
  | n :: ns, _, h => by
    cases h with
    | cons r t => exact .cons r.pI (RpAll.pIs t)
theorem Rp.lTI {v : V} {L : List (List Int)} (h : Rp T H v (lTI L)) : Dp T.K H v (.list (L.map W3.pI)) := by
  cases h with
  | lst h r => exact .lst (SqL.of h) r.pIs
theorem Rp.dTI {v : V} {L : List (List Int)} (h : Rp T H v (dTI L)) : Dp T.K H v (.tuple (L.map W3.pI)) := by
  cases h with
  | tup h r => exact .tup (SqT.of h) r.pIs
end
theorem flat_ints (ns : List Int) : (ns.map V.int).all flatV = true := by
  rw [List.all_eq_true]
  intro x hx
  obtain ⟨n, _, rfl⟩ := List.mem_map.mp hx
  rfl
theorem inV_ints (n : Int) : ∀ ns : List Int, inV (.int n) (ns.map V.int) = decide (n ∈ ns)
  | [] => by simp [inV]
  | m :: ms => by
    have ih := inV_ints n ms
    unfold inV at ih ⊢
    rw [List.map_cons, List.any_cons, ih]
    have e : eqV (V.int m) (V.int n) = decide (m = n) := by
      show (m == n) = decide (m = n)
      by_cases h : m = n <;> simp [h]
    rw [e]
    by_cases h : m = n
    · subst h; simp
    · have h' : ¬ n = m := fun z => h z.symm
      simp [h, h']

/-! ### expressions -/
section
variable {T : Tx} {G : List Sl} {te ta tb tc : TE} {x y : Dt} {ds es : List Dt} {i j : Int}
theorem ev_add (ha : EvD T ta G (.int i)) (hb : EvD T tb G (.int j)) : EvD T (tOp (rAddX T.K) ta tb) G (.int (i + j)) :=
  ev_two ha hb fun B ad H H1 H2 s u v I I2 e1 e2 r1 r2 Q q => by
    cases r1
    cases r2
    exact .inl ⟨i, j, rfl, rfl, q _ H2 (Ex.refl H2) (.int _)⟩
theorem ev_sub (ha : EvD T ta G (.int i)) (hb : EvD T tb G (.int j)) : EvD T (tOp rSubX ta tb) G (.int (i - j)) := ev_opI0 ha hb fun _ => .int _
theorem ev_mul (ha : EvD T ta G (.int i)) (hb : EvD T tb G (.int j)) (hc : CMulX i j) : EvD T (tOp rMulX ta tb) G (.int (i * j)) := ev_opI ha hb hc fun _ => .int _
theorem ev_div (ha : EvD T ta G (.int i)) (hb : EvD T tb G (.int j)) (hc : CDivW i j) : EvD T (tOp rDivX ta tb) G (.int (i / j)) := ev_opI ha hb hc fun _ => .int _
theorem ev_mod (ha : EvD T ta G (.int i)) (hb : EvD T tb G (.int j)) (hc : 0 < j) : EvD T (tOp rModX ta tb) G (.int (i % j)) := ev_opI ha hb hc fun _ => .int _
theorem ev_pow (ha : EvD T ta G (.int i)) (hb : EvD T tb G (.int j)) (hc : CPow i j) : EvD T (tOp rPowX ta tb) G (.int (i ^ j.toNat)) := ev_opI ha hb hc fun _ => .int _
theorem ev_shl (ha : EvD T ta G (.int i)) (hb : EvD T tb G (.int j)) (hc : CPow i j) : EvD T (tOp rShlX ta tb) G (.int (i * 2 ^ j.toNat)) := ev_opI ha hb hc fun _ => .int _
theorem ev_shr (ha : EvD T ta G (.int i)) (hb : EvD T tb G (.int j)) (hc : 0 ≤ j) : EvD T (tOp rShrX ta tb) G (.int (i / 2 ^ j.toNat)) := ev_opI ha hb hc fun _ => .int _
theorem ev_lt (ha : EvD T ta G (.int i)) (hb : EvD T tb G (.int j)) : EvD T (tOp rLtX ta tb) G (.bl (decide (i < j))) := ev_opI0 ha hb fun _ => .bl _
theorem ev_le (ha : EvD T ta G (.int i)) (hb : EvD T tb G (.int j)) : EvD T (tOp rLeX ta tb) G (.bl (decide (i ≤ j))) := ev_opI0 ha hb fun _ => .bl _
theorem ev_gt (ha : EvD T ta G (.int i)) (hb : EvD T tb G (.int j)) : EvD T (tOp rGtX ta tb) G (.bl (decide (j < i))) := ev_opI0 ha hb fun _ => .bl _
theorem ev_ge (ha : EvD T ta G (.int i)) (hb : EvD T tb G (.int j)) : EvD T (tOp rGeX ta tb) G (.bl (decide (j ≤ i))) := ev_opI0 ha hb fun _ => .bl _
/-! tuples joined, lists joined -/
theorem ev_catT (ha : EvD T ta G (.tup ds)) (hb : EvD T tb G (.tup es)) (hz : ds.length + es.length ≤ 100000) : EvD T (tOp (rAddX T.K) ta tb) G (.tup (ds ++ es)) :=
  ev_two ha hb fun B ad H H1 H2 s u v I I2 e1 e2 r1 r2 Q q => by
    have r1' := r1.mono (wo_mono e2)
    cases r1' with
    | tup h1 a1 =>
      cases r2 with
      | tup h2 a2 =>
        have l1 := a1.length
        have l2 := a2.length
        refine .inr (.inr ⟨_, _, _, _, rfl, rfl, SqT.of (wo_ex _ _ _ _ h1), SqT.of (wo_ex _ _ _ _ h2), sz_of (by omega), fun e => ?_, fun e e' => ?_, fun e e' p hp => ?_⟩)
        · subst e
          cases a1
          exact q _ H2 (Ex.refl H2) (.tup h2 a2)
        · subst e'
          cases a2
          exact q _ H2 (Ex.refl H2) (by rw [List.append_nil]; exact .tup h1 a1)
        · refine q _ _ (Ex.new hp) (.tup (xs := _) ?_ ((a1.append a2).mono (wo_mono (Ex.new hp))))
          rw [wo_at (I2.new hp)]
          exact upd_same
/-- the view of a list -/
def EvL (T : Tx) (te : TE) (G : List Sl) (ds : List Dt) : Prop := EvR T te G fun O _ v H2 => ∃ p vs, v = .ref p ∧ H2 p = some (.lst vs) ∧ RpAll T (wo H2 O) vs ds
theorem EvL.s (h : EvL T te G ds) : EvS T te G ds := fun B ad H s I Q q => h B ad H s I Q fun v H2 e ⟨p, vs, ev, h2, r⟩ => q v H2 e ⟨p, vs, ev, .inl h2, r⟩
theorem EvN.l (h : EvN T te G ds) : EvL T te G ds := fun B ad H s I Q q => h B ad H s I Q fun v H2 e ⟨p, vs, ev, hp, h2, r⟩ => q v H2 e ⟨p, vs, ev, h2, r.mono (wo_sub fun a z => .inl z)⟩
theorem EvD.l (h : EvD T te G (.lst ds)) : EvL T te G ds := fun B ad H s I Q q => h B ad H s I Q fun v H2 e r => q v H2 e (by
  cases r with
  | lst h1 r => exact ⟨_, _, rfl, wo_ex _ _ _ _ h1, r⟩)
theorem el_own {i : Nat} (h : G[i]? = some (.own (.lst ds))) : EvL T (tVar i) G ds := fun B ad H s I Q q => by
  obtain ⟨e, _, _, vs, h1, r⟩ := I.ow i _ h
  exact ⟨_, e, q _ H (Ex.refl H) ⟨_, vs, rfl, h1, r⟩⟩
theorem en_cat (ha : EvL T ta G ds) (hb : EvL T tb G es) (hz : ds.length + es.length ≤ 100000) : EvN T (tOp (rAddX T.K) ta tb) G (ds ++ es) :=
  ev_two ha hb fun B ad H H1 H2 s u v I I2 e1 e2 r1 r2 Q q => by
    obtain ⟨p1, vs, rfl, h1, a1⟩ := r1
    obtain ⟨p2, ws, rfl, h2, a2⟩ := r2
    have l1 := a1.length
    have l2 := a2.length
    refine .inr (.inl ⟨p1, p2, vs, ws, rfl, rfl, e2 _ _ h1, h2, sz_of (by omega), fun p hp => q _ _ (Ex.new hp) ⟨p, _, rfl, fresh_back (e1.trans e2) hp, upd_same, ?_⟩⟩)
    refine RpAll.mono (H := wo H2 (own B G ad)) (fun a o h => ?_) ((a1.mono (wo_mono e2)).append a2)
    have hn : H2 a = some o := wo_ex _ _ _ _ h
    have ne : a ≠ p := ne_of_none hn hp
    have no : ¬ (own B G ad a ∨ a = p) := fun z => by
      rcases z with z | z
      · rw [wo_in z] at h; cases h
      · exact ne z
    rw [wo_at (O := fun a => own B G ad a ∨ a = p) no, upd_ne ne]
    exact hn
/-! sequences read -/
theorem atI_len {α β : Type} {xs : List α} {ys : List β} {i : Int} {y : β} (hl : xs.length = ys.length) (h : atI ys i = some y) : ∃ j : Nat, ys[j]? = some y ∧ ∀ x : α, xs[j]? = some x → atI xs i = some x := by
  unfold atI at h
  cases q : ixN ys.length i with
  | none => rw [q] at h; cases h
  | some j =>
    rw [q] at h
    refine ⟨j, h, fun x hx => ?_⟩
    unfold atI
    rw [hl, q]
    exact hx
theorem ev_ix (ha : EvS T ta G ds) (hb : EvD T tb G (.int i)) (hx : atI ds i = some x) : EvD T (tOp (rIx T.K) ta tb) G x :=
  ev_two ha hb fun B ad H H1 H2 s u v I I2 e1 e2 r1 r2 Q q => by
    cases r2
    obtain ⟨p, vs, rfl, h1, a1⟩ := r1
    obtain ⟨j, hj, hat⟩ := atI_len a1.length hx
    obtain ⟨w', hw, rw'⟩ := a1.get hj
    have rw2 := rw'.mono (wo_mono e2)
    rcases h1 with h1 | h1
    · exact .inl ⟨p, vs, i, w', rfl, rfl, SqL.of (e2 _ _ h1), hat w' hw, q _ H2 (Ex.refl H2) rw2⟩
    · exact .inr (.inl ⟨p, vs, i, w', rfl, rfl, SqT.of (e2 _ _ (wo_ex _ _ _ _ h1)), hat w' hw, q _ H2 (Ex.refl H2) rw2⟩)
theorem ev_ixN {j : Nat} (ha : EvS T ta G ds) (hb : EvD T tb G (.int (j : Nat))) (hx : ds[j]? = some x) : EvD T (tOp (rIx T.K) ta tb) G x := ev_ix ha hb (atI_nat hx)
/-- an item of the script -/
theorem ev_ixScr {ns : List Int} {n : Int} (ha : EvD T ta G (.scr ns)) (hb : EvD T tb G (.int i)) (hx : atI ns i = some n) : EvD T (tOp (rIx T.K) ta tb) G (.int n) :=
  ev_two ha hb fun B ad H H1 H2 s u v I I2 e1 e2 r1 r2 Q q => by
    cases r2
    cases r1 with
    | scr h =>
      obtain ⟨j, hj, hat⟩ := atI_len (xs := ns.map V.int) (List.length_map _) hx
      exact .inl ⟨_, _, i, .int n, rfl, rfl, ex_l (Ex.trans (wo_ex _ _) e2) h, hat _ (by rw [List.getElem?_map, hj]; rfl), q _ H2 (Ex.refl H2) (.int n)⟩
theorem ev_in {ns : List Int} {n : Int} (ha : EvD T ta G (.int n)) (hb : EvS T tb G (ns.map .int)) : EvD T (tOp (rInX T.K) ta tb) G (.bl (decide (n ∈ ns))) :=
  ev_two ha hb fun B ad H H1 H2 s u v I I2 e1 e2 r1 r2 Q q => by
    cases r1
    obtain ⟨p, vs, rfl, h2, a2⟩ := r2
    have ev := a2.ints
    subst ev
    refine .inl ⟨p, _, rfl, ?_, rfl, flat_ints ns, ?_⟩
    · rcases h2 with h2 | h2
      · exact .inl (SqL.of h2)
      · exact .inr (SqT.of (wo_ex _ _ _ _ h2))
    · rw [inV_ints]
      exact q _ H2 (Ex.refl H2) (.bl _)
theorem ev_ni {ns : List Int} {n : Int} (ha : EvD T ta G (.int n)) (hb : EvS T tb G (ns.map .int)) : EvD T (tOp (rNiX T.K) ta tb) G (.bl (!decide (n ∈ ns))) :=
  ev_two ha hb fun B ad H H1 H2 s u v I I2 e1 e2 r1 r2 Q q => by
    cases r1
    obtain ⟨p, vs, rfl, h2, a2⟩ := r2
    have ev := a2.ints
    subst ev
    refine .inl ⟨p, _, rfl, ?_, rfl, flat_ints ns, ?_⟩
    · rcases h2 with h2 | h2
      · exact .inl (SqL.of h2)
      · exact .inr (SqT.of (wo_ex _ _ _ _ h2))
    · rw [inV_ints]
      exact q _ H2 (Ex.refl H2) (.bl _)
theorem ev_inLT {L : List (List Int)} {ns : List Int} (ha : EvD T ta G (dI ns)) (hb : EvD T tb G (lTI L)) : EvD T (tOp (rInX T.K) ta tb) G (.bl (decide (ns ∈ L))) :=
  ev_two ha hb fun B ad H H1 H2 s u v I I2 e1 e2 r1 r2 Q q => by
    refine .inr (.inl ⟨_, _, (r1.mono ((wo_ex _ _).trans e2)).pI, (r2.mono (wo_ex _ _)).lTI, shaped_pI _, shaped_lTI _, ?_⟩)
    rw [any_pI]
    exact q _ H2 (Ex.refl H2) (.bl _)
theorem ev_niTT {L : List (List Int)} {ns : List Int} (ha : EvD T ta G (dI ns)) (hb : EvD T tb G (dTI L)) : EvD T (tOp (rNiX T.K) ta tb) G (.bl (!decide (ns ∈ L))) :=
  ev_two ha hb fun B ad H H1 H2 s u v I I2 e1 e2 r1 r2 Q q => by
    refine .inr (.inr ⟨_, _, (r1.mono ((wo_ex _ _).trans e2)).pI, (r2.mono (wo_ex _ _)).dTI, shaped_pI _, shaped_tTI _, ?_⟩)
    rw [any_pI]
    exact q _ H2 (Ex.refl H2) (.bl _)
/-! equal -/
theorem dec_V {i j : Int} : decide (V.int i = V.int j) = decide (i = j) := by
  by_cases h : i = j
  · subst h; simp
  · have : ¬ V.int i = V.int j := fun e => h (V.int.inj e)
    simp [h, this]
theorem dec_VS {i j : Str} : decide (V.str i = V.str j) = decide (i = j) := by
  by_cases h : i = j
  · subst h; simp
  · have : ¬ V.str i = V.str j := fun e => h (V.str.inj e)
    simp [h, this]
theorem dec_VB {i j : Bool} : decide (V.bl i = V.bl j) = decide (i = j) := by
  by_cases h : i = j
  · subst h; simp
  · have : ¬ V.bl i = V.bl j := fun e => h (V.bl.inj e)
    simp [h, this]
theorem ev_eq (ha : EvD T ta G (.int i)) (hb : EvD T tb G (.int j)) : EvD T (tOp (rEqX T.K) ta tb) G (.bl (decide (i = j))) :=
  ev_two ha hb fun B ad H H1 H2 s u v I I2 e1 e2 r1 r2 Q q => by
    cases r1
    cases r2
    refine .inl ⟨rfl, ?_⟩
    rw [dec_V]
    exact q _ H2 (Ex.refl H2) (.bl _)
theorem ev_ne (ha : EvD T ta G (.int i)) (hb : EvD T tb G (.int j)) : EvD T (tOp (rNeX T.K) ta tb) G (.bl (!decide (i = j))) :=
  ev_two ha hb fun B ad H H1 H2 s u v I I2 e1 e2 r1 r2 Q q => by
    cases r1
    cases r2
    refine .inl ⟨rfl, ?_⟩
    rw [dec_V]
    exact q _ H2 (Ex.refl H2) (.bl _)
theorem ev_eqS {z z' : Str} (ha : EvD T ta G (.str z)) (hb : EvD T tb G (.str z')) : EvD T (tOp (rEqX T.K) ta tb) G (.bl (decide (z = z'))) :=
  ev_two ha hb fun B ad H H1 H2 s u v I I2 e1 e2 r1 r2 Q q => by
    cases r1
    cases r2
    refine .inl ⟨rfl, ?_⟩
    rw [dec_VS]
    exact q _ H2 (Ex.refl H2) (.bl _)
theorem ev_neB {b b' : Bool} (ha : EvD T ta G (.bl b)) (hb : EvD T tb G (.bl b')) : EvD T (tOp (rNeX T.K) ta tb) G (.bl (!decide (b = b'))) :=
  ev_two ha hb fun B ad H H1 H2 s u v I I2 e1 e2 r1 r2 Q q => by
    cases r1
    cases r2
    refine .inl ⟨rfl, ?_⟩
    rw [dec_VB]
    exact q _ H2 (Ex.refl H2) (.bl _)
theorem ev_eqT {ns ms : List Int} (ha : EvD T ta G (dI ns)) (hb : EvD T tb G (dI ms)) : EvD T (tOp (rEqX T.K) ta tb) G (.bl (decide (ns = ms))) :=
  ev_two ha hb fun B ad H H1 H2 s u v I I2 e1 e2 r1 r2 Q q => by
    refine .inr ⟨_, _, (r1.mono ((wo_ex _ _).trans e2)).pI, (r2.mono (wo_ex _ _)).pI, shaped_pI _, shaped_pI _, ?_⟩
    rw [eqv_pI]
    exact q _ H2 (Ex.refl H2) (.bl _)
theorem ev_neT {ns ms : List Int} (ha : EvD T ta G (dI ns)) (hb : EvD T tb G (dI ms)) : EvD T (tOp (rNeX T.K) ta tb) G (.bl (!decide (ns = ms))) :=
  ev_two ha hb fun B ad H H1 H2 s u v I I2 e1 e2 r1 r2 Q q => by
    refine .inr ⟨_, _, (r1.mono ((wo_ex _ _).trans e2)).pI, (r2.mono (wo_ex _ _)).pI, shaped_pI _, shaped_pI _, ?_⟩
    rw [eqv_pI]
    exact q _ H2 (Ex.refl H2) (.bl _)
theorem ev_eqL {ns ms : List Int} (ha : EvD T ta G (lI ns)) (hb : EvD T tb G (lI ms)) : EvD T (tOp (rEqX T.K) ta tb) G (.bl (decide (ns = ms))) :=
  ev_two ha hb fun B ad H H1 H2 s u v I I2 e1 e2 r1 r2 Q q => by
    refine .inr ⟨_, _, (r1.mono ((wo_ex _ _).trans e2)).lI, (r2.mono (wo_ex _ _)).lI, shaped_lI _, shaped_lI _, ?_⟩
    rw [eqv_lI]
    exact q _ H2 (Ex.refl H2) (.bl _)
theorem ev_neL {ns ms : List Int} (ha : EvD T ta G (lI ns)) (hb : EvD T tb G (lI ms)) : EvD T (tOp (rNeX T.K) ta tb) G (.bl (!decide (ns = ms))) :=
  ev_two ha hb fun B ad H H1 H2 s u v I I2 e1 e2 r1 r2 Q q => by
    refine .inr ⟨_, _, (r1.mono ((wo_ex _ _).trans e2)).lI, (r2.mono (wo_ex _ _)).lI, shaped_lI _, shaped_lI _, ?_⟩
    rw [eqv_lI]
    exact q _ H2 (Ex.refl H2) (.bl _)
theorem ev_neLT {L M : List (List Int)} (ha : EvD T ta G (lTI L)) (hb : EvD T tb G (lTI M)) : EvD T (tOp (rNeX T.K) ta tb) G (.bl (!decide (L = M))) :=
  ev_two ha hb fun B ad H H1 H2 s u v I I2 e1 e2 r1 r2 Q q => by
    refine .inr ⟨_, _, (r1.mono ((wo_ex _ _).trans e2)).lTI, (r2.mono (wo_ex _ _)).lTI, shaped_lTI _, shaped_lTI _, ?_⟩
    rw [eqv_lTI]
    exact q _ H2 (Ex.refl H2) (.bl _)
/-! argument lists, displays -/
theorem ea_nil : EvA T tNil G [] := fun B ad H s I Q q => q [] H (Ex.refl H) .nil
theorem ea_cons {tr : TA} (ha : EvD T ta G x) (hr : EvA T tr G ds) : EvA T (tCons ta tr) G (x :: ds) := fun B ad H s I Q q =>
  ha B ad H s I _ fun v H1 e1 r1 => hr B ad H1 s (I.mono e1) _ fun vs H2 e2 r2 => q _ H2 (e1.trans e2) (.cons (r1.mono (wo_mono e2)) r2)
theorem ev_tup {t : TA} (h : EvA T t G ds) (hz : ds.length ≤ 100000) : EvD T (tTup t) G (.tup ds) := fun B ad H s I Q q =>
  h B ad H s I _ fun vs H1 e1 r1 => ⟨sz_of (by rw [r1.length]; exact hz), fun p hp => q _ _ (e1.trans (Ex.new hp)) (.tup (by rw [wo_at ((I.mono e1).new hp)]; exact upd_same) (r1.mono (wo_mono (Ex.new hp))))⟩
theorem ex_but {H : Hp} {O : Addr → Prop} {p : Addr} {o : HO} (hp : H p = none) : Ex (wo H O) (wo (upd H p o) fun a => O a ∨ a = p) := fun a u h => by
  have hn : H a = some u := wo_ex _ _ _ _ h
  have ne : a ≠ p := ne_of_none hn hp
  have no : ¬ (O a ∨ a = p) := fun z => by
    rcases z with z | z
    · rw [wo_in z] at h; cases h
    · exact ne z
  rw [wo_at (O := fun a => O a ∨ a = p) no, upd_ne ne]
  exact hn
theorem en_lst {t : TA} (h : EvA T t G ds) (hz : ds.length ≤ 100000) : EvN T (tLst t) G ds := fun B ad H s I Q q =>
  h B ad H s I _ fun vs H1 e1 r1 => ⟨sz_of (by rw [r1.length]; exact hz), fun p hp => q _ _ (e1.trans (Ex.new hp)) ⟨p, vs, rfl, fresh_back e1 hp, upd_same, r1.mono (ex_but hp)⟩⟩
/-! len, tuple, list, int of one argument -/
theorem ev_len (h : EvS T te G ds) : EvD T (tCB (rLenX T.K) (tCons te tNil)) G (.int (ds.length : Nat)) := fun B ad H s I Q q =>
  h B ad H s I _ fun v H1 e1 ⟨p, vs, ev, h1, r1⟩ => by
    subst ev
    refine ⟨p, vs, rfl, ?_, ?_⟩
    · rcases h1 with h1 | h1
      · exact .inl (SqL.of h1)
      · exact .inr (SqT.of (wo_ex _ _ _ _ h1))
    · rw [r1.length]
      exact q _ H1 e1 (.int _)
theorem ev_lenScr {ns : List Int} (h : EvD T te G (.scr ns)) : EvD T (tCB (rLenX T.K) (tCons te tNil)) G (.int (ns.length : Nat)) := fun B ad H s I Q q =>
  h B ad H s I _ fun v H1 e1 r1 => by
    cases r1 with
    | scr h1 =>
      refine ⟨_, _, rfl, .inl (ex_l (wo_ex _ _) h1), ?_⟩
      rw [List.length_map]
      exact q _ H1 e1 (.int _)
theorem ev_tupOf (h : EvS T te G ds) : EvD T (tCB (rTupX T.K) (tCons te tNil)) G (.tup ds) := fun B ad H s I Q q =>
  h B ad H s I _ fun v H1 e1 ⟨p, vs, ev, h1, r1⟩ => by
    subst ev
    refine ⟨p, vs, rfl, ?_⟩
    rcases h1 with h1 | h1
    · exact .inl ⟨SqL.of h1, fun l hl => q _ _ (e1.trans (Ex.new hl)) (.tup (by rw [wo_at ((I.mono e1).new hl)]; exact upd_same) (r1.mono (wo_mono (Ex.new hl))))⟩
    · exact .inr ⟨SqT.of (wo_ex _ _ _ _ h1), q _ H1 e1 (.tup h1 r1)⟩
theorem en_lstOf (h : EvS T te G ds) : EvN T (tCB (rLstX T.K) (tCons te tNil)) G ds := fun B ad H s I Q q =>
  h B ad H s I _ fun v H1 e1 ⟨p, vs, ev, h1, r1⟩ => by
    subst ev
    refine ⟨p, vs, rfl, ?_, fun l hl => q _ _ (e1.trans (Ex.new hl)) ⟨l, vs, rfl, fresh_back e1 hl, upd_same, r1.mono (ex_but hl)⟩⟩
    rcases h1 with h1 | h1
    · exact .inl (SqL.of h1)
    · exact .inr (SqT.of (wo_ex _ _ _ _ h1))
theorem ev_intB {b : Bool} (h : EvD T te G (.bl b)) : EvD T (tCB rIntX (tCons te tNil)) G (.int (if b then 1 else 0)) := fun B ad H s I Q q =>
  h B ad H s I _ fun v H1 e1 r1 => by
    cases r1
    exact .inr ⟨b, rfl, q _ H1 e1 (.int _)⟩
/-! slices -/
def cutG {α : Type} (xs : List α) (lo hi : Option Int) : List α := (xs.drop (HT.sIx xs.length 0 lo)).take (HT.sIx xs.length xs.length hi - HT.sIx xs.length 0 lo)
theorem RpAll.cut {H : Hp} {vs : List V} (h : RpAll T H vs ds) (lo hi : Option Int) : RpAll T H (cutV vs lo hi) (cutG ds lo hi) := by
  unfold cutV cutG
  rw [h.length]
  exact (h.drop _).take _
theorem eo_none : EvO T tNoPart G none := fun B ad H s I Q q => q H (Ex.refl H)
theorem eo_some (h : EvD T te G (.int i)) : EvO T (tPart te) G (some i) := fun B ad H s I Q q => h B ad H s I _ fun v H1 e1 r1 => by
  cases r1
  exact ⟨i, rfl, q H1 e1⟩
theorem ev_slT {tl th : TO} {lo hi : Option Int} (h : EvD T te G (.tup ds)) (hl : EvO T tl G lo) (hh : EvO T th G hi) : EvD T (tSl (rSlX T.K) te tl th) G (.tup (cutG ds lo hi)) := fun B ad H s I Q q =>
  h B ad H s I _ fun v H1 e1 r1 => hl B ad H1 s (I.mono e1) _ fun H2 e2 => hh B ad H2 s (I.mono (e1.trans e2)) _ fun H3 e3 => by
    have r3 := r1.mono (wo_mono (e2.trans e3))
    cases r3 with
    | @tup p vs _ h3 a3 =>
      refine .inr ⟨_, _, rfl, SqT.of (wo_ex _ _ _ _ h3), fun e => ?_, fun e p hp => ?_⟩
      · have ec : cutG ds lo hi = ds := by
          unfold cutG
          rw [← a3.length, e.1, e.2, List.drop_zero, Nat.sub_zero, a3.length]
          exact List.take_length
        exact q _ H3 ((e1.trans e2).trans e3) (by rw [ec]; exact .tup h3 a3)
      · exact q _ _ (((e1.trans e2).trans e3).trans (Ex.new hp)) (.tup (by rw [wo_at ((I.mono ((e1.trans e2).trans e3)).new hp)]; exact upd_same) ((a3.cut lo hi).mono (wo_mono (Ex.new hp))))
theorem cut_tail {α : Type} (xs : List α) (k : Nat) : cutG xs (some (k : Int)) none = xs.drop k := by
  unfold cutG
  rw [HT.sIx_nat, HT.sIx_none]
  rcases Nat.le_total k xs.length with h | h
  · rw [Nat.min_eq_left h]
    exact List.take_of_length_le (by rw [List.length_drop]; exact Nat.le_refl _)
  · rw [Nat.min_eq_right h, List.drop_length, List.drop_of_length_le h, List.take_nil]
theorem cut_head {α : Type} (xs : List α) (k : Nat) : cutG xs none (some (k : Int)) = xs.take k := by
  unfold cutG
  rw [HT.sIx_nat, HT.sIx_none, List.drop_zero, Nat.sub_zero]
  rcases Nat.le_total k xs.length with h | h
  · rw [Nat.min_eq_left h]
  · rw [Nat.min_eq_right h, List.take_length, List.take_of_length_le h]
/-! tests -/
variable {t u : TT} {b c : Bool}
theorem et_test (h : EvD T te G (.bl b)) : EvT T (tTest te) G b := fun B ad H s I Q q => h B ad H s I _ fun v H1 e1 r1 => by
  cases r1
  exact ⟨b, rfl, q H1 e1⟩
theorem et_B (h : EvD T te G (.bl b)) : EvT T (tB te) G b := fun B ad H s I Q q => h B ad H s I _ fun v H1 e1 r1 => by
  cases r1
  exact ⟨b, rfl, q H1 e1⟩
theorem et_and (h1 : EvT T t G b) (h2 : b = true → EvT T u G c) : EvT T (tAnd t u) G (b && c) := fun B ad H s I Q q => h1 B ad H s I _ fun H1 e1 => by
  cases b with
  | true =>
    show u s H1 Q
    exact h2 rfl B ad H1 s (I.mono e1) Q fun H2 e2 => q H2 (e1.trans e2)
  | false =>
    show Q false H1
    exact q H1 e1
theorem et_or (h1 : EvT T t G b) (h2 : b = false → EvT T u G c) : EvT T (tOr t u) G (b || c) := fun B ad H s I Q q => h1 B ad H s I _ fun H1 e1 => by
  cases b with
  | true =>
    show Q true H1
    exact q H1 e1
  | false =>
    show u s H1 Q
    exact h2 rfl B ad H1 s (I.mono e1) Q fun H2 e2 => q H2 (e1.trans e2)
theorem et_not (h1 : EvT T t G b) : EvT T (tNot t) G (!b) := fun B ad H s I Q q => h1 B ad H s I _ fun H1 e1 => q H1 e1
theorem et_yes : EvT T tYes G true := fun B ad H s I Q q => q H (Ex.refl H)
end
end W3

namespace W3
open PySem PySem.Spec PyProof.Rows L2 Evl

/-! ### the slots change -/
section
variable {T : Tx} {B : Base} {ad : Nat → Addr} {H H2 : Hp} {s : L2.St} {G G' : List Sl}
theorem own_sub (h : ∀ (i : Nat) c, G'[i]? = some (.own c) → ∃ c', G[i]? = some (.own c')) : ∀ a, own B G' ad a → own B G ad a := fun a z => by
  rcases z with z | ⟨i, c, e, q⟩
  · exact .inl z
  · obtain ⟨c', e'⟩ := h i c e
    exact .inr ⟨i, c', e', q⟩
theorem set_get {α : Type} {l : List α} {i j : Nat} {a x : α} (h : (l.set i a)[j]? = some x) : (i = j ∧ x = a ∧ j < l.length) ∨ (i ≠ j ∧ l[j]? = some x) := by
  rw [List.getElem?_set] at h
  by_cases e : i = j
  · rw [if_pos e] at h
    split at h
    · cases h; exact .inl ⟨e, rfl, by omega⟩
    · cases h
  · rw [if_neg e] at h
    exact .inr ⟨e, h⟩
theorem own_set {i : Nat} {x : Dt} : ∀ a, own B (G.set i (.d x)) ad a → own B G ad a := own_sub fun j c h => by
  rcases set_get h with ⟨_, e, _⟩ | ⟨_, h⟩
  · cases e
  · exact ⟨c, h⟩
theorem EnvOk.setD {i : Nat} {v : V} {x : Dt} (I : EnvOk T B ad H s G) (r : Rp T (wo H (own B G ad)) v x) : EnvOk T B ad H (s.set i (some v)) (G.set i (.d x)) where
  ex := I.ex
  len := by rw [List.length_set, List.length_set]; exact I.len
  fo := I.fo
  d := fun j y h => by
    rcases set_get h with ⟨e, e2, hl⟩ | ⟨e, h⟩
    · cases e2
      subst e
      refine ⟨v, ?_, r.mono (wo_sub own_set)⟩
      rw [List.getElem?_set_self (by rw [I.len]; exact hl)]
    · obtain ⟨u, h1, h2⟩ := I.d j y h
      exact ⟨u, by rw [List.getElem?_set_ne e]; exact h1, h2.mono (wo_sub own_set)⟩
  ow := fun j c h => by
    rcases set_get h with ⟨e, e2, hl⟩ | ⟨e, h⟩
    · cases e2
    · obtain ⟨h1, h2, h3, h4⟩ := I.ow j c h
      exact ⟨by rw [List.getElem?_set_ne e]; exact h1, h2, h3, h4.mono (wo_sub own_set)⟩
  inj := fun j k c c' h h' e => by
    rcases set_get h with ⟨_, e2, _⟩ | ⟨_, h⟩
    · cases e2
    · rcases set_get h' with ⟨_, e2, _⟩ | ⟨_, h'⟩
      · cases e2
      · exact I.inj j k c c' h h' e
def adW (ad : Nat → Addr) (i : Nat) (p : Addr) : Nat → Addr := fun j => if j = i then p else ad j
theorem adW_at {i : Nat} {p : Addr} : adW ad i p i = p := by unfold adW; rw [if_pos rfl]
theorem adW_ne {i j : Nat} {p : Addr} (h : i ≠ j) : adW ad i p j = ad j := by unfold adW; rw [if_neg fun z => h z.symm]
/-- a new cell at p goes into slot i -/
theorem EnvOk.setN {i : Nat} {p : Addr} {c : Cell} (I : EnvOk T B ad H s G) (e : Ex H H2) (hp : H p = none) (hi : i < G.length) (hc : CellOk T (wo H2 fun a => own B G ad a ∨ a = p) (H2 p) c) :
    EnvOk T B (adW ad i p) H2 (s.set i (some (.ref p))) (G.set i (.own c)) := by
  have sub : ∀ a, own B (G.set i (.own c)) (adW ad i p) a → own B G ad a ∨ a = p := fun a z => by
    rcases z with z | ⟨j, c', h, q⟩
    · exact .inl (.inl z)
    · rcases set_get h with ⟨e1, e2, hl⟩ | ⟨e1, h⟩
      · subst e1
        rw [adW_at] at q
        exact .inr q.symm
      · rw [adW_ne e1] at q
        exact .inl (.inr ⟨j, c', h, q⟩)
  have ex1 : Ex (wo H (own B G ad)) (wo H2 (own B (G.set i (.own c)) (adW ad i p))) := fun a o h => by
    have hn : H a = some o := wo_ex _ _ _ _ h
    have ne : a ≠ p := ne_of_none hn hp
    rw [wo_at fun z => by
      rcases sub a z with z | z
      · rw [wo_in z] at h; cases h
      · exact ne z]
    exact e a o hn
  have J := I.mono e
  refine ⟨J.ex, by rw [List.length_set, List.length_set]; exact I.len, J.fo, fun j y h => ?_, fun j c' h => ?_, fun j k c1 c2 h h' q => ?_⟩
  · rcases set_get h with ⟨_, e2, _⟩ | ⟨e1, h⟩
    · cases e2
    · obtain ⟨u, h1, h2⟩ := I.d j y h
      exact ⟨u, by rw [List.getElem?_set_ne e1]; exact h1, h2.mono ex1⟩
  · rcases set_get h with ⟨e1, e2, hl⟩ | ⟨e1, h⟩
    · cases e2
      subst e1
      rw [adW_at]
      refine ⟨by rw [List.getElem?_set_self (by rw [I.len]; exact hl)], fresh_back I.ex hp, fun z => (I.fo p z).1 hp, hc.mono (wo_sub sub)⟩
    · obtain ⟨h1, h2, h3, h4⟩ := I.ow j c' h
      rw [adW_ne e1]
      obtain ⟨u, hu⟩ := h4.some
      refine ⟨by rw [List.getElem?_set_ne e1]; exact h1, h2, h3, ?_⟩
      rw [e _ u hu]
      rw [hu] at h4
      exact h4.mono ex1
  · have key : ∀ (m : Nat) (c3 : Cell), G[m]? = some (.own c3) → ad m ≠ p := fun m c3 h z => by
      obtain ⟨_, _, _, h4⟩ := I.ow m c3 h
      obtain ⟨u, hu⟩ := h4.some
      rw [z, hp] at hu
      cases hu
    rcases set_get h with ⟨e1, _, _⟩ | ⟨e1, h⟩
    · rcases set_get h' with ⟨e2, _, _⟩ | ⟨e2, h'⟩
      · exact e1.symm.trans e2
      · rw [← e1, adW_at, adW_ne e2] at q
        exact absurd q.symm (key k c2 h')
    · rcases set_get h' with ⟨e2, _, _⟩ | ⟨e2, h'⟩
      · rw [adW_ne e1, ← e2, adW_at] at q
        exact absurd q (key j c1 h)
      · rw [adW_ne e1, adW_ne e2] at q
        exact I.inj j k c1 c2 h h' q
/-- the cell of slot i is written -/
theorem EnvOk.put {i : Nat} {c c' : Cell} {o : HO} (I : EnvOk T B ad H s G) (h : G[i]? = some (.own c)) (hc : CellOk T (wo H (own B G ad)) (some o) c') : EnvOk T B ad (upd H (ad i) o) s (G.set i (.own c')) := by
  have eo : own B (G.set i (.own c')) ad = own B G ad := by
    funext a
    refine propext ⟨fun z => ?_, fun z => ?_⟩
    · rcases z with z | ⟨j, c1, h1, q⟩
      · exact .inl z
      · rcases set_get h1 with ⟨e1, _, _⟩ | ⟨_, h1⟩
        · subst e1
          exact .inr ⟨i, c, h, q⟩
        · exact .inr ⟨j, c1, h1, q⟩
    · rcases z with z | ⟨j, c1, h1, q⟩
      · exact .inl z
      · by_cases e : i = j
        · subst e
          exact .inr ⟨i, c', by rw [List.getElem?_set_self (List.getElem?_eq_some_iff.mp h).1], q⟩
        · exact .inr ⟨j, c1, by rw [List.getElem?_set_ne e]; exact h1, q⟩
  have hp : own B G ad (ad i) := .inr ⟨i, c, h, rfl⟩
  have ew : wo (upd H (ad i) o) (own B (G.set i (.own c')) ad) = wo H (own B G ad) := by rw [eo, wo_upd hp]
  obtain ⟨g1, g2, g3, g4⟩ := I.ow i c h
  refine ⟨fun a u hu => ?_, by rw [List.length_set]; exact I.len, fun a z => ?_, fun j y hy => ?_, fun j c1 hj => ?_, fun j k c1 c2 h1 h2 q => ?_⟩
  · have ne : a ≠ ad i := fun z => by rw [z, g2] at hu; cases hu
    rw [upd_ne ne]
    exact I.ex a u hu
  · have ne : a ≠ ad i := fun q => g3 (q ▸ z)
    rw [upd_ne ne]
    exact I.fo a z
  · rcases set_get hy with ⟨_, e2, _⟩ | ⟨e1, hy⟩
    · cases e2
    · obtain ⟨u, h1, h2⟩ := I.d j y hy
      exact ⟨u, h1, by rw [ew]; exact h2⟩
  · rw [ew]
    rcases set_get hj with ⟨e1, e2, _⟩ | ⟨e1, hj⟩
    · cases e2
      subst e1
      exact ⟨g1, g2, g3, by rw [upd_same]; exact hc⟩
    · obtain ⟨h1, h2, h3, h4⟩ := I.ow j c1 hj
      have ne : ad j ≠ ad i := fun z => e1 (I.inj j i c1 c hj h z).symm
      exact ⟨h1, h2, h3, by rw [upd_ne ne]; exact h4⟩
  · have old : ∀ (m : Nat) (c3 : Cell), (G.set i (.own c'))[m]? = some (.own c3) → ∃ c4, G[m]? = some (.own c4) := fun m c3 hm => by
      rcases set_get hm with ⟨e1, _, _⟩ | ⟨_, hm⟩
      · subst e1; exact ⟨c, h⟩
      · exact ⟨c3, hm⟩
    obtain ⟨_, h1⟩ := old j c1 h1
    obtain ⟨_, h2⟩ := old k c2 h2
    exact I.inj j k _ _ h1 h2 q
def Cell.dt' : Cell → Dt
  | .lst ds => .lst ds
  | .dt kvs => .du kvs
  | .dk kvs => .dk kvs
  | .ob _ _ => .non
def Cell.fr : Cell → Bool
  | .ob _ _ => false
  | _ => true
inductive Wk1 : Sl → Sl → Prop
  | rfl (x : Sl) : Wk1 x x
  | un (x : Sl) : Wk1 x .un
  | fz (c : Cell) (h : c.fr = true := by rfl) : Wk1 (.own c) (.d c.dt')
  | lk (kvs : List (List Int × Int)) : Wk1 (.d (.du kvs)) (.d (.dt kvs))
/-- G' tells less than G -/
inductive Wk : List Sl → List Sl → Prop
  | nil : Wk [] []
  | cons {a b : Sl} {as bs : List Sl} : Wk1 a b → Wk as bs → Wk (a :: as) (b :: bs)
theorem Wk.refl : ∀ G : List Sl, Wk G G
  | [] => .nil
  | a :: as => .cons (.rfl a) (Wk.refl as)
theorem Wk.length : ∀ {G G' : List Sl}, Wk G G' → G.length = G'.length
  | _, _, .nil => rfl
  | _, _, .cons _ t => congrArg Nat.succ (Wk.length t)
theorem Wk.get : ∀ {G G' : List Sl} {i : Nat} {x : Sl}, Wk G G' → G'[i]? = some x → ∃ y, G[i]? = some y ∧ Wk1 y x
  | _, _, _, _, .nil, e => by simp at e
  | _, _, 0, _, .cons r _, e => by simp at e; subst e; exact ⟨_, rfl, r⟩
  | _, _, i + 1, x, .cons _ t, e => by
    obtain ⟨v, h1, h2⟩ := Wk.get (i := i) (x := x) t (by simpa using e)
    exact ⟨v, by simpa using h1, h2⟩
theorem EnvOk.wk (I : EnvOk T B ad H s G) (w : Wk G G') : EnvOk T B ad H s G' := by
  have oo : ∀ (i : Nat) c, G'[i]? = some (.own c) → G[i]? = some (.own c) := fun i c h => by
    obtain ⟨y, h1, h2⟩ := w.get h
    cases h2
    exact h1
  have sub : ∀ a, own B G' ad a → own B G ad a := own_sub fun i c h => ⟨c, oo i c h⟩
  refine ⟨I.ex, I.len.trans w.length, I.fo, fun i x h => ?_, fun i c h => ?_, fun i j c c' h h' => I.inj i j c c' (oo i c h) (oo j c' h')⟩
  · obtain ⟨y, h1, h2⟩ := w.get h
    cases h2 with
    | rfl =>
      obtain ⟨v, e, r⟩ := I.d i x h1
      exact ⟨v, e, r.mono (wo_sub sub)⟩
    | lk kvs =>
      obtain ⟨v, e, r⟩ := I.d i _ h1
      have r2 := r.mono (wo_sub sub)
      refine ⟨v, e, ?_⟩
      cases r2 with
      | du hq => exact .dt (.inl hq)
    | fz c hc =>
      obtain ⟨e, e2, e3, e4⟩ := I.ow i c h1
      have n : ¬ own B G' ad (ad i) := fun z => by
        rcases z with z | ⟨j, c', hj, q⟩
        · exact e3 z
        · have ej := I.inj j i c' c (oo j c' hj) h1 q
          subst ej
          rw [h] at hj
          cases hj
      refine ⟨_, e, ?_⟩
      have e5 := e4.mono (wo_sub sub)
      cases c with
      | lst ds =>
        obtain ⟨vs, hv, r⟩ := e5
        exact .lst (by rw [wo_at n]; exact hv) r
      | dt kvs => exact .du (by rw [wo_at n]; exact e4)
      | ob dx fs => exact nomatch hc
      | dk kvs => exact .dk (.inl (by rw [wo_at n]; exact e4))
  · obtain ⟨h1, h2, h3, h4⟩ := I.ow i c (oo i c h)
    exact ⟨h1, h2, h3, h4.mono (wo_sub sub)⟩
/-! the entry made anew: what is data now stands as it is -/
def mine (G : List Sl) (ad : Nat → Addr) : Addr → Prop := fun a => ∃ i c, G[i]? = some (.own c) ∧ ad i = a
noncomputable def Base.at (B : Base) (H : Hp) (G : List Sl) (ad : Nat → Addr) : Base := ⟨wo H (mine G ad), B.O⟩
theorem at_own : own (B.at H G ad) G' = own B G' := rfl
theorem at_wo : wo (B.at H G ad).Hb (B.at H G ad).O = wo H (own B G ad) := by
  funext a
  show wo (wo H (mine G ad)) B.O a = wo H (own B G ad) a
  by_cases h1 : B.O a
  · rw [wo_in h1, wo_in (show own B G ad a from .inl h1)]
  · rw [wo_at h1]
    by_cases h2 : mine G ad a
    · rw [wo_in h2, wo_in (show own B G ad a from .inr h2)]
    · rw [wo_at h2, wo_at fun z => ?_]
      rcases z with z | z
      · exact h1 z
      · exact h2 z
theorem EnvOk.rebase (I : EnvOk T B ad H s G) : EnvOk T (B.at H G ad) ad H s G :=
  ⟨wo_ex _ _, I.len, I.fo, I.d, fun i c h => let ⟨h1, h2, h3, h4⟩ := I.ow i c h; ⟨h1, wo_in ⟨i, c, h, rfl⟩, h3, h4⟩, I.inj⟩
theorem EnvOk.baseEx (I : EnvOk T B ad H s G) : Ex B.Hb (B.at H G ad).Hb := fun a o h => by
  show wo H (mine G ad) a = some o
  rw [wo_at fun ⟨i, c, e, q⟩ => by
    obtain ⟨_, h2, _⟩ := I.ow i c e
    rw [← q, h2] at h
    cases h]
  exact I.ex a o h
theorem EnvOk.unbase {B1 : Base} (I : EnvOk T B1 ad H s G) (e : Ex B.Hb B1.Hb) (eo : B1.O = B.O) : EnvOk T B ad H s G := by
  have ew : own B1 G ad = own B G ad := by unfold own; rw [eo]
  exact ⟨e.trans I.ex, I.len, fun a z => I.fo a (by rw [eo]; exact z), fun i x h => by rw [← ew]; exact I.d i x h, fun i c h => by
    obtain ⟨h1, h2, h3, h4⟩ := I.ow i c h
    exact ⟨h1, fresh_back e h2, by rw [← eo]; exact h3, by rw [← ew]; exact h4⟩, I.inj⟩
/-- what stood as data at the entry is data -/
theorem EnvOk.dataEx (I : EnvOk T B ad H s G) : Ex (wo B.Hb B.O) (wo H (own B G ad)) := fun a o h => by
  have hb : B.Hb a = some o := wo_ex _ _ _ _ h
  rw [wo_at fun z => by
    rcases z with z | ⟨i, c, e, q⟩
    · rw [wo_in z] at h; cases h
    · obtain ⟨_, h2, _⟩ := I.ow i c e
      rw [← q, h2] at hb
      cases hb]
  exact I.ex a o hb
end

/-! ### statements -/
structure Post where
  nx : List Sl → Prop
  rt : Dt → Prop
  bk : List Sl → Prop
  ct : List Sl → Prop
def SG (T : Tx) (t : TS) (G : List Sl) (P : Post) : Prop :=
  ∀ (B : Base) (ad : Nat → Addr) (H : Hp) (s : L2.St) (D : Ends), EnvOk T B ad H s G →
    (∀ G' ad' H' s', EnvOk T B ad' H' s' G' → P.nx G' → D.nx s' H') → (∀ v H' x, Ex B.Hb H' → Rp T (wo H' B.O) v x → P.rt x → D.rt v H') →
    (∀ G' ad' H' s', EnvOk T B ad' H' s' G' → P.bk G' → D.bk s' H') → (∀ G' ad' H' s', EnvOk T B ad' H' s' G' → P.ct G' → D.ct s' H') → t D s H
/-- a target takes x -/
def Bd (T : Tx) (g : TG) (js : List Nat) (x : Dt) (G G' : List Sl) : Prop :=
  ∀ (B : Base) (ad : Nat → Addr) (H : Hp) (s : L2.St) (v : V), EnvOk T B ad H s G → Rp T (wo H (own B G ad)) v x → ∀ Q : L2.St → Hp → Prop,
    (∀ s', EnvOk T B ad H s' G' → (∀ i, i ∉ js → s'[i]? = s[i]?) → s'.length = s.length → Q s' H) → g v s H Q
def BdL (T : Tx) (g : TGs) (js : List Nat) (xs : List Dt) (G G' : List Sl) : Prop :=
  ∀ (B : Base) (ad : Nat → Addr) (H : Hp) (s : L2.St) (vs : List V), EnvOk T B ad H s G → RpAll T (wo H (own B G ad)) vs xs → ∀ Q : L2.St → Hp → Prop,
    (∀ s', EnvOk T B ad H s' G' → (∀ i, i ∉ js → s'[i]? = s[i]?) → s'.length = s.length → Q s' H) → g vs s H Q
section
variable {T : Tx} {G G' G0 : List Sl} {te ta tb : TE} {x y : Dt} {ds : List Dt} {t u w : TS} {P : Post} {c : TT} {b : Bool}
theorem sg_wk (h : Wk G G') (k : SG T t G' P) : SG T t G P := fun B ad H s D I => k B ad H s D (I.wk h)
theorem sg_seq (M : List Sl → Prop) (h : SG T t G { P with nx := M }) (k : ∀ G', M G' → SG T u G' P) : SG T (tSeq t u) G P := fun B ad H s D I nx rt bk ct =>
  h B ad H s { D with nx := u D } I (fun G' ad' H' s' I' m => k G' m B ad' H' s' D I' nx rt bk ct) rt bk ct
theorem sg_next (h : P.nx G) : SG T tNext G P := fun B ad H s D I nx rt bk ct => nx G ad H s I h
theorem sg_never (h : False) : SG T t G P := h.elim
theorem sg_ret (h : EvD T te G x) (k : P.rt x) : SG T (tRet te) G P := fun B ad H s D I nx rt bk ct =>
  h B ad H s I _ fun v H1 e r => rt v H1 x (I.ex.trans e) (r.mono (wo_sub fun a z => .inl z)) k
theorem sg_retP {F : Dt → Prop} (h : EvP T te G F) (k : ∀ x, F x → P.rt x) : SG T (tRet te) G P := fun B ad H s D I nx rt bk ct =>
  h B ad H s I _ fun v H1 e ⟨x, hx, r⟩ => rt v H1 x (I.ex.trans e) (r.mono (wo_sub fun a z => .inl z)) (k x hx)
theorem sg_retN (k : P.rt .non) : SG T tRetN G P := fun B ad H s D I nx rt bk ct => rt .non H .non I.ex .non k
theorem sg_brk (k : P.bk G) : SG T tBreak G P := fun B ad H s D I nx rt bk ct => bk G ad H s I k
theorem sg_cont (k : P.ct G) : SG T tCont G P := fun B ad H s D I nx rt bk ct => ct G ad H s I k
theorem bd_name {i : Nat} : Bd T (gName i) [i] x G (G.set i (.d x)) := fun B ad H s v I r Q q =>
  q _ (I.setD r) (fun j hj => by
    have e : i ≠ j := fun e => hj (by simp [e])
    rw [List.getElem?_set_ne e]) (List.length_set ..)
theorem bdl_nil : BdL T gNil [] [] G G := fun B ad H s vs I r Q q => by
  cases r
  exact ⟨rfl, q s I (fun _ _ => rfl) rfl⟩
theorem bdl_cons {g : TG} {gs : TGs} {j1 j2 : List Nat} {xs : List Dt} {G1 : List Sl} (h1 : Bd T g j1 x G G1) (hs : ∀ B ad a, own B G1 ad a → own B G ad a) (h2 : BdL T gs j2 xs G1 G') : BdL T (gCons g gs) (j1 ++ j2) (x :: xs) G G' := fun B ad H s vs I r Q q => by
  cases r with
  | cons r1 r2 => exact ⟨_, _, rfl, h1 B ad H s _ I r1 _ fun s1 I1 k1 l1 => h2 B ad H s1 _ I1 (r2.mono (wo_sub (hs B ad))) _ fun s2 I2 k2 l2 =>
      q s2 I2 (fun i hi => by rw [k2 i fun z => hi (List.mem_append_right _ z), k1 i fun z => hi (List.mem_append_left _ z)]) (l2.trans l1)⟩
theorem bdl_name {i : Nat} {gs : TGs} {j2 : List Nat} {xs : List Dt} (h2 : BdL T gs j2 xs (G.set i (.d x)) G') : BdL T (gCons (gName i) gs) (i :: j2) (x :: xs) G G' :=
  bdl_cons (j1 := [i]) bd_name (fun B ad => own_set) h2
theorem bd_tup {gs : TGs} {js : List Nat} {xs : List Dt} {n : Nat} (h : BdL T gs js xs G G') (hn : xs.length = n) : Bd T (gTup T.K n gs) js (.tup xs) G G' := fun B ad H s v I r Q q => by
  cases r with
  | tup h1 a1 => exact ⟨_, _, rfl, SqT.of (wo_ex _ _ _ _ h1), a1.length.trans hn, h B ad H s _ I a1 Q q⟩
theorem bd_two {i j : Nat} : Bd T (gTup T.K 2 (gCons (gName i) (gCons (gName j) gNil))) [i, j] (.tup [x, y]) G ((G.set i (.d x)).set j (.d y)) := bd_tup (bdl_name (bdl_name bdl_nil)) rfl
theorem sg_asgB {g : TG} {js : List Nat} (h : EvD T te G x) (hg : Bd T g js x G G') (k : P.nx G') : SG T (tAsg te g) G P := fun B ad H s D I nx rt bk ct =>
  h B ad H s I _ fun v H1 e r => hg B ad H1 s v (I.mono e) r _ fun s' I' _ _ => nx G' ad H1 s' I' k
theorem sg_asgP {F : Dt → Prop} {i : Nat} (h : EvP T te G F) (k : ∀ x, F x → P.nx (G.set i (.d x))) : SG T (tAsg te (gName i)) G P := fun B ad H s D I nx rt bk ct =>
  h B ad H s I _ fun v H1 e ⟨x, hx, r⟩ => nx _ ad H1 _ ((I.mono e).setD r) (k x hx)
theorem sg_asgN {i : Nat} (h : EvN T te G ds) (hi : i < G.length) (k : P.nx (G.set i (.own (.lst ds)))) : SG T (tAsg te (gName i)) G P := fun B ad H s D I nx rt bk ct =>
  h B ad H s I _ fun v H1 e ⟨p, vs, ev, hp, h1, r⟩ => by
    subst ev
    exact nx _ _ H1 _ (I.setN e hp hi (c := .lst ds) ⟨vs, h1, r⟩) k
theorem sq_asg {i : Nat} (h : EvD T te G x) (k : SG T u (G.set i (.d x)) P) : SG T (tSeq (tAsg te (gName i)) u) G P := sg_seq (fun G' => G' = G.set i (.d x)) (sg_asgB h bd_name rfl) fun G' e => e ▸ k
theorem sq_asgB {g : TG} {js : List Nat} (h : EvD T te G x) (hg : Bd T g js x G G') (k : SG T u G' P) : SG T (tSeq (tAsg te g) u) G P := sg_seq (fun G1 => G1 = G') (sg_asgB h hg rfl) fun G1 e => e ▸ k
theorem sq_asgP {F : Dt → Prop} {i : Nat} (h : EvP T te G F) (k : ∀ x, F x → SG T u (G.set i (.d x)) P) : SG T (tSeq (tAsg te (gName i)) u) G P :=
  sg_seq (fun G' => ∃ x, F x ∧ G' = G.set i (.d x)) (sg_asgP h fun x hx => ⟨x, hx, rfl⟩) fun G' ⟨x, hx, e⟩ => e ▸ k x hx
theorem sq_asgN {i : Nat} (h : EvN T te G ds) (hi : i < G.length) (k : SG T u (G.set i (.own (.lst ds))) P) : SG T (tSeq (tAsg te (gName i)) u) G P := sg_seq (fun G' => G' = G.set i (.own (.lst ds))) (sg_asgN h hi rfl) fun G' e => e ▸ k
/-- a, b = x, y -/
theorem sg_par {i j : Nat} {t2 : TA} (h : EvA T t2 G [x, y]) (k : P.nx ((G.set i (.d x)).set j (.d y))) : SG T (tPar i j t2) G P := fun B ad H s D I nx rt bk ct =>
  h B ad H s I _ fun vs H1 e r => by
    cases r with
    | cons r1 r =>
      cases r with
      | cons r2 r =>
        cases r
        have J := I.mono e
        exact ⟨_, _, rfl, nx _ ad H1 _ ((J.setD r1).setD (r2.mono (wo_sub own_set))) k⟩
theorem sq_par {i j : Nat} {t2 : TA} (h : EvA T t2 G [x, y]) (k : SG T u ((G.set i (.d x)).set j (.d y)) P) : SG T (tSeq (tPar i j t2) u) G P := sg_seq (fun G' => G' = (G.set i (.d x)).set j (.d y)) (sg_par h rfl) fun G' e => e ▸ k
theorem sg_if (h : EvT T c G b) (h1 : b = true → SG T t G P) (h2 : b = false → SG T w G P) : SG T (tIfS c t w) G P := fun B ad H s D I nx rt bk ct =>
  h B ad H s I _ fun H1 e => by
    cases b with
    | true =>
      show t D s H1
      exact h1 rfl B ad H1 s D (I.mono e) nx rt bk ct
    | false =>
      show w D s H1
      exact h2 rfl B ad H1 s D (I.mono e) nx rt bk ct
theorem sq_guard (h : EvT T c G b) (h1 : b = true → SG T t G { P with nx := fun _ => False }) (h2 : b = false → SG T u G P) : SG T (tSeq (tIfS c t tNext) u) G P :=
  sg_seq (fun G' => b = false ∧ G' = G) (sg_if h (fun e B ad H s D I nx rt bk ct => h1 e B ad H s D I (fun _ _ _ _ _ z => z.elim) rt bk ct) fun e => sg_next ⟨e, rfl⟩) fun G' ⟨e, e2⟩ => e2 ▸ h2 e
theorem sq_when (M : List Sl → Prop) (h : EvT T c G b) (h1 : b = true → SG T t G { P with nx := M }) (h2 : b = false → M G) (k : ∀ G', M G' → SG T u G' P) : SG T (tSeq (tIfS c t tNext) u) G P :=
  sg_seq M (sg_if h h1 fun e => sg_next (h2 e)) k
theorem sq_ife (M : List Sl → Prop) (h : EvT T c G b) (h1 : b = true → SG T t G { P with nx := M }) (h2 : b = false → SG T w G { P with nx := M }) (k : ∀ G', M G' → SG T u G' P) : SG T (tSeq (tIfS c t w) u) G P :=
  sg_seq M (sg_if h h1 h2) k
/-- x = e where c holds, as it stands else -/
theorem sq_set {i : Nat} (h : EvT T c G b) (h1 : b = true → EvD T te G x) (h2 : b = false → G[i]? = some (.d x)) (k : SG T u (G.set i (.d x)) P) : SG T (tSeq (tIfS c (tAsg te (gName i)) tNext) u) G P :=
  sq_when (fun G' => G' = G.set i (.d x)) h (fun e => sg_asgB (h1 e) bd_name rfl) (fun e => by
    have z := h2 e
    obtain ⟨hl, hg⟩ := List.getElem?_eq_some_iff.mp z
    rw [← hg, List.set_getElem_self]) fun G' e => e ▸ k
/-- xs.append(e) -/
theorem sg_app {i : Nat} (hi : G[i]? = some (.own (.lst ds))) (h : EvD T te G x) (hz : ds.length < 100000) (k : P.nx (G.set i (.own (.lst (ds ++ [x]))))) : SG T (tDrop (tBM T.K "list" rAppend (tVar i) (tCons te tNil))) G P := fun B ad H s D I nx rt bk ct => by
  obtain ⟨e, g2, g3, vs, g4, g5⟩ := I.ow i _ hi
  refine ⟨_, e, .inl ⟨rfl, vs, SqL.of g4⟩, h B ad H s I _ fun v H1 e1 r => ⟨ad i, vs, v, rfl, rfl, e1 _ _ g4, sz_lt (by rw [g5.length]; exact hz), ?_⟩⟩
  exact nx _ ad _ s ((I.mono e1).put hi (c' := .lst (ds ++ [x])) ⟨_, rfl, (g5.mono (wo_mono e1)).append (.cons r .nil)⟩) k
theorem sq_app {i : Nat} (hi : G[i]? = some (.own (.lst ds))) (h : EvD T te G x) (hz : ds.length < 100000) (k : SG T u (G.set i (.own (.lst (ds ++ [x])))) P) : SG T (tSeq (tDrop (tBM T.K "list" rAppend (tVar i) (tCons te tNil))) u) G P :=
  sg_seq (fun G' => G' = G.set i (.own (.lst (ds ++ [x])))) (sg_app hi h hz rfl) fun G' e => e ▸ k
theorem sq_drop (h : EvD T te G x) (k : SG T u G P) : SG T (tSeq (tDrop te) u) G P := fun B ad H s D I nx rt bk ct => h B ad H s I _ fun v H1 e r => k B ad H1 s D (I.mono e) nx rt bk ct
theorem sg_drop (h : EvD T te G x) (k : P.nx G) : SG T (tDrop te) G P := fun B ad H s D I nx rt bk ct => h B ad H s I _ fun v H1 e r => nx G ad H1 s (I.mono e) k
end

/-! ### what is walked -/
def WkOk (T : Tx) (B1 : Base) (J : It) (xs : List Dt) : Prop :=
  Walk J xs.length (fun H' => Ex B1.Hb H') fun i H' v H'' => Ex H' H'' ∧ ∃ x, xs[i]? = some x ∧ ∀ O : Addr → Prop, Ex (wo B1.Hb B1.O) (wo H' O) → (∀ a, O a → Mu (H' a)) → Rp T (wo H'' O) v x
def EvI (T : Tx) (wi : TI) (G : List Sl) (xs : List Dt) : Prop :=
  ∀ (B : Base) (ad : Nat → Addr) (H : Hp) (s : L2.St), EnvOk T B ad H s G → ∀ R : It → Hp → Prop, (∀ J H1, Ex H H1 → WkOk T (B.at H1 G ad) J xs → R J H1) → wi s H R
section
variable {T : Tx} {G G' G0 : List Sl} {te ta tb : TE} {x y : Dt} {ds : List Dt} {xs : List Dt}
theorem EvI.as {wi : TI} {es : List Dt} (h : EvI T wi G ds) (e : ds = es) : EvI T wi G es := e ▸ h
theorem ei_lst (h : EvD T te G (.lst ds)) : EvI T (iSeq T.K te) G ds := fun B ad H s I R q => .inl (h B ad H s I _ fun v H1 e r => by
  have J := I.mono e
  have r : Rp T (wo H1 (own B G ad)) v _ := r
  rw [← at_wo] at r
  cases r with
  | @lst pa vs _ h1 a1 =>
    have h2 := wo_ex _ _ _ _ h1
    refine ⟨_, rfl, ⟨_, SqL.of (J.rebase.ex _ _ h2)⟩, q _ H1 e ?_⟩
    have w := walk_list (K := T.K) (a := pa) (xs := vs)
    rw [WkOk, ← a1.length]
    exact w.mono (fun H' e' => SqL.of (e' _ _ h2)) fun i H' v H'' hi hG ⟨e1, e2⟩ => by
      subst e1
      obtain ⟨z, z1, z2⟩ := a1.getV e2
      exact ⟨Ex.refl _, z, z1, fun O ho _ => z2.mono ho⟩)
theorem ei_tup (h : EvD T te G (.tup ds)) : EvI T (iSeq T.K te) G ds := fun B ad H s I R q => .inr (h B ad H s I _ fun v H1 e r => by
  have J := I.mono e
  have r : Rp T (wo H1 (own B G ad)) v _ := r
  rw [← at_wo] at r
  cases r with
  | @tup pa vs _ h1 a1 =>
    have h2 := wo_ex _ _ _ _ h1
    refine ⟨_, rfl, ⟨_, SqT.of (J.rebase.ex _ _ h2)⟩, q _ H1 e ?_⟩
    have w := walk_tup (K := T.K) (a := pa) (xs := vs)
    rw [WkOk, ← a1.length]
    exact w.mono (fun H' e' => SqT.of (e' _ _ h2)) fun i H' v H'' hi hG ⟨e1, e2⟩ => by
      subst e1
      obtain ⟨z, z1, z2⟩ := a1.getV e2
      exact ⟨Ex.refl _, z, z1, fun O ho _ => z2.mono ho⟩)
def rgD (n : Nat) : List Dt := (List.range n).map fun i => .int (i : Nat)
theorem rgD_len (n : Nat) : (rgD n).length = n := by unfold rgD; rw [List.length_map, List.length_range]
theorem rgD_get {n i : Nat} (h : i < n) : (rgD n)[i]? = some (.int (i : Nat)) := by
  unfold rgD
  rw [List.getElem?_map, List.getElem?_range h]
  rfl
theorem ei_rng {t1 : TA} {n : Int} (h : EvA T t1 G [.int n]) (h1 : -100000 ≤ n) (h2 : n ≤ 100000) : EvI T (iRng1 t1) G (rgD n.toNat) := fun B ad H s I R q => h B ad H s I _ fun vs H1 e r => by
  cases r with
  | cons r1 r =>
    cases r
    cases r1
    refine ⟨n, rfl, by omega, by omega, q _ H1 e ?_⟩
    have w := walk_range (lo := 0) (n := n.toNat)
    rw [WkOk, rgD_len]
    exact w.mono (fun _ _ => trivial) fun i H' v H'' hi hG ⟨e1, e2⟩ => by
      subst e1 e2
      refine ⟨Ex.refl _, _, rgD_get hi, fun O ho _ => ?_⟩
      show Rp T (wo _ O) (V.int (0 + (i : Int))) _
      rw [Int.zero_add]
      exact .int _
variable {t u w : TS} {P : Post} {c tt : TT} {b : Bool} {wi : TI} {g : TG} {js : List Nat} {tl : TS}
theorem take_mid {α : Type} {ys : List α} {i : Nat} {y : α} (h : ys[i]? = some y) : ys = ys.take i ++ y :: ys.drop (i + 1) ∧ ys.take (i + 1) = ys.take i ++ [y] := by
  obtain ⟨hl, e⟩ := List.getElem?_eq_some_iff.mp h
  subst e
  refine ⟨?_, ?_⟩
  · rw [← List.drop_eq_getElem_cons hl, List.take_append_drop]
  · rw [List.take_add_one, h]; rfl
theorem sg_for {α : Type} {ys : List α} {enc : α → Dt} (hi : EvI T wi G (ys.map enc)) (I : List α → List Sl → Prop) (hw : Wk G G0) (h0 : I [] G0)
    (step : ∀ pre y post G', ys = pre ++ y :: post → I pre G' → ∃ js G1, Bd T g js (enc y) G' G1 ∧ SG T tl G1 ⟨fun G2 => ∃ G3, Wk G2 G3 ∧ I (pre ++ [y]) G3, P.rt, P.nx, fun G2 => ∃ G3, Wk G2 G3 ∧ I (pre ++ [y]) G3⟩)
    (hd : ∀ G', I ys G' → P.nx G') : SG T (tFor wi g tl) G P := fun B ad H s D I0 nx rt bk ct =>
  hi B ad H s I0 _ fun J H1 e wk => by
    have I1 := I0.mono e
    have eb := I1.baseEx
    refine for_it wk (fun i s' H' => i ≤ ys.length ∧ ∃ G' ad', EnvOk T (B.at H1 G ad) ad' H' s' G' ∧ I (ys.take i) G') ⟨Nat.zero_le _, G0, ad, I1.rebase.wk hw, h0⟩ (fun i s' H' _ ⟨_, G', ad', z, _⟩ => z.ex) (fun i v s' H' H'' hi ⟨hle, G', ad', z, hI⟩ ⟨e1, x, hx, hr⟩ => ?_) (fun s' H' ⟨_, G', ad', z, hI⟩ => ?_)
    · rw [List.length_map] at hi
      rw [List.getElem?_map] at hx
      have hy : ys[i]? = some ys[i] := List.getElem?_eq_getElem hi
      rw [hy] at hx
      cases hx
      obtain ⟨m1, m2⟩ := take_mid hy
      obtain ⟨js, G1, hb, hs⟩ := step _ _ _ G' m1 hI
      have z2 := z.mono e1
      have r : Rp T (wo H'' (own (B.at H1 G ad) G' ad')) v (enc ys[i]) := hr _ (z.dataEx) fun a ha => z.mu ha
      refine hb _ ad' H'' s' v z2 r _ fun s2 z3 _ _ => ?_
      have again : ∀ G2 ad2 H2 s2, EnvOk T (B.at H1 G ad) ad2 H2 s2 G2 → (∃ G3, Wk G2 G3 ∧ I (ys.take i ++ [ys[i]]) G3) → i + 1 ≤ ys.length ∧ ∃ G' ad', EnvOk T (B.at H1 G ad) ad' H2 s2 G' ∧ I (ys.take (i + 1)) G' := fun G2 ad2 H2 s2 z4 ⟨G3, w3, h3⟩ =>
        ⟨hi, G3, ad2, z4.wk w3, by rw [m2]; exact h3⟩
      exact hs _ ad' H'' s2 _ z3 again (fun v H' x e2 r2 k => rt v H' x (eb.trans e2) r2 k) (fun G2 ad2 H2 s2 z4 k => nx G2 ad2 H2 s2 (z4.unbase eb rfl) k) again
    · rw [List.length_map, List.take_length] at hI
      exact nx G' ad' H' s' (z.unbase eb rfl) (hd G' hI)
theorem sq_for {α : Type} {ys : List α} {enc : α → Dt} (hi : EvI T wi G (ys.map enc)) (I : List α → List Sl → Prop) (hw : Wk G G0) (h0 : I [] G0)
    (step : ∀ pre y post G', ys = pre ++ y :: post → I pre G' → ∃ js G1, Bd T g js (enc y) G' G1 ∧ SG T tl G1 ⟨fun G2 => ∃ G3, Wk G2 G3 ∧ I (pre ++ [y]) G3, P.rt, fun G2 => I ys G2, fun G2 => ∃ G3, Wk G2 G3 ∧ I (pre ++ [y]) G3⟩)
    (hd : ∀ G', I ys G' → SG T u G' P) : SG T (tSeq (tFor wi g tl) u) G P := sg_seq (fun G' => I ys G') (sg_for (P := { P with nx := fun G' => I ys G' }) hi I hw h0 step fun G' h => h) hd
theorem sg_while (I : Nat → List Sl → Prop) (m0 : Nat) (hw : Wk G G0) (h0 : I m0 G0)
    (step : ∀ m G', I m G' → ∃ b, EvT T c G' b ∧ (b = true → SG T tl G' ⟨fun G2 => ∃ G3 m', Wk G2 G3 ∧ m' < m ∧ I m' G3, P.rt, P.nx, fun G2 => ∃ G3 m', Wk G2 G3 ∧ m' < m ∧ I m' G3⟩) ∧ (b = false → P.nx G')) : SG T (tWhile c tl) G P := fun B ad H s D I0 nx rt bk ct => by
  refine ⟨fun m s' H' => ∃ G' ad', EnvOk T B ad' H' s' G' ∧ I m G', ⟨m0, G0, ad, I0.wk hw, h0⟩, fun m s' H' ⟨G', ad', z, hI⟩ => ?_⟩
  obtain ⟨b, hb, h1, h2⟩ := step m G' hI
  refine hb B ad' H' s' z _ fun H1 e1 => ?_
  cases b with
  | true =>
    have again : ∀ G2 ad2 H2 s2, EnvOk T B ad2 H2 s2 G2 → (∃ G3 m', Wk G2 G3 ∧ m' < m ∧ I m' G3) → ∃ m', m' < m ∧ ∃ G' ad', EnvOk T B ad' H2 s2 G' ∧ I m' G' := fun G2 ad2 H2 s2 z4 ⟨G3, m', w3, hm, h3⟩ => ⟨m', hm, G3, ad2, z4.wk w3, h3⟩
    show ∃ N : L2.St → Hp → Prop, (∀ s' H', N s' H' → ∃ m', m' < m ∧ ∃ G' ad', EnvOk T B ad' H' s' G' ∧ I m' G') ∧ tl { D with nx := N, ct := N, bk := D.nx } s' H1
    exact ⟨fun s2 H2 => ∃ m', m' < m ∧ ∃ G' ad', EnvOk T B ad' H2 s2 G' ∧ I m' G', fun _ _ h => h, h1 rfl B ad' H1 s' _ (z.mono e1) again rt nx again⟩
  | false =>
    show D.nx s' H1
    exact nx G' ad' H1 s' (z.mono e1) (h2 rfl)
theorem sq_while (I : Nat → List Sl → Prop) (M : List Sl → Prop) (m0 : Nat) (hw : Wk G G0) (h0 : I m0 G0)
    (step : ∀ m G', I m G' → ∃ b, EvT T c G' b ∧ (b = true → SG T tl G' ⟨fun G2 => ∃ G3 m', Wk G2 G3 ∧ m' < m ∧ I m' G3, P.rt, M, fun G2 => ∃ G3 m', Wk G2 G3 ∧ m' < m ∧ I m' G3⟩) ∧ (b = false → M G')) (k : ∀ G', M G' → SG T u G' P) : SG T (tSeq (tWhile c tl) u) G P :=
  sg_seq M (sg_while (P := { P with nx := M }) I m0 hw h0 step) k
/-! a comprehension -/
def wipeG (G : List Sl) : List Nat → List Sl
  | [] => G
  | v :: vs => (wipeG G vs).set v .un
def noOwn (G : List Sl) (vs : List Nat) : Bool := vs.all fun v => match G[v]? with
  | some (.own _) => false
  | _ => true
theorem wipe_get {σ : L2.St} {i : Nat} : ∀ {vs : List Nat}, i ∉ vs → (wipe σ vs)[i]? = σ[i]?
  | [], _ => rfl
  | v :: vs, h => by
    unfold wipe
    rw [List.getElem?_set_ne fun e => h (by simp [e]), wipe_get fun z => h (List.mem_cons_of_mem _ z)]
theorem wipe_none {σ : L2.St} {i : Nat} : ∀ {vs : List Nat}, i ∈ vs → i < σ.length → (wipe σ vs)[i]? = some none
  | v :: vs, h, hl => by
    unfold wipe
    by_cases e : v = i
    · subst e
      rw [List.getElem?_set_self (by rw [wipe_length]; exact hl)]
    · rw [List.getElem?_set_ne e]
      exact wipe_none ((List.mem_cons.mp h).resolve_left fun z => e z.symm) hl
theorem wipe_ext {σ σ' : L2.St} {vs : List Nat} (hl : σ'.length = σ.length) (h : ∀ i, i ∉ vs → σ'[i]? = σ[i]?) : wipe σ' vs = wipe σ vs := by
  refine List.ext_getElem? fun i => ?_
  by_cases hi : i ∈ vs
  · by_cases hb : i < σ.length
    · rw [wipe_none hi hb, wipe_none hi (by rw [hl]; exact hb)]
    · rw [List.getElem?_eq_none (by rw [wipe_length]; omega), List.getElem?_eq_none (by rw [wipe_length]; omega)]
  · rw [wipe_get hi, wipe_get hi]
    exact h i hi
theorem wipeG_len : ∀ vs : List Nat, (wipeG G vs).length = G.length
  | [] => rfl
  | v :: vs => by unfold wipeG; rw [List.length_set, wipeG_len vs]
theorem wipeG_get {i : Nat} {z : Sl} : ∀ {vs : List Nat}, (wipeG G vs)[i]? = some z → z = .un ∨ (i ∉ vs ∧ G[i]? = some z)
  | [], h => .inr ⟨by simp, h⟩
  | v :: vs, h => by
    unfold wipeG at h
    rcases set_get h with ⟨_, e, _⟩ | ⟨e, h⟩
    · exact .inl e
    · rcases wipeG_get h with h | ⟨h1, h2⟩
      · exact .inl h
      · exact .inr ⟨by simp only [List.mem_cons, not_or]; exact ⟨fun z => e z.symm, h1⟩, h2⟩
theorem wipeG_out {i : Nat} : ∀ {vs : List Nat}, i ∉ vs → (wipeG G vs)[i]? = G[i]?
  | [], _ => rfl
  | v :: vs, h => by
    unfold wipeG
    rw [List.getElem?_set_ne fun e => h (by simp [e]), wipeG_out fun z => h (List.mem_cons_of_mem _ z)]
theorem own_wipe {B : Base} {ad : Nat → Addr} {vs : List Nat} (hn : noOwn G vs = true) : own B (wipeG G vs) ad = own B G ad := by
  funext a
  refine propext ⟨own_sub (fun i c h => ?_) a, own_sub (fun i c h => ?_) a⟩
  · rcases wipeG_get h with e | ⟨_, h⟩
    · cases e
    · exact ⟨c, h⟩
  · refine ⟨c, ?_⟩
    rw [wipeG_out fun hi => ?_]
    · exact h
    · have z := List.all_eq_true.mp hn i hi
      rw [h] at z
      cases z
theorem EnvOk.wipe {B : Base} {ad : Nat → Addr} {H : Hp} {s : L2.St} {vs : List Nat} (I : EnvOk T B ad H s G) (hn : noOwn G vs = true) : EnvOk T B ad H (wipe s vs) (wipeG G vs) := by
  have eo : own B (wipeG G vs) ad = own B G ad := own_wipe hn
  refine ⟨I.ex, by rw [wipe_length, wipeG_len]; exact I.len, I.fo, fun i x h => ?_, fun i c h => ?_, fun i j c c' h h' q => ?_⟩
  · rcases wipeG_get h with e | ⟨hi, h⟩
    · cases e
    · obtain ⟨v, e, r⟩ := I.d i x h
      exact ⟨v, by rw [wipe_get hi]; exact e, by rw [eo]; exact r⟩
  · rcases wipeG_get h with e | ⟨hi, h⟩
    · cases e
    · obtain ⟨h1, h2, h3, h4⟩ := I.ow i c h
      exact ⟨by rw [wipe_get hi]; exact h1, h2, h3, by rw [eo]; exact h4⟩
  · rcases wipeG_get h with e | ⟨hi, h⟩
    · cases e
    · rcases wipeG_get h' with e | ⟨hj, h'⟩
      · cases e
      · exact I.inj i j c c' h h' q
/-- one more owner: the list that is made -/
theorem EnvOk.frame {B : Base} {ad : Nat → Addr} {H : Hp} {s : L2.St} {D : Addr} (I : EnvOk T B ad H s G) {o : HO} (hD : H D = none) (ho : Mu (some o)) : EnvOk T ⟨B.Hb, fun a => B.O a ∨ a = D⟩ ad (upd H D o) s G := by
  have nd : ∀ a, H a ≠ none → a ≠ D := fun a h e => h (e ▸ hD)
  have eo : ∀ a, own ⟨B.Hb, fun a => B.O a ∨ a = D⟩ G ad a → own B G ad a ∨ a = D := fun a z => by
    rcases z with (z | z) | z
    · exact .inl (.inl z)
    · exact .inr z
    · exact .inl (.inr z)
  have ex1 : Ex (wo H (own B G ad)) (wo (upd H D o) (own ⟨B.Hb, fun a => B.O a ∨ a = D⟩ G ad)) := (ex_but hD).trans (wo_sub eo)
  refine ⟨I.ex.trans (Ex.new hD), I.len, fun a z => ?_, fun i x h => ?_, fun i c h => ?_, I.inj⟩
  · rcases z with z | z
    · rw [upd_ne (nd a (I.fo a z).1)]
      exact I.fo a z
    · subst z
      rw [upd_same]
      exact ho
  · obtain ⟨v, e, r⟩ := I.d i x h
    exact ⟨v, e, r.mono ex1⟩
  · obtain ⟨h1, h2, h3, h4⟩ := I.ow i c h
    have n : ad i ≠ D := nd _ (I.there (.inr ⟨i, c, h, rfl⟩))
    refine ⟨h1, h2, fun z => ?_, ?_⟩
    · rcases z with z | z
      · exact h3 z
      · exact n z
    · rw [upd_ne n]
      exact h4.mono ex1
theorem own_frame {B : Base} {ad : Nat → Addr} {D : Addr} : own ⟨B.Hb, fun a => B.O a ∨ a = D⟩ G ad = fun a => own B G ad a ∨ a = D := by
  funext a
  refine propext ⟨fun z => ?_, fun z => ?_⟩
  · rcases z with (z | z) | z
    · exact .inl (.inl z)
    · exact .inr z
    · exact .inl (.inr z)
  · rcases z with (z | z) | z
    · exact .inl (.inl z)
    · exact .inr z
    · exact .inl (.inr z)
/-- the frame's own cell is written -/
theorem EnvOk.frPut {B : Base} {ad : Nat → Addr} {H : Hp} {s : L2.St} {D : Addr} (I : EnvOk T B ad H s G) {o : HO} (hD : B.O D) (hb : B.Hb D = none) (ho : Mu (some o)) : EnvOk T B ad (upd H D o) s G := by
  have hw : wo (upd H D o) (own B G ad) = wo H (own B G ad) := wo_upd (.inl hD)
  refine ⟨fun a u h => ?_, I.len, fun a z => ?_, fun i x h => by rw [hw]; exact I.d i x h, fun i c h => ?_, I.inj⟩
  · rw [upd_ne fun e => by rw [e, hb] at h; cases h]
    exact I.ex a u h
  · by_cases e : a = D
    · subst e
      rw [upd_same]
      exact ho
    · rw [upd_ne e]
      exact I.fo a z
  · obtain ⟨h1, h2, h3, h4⟩ := I.ow i c h
    rw [hw, upd_ne fun e => h3 (by rw [e]; exact hD)]
    exact ⟨h1, h2, h3, h4⟩
theorem mu_lst {xs : List V} : Mu (some (.lst xs)) := ⟨(fun z => nomatch z), fun _ z => nomatch z⟩
/-- what a comprehension walks: the slots' own lists as well -/
def EvJ (T : Tx) (wi : TI) (G : List Sl) (xs : List Dt) : Prop :=
  ∀ (B : Base) (ad : Nat → Addr) (H : Hp) (s : L2.St), EnvOk T B ad H s G → ∀ R : It → Hp → Prop, (∀ J H1, Ex H H1 → WkOk T ⟨H1, own B G ad⟩ J xs → R J H1) → wi s H R
theorem EvI.j {xs : List Dt} (h : EvI T wi G xs) : EvJ T wi G xs := fun B ad H s I R q => h B ad H s I R fun J H1 e w => q J H1 e (by
  unfold WkOk at w ⊢
  refine w.mono (fun H' e' => (wo_ex _ _).trans e') fun i H' v H'' hi hG ⟨e1, x, hx, hr⟩ => ⟨e1, x, hx, fun O ho hm => hr O ?_ hm⟩
  rw [at_wo]
  exact ho)
theorem ej_own {i : Nat} (h : G[i]? = some (.own (.lst ds))) : EvJ T (iSeq T.K (tVar i)) G ds := fun B ad H s I R q => .inl (by
  obtain ⟨e, _, _, vs, h1, r⟩ := I.ow i _ h
  refine ⟨_, e, _, rfl, ⟨_, SqL.of h1⟩, q _ H (Ex.refl H) ?_⟩
  have w := walk_list (K := T.K) (a := ad i) (xs := vs)
  rw [WkOk, ← r.length]
  exact w.mono (fun H' e' => SqL.of (e' _ _ h1)) fun i H' v H'' hi hG ⟨e1, e2⟩ => by
    subst e1
    obtain ⟨z, z1, z2⟩ := r.getV e2
    exact ⟨Ex.refl _, z, z1, fun O ho _ => z2.mono ho⟩)
theorem filter_take {α : Type} {ys : List α} {f : α → Bool} {i : Nat} {y : α} (h : ys[i]? = some y) : (ys.take (i + 1)).filter f = (ys.take i).filter f ++ if f y = true then [y] else [] := by
  rw [(take_mid h).2, List.filter_append, List.filter_cons]
  rfl
theorem en_lc {α : Type} {ys : List α} {enc : α → Dt} {vs : List Nat} (f : α → Bool) (v : α → Dt) (hi : EvJ T wi G (ys.map enc)) (hz : ys.length ≤ 50000) (hn : noOwn G vs = true)
    (step : ∀ y ∈ ys, ∃ js G1, Bd T g js (enc y) (wipeG G vs) G1 ∧ (∀ B ad, own B G1 ad = own B (wipeG G vs) ad) ∧ (∀ j ∈ js, j ∈ vs) ∧ EvT T tt G1 (f y) ∧ (f y = true → EvD T te G1 (v y))) :
    EvN T (tLc wi g tt te vs) G ((ys.filter f).map v) := fun B ad H s I Q q => hi B ad H s I _ fun J H1 e wk D hD => by
  have I1 := I.mono e
  have e0 : (⟨(B.at H1 G ad).Hb, fun a => B.O a ∨ a = D⟩ : Base).Hb = (B.at H1 G ad).Hb := rfl
  -- the block's entry
  have Iw : EnvOk T (B.at H1 G ad) ad H1 (wipe s vs) (wipeG G vs) := I1.rebase.wipe hn
  have ew : own (B.at H1 G ad) (wipeG G vs) ad = own B G ad := by rw [own_wipe hn]; rfl
  have hDb : (B.at H1 G ad).Hb D = none := fresh_back (wo_ex _ _) hD
  refine lc_it wk (fun i H' => i ≤ ys.length ∧ Ex H1 H' ∧ EnvOk T ⟨(B.at H1 G ad).Hb, fun a => B.O a ∨ a = D⟩ ad H' (wipe s vs) (wipeG G vs) ∧ ∃ us, H' D = some (.lst us) ∧ RpAll T (wo H' fun a => own B G ad a ∨ a = D) us (((ys.take i).filter f).map v)) ⟨Nat.zero_le _, Ex.new hD, Iw.frame hD mu_lst, [], upd_same, .nil⟩
    (fun i H' _ ⟨_, e1, _⟩ => e1) (fun i y0 H' H'' hi ⟨hle, e1, z, us, hu, ru⟩ ⟨e2, x, hx, hr⟩ => ?_) (fun H' ⟨_, e1, z, us, hu, ru⟩ => ?_)
  · rw [List.length_map] at hi
    rw [List.getElem?_map] at hx
    have hy : ys[i]? = some ys[i] := List.getElem?_eq_getElem hi
    rw [hy] at hx
    cases hx
    obtain ⟨js, G1, hb, ho, hj, ht, he⟩ := step ys[i] (List.getElem_mem hi)
    have z2 := z.mono e2
    have eD : own ⟨(B.at H1 G ad).Hb, fun a => B.O a ∨ a = D⟩ (wipeG G vs) ad = fun a => own B G ad a ∨ a = D := by
      have := own_frame (B := B.at H1 G ad) (G := wipeG G vs) (ad := ad) (D := D)
      rw [ew] at this
      exact this
    have r : Rp T (wo H'' (own ⟨(B.at H1 G ad).Hb, fun a => B.O a ∨ a = D⟩ (wipeG G vs) ad)) y0 (enc ys[i]) := hr _ (fun a o h => by
      have h : wo (B.at H1 G ad).Hb (B.at H1 G ad).O a = some o := by rw [at_wo]; exact h
      have hb1 : (B.at H1 G ad).Hb a = some o := wo_ex _ _ _ _ h
      have hne : a ≠ D := fun q => by rw [q, hDb] at hb1; cases hb1
      refine z.dataEx a o ?_
      show wo (B.at H1 G ad).Hb (fun a => B.O a ∨ a = D) a = some o
      rw [wo_at (O := fun a => B.O a ∨ a = D) fun q => by
        rcases q with q | q
        · rw [wo_in (show (B.at H1 G ad).O a from q)] at h; cases h
        · exact hne q]
      exact hb1) fun a ha => z.mu ha
    refine hb _ ad H'' _ y0 z2 r _ fun s2 z3 k3 l3 => ⟨?_, ?_⟩
    · have h1 : wipe s2 vs = wipe (wipe s vs) vs := wipe_ext (by rw [l3]) fun j hj' => k3 j fun q => hj' (hj j q)
      rw [h1]
      exact wipe_ext (wipe_length _ _) fun j hj' => wipe_get hj'
    · refine ht _ ad H'' s2 z3 _ fun H3 e3 => ?_
      have e13 : Ex H1 H3 := (e1.trans e2).trans e3
      cases hf : f ys[i] with
      | true =>
        show te s2 H3 fun y H4 => _
        refine he hf _ ad H3 s2 (z3.mono e3) _ fun y4 H4 e4 r4 => ?_
        have hu4 : H4 D = some (.lst us) := e4 _ _ (e3 _ _ (e2 _ _ hu))
        have lu : us.length ≤ ys.length := by
          rw [ru.length, List.length_map]
          refine Nat.le_trans (List.length_filter_le _ _) ?_
          rw [List.length_take]
          exact Nat.min_le_right _ _
        refine ⟨us, hu4, sz_lt (by omega), hi, ?_, ?_, us ++ [y4], upd_same, ?_⟩
        · exact Ex.mut (e13.trans e4) hD
        · exact ((z2.mono e3).mono e4).frPut (.inr rfl) hDb mu_lst
        · rw [filter_take hy, if_pos hf, List.map_append]
          have hw : wo (upd H4 D (.lst (us ++ [y4]))) (fun a => own B G ad a ∨ a = D) = wo H4 fun a => own B G ad a ∨ a = D := wo_upd (O := fun a => own B G ad a ∨ a = D) (.inr rfl)
          rw [hw]
          refine (ru.mono (wo_mono ((e2.trans e3).trans e4))).append (.cons ?_ .nil)
          rw [ho, eD] at r4
          exact r4
      | false =>
        show i + 1 ≤ ys.length ∧ Ex H1 H3 ∧ _
        refine ⟨hi, e13, z2.mono e3, us, e3 _ _ (e2 _ _ hu), ?_⟩
        rw [filter_take hy, if_neg (by rw [hf]; decide), List.append_nil]
        exact ru.mono (wo_mono (e2.trans e3))
  · rw [List.length_map, List.take_length] at ru
    exact q _ H' (e.trans e1) ⟨D, us, rfl, fresh_back e hD, hu, ru⟩
end
end W3

namespace W3
open PySem PySem.Spec PyProof.Rows L2 Evl

/-! ### targets that take a list or a tuple apart -/
def gSeq (K : PySem.W.Frag) (n : Nat) (t : TGs) : TG := fun v σ H Q => gTup K n t v σ H Q ∨ gUnl K n t v σ H Q
theorem pg_seq {X : Cx} {es : List Expr} {k : Nat} {t : TGs} {n : Nat} {pos : Pos} (hc : X.calm = true) (h : PGs X es t)
    (hn : (assignEach es X.env).length = n := by rfl) (hst : (assignEach es X.env).findIdx? (·.1) = none := by rfl) : PG X (.Tuple es k pos) (gSeq X.K n t) := by
  refine ⟨fun pins s σ H v u Q I r hw => ?_⟩
  rcases hw with hw | hw
  · exact (pg_tup hc h hn hst).run pins s σ H v u Q I r hw
  · exact (pg_unl hc h hn hst).run pins s σ H v u Q I r hw
section
variable {T : Tx} {G G' : List Sl} {x y z : Dt}
theorem bd_seqT {gs : TGs} {js : List Nat} {xs : List Dt} {n : Nat} (h : BdL T gs js xs G G') (hn : xs.length = n) : Bd T (gSeq T.K n gs) js (.tup xs) G G' := fun B ad H s v I r Q q => by
  cases r with
  | tup h1 a1 => exact .inl ⟨_, _, rfl, SqT.of (wo_ex _ _ _ _ h1), a1.length.trans hn, h B ad H s _ I a1 Q q⟩
theorem bd_seqL {gs : TGs} {js : List Nat} {xs : List Dt} {n : Nat} (h : BdL T gs js xs G G') (hn : xs.length = n) : Bd T (gSeq T.K n gs) js (.lst xs) G G' := fun B ad H s v I r Q q => by
  cases r with
  | lst h1 a1 => exact .inr ⟨_, _, rfl, SqL.of (wo_ex _ _ _ _ h1), a1.length.trans hn, h B ad H s _ I a1 Q q⟩
theorem bd_2T {i j : Nat} : Bd T (gSeq T.K 2 (gCons (gName i) (gCons (gName j) gNil))) [i, j] (.tup [x, y]) G ((G.set i (.d x)).set j (.d y)) := bd_seqT (bdl_name (bdl_name bdl_nil)) rfl
theorem bd_2L {i j : Nat} : Bd T (gSeq T.K 2 (gCons (gName i) (gCons (gName j) gNil))) [i, j] (.lst [x, y]) G ((G.set i (.d x)).set j (.d y)) := bd_seqL (bdl_name (bdl_name bdl_nil)) rfl
theorem bd_3L {i j k : Nat} : Bd T (gSeq T.K 3 (gCons (gName i) (gCons (gName j) (gCons (gName k) gNil)))) [i, j, k] (.lst [x, y, z]) G (((G.set i (.d x)).set j (.d y)).set k (.d z)) := bd_seqL (bdl_name (bdl_name (bdl_name bdl_nil))) rfl
theorem own_setG {B : Base} {ad : Nat → Addr} {i : Nat} (h : ∀ c, G[i]? ≠ some (.own c)) : own B (G.set i (.d x)) ad = own B G ad := by
  funext a
  refine propext ⟨own_set a, own_sub (fun j c hj => ⟨c, ?_⟩) a⟩
  rw [List.getElem?_set_ne fun e => h c (by rw [e]; exact hj)]
  exact hj
end

/-! ### promises over data -/
abbrev Spec := List Dt → (Dt → Prop) → Prop
def spOf (T : Tx) (S : Spec) : Sp := fun vs H Q _ => ∃ (O : Addr → Prop) (ds : List Dt) (F : Dt → Prop), (∀ a, O a → Mu (H a)) ∧ RpAll T (wo H O) vs ds ∧ S ds F ∧ ∀ v H2 x, Ex H H2 → Rp T (wo H2 O) v x → F x → Q v H2
/-- the entry of a def: its slots -/
def entG (N : List Str) (ds : List Dt) : List Sl := ds.map .d ++ List.replicate (N.length - ds.length) .un
theorem env_entry {T : Tx} {H : Hp} {O : Addr → Prop} {vs : List V} {ds : List Dt} (N : List Str) (h1 : ∀ a, O a → Mu (H a)) (h2 : RpAll T (wo H O) vs ds) : EnvOk T ⟨H, O⟩ (fun _ => 0) H (start N vs) (entG N ds) := by
  have no : ∀ (i : Nat) c, (entG N ds)[i]? ≠ some (.own c) := fun i c h => by
    have hm := List.mem_of_getElem? h
    unfold entG at hm
    rcases List.mem_append.mp hm with hm | hm
    · obtain ⟨d, _, e⟩ := List.mem_map.mp hm
      cases e
    · have := List.eq_of_mem_replicate hm
      cases this
  have eo : own ⟨H, O⟩ (entG N ds) (fun _ => 0) = O := by
    funext a
    refine propext ⟨fun z => ?_, fun z => .inl z⟩
    rcases z with z | ⟨i, c, e, _⟩
    · exact z
    · exact absurd e (no i c)
  have el := h2.length
  refine ⟨Ex.refl H, ?_, h1, fun i x h => ?_, fun i c h => absurd h (no i c), fun i j c c' h _ _ => absurd h (no i c)⟩
  · unfold L2.start entG
    rw [List.length_append, List.length_append, List.length_map, List.length_map, List.length_replicate, List.length_replicate, el]
  · rw [eo]
    unfold entG at h
    by_cases hi : i < ds.length
    · rw [List.getElem?_append_left (by rw [List.length_map]; exact hi), List.getElem?_map, List.getElem?_eq_getElem hi] at h
      cases h
      obtain ⟨v, hv, r⟩ := h2.get (List.getElem?_eq_getElem hi)
      refine ⟨v, ?_, r⟩
      unfold L2.start
      rw [List.getElem?_append_left (by rw [List.length_map, el]; exact hi), List.getElem?_map, hv]
      rfl
    · have hm := List.mem_of_getElem? (l := List.replicate (N.length - ds.length) Sl.un) (i := i - (ds.map Sl.d).length) (a := .d x) (by
        rw [List.getElem?_append_right (by rw [List.length_map]; omega)] at h
        exact h)
      have := List.eq_of_mem_replicate hm
      cases this
/-- a def of the text that keeps its promise -/
structure Good (P : Program) (w : World) (T : Tx) (mg : Str → Option Value) (base : Heap) (k : Nat) (f : Addr) (ps : List Str) (S : Spec) : Prop where
  ex : ∃ fd, FnOk P w T.K mg base CX0 k f fd ps (spOf T S) ∧ Binds T.K fd ps []
  kp : PySem.W.keepIn T.K (.ref f) = true
section
variable {P : Program} {w : World} {T : Tx} {mg : Str → Option Value} {base : Heap} {x qual : Str} {params : Arguments} {body : List Stmt} {scope : Scope} {kws : List (Str × V)} {f : Addr} {fd : FuncData}
theorem Good.mono {j k : Nat} {ps : List Str} {S : Spec} (g : Good P w T mg base j f ps S) (h : j ≤ k) : Good P w T mg base k f ps S := ⟨let ⟨fd, a, b⟩ := g.ex; ⟨fd, a.mono h, b⟩, g.kp⟩
theorem good_of {N ps : List Str} {k : Nat} {S : Spec} (F : FunD T.K x qual params body scope [] kws f fd) (sc : FnScope N ps scope)
    (hb : ∀ (kV doc pm : Value) (an : Option Addr) (cdv ct : Value) (us : List Value), us.length = ps.length → bindArgs (PySem.W.fnOf x qual params body scope .none kV doc pm an cdv ct) ⟨us, []⟩ = pure (ps.zip us))
    (len : ∀ ds F, S ds F → ds.length = ps.length)
    (hbody : ∀ (cdv : Value) (A : Around) (outer : List Env) (s : Shared) (H : Hp) (E : XK), Room k (A.deeper (envOfC qual scope s.heap.objs.size f cdv)) → ∀ ds F, S ds F →
      ∃ t, PSs (cxOf CX0 P w T.K mg base N qual scope f cdv A outer s H E).nox body t ∧ SG T t (entG N ds) ⟨fun _ => F .non, F, fun _ => False, fun _ => False⟩) : Good P w T mg base (k + 1) f ps S := by
  refine ⟨⟨fd, F.ok sc (fun vs H Q E h => ?_) fun cdv A outer s H vs Q E hr h => ?_, F.bindsN hb⟩, F.kp⟩
  · obtain ⟨O, ds, F', _, r, h, _⟩ := h
    rw [r.length]
    exact len ds F' h
  · obtain ⟨O, ds, F', ho, r, h, q⟩ := h
    obtain ⟨t, ht, hs⟩ := hbody cdv A outer s H E hr ds F' h
    refine ⟨t, ht.nox, hs ⟨H, O⟩ _ H _ _ (env_entry N ho r) (fun G' ad' H' s' I' hn => ?_) (fun v H' x e rx hx => q v H' x e rx hx) (fun _ _ _ _ _ z => z.elim) fun _ _ _ _ _ z => z.elim⟩
    exact q _ H' .non I'.ex .non hn
end
section
variable {X : Cx} {T : Tx} {k : Nat} {f : Addr} {ps : List Str} {S : Spec} {x m : Str} {p pos apos : Pos} {e o : Expr} {es : List Expr} {ta : TE} {t : TA}
/-- f(e, ..) -/
theorem pe_callG (g : Good X.prog X.w T X.mg X.base k f ps S) (hr : Room k X.A) (hg : Gl X x) (hm : X.mg x = some (.ref f)) (ha : PA X (e :: es) t) (hK : X.K = T.K := by rfl)
    (hdb : (x == ("__debug__" : Str)) = false := by decide) (he : starEach (e :: es) X.env = (false, eval e X.env) :: starEach es X.env := by rfl) (hpl : (backTo pos (starEach es X.env)).any (·.1) = false := by rfl) :
    PE X (.Call (.Name x p) (e :: es) [] pos) (tCall (spOf T S) [] E0 t) := by
  obtain ⟨K, C⟩ := T
  have hK : X.K = K := hK
  subst hK
  obtain ⟨fd, F, B⟩ := g.ex
  exact pe_call F hr hg hm g.kp B .nil pass0 ha hdb he hpl
/-- o.m(e, ..) -/
theorem pe_methG {pl : Sem Bool} (he : PE X o ta) (c : Cls X.K T.C) (hm : Meth X.K T.C m f) (g : Good X.prog X.w ⟨X.K, T.C⟩ X.mg X.base k f ps S) (hr : Room k X.A) (ha : PA X (e :: es) t)
    (hst : starEach (e :: es) X.env = (false, eval e X.env) :: starEach es X.env := by rfl) (hpl : (backTo pos (starEach es X.env)).any (·.1) = false := by rfl)
    (ht : eval (.Call (.Attribute o m apos) (e :: es) [] pos) X.env = (do
      let ov ← eval o X.env
      standAt apos.atName
      let (f, first) ← holding [ov] (getMethod ov m pl)
      callWith pos f first (backTo pos (starEach (e :: es) X.env)) (backToKw pos (keywordEach [] X.env))) := by rfl) :
    PE X (.Call (.Attribute o m apos) (e :: es) [] pos) (tMeth T.C m (spOf ⟨X.K, T.C⟩ S) [] E0 ta t) := by
  obtain ⟨fd, F, B⟩ := g.ex
  exact pe_meth he c hm F hr B .nil pass0 ha hst hpl ht
end
section
variable {T : Tx} {G : List Sl} {S : Spec} {ds : List Dt} {F : Dt → Prop} {x : Dt} {ta tb te : TE} {t : TA} {E : XK} {m : Str}
theorem ev_call (h : EvA T t G ds) (hs : S ds F) : EvP T (tCall (spOf T S) [] E t) G F := fun B ad H s I Q q =>
  h B ad H s I _ fun vs H1 e r => ⟨own B G ad, ds, F, fun a ha => (I.mono e).mu ha, by rw [List.append_nil]; exact r, hs, fun v H2 x e2 r2 hx => q v H2 (e.trans e2) ⟨x, hx, r2⟩⟩
theorem ev_callD (h : EvA T t G ds) (hs : S ds (· = x)) : EvD T (tCall (spOf T S) [] E t) G x := fun B ad H s I Q q =>
  ev_call h hs B ad H s I Q fun v H2 e ⟨y, hy, r⟩ => q v H2 e (hy ▸ r)
theorem ev_meth {n : Int} {ties bows : List (Int × Int)} (ha : EvD T ta G (.drw n ties bows)) (hm : m ≠ "count" ∧ m ≠ "ties" ∧ m ≠ "bows") (h : EvA T t G ds) (hs : S (.drw n ties bows :: ds) F) :
    EvP T (tMeth T.C m (spOf T S) [] E ta t) G F := fun B ad H s I Q q =>
  ha B ad H s I _ fun v H1 e r => by
    have r0 : Rp T (wo H1 (own B G ad)) v (.drw n ties bows) := r
    cases r with
    | drw h1 r1 r2 =>
      refine ⟨_, _, _, rfl, wo_ex _ _ _ _ h1, ?_, h B ad H1 s (I.mono e) _ fun vs H2 e2 rs => ⟨own B G ad, _, F, fun a ha => (I.mono (e.trans e2)).mu ha, ?_, hs, fun v H3 x e3 r3 hx => q v H3 ((e.trans e2).trans e3) ⟨x, hx, r3⟩⟩⟩
      · have q1 : (m == ("count" : Str)) = false := beq_eq_false_iff_ne.mpr hm.1
        have q2 : (m == ("ties" : Str)) = false := beq_eq_false_iff_ne.mpr hm.2.1
        have q3 : (m == ("bows" : Str)) = false := beq_eq_false_iff_ne.mpr hm.2.2
        simp only [List.lookup, q1, q2, q3]
      · rw [List.append_nil]
        exact .cons (r0.mono (wo_mono e2)) rs
theorem ev_methD {n : Int} {ties bows : List (Int × Int)} (ha : EvD T ta G (.drw n ties bows)) (hm : m ≠ "count" ∧ m ≠ "ties" ∧ m ≠ "bows") (h : EvA T t G ds) (hs : S (.drw n ties bows :: ds) (· = x)) :
    EvD T (tMeth T.C m (spOf T S) [] E ta t) G x := fun B ad H s I Q q => ev_meth ha hm h hs B ad H s I Q fun v H2 e ⟨y, hy, r⟩ => q v H2 e (hy ▸ r)
/-! a drawing's fields -/
theorem ev_count {n : Int} {ties bows : List (Int × Int)} (c : Cls T.K T.C) (na : NoAttr T.K T.C "count") (ha : EvD T ta G (.drw n ties bows)) : EvD T (tFld T.K ta "count") G (.int n) := fun B ad H s I Q q =>
  ha B ad H s I _ fun v H1 e r => by
    cases r with
    | drw h1 r1 r2 => exact ⟨_, _, _, _, _, rfl, wo_ex _ _ _ _ h1, c, na, rfl, q _ H1 e (.int n)⟩
theorem ev_ties {n : Int} {ties bows : List (Int × Int)} (c : Cls T.K T.C) (na : NoAttr T.K T.C "ties") (ha : EvD T ta G (.drw n ties bows)) : EvD T (tFld T.K ta "ties") G (dTP ties) := fun B ad H s I Q q =>
  ha B ad H s I _ fun v H1 e r => by
    cases r with
    | drw h1 r1 r2 => exact ⟨_, _, _, _, _, rfl, wo_ex _ _ _ _ h1, c, na, rfl, q _ H1 e r1⟩
theorem ev_bows {n : Int} {ties bows : List (Int × Int)} (c : Cls T.K T.C) (na : NoAttr T.K T.C "bows") (ha : EvD T ta G (.drw n ties bows)) : EvD T (tFld T.K ta "bows") G (dTP bows) := fun B ad H s I Q q =>
  ha B ad H s I _ fun v H1 e r => by
    cases r with
    | drw h1 r1 r2 => exact ⟨_, _, _, _, _, rfl, wo_ex _ _ _ _ h1, c, na, rfl, q _ H1 e r2⟩
/-! is None, is not True -/
theorem ev_isN (h : EvD T te G x) (hn : x ≠ .non) : EvD T (tOp (fun x y H Q => y = .non ∧ Q (.bl (decide (x = .non))) H) te (tC .non)) G (.bl false) := fun B ad H s I Q q =>
  h B ad H s I _ fun v H1 e r => ⟨rfl, by
    have hv : decide (v = V.non) = false := decide_eq_false fun z => by
      subst z
      cases r
      exact hn rfl
    rw [hv]
    exact q _ H1 e (.bl false)⟩
theorem ev_notB {a b : Bool} (ha : EvD T ta G (.bl a)) (hb : EvD T tb G (.bl b)) : EvD T (tOp rNotB ta tb) G (.bl (!decide (a = b))) :=
  ev_two ha hb fun B ad H H1 H2 s u v I I2 e1 e2 r1 r2 Q q => by
    cases r1
    cases r2
    exact ⟨a, b, rfl, rfl, q _ H2 (Ex.refl H2) (.bl _)⟩
end
end W3
namespace W3
open PySem PySem.Spec PyProof.Rows L2 Evl
section
variable {T : Tx} {G : List Sl} {te ta tb : TE}
theorem ei_rngN {t1 : TA} {n : Nat} (h : EvA T t1 G [.int (n : Nat)]) (h2 : n ≤ 100000) : EvI T (iRng1 t1) G ((List.range n).map fun i => .int (i : Nat)) := by
  have z := ei_rng h (by omega) (by omega)
  rw [Int.toNat_natCast] at z
  exact z
theorem getD_at {α : Type} {l : List α} {k : Nat} {d : α} (h : k < l.length) : l[k]? = some (l.getD k d) := by
  rw [List.getD_eq_getElem?_getD, List.getElem?_eq_getElem h]
  rfl
theorem ev_ixM {α : Type} {ys : List α} {enc : α → Dt} {d : α} {k : Nat} (ha : EvS T ta G (ys.map enc)) (hb : EvD T tb G (.int (k : Nat))) (hk : k < ys.length) : EvD T (tOp (rIx T.K) ta tb) G (enc (ys.getD k d)) :=
  ev_ixN ha hb (by rw [List.getElem?_map, getD_at hk]; rfl)
theorem ev_ixI {ns : List Int} {k : Nat} (ha : EvS T ta G (ns.map .int)) (hb : EvD T tb G (.int (k : Nat))) (hk : k < ns.length) : EvD T (tOp (rIx T.K) ta tb) G (.int (ns.getD k 0)) := ev_ixM ha hb hk
theorem mem_mid {α : Type} {ys pre post : List α} {y : α} (h : ys = pre ++ y :: post) : y ∈ ys := by rw [h]; simp
theorem rg_mid {n k : Nat} {pre post : List Nat} (h : List.range n = pre ++ k :: post) : k < n := List.mem_range.mp (mem_mid h)
theorem ea1 {x : Dt} (h : EvD T te G x) : EvA T (tCons te tNil) G [x] := ea_cons h ea_nil
theorem ea2 {x y : Dt} (h : EvD T ta G x) (h2 : EvD T tb G y) : EvA T (tCons ta (tCons tb tNil)) G [x, y] := ea_cons h (ea1 h2)
end
end W3

/-! ### sorted of a list or a tuple that reads as data -/
namespace W3
open PySem PySem.Spec PySem.W PyProof.Rows L2 Evl
section
variable {prog : Program} {w : World} {A : Around} {E : Value → Shared → Prop} {s : Shared} {β : Type} {vs : List Value} {bs : List β} {enc : β → PyData} {R : Value → β → Prop}
theorem collect_at {T : String} {l : Addr} {vs : List Value} {o : Obj} {n : Nat} {Q : List Value → Shared → Prop} (hT : T = "list" ∨ T = "tuple") (ho : s.heap.get? l = some o) (hc : o.cls = .type T) (hd : o.data = .seq vs.toArray n)
    (h : Q vs { s with heap := (s.heap.push (seqObj "list" #[] 0)).update s.heap.objs.size (Obj.mapSeq (· ++ vs.toArray)) }) (hsz : vs.length ≤ sizeLine) :
    wpAny (model prog w) A (collect (.ref l)) Q E s := by
  unfold collect
  refine wpAny_bind (wpAny_runValue (codeAny_builtin entry_proto_collect' ?_))
  show wpAny _ _ (do again (.builtin "list.__iadd__" ⟨[← newList [], .ref l], []⟩)) _ _ s
  refine wpAny_bind (wpAny_newList (wpAny_pure ⟨Code.quiet_builtin _ (by decide +kernel), codeAny_builtin entry_list_iadd' ?_⟩))
  show wpAny _ _ (Builtin.List.listExtendWith (.ref s.heap.objs.size) (.ref l) (.ref s.heap.objs.size)) _ _ { s with heap := s.heap.push (seqObj "list" #[] 0) }
  unfold Builtin.List.listExtendWith
  have ho' : (s.heap.push (seqObj "list" #[] 0)).get? l = some o := Heap.get?_push_of_some _ ho
  have tail : wpAny (model prog w) A (do
      let o ← load s.heap.objs.size
      match o.data with
      | .seq xs _ => pure xs.toList
      | _ => unsupported "internal:collect") Q E { s with heap := (s.heap.push (seqObj "list" #[] 0)).update s.heap.objs.size (Obj.mapSeq (· ++ vs.toArray)) } := by
    refine wpAny_bind (wpAny_load (get?_update_seq (Heap.get?_push_size _ rfl) _) ?_)
    show wpAny _ _ (pure ((#[] : Array Value) ++ vs.toArray).toList) Q E _
    rw [show ((#[] : Array Value) ++ vs.toArray).toList = vs by simp]
    exact wpAny_pure h
  rcases hT with rfl | rfl
  · refine wpAny_bind (wpAny_typeOf (T := "list") ⟨o, ho', hc⟩ ?_)
    have ht : (Value.type "list" == Value.type "list") = true := by rfl
    rw [if_pos (by rw [ht]; simp)]
    refine wpAny_bind (listItems_at ho' hd ?_)
    refine wpAny_bind (listItems_at (xs := #[]) (n := 0) (Heap.get?_push_size _ rfl) rfl ?_)
    rw [if_neg (by simp)]
    refine wpAny_bind (listUpdate_at (xs := #[]) (n := 0) (Heap.get?_push_size _ rfl) rfl ?_ (Nat.zero_le _) (by show (#[] ++ vs.toArray).size ≤ sizeLine + 1; simp only [Array.size_append, List.size_toArray, List.length_nil]; omega))
    exact wpAny_pure tail
  · refine wpAny_bind (wpAny_typeOf (T := "tuple") ⟨o, ho', hc⟩ ?_)
    have ht : (Value.type "tuple" == Value.type "tuple") = true := by rfl
    rw [if_pos (by rw [ht]; simp)]
    refine wpAny_bind (listItems_at ho' hd ?_)
    refine wpAny_bind (listItems_at (xs := #[]) (n := 0) (Heap.get?_push_size _ rfl) rfl ?_)
    rw [if_neg (by simp)]
    refine wpAny_bind (listUpdate_at (xs := #[]) (n := 0) (Heap.get?_push_size _ rfl) rfl ?_ (Nat.zero_le _) (by show (#[] ++ vs.toArray).size ≤ sizeLine + 1; simp only [Array.size_append, List.size_toArray, List.length_nil]; omega))
    exact wpAny_pure tail
theorem sorted_seq {T : String} {l : Addr} {o : Obj} {n : Nat} {Q : Value → Shared → Prop} (hT : T = "list" ∨ T = "tuple") (ho : s.heap.get? l = some o) (hc : o.cls = .type T) (hd : o.data = .seq vs.toArray n)
    (e : EachIs R vs bs) (er : EachIs (fun v b => ∃ as, Reads s.heap v (enc b) as) vs bs) (hal : AllAlike (bs.map enc)) (hk : Sortable (bs.map enc)) (hL : bs.length ≤ sizeLine)
    (hu : ∀ b, b ∈ bs → A.units + 2 + (enc b).depth < cLine)
    (h : ∀ out h' p k, out.length = bs.length → EachIs R out (bs.mergeSort (dataLe false enc)) → (∀ b o, s.heap.get? b = some o → h'.get? b = some o) → s.heap.objs.size ≤ p → h'.get? p = some (seqObj "list" (List.toArray out) k) → Q (.ref p) { s with heap := h' }) :
    wpAny (model prog w) A (call (.builtin "sorted") [.ref l]) Q E s := by
  have hlen : vs.length ≤ sizeLine := by rw [e.length]; exact hL
  refine call_function_entry_kw kind_sorted plain_sorted entry_sorted (args_sorted1 _) ?_
  unfold Builtin.«sorted»
  refine wpAny_bind (m := checkCount "sorted" 1 1 _) (wpAny_pure ?_)
  refine wpAny_bind (collect_at hT ho hc hd ?_ hlen)
  refine wpAny_bind (wpAny_newList ?_ hlen)
  generalize hh1 : (s.heap.push (seqObj "list" #[] 0)).update s.heap.objs.size (Obj.mapSeq (· ++ vs.toArray)) = h1
  have k1 : ∀ b o, s.heap.get? b = some o → h1.get? b = some o := fun b o q => by
    rw [← hh1]
    exact (Heap.get?_update_other _ _ (Nat.ne_of_gt (Heap.lt_size q))).trans (Heap.get?_push_of_some _ q)
  have hsz : s.heap.objs.size ≤ h1.objs.size := by
    rw [← hh1, Heap.size_update, size_push']
    exact Nat.le_succ _
  show wpAny _ _ _ _ _ { s with heap := h1.push (seqObj "list" vs.toArray 0) }
  have hat : (h1.push (seqObj "list" vs.toArray 0)).get? h1.objs.size = some (seqObj "list" vs.toArray 0) := Heap.get?_push_size _ rfl
  have old2 : ∀ b o, s.heap.get? b = some o → (h1.push (seqObj "list" vs.toArray 0)).get? b = some o := fun b o q => Heap.get?_push_of_some _ (k1 b o q)
  have er' : EachIs (fun v b => ∃ as, Reads (sortingHeap (h1.push (seqObj "list" vs.toArray 0)) h1.objs.size vs) v (enc b) as) vs bs := er.mono fun _ _ ⟨as, r⟩ =>
    ⟨as, PyProof.Rows.Reads.keeps (fun b o q => sortingHeap_old (Nat.ne_of_lt (Heap.lt_size (k1 b o q))) (old2 b o q)) r⟩
  have S : SortsAt prog w A.in1.in1 { s with heap := sortingHeap (h1.push (seqObj "list" vs.toArray 0)) h1.objs.size vs } (dataKind (sortingHeap (h1.push (seqObj "list" vs.toArray 0)) h1.objs.size vs) (bs.map enc)) vs :=
    SortsAt.data (s := { s with heap := sortingHeap (h1.push (seqObj "list" vs.toArray 0)) h1.objs.size vs }) (each_map (R := fun v d => ∃ as, Reads (sortingHeap (h1.push (seqObj "list" vs.toArray 0)) h1.objs.size vs) v d as) enc er') hal hk (bound_map hu)
  refine wpAny_bind (wpAny_holding (wpAny_call_entry_kw slot_list_sort ⟨_, hat, rfl⟩ entry_list_sort ?body (args_list_sort _)))
  case body =>
    refine wpAny_mono (list_sort_vals (s := { s with heap := h1.push (seqObj "list" vs.toArray 0) }) (P := fun f s' => f = .done (.ret .none) ∧ Q (.ref h1.objs.size) s') hat S hlen ⟨rfl, ?_⟩) (fun f s' hf => ?_) fun _ _ e => e
    · obtain ⟨k, hk2⟩ := sortedHeap_at (out := (sortVals (dataKind (sortingHeap (h1.push (seqObj "list" vs.toArray 0)) h1.objs.size vs) (bs.map enc)) false vs vs).toArray) hat
      refine h _ _ _ k (by rw [sortVals_length false rfl]; exact e.length) (sortVals_data false e er' hal) (fun b o q => ?_) hsz hk2
      have hb := Heap.lt_size (k1 b o q)
      rw [sortedHeap_old (Nat.ne_of_lt hb) (by rw [size_push']; exact Nat.lt_succ_of_lt hb)]
      exact old2 b o q
    · obtain ⟨rfl, hq⟩ := hf
      exact ⟨_, rfl, wpAny_pure ⟨_, rfl, hq⟩⟩
end
end W3

/-! ### tuple(reversed(a tuple)) -/
namespace RT
open PySem PySem.Spec PyProof.Rows
theorem nolen_rt : typeLookup (.type "reversed") "__len__" = pure none := by rw [typeLookup_type, builtinLookup_eq_fast]; kernel_rfl
theorem hint_rt : typeLookup (.type "reversed") "__length_hint__" = pure (some (.builtin "reversed.__length_hint__")) := by rw [typeLookup_type, builtinLookup_eq_fast]; kernel_rfl
theorem walks_rt {prog : Program} {w : World} {A : Around} (hh : A.handled = none) (I t : Addr) (hne : t ≠ I) (items : Array Value) (hn : items.size ≤ sizeLine) :
    Walks prog w A I [I, t] [I] items.size (fun i v => items[items.size - 1 - i]? = some v) (fun i h => i ≤ items.size ∧ IsRt h I t ((items.size : Int) - 1 - (i : Int)) ∧ IsTup h t items) where
  sub := fun b hb => by simp at hb; simp [hb]
  frame := fun _ _ _ x hk => ⟨x.1, x.2.1.at fun o e => hk I (by simp) o e, let ⟨o, ho, r⟩ := x.2.2; ⟨o, hk t (by simp) o ho, r⟩⟩
  item := fun i s Q E hi x hQ => by
    have e : (items.size : Int) - 1 - (i : Int) = ((items.size - 1 - i : Nat) : Int) := by omega
    have hit := x.2.1
    rw [e] at hit
    have hx : items[items.size - 1 - i]? = some (items[items.size - 1 - i]'(by omega)) := Array.getElem?_eq_getElem (by omega)
    refine next_rt_item hit x.2.2 hx hn fun h' hit' hs' => ?_
    have e2 : ((items.size - 1 - i : Nat) : Int) - 1 = (items.size : Int) - 1 - ((i + 1 : Nat) : Int) := by omega
    rw [e2] at hit'
    exact hQ _ h' (s.toks + 1) hx ⟨hi, hit', let ⟨o, ho, r⟩ := x.2.2; ⟨o, (hs'.2 t hne).trans ho, r⟩⟩ fun b o hb eo => hs'.extBut b o (fun h => hb (by simp [h])) eo
  done := fun s Q E x hQ => by
    have e : (items.size : Int) - 1 - (items.size : Int) = -1 := by omega
    have hit := x.2.1
    rw [e] at hit
    exact next_rt_end hh hit fun h' he' => hQ h' s.toks fun b o hb eo => he' b o (fun h => hb (by simp [h])) eo
  self := fun _ _ _ _ x hQ => iter_rt x.2.1 hQ
section
variable {prog : Program} {w : World} {A : Around} {E : Value → Shared → Prop} {s : Shared}
theorem slot_rt_hint : Slot "reversed" "__length_hint__" "reversed.__length_hint__" :=
  .of (owner := "reversed") (n := "__length_hint__") (by rw [typeLookup_type, builtinLookup_eq_fast]; kernel_rfl) (by decide +kernel) (by decide +kernel) (by decide +kernel)
    (by first | exact .inl (by decide +kernel) | exact .inr (by decide +kernel)) (by rw [isSubtype_type]; kernel_rfl)
theorem entry_rt_hint : entryFor table "reversed.__length_hint__" = some Builtin.«reversed.__length_hint__» := entryFor_of_tree (by kernel_rfl)
theorem args_rt_hint (a : Value) : argsOk "reversed.__length_hint__" ⟨[a], []⟩ := by
  unfold argsOk; rw [signature?_of (id := "reversed.__length_hint__") (n := ['_', '_', 't', 'n', 'i', 'h', '_', 'h', 't', 'g', 'n', 'e', 'l', '_', '_']) (o := ['d', 'e', 's', 'r', 'e', 'v', 'e', 'r']) (by kernel_rfl) owner_rt]; kernel_rfl
theorem bk_rt_hint : builtinKind "reversed.__length_hint__" = some .method := by decide +kernel
theorem bind_rt_hint (self : Value) : bindSpecial (.builtin "reversed.__length_hint__") self = pure (.builtin "reversed.__length_hint__", [self]) := by
  have hop : withoutEnding? "reversed.__length_hint__" "#opaque" = none := by decide +kernel
  have hdat : withoutEnding? "reversed.__length_hint__" "#data" = none := by decide +kernel
  simp only [bindSpecial, typeOf, builtinType, hop, hdat, bk_rt_hint]; rfl
/-- the hint's own call -/
theorem call_rt_hint {it t : Addr} {items : Array Value} {Q : Value → Shared → Prop} (hit : IsRt s.heap it t ((items.size : Int) - 1)) (ht : IsTup s.heap t items) (hn : items.size ≤ sizeLine)
    (hQ : ∀ k t', Q (.int (items.size : Nat) t') { s with toks := k }) : wpAny (model prog w) A (call (.builtin "reversed.__length_hint__") [.ref it]) Q E s := by
  obtain ⟨o, ho, hc, hd⟩ := id hit
  rw [sizeLine_eq] at hn
  refine wpAny_call_entry slot_rt_hint hit.typeIs entry_rt_hint ?_ (args_rt_hint _)
  unfold Builtin.«reversed.__length_hint__»
  refine wpAny_bind (wpAny_of_eq (a := Value.ref it) rfl ?_)
  try dsimp only
  refine wpAny_bind (wpAny_field ho hd (x := .ref t) rfl ?_)
  try dsimp only
  rw [if_neg (show ¬ (Value.ref t == Value.none) = true by rw [show (Value.ref t == Value.none) = false from rfl]; decide)]
  try dsimp only
  refine wpAny_bind (len_tuple ht (by omega) ?_)
  refine wpAny_bind (wpAny_of_eq (a := some ((items.size : Nat) : Int)) rfl ?_)
  try dsimp only
  refine wpAny_bind (wpAny_field (s := { s with toks := s.toks + 1 + 1 }) ho hd (x := rawInt ((items.size : Int) - 1)) rfl ?_)
  show wpAny _ _ (if (items.size : Int) < (items.size : Int) - 1 + 1 then _ else _) _ _ _
  rw [if_neg (by omega)]
  have e : (items.size : Int) - 1 + 1 = ((items.size : Nat) : Int) := by omega
  rw [e]
  exact wpAny_bind (wpAny_mkInt (wpAny_pure ⟨_, rfl, hQ _ _⟩))
theorem collect_rt {it t : Addr} {items : Array Value} {Q : List Value → Shared → Prop} (hh : A.handled = none) (hit : IsRt s.heap it t ((items.size : Int) - 1)) (ht : IsTup s.heap t items) (hne : t ≠ it) (hn : items.size ≤ sizeLine)
    (hQ : ∀ (h' : Heap) (tk : Nat) (acc : Array Value), (∀ b o, b ≠ it → s.heap.get? b = some o → h'.get? b = some o) → ItemsOf (fun i v => items[items.size - 1 - i]? = some v) acc items.size → Q acc.toList { s with heap := h', toks := tk }) :
    wpAny (model prog w) A (collect (.ref it)) Q E s := by
  have W := (walks_rt (prog := prog) (w := w) (A := A.in1) hh it t hne items hn).toS
  obtain ⟨oi, hoi, _⟩ := id hit
  obtain ⟨ol, hol, hol2⟩ := id ht
  have hSi : s.heap.objs.size ≠ it := Nat.ne_of_gt (Heap.lt_size hoi)
  have hSl : s.heap.objs.size ≠ t := Nat.ne_of_gt (Heap.lt_size hol)
  have hSf : s.heap.objs.size ∉ [it, t] := by simp only [List.mem_cons, List.not_mem_nil, or_false, not_or]; exact ⟨hSi, hSl⟩
  unfold collect
  refine wpAny_bind (wpAny_runValue (codeAny_builtin F.entry_proto_collect ?_))
  rw [Around.under_plainId F.plain_proto_collect _]
  show wpAny _ A.in1 (newList [] >>= fun l' => again (.builtin "list.__iadd__" ⟨[l', .ref it], []⟩)) _ _ s
  refine wpAny_bind (wpAny_newObj_type ?_)
  refine wpAny_pure ⟨plainId_quiet F.plain_list_iadd _, codeAny_builtin F.entry_list_iadd ?_⟩
  rw [Around.under_plainId F.plain_list_iadd _]
  have hS₁ : (s.heap.push { cls := .type "list", data := .seq ([] : List Value).toArray }).get? s.heap.objs.size = some { cls := .type "list", data := .seq ([] : List Value).toArray } := Heap.get?_push_size _ rfl
  have hit1 : IsRt (s.heap.push { cls := .type "list", data := .seq ([] : List Value).toArray }) it t ((items.size : Int) - 1) := hit.at fun o e => Heap.get?_push_of_some _ e
  have ht1 : IsTup (s.heap.push { cls := .type "list", data := .seq ([] : List Value).toArray }) t items := ⟨ol, Heap.get?_push_of_some _ hol, hol2⟩
  have hT : ({ s with heap := s.heap.push { cls := .type "list", data := .seq ([] : List Value).toArray } } : Shared).TypeIs (.ref it) "reversed" := IsRt.typeIs (s := { s with heap := s.heap.push { cls := .type "list", data := .seq ([] : List Value).toArray } }) hit1
  have h1 : Builtin.List.listSameRef (.ref s.heap.objs.size) (.ref it) = false := by simp [Builtin.List.listSameRef, hSi]
  show wpAny _ A.in1 (Builtin.List.listExtendWith (.ref s.heap.objs.size) (.ref it) (.ref s.heap.objs.size)) _ _ _
  unfold Builtin.List.listExtendWith
  refine wpAny_bind (wpAny_typeOf hT ?_)
  rw [if_neg (by rw [h1]; decide)]
  refine wpAny_bind (iter_rt (s := { s with heap := s.heap.push { cls := .type "list", data := .seq ([] : List Value).toArray } }) hit1 ?_)
  refine wpAny_bind (wpAny_holding ?_)
  unfold Builtin.List.listLengthHint
  refine wpAny_bind (wpAny_specialOf hT nolen_rt ?_)
  show wpAny _ A.in1 (specialOf (Value.ref it) (Str.ofString "__length_hint__") >>= _) _ _ _
  refine wpAny_bind (wpAny_specialOf hT hint_rt ?_)
  generalize hid : ("reversed.__length_hint__" : String) = id0
  wp_delta
  rw [show splitId id0 = some ("reversed", "__length_hint__") from by subst hid; decide +kernel]
  subst hid
  refine wpAny_bind (wpAny_isInstance (b := true) hT (by rw [isSubtype_type]; kernel_rfl) ?_)
  rw [if_neg (by decide)]
  show wpAny _ A.in1 (rule "list.length-hint.hint" >>= fun _ => bindSpecial (Value.builtin "reversed.__length_hint__") (Value.ref it) >>= _) _ _ _
  refine wpAny_bind (wpAny_rule (wpAny_bind (wpAny_of_eq (bind_rt_hint _) ?_)))
  refine wpAny_bind (wpAny_attempt (call_rt_hint (s := { s with heap := s.heap.push { cls := .type "list", data := .seq ([] : List Value).toArray } }) hit1 ht1 hn fun k t' => ?_))
  have hn' := hn
  rw [sizeLine_eq] at hn'
  have f1 : Builtin.List.listFitsIndex ((items.size : Nat) : Int) = true := by
    unfold Builtin.List.listFitsIndex
    simp only [Bool.and_eq_true, decide_eq_true_eq]
    omega
  have f2 : Builtin.List.listTooLong ((items.size : Nat) : Int).toNat = false := by
    rw [Int.toNat_natCast]
    exact L2.notLongL hn
  dsimp only
  generalize hN : ((items.size : Nat) : Int) = N at *
  refine wpAny_bind (wpAny_of_eq (a := some N) (by rfl) ?_)
  subst hN
  dsimp only
  rw [if_neg (by rw [f1]; decide), if_neg (by omega), if_neg (by rw [f2]; decide)]
  refine wpAny_pure ?_
  have e0 : ((items.size : Nat) : Int) - 1 - ((0 : Nat) : Int) = (items.size : Int) - 1 := by omega
  have oth : ∀ b o, b ≠ s.heap.objs.size → (s.heap.push { cls := .type "list", data := .seq ([] : List Value).toArray }).get? b = some o →
      (((s.heap.push { cls := .type "list", data := .seq ([] : List Value).toArray }).update s.heap.objs.size (Obj.mapSeq (·.push Value.none))).update s.heap.objs.size (Obj.mapSeq (·.pop))).get? b = some o :=
    fun b o hb e => (Heap.get?_update_other _ _ (Ne.symm hb)).trans ((Heap.get?_update_other _ _ (Ne.symm hb)).trans e)
  have fin : ∀ (h2 : Heap) (c : Nat), h2.get? s.heap.objs.size = some { cls := .type "list", data := .seq ([] : List Value).toArray c } → (∀ b o, b ≠ s.heap.objs.size → (s.heap.push { cls := .type "list", data := .seq ([] : List Value).toArray }).get? b = some o → h2.get? b = some o) →
      codeAny (model prog w) A (Code.builtin "list.extend.loop" ⟨[.ref s.heap.objs.size, .ref it, .ref s.heap.objs.size], []⟩) (fun r s' => match r with
        | .ok (.ret v) => wpAny (model prog w) A (match v with
            | .ref a => do
              let o ← load a
              match o.data with
              | .seq xs _ => pure xs.toList
              | _ => unsupported "internal:collect"
            | _ => unsupported "internal:collect") Q E s'
        | .ok _ => False
        | .error e => E e s') { s with heap := h2, toks := k } := fun h2 c hS2 k2 => by
    have hit2 : IsRt h2 it t ((items.size : Int) - 1) := hit1.at fun o e => k2 it o (Ne.symm hSi) e
    have ht2 : IsTup h2 t items := let ⟨o, ho, r⟩ := ht1; ⟨o, k2 t o (Ne.symm hSl) ho, r⟩
    refine codeAny_extend_loopS W hn _ hSf _ items.size 0 { s with heap := h2, toks := k } _ c rfl (Nat.zero_le _) ⟨Nat.zero_le _, by rw [e0]; exact hit2, ht2⟩ hS2 (ItemsOf.nil _) fun s' acc' c' hm hS' hacc => ?_
    show wpAny _ A (load s.heap.objs.size >>= _) _ _ s'
    refine wpAny_bind (wpAny_load hS' ?_)
    refine wpAny_pure ?_
    rw [Moved.eq_with hm]
    refine hQ s'.heap s'.toks acc' (fun b o hb e => hm.heap b o (fun hmem => ?_) (k2 b o (Nat.ne_of_lt (Heap.lt_size e)) (Heap.get?_push_of_some _ e))) hacc
    rcases List.mem_cons.mp hmem with e' | hmem
    · exact absurd (Heap.lt_size e) (by rw [e']; exact Nat.lt_irrefl _)
    · exact hb (List.mem_singleton.mp hmem)
  cases hb : (((items.size : Nat) : Int) != 0) with
  | false =>
    rw [if_neg (by decide)]
    exact wpAny_pure ⟨plainId_quiet F.plain_extend_loop _, fin _ _ hS₁ fun _ _ _ e => e⟩
  | true =>
    rw [if_pos (by decide)]
    refine wpAny_bind (wpAny_rule ?_)
    refine wpAny_bind ?_
    show wpAny _ A.in1 (updateSeq s.heap.objs.size (·.push .none) >>= fun _ => updateSeq s.heap.objs.size (·.pop)) _ _ _
    have hS₂ := Heap.get?_update_self (Obj.mapSeq (·.push Value.none)) hS₁ rfl
    refine wpAny_bind (wpAny_updateSeq hS₁ rfl ?_ (Nat.zero_le _) (Nat.succ_le_succ (Nat.zero_le _)))
    refine wpAny_updateSeq hS₂ rfl ?_ (by show 1 ≤ sizeLine; rw [sizeLine_eq]; decide) (Nat.zero_le _)
    have hS₃ := Heap.get?_update_self (Obj.mapSeq (·.pop)) hS₂ rfl
    exact wpAny_pure ⟨plainId_quiet F.plain_extend_loop _, fin _ _ hS₃ oth⟩
theorem code_tuple_new_rt {it t : Addr} {items : Array Value} {Q₁ : Value → Shared → Prop} (hh : A.handled = none) (hit : IsRt s.heap it t ((items.size : Int) - 1)) (ht : IsTup s.heap t items) (hne : t ≠ it) (hn : items.size ≤ sizeLine)
    (h : ∀ (h' : Heap) (tk : Nat) (acc : Array Value), (∀ b o, b ≠ it → s.heap.get? b = some o → h'.get? b = some o) → ItemsOf (fun i v => items[items.size - 1 - i]? = some v) acc items.size →
      Q₁ (.ref h'.objs.size) { s with heap := h'.push { cls := .type "tuple", data := .seq acc }, toks := tk }) :
    codeAny (model prog w) A (.call (.builtin "tuple.__new__") ⟨[.type "tuple", .ref it], []⟩) (wants Q₁ E) s := by
  refine codeAny_of_tree ?_
  show wpAny _ A.in1 (do checkBuiltinCall "tuple.__new__" ⟨[.type "tuple", .ref it], []⟩; again (.builtin "tuple.__new__" ⟨[.type "tuple", .ref it], []⟩)) _ _ s
  refine wpAny_bind (wpAny_of_eq (F.newCall_tuple_1 _) (wpAny_pure ⟨plainId_quiet F.plain_tuple_new _, codeAny_builtin F.entry_tuple_new ?_⟩))
  rw [Around.under_plainId F.plain_tuple_new _]
  have hsub := sub_tuple_self
  have hinit := init_tuple_lookup
  have hmh := madeHere_tuple
  have hTI : s.TypeIs (.ref it) "reversed" := hit.typeIs
  have hh1 : A.in1.handled = none := hh
  wp_walk using wpAny_typeOf hTI, collect_rt (A := A.in1) hh1 hit ht hne hn
  intro h' tk acc hk hacc
  show wpAny _ _ (Builtin.Tuple.tupleExact acc.toList.toArray >>= fun v => ret v) _ _ _
  unfold Builtin.Tuple.tupleExact
  refine wpAny_bind (wpAny_newObj_type ?_ (by show acc.toList.toArray.size ≤ sizeLine; simp only [Array.toArray_toList]; rw [hacc.1]; exact hn))
  refine wpAny_pure ?_
  have e : acc.toList.toArray = acc := by simp
  rw [e]
  exact h h' tk acc hk hacc
theorem call_tuple_rt {it t : Addr} {items : Array Value} {Q : Value → Shared → Prop} (hh : A.handled = none) (hit : IsRt s.heap it t ((items.size : Int) - 1)) (ht : IsTup s.heap t items) (hne : t ≠ it) (hn : items.size ≤ sizeLine)
    (hQ : ∀ (h' : Heap) (tk : Nat) (acc : Array Value), (∀ b o, b ≠ it → s.heap.get? b = some o → h'.get? b = some o) → ItemsOf (fun i v => items[items.size - 1 - i]? = some v) acc items.size →
      Q (.ref h'.objs.size) { s with heap := h'.push { cls := .type "tuple", data := .seq acc }, toks := tk }) :
    wpAny (model prog w) A (call (.type "tuple") [.ref it]) Q E s := by
  refine callType_codes (Q₁ := fun obj s₁ => s₁.TypeIs obj "tuple" ∧ Q obj s₁) F.called_tuple (F.typeCall_tuple_1 _) F.entry_object_init
    (code_tuple_new_rt (A := A.in1) hh hit ht hne hn fun h' tk acc hk hacc => ⟨⟨_, Heap.get?_push_size _ rfl, rfl⟩, hQ h' tk acc hk hacc⟩) fun obj s₁ h₁ => ?_
  exact ⟨h₁.1, F.args_object_init_2 obj _, object_init_meets F.called_tuple.init.lookup F.called_tuple.made (by decide) prog w A.in1 _ s₁ ⟨h₁.1, rfl, h₁.2⟩⟩
end
end RT
/-! ### enumerate of a tuple -/
namespace PySem
open Sem (wp)
open AutoSeq1 (wpAny_loadPart')
theorem meets_enumerate_newT (l : Addr) (items : Array Value) (n : Nat) (dct : Option Addr) (sl : Array (Option Value)) :
    Meets (Builtin.«enumerate.__new__» ⟨[.type "enumerate", .ref l], []⟩) (fun _ R s => s.heap.get? l = some { cls := .type "tuple", dict := dct, data := .seq items n, slots := sl } ∧
      R (.ok (.ret (.ref (s.heap.push { cls := .type "tuple_iterator", data := .fields #[.ref l, .int 0 0] }).objs.size)))
        { s with heap := (s.heap.push { cls := .type "tuple_iterator", data := .fields #[.ref l, .int 0 0] }).push { cls := .type "enumerate", data := .fields #[.none, .bool false, .ref s.heap.objs.size, rawInt 0, .none, .none] } }) :=
  .of_wp fun prog w A R s h => by
    obtain ⟨hp, g, d, tk, os⟩ := s; obtain ⟨hl, h⟩ := h
    have hsub := sub_enumerate
    have hL : Heap.IsTuple (Shared.heap ⟨hp, g, d, tk, os⟩) l items := ⟨_, hl, rfl, n, rfl⟩
    wp_walk using wpAny_loadPart' hl
    refine wpAny_stack_any fun st => wpAny_pure ?_
    split
    · rename_i c _ _ _ _ _
      cases (c == Value.type "enumerate")
      · wp_walk using wpAny_loadPart' hl, wpAny_pyIter_tuple hL
        exact ⟨_, rfl, h⟩
      · wp_walk using wpAny_loadPart' hl, wpAny_pyIter_tuple hL
        exact ⟨_, rfl, h⟩
    · wp_walk using wpAny_loadPart' hl, wpAny_pyIter_tuple hL
      exact ⟨_, rfl, h⟩
section
variable {prog : Program} {w : World} {A : Around} {E : Value → Shared → Prop} {s : Shared}
theorem call_enumerate_tuple {l : Addr} {items : Array Value} {Q : Value → Shared → Prop} (hL : s.heap.IsTuple l items)
    (h : ∀ h', IsEnum h' (s.heap.objs.size + 1) s.heap.objs.size 0 .none → h'.IsTupleIter s.heap.objs.size l 0 → h'.objs.size = s.heap.objs.size + 2 →
      (∀ b o, s.heap.get? b = some o → h'.get? b = some o) → Q (.ref (s.heap.objs.size + 1)) { s with heap := h' }) :
    wpAny (model prog w) A (call (.type "enumerate") [.ref l]) Q E s := by
  obtain ⟨⟨c, dct, dt, sl⟩, hl, hc, n, hd⟩ := hL
  replace hc : c = .type "tuple" := hc
  replace hd : dt = .seq items n := hd
  subst hc hd
  refine callType_new F.called_enumerate (by decide) (F.typeCall_enumerate_1 _) (F.newCall_enumerate_1 _) (fun obj => F.args_object_init_2 obj _) F.entry_enumerate_new
    (meets_enumerate_newT l items n dct sl) ⟨hl, ?_⟩
  have hz : (s.heap.push { cls := .type "tuple_iterator", data := .fields #[.ref l, .int 0 0] }).objs.size = s.heap.objs.size + 1 := Heap.size_push ..
  show _ ∧ _
  rw [hz]
  have he : IsEnum ((s.heap.push { cls := .type "tuple_iterator", data := .fields #[.ref l, .int 0 0] }).push
      { cls := .type "enumerate", data := .fields #[.none, .bool false, .ref s.heap.objs.size, rawInt 0, .none, .none] }) (s.heap.objs.size + 1) s.heap.objs.size 0 .none := by
    have := Heap.get?_push_size (s.heap.push { cls := .type "tuple_iterator", data := .fields #[.ref l, .int 0 0] })
      (o := { cls := .type "enumerate", data := .fields #[.none, .bool false, .ref s.heap.objs.size, rawInt 0, .none, .none] }) rfl
    rw [hz] at this; exact this
  refine ⟨⟨_, he, rfl⟩, h _ he ⟨_, Heap.get?_push_of_some _ (Heap.get?_push_size _ rfl), rfl, rfl⟩ (by rw [Heap.size_push, hz]) fun b o x => Heap.get?_push_of_some _ (Heap.get?_push_of_some _ x)⟩
end
end PySem
namespace W3
open PySem PySem.Spec PyProof.Rows L2 Evl
/-- the tuple at a as it stands at each turn, its items in new pairs with their places -/
def IteT (K : PySem.W.Frag) (a : Addr) : It :=
  ⟨fun i H => ∃ (xs : List V) (x : V), SqT K H a xs ∧ xs[i]? = some x, fun i H v H' => ∃ T x, v = .ref T ∧ H T = none ∧ H' = upd H T (.tup [.int (i : Nat), x]) ∧ ∀ xs, SqT K H a xs → xs[i]? = some x, fun i H => ∃ xs : List V, SqT K H a xs ∧ xs.length ≤ i⟩
theorem turn_enumT {P : Program} {w : World} {K : PySem.W.Frag} {elts : List Expr} {kk : Nat} {tpos : Pos} (a e it : Addr) :
    Turn P w K (.Tuple elts kk tpos) (IteT K a) [e, it] e (fun i h => (∃ old, IsEnum h e it ((i : Nat) : Int) old) ∧ h.IsTupleIter it a i ∧ e ≠ it ∧ a ≠ it ∧ a ≠ e) where
  mem := by simp
  obj := fun i h st b hb => by
    obtain ⟨⟨old, he⟩, ⟨o, ho, hc, hd⟩, _⟩ := st
    have e' : b = e ∨ b = it := by simpa using hb
    rcases e' with z | z
    · rw [z]; exact ⟨_, he, fun v q => nomatch q⟩
    · rw [z]; exact ⟨o, ho, fun v q => by rw [hd] at q; cases q⟩
  keep := fun i h h' st k => let ⟨⟨old, he⟩, hi, hne⟩ := st; ⟨⟨old, k e (by simp) _ he⟩, hi.at fun o q => k it (by simp) o q, hne⟩
  item := by
    intro X hP hw hK hc i pins s σ H E I hf st hg
    subst hP hw hK
    obtain ⟨⟨old, he⟩, hit, hne, hai, hae⟩ := st
    obtain ⟨xs, x, hq, hx⟩ := hg
    obtain ⟨its, rv, p, hz⟩ := I.tuple hq
    obtain ⟨u, hu, ru⟩ := rv.get hx
    have hel : e < s.heap.objs.size := Heap.lt_size he
    have hil : it < s.heap.objs.size := by obtain ⟨_, q, _⟩ := hit; exact Heap.lt_size q
    have hi : i < its.toArray.size := by
      have := (List.getElem?_eq_some_iff.mp hx).1
      rw [List.size_toArray, ← rv.length]
      exact this
    have D := Draws.tuple (prog := X.prog) (w := X.w) (A := X.A.in1) (I.ok.hd hc) it a hai its.toArray
    refine wpAny_pyNext_enum_itemD D he (show s.heap.IsTupleIter it a i ∧ s.heap.IsTuple a its.toArray from ⟨hit, p⟩) hi hne (by simp only [List.mem_cons, List.not_mem_nil, or_false, not_or]; exact ⟨hne, fun z => hae z.symm⟩) fun y h' tk hy ho hst' hT hsz hk => ?_
    have ey : y = u := by
      have h2 : its.toArray[i]? = some u := by simpa using hu
      have hy' : its.toArray[i]? = some y := hy
      rw [h2] at hy'
      exact (Option.some.inj hy').symm
    subst ey
    refine ⟨_, rfl, wpAny_letOwnedTupleGo_enum (s := { s with heap := h', toks := tk + 1 }) ho fun h'' he' sb => ?_⟩
    have hT2 : h''.get? s.heap.objs.size = some { cls := .type "tuple", data := .seq #[.int i tk, y] } := (sb.2 _ (Nat.ne_of_gt hel)).trans hT
    have new : ObjOk X.prog X.w (upd H s.heap.objs.size (.tup [.int (i : Nat), x])) h'' s.heap.objs.size (.tup [.int (i : Nat), x]) :=
      ⟨by show 2 ≤ sizeLine; decide, [.int i tk, y], .cons ⟨_, rfl⟩ (.cons ru .nil), ⟨_, hT2, rfl, _, rfl⟩⟩
    have I1 : Inv X pins σ (upd H s.heap.objs.size (.tup [.int (i : Nat), x])) { s with heap := h'', toks := tk + 1 } :=
      I.turnedNew (ch := [e, it]) (fun b ob hb q => (sb.2 b (fun z => hb (by simp [z]))).trans (hk b ob (fun z => hb (by simp [z])) (fun z => hb (by simp [z])) q)) hf (Nat.le_refl _) new
    refine ⟨.ref s.heap.objs.size, _, I1, rfl, ⟨_, x, rfl, I.hok.fresh (Nat.le_refl _), rfl, fun ys hy => by rw [I.tuple_inj hy hq]; exact hx⟩, ⟨⟨y, ?_⟩, hst'.1.at fun o q => (sb.2 it (Ne.symm hne)).trans q, hne, hai, hae⟩, fun b hb => ?_⟩
    · have e1 : ((i + 1 : Nat) : Int) = (i : Int) + 1 := by omega
      rw [e1]; exact he'
    · have hb' : b < s.heap.objs.size := by
        have e' : b = e ∨ b = it := by simpa using hb
        rcases e' with z | z
        · rw [z]; exact hel
        · rw [z]; exact hil
      rw [upd_ne (Nat.ne_of_lt hb')]
      exact (hf b hb).1
  done := by
    intro X hP hw hK hc i pins s σ H E I hf st hg
    subst hP hw hK
    obtain ⟨⟨old, he⟩, hit, hne, hai, hae⟩ := st
    obtain ⟨xs, hq, hx⟩ := hg
    obtain ⟨its, rv, p, hz⟩ := I.tuple hq
    obtain ⟨f0, f1, f2, f3, f4, f5⟩ := hf it (by simp)
    have hl := rv.length
    unfold pyNext
    have hT : s.TypeIs (.ref e) "enumerate" := ⟨_, he, rfl⟩
    refine wpAny_bind (wpAny_attempt (wpAny_callSpecial?_slot (name := Str.ofString "__next__") hT F.slot_enumerate_next
      (wpAny_call_entry F.slot_enumerate_next hT F.entry_enumerate_next ?_ (F.args_enumerate_next_1 _))))
    show wpAny _ _ (field (.ref e) 2 >>= _) _ _ _
    refine wpAny_bind (wpAny_field he rfl (x := .ref it) rfl ?_)
    refine wpAny_bind (wpAny_nextOf_tuple_end (I.ok.hd hc) hit (show s.heap.IsTuple a its.toArray from p) (by simp; omega) fun h' x he' hx' => ?_)
    obtain ⟨o, ho, hcl⟩ := hx'
    refine wpAny_bind (wpAny_isInstance (T := "StopIteration") (b := true) ⟨o, ho, hcl⟩ isSubtype_stop ?_)
    exact wpAny_pure ⟨rfl, I.turned (t' := s.toks) (fun b o hb q => he' b o hb q) f0 f1 f3 f4 f5⟩
  self := fun A i s Q E st h => let ⟨⟨_, he⟩, _⟩ := st; wpAny_pyIter_enum he h
def iEnumX (K : PySem.W.Frag) (te : TE) : TI := fun σ H R => te σ H fun v H1 => ∃ a xs, v = .ref a ∧ ((SqL K H1 a xs ∧ R (Ite K a) H1) ∨ (SqT K H1 a xs ∧ R (IteT K a) H1))
theorem pi_enumX {X : Cx} {e : Expr} {te : TE} {p pos tpos : Pos} {elts : List Expr} {kk : Nat} (hg : Gl X "enumerate") (hm : X.mg "enumerate" = none) (he : PE X e te) (hs : starEach [e] X.env = (false, eval e X.env) :: starEach [] X.env := by rfl) :
    PI X (.Tuple elts kk tpos) (.Call (.Name "enumerate" p) [e] [] pos) (iEnumX X.K te) := by
  refine ⟨fun pins s σ H R I h => ?_⟩
  refine Call_ (ld_blt I hg hm boot_enumerate (PyProof.Rows.callWith_type1 (args_cons (thn (he.run pins s σ H _ I h) fun u s1 ⟨v, H1, I1, r1, q1⟩ => args_nil ?_) hs) hs rfl))
  obtain ⟨a, xs, ev, q⟩ := q1
  subst ev
  obtain rfl : u = Value.ref a := r1
  have fresh : ∀ b ∈ [s1.heap.objs.size + 1, s1.heap.objs.size], s1.heap.objs.size ≤ b := fun b hb => by
    have e' : b = s1.heap.objs.size + 1 ∨ b = s1.heap.objs.size := by simpa using hb
    rcases e' with z | z
    · rw [z]; exact Nat.le_add_right _ _
    · rw [z]; exact Nat.le_refl _
  rcases q with ⟨hq, q⟩ | ⟨hq, q⟩
  · obtain ⟨its, rv, p', hz⟩ := I1.list hq
    refine call_enumerate_list p'.isList fun h' he hit hsz hk => wpAny_pyIter_enum he ?_
    have I2 : Inv X pins σ H1 { s1 with heap := h' } := I1.kept (t' := s1.toks) hk
    refine ⟨s1.heap.objs.size + 1, [s1.heap.objs.size + 1, s1.heap.objs.size], _, _, H1, rfl, I2, turn_enum a (s1.heap.objs.size + 1) s1.heap.objs.size, ⟨⟨.none, he⟩, hit, Nat.succ_ne_self _⟩, fun b hb => ?_, q⟩
    exact I1.fpOk (fresh b hb) (I1.hok.fresh (fresh b hb))
  · obtain ⟨its, rv, p', hz⟩ := I1.tuple hq
    obtain ⟨ot, hot, _⟩ := id p'
    have hlt := Heap.lt_size hot
    refine call_enumerate_tuple (show s1.heap.IsTuple a its.toArray from p') fun h' he hit hsz hk => wpAny_pyIter_enum he ?_
    have I2 : Inv X pins σ H1 { s1 with heap := h' } := I1.kept (t' := s1.toks) hk
    refine ⟨s1.heap.objs.size + 1, [s1.heap.objs.size + 1, s1.heap.objs.size], _, _, H1, rfl, I2, turn_enumT a (s1.heap.objs.size + 1) s1.heap.objs.size, ⟨⟨.none, he⟩, hit, Nat.succ_ne_self _, Nat.ne_of_lt hlt, Nat.ne_of_lt (Nat.lt_succ_of_lt hlt)⟩, fun b hb => ?_, q⟩
    exact I1.fpOk (fresh b hb) (I1.hok.fresh (fresh b hb))
theorem walk_enumT {K : PySem.W.Frag} {a : Addr} {xs : List V} : Walk (IteT K a) xs.length (fun H => SqT K H a xs) (YPair (fun i => some (.int (i : Nat))) (fun i => xs[i]?)) :=
  ⟨fun i H hi h => ⟨xs, xs[i], h, List.getElem?_eq_getElem hi⟩, fun H h => ⟨xs, h, Nat.le_refl _⟩, fun i H v H' hi h ⟨T, x, e1, e2, e3, e4⟩ => ⟨T, _, x, e1, e2, e3, rfl, e4 xs h⟩⟩
/-! ### tuple(reversed(t)) -/
def tTupRevT (K : PySem.W.Frag) (te : TE) : TE := fun σ H Q => te σ H fun v H1 => ∃ (a : Addr) (xs : List V), v = .ref a ∧ SqT K H1 a xs ∧ ∀ q, H1 q = none → Q (.ref q) (upd H1 q (.tup xs.reverse))
section
variable {X : Cx}
theorem pe_tupRevT {e : Expr} {te : TE} {p p2 pos pos2 : Pos} (hc : X.calm = true) (hg : Gl X "tuple") (hm : X.mg "tuple" = none) (hg2 : Gl X "reversed") (hm2 : X.mg "reversed" = none) (he : PE X e te)
    (hs : starEach [e] X.env = (false, eval e X.env) :: starEach [] X.env := by rfl)
    (hs2 : starEach [.Call (.Name "reversed" p2) [e] [] pos2] X.env = (false, eval (.Call (.Name "reversed" p2) [e] [] pos2) X.env) :: starEach [] X.env := by rfl) :
    PE X (.Call (.Name "tuple" p) [.Call (.Name "reversed" p2) [e] [] pos2] [] pos) (tTupRevT X.K te) := by
  refine ⟨fun pins s σ H Q I h => ?_⟩
  refine Call_ (ld_blt I hg hm boot_tuple (PyProof.Rows.callWith_type1 (args_cons (Call_ (ld_blt I hg2 hm2 PyProof.Rows.boot_reversed (PyProof.Rows.callWith_type1 (args_cons (thn (he.run pins s σ H _ I h) fun u s1 ⟨v, H1, I1, r1, q1⟩ => args_nil ?_) hs) hs rfl))) hs2) hs2 rfl))
  obtain ⟨a, xs, ev, hq, q⟩ := q1
  subst ev
  obtain rfl : u = Value.ref a := r1
  obtain ⟨its, rv, p', hz⟩ := I1.tuple hq
  have hl := rv.length
  have hn63 := line63
  have hn : its.toArray.size ≤ sizeLine := by rw [List.size_toArray, ← rv.length]; exact hz
  refine RT.call_reversed_tup p' (fun A E Q k => len_tuple p' (by simp only [List.size_toArray] <;> omega) k) (args_nil ?_)
  have k0 : ∀ b o, s1.heap.get? b = some o → (s1.heap.push (RT.rtObj a ((its.toArray.size : Int) - 1))).get? b = some o := fun b o e => Heap.get?_push_of_some _ e
  have I2 : Inv X pins σ H1 { s1 with heap := s1.heap.push (RT.rtObj a ((its.toArray.size : Int) - 1)), toks := s1.toks + 1 + 1 } := I1.kept k0
  obtain ⟨f0, f1, f2, f3, f4, f5⟩ := I1.fpOk (H' := H1) (b := s1.heap.objs.size) (Nat.le_refl _) (I1.hok.fresh (Nat.le_refl _))
  obtain ⟨ol, hol, hol2⟩ := id p'
  have hne : a ≠ s1.heap.objs.size := Nat.ne_of_lt (Heap.lt_size hol)
  refine RT.call_tuple_rt (s := { s1 with heap := s1.heap.push (RT.rtObj a ((its.toArray.size : Int) - 1)), toks := s1.toks + 1 + 1 }) (I1.ok.hd hc) ⟨_, Heap.get?_push_size _ rfl, rfl, rfl⟩ ⟨ol, Heap.get?_push_of_some _ hol, hol2⟩ hne hn fun h' tk acc hk hi => ?_
  have I3 : Inv X pins σ H1 { s1 with heap := h', toks := tk } := I2.turned (t' := tk) (fun b o hb e => hk b o hb e) f0 f1 f3 f4 f5
  refine ⟨.ref h'.objs.size, upd H1 h'.objs.size (.tup xs.reverse), I3.laid (t' := tk) (fun c o e => Heap.get?_push_of_some _ e) (Nat.le_refl _) (show ObjOk X.prog X.w _ _ _ (.tup xs.reverse) from ⟨by rw [List.length_reverse]; exact hz, acc.toList, RT.vals_rev rv hi, ?_⟩), rfl, q _ (I3.hok.fresh (Nat.le_refl _))⟩
  rw [Array.toArray_toList]
  exact IsTup.new _ _
/-! ### a dict copied, the sum of a dict's values -/
def rDictX : List V → Hp → VK → Prop := fun xs H Q => ∃ a kvs, xs = [V.ref a] ∧ Rd H a (.dK kvs) ∧ ∀ p, H p = none → Q (.ref p) (upd H p (.dK kvs))
theorem call_dictX : CallR X (.type "dict") rDictX := by
  intro pins s σ H xs us Q I r h
  obtain ⟨a, kvs, rfl, hq, q⟩ := h
  rw [Vals.ref1 r]
  exact d_copyOf I hq fun p s' hp I' => ⟨.ref p, _, I', rfl, q p hp⟩
def tSumVals (td : TE) : TE := fun σ H Q => td σ H fun x H1 => ∃ (a : Addr) (kvs : List (List Key × V)) (is : List Int), x = V.ref a ∧ Rd H1 a (.dT kvs) ∧ kvs.map (·.2) = is.map V.int ∧ Q (.int is.sum) H1
theorem preSum_take (is : List Int) : ∀ n : Nat, preSum (fun i => is.getD i 0) n = (is.take n).sum
  | 0 => rfl
  | n + 1 => by
    rw [preSum, preSum_take is n]
    by_cases h : n < is.length
    · rw [List.take_add_one, List.getElem?_eq_getElem h, List.getD_eq_getElem?_getD, List.getElem?_eq_getElem h]
      show _ = (List.take n is ++ [is[n]]).sum
      rw [List.sum_append_int]
      simp
    · rw [List.take_of_length_le (by omega), List.take_of_length_le (by omega), List.getD_eq_getElem?_getD, List.getElem?_eq_none (by omega)]
      simp
theorem pe_sumVals {o : Expr} {p pos apos mpos : Pos} {td : TE} (hc : X.calm = true) (hg : Gl X "sum") (hm : X.mg "sum" = none) (hd : PE X o td) (hbase : attributeBase o "values" X.env (eval o X.env) = eval o X.env := by rfl) (hline : (apos.endLine == mpos.line) = true := by rfl)
    (hse : starEach [Expr.Call (.Attribute o "values" apos) [] [] mpos] X.env = [(false, eval (Expr.Call (.Attribute o "values" apos) [] [] mpos) X.env)] := by rfl) :
    PE X (.Call (.Name "sum" p) [.Call (.Attribute o "values" apos) [] [] mpos] [] pos) (tSumVals td) := by
  refine ⟨fun pins s σ H Q I h => ?_⟩
  refine wpAny_Call_Name_kw (ld_blt I hg hm (u := .builtin "sum") (by first | rfl | decide +kernel) ?_ (by first | decide +kernel | decide) (by first | decide +kernel | decide))
  rw [hse]
  refine PySem.callWith_builtin1 (wpAny_Call_method0_late hbase hline (thn (hd.run pins s σ H _ I h) fun v s1 ⟨x, H1, I1, r1, a, kvs, is, ex, ha, hv, q⟩ => ?_))
  subst ex
  obtain rfl : v = Value.ref a := r1
  obtain ⟨hz, hsys, xs, rel, ob, es, ep, ho, ex, hdat, hes, _, _⟩ := dt_rd I1.hok ha
  have raw : s1.heap.DictRaw a es ep := ⟨ob, ho, ex, hdat⟩
  refine ⟨"dict", "dict.values", F.plainAttrs_dict, F.slot_dict_values, F.type_dict_values, ⟨ob, ho, ex.1⟩, fun b e => ?_, Calls.callWith_builtin rfl (PySem.evalArgs_none ?_)⟩
  · cases e
    exact ⟨ob, ho, ex.2.1⟩
  refine call_meetsIn F.slot_dict_values ⟨ob, ho, ex.1⟩ F.entry_dict_values (F.args_dict_values_1 _) (meets_dict_values_raw a hsys) ⟨⟨es, ep, raw⟩, ?_⟩
  have k1 : ∀ b u, s1.heap.get? b = some u → (s1.heap.push { cls := .type "dict_values", data := .fields #[.ref a] }).get? b = some u := fun b u e => Heap.get?_push_of_some _ e
  have raw1 : (s1.heap.push { cls := .type "dict_values", data := .fields #[.ref a] }).DictRaw a es ep := raw.at fun o e => k1 _ _ e
  have hlx : xs.length = kvs.length := (Paired.length rel).symm
  have hle : es.size = kvs.length := by
    have := congrArg List.length hes
    rw [List.length_map, Array.length_toList] at this
    omega
  have hval : ∀ (i : Nat) (v : Value), (∃ hi : i < es.size, v = es[i].val) → ∃ t, v = Value.int (is.getD i 0) t := fun i v ⟨hi, hk⟩ => by
    subst hk
    have hx : i < xs.length := by omega
    have e1 : es[i].val = xs[i].2.2 := by
      have e2 := entry_at hes i
      rw [Array.getElem?_eq_getElem hi, List.getElem?_eq_getElem hx] at e2
      have e3 := Option.some.inj e2
      rw [e3]
      rfl
    have hkv : i < kvs.length := by omega
    obtain ⟨b, hb, r1, r2, r3⟩ := paired_get rel (List.getElem?_eq_getElem hkv)
    rw [List.getElem?_eq_getElem hx] at hb
    have hb' := Option.some.inj hb
    subst hb'
    have e4 : (kvs.map (·.2))[i]? = some kvs[i].2 := by rw [List.getElem?_map, List.getElem?_eq_getElem hkv]; rfl
    rw [hv, List.getElem?_map] at e4
    obtain ⟨j, hj, e5⟩ := Option.map_eq_some_iff.mp e4
    rw [← e5] at r3
    obtain ⟨t, e6⟩ := r3
    refine ⟨t, ?_⟩
    rw [e1, e6, List.getD_eq_getElem?_getD, hj]
    rfl
  have hlt : a < s1.heap.objs.size := Heap.lt_size ho
  have hsz : (s1.heap.push { cls := .type "dict_values", data := .fields #[.ref a] }).objs.size = s1.heap.objs.size + 1 := Heap.size_push _ _
  refine call_sum_walkG (wpAny_pyIter_values_raw (v := s1.heap.objs.size) (d := a) ⟨_, Heap.get?_push_size _ rfl, rfl, rfl⟩ raw1 ?_)
  refine ⟨_, _, _, _, _, _, fun i => is.getD i 0, rfl, Walks.rawValues (A := X.A.in1) (I.ok.hd hc) (s1.heap.push { cls := .type "dict_values", data := .fields #[.ref a] }).objs.size a (by rw [hsz]; exact Nat.ne_of_lt (Nat.lt_succ_of_lt hlt)) es ep,
    ⟨⟨_, Heap.get?_push_size _ rfl, rfl, rfl⟩, raw1.at fun u e => Heap.get?_push_of_some _ e⟩, fun b hb => ?_, hval, fun h' tk t' hk => ?_⟩
  · show b < ((s1.heap.push _).push _).objs.size
    rw [Heap.size_push, Heap.size_push]
    rw [hsz] at hb
    rcases List.mem_cons.mp hb with e | hb
    · rw [e]
      exact Nat.lt_succ_self _
    · have e : b = a := List.mem_singleton.mp hb
      rw [e]
      exact Nat.lt_succ_of_lt (Nat.lt_succ_of_lt hlt)
  · refine ⟨.int is.sum, H1, I1.kept (t' := tk) fun b u e => hk b u (fun hmem => ?_) (Heap.get?_push_of_some _ (k1 b u e)), ⟨t', ?_⟩, q⟩
    · have e1 : b = (s1.heap.push { cls := .type "dict_values", data := .fields #[.ref a] }).objs.size := List.mem_singleton.mp hmem
      have e2 := Heap.lt_size e
      rw [hsz] at e1
      rw [e1] at e2
      exact absurd e2 (Nat.not_lt.mpr (Nat.le_succ _))
    · rw [preSum_take, List.take_of_length_le]
      have := congrArg List.length hv
      rw [List.length_map, List.length_map] at this
      omega
end
end W3

namespace W3
open PySem PySem.Spec PyProof.Rows L2 Evl PySem.W

/-! ### sorted -/
def rSortX (K : PySem.W.Frag) : List V → Hp → VK → Prop := fun xs H Q => ∃ (p : Addr) (vs : List V) (ds : List PyData), xs = [V.ref p] ∧ (SqL K H p vs ∨ SqT K H p vs) ∧ DpAll K H vs ds ∧ AllAlike ds ∧ Sortable ds ∧ (∀ d ∈ ds, d.depth ≤ 60) ∧
  ∀ l, H l = none → Q (.ref l) (upd H l (.lst (((vs.zip ds).mergeSort (dataLe false Prod.snd)).map Prod.fst)))
theorem each_vals {α : Type} {f : α → V} : ∀ {us : List Value} {zs : List α}, EachIs (fun (u : Value) (z : α) => RelV (f z) u) us zs → Vals (zs.map f) us
  | _, _, .nil => .nil
  | _, _, .cons h t => .cons h (each_vals t)
theorem vals_each : ∀ {vs : List V} {ds : List PyData} {us : List Value}, Vals vs us → vs.length = ds.length → EachIs (fun (u : Value) (z : V × PyData) => RelV z.1 u) us (vs.zip ds)
  | [], [], _, .nil, _ => .nil
  | _ :: _, _ :: _, _, .cons h t, e => .cons h (vals_each t (Nat.succ.inj e))
theorem DpAll.length {K : PySem.W.Frag} {H : Hp} : ∀ {vs : List V} {ds : List PyData}, DpAll K H vs ds → vs.length = ds.length
  | _, _, .nil => rfl
  | _, _, .cons _ t => congrArg Nat.succ (DpAll.length t)
theorem zip_snd {α β : Type} : ∀ {as : List α} {bs : List β}, as.length = bs.length → (as.zip bs).map Prod.snd = bs
  | [], [], _ => rfl
  | _ :: _, _ :: _, e => congrArg _ (zip_snd (Nat.succ.inj e))
section
variable {X : Cx}
theorem dp_each {pins : List (Addr × Obj)} {σ : L2.St} {H : Hp} {s : Shared} (I : Inv X pins σ H s) : ∀ {vs : List V} {ds : List PyData} {us : List Value}, DpAll X.K H vs ds → Vals vs us →
    EachIs (fun (u : Value) (z : V × PyData) => ∃ as, Reads s.heap u z.2 as) us (vs.zip ds)
  | _, _, _, .nil, .nil => .nil
  | _, _, _, .cons h t, .cons r q => .cons (Dp.reads I _ _ _ h r) (dp_each I t q)
theorem call_sortX {k : Nat} (hr : Room k X.A) : CallR X (.builtin "sorted") (rSortX X.K) := by
  intro pins s σ H xs us Q I r h
  obtain ⟨p, vs, ds, rfl, hq, hd, hal, hso, hdp, q⟩ := h
  rw [Vals.ref1 r]
  have main : ∀ (T : String) (o : Obj) (n : Nat) (its : List Value), (T = "list" ∨ T = "tuple") → s.heap.get? p = some o → o.cls = .type T → o.data = .seq its.toArray n → Vals vs its → vs.length ≤ sizeLine →
      wpAny (model X.prog X.w) X.A (call (.builtin "sorted") [.ref p]) (EP X pins σ Q) X.xe s := by
    intro T o n its hT ho hc hdat rv hz
    have hl := W3.DpAll.length hd
    refine sorted_seq (vs := its) (bs := vs.zip ds) (enc := Prod.snd) (R := fun u z => RelV z.1 u) hT ho hc hdat (vals_each rv hl) (dp_each I hd rv) (by rw [zip_snd hl]; exact hal) (by rw [zip_snd hl]; exact hso)
      (by rw [List.length_zip]; omega) (fun b hb => ?_) fun out h' a c hlen he hk hp hat => ?_
    · have h1 := hdp b.2 (by have := List.mem_map_of_mem (f := Prod.snd) hb; rw [zip_snd hl] at this; exact this)
      have := hr.un
      omega
    · have hlz : (vs.zip ds).length ≤ sizeLine := by rw [List.length_zip]; omega
      refine ⟨.ref a, _, I.laid (a := a) (o := .lst (((vs.zip ds).mergeSort (dataLe false Prod.snd)).map Prod.fst)) (t' := s.toks) hk hp ⟨?_, out, c, each_vals he, ?_⟩, rfl, q a (I.hok.fresh hp)⟩
      · rw [List.length_map, List.length_mergeSort]
        exact hlz
      · exact hat
  rcases hq with hq | hq
  · obtain ⟨its, rv, p', hz⟩ := I.list hq
    obtain ⟨o, ho, hc, n, hdat⟩ := p'.isList
    exact main "list" o n its (.inl rfl) ho hc hdat rv hz
  · obtain ⟨its, rv, p', hz⟩ := I.tuple hq
    obtain ⟨o, ho, hc, n, hdat⟩ := p'
    exact main "tuple" o n its (.inr rfl) ho hc hdat rv hz
end
section
variable {T : Tx} {G : List Sl} {te ta tb : TE} {x : Dt} {ds : List Dt} {H : Hp}
theorem RpAll.mem {α : Type} {enc : α → Dt} : ∀ {vs : List V} {xs : List α}, RpAll T H vs (xs.map enc) → ∀ p ∈ vs.zip xs, Rp T H p.1 (enc p.2)
  | _, [], h, p, hp => by cases h; exact nomatch hp
  | _, x :: xs, h, p, hp => by
    cases h with
    | cons r t =>
      rw [List.zip_cons_cons] at hp
      rcases List.mem_cons.mp hp with e | hp
      · subst e; exact r
      · exact RpAll.mem t p hp
theorem RpAll.ofMem {α : Type} {enc : α → Dt} : ∀ {zs : List (V × α)}, (∀ p ∈ zs, Rp T H p.1 (enc p.2)) → RpAll T H (zs.map Prod.fst) ((zs.map Prod.snd).map enc)
  | [], _ => .nil
  | z :: zs, h => .cons (h z List.mem_cons_self) (RpAll.ofMem fun p hp => h p (List.mem_cons_of_mem _ hp))
theorem RpAll.dps {α : Type} {enc : α → Dt} {fd : α → PyData} (hf : ∀ v x, Rp T H v (enc x) → Dp T.K H v (fd x)) : ∀ {vs : List V} {xs : List α}, RpAll T H vs (xs.map enc) → DpAll T.K H vs (xs.map fd)
  | _, [], h => by cases h; exact .nil
  | _, x :: xs, h => by
    cases h with
    | cons r t => exact .cons (hf _ _ r) (RpAll.dps hf t)
theorem en_sort {α : Type} {xs : List α} {enc : α → Dt} {fd : α → PyData} {le : α → α → Bool} (h : EvS T te G (xs.map enc)) (hf : ∀ H v x, Rp T H v (enc x) → Dp T.K H v (fd x)) (hle : ∀ a b, le a b = dataLe false fd a b)
    (hal : AllAlike (xs.map fd)) (hs : Sortable (xs.map fd)) (hd : ∀ x ∈ xs, (fd x).depth ≤ 60) : EvN T (tCB (rSortX T.K) (tCons te tNil)) G ((xs.mergeSort le).map enc) := fun B ad H s I Q q =>
  h B ad H s I _ fun v H1 e1 ⟨p, vs, ev, h1, r1⟩ => by
    subst ev
    have l1 : vs.length = xs.length := by rw [r1.length, List.length_map]
    refine ⟨p, vs, xs.map fd, rfl, ?_, (r1.mono (wo_ex _ _)).dps (hf H1), hal, hs, fun d hd' => ?_, fun l hl => q _ _ (e1.trans (Ex.new hl)) ⟨l, _, rfl, fresh_back e1 hl, upd_same, ?_⟩⟩
    · rcases h1 with h1 | h1
      · exact .inl (SqL.of h1)
      · exact .inr (SqT.of (wo_ex _ _ _ _ h1))
    · obtain ⟨y, hy, rfl⟩ := List.mem_map.mp hd'
      exact hd y hy
    · have e2 : vs.zip (xs.map fd) = (vs.zip xs).map fun z => (z.1, fd z.2) := by
        rw [List.zip_map_right]
        rfl
      have e3 : ((vs.zip (xs.map fd)).mergeSort (dataLe false Prod.snd)) = ((vs.zip xs).mergeSort fun a b => le a.2 b.2).map fun z => (z.1, fd z.2) := by
        rw [e2, sort_maps (r := fun a b => le a.2 b.2) (s := dataLe false Prod.snd) (fun z : V × α => (z.1, fd z.2)) fun a _ b _ => hle a.2 b.2]
      have e4 : xs.mergeSort le = ((vs.zip xs).mergeSort fun a b => le a.2 b.2).map Prod.snd := by
        rw [sort_maps (r := fun a b : V × α => le a.2 b.2) (s := le) Prod.snd fun a _ b _ => rfl, zip_snd l1]
      rw [e3, e4, List.map_map]
      refine (RpAll.ofMem (enc := enc) fun z hz => ?_).mono (ex_but hl)
      exact r1.mem z (List.mem_mergeSort.mp hz)
theorem en_sortI {ns : List Int} (h : EvS T te G (ns.map .int)) : EvN T (tCB (rSortX T.K) (tCons te tNil)) G ((ns.mergeSort fun a b => decide (a ≤ b)).map .int) :=
  en_sort (fd := .int) h (fun H v x r => by cases r; exact .int _) (fun a b => (congrFun (congrFun (dataLe_int (β := Int) fun a => a) a) b).symm) (AllAlike.of fun _ _ => by simp [alike]) (Sortable.others fun b => ⟨(fun z => nomatch z), fun _ z => nomatch z⟩)
    fun x _ => by simp [PyData.depth]
/-- pairs, the first before the second -/
def leP (p q : Int × Int) : Bool := decide (p.1 < q.1 ∨ (p.1 = q.1 ∧ p.2 ≤ q.2))
theorem Rp.pP {v : V} {p : Int × Int} (h : Rp T H v (dP p)) : Dp T.K H v (.tuple [.int p.1, .int p.2]) := by
  cases h with
  | tup h r => exact .tup (SqT.of h) (by
      cases r with
      | cons r1 r => cases r with
        | cons r2 r => cases r; cases r1; cases r2; exact .cons (.int _) (.cons (.int _) .nil))
theorem en_sortP {ps : List (Int × Int)} (h : EvS T te G (ps.map dP)) : EvN T (tCB (rSortX T.K) (tCons te tNil)) G ((ps.mergeSort leP).map dP) :=
  en_sort (fd := fun p : Int × Int => PyData.tuple [.int p.1, .int p.2]) (le := leP) h (fun H v x r => r.pP) (fun a b => (congrFun (congrFun (dataLe_ii (β := Int × Int) Prod.fst Prod.snd) a) b).symm) (AllAlike.of fun _ _ => by simp [alike, alikeAll])
    (Sortable.tuples fun b => ⟨_, _, rfl⟩) fun x _ => by simp [PyData.depth, PyData.depthAll]
theorem dataLe_pI : dataLe false W3.pI = fun p q : List Int => decide (p ≤ q) := by
  funext p q
  show (!dataLt (.tuple (q.map .int)) (.tuple (p.map .int))) = _
  rw [dataLt_tuple]
  show (!rowLt (q.map .int) (p.map .int)) = _
  rw [dataLt_ints]
  by_cases h : q < p
  · have h' : ¬ p ≤ q := fun r => List.not_lt.mpr r h
    simp [h, h']
  · have h' : p ≤ q := List.not_lt.mp h
    simp [h, h']
theorem en_sortT {L : List (List Int)} (h : EvS T te G (L.map dI)) (hn : ∀ l ∈ L, l ≠ []) : EvN T (tCB (rSortX T.K) (tCons te tNil)) G ((L.mergeSort fun a b => decide (a ≤ b)).map dI) :=
  en_sort (fd := W3.pI) h (fun H v x r => r.pI) (fun a b => (congrFun (congrFun dataLe_pI a) b).symm) (AllAlike.of fun a b => by
      show alike (.tuple (a.map .int)) (.tuple (b.map .int)) = true
      rw [alike, alike_ints])
    (.inl fun d hd => by
      obtain ⟨l, hl, rfl⟩ := List.mem_map.mp hd
      cases l with
      | nil => exact absurd rfl (hn _ hl)
      | cons a l => exact ⟨_, _, rfl⟩) fun x _ => by
    show (PyData.tuple (x.map .int)).depth ≤ 60
    rw [PyData.depth, depth_ints]
    omega

/-! ### enumerate, reversed, range -/
theorem ei_enum {α : Type} {ys : List α} {enc : α → Dt} (h : EvD T te G (.lst (ys.map enc)) ∨ EvD T te G (.tup (ys.map enc))) : EvI T (iEnumX T.K te) G (ys.zipIdx.map fun p => .tup [.int (p.2 : Nat), enc p.1]) := fun B ad H s I R q => by
  have get : ∀ {i : Nat} {d : Dt}, (ys.map enc)[i]? = some d → (ys.zipIdx.map fun p => Dt.tup [.int (p.2 : Nat), enc p.1])[i]? = some (.tup [.int (i : Nat), d]) := fun {i d} hi => by
    rw [List.getElem?_map] at hi
    obtain ⟨y, hy, rfl⟩ := Option.map_eq_some_iff.mp hi
    rw [List.getElem?_map, List.getElem?_zipIdx, hy]
    simp
  have step : ∀ {vs : List V} {O1 : Addr → Prop} {H1 : Hp} {B1 : Base}, RpAll T (wo H1 O1) vs (ys.map enc) → wo B1.Hb B1.O = wo H1 O1 → ∀ (i : Nat) (H' : Hp) (v : V) (H'' : Hp), YPair (fun i => some (.int (i : Nat))) (fun i => vs[i]?) i H' v H'' →
      Ex H' H'' ∧ ∃ x, (ys.zipIdx.map fun p => Dt.tup [.int (p.2 : Nat), enc p.1])[i]? = some x ∧ ∀ O : Addr → Prop, Ex (wo B1.Hb B1.O) (wo H' O) → (∀ a, O a → Mu (H' a)) → Rp T (wo H'' O) v x := fun {vs O1 H1 B1} a1 eo i H' v H'' ⟨Tt, x, y, ev, hT, eH, ex, ey⟩ => by
    subst ev eH
    obtain ⟨z, z1, z2⟩ := a1.getV ey
    refine ⟨Ex.new hT, _, get z1, fun O ho hm => ?_⟩
    have nT : ¬ O Tt := fun o => (hm Tt o).1 hT
    rw [eo] at ho
    refine .tup (xs := [x, y]) (by rw [wo_at nT]; exact upd_same) (.cons ?_ (.cons ?_ .nil))
    · cases ex
      exact .int _
    · exact z2.mono (ho.trans (wo_mono (Ex.new hT)))
  have len : (ys.zipIdx.map fun p => Dt.tup [.int (p.2 : Nat), enc p.1]).length = ys.length := by rw [List.length_map, List.length_zipIdx]
  rcases h with h | h
  · refine h B ad H s I _ fun v H1 e r => ?_
    have J := I.mono e
    cases r with
    | @lst pa vs _ h1 a1 =>
      have h0 := h1
      rw [← at_wo] at h0
      have h2 := wo_ex _ _ _ _ h0
      have lv : vs.length = ys.length := by rw [a1.length, List.length_map]
      refine ⟨_, vs, rfl, .inl ⟨SqL.of (wo_ex _ _ _ _ h1), q _ H1 e ?_⟩⟩
      have w := walk_enum (K := T.K) (a := pa) (xs := vs)
      rw [WkOk, len, ← lv]
      exact w.mono (fun H' e' => SqL.of (e' _ _ h2)) fun i H' v H'' hi hG y => step a1 at_wo i H' v H'' y
  · refine h B ad H s I _ fun v H1 e r => ?_
    have J := I.mono e
    cases r with
    | @tup pa vs _ h1 a1 =>
      have h0 := h1
      rw [← at_wo] at h0
      have h2 := wo_ex _ _ _ _ h0
      have lv : vs.length = ys.length := by rw [a1.length, List.length_map]
      refine ⟨_, vs, rfl, .inr ⟨SqT.of (wo_ex _ _ _ _ h1), q _ H1 e ?_⟩⟩
      have w := walk_enumT (K := T.K) (a := pa) (xs := vs)
      rw [WkOk, len, ← lv]
      exact w.mono (fun H' e' => SqT.of (e' _ _ h2)) fun i H' v H'' hi hG y => step a1 at_wo i H' v H'' y
theorem ei_rev (h : EvD T te G (.lst ds)) : EvI T (RT.iRevA T.K te) G ds.reverse := fun B ad H s I R q => h B ad H s I _ fun v H1 e r => by
  have J := I.mono e
  have r : Rp T (wo H1 (own B G ad)) v _ := r
  rw [← at_wo] at r
  cases r with
  | @lst pa vs _ h1 a1 =>
    have h2 := wo_ex _ _ _ _ h1
    refine ⟨_, vs, rfl, .inl ⟨SqL.of (J.rebase.ex _ _ h2), q _ H1 e ?_⟩⟩
    have w := walk_rev (K := T.K) (a := pa) (xs := vs)
    rw [WkOk, List.length_reverse, ← a1.length]
    exact w.mono (fun H' e' => SqL.of (e' _ _ h2)) fun i H' v H'' hi hG ⟨e1, e2⟩ => by
      subst e1
      obtain ⟨z, z1, z2⟩ := a1.getV e2
      refine ⟨Ex.refl _, z, ?_, fun O ho _ => z2.mono ho⟩
      rw [List.getElem?_reverse (by rw [← a1.length]; exact hi), ← a1.length]
      exact z1
theorem ev_tupRev (h : EvD T te G (.tup ds)) : EvD T (tTupRevT T.K te) G (.tup ds.reverse) := fun B ad H s I Q q => h B ad H s I _ fun v H1 e r => by
  cases r with
  | @tup pa vs _ h1 a1 =>
    exact ⟨pa, vs, rfl, SqT.of (wo_ex _ _ _ _ h1), fun l hl => q _ _ (e.trans (Ex.new hl)) (.tup (by rw [wo_at ((I.mono e).new hl)]; exact upd_same) (a1.reverse.mono (wo_mono (Ex.new hl))))⟩
theorem rp_rgV {n : Int} : RpAll T H (rgV 0 n) (rgD n.toNat) := by
  have e : rgV 0 n = ((List.range n.toNat).map fun i => ((i : Nat) : Int)).map V.int := by
    unfold rgV
    rw [List.map_map]
    refine congr (congrArg _ (funext fun i => ?_)) (by rw [Int.sub_zero])
    show V.int (0 + (i : Int)) = _
    rw [Int.zero_add]
    rfl
  have e2 : rgD n.toNat = ((List.range n.toNat).map fun i => ((i : Nat) : Int)).map Dt.int := by
    unfold rgD
    rw [List.map_map]
    rfl
  rw [e, e2]
  exact RpAll.of_ints _
theorem rgOk {n : Int} (h0 : 0 ≤ n) (h1 : n ≤ 100000) : RgOk 0 n := RgOk.of_le (Int.le_refl 0) (by omega) (by omega) h0
theorem ev_tupRg {n : Int} (h : EvD T te G (.int n)) (h0 : 0 ≤ n) (h1 : n ≤ 100000) : EvD T (tTupRg (tRg1 te)) G (.tup (rgD n.toNat)) := fun B ad H s I Q q => h B ad H s I _ fun v H1 e r => by
  cases r
  exact ⟨n, rfl, rgOk h0 h1, fun l hl => q _ _ (e.trans (Ex.new hl)) (.tup (by rw [wo_at ((I.mono e).new hl)]; exact upd_same) rp_rgV)⟩
theorem en_lstRg {n : Int} (h : EvD T te G (.int n)) (h0 : 0 ≤ n) (h1 : n ≤ 100000) : EvN T (tLstRg (tRg1 te)) G (rgD n.toNat) := fun B ad H s I Q q => h B ad H s I _ fun v H1 e r => by
  cases r
  exact ⟨n, rfl, rgOk h0 h1, fun l hl => q _ _ (e.trans (Ex.new hl)) ⟨l, _, rfl, fresh_back e hl, upd_same, rp_rgV⟩⟩
/-! ### a tuple of ints in a list of one's own -/
theorem ev_inL {L : List (List Int)} {ns : List Int} (ha : EvD T ta G (dI ns)) (hb : EvL T tb G (L.map dI)) : EvD T (tOp (rInX T.K) ta tb) G (.bl (decide (ns ∈ L))) :=
  ev_two ha hb fun B ad H H1 H2 s u v I I2 e1 e2 r1 ⟨p, vs, ev, hp, r2⟩ Q q => by
    subst ev
    refine .inr (.inl ⟨_, _, (r1.mono ((wo_ex _ _).trans e2)).pI, .lst (SqL.of hp) (r2.mono (wo_ex _ _)).pIs, shaped_pI _, shaped_lTI _, ?_⟩)
    rw [any_pI]
    exact q _ H2 (Ex.refl H2) (.bl _)
end
end W3

namespace W3
open PySem PySem.Spec PyProof.Rows L2 Evl

/-! ### tables: keys and ints -/
section
variable {κ : Type} [DecidableEq κ]
def lkp (kvs : List (κ × Int)) (k : κ) : Option Int := (kvs.find? fun p => decide (p.1 = k)).map (·.2)
def putL (kvs : List (κ × Int)) (k : κ) (v : Int) : List (κ × Int) := if (kvs.any fun p => decide (p.1 = k)) = true then kvs.map (fun p => if p.1 = k then (p.1, v) else p) else kvs ++ [(k, v)]
end
theorem valV_kvK (k : Int) : ∀ kvs : List (Int × Int), valV (kvK kvs) (.inl k) = (lkp kvs k).map V.int
  | [] => rfl
  | p :: r => by
    have ih := valV_kvK k r
    unfold valV lkp kvK at *
    rw [List.map_cons, List.find?_cons, List.find?_cons]
    by_cases h : p.1 = k
    · subst h; simp
    · have h' : ¬ (Sum.inl p.1 : Key) = Sum.inl k := fun z => h (Sum.inl.inj z)
      rw [decide_eq_false h', decide_eq_false h]
      exact ih
theorem inl_inj {a b : List Int} : (a.map (Sum.inl : Int → Key) = b.map Sum.inl) ↔ a = b := ⟨fun h => by
  induction a generalizing b with
  | nil => cases b with
    | nil => rfl
    | cons _ _ => simp at h
  | cons x xs ih => cases b with
    | nil => simp at h
    | cons y ys => simp at h; rw [h.1, ih h.2], fun h => by rw [h]⟩
theorem valV_kvT (k : List Int) : ∀ kvs : List (List Int × Int), valV (kvT kvs) (k.map Sum.inl) = (lkp kvs k).map V.int
  | [] => rfl
  | p :: r => by
    have ih := valV_kvT k r
    unfold valV lkp kvT at *
    rw [List.map_cons, List.find?_cons, List.find?_cons]
    by_cases h : p.1 = k
    · subst h; simp
    · have h' : ¬ p.1.map (Sum.inl : Int → Key) = k.map Sum.inl := fun z => h (inl_inj.mp z)
      rw [decide_eq_false h', decide_eq_false h]
      exact ih
theorem putK_kvK (k v : Int) (kvs : List (Int × Int)) : putK (kvK kvs) (.inl k) (.int v) = kvK (putL kvs k v) := by
  have ea : ((kvK kvs).any fun kv => decide (kv.1 = (Sum.inl k : Key))) = kvs.any fun p => decide (p.1 = k) := by
    unfold kvK
    rw [List.any_map]
    refine congrArg (fun f => kvs.any f) (funext fun p => ?_)
    simp
  unfold putK putL
  rw [ea]
  split
  · unfold kvK
    rw [List.map_map, List.map_map]
    refine List.map_congr_left fun p _ => ?_
    by_cases h : p.1 = k
    · simp [h]
    · simp [h]
  · unfold kvK
    rw [List.map_append]
    rfl
theorem putK_kvT (k : List Int) (v : Int) (kvs : List (List Int × Int)) : putK (kvT kvs) (k.map Sum.inl) (.int v) = kvT (putL kvs k v) := by
  have ea : ((kvT kvs).any fun kv => decide (kv.1 = k.map (Sum.inl : Int → Key))) = kvs.any fun p => decide (p.1 = k) := by
    unfold kvT
    rw [List.any_map]
    refine congrArg (fun f => kvs.any f) (funext fun p => ?_)
    show decide (p.1.map (Sum.inl : Int → Key) = k.map Sum.inl) = decide (p.1 = k)
    exact decide_eq_decide.mpr inl_inj
  unfold putK putL
  rw [ea]
  split
  · unfold kvT
    rw [List.map_map, List.map_map]
    refine List.map_congr_left fun p _ => ?_
    by_cases h : p.1 = k
    · have h' : p.1.map (Sum.inl : Int → Key) = k.map Sum.inl := inl_inj.mpr h
      simp only [Function.comp, if_pos h, if_pos h']
    · have h' : ¬ p.1.map (Sum.inl : Int → Key) = k.map Sum.inl := fun z => h (inl_inj.mp z)
      simp only [Function.comp, if_neg h, if_neg h']
  · unfold kvT
    rw [List.map_append]
    rfl
section
variable {T : Tx} {G : List Sl} {te ta tb tc : TE} {x : Dt} {ds : List Dt} {kk : List (Int × Int)} {kt : List (List Int × Int)} {P : Post} {t u : TS}
/-! ### reading a dict -/
def EvDK (T : Tx) (te : TE) (G : List Sl) (kvs : List (Int × Int)) : Prop := EvR T te G fun _ _ v H2 => ∃ a, v = .ref a ∧ Rd H2 a (.dK (kvK kvs))
def EvDT (T : Tx) (te : TE) (G : List Sl) (kvs : List (List Int × Int)) : Prop := EvR T te G fun _ _ v H2 => ∃ a, v = .ref a ∧ Rd H2 a (.dT (kvT kvs))
theorem edk {i : Nat} (h : G[i]? = some (.d (.dk kk))) : EvDK T (tVar i) G kk := fun B ad H s I Q q => ev_var h B ad H s I Q fun v H2 e r => q v H2 e (by
  cases r with
  | dk h1 => exact ⟨_, rfl, ex_rd (wo_ex _ _) h1⟩)
theorem edk_own {i : Nat} (h : G[i]? = some (.own (.dk kk))) : EvDK T (tVar i) G kk := fun B ad H s I Q q => by
  obtain ⟨e, _, _, h1⟩ := I.ow i _ h
  exact ⟨_, e, q _ H (Ex.refl H) ⟨_, rfl, .inl h1⟩⟩
theorem edt {i : Nat} (h : G[i]? = some (.d (.dt kt))) : EvDT T (tVar i) G kt := fun B ad H s I Q q => ev_var h B ad H s I Q fun v H2 e r => q v H2 e (by
  cases r with
  | dt h1 => exact ⟨_, rfl, ex_rd (wo_ex _ _) h1⟩)
theorem edt_u {i : Nat} (h : G[i]? = some (.d (.du kt))) : EvDT T (tVar i) G kt := fun B ad H s I Q q => ev_var h B ad H s I Q fun v H2 e r => q v H2 e (by
  cases r with
  | du h1 => exact ⟨_, rfl, .inl (wo_ex _ _ _ _ h1)⟩)
theorem edt_own {i : Nat} (h : G[i]? = some (.own (.dt kt))) : EvDT T (tVar i) G kt := fun B ad H s I Q q => by
  obtain ⟨e, _, _, h1⟩ := I.ow i _ h
  exact ⟨_, e, q _ H (Ex.refl H) ⟨_, rfl, .inl h1⟩⟩
theorem ev_dgK {k v : Int} (ha : EvDK T ta G kk) (hb : EvD T tb G (.int k)) (hx : lkp kk k = some v) : EvD T (tDGet ta tb) G (.int v) := fun B ad H s I Q q =>
  ha B ad H s I _ fun u H1 e1 ⟨a, ev, hd⟩ => hb B ad H1 s (I.mono e1) _ fun w H2 e2 r2 => by
    cases r2
    refine ⟨a, .int v, ev, .inl ⟨_, .inl k, ex_rd e2 hd, rfl, ?_⟩, q _ H2 (e1.trans e2) (.int v)⟩
    rw [valV_kvK, hx]
    rfl
theorem tup_keys {H : Hp} {v : V} {ns : List Int} (r : Rp T H v (dI ns)) : ∃ b, v = .ref b ∧ H b = some (.tup ((ns.map (Sum.inl : Int → Key)).map kV)) := by
  cases r with
  | tup h1 r1 =>
    refine ⟨_, rfl, ?_⟩
    rw [h1, r1.ints, List.map_map]
    rfl
theorem ev_dgT {k : List Int} {v : Int} (ha : EvDT T ta G kt) (hb : EvD T tb G (dI k)) (hx : lkp kt k = some v) : EvD T (tDGet ta tb) G (.int v) := fun B ad H s I Q q =>
  ha B ad H s I _ fun u H1 e1 ⟨a, ev, hd⟩ => hb B ad H1 s (I.mono e1) _ fun w H2 e2 r2 => by
    obtain ⟨b, rfl, hb⟩ := tup_keys r2
    refine ⟨a, .int v, ev, .inr ⟨_, k.map Sum.inl, b, ex_rd e2 hd, rfl, wo_ex _ _ _ _ hb, ?_⟩, q _ H2 (e1.trans e2) (.int v)⟩
    rw [valV_kvT, hx]
    rfl
theorem ev_sumV (ha : EvDT T ta G kt) : EvD T (tSumVals ta) G (.int (kt.map (·.2)).sum) := fun B ad H s I Q q =>
  ha B ad H s I _ fun u H1 e1 ⟨a, ev, hd⟩ => ⟨a, _, kt.map (·.2), ev, hd, by unfold kvT; rw [List.map_map, List.map_map]; rfl, q _ H1 e1 (.int _)⟩
/-! ### a new cell -/
def EvC (T : Tx) (te : TE) (G : List Sl) (c : Cell) : Prop := EvR T te G fun O H v H2 => ∃ p, v = .ref p ∧ H p = none ∧ CellOk T (wo H2 fun a => O a ∨ a = p) (H2 p) c
theorem ec_newK : EvC T tDNewK G (.dk []) := fun B ad H s I Q q p hp => q _ _ (Ex.new hp) ⟨p, rfl, hp, upd_same⟩
theorem ec_newT : EvC T tDNewT G (.dt []) := fun B ad H s I Q q p hp => q _ _ (Ex.new hp) ⟨p, rfl, hp, upd_same⟩
theorem ec_dict (ha : EvDK T ta G kk) : EvC T (tCB rDictX (tCons ta tNil)) G (.dk kk) := fun B ad H s I Q q =>
  ha B ad H s I _ fun u H1 e1 ⟨a, ev, hd⟩ => ⟨a, _, by rw [ev], hd, fun p hp => q _ _ (e1.trans (Ex.new hp)) ⟨p, rfl, fresh_back e1 hp, upd_same⟩⟩
theorem sq_asgC {i : Nat} {c : Cell} (h : EvC T te G c) (hi : i < G.length) (k : SG T u (G.set i (.own c)) P) : SG T (tSeq (tAsg te (gName i)) u) G P := fun B ad H s D I nx rt bk ct =>
  h B ad H s I _ fun v H1 e ⟨p, ev, hp, hc⟩ => by
    subst ev
    exact k B _ H1 _ D (I.setN e hp hi hc) nx rt bk ct
/-! ### writing a dict -/
theorem sg_dpK {i : Nat} {k v : Int} (hi : G[i]? = some (.own (.dk kk))) (hk : EvD T ta G (.int k)) (hv : EvD T tb G (.int v)) (hz : kk.length < 100000) (n : P.nx (G.set i (.own (.dk (putL kk k v))))) : SG T (sDPut (tVar i) ta tb) G P := fun B ad H s D I nx rt bk ct =>
  hv B ad H s I _ fun w H1 e1 r1 => by
    obtain ⟨e, _, _, h1⟩ := (I.mono e1).ow i _ hi
    refine ⟨_, e, hk B ad H1 s (I.mono e1) _ fun y H2 e2 r2 => ?_⟩
    cases r1
    cases r2
    have I2 := I.mono (e1.trans e2)
    refine ⟨ad i, _, rfl, .inl ⟨_, .inl k, e2 _ _ h1, rfl, sz_lt (by unfold kvK; rw [List.length_map]; exact hz), rfl⟩, ?_⟩
    rw [putK_kvK]
    exact nx _ ad _ s (I2.put hi (c' := .dk (putL kk k v)) rfl) n
theorem sg_dpT {i : Nat} {k : List Int} {v : Int} (hi : G[i]? = some (.own (.dt kt))) (hk : EvD T ta G (dI k)) (hv : EvD T tb G (.int v)) (hz : kt.length < 100000) (n : P.nx (G.set i (.own (.dt (putL kt k v))))) : SG T (sDPut (tVar i) ta tb) G P := fun B ad H s D I nx rt bk ct =>
  hv B ad H s I _ fun w H1 e1 r1 => by
    obtain ⟨e, _, _, h1⟩ := (I.mono e1).ow i _ hi
    refine ⟨_, e, hk B ad H1 s (I.mono e1) _ fun y H2 e2 r2 => ?_⟩
    cases r1
    obtain ⟨b, rfl, hb⟩ := tup_keys r2
    have I2 := I.mono (e1.trans e2)
    refine ⟨ad i, _, rfl, .inr ⟨_, k.map Sum.inl, b, e2 _ _ h1, rfl, wo_ex _ _ _ _ hb, sz_lt (by unfold kvT; rw [List.length_map]; exact hz), rfl⟩, ?_⟩
    rw [putK_kvT]
    exact nx _ ad _ s (I2.put hi (c' := .dt (putL kt k v)) rfl) n
theorem sq_dpK {i : Nat} {k v : Int} (hi : G[i]? = some (.own (.dk kk))) (hk : EvD T ta G (.int k)) (hv : EvD T tb G (.int v)) (hz : kk.length < 100000) (n : SG T u (G.set i (.own (.dk (putL kk k v)))) P) : SG T (tSeq (sDPut (tVar i) ta tb) u) G P :=
  sg_seq (fun G' => G' = G.set i (.own (.dk (putL kk k v)))) (sg_dpK hi hk hv hz rfl) fun G' e => e ▸ n
theorem sq_dpT {i : Nat} {k : List Int} {v : Int} (hi : G[i]? = some (.own (.dt kt))) (hk : EvD T ta G (dI k)) (hv : EvD T tb G (.int v)) (hz : kt.length < 100000) (n : SG T u (G.set i (.own (.dt (putL kt k v)))) P) : SG T (tSeq (sDPut (tVar i) ta tb) u) G P :=
  sg_seq (fun G' => G' = G.set i (.own (.dt (putL kt k v)))) (sg_dpT hi hk hv hz rfl) fun G' e => e ▸ n
end
/-! ### a dict locked -/
mutual
def noDu : Dt → Bool
  | .tup l => noDuL l
  | .lst l => noDuL l
  | .du _ => false
  | _ => true
def noDuL : List Dt → Bool
  | [] => true
  | d :: ds => noDu d && noDuL ds
end
def noDuS : Sl → Bool
  | .d x => noDu x
  | .own (.lst ds) => noDuL ds
  | .own (.ob _ fs) => noDuL (fs.map (·.2))
  | _ => true
theorem noDuL_of {α : Type} {f : α → Dt} (h : ∀ x, noDu (f x) = true) : ∀ l : List α, noDuL (l.map f) = true
  | [] => by rw [List.map_nil, noDuL]
  | x :: xs => by rw [List.map_cons, noDuL, h x, noDuL_of h xs, Bool.and_self]
theorem noDu_dI (ns : List Int) : noDu (dI ns) = true := by rw [dI, noDu]; exact noDuL_of (fun x => by rw [noDu] <;> exact fun _ z => nomatch z) ns
theorem noDu_lI (ns : List Int) : noDu (lI ns) = true := by rw [lI, noDu]; exact noDuL_of (fun x => by rw [noDu] <;> exact fun _ z => nomatch z) ns
section
variable {T : Tx} {H : Hp} {d : Addr} {od : Obj} {kt : List (List Key × V)}
theorem rd_lock {a : Addr} {u : HO} (hd : H d = some (.dT kt)) (r : Rd H a u) : Rd (upd H d (.frz od (.dT kt))) a u := by
  by_cases e : a = d
  · subst e
    rcases r with r | ⟨o, r⟩
    · rw [hd] at r
      cases r
      exact .inr ⟨od, upd_same⟩
    · rw [hd] at r
      cases r
  · rcases r with r | ⟨o, r⟩
    · exact .inl (by rw [upd_ne e]; exact r)
    · exact .inr ⟨o, by rw [upd_ne e]; exact r⟩
theorem rd_free {a : Addr} {u : HO} (hd : H d = some (.frz od (.dT kt))) (r : Rd H a u) (hu : ∀ o v, u ≠ .frz o v) : Rd (upd H d (.dT kt)) a u := by
  by_cases e : a = d
  · subst e
    rcases r with r | ⟨o, r⟩
    · rw [hd] at r
      exact absurd (Option.some.inj r).symm (hu _ _)
    · rw [hd] at r
      cases r
      exact .inl upd_same
  · rcases r with r | ⟨o, r⟩
    · exact .inl (by rw [upd_ne e]; exact r)
    · exact .inr ⟨o, by rw [upd_ne e]; exact r⟩
theorem at_lock {a : Addr} {u : HO} {o : HO} {w : HO} (hd : H d = some w) (h : H a = some u) (n : u ≠ w) : upd H d o a = some u := by
  rw [upd_ne fun e => by subst e; rw [hd] at h; exact n (Option.some.inj h).symm]
  exact h
mutual
theorem Rp.lock (hd : H d = some (.dT kt)) : ∀ {v : V} {x : Dt}, Rp T H v x → noDu x = true → Rp T (upd H d (.frz od (.dT kt))) v x
  | _, _, .non, _ => .non
  | _, _, .bl b, _ => .bl b
  | _, _, .int i, _ => .int i
  | _, _, .str x, _ => .str x
  | _, _, .tup h r, n => .tup (at_lock hd h fun z => nomatch z) (RpAll.lock hd r (by rw [noDu] at n; exact n))
  | _, _, .lst h r, n => .lst (at_lock hd h fun z => nomatch z) (RpAll.lock hd r (by rw [noDu] at n; exact n))
  | _, _, .drw h r1 r2, _ => .drw (at_lock hd h fun z => nomatch z) (Rp.lock hd r1 (by rw [noDu]; exact noDuL_of (fun p => by simp [dP, noDu, noDuL]) _)) (Rp.lock hd r2 (by rw [noDu]; exact noDuL_of (fun p => by simp [dP, noDu, noDuL]) _))
  | _, _, .dk h, _ => .dk (rd_lock hd h)
  | _, _, .dt h, _ => .dt (rd_lock hd h)
  | _, _, .du h, n => by rw [noDu] at n; cases n
  | _, _, .scr h, _ => .scr (h.imp (rd_lock hd) id)
theorem RpAll.lock (hd : H d = some (.dT kt)) : ∀ {vs : List V} {ds : List Dt}, RpAll T H vs ds → noDuL ds = true → RpAll T (upd H d (.frz od (.dT kt))) vs ds
  | _, _, .nil, _ => .nil
  | _, _, .cons r t, n => by
    rw [noDuL, Bool.and_eq_true] at n
    exact .cons (Rp.lock hd r n.1) (RpAll.lock hd t n.2)
end
mutual
theorem Rp.free (hd : H d = some (.frz od (.dT kt))) : ∀ {v : V} {x : Dt}, Rp T H v x → Rp T (upd H d (.dT kt)) v x
  | _, _, .non => .non
  | _, _, .bl b => .bl b
  | _, _, .int i => .int i
  | _, _, .str x => .str x
  | _, _, .tup h r => .tup (at_lock hd h fun z => nomatch z) (RpAll.free hd r)
  | _, _, .lst h r => .lst (at_lock hd h fun z => nomatch z) (RpAll.free hd r)
  | _, _, .drw h r1 r2 => .drw (at_lock hd h fun z => nomatch z) (Rp.free hd r1) (Rp.free hd r2)
  | _, _, .dk h => .dk (rd_free hd h fun _ _ z => nomatch z)
  | _, _, .dt h => .dt (rd_free hd h fun _ _ z => nomatch z)
  | _, _, .du h => .du (at_lock hd h fun z => nomatch z)
  | _, _, .scr h => .scr (h.imp (fun r => rd_free hd r fun _ _ z => nomatch z) id)
theorem RpAll.free (hd : H d = some (.frz od (.dT kt))) : ∀ {vs : List V} {ds : List Dt}, RpAll T H vs ds → RpAll T (upd H d (.dT kt)) vs ds
  | _, _, .nil => .nil
  | _, _, .cons r t => .cons (Rp.free hd r) (RpAll.free hd t)
end
theorem wo_out {O : Addr → Prop} {o : HO} (n : ¬ O d) : wo (upd H d o) O = upd (wo H O) d o := by
  funext a
  by_cases h : O a
  · rw [wo_in h, upd_ne (fun e => n (by rw [← e]; exact h)), wo_in h]
  · rw [wo_at h]
    by_cases e : a = d
    · subst e; rw [upd_same, upd_same]
    · rw [upd_ne e, upd_ne e, wo_at h]
variable {B : Base} {ad : Nat → Addr} {s : L2.St} {G : List Sl}
theorem mu_upd {a : Addr} {o : HO} (h : Mu (H a)) (ho : Mu (some o)) : Mu (upd H d o a) := by
  by_cases e : a = d
  · subst e; rw [upd_same]; exact ho
  · rw [upd_ne e]; exact h
theorem EnvOk.lock (I : EnvOk T B ad H s G) (hd : H d = some (.dT kt)) (nd : ¬ own B G ad d) (hn : ∀ y ∈ G, noDuS y = true) : EnvOk T ⟨wo (upd H d (.frz od (.dT kt))) (mine G ad), B.O⟩ ad (upd H d (.frz od (.dT kt))) s G := by
  have ew : own ⟨wo (upd H d (.frz od (.dT kt))) (mine G ad), B.O⟩ G ad = own B G ad := rfl
  have hw : wo H (own B G ad) d = some (.dT kt) := by rw [wo_at nd]; exact hd
  refine ⟨wo_ex _ _, I.len, fun a h => mu_upd (I.fo a h) ⟨(fun z => nomatch z), fun _ z => nomatch z⟩, fun i x h => ?_, fun i c h => ?_, I.inj⟩
  · obtain ⟨v, e, r⟩ := I.d i x h
    refine ⟨v, e, ?_⟩
    rw [ew, wo_out nd]
    exact r.lock hw (hn _ (List.mem_of_getElem? h))
  · obtain ⟨h1, h2, h3, h4⟩ := I.ow i c h
    have ne : ad i ≠ d := fun e => nd (.inr ⟨i, c, h, e⟩)
    refine ⟨h1, wo_in ⟨i, c, h, rfl⟩, h3, ?_⟩
    rw [ew, wo_out nd, upd_ne ne]
    have nn := hn _ (List.mem_of_getElem? h)
    cases c with
    | lst ds =>
      obtain ⟨vs, hv, r⟩ := h4
      exact ⟨vs, hv, r.lock hw nn⟩
    | dt _ => exact h4
    | dk _ => exact h4
    | ob dx fs =>
      obtain ⟨vs, hv, r⟩ := h4
      exact ⟨vs, hv, r.lock hw nn⟩
theorem EnvOk.unlock {ad0 : Nat → Addr} {G0 : List Sl} {H0 : Hp} {s0 : L2.St} (I0 : EnvOk T B ad0 H0 s0 G0) (hd0 : H0 d = some (.dT kt)) (nd : ¬ own B G0 ad0 d)
    (I : EnvOk T ⟨wo (upd H0 d (.frz od (.dT kt))) (mine G0 ad0), B.O⟩ ad H s G) : H d = some (.frz od (.dT kt)) ∧ EnvOk T B ad (upd H d (.dT kt)) s G := by
  have hb : (wo (upd H0 d (.frz od (.dT kt))) (mine G0 ad0)) d = some (.frz od (.dT kt)) := by
    rw [wo_at fun z => nd (.inr z), upd_same]
  have hd : H d = some (.frz od (.dT kt)) := I.ex _ _ hb
  have ne : ∀ i c, G[i]? = some (.own c) → ad i ≠ d := fun i c h e => by
    obtain ⟨_, h2, _⟩ := I.ow i c h
    rw [e] at h2
    rw [show (wo (upd H0 d (.frz od (.dT kt))) (mine G0 ad0)) d = none from h2] at hb
    cases hb
  have nd' : ¬ own B G ad d := fun z => by
    rcases z with z | ⟨i, c, h, e⟩
    · exact nd (.inl z)
    · exact ne i c h e
  have hw : wo H (own B G ad) d = some (.frz od (.dT kt)) := by rw [wo_at nd']; exact hd
  have old : ∀ a o, B.Hb a = some o → a ≠ d → (wo (upd H0 d (.frz od (.dT kt))) (mine G0 ad0)) a = some o := fun a o h e => by
    have nm : ¬ mine G0 ad0 a := fun ⟨i, c, h3, h4⟩ => by
      obtain ⟨_, h5, _⟩ := I0.ow i c h3
      rw [← h4, h5] at h
      exact nomatch h
    rw [wo_at nm, upd_ne e]
    exact I0.ex a o h
  refine ⟨hd, fun a o h => ?_, I.len, fun a h => mu_upd (I.fo a h) ⟨(fun z => nomatch z), fun _ z => nomatch z⟩, fun i x h => ?_, fun i c h => ?_, I.inj⟩
  · by_cases e : a = d
    · subst e
      rw [upd_same]
      have := I0.ex a o h
      rw [hd0] at this
      exact this
    · rw [upd_ne e]
      exact I.ex a o (old a o h e)
  · obtain ⟨v, e, r⟩ := I.d i x h
    refine ⟨v, e, ?_⟩
    rw [wo_out nd']
    exact Rp.free hw r
  · obtain ⟨h1, h2, h3, h4⟩ := I.ow i c h
    refine ⟨h1, ?_, h3, ?_⟩
    · cases q : B.Hb (ad i) with
      | none => rfl
      | some o =>
        have := old _ _ q (ne i c h)
        rw [show (wo (upd H0 d (.frz od (.dT kt))) (mine G0 ad0)) (ad i) = none from h2] at this
        cases this
    · rw [wo_out nd', upd_ne (ne i c h)]
      cases c with
      | lst ds =>
        obtain ⟨vs, hv, r⟩ := h4
        exact ⟨vs, hv, RpAll.free hw r⟩
      | dt _ => exact h4
      | dk _ => exact h4
      | ob dx fs =>
        obtain ⟨vs, hv, r⟩ := h4
        exact ⟨vs, hv, RpAll.free hw r⟩
end
section
variable {T : Tx} {G G0 : List Sl} {P : Post} {g : TG} {tl u : TS} {wi : TI}
theorem for_core {α : Type} {ys : List α} {enc : α → Dt} {J : It} {B : Base} {ad : Nat → Addr} {H1 : Hp} {s : L2.St} {D : Ends} (I1 : EnvOk T B ad H1 s G) (wk : WkOk T (B.at H1 G ad) J (ys.map enc)) (I : List α → List Sl → Prop) (hw : Wk G G0) (h0 : I [] G0)
    (step : ∀ pre y post G', ys = pre ++ y :: post → I pre G' → ∃ js G1, Bd T g js (enc y) G' G1 ∧ SG T tl G1 ⟨fun G2 => ∃ G3, Wk G2 G3 ∧ I (pre ++ [y]) G3, P.rt, P.nx, fun G2 => ∃ G3, Wk G2 G3 ∧ I (pre ++ [y]) G3⟩)
    (hd : ∀ G', I ys G' → P.nx G') (nx : ∀ G' ad' H' s', EnvOk T B ad' H' s' G' → P.nx G' → D.nx s' H') (rt : ∀ v H' x, Ex B.Hb H' → Rp T (wo H' B.O) v x → P.rt x → D.rt v H') :
    ∃ W : Nat → Nat → L2.St → Hp → Prop, (∃ m, W 0 m s H1) ∧ ∀ i m σ H, W i m σ H →
      (J.stop i H ∧ D.nx σ H) ∨ (J.go i H ∧ ∃ N : L2.St → Hp → Prop, (∀ σ' H', N σ' H' → ∃ m', m' < m ∧ W (i + 1) m' σ' H') ∧ ∀ x H', J.yld i H x H' → g x σ H' fun σ2 H2 => tl { D with nx := N, ct := N, bk := D.nx } σ2 H2) := by
  have eb := I1.baseEx
  refine for_it wk (fun i s' H' => i ≤ ys.length ∧ ∃ G' ad', EnvOk T (B.at H1 G ad) ad' H' s' G' ∧ I (ys.take i) G') ⟨Nat.zero_le _, G0, ad, I1.rebase.wk hw, h0⟩ (fun i s' H' _ ⟨_, G', ad', z, _⟩ => z.ex) (fun i v s' H' H'' hi ⟨hle, G', ad', z, hI⟩ ⟨e1, x, hx, hr⟩ => ?_) (fun s' H' ⟨_, G', ad', z, hI⟩ => ?_)
  · rw [List.length_map] at hi
    rw [List.getElem?_map] at hx
    have hy : ys[i]? = some ys[i] := List.getElem?_eq_getElem hi
    rw [hy] at hx
    cases hx
    obtain ⟨m1, m2⟩ := take_mid hy
    obtain ⟨js, G1, hb, hs⟩ := step _ _ _ G' m1 hI
    have z2 := z.mono e1
    have r : Rp T (wo H'' (own (B.at H1 G ad) G' ad')) v (enc ys[i]) := hr _ (z.dataEx) fun a ha => z.mu ha
    refine hb _ ad' H'' s' v z2 r _ fun s2 z3 _ _ => ?_
    have again : ∀ G2 ad2 H2 s2, EnvOk T (B.at H1 G ad) ad2 H2 s2 G2 → (∃ G3, Wk G2 G3 ∧ I (ys.take i ++ [ys[i]]) G3) → i + 1 ≤ ys.length ∧ ∃ G' ad', EnvOk T (B.at H1 G ad) ad' H2 s2 G' ∧ I (ys.take (i + 1)) G' := fun G2 ad2 H2 s2 z4 ⟨G3, w3, h3⟩ =>
      ⟨hi, G3, ad2, z4.wk w3, by rw [m2]; exact h3⟩
    exact hs _ ad' H'' s2 _ z3 again (fun v H' x e2 r2 k => rt v H' x (eb.trans e2) r2 k) (fun G2 ad2 H2 s2 z4 k => nx G2 ad2 H2 s2 (z4.unbase eb rfl) k) again
  · rw [List.length_map, List.take_length] at hI
    exact nx G' ad' H' s' (z.unbase eb rfl) (hd G' hI)
theorem sg_keys {i : Nat} {kvs : List (List Int × Int)} (hi : G[i]? = some (.d (.du kvs))) (hn : ∀ y ∈ G.set i (.d (.dt kvs)), noDuS y = true) (I : List (List Int × Int) → List Sl → Prop) (h0 : I [] (G.set i (.d (.dt kvs))))
    (step : ∀ pre y post G', kvs = pre ++ y :: post → I pre G' → ∃ js G1, Bd T g js (dI y.1) G' G1 ∧ SG T tl G1 ⟨fun G2 => ∃ G3, Wk G2 G3 ∧ I (pre ++ [y]) G3, P.rt, P.nx, fun G2 => ∃ G3, Wk G2 G3 ∧ I (pre ++ [y]) G3⟩)
    (hd : ∀ G', I kvs G' → P.nx G') : SG T (tLock (tFor (iKeys (tVar i)) g tl)) G P := fun B ad H s D I0 nx rt bk ct => by
  obtain ⟨v, e, r⟩ := I0.d i _ hi
  cases r with
  | @du a _ h1 =>
    have ha : H a = some (.dT (kvT kvs)) := wo_ex _ _ _ _ h1
    have nd : ¬ own B G ad a := fun z => by rw [wo_in z] at h1; cases h1
    have wkG : Wk G (G.set i (.d (.dt kvs))) := by
      have key : ∀ (G : List Sl) (i : Nat), G[i]? = some (.d (.du kvs)) → Wk G (G.set i (.d (.dt kvs))) := by
        intro G
        induction G with
        | nil => intro i h; simp at h
        | cons b bs ih =>
          intro i h
          cases i with
          | zero => simp at h; subst h; exact .cons (.lk kvs) (Wk.refl bs)
          | succ j => exact .cons (.rfl b) (ih j (by simpa using h))
      exact key G i hi
    have I1 := I0.wk wkG
    have nd1 : ¬ own B (G.set i (.d (.dt kvs))) ad a := fun z => nd (own_set a z)
    refine ⟨a, .dT (kvT kvs), ha, trivial, fun od => ?_⟩
    have I2 := I1.lock (od := od) ha nd1 hn
    have un : ∀ {G' ad' H' s'}, EnvOk T ⟨wo (upd H a (.frz od (.dT (kvT kvs)))) (mine (G.set i (.d (.dt kvs))) ad), B.O⟩ ad' H' s' G' → H' a = some (.frz od (.dT (kvT kvs))) ∧ EnvOk T B ad' (upd H' a (.dT (kvT kvs))) s' G' := fun z => I1.unlock ha nd1 z
    refine ⟨_, e, a, od, rfl, .inr ⟨kvs |> kvT, upd_same, ?_⟩⟩
    refine for_core (P := P) (enc := fun y : List Int × Int => dI y.1) (ys := kvs) I2 ?_ I (Wk.refl _) h0 step hd (fun G' ad' H' s' z k => ?_) fun v H' x ex rx k => ?_
    · rw [WkOk, List.length_map]
      have w := walk_keysT (d := a) (o := od) (kvs := kvT kvs)
      have len : (kvT kvs).length = kvs.length := by unfold kvT; rw [List.length_map]
      rw [len] at w
      refine w.mono (fun H' e' => e' _ _ ?_) fun j H' v H'' hj hG ⟨e1, k, v2, q, hk, ev, hq⟩ => ?_
      · show wo _ (mine _ ad) a = _
        rw [wo_at fun z => nd1 (.inr z)]
        exact upd_same
      · subst e1 ev
        unfold kvT at hk
        rw [List.getElem?_map] at hk
        obtain ⟨y, hy, e2⟩ := Option.map_eq_some_iff.mp hk
        cases e2
        refine ⟨Ex.refl _, _, by rw [List.getElem?_map, hy]; rfl, fun O ho hm => ?_⟩
        have nq : ¬ O q := fun z => (hm q z).2 _ hq
        refine .tup (xs := y.1.map V.int) ?_ (RpAll.of_ints _)
        rw [wo_at nq, hq, List.map_map]
        rfl
    · obtain ⟨h2, h3⟩ := un z
      exact ⟨h2, nx G' ad' _ s' h3 k⟩
    · have hb : (wo (upd H a (.frz od (.dT (kvT kvs)))) (mine (G.set i (.d (.dt kvs))) ad)) a = some (.frz od (.dT (kvT kvs))) := by
        rw [wo_at fun z => nd1 (.inr z), upd_same]
      have h2 : H' a = some (.frz od (.dT (kvT kvs))) := ex _ _ hb
      refine ⟨h2, rt v _ x (fun b o h => ?_) ?_ k⟩
      · by_cases eb : b = a
        · subst eb
          rw [upd_same]
          have := I0.ex b o h
          rw [ha] at this
          exact this
        · rw [upd_ne eb]
          refine ex b o ?_
          show wo _ (mine _ ad) b = _
          have nm : ¬ mine (G.set i (.d (.dt kvs))) ad b := fun ⟨j, c, h3, h4⟩ => by
            obtain ⟨_, h5, _⟩ := I1.ow j c h3
            rw [← h4, h5] at h
            exact nomatch h
          rw [wo_at nm, upd_ne eb]
          exact I0.ex b o h
      · have na : ¬ B.O a := fun z => nd (.inl z)
        rw [wo_out na]
        exact Rp.free (by rw [wo_at na]; exact h2) rx
theorem sq_keys {i : Nat} {kvs : List (List Int × Int)} (hi : G[i]? = some (.d (.du kvs))) (hn : ∀ y ∈ G.set i (.d (.dt kvs)), noDuS y = true) (I : List (List Int × Int) → List Sl → Prop) (h0 : I [] (G.set i (.d (.dt kvs))))
    (step : ∀ pre y post G', kvs = pre ++ y :: post → I pre G' → ∃ js G1, Bd T g js (dI y.1) G' G1 ∧ SG T tl G1 ⟨fun G2 => ∃ G3, Wk G2 G3 ∧ I (pre ++ [y]) G3, P.rt, fun G2 => I kvs G2, fun G2 => ∃ G3, Wk G2 G3 ∧ I (pre ++ [y]) G3⟩)
    (hd : ∀ G', I kvs G' → SG T u G' P) : SG T (tSeq (tLock (tFor (iKeys (tVar i)) g tl)) u) G P := sg_seq (fun G' => I kvs G') (sg_keys (P := { P with nx := fun G' => I kvs G' }) hi hn I h0 step fun G' h => h) hd
end
end W3

namespace W3
open PySem PySem.Spec PyProof.Rows L2 Evl

/-! ### a drawing is made -/
/-- statements that leave the slots and the cells' places as they are -/
def SX (T : Tx) (t : TS) (G G' : List Sl) : Prop :=
  ∀ (B : Base) (ad : Nat → Addr) (H : Hp) (s : L2.St) (D : Ends), EnvOk T B ad H s G → (∀ H', EnvOk T B ad H' s G' → D.nx s H') → t D s H
section
variable {T : Tx} {G G' G1 : List Sl} {te ta tb : TE} {x : Dt} {t u : TS} {c : TT} {K : PySem.W.Frag}
theorem sx_seq (h : SX T t G G1) (k : SX T u G1 G') : SX T (tSeq t u) G G' := fun B ad H s D I n => h B ad H s _ I fun H' I' => k B ad H' s D I' n
theorem sx_guard (h : EvT T c G false) : SX T (tIfS c t tNext) G G := fun B ad H s D I n => h B ad H s I _ fun H1 e => n H1 (I.mono e)
theorem putF_new {f : Str} {y : V} : ∀ {fs : List (Str × V)}, f ∉ fs.map (·.1) → putF f y fs = fs ++ [(f, y)]
  | [], _ => rfl
  | (g, x) :: r, h => by
    rw [List.map_cons, List.mem_cons, not_or] at h
    rw [putF, if_neg fun e => h.1 e.symm, putF_new h.2]
    rfl
theorem zip_fst {α β : Type} : ∀ {as : List α} {bs : List β}, as.length = bs.length → (as.zip bs).map Prod.fst = as
  | [], [], _ => rfl
  | _ :: _, _ :: _, e => congrArg _ (zip_fst (Nat.succ.inj e))
theorem sx_fld {i : Nat} {dx : Addr} {fs : List (Str × Dt)} {f : Str} (cl : Cls T.K T.C) (na : NoAttr T.K T.C f) (hi : G[i]? = some (.own (.ob dx fs))) (h : EvD T te G x) (hf : f ∉ fs.map (·.1)) (hz : fs.length < 900) :
    SX T (sFld T.K (tVar i) te f) G (G.set i (.own (.ob dx (fs ++ [(f, x)])))) := fun B ad H s D I n => h B ad H s I _ fun v H1 e r => by
  have I1 := I.mono e
  obtain ⟨e1, _, _, vs, g1, g2⟩ := I1.ow i _ hi
  have lv : (fs.map (·.1)).length = vs.length := by rw [g2.length, List.length_map, List.length_map]
  refine ⟨_, e1, _, T.C, dx, _, rfl, g1, cl, na, ?_, ?_⟩
  · rw [List.length_zip, List.length_map]
    omega
  · have ef : putF f v ((fs.map (·.1)).zip vs) = ((fs ++ [(f, x)]).map (·.1)).zip (vs ++ [v]) := by
      rw [putF_new (by rw [zip_fst lv]; exact hf), List.map_append, List.zip_append lv]
      rfl
    rw [ef]
    refine n _ (I1.put hi (c' := .ob dx (fs ++ [(f, x)])) ⟨vs ++ [v], rfl, ?_⟩)
    rw [List.map_append]
    exact g2.append (.cons r .nil)
theorem RpAll.look {H : Hp} {f : Str} : ∀ {fs : List (Str × Dt)} {vs : List V}, RpAll T H vs (fs.map (·.2)) → fs.lookup f = some x → ∃ v, ((fs.map (·.1)).zip vs).lookup f = some v ∧ Rp T H v x
  | [], _, _, h => by cases h
  | (g, y) :: fs, _, r, h => by
    cases r with
    | cons r1 t =>
      rw [List.map_cons, List.zip_cons_cons]
      rw [List.lookup_cons] at h
      rw [List.lookup_cons]
      cases q : f == g with
      | true =>
        rw [q] at h
        cases h
        exact ⟨_, rfl, r1⟩
      | false =>
        rw [q] at h
        exact RpAll.look t h
theorem ev_fldO {i : Nat} {dx : Addr} {fs : List (Str × Dt)} {f : Str} (cl : Cls T.K T.C) (na : NoAttr T.K T.C f) (hi : G[i]? = some (.own (.ob dx fs))) (hx : fs.lookup f = some x) : EvD T (tFld T.K (tVar i) f) G x := fun B ad H s I Q q => by
  obtain ⟨e1, _, _, vs, g1, g2⟩ := I.ow i _ hi
  obtain ⟨v, hv, r⟩ := g2.look hx
  exact ⟨_, e1, _, _, _, _, v, rfl, g1, cl, na, hv, q v H (Ex.refl H) r⟩
end
/-- the promise of __init__: the arguments, the drawing that stands behind it -/
def spMk (T : Tx) (S : List Dt → Dt → Prop) : Sp := fun vs H Q _ => ∃ (O : Addr → Prop) (x dx : Addr) (ws : List V) (ds : List Dt) (y : Dt), vs = .ref x :: ws ∧ (∀ a, O a → Mu (H a)) ∧ ¬ O x ∧ H x = some (.ins T.C dx []) ∧ RpAll T (wo H fun a => O a ∨ a = x) ws ds ∧ S ds y ∧
  ∀ H2, Ex (wo H (· = x)) H2 → Rp T (wo H2 O) (.ref x) y → Q .non H2
structure GoodM (P : Program) (w : World) (T : Tx) (mg : Str → Option Value) (base : Heap) (k : Nat) (f : Addr) (ps : List Str) (S : List Dt → Dt → Prop) : Prop where
  ex : ∃ fd, FnOk P w T.K mg base CX0 k f fd ps (spMk T S) ∧ Binds T.K fd ps []
theorem GoodM.mono {P : Program} {w : World} {T : Tx} {mg : Str → Option Value} {base : Heap} {f : Addr} {j k : Nat} {ps : List Str} {S : List Dt → Dt → Prop} (g : GoodM P w T mg base j f ps S) (h : j ≤ k) : GoodM P w T mg base k f ps S := ⟨let ⟨fd, a, b⟩ := g.ex; ⟨fd, a.mono h, b⟩⟩
section
variable {X : Cx} {T : Tx} {k : Nat} {f : Addr} {ps : List Str} {S : List Dt → Dt → Prop} {x : Str} {p pos : Pos} {e : Expr} {es : List Expr} {t : TA} {G : List Sl} {ds : List Dt} {y : Dt} {E : XK}
theorem pe_makeG (M : Mk X.K T.C f) (g : GoodM X.prog X.w ⟨X.K, T.C⟩ X.mg X.base k f ps S) (hr : Room (k + 1) X.A) (hg : Gl X x) (hm : X.mg x = some (.ref T.C)) (ha : PA X (e :: es) t)
    (hdb : (x == ("__debug__" : Str)) = false := by decide) (he : starEach (e :: es) X.env = (false, eval e X.env) :: starEach es X.env := by rfl) (hpl : (backTo pos (starEach es X.env)).any (·.1) = false := by rfl) :
    PE X (.Call (.Name x p) (e :: es) [] pos) (tMake T.C (spMk ⟨X.K, T.C⟩ S) [] E0 t) := by
  obtain ⟨fd, F, B⟩ := g.ex
  exact pe_make M F hr hg hm B .nil pass0 ha hdb he hpl
theorem ev_make (h : EvA T t G ds) (hs : S ds y) : EvD T (tMake T.C (spMk T S) [] E t) G y := fun B ad H s I Q q =>
  h B ad H s I _ fun vs H1 e r x dx hx hdx hne => by
    have I1 := I.mono e
    have nx : ¬ own B G ad x := I1.new hx
    have e2 : Ex H1 (upd (upd H1 dx (.own x)) x (.ins T.C dx [])) := fun a o h => by
      rw [upd_ne (ne_of_none h hx), upd_ne (ne_of_none h hdx)]
      exact h
    refine ⟨own B G ad, x, dx, vs, ds, y, by rw [List.append_nil], fun a ha => ?_, nx, upd_same, r.mono fun a o h => ?_, hs, fun H2 e3 ry => ⟨rfl, q _ H2 (e.trans fun a o h => e3 a o ?_) ry⟩⟩
    · have m := I1.mu ha
      cases q : H1 a with
      | none => exact absurd q m.1
      | some o => rw [e2 a o q]; rw [q] at m; exact m
    · have h1 : H1 a = some o := wo_ex _ _ _ _ h
      have no : ¬ (own B G ad a ∨ a = x) := fun z => by
        rcases z with z | z
        · rw [wo_in z] at h; cases h
        · exact ne_of_none h1 hx z
      rw [wo_at (O := fun a => own B G ad a ∨ a = x) no]
      exact e2 a o h1
    · rw [wo_at (O := (· = x)) (ne_of_none h hx)]
      exact e2 a o h
end
section
variable {P : Program} {w : World} {T : Tx} {mg : Str → Option Value} {base : Heap} {x qual : Str} {params : Arguments} {body : List Stmt} {scope : Scope} {kws : List (Str × V)} {f : Addr} {fd : FuncData}
theorem goodM_of {N ps : List Str} {k : Nat} {S : List Dt → Dt → Prop} (F : FunD T.K x qual params body scope [] kws f fd) (sc : FnScope N ps scope)
    (hb : ∀ (kV doc pm : Value) (an : Option Addr) (cdv ct : Value) (us : List Value), us.length = ps.length → bindArgs (PySem.W.fnOf x qual params body scope .none kV doc pm an cdv ct) ⟨us, []⟩ = pure (ps.zip us))
    (len : ∀ ds y, S ds y → ds.length + 1 = ps.length)
    (hbody : ∀ (cdv : Value) (A : Around) (outer : List Env) (s : Shared) (H : Hp) (E : XK), Room k (A.deeper (envOfC qual scope s.heap.objs.size f cdv)) → ∀ ds y dx, S ds y →
      ∃ t n ts bs, y = .drw n ts bs ∧ PSs (cxOf CX0 P w T.K mg base N qual scope f cdv A outer s H E).nox body t ∧ SX T t (.own (.ob dx []) :: (ds.map .d ++ List.replicate (N.length - (ds.length + 1)) .un)) (.own (.ob dx [("count", .int n), ("ties", dTP ts), ("bows", dTP bs)]) :: (ds.map .d ++ List.replicate (N.length - (ds.length + 1)) .un))) :
    GoodM P w T mg base (k + 1) f ps S := by
  refine ⟨⟨fd, F.ok sc (fun vs H Q E h => ?_) fun cdv A outer s H vs Q E hr h => ?_, F.bindsN hb⟩⟩
  · obtain ⟨O, x, dx, ws, ds, y, e, _, _, _, r, hs, _⟩ := h
    rw [e, List.length_cons, r.length]
    exact len ds y hs
  · obtain ⟨O, x, dx, ws, ds, y, e, ho, nx, hx, r, hs, q⟩ := h
    obtain ⟨t, n, ts, bs, ey, ht, hg⟩ := hbody cdv A outer s H E hr ds y dx hs
    subst e
    have el := r.length
    have eo : own ⟨wo H (· = x), O⟩ (.own (.ob dx []) :: (ds.map Sl.d ++ List.replicate (N.length - (ds.length + 1)) .un)) (fun _ => x) = fun a => O a ∨ a = x := by
      funext a
      refine propext ⟨fun z => ?_, fun z => ?_⟩
      · rcases z with z | ⟨i, c, _, z⟩
        · exact .inl z
        · exact .inr z.symm
      · rcases z with z | z
        · exact .inl z
        · exact .inr ⟨0, _, rfl, z.symm⟩
    have no : ∀ (i : Nat) c, (ds.map Sl.d ++ List.replicate (N.length - (ds.length + 1)) Sl.un)[i]? ≠ some (.own c) := fun i c h => by
      have hm := List.mem_of_getElem? h
      rcases List.mem_append.mp hm with hm | hm
      · obtain ⟨d, _, e⟩ := List.mem_map.mp hm
        cases e
      · have := List.eq_of_mem_replicate hm
        cases this
    have I0 : EnvOk T ⟨wo H (· = x), O⟩ (fun _ => x) H (start N (.ref x :: ws)) (.own (.ob dx []) :: (ds.map .d ++ List.replicate (N.length - (ds.length + 1)) .un)) := by
      refine ⟨wo_ex _ _, ?_, ho, fun i y h => ?_, fun i c h => ?_, fun i j c c' h h' _ => ?_⟩
      · unfold L2.start
        rw [List.length_append, List.length_map, List.length_cons, List.length_replicate, List.length_cons, List.length_append, List.length_map, List.length_replicate, el]
        omega
      · rw [eo]
        cases i with
        | zero => cases h
        | succ i =>
          rw [List.getElem?_cons_succ] at h
          unfold L2.start
          rw [List.map_cons, List.cons_append, List.getElem?_cons_succ]
          by_cases hi : i < ds.length
          · rw [List.getElem?_append_left (by rw [List.length_map]; exact hi), List.getElem?_map, List.getElem?_eq_getElem hi] at h
            cases h
            obtain ⟨v, hv, r1⟩ := r.get (List.getElem?_eq_getElem hi)
            refine ⟨v, ?_, r1⟩
            rw [List.getElem?_append_left (by rw [List.length_map, el]; exact hi), List.getElem?_map, hv]
            rfl
          · have hm := List.mem_of_getElem? (l := List.replicate (N.length - (ds.length + 1)) Sl.un) (i := i - (ds.map Sl.d).length) (a := .d y) (by
              rw [List.getElem?_append_right (by rw [List.length_map]; omega)] at h
              exact h)
            have := List.eq_of_mem_replicate hm
            cases this
      · cases i with
        | zero =>
          rw [List.getElem?_cons_zero] at h
          cases h
          refine ⟨rfl, wo_in rfl, nx, [], ?_, .nil⟩
          exact hx
        | succ i =>
          rw [List.getElem?_cons_succ] at h
          exact absurd h (no i c)
      · cases i with
        | zero => cases j with
          | zero => rfl
          | succ j =>
            rw [List.getElem?_cons_succ] at h'
            exact absurd h' (no j c')
        | succ i =>
          rw [List.getElem?_cons_succ] at h
          exact absurd h (no i c)
    refine ⟨t, ht.nox, hg _ _ H _ _ I0 fun H' I' => ?_⟩
    obtain ⟨_, _, _, vs, g1, g2⟩ := I'.ow 0 _ rfl
    subst ey
    refine q H' I'.ex ?_
    cases g2 with
    | @cons v1 _ _ _ r1 g2 => cases g2 with
      | @cons v2 _ _ _ r2 g2 => cases g2 with
        | @cons v3 _ _ _ r3 g2 =>
          cases g2
          cases r1
          refine .drw (dx := dx) (v1 := v2) (v2 := v3) ?_ (Rp.mono (wo_sub fun a z => .inl z) r2) (Rp.mono (wo_sub fun a z => .inl z) r3)
          rw [wo_at nx]
          exact g1
end
end W3

namespace W3
open PySem
/-! ### what the program computes, in plain Lean -/
inductive Fm where
  | one | seen (ns : List Int) | times (a b : Fm) | over (a b : Fm) | sum (ns : List Int) (f : Fm)
abbrev Cut := Str × List Int
abbrev Row := List Int × List Cut
def rgI (n : Int) : List Int := (List.range n.toNat).map fun i => ((i : Nat) : Int)
def srcF (ties : List (Int × Int)) (j : Int) : List Int := (ties.filter fun p => decide (p.2 = j)).map (·.1)
def sortI (l : List Int) : List Int := l.mergeSort fun a b => decide (a ≤ b)
def sortL (l : List (List Int)) : List (List Int) := l.mergeSort fun a b => decide (a ≤ b)
def sortP (l : List (Int × Int)) : List (Int × Int) := l.mergeSort leP
def ancStep (found : List Int) (p : Int × Int) : List Int := if decide (p.1 ∈ found) && !decide (p.2 ∈ found) then found ++ [p.2] else found
def ancL (ties : List (Int × Int)) : List (Int × Int) := (sortP (ties.map fun p => (p.2, p.1))).reverse
def ancF (ties : List (Int × Int)) (names : List Int) : List Int := sortI ((ancL ties).foldl ancStep names)
def lumpAt (found : List (List Int)) (u : Int) : List Int := (found.filter fun l => decide (u ∈ l)).getD 0 []
def lumpStep (names : List Int) (found : List (List Int)) (p : Int × Int) : List (List Int) :=
  if decide (p.1 ∈ names) && decide (p.2 ∈ names) then
    if !decide (lumpAt found p.1 = lumpAt found p.2) then (found.filter fun l => !decide (l ∈ [lumpAt found p.1, lumpAt found p.2])) ++ [sortI (lumpAt found p.1 ++ lumpAt found p.2)] else found
  else found
def lumpsF (bows : List (Int × Int)) (names : List Int) : List (List Int) := sortL (bows.foldl (lumpStep names) (names.map fun j => [j]))
def partP (ps : List (Int × Int)) (names : List Int) : List (Int × Int) := ps.filter fun p => decide (p.1 ∈ names) && decide (p.2 ∈ names)
def woF (names others : List Int) : List Int := names.filter fun j => !decide (j ∈ others)
def wantF (n : Int) (ties : List (Int × Int)) (ones asked : List Int) : List Int := ancF (sortP (partP ties (woF (rgI n) ones))) asked
def lumpWith (bows : List (Int × Int)) (names inner : List Int) : List Int := ((lumpsF bows names).find? fun l => decide (inner.getD 0 0 ∈ l)).getD []
def closedF (ties : List (Int × Int)) (stands names : List Int) : Bool := names.all fun j => (srcF ties j).all fun s => !(decide (s ∈ stands) && !decide (s ∈ names))
def okAt (n : Int) (ns : List Int) (k : Nat) : Bool := !(decide (ns.getD k 0 < 0) || (decide (n ≤ ns.getD k 0) || (decide ((0 : Int) < (k : Nat)) && decide (ns.getD k 0 ≤ ns.getD (k - 1) 0))))
def isSet (n : Int) (ns : List Int) : Bool := (List.range ns.length).all (okAt n ns)
def cutF (n : Int) (ties bows : List (Int × Int)) (stands : List Int) (c : Cut) : List Int :=
  if !isSet n c.2 || decide ((stands.length : Int) ≤ c.2.length) then []
  else if decide (c.1 = ("lump" : Str)) && decide (c.2 ∈ lumpsF bows stands) then c.2
  else if decide (c.1 = ("up" : Str)) && (decide (woF c.2 stands = []) && closedF ties stands c.2) then c.2 else []
def leadsGo (n : Int) (ties bows : List (Int × Int)) (lump : List Int) : List Int → List Cut → Bool
  | stands, [] => decide (stands = lump)
  | stands, c :: cs => if cutF n ties bows stands c = [] then false else leadsGo n ties bows lump (cutF n ties bows stands c) cs
def leadsF (n : Int) (ties bows : List (Int × Int)) (lump : List Int) (cuts : List Cut) : Bool := leadsGo n ties bows lump (lumpWith bows (rgI n) lump) cuts
def letsF (n : Int) (ties bows : List (Int × Int)) (ones asked : List Int) (paper : List Row) : Bool :=
  if !decide (paper.map (·.1) = lumpsF bows (wantF n ties ones asked)) then false else paper.all fun r => leadsF n ties bows r.1 r.2
def prodF : List Fm → Fm
  | [] => .one
  | f :: fs => fs.foldl .times f
def sumF (names : List Int) (f : Fm) : Fm := if names = [] then f else .sum names f
def firstF (lump : List Int) : Fm := prodF (lump.map fun j => .over (.seen (rgI (j + 1))) (.seen (rgI j)))
def lessF (stands : List Int) (k : Nat) (f : Fm) : Fm := if decide ((0 : Int) < (k : Nat)) then sumF (stands.drop k) f else .one
def lumpFs (stands names : List Int) (f : Fm) : List Fm := (stands.zipIdx.filter fun p => decide (p.1 ∈ names)).map fun p => .over (sumF (stands.drop (p.2 + 1)) f) (lessF stands p.2 f)
def lumpForm (stands names : List Int) (f : Fm) : Fm := prodF (lumpFs stands names f)
def cutForm (stands : List Int) (f : Fm) (c : Cut) : Fm := if decide (c.1 = ("up" : Str)) then sumF (woF stands c.2) f else lumpForm stands c.2 f
def sharesGo : List Int → Fm → List Cut → Fm
  | _, f, [] => f
  | stands, f, c :: cs => sharesGo c.2 (cutForm stands f c) cs
def sharesF (n : Int) (bows : List (Int × Int)) (lump : List Int) (cuts : List Cut) : Fm := sharesGo (lumpWith bows (rgI n) lump) (firstF (lumpWith bows (rgI n) lump)) cuts
def formF (n : Int) (ties bows : List (Int × Int)) (ones asked : List Int) (paper : List Row) : Fm :=
  sumF (woF (wantF n ties ones asked) asked) (prodF (paper.map fun r => sharesF n bows r.1 r.2))
end W3

namespace W3
/-! ### sorting, lumps: plain facts -/
theorem mem_sortI {x : Int} {l : List Int} : x ∈ sortI l ↔ x ∈ l := List.mem_mergeSort
theorem mem_sortL {x : List Int} {l : List (List Int)} : x ∈ sortL l ↔ x ∈ l := List.mem_mergeSort
theorem mem_sortP {x : Int × Int} {l : List (Int × Int)} : x ∈ sortP l ↔ x ∈ l := List.mem_mergeSort
theorem len_sortP {l : List (Int × Int)} : (sortP l).length = l.length := List.length_mergeSort l
theorem len_sortI {l : List Int} : (sortI l).length = l.length := List.length_mergeSort l
theorem len_sortL {l : List (List Int)} : (sortL l).length = l.length := List.length_mergeSort l
theorem nd_sortP {l : List (Int × Int)} (h : l.Nodup) : (sortP l).Nodup := (List.mergeSort_perm l _).nodup_iff.mpr h
theorem rise_le {l : List Int} : (sortI l).Pairwise (· ≤ ·) := by
  have h := List.pairwise_mergeSort (le := fun a b : Int => decide (a ≤ b)) (fun a b c h1 h2 => by simp at *; omega) (fun a b => by simp; omega) l
  exact h.imp fun h => by simpa using h
theorem rise_sort {l : List Int} (h : l.Nodup) : (sortI l).Pairwise (· < ·) := by
  have h2 : (sortI l).Nodup := (List.mergeSort_perm l _).nodup_iff.mpr h
  have h1 := rise_le (l := l)
  have h3 := h1.and h2
  exact h3.imp fun ⟨a, b⟩ => by omega
theorem nd_rise {l : List Int} (h : l.Pairwise (· < ·)) : l.Nodup := h.imp fun h => by omega
theorem len_of_sub : ∀ {l m : List Int}, l.Nodup → (∀ x ∈ l, x ∈ m) → l.length ≤ m.length
  | [], _, _, _ => Nat.zero_le _
  | a :: l, m, hn, hs => by
    rw [List.nodup_cons] at hn
    have ha := hs a List.mem_cons_self
    have h := len_of_sub (l := l) (m := m.erase a) hn.2 fun x hx => by
      have ne : x ≠ a := fun e => hn.1 (by rw [← e]; exact hx)
      exact (List.mem_erase_of_ne ne).mpr (hs x (List.mem_cons_of_mem _ hx))
    rw [List.length_erase_of_mem ha] at h
    have := List.length_pos_of_mem ha
    rw [List.length_cons]
    omega
theorem pw_two {α : Type} {R : α → α → Prop} (hs : ∀ a b, R a b → R b a) : ∀ {l : List α}, l.Pairwise R → ∀ a ∈ l, ∀ b ∈ l, a ≠ b → R a b
  | [], _, a, ha, _, _, _ => nomatch ha
  | c :: l, h, a, ha, b, hb, ne => by
    rw [List.pairwise_cons] at h
    rcases List.mem_cons.mp ha with ea | ha
    · rcases List.mem_cons.mp hb with eb | hb
      · exact absurd (ea.trans eb.symm) ne
      · exact ea ▸ h.1 b hb
    · rcases List.mem_cons.mp hb with eb | hb
      · exact hs _ _ (eb ▸ h.1 a ha)
      · exact pw_two hs h.2 a ha b hb ne
/-- a partition of ns into rising lists -/
structure LPart (ns : List Int) (L : List (List Int)) : Prop where
  cov : ∀ x ∈ ns, ∃ l ∈ L, x ∈ l
  ne : ∀ l ∈ L, l ≠ []
  rise : ∀ l ∈ L, l.Pairwise (· < ·)
  sub : ∀ l ∈ L, ∀ x ∈ l, x ∈ ns
  dis : L.Pairwise fun a b => ∀ x ∈ a, x ∉ b
theorem dis_symm (a b : List Int) (h : ∀ x ∈ a, x ∉ b) : ∀ x ∈ b, x ∉ a := fun x hb ha => h x ha hb
theorem LPart.start {ns : List Int} (h : ns.Nodup) : LPart ns (ns.map fun j => [j]) where
  cov := fun x hx => ⟨[x], List.mem_map.mpr ⟨x, hx, rfl⟩, List.mem_singleton.mpr rfl⟩
  ne := fun l hl => by obtain ⟨j, _, rfl⟩ := List.mem_map.mp hl; simp
  rise := fun l hl => by obtain ⟨j, _, rfl⟩ := List.mem_map.mp hl; simp
  sub := fun l hl x hx => by obtain ⟨j, hj, rfl⟩ := List.mem_map.mp hl; rw [List.mem_singleton.mp hx]; exact hj
  dis := by
    rw [List.pairwise_map]
    exact h.imp fun hne x hx hy => hne ((List.mem_singleton.mp hx).symm.trans (List.mem_singleton.mp hy))
theorem lumpAt_mem {L : List (List Int)} {u : Int} (h : ∃ l ∈ L, u ∈ l) : lumpAt L u ∈ L ∧ u ∈ lumpAt L u ∧ (L.filter fun l => decide (u ∈ l)) ≠ [] := by
  obtain ⟨l, hl, hu⟩ := h
  have hm : l ∈ L.filter fun l => decide (u ∈ l) := List.mem_filter.mpr ⟨hl, by simpa using hu⟩
  unfold lumpAt
  cases q : L.filter fun l => decide (u ∈ l) with
  | nil => rw [q] at hm; cases hm
  | cons m ms =>
    have h2 : m ∈ L.filter fun l => decide (u ∈ l) := by rw [q]; exact List.mem_cons_self
    have h3 := List.mem_filter.mp h2
    exact ⟨h3.1, by simpa using h3.2, by simp⟩
theorem LPart.step {ns : List Int} {L : List (List Int)} (h : LPart ns L) (p : Int × Int) : LPart ns (lumpStep ns L p) := by
  unfold lumpStep
  split
  · rename_i hc
    simp only [Bool.and_eq_true, decide_eq_true_eq] at hc
    split
    · rename_i hne
      have hne' : lumpAt L p.1 ≠ lumpAt L p.2 := by simpa using hne
      obtain ⟨a1, a2, _⟩ := lumpAt_mem (h.cov p.1 hc.1)
      obtain ⟨b1, b2, _⟩ := lumpAt_mem (h.cov p.2 hc.2)
      generalize lumpAt L p.1 = a at *
      generalize lumpAt L p.2 = b at *
      have hd := pw_two dis_symm h.dis
      have hab := hd a a1 b b1 hne'
      have hnd : (a ++ b).Nodup := List.nodup_append.mpr ⟨nd_rise (h.rise a a1), nd_rise (h.rise b b1), fun x hx y hy e => hab x hx (e ▸ hy)⟩
      have hmem : ∀ l, l ∈ (L.filter fun l => !decide (l ∈ [a, b])) ↔ l ∈ L ∧ l ≠ a ∧ l ≠ b := fun l => by
        simp [List.mem_filter]
      refine ⟨fun x hx => ?_, fun l hl => ?_, fun l hl => ?_, fun l hl x hx => ?_, ?_⟩
      · obtain ⟨l, hl, hxl⟩ := h.cov x hx
        by_cases e : l = a ∨ l = b
        · refine ⟨sortI (a ++ b), List.mem_append_right _ (List.mem_singleton.mpr rfl), mem_sortI.mpr (List.mem_append.mpr ?_)⟩
          rcases e with e | e
          · exact .inl (e ▸ hxl)
          · exact .inr (e ▸ hxl)
        · exact ⟨l, List.mem_append_left _ ((hmem l).mpr ⟨hl, fun z => e (.inl z), fun z => e (.inr z)⟩), hxl⟩
      · rcases List.mem_append.mp hl with hl | hl
        · exact h.ne l ((hmem l).mp hl).1
        · rw [List.mem_singleton.mp hl]
          intro e
          have := mem_sortI.mpr (List.mem_append_left b a2)
          rw [e] at this
          cases this
      · rcases List.mem_append.mp hl with hl | hl
        · exact h.rise l ((hmem l).mp hl).1
        · rw [List.mem_singleton.mp hl]
          exact rise_sort hnd
      · rcases List.mem_append.mp hl with hl | hl
        · exact h.sub l ((hmem l).mp hl).1 x hx
        · rw [List.mem_singleton.mp hl] at hx
          rcases List.mem_append.mp (mem_sortI.mp hx) with hx | hx
          · exact h.sub a a1 x hx
          · exact h.sub b b1 x hx
      · refine List.pairwise_append.mpr ⟨h.dis.filter _, List.pairwise_singleton _ _, fun l hl m hm x hx hy => ?_⟩
        rw [List.mem_singleton.mp hm] at hy
        obtain ⟨h1, h2, h3⟩ := (hmem l).mp hl
        rcases List.mem_append.mp (mem_sortI.mp hy) with hy | hy
        · exact hd l h1 a a1 h2 x hx hy
        · exact hd l h1 b b1 h3 x hx hy
    · exact h
  · exact h
theorem lumpStep_len (ns : List Int) (L : List (List Int)) (p : Int × Int) : (lumpStep ns L p).length ≤ L.length + 1 := by
  unfold lumpStep
  split
  · split
    · rw [List.length_append]
      have := List.length_filter_le (fun l => !decide (l ∈ [lumpAt L p.1, lumpAt L p.2])) L
      simp only [List.length_singleton]
      omega
    · omega
  · omega
theorem LPart.fold {ns : List Int} : ∀ (bs : List (Int × Int)) {L : List (List Int)}, LPart ns L → LPart ns (bs.foldl (lumpStep ns) L) ∧ (bs.foldl (lumpStep ns) L).length ≤ L.length + bs.length
  | [], L, h => ⟨h, Nat.le_refl _⟩
  | b :: bs, L, h => by
    obtain ⟨h1, h2⟩ := LPart.fold bs (h.step b)
    refine ⟨h1, ?_⟩
    have := lumpStep_len ns L b
    rw [List.length_cons, List.foldl_cons]
    omega
theorem LPart.len {ns : List Int} {L : List (List Int)} (h : LPart ns L) {l : List Int} (hl : l ∈ L) : l.length ≤ ns.length := len_of_sub (nd_rise (h.rise l hl)) (h.sub l hl)
theorem LPart.sort {ns : List Int} {L : List (List Int)} (h : LPart ns L) : LPart ns (sortL L) where
  cov := fun x hx => let ⟨l, hl, hx⟩ := h.cov x hx; ⟨l, mem_sortL.mpr hl, hx⟩
  ne := fun l hl => h.ne l (mem_sortL.mp hl)
  rise := fun l hl => h.rise l (mem_sortL.mp hl)
  sub := fun l hl => h.sub l (mem_sortL.mp hl)
  dis := (List.mergeSort_perm L _).symm.pairwise h.dis (fun {a b} => dis_symm a b)
theorem lumps_part {bs : List (Int × Int)} {ns : List Int} (h : ns.Nodup) : LPart ns (lumpsF bs ns) := (LPart.fold bs (LPart.start h)).1.sort
/-! isSet: rising numbers below n -/
theorem isSet_iff {n : Int} {ns : List Int} : isSet n ns = true ↔ (∀ x ∈ ns, 0 ≤ x ∧ x < n) ∧ ns.Pairwise (· < ·) := by
  have key : ∀ k, k < ns.length → (okAt n ns k = true ↔ (0 ≤ ns.getD k 0 ∧ ns.getD k 0 < n ∧ (0 < k → ns.getD (k - 1) 0 < ns.getD k 0))) := fun k hk => by
    unfold okAt
    simp only [Bool.not_eq_true', Bool.or_eq_false_iff, Bool.and_eq_false_iff, decide_eq_false_iff_not]
    omega
  have gd : ∀ k (hk : k < ns.length), ns.getD k 0 = ns[k] := fun k hk => by rw [List.getD_eq_getElem?_getD, List.getElem?_eq_getElem hk]; rfl
  unfold isSet
  rw [List.all_eq_true]
  constructor
  · intro h
    have h' : ∀ k (hk : k < ns.length), 0 ≤ ns[k] ∧ ns[k] < n ∧ (0 < k → ns[k - 1]'(by omega) < ns[k]) := fun k hk => by
      have := (key k hk).mp (h k (List.mem_range.mpr hk))
      rw [gd k hk] at this
      refine ⟨this.1, this.2.1, fun h0 => ?_⟩
      have h2 := this.2.2 h0
      rw [gd (k - 1) (by omega)] at h2
      exact h2
    refine ⟨fun x hx => ?_, ?_⟩
    · obtain ⟨k, hk, rfl⟩ := List.getElem_of_mem hx
      exact ⟨(h' k hk).1, (h' k hk).2.1⟩
    · rw [List.pairwise_iff_getElem]
      intro i j hi hj hij
      have : ∀ d (hd : i + d + 1 < ns.length), ns[i] < ns[i + d + 1] := fun d => by
        induction d with
        | zero => intro hd; exact (h' (i + 1) hd).2.2 (by omega)
        | succ d ih =>
          intro hd
          have h1 := ih (by omega)
          have h2 := (h' (i + (d + 1) + 1) hd).2.2 (by omega)
          have e : ns[i + (d + 1) + 1 - 1]'(by omega) = ns[i + d + 1] := by congr 1
          rw [e] at h2
          omega
      have h3 := this (j - i - 1) (by omega)
      have e : ns[i + (j - i - 1) + 1]'(by omega) = ns[j] := by congr 1; omega
      rw [e] at h3
      exact h3
  · intro ⟨h1, h2⟩ k hk
    have hk' := List.mem_range.mp hk
    rw [key k hk', gd k hk']
    refine ⟨(h1 _ (List.getElem_mem hk')).1, (h1 _ (List.getElem_mem hk')).2, fun h0 => ?_⟩
    rw [gd (k - 1) (by omega)]
    exact List.pairwise_iff_getElem.mp h2 _ _ _ _ (by omega)
theorem rgI_mem {n x : Int} : x ∈ rgI n ↔ 0 ≤ x ∧ x < n := by
  unfold rgI
  rw [List.mem_map]
  constructor
  · rintro ⟨k, hk, rfl⟩
    have := List.mem_range.mp hk
    omega
  · rintro ⟨h1, h2⟩
    exact ⟨x.toNat, List.mem_range.mpr (by omega), by omega⟩
theorem rgI_rise (n : Int) : (rgI n).Pairwise (· < ·) := by
  unfold rgI
  rw [List.pairwise_map]
  exact List.pairwise_lt_range.imp fun h => by omega
theorem rgI_set {n : Int} : isSet n (rgI n) = true := isSet_iff.mpr ⟨fun x hx => rgI_mem.mp hx, rgI_rise n⟩
theorem rise_sub {l m : List Int} (h : l.Pairwise (· < ·)) (s : m.Sublist l) : m.Pairwise (· < ·) := h.sublist s
end W3

namespace W3
/-! ### ancestors, cuts: plain facts -/
theorem anc_fold {ts : List (Int × Int)} : ∀ {fd : List Int}, fd.Nodup → (ts.foldl ancStep fd).Nodup ∧ (∀ x ∈ fd, x ∈ ts.foldl ancStep fd) ∧ ∀ x ∈ ts.foldl ancStep fd, x ∈ fd ∨ ∃ p ∈ ts, p.2 = x := by
  induction ts with
  | nil => intro fd h; exact ⟨h, fun x hx => hx, fun x hx => .inl hx⟩
  | cons p ts ih =>
    intro fd h
    rw [List.foldl_cons]
    unfold ancStep
    split
    · rename_i hc
      simp only [Bool.and_eq_true, decide_eq_true_eq, Bool.not_eq_true', decide_eq_false_iff_not] at hc
      obtain ⟨h1, h2, h3⟩ := ih (fd := fd ++ [p.2]) (List.nodup_append.mpr ⟨h, by simp, fun x hx y hy e => hc.2 (by rw [List.mem_singleton.mp hy] at e; rw [← e]; exact hx)⟩)
      refine ⟨h1, fun x hx => h2 x (List.mem_append_left _ hx), fun x hx => ?_⟩
      rcases h3 x hx with hx | ⟨q, hq, e⟩
      · rcases List.mem_append.mp hx with hx | hx
        · exact .inl hx
        · exact .inr ⟨p, List.mem_cons_self, (List.mem_singleton.mp hx).symm⟩
      · exact .inr ⟨q, List.mem_cons_of_mem _ hq, e⟩
    · obtain ⟨h1, h2, h3⟩ := ih h
      refine ⟨h1, h2, fun x hx => ?_⟩
      rcases h3 x hx with hx | ⟨q, hq, e⟩
      · exact .inl hx
      · exact .inr ⟨q, List.mem_cons_of_mem _ hq, e⟩
theorem mem_ancL {ts : List (Int × Int)} {p : Int × Int} : p ∈ ancL ts ↔ (p.2, p.1) ∈ ts := by
  unfold ancL
  rw [List.mem_reverse, mem_sortP, List.mem_map]
  constructor
  · rintro ⟨q, hq, rfl⟩
    exact hq
  · intro h
    exact ⟨(p.2, p.1), h, rfl⟩
theorem anc_mem {ts : List (Int × Int)} {ns : List Int} (h : ns.Nodup) : (∀ x ∈ ns, x ∈ ancF ts ns) ∧ ∀ x ∈ ancF ts ns, x ∈ ns ∨ ∃ v, (x, v) ∈ ts := by
  obtain ⟨h1, h2, h3⟩ := anc_fold (ts := ancL ts) h
  unfold ancF
  refine ⟨fun x hx => mem_sortI.mpr (h2 x hx), fun x hx => ?_⟩
  rcases h3 x (mem_sortI.mp hx) with h | ⟨p, hp, e⟩
  · exact .inl h
  · exact .inr ⟨p.1, by rw [← e]; exact mem_ancL.mp hp⟩
theorem anc_set {n : Int} {ts : List (Int × Int)} {ns : List Int} (h : isSet n ns = true) (ht : ∀ p ∈ ts, 0 ≤ p.1 ∧ p.1 < p.2 ∧ p.2 < n) : isSet n (ancF ts ns) = true := by
  obtain ⟨h1, h2⟩ := isSet_iff.mp h
  refine isSet_iff.mpr ⟨fun x hx => ?_, rise_sort (anc_fold (nd_rise h2)).1⟩
  rcases (anc_mem (ts := ts) (nd_rise h2)).2 x hx with h | ⟨v, hv⟩
  · exact h1 x h
  · have := ht _ hv
    simp at this
    omega
theorem wo_mem {ns os : List Int} {x : Int} : x ∈ woF ns os ↔ x ∈ ns ∧ x ∉ os := by
  unfold woF
  rw [List.mem_filter]
  simp
theorem wo_set {n : Int} {ns os : List Int} (h : isSet n ns = true) : isSet n (woF ns os) = true := by
  obtain ⟨h1, h2⟩ := isSet_iff.mp h
  exact isSet_iff.mpr ⟨fun x hx => h1 x (wo_mem.mp hx).1, h2.filter _⟩
theorem lw_cases {bs : List (Int × Int)} {ns inner : List Int} : lumpWith bs ns inner = [] ∨ (lumpWith bs ns inner ∈ lumpsF bs ns ∧ inner.getD 0 0 ∈ lumpWith bs ns inner) := by
  unfold lumpWith
  cases q : (lumpsF bs ns).find? fun l => decide (inner.getD 0 0 ∈ l) with
  | none => exact .inl rfl
  | some l =>
    refine .inr ⟨List.mem_of_find?_eq_some q, ?_⟩
    have := List.find?_some q
    simpa using this
theorem lump_set {n : Int} {bs : List (Int × Int)} {ns l : List Int} (h : isSet n ns = true) (hl : l ∈ lumpsF bs ns) : isSet n l = true := by
  obtain ⟨h1, h2⟩ := isSet_iff.mp h
  have p := lumps_part (bs := bs) (nd_rise h2)
  exact isSet_iff.mpr ⟨fun x hx => h1 x (p.sub l hl x hx), p.rise l hl⟩
theorem nil_set {n : Int} : isSet n [] = true := rfl
theorem lw_set {n : Int} {bs : List (Int × Int)} {ns inner : List Int} (h : isSet n ns = true) : isSet n (lumpWith bs ns inner) = true := by
  rcases lw_cases (bs := bs) (ns := ns) (inner := inner) with e | ⟨h1, _⟩
  · rw [e]; exact nil_set
  · exact lump_set h h1
theorem lw_ne {bs : List (Int × Int)} {ns inner : List Int} (hn : ns.Nodup) (h : inner.getD 0 0 ∈ ns) : lumpWith bs ns inner ∈ lumpsF bs ns ∧ inner.getD 0 0 ∈ lumpWith bs ns inner := by
  have p := lumps_part (bs := bs) hn
  obtain ⟨l, hl, hx⟩ := p.cov _ h
  unfold lumpWith
  cases q : (lumpsF bs ns).find? fun l => decide (inner.getD 0 0 ∈ l) with
  | none =>
    rw [List.find?_eq_none] at q
    exact absurd (by simpa using hx) (q l hl)
  | some l =>
    refine ⟨List.mem_of_find?_eq_some q, ?_⟩
    have := List.find?_some q
    simpa using this
/-- what a cut that holds is -/
structure CutOk (n : Int) (ts bs : List (Int × Int)) (st : List Int) (c : Cut) : Prop where
  set : isSet n c.2 = true
  len : c.2.length < st.length
  eq : cutF n ts bs st c = c.2
  ne : c.2 ≠ []
  way : (c.1 = ("lump" : PySem.Str) ∧ c.2 ∈ lumpsF bs st) ∨ (c.1 = ("up" : PySem.Str) ∧ woF c.2 st = [] ∧ closedF ts st c.2 = true)
theorem cut_ok {n : Int} {ts bs : List (Int × Int)} {st : List Int} {c : Cut} (h : cutF n ts bs st c ≠ []) : CutOk n ts bs st c := by
  have h0 := h
  unfold cutF at h
  split at h
  · exact absurd rfl h
  · rename_i h1
    simp only [Bool.or_eq_true, Bool.not_eq_true', decide_eq_true_eq, not_or] at h1
    obtain ⟨h1, h2⟩ := h1
    have h1 : isSet n c.2 = true := by simpa using h1
    have hl : c.2.length < st.length := by omega
    have e0 : (!isSet n c.2 || decide ((st.length : Int) ≤ c.2.length)) = false := by
      rw [h1]; simp; omega
    split at h
    · rename_i h3
      have h3' := h3
      simp only [Bool.and_eq_true, decide_eq_true_eq] at h3
      refine ⟨h1, hl, ?_, h, .inl h3⟩
      unfold cutF
      rw [if_neg (by rw [e0]; decide), if_pos h3']
    · rename_i h3
      split at h
      · rename_i h4
        have h4' := h4
        simp only [Bool.and_eq_true, decide_eq_true_eq] at h4
        refine ⟨h1, hl, ?_, h, .inr h4⟩
        unfold cutF
        rw [if_neg (by rw [e0]; decide), if_neg h3, if_pos h4']
      · exact absurd rfl h
theorem cut_set {n : Int} {ts bs : List (Int × Int)} {st : List Int} {c : Cut} : isSet n (cutF n ts bs st c) = true := by
  by_cases h : cutF n ts bs st c = []
  · rw [h]; exact nil_set
  · rw [(cut_ok h).eq]; exact (cut_ok h).set
theorem want_set {n : Int} {ts : List (Int × Int)} {ones asked : List Int} (ht : ∀ p ∈ ts, 0 ≤ p.1 ∧ p.1 < p.2 ∧ p.2 < n) (ha : isSet n asked = true) : isSet n (wantF n ts ones asked) = true :=
  anc_set ha fun p hp => ht p (List.mem_filter.mp (mem_sortP.mp hp)).1
theorem lets_iff {n : Int} {ts bs : List (Int × Int)} {ones asked : List Int} {paper : List Row} : letsF n ts bs ones asked paper = true ↔ paper.map (·.1) = lumpsF bs (wantF n ts ones asked) ∧ ∀ r ∈ paper, leadsF n ts bs r.1 r.2 = true := by
  unfold letsF
  split
  · rename_i h
    simp at h
    simp [h]
  · rename_i h
    simp at h
    simp [h]
end W3

namespace W3
open PySem PySem.Spec PyProof.Rows L2 Evl
section
variable {X : Cx} {K : PySem.W.Frag}
theorem op_addK (h : X.K = K := by rfl) : OpR X (binaryOp .Add) (rAddX K) := h ▸ op_addX
theorem op_inK {k : Nat} (hr : Room k X.A) (h : X.K = K := by rfl) : OpR X (compareOp .In) (rInX K) := h ▸ op_inX hr
theorem op_niK {k : Nat} (hr : Room k X.A) (h : X.K = K := by rfl) : OpR X (compareOp .NotIn) (rNiX K) := h ▸ op_niX hr
theorem op_eqK {k : Nat} (hr : Room k X.A) (h : X.K = K := by rfl) : OpR X (compareOp .Eq) (rEqX K) := h ▸ op_eqX hr
theorem op_neK {k : Nat} (hr : Room k X.A) (h : X.K = K := by rfl) : OpR X (compareOp .NotEq) (rNeX K) := h ▸ op_neX hr
theorem ix_seqK (h : X.K = K := by rfl) : IxR X (rIx K) := h ▸ ix_seq
theorem call_lenK (h : X.K = K := by rfl) : CallR X (.builtin "len") (rLenX K) := h ▸ call_lenX
theorem pg_seqK {es : List Expr} {k : Nat} {t : TGs} {n : Nat} {pos : Pos} (hc : X.calm = true) (h : PGs X es t) (hK : X.K = K := by rfl)
    (hn : (assignEach es X.env).length = n := by rfl) (hst : (assignEach es X.env).findIdx? (·.1) = none := by rfl) : PG X (.Tuple es k pos) (gSeq K n t) := hK ▸ pg_seq hc h hn hst
end
section
variable {T : Tx} {G : List Sl} {wi : TI} {tt : TT} {te : TE}
theorem set_un {i : Nat} {x : Dt} : (wipeG G [i]).set i (.d x) = G.set i (.d x) := by
  show (G.set i .un).set i (.d x) = _
  rw [List.set_set]
theorem no_un {G : List Sl} {i : Nat} (c : Cell) : (G.set i .un)[i]? ≠ some (.own c) := fun h => by
  rcases set_get h with ⟨_, e, _⟩ | ⟨e, _⟩
  · cases e
  · exact e rfl
/-- [e for x in xs if t] -/
theorem en_lc1 {α : Type} {ys : List α} {enc : α → Dt} {i : Nat} (f : α → Bool) (v : α → Dt) (hi : EvJ T wi G (ys.map enc)) (hz : ys.length ≤ 50000) (hn : noOwn G [i] = true)
    (step : ∀ y ∈ ys, EvT T tt (G.set i (.d (enc y))) (f y) ∧ (f y = true → EvD T te (G.set i (.d (enc y))) (v y))) : EvN T (tLc wi (gName i) tt te [i]) G ((ys.filter f).map v) :=
  en_lc f v hi hz hn fun y hy => ⟨[i], G.set i (.d (enc y)), by rw [← set_un]; exact bd_name, fun B ad => by rw [← set_un]; exact own_setG no_un, fun j hj => hj, step y hy⟩
/-- [e for x, y in xs if t] -/
theorem en_lc2 {α : Type} {ys : List α} {enc : α → Dt} {a b : α → Dt} {i j : Nat} (f : α → Bool) (v : α → Dt) (hi : EvJ T wi G (ys.map enc)) (he : ∀ y, enc y = .tup [a y, b y]) (hz : ys.length ≤ 50000) (hn : noOwn G [i, j] = true)
    (step : ∀ y ∈ ys, EvT T tt ((G.set i (.d (a y))).set j (.d (b y))) (f y) ∧ (f y = true → EvD T te ((G.set i (.d (a y))).set j (.d (b y))) (v y))) : EvN T (tLc wi (gSeq T.K 2 (gCons (gName i) (gCons (gName j) gNil))) tt te [i, j]) G ((ys.filter f).map v) := by
  have e1 : ∀ y, ((wipeG G [i, j]).set i (.d (a y))).set j (.d (b y)) = (G.set i (.d (a y))).set j (.d (b y)) := fun y => by
    show ((((G.set j .un).set i .un)).set i (.d (a y))).set j (.d (b y)) = _
    rw [List.set_set]
    by_cases e : i = j
    · subst e
      rw [List.set_set, List.set_set, List.set_set]
    · rw [List.set_comm _ _ (fun z => e z.symm), List.set_set]
  refine en_lc f v hi hz hn fun y hy => ⟨[i, j], (G.set i (.d (a y))).set j (.d (b y)), by rw [← e1, he]; exact bd_2T, fun B ad => ?_, fun k hk => hk, step y hy⟩
  rw [← e1]
  have n1 : ∀ c, (wipeG G [i, j])[i]? ≠ some (.own c) := fun c h => no_un (G := G.set j .un) c h
  rw [own_setG fun c h => ?_, own_setG n1]
  rcases set_get h with ⟨_, e, _⟩ | ⟨e, h⟩
  · cases e
  · rcases wipeG_get h with e | ⟨e, _⟩
    · cases e
    · exact e (by simp)
end
theorem lt_of_some {G : List Sl} {i : Nat} (h : G[i]?.isSome = true) : i < G.length := by
  obtain ⟨x, hx⟩ := Option.isSome_iff_exists.mp h
  exact (List.getElem?_eq_some_iff.mp hx).1
def top (i : Nat) : Stmt := PySem.Challenge.pw_doingbook_k44_whole_papers_are_right.main.body.getD i (.Pass ⟨0, 0, 0, 0⟩)
def d_is_set : He.DefD := ⟨("is_set", none), "is_set", "is_set", defArgs (top 12), defBody (top 12), defScope (top 12), [], []⟩
def d_look_at_set : He.DefD := ⟨("look_at_set", none), "look_at_set", "look_at_set", defArgs (top 13), defBody (top 13), defScope (top 13), [], []⟩
def d_pairs_of : He.DefD := ⟨("pairs_of", none), "pairs_of", "pairs_of", defArgs (top 14), defBody (top 14), defScope (top 14), [], []⟩
def d_init : He.DefD := ⟨("Drawing", some "__init__"), "__init__", "Drawing.__init__", defArgs (inClass (top 15) 0), defBody (inClass (top 15) 0), defScope (inClass (top 15) 0), [], []⟩
def d_m_sources : He.DefD := ⟨("Drawing", some "sources"), "sources", "Drawing.sources", defArgs (inClass (top 15) 1), defBody (inClass (top 15) 1), defScope (inClass (top 15) 1), [], []⟩
def d_m_ancestors : He.DefD := ⟨("Drawing", some "ancestors"), "ancestors", "Drawing.ancestors", defArgs (inClass (top 15) 3), defBody (inClass (top 15) 3), defScope (inClass (top 15) 3), [], []⟩
def d_m_lumps : He.DefD := ⟨("Drawing", some "lumps"), "lumps", "Drawing.lumps", defArgs (inClass (top 15) 5), defBody (inClass (top 15) 5), defScope (inClass (top 15) 5), [], []⟩
def d_m_part : He.DefD := ⟨("Drawing", some "part"), "part", "Drawing.part", defArgs (inClass (top 15) 6), defBody (inClass (top 15) 6), defScope (inClass (top 15) 6), [], []⟩
def d_look_at_question : He.DefD := ⟨("look_at_question", none), "look_at_question", "look_at_question", defArgs (top 17), defBody (top 17), defScope (top 17), [], []⟩
def d_every_name : He.DefD := ⟨("every_name", none), "every_name", "every_name", defArgs (top 18), defBody (top 18), defScope (top 18), [], []⟩
def d_without : He.DefD := ⟨("without", none), "without", "without", defArgs (top 19), defBody (top 19), defScope (top 19), [], []⟩
def d_wanted : He.DefD := ⟨("wanted", none), "wanted", "wanted", defArgs (top 20), defBody (top 20), defScope (top 20), [], []⟩
def d_lump_with : He.DefD := ⟨("lump_with", none), "lump_with", "lump_with", defArgs (top 21), defBody (top 21), defScope (top 21), [], []⟩
def d_is_closed : He.DefD := ⟨("is_closed", none), "is_closed", "is_closed", defArgs (top 22), defBody (top 22), defScope (top 22), [], []⟩
def d_after_cut : He.DefD := ⟨("after_cut", none), "after_cut", "after_cut", defArgs (top 23), defBody (top 23), defScope (top 23), [], []⟩
def d_leads_to : He.DefD := ⟨("leads_to", none), "leads_to", "leads_to", defArgs (top 24), defBody (top 24), defScope (top 24), [], []⟩
def d_lets : He.DefD := ⟨("lets", none), "lets", "lets", defArgs (top 25), defBody (top 25), defScope (top 25), [], []⟩
def d_product : He.DefD := ⟨("product", none), "product", "product", defArgs (top 26), defBody (top 26), defScope (top 26), [], []⟩
def d_summed : He.DefD := ⟨("summed", none), "summed", "summed", defArgs (top 27), defBody (top 27), defScope (top 27), [], []⟩
def d_first_formula : He.DefD := ⟨("first_formula", none), "first_formula", "first_formula", defArgs (top 28), defBody (top 28), defScope (top 28), [], []⟩
def d_lump_formula : He.DefD := ⟨("lump_formula", none), "lump_formula", "lump_formula", defArgs (top 29), defBody (top 29), defScope (top 29), [], []⟩
def d_shares_of : He.DefD := ⟨("shares_of", none), "shares_of", "shares_of", defArgs (top 30), defBody (top 30), defScope (top 30), [], []⟩
def d_formula_of : He.DefD := ⟨("formula_of", none), "formula_of", "formula_of", defArgs (top 31), defBody (top 31), defScope (top 31), [], []⟩
def d_law_cell_at : He.DefD := ⟨("_law_cell_at", none), "_law_cell_at", "_law_cell_at", defArgs (top 33), defBody (top 33), defScope (top 33), [], []⟩
def d_law_mix : He.DefD := ⟨("_law_mix", none), "_law_mix", "_law_mix", defArgs (top 34), defBody (top 34), defScope (top 34), [], []⟩
def d_law_drawing : He.DefD := ⟨("_law_drawing", none), "_law_drawing", "_law_drawing", defArgs (top 35), defBody (top 35), defScope (top 35), [], []⟩
def d_law_question : He.DefD := ⟨("_law_question", none), "_law_question", "_law_question", defArgs (top 36), defBody (top 36), defScope (top 36), [], []⟩
def d_law_upper : He.DefD := ⟨("_law_upper", none), "_law_upper", "_law_upper", defArgs (top 37), defBody (top 37), defScope (top 37), [], []⟩
def d_law_lumps : He.DefD := ⟨("_law_lumps", none), "_law_lumps", "_law_lumps", defArgs (top 38), defBody (top 38), defScope (top 38), [], []⟩
def d_law_wanted : He.DefD := ⟨("_law_wanted", none), "_law_wanted", "_law_wanted", defArgs (top 39), defBody (top 39), defScope (top 39), [], []⟩
def d_law_lump_with : He.DefD := ⟨("_law_lump_with", none), "_law_lump_with", "_law_lump_with", defArgs (top 40), defBody (top 40), defScope (top 40), [], []⟩
def d_law_is_set : He.DefD := ⟨("_law_is_set", none), "_law_is_set", "_law_is_set", defArgs (top 41), defBody (top 41), defScope (top 41), [], []⟩
def d_law_cut : He.DefD := ⟨("_law_cut", none), "_law_cut", "_law_cut", defArgs (top 42), defBody (top 42), defScope (top 42), [], []⟩
def d_law_closed_sets : He.DefD := ⟨("_law_closed_sets", none), "_law_closed_sets", "_law_closed_sets", defArgs (top 44), defBody (top 44), defScope (top 44), [], []⟩
def d_law_cuts : He.DefD := ⟨("_law_cuts", none), "_law_cuts", "_law_cuts", defArgs (top 45), defBody (top 45), defScope (top 45), [], []⟩
def d_law_paper : He.DefD := ⟨("_law_paper", none), "_law_paper", "_law_paper", defArgs (top 46), defBody (top 46), defScope (top 46), [], []⟩
def d_law_bent_set : He.DefD := ⟨("_law_bent_set", none), "_law_bent_set", "_law_bent_set", defArgs (top 47), defBody (top 47), defScope (top 47), [], []⟩
def d_law_bent_paper : He.DefD := ⟨("_law_bent_paper", none), "_law_bent_paper", "_law_bent_paper", defArgs (top 48), defBody (top 48), defScope (top 48), [], []⟩
def d_law_eighths : He.DefD := ⟨("_law_eighths", none), "_law_eighths", "_law_eighths", defArgs (top 49), defBody (top 49), defScope (top 49), [], []⟩
def d_law_heads : He.DefD := ⟨("_law_heads", none), "_law_heads", "_law_heads", defArgs (top 50), defBody (top 50), defScope (top 50), [], []⟩
def d_law_world : He.DefD := ⟨("_law_world", none), "_law_world", "_law_world", defArgs (top 51), defBody (top 51), defScope (top 51), [], []⟩
def d_law_ways : He.DefD := ⟨("_law_ways", none), "_law_ways", "_law_ways", defArgs (top 54), defBody (top 54), defScope (top 54), [], []⟩
def d_law_row_at : He.DefD := ⟨("_law_row_at", none), "_law_row_at", "_law_row_at", defArgs (top 55), defBody (top 55), defScope (top 55), [], []⟩
def d_law_weights : He.DefD := ⟨("_law_weights", none), "_law_weights", "_law_weights", defArgs (top 56), defBody (top 56), defScope (top 56), [], []⟩
def d_law_lowest : He.DefD := ⟨("_law_lowest", none), "_law_lowest", "_law_lowest", defArgs (top 57), defBody (top 57), defScope (top 57), [], []⟩
def d_law_worth : He.DefD := ⟨("_law_worth", none), "_law_worth", "_law_worth", defArgs (top 58), defBody (top 58), defScope (top 58), [], []⟩
def d_law : He.DefD := ⟨("law", none), "law", "law", defArgs (top 59), defBody (top 59), defScope (top 59), [], []⟩
def fn1 : List He.DefD := [d_is_set, d_look_at_set, d_pairs_of, d_init, d_m_sources, d_m_ancestors, d_m_lumps, d_m_part, d_look_at_question, d_every_name, d_without, d_wanted, d_lump_with, d_is_closed, d_after_cut, d_leads_to, d_lets, d_product, d_summed, d_first_formula, d_lump_formula, d_shares_of, d_formula_of, d_law_cell_at]
def fn2 : List He.DefD := [d_law_mix, d_law_drawing, d_law_question, d_law_upper, d_law_lumps, d_law_wanted, d_law_lump_with, d_law_is_set, d_law_cut, d_law_closed_sets, d_law_cuts, d_law_paper, d_law_bent_set, d_law_bent_paper, d_law_eighths, d_law_heads, d_law_world, d_law_ways, d_law_row_at, d_law_weights, d_law_lowest, d_law_worth, d_law]
def fn : List He.DefD := fn1 ++ fn2
def fa1 : List He.Fa := [.glo "is_set", .glo "look_at_set", .glo "pairs_of", .glo "look_at_question", .glo "every_name", .glo "without", .glo "wanted", .glo "lump_with", .glo "is_closed", .glo "after_cut", .glo "leads_to", .glo "lets", .glo "product", .glo "summed", .glo "first_formula", .glo "lump_formula", .glo "shares_of", .glo "formula_of", .glo "_law_cell_at", .glo "_law_mix", .glo "_law_drawing", .glo "_law_question", .glo "_law_upper", .glo "_law_lumps", .glo "_law_wanted", .glo "_law_lump_with", .glo "_law_is_set", .glo "_law_cut", .glo "_law_closed_sets", .glo "_law_cuts", .glo "_law_paper", .glo "_law_bent_set", .glo "_law_bent_paper", .glo "_law_eighths", .glo "_law_heads"]
def fa2 : List He.Fa := [.glo "_law_world", .glo "_law_ways", .glo "_law_row_at", .glo "_law_weights", .glo "_law_lowest", .glo "_law_worth", .glo "law", .glo "Drawing", .free "len", .free "range", .free "sorted", .free "tuple", .free "list", .free "reversed", .free "enumerate", .free "int", .free "sum", .free "dict", .free "ValueError", .int "MOST_NAMES" 6, .int "MOST_BOWS" 6, .cls "Drawing", .mkr "Drawing", .noat "Drawing" "count", .noat "Drawing" "ties", .noat "Drawing" "bows", .meth "Drawing" "sources", .meth "Drawing" "ancestors", .meth "Drawing" "lumps", .meth "Drawing" "part"]
def fa : List He.Fa := fa1 ++ fa2
/-- the module's facts -/
structure Su (K : PySem.W.Frag) (mg : Str → Option Value) : Prop where
  ex : ∃ h : Heap, K.In h ∧ h.Ns mainGlobals mg ∧ He.SaysD fa fn K
abbrev tx (K : PySem.W.Frag) : Tx := ⟨K, He.ga K "Drawing"⟩
section
variable {K : PySem.W.Frag} {mg : Str → Option Value}
theorem Su.glo (S : Su K mg) (i : Nat) {x : Str} (h : fa[i]? = some (.glo x) := by rfl) : mg x = some (.ref (He.ga K x)) :=
  let ⟨_, X, G, c⟩ := S.ex; He.glo_ok X G (c.fact i h)
theorem Su.free (S : Su K mg) (i : Nat) {x : Str} (h : fa[i]? = some (.free x) := by rfl) : mg x = none :=
  let ⟨_, X, G, c⟩ := S.ex; He.free_ok X G (c.fact i h)
theorem Su.int (S : Su K mg) (i : Nat) {x : Str} {n : Int} (h : fa[i]? = some (.int x n) := by rfl) : ∃ t, mg x = some (.int n t) :=
  let ⟨_, X, G, c⟩ := S.ex; He.int_ok X G (c.fact i h)
theorem Su.clsA (S : Su K mg) (i : Nat) (h : fa[i]? = some (.cls "Drawing") := by rfl) : Cls K (He.ga K "Drawing") :=
  let ⟨_, X, G, c⟩ := S.ex; He.cls_ok (c.fact i h)
theorem Su.mkrA (S : Su K mg) (i : Nat) (h : fa[i]? = some (.mkr "Drawing") := by rfl) : Mk K (He.ga K "Drawing") (He.fAd K ("Drawing", some "__init__")) :=
  let ⟨_, X, G, c⟩ := S.ex; He.mkr_ok (c.fact i h)
theorem Su.noat (S : Su K mg) (i : Nat) {f : Str} (h : fa[i]? = some (.noat "Drawing" f) := by rfl) : NoAttr K (He.ga K "Drawing") f :=
  let ⟨_, X, G, c⟩ := S.ex; He.noat_ok (c.fact i h)
theorem Su.meth (S : Su K mg) (i : Nat) {m : Str} (h : fa[i]? = some (.meth "Drawing" m) := by rfl) : Meth K (He.ga K "Drawing") m (He.fAd K ("Drawing", some m)) :=
  let ⟨_, X, G, c⟩ := S.ex; He.meth_ok (c.fact i h)
theorem Su.def_ (S : Su K mg) (i : Nat) {d : He.DefD} (h : fn[i]? = some d := by rfl) : ∃ fd, FunD K d.name d.qual d.params d.body d.scope (d.dvs K) (d.kws K) (He.fAd K d.at_) fd :=
  let ⟨_, X, G, c⟩ := S.ex; c.def_ i h
theorem Su.cls (S : Su K mg) : Cls K (He.ga K "Drawing") := S.clsA 56
theorem Su.mkr (S : Su K mg) : Mk K (He.ga K "Drawing") (He.fAd K ("Drawing", some "__init__")) := S.mkrA 57
theorem Su.na_count (S : Su K mg) : NoAttr K (He.ga K "Drawing") "count" := S.noat 58
theorem Su.na_ties (S : Su K mg) : NoAttr K (He.ga K "Drawing") "ties" := S.noat 59
theorem Su.na_bows (S : Su K mg) : NoAttr K (He.ga K "Drawing") "bows" := S.noat 60
end
abbrev N_is_set : List Str := ["drawing", "names", "k"]
theorem sc_is_set : FnScope N_is_set ["drawing", "names"] (defScope (top 12)) := ⟨rfl, rfl, rfl, by decide +kernel, rfl, by decide +kernel, by decide +kernel⟩
abbrev N_look_at_set : List Str := ["drawing", "names"]
theorem sc_look_at_set : FnScope N_look_at_set ["drawing", "names"] (defScope (top 13)) := ⟨rfl, rfl, rfl, by decide +kernel, rfl, by decide +kernel, by decide +kernel⟩
abbrev N_pairs_of : List Str := ["count", "pairs", "found", "pair"]
theorem sc_pairs_of : FnScope N_pairs_of ["count", "pairs"] (defScope (top 14)) := ⟨rfl, rfl, rfl, by decide +kernel, rfl, by decide +kernel, by decide +kernel⟩
abbrev N_init : List Str := ["self", "count", "ties", "bows"]
theorem sc_init : FnScope N_init ["self", "count", "ties", "bows"] (defScope (inClass (top 15) 0)) := ⟨rfl, rfl, rfl, by decide +kernel, rfl, by decide +kernel, by decide +kernel⟩
abbrev N_m_sources : List Str := ["self", "name", "u", "v"]
theorem sc_m_sources : FnScope N_m_sources ["self", "name"] (defScope (inClass (top 15) 1)) := ⟨rfl, rfl, rfl, by decide +kernel, rfl, by decide +kernel, by decide +kernel⟩
abbrev N_m_ancestors : List Str := ["self", "names", "found", "u", "v"]
theorem sc_m_ancestors : FnScope N_m_ancestors ["self", "names"] (defScope (inClass (top 15) 3)) := ⟨rfl, rfl, rfl, by decide +kernel, rfl, by decide +kernel, by decide +kernel⟩
abbrev N_m_lumps : List Str := ["self", "names", "found", "u", "v", "here", "there", "name", "lump"]
theorem sc_m_lumps : FnScope N_m_lumps ["self", "names"] (defScope (inClass (top 15) 5)) := ⟨rfl, rfl, rfl, by decide +kernel, rfl, by decide +kernel, by decide +kernel⟩
abbrev N_m_part : List Str := ["self", "names", "ties", "u", "v"]
theorem sc_m_part : FnScope N_m_part ["self", "names"] (defScope (inClass (top 15) 6)) := ⟨rfl, rfl, rfl, by decide +kernel, rfl, by decide +kernel, by decide +kernel⟩
abbrev N_look_at_question : List Str := ["drawing", "question", "ones", "asked", "name"]
theorem sc_look_at_question : FnScope N_look_at_question ["drawing", "question"] (defScope (top 17)) := ⟨rfl, rfl, rfl, by decide +kernel, rfl, by decide +kernel, by decide +kernel⟩
abbrev N_every_name : List Str := ["drawing"]
theorem sc_every_name : FnScope N_every_name ["drawing"] (defScope (top 18)) := ⟨rfl, rfl, rfl, by decide +kernel, rfl, by decide +kernel, by decide +kernel⟩
abbrev N_without : List Str := ["names", "others", "name"]
theorem sc_without : FnScope N_without ["names", "others"] (defScope (top 19)) := ⟨rfl, rfl, rfl, by decide +kernel, rfl, by decide +kernel, by decide +kernel⟩
abbrev N_wanted : List Str := ["drawing", "question", "ones", "asked", "names"]
theorem sc_wanted : FnScope N_wanted ["drawing", "question"] (defScope (top 20)) := ⟨rfl, rfl, rfl, by decide +kernel, rfl, by decide +kernel, by decide +kernel⟩
abbrev N_lump_with : List Str := ["drawing", "names", "inner", "lump"]
theorem sc_lump_with : FnScope N_lump_with ["drawing", "names", "inner"] (defScope (top 21)) := ⟨rfl, rfl, rfl, by decide +kernel, rfl, by decide +kernel, by decide +kernel⟩
abbrev N_is_closed : List Str := ["drawing", "stands", "names", "name", "source"]
theorem sc_is_closed : FnScope N_is_closed ["drawing", "stands", "names"] (defScope (top 22)) := ⟨rfl, rfl, rfl, by decide +kernel, rfl, by decide +kernel, by decide +kernel⟩
abbrev N_after_cut : List Str := ["drawing", "stands", "cut", "word", "names"]
theorem sc_after_cut : FnScope N_after_cut ["drawing", "stands", "cut"] (defScope (top 23)) := ⟨rfl, rfl, rfl, by decide +kernel, rfl, by decide +kernel, by decide +kernel⟩
abbrev N_leads_to : List Str := ["drawing", "lump", "cuts", "stands", "cut"]
theorem sc_leads_to : FnScope N_leads_to ["drawing", "lump", "cuts"] (defScope (top 24)) := ⟨rfl, rfl, rfl, by decide +kernel, rfl, by decide +kernel, by decide +kernel⟩
abbrev N_lets : List Str := ["drawing", "question", "paper", "lumps", "lump", "cuts", "row"]
theorem sc_lets : FnScope N_lets ["drawing", "question", "paper"] (defScope (top 25)) := ⟨rfl, rfl, rfl, by decide +kernel, rfl, by decide +kernel, by decide +kernel⟩
abbrev N_product : List Str := ["formulas", "made", "formula"]
theorem sc_product : FnScope N_product ["formulas"] (defScope (top 26)) := ⟨rfl, rfl, rfl, by decide +kernel, rfl, by decide +kernel, by decide +kernel⟩
abbrev N_summed : List Str := ["names", "formula"]
theorem sc_summed : FnScope N_summed ["names", "formula"] (defScope (top 27)) := ⟨rfl, rfl, rfl, by decide +kernel, rfl, by decide +kernel, by decide +kernel⟩
abbrev N_first_formula : List Str := ["lump", "made", "name"]
theorem sc_first_formula : FnScope N_first_formula ["lump"] (defScope (top 28)) := ⟨rfl, rfl, rfl, by decide +kernel, rfl, by decide +kernel, by decide +kernel⟩
abbrev N_lump_formula : List Str := ["stands", "names", "formula", "made", "at", "name", "less"]
theorem sc_lump_formula : FnScope N_lump_formula ["stands", "names", "formula"] (defScope (top 29)) := ⟨rfl, rfl, rfl, by decide +kernel, rfl, by decide +kernel, by decide +kernel⟩
abbrev N_shares_of : List Str := ["drawing", "lump", "cuts", "stands", "formula", "word", "names"]
theorem sc_shares_of : FnScope N_shares_of ["drawing", "lump", "cuts"] (defScope (top 30)) := ⟨rfl, rfl, rfl, by decide +kernel, rfl, by decide +kernel, by decide +kernel⟩
abbrev N_formula_of : List Str := ["drawing", "question", "paper", "names", "made", "lump", "cuts"]
theorem sc_formula_of : FnScope N_formula_of ["drawing", "question", "paper"] (defScope (top 31)) := ⟨rfl, rfl, rfl, by decide +kernel, rfl, by decide +kernel, by decide +kernel⟩
abbrev N_law_cell_at : List Str := ["_law_script", "_law_k"]
theorem sc_law_cell_at : FnScope N_law_cell_at ["_law_script", "_law_k"] (defScope (top 33)) := ⟨rfl, rfl, rfl, by decide +kernel, rfl, by decide +kernel, by decide +kernel⟩
abbrev N_law_mix : List Str := ["_law_unit", "_law_k", "_law_number"]
theorem sc_law_mix : FnScope N_law_mix ["_law_unit", "_law_k"] (defScope (top 34)) := ⟨rfl, rfl, rfl, by decide +kernel, rfl, by decide +kernel, by decide +kernel⟩
abbrev N_law_drawing : List Str := ["_law_number", "_law_least", "_law_most", "_law_count", "_law_ties", "_law_bows", "_law_v", "_law_u"]
theorem sc_law_drawing : FnScope N_law_drawing ["_law_number", "_law_least", "_law_most"] (defScope (top 35)) := ⟨rfl, rfl, rfl, by decide +kernel, rfl, by decide +kernel, by decide +kernel⟩
abbrev N_law_question : List Str := ["_law_number", "_law_count", "_law_ones", "_law_asked", "_law_name", "_law_way"]
theorem sc_law_question : FnScope N_law_question ["_law_number", "_law_count"] (defScope (top 36)) := ⟨rfl, rfl, rfl, by decide +kernel, rfl, by decide +kernel, by decide +kernel⟩
abbrev N_law_upper : List Str := ["_law_shape", "_law_names", "_law_ends", "_law_got", "_law_turn", "_law_u", "_law_v", "_law_name"]
theorem sc_law_upper : FnScope N_law_upper ["_law_shape", "_law_names", "_law_ends"] (defScope (top 37)) := ⟨rfl, rfl, rfl, by decide +kernel, rfl, by decide +kernel, by decide +kernel⟩
abbrev N_law_lumps : List Str := ["_law_shape", "_law_names", "_law_lumps_here", "_law_left", "_law_lump", "_law_turn", "_law_u", "_law_v", "_law_name"]
theorem sc_law_lumps : FnScope N_law_lumps ["_law_shape", "_law_names"] (defScope (top 38)) := ⟨rfl, rfl, rfl, by decide +kernel, rfl, by decide +kernel, by decide +kernel⟩
abbrev N_law_wanted : List Str := ["_law_shape", "_law_question_here", "_law_names", "_law_name"]
theorem sc_law_wanted : FnScope N_law_wanted ["_law_shape", "_law_question_here"] (defScope (top 39)) := ⟨rfl, rfl, rfl, by decide +kernel, rfl, by decide +kernel, by decide +kernel⟩
abbrev N_law_lump_with : List Str := ["_law_shape", "_law_names", "_law_inner", "_law_lump"]
theorem sc_law_lump_with : FnScope N_law_lump_with ["_law_shape", "_law_names", "_law_inner"] (defScope (top 40)) := ⟨rfl, rfl, rfl, by decide +kernel, rfl, by decide +kernel, by decide +kernel⟩
abbrev N_law_is_set : List Str := ["_law_shape", "_law_names", "_law_k"]
theorem sc_law_is_set : FnScope N_law_is_set ["_law_shape", "_law_names"] (defScope (top 41)) := ⟨rfl, rfl, rfl, by decide +kernel, rfl, by decide +kernel, by decide +kernel⟩
abbrev N_law_cut : List Str := ["_law_shape", "_law_stands", "_law_cut_here", "_law_word", "_law_names", "_law_lacks", "_law_u", "_law_v", "_law_name"]
theorem sc_law_cut : FnScope N_law_cut ["_law_shape", "_law_stands", "_law_cut_here"] (defScope (top 42)) := ⟨rfl, rfl, rfl, by decide +kernel, rfl, by decide +kernel, by decide +kernel⟩
abbrev N_law_closed_sets : List Str := ["_law_shape", "_law_stands", "_law_lump", "_law_got", "_law_bits", "_law_names", "_law_k", "_law_name"]
theorem sc_law_closed_sets : FnScope N_law_closed_sets ["_law_shape", "_law_stands", "_law_lump"] (defScope (top 44)) := ⟨rfl, rfl, rfl, by decide +kernel, rfl, by decide +kernel, by decide +kernel⟩
abbrev N_law_cuts : List Str := ["_law_shape", "_law_lump", "_law_number", "_law_stands", "_law_cuts_here", "_law_ways_here", "_law_held"]
theorem sc_law_cuts : FnScope N_law_cuts ["_law_shape", "_law_lump", "_law_number"] (defScope (top 45)) := ⟨rfl, rfl, rfl, by decide +kernel, rfl, by decide +kernel, by decide +kernel⟩
abbrev N_law_paper : List Str := ["_law_shape", "_law_question_here", "_law_number", "_law_rows", "_law_lump", "_law_cuts_here", "_law_stands"]
theorem sc_law_paper : FnScope N_law_paper ["_law_shape", "_law_question_here", "_law_number"] (defScope (top 46)) := ⟨rfl, rfl, rfl, by decide +kernel, rfl, by decide +kernel, by decide +kernel⟩
abbrev N_law_bent_set : List Str := ["_law_names", "_law_number", "_law_count", "_law_way", "_law_name"]
theorem sc_law_bent_set : FnScope N_law_bent_set ["_law_names", "_law_number", "_law_count"] (defScope (top 47)) := ⟨rfl, rfl, rfl, by decide +kernel, rfl, by decide +kernel, by decide +kernel⟩
abbrev N_law_bent_paper : List Str := ["_law_paper_here", "_law_number", "_law_count", "_law_more", "_law_at", "_law_lump", "_law_cuts_here", "_law_way", "_law_spot", "_law_names", "_law_cut_here", "_law_name"]
theorem sc_law_bent_paper : FnScope N_law_bent_paper ["_law_paper_here", "_law_number", "_law_count"] (defScope (top 48)) := ⟨rfl, rfl, rfl, by decide +kernel, rfl, by decide +kernel, by decide +kernel⟩
abbrev N_law_eighths : List Str := ["_law_number", "_law_size", "_law_first"]
theorem sc_law_eighths : FnScope N_law_eighths ["_law_number", "_law_size"] (defScope (top 49)) := ⟨rfl, rfl, rfl, by decide +kernel, rfl, by decide +kernel, by decide +kernel⟩
abbrev N_law_heads : List Str := ["_law_shape", "_law_sizes", "_law_widths", "_law_name", "_law_got", "_law_u", "_law_v", "_law_k", "_law_bow"]
theorem sc_law_heads : FnScope N_law_heads ["_law_shape", "_law_sizes", "_law_widths", "_law_name"] (defScope (top 50)) := ⟨rfl, rfl, rfl, by decide +kernel, rfl, by decide +kernel, by decide +kernel⟩
abbrev N_law_world : List Str := ["_law_shape", "_law_number", "_law_sizes", "_law_name", "_law_widths", "_law_hidden", "_law_bow", "_law_tables", "_law_rows", "_law_head", "_law_size", "_law_table", "_law_row"]
theorem sc_law_world : FnScope N_law_world ["_law_shape", "_law_number"] (defScope (top 51)) := ⟨rfl, rfl, rfl, by decide +kernel, rfl, by decide +kernel, by decide +kernel⟩
abbrev N_law_ways : List Str := ["_law_sizes", "_law_got", "_law_size", "_law_more", "_law_way", "_law_value"]
theorem sc_law_ways : FnScope N_law_ways ["_law_sizes"] (defScope (top 54)) := ⟨rfl, rfl, rfl, by decide +kernel, rfl, by decide +kernel, by decide +kernel⟩
abbrev N_law_row_at : List Str := ["_law_shape", "_law_spec", "_law_name", "_law_values", "_law_hid", "_law_at", "_law_u", "_law_v", "_law_k", "_law_bow"]
theorem sc_law_row_at : FnScope N_law_row_at ["_law_shape", "_law_spec", "_law_name", "_law_values", "_law_hid"] (defScope (top 55)) := ⟨rfl, rfl, rfl, by decide +kernel, rfl, by decide +kernel, by decide +kernel⟩
abbrev N_law_weights : List Str := ["_law_shape", "_law_spec", "_law_ones", "_law_got", "_law_values", "_law_hid", "_law_weight", "_law_k", "_law_value", "_law_name", "_law_row"]
theorem sc_law_weights : FnScope N_law_weights ["_law_shape", "_law_spec", "_law_ones"] (defScope (top 56)) := ⟨rfl, rfl, rfl, by decide +kernel, rfl, by decide +kernel, by decide +kernel⟩
abbrev N_law_lowest : List Str := ["_law_top", "_law_bottom", "_law_one", "_law_other"]
theorem sc_law_lowest : FnScope N_law_lowest ["_law_top", "_law_bottom"] (defScope (top 57)) := ⟨rfl, rfl, rfl, by decide +kernel, rfl, by decide +kernel, by decide +kernel⟩
abbrev N_law_worth : List Str := ["_law_sizes", "_law_weights_here", "_law_formula", "_law_values", "_law_word", "_law_top", "_law_full", "_law_made", "_law_way", "_law_inner", "_law_k", "_law_name", "_law_one", "_law_other"]
theorem sc_law_worth : FnScope N_law_worth ["_law_sizes", "_law_weights_here", "_law_formula", "_law_values"] (defScope (top 58)) := ⟨rfl, rfl, rfl, by decide +kernel, rfl, by decide +kernel, by decide +kernel⟩
abbrev N_law : List Str := ["_law_script", "_law_head", "_law_shape", "_law_question_here", "_law_word", "_law_paper_here", "_law_outer", "_law_drawing_here", "_law_formula", "_law_spec", "_law_values", "_law_name", "_law_weights_here", "_law_top", "_law_bottom", "_law_full"]
theorem sc_law : FnScope N_law ["_law_script"] (defScope (top 59)) := ⟨rfl, rfl, rfl, by decide +kernel, rfl, by decide +kernel, by decide +kernel⟩
end W3

namespace W3
open PySem PySem.Spec PyProof.Rows L2 Evl
section
variable {P : Program} {w : World} {K : PySem.W.Frag} {mg : Str → Option Value} {base : Heap}
/-! ### is_set -/
def sp_is_set : Spec := fun ds F => ∃ n ties bows ns, ds = [.drw n ties bows, dI ns] ∧ ns.length ≤ 1000 ∧ F (.bl (isSet n ns))
-- slots: 0 drawing, 1 names, 2 k
theorem ok_is_set (S : Su K mg) : Good P w (tx K) mg base 1 (He.fAd K ("is_set", none)) ["drawing", "names"] sp_is_set := by
  obtain ⟨fd, F⟩ := S.def_ 0 (d := d_is_set)
  refine good_of F sc_is_set (fun _ _ _ _ _ _ us hl => match us, hl with | [_, _], _ => rfl) ?len ?body
  case len => intro ds F ⟨_, _, _, _, e, _⟩; rw [e]; rfl
  case body =>
    intro cdv A outer s H E hr ds F ⟨n, ties, bows, ns, e, hz, hF⟩
    subst e
    refine ⟨_, (pss_cons (ps_for PassesOwn.never rfl (pi_range1 (by rfl) (S.free 44) (pa_cons (pe_callB (call_lenK (K := K)) (by rfl) (S.free 43) PySem.boot_len (pa_cons (pv 1) pa_nil)) pa_nil)) (pg_name (i := 2) sc_is_set.nd rfl (Or.inl rfl)) (pss_one (ps_if (PW.pt (pw_or (pt_cmpR op_ltX (pe_ix (ix_seqK (K := K)) (pv 1) (pv 2) (fun _ _ => rfl)) pe_int (nomark _)) (pw_or (pt_cmpR op_geX (pe_ix (ix_seqK (K := K)) (pv 1) (pv 2) (fun _ _ => rfl)) (pe_fld (pv 0) rfl) (nomark _)) (pw_or1 (PW.pt (pw_and (pt_cmpR op_gtX (pv 2) pe_int (nomark _)) (pw_and1 (pt_cmpR op_leX (pe_ix (ix_seqK (K := K)) (pv 1) (pv 2) (fun _ _ => rfl)) (pe_ix (ix_seqK (K := K)) (pv 1) (pe_op op_subX (pv 2) pe_int) (fun _ _ => rfl)) (nomark _))))))))) (pss_one (ps_ret pe_bl)) pss_nil)))
    (pss_one (ps_ret pe_bl))), ?_⟩
    refine sq_for (ys := List.range ns.length) (enc := fun i => .int (i : Nat)) (ei_rngN (ea1 (ev_len (ev_var rfl).sT |>.as (by rw [List.length_map]))) (by omega))
      (fun pre G' => G' = [.d (.drw n ties bows), .d (dI ns), .un] ∧ pre.all (okAt n ns) = true) (Wk.refl _) ⟨rfl, rfl⟩ ?_ ?_
    · intro pre k post G' e ⟨e2, hp⟩
      subst e2
      have hk := rg_mid e
      refine ⟨_, _, bd_name, ?_⟩
      refine sg_if (b := !okAt n ns k) ((et_or (et_test (ev_lt (ev_ixI (ev_var rfl).sT (ev_var rfl) hk) ev_int)) fun _ => et_or (et_test (ev_ge (ev_ixI (ev_var rfl).sT (ev_var rfl) hk) (ev_count S.cls S.na_count (ev_var rfl)))) fun _ =>
        et_and (et_test (ev_gt (ev_var rfl) ev_int)) fun h0 => et_test (ev_le (ev_ixI (ev_var rfl).sT (ev_var rfl) hk) (ev_ixI (k := k - 1) (ev_var rfl).sT ((ev_sub (ev_var rfl) ev_int).as ?_) ?_))).as ?_) (fun hb => ?_) (fun hb => ?_)
      · have := of_decide_eq_true h0
        congr 1
        omega
      · omega
      · show _ = !!_
        rw [Bool.not_not]
      · refine sg_ret ev_bl ?_
        show F (.bl false)
        have : isSet n ns = false := by
          rw [Bool.not_eq_true'] at hb
          unfold isSet
          rw [e, List.all_append, List.all_cons, hb, Bool.false_and, Bool.and_false]
        rw [this] at hF
        exact hF
      · refine sg_next ⟨_, .cons (.rfl _) (.cons (.rfl _) (.cons (.un _) .nil)), rfl, ?_⟩
        rw [Bool.not_eq_false'] at hb
        rw [List.all_append, hp, List.all_cons, hb]
        rfl
    · intro G' ⟨e2, hp⟩
      subst e2
      exact sg_ret ev_bl (by
        show F (.bl true)
        have : isSet n ns = true := hp
        rw [this] at hF
        exact hF)
end
end W3

namespace W3
open PySem PySem.Spec PyProof.Rows L2 Evl
local macro_rules | `(tactic| walk_at "ev") => `(tactic| first
  | ((with_reducible apply ev_var); exact rfl)
  | ((with_reducible apply es_own); exact rfl)
  | ((with_reducible apply el_own); exact rfl)
  | with_reducible exact ev_int
  | with_reducible exact ev_bl
  | with_reducible exact ev_str
  | with_reducible exact ev_non
  | with_reducible exact ea_nil
  | with_reducible exact et_yes
  | ((with_reducible apply ea_cons); walk_at "ev"; walk_at "ev")
  | ((with_reducible apply ev_add); walk_at "ev"; walk_at "ev")
  | ((with_reducible apply ev_sub); walk_at "ev"; walk_at "ev")
  | ((with_reducible apply ev_lt); walk_at "ev"; walk_at "ev")
  | ((with_reducible apply ev_le); walk_at "ev"; walk_at "ev")
  | ((with_reducible apply ev_gt); walk_at "ev"; walk_at "ev")
  | ((with_reducible apply ev_ge); walk_at "ev"; walk_at "ev")
  | ((with_reducible apply ev_in); walk_at "ev"; walk_at "ev")
  | ((with_reducible apply ev_ni); walk_at "ev"; walk_at "ev")
  | ((with_reducible apply ev_inLT); walk_at "ev"; walk_at "ev")
  | ((with_reducible apply ev_inL); walk_at "ev"; walk_at "ev")
  | ((with_reducible apply ev_niTT); walk_at "ev"; walk_at "ev")
  | ((with_reducible apply ev_eq); walk_at "ev"; walk_at "ev")
  | ((with_reducible apply ev_eqS); walk_at "ev"; walk_at "ev")
  | ((with_reducible apply ev_eqT); walk_at "ev"; walk_at "ev")
  | ((with_reducible apply ev_eqL); walk_at "ev"; walk_at "ev")
  | ((with_reducible apply ev_ne); walk_at "ev"; walk_at "ev")
  | ((with_reducible apply ev_neT); walk_at "ev"; walk_at "ev")
  | ((with_reducible apply ev_neL); walk_at "ev"; walk_at "ev")
  | ((with_reducible apply ev_neLT); walk_at "ev"; walk_at "ev")
  | ((with_reducible apply ev_neB); walk_at "ev"; walk_at "ev")
  | ((with_reducible apply ev_len); walk_at "ev")
  | ((with_reducible apply ev_tupOf); walk_at "ev")
  | ((with_reducible apply ev_intB); walk_at "ev")
  | ((with_reducible apply en_lstOf); walk_at "ev")
  | ((with_reducible apply et_test); walk_at "ev")
  | ((with_reducible apply et_B); walk_at "ev")
  | ((with_reducible apply et_not); walk_at "ev")
  | ((with_reducible apply EvD.sT); walk_at "ev")
  | ((with_reducible apply EvD.sL); walk_at "ev")
  | ((with_reducible apply EvD.l); walk_at "ev")
  | ((with_reducible apply EvN.s); walk_at "ev")
  | ((with_reducible apply EvN.d); walk_at "ev")
  | ((with_reducible apply EvN.l); walk_at "ev")
  | ((with_reducible apply et_and); walk_at "ev"; intro _; walk_at "ev")
  | ((with_reducible apply et_or); walk_at "ev"; intro _; walk_at "ev")
  | ((with_reducible apply ev_ixN (j := 0)); walk_at "ev"; exact ev_int; exact rfl)
  | ((with_reducible apply ev_ixN (j := 1)); walk_at "ev"; exact ev_int; exact rfl)
  | ((with_reducible apply ev_ixN (j := 2)); walk_at "ev"; exact ev_int; exact rfl)
  | ((with_reducible apply ev_mod); walk_at "ev"; walk_at "ev"; decide)
  | ((with_reducible apply ev_div); walk_at "ev"; walk_at "ev"; decide)
  | ((with_reducible apply ev_tup); walk_at "ev"; simp)
  | ((with_reducible apply en_lst); walk_at "ev"; simp))
local macro_rules | `(tactic| walk_at "wk") => `(tactic| first | exact Wk.nil | (refine Wk.cons (Wk1.rfl _) ?_; walk_at "wk") | (refine Wk.cons (Wk1.un _) ?_; walk_at "wk") | (refine Wk.cons (Wk1.fz _) ?_; walk_at "wk") | (refine Wk.cons (Wk1.lk _) ?_; walk_at "wk"))
/-! data of the program -/
mutual
def encF : Fm → Dt
  | .one => .tup [.str ("one" : Str)]
  | .seen ns => .tup [.str ("seen" : Str), dI ns]
  | .times a b => .tup [.str ("times" : Str), encF a, encF b]
  | .over a b => .tup [.str ("over" : Str), encF a, encF b]
  | .sum ns f => .tup [.str ("sum" : Str), dI ns, encF f]
end
theorem dP_dI : ∀ ps : List (Int × Int), ps.map dP = (ps.map fun p => [p.1, p.2]).map dI
  | [] => rfl
  | p :: ps => by rw [List.map_cons, dP_dI ps]; rfl
theorem rgD_rgI (n : Int) : rgD n.toNat = (rgI n).map .int := by
  unfold rgD rgI
  rw [List.map_map]
  rfl
theorem rgI_len (n : Int) : (rgI n).length = n.toNat := by unfold rgI; rw [List.length_map, List.length_range]
section
variable {P : Program} {w : World} {K : PySem.W.Frag} {mg : Str → Option Value} {base : Heap}
def sp_pairs_of : Spec := fun ds F => ∃ n ps, ds = [.int n, lTP ps] ∧ (∀ p ∈ ps, 0 ≤ p.1 ∧ p.1 < p.2 ∧ p.2 < n) ∧ ps.Nodup ∧ ps.length ≤ 1000 ∧ F (dTP (sortP ps))
-- slots: 0 count, 1 pairs, 2 found, 3 pair
theorem ok_pairs_of (S : Su K mg) : Good P w (tx K) mg base 1 (He.fAd K ("pairs_of", none)) ["count", "pairs"] sp_pairs_of := by
  obtain ⟨fd, F⟩ := S.def_ 2 (d := d_pairs_of)
  refine good_of F sc_pairs_of (fun _ _ _ _ _ _ us hl => match us, hl with | [_, _], _ => rfl) ?len ?body
  case len => intro ds F ⟨_, _, e, _⟩; rw [e]; rfl
  case body =>
    intro cdv A outer s H E hr ds F ⟨n, ps, e, hp, hn, hz, hF⟩
    subst e
    refine ⟨_, (pss_cons (ps_set (i := 2) sc_pairs_of.nd rfl (Or.inl rfl) (pe_lst pa_nil))
    (pss_cons (ps_for PassesOwn.never rfl (pi_seq (pv 1)) (pg_name (i := 3) sc_pairs_of.nd rfl (Or.inl rfl)) (pss_cons (ps_if (PW.pt (pw_or (pt_cmpR (op_neK (K := K) hr) (pe_callB (call_lenK (K := K)) (by rfl) (S.free 43) PySem.boot_len (pa_cons (pv 3) pa_nil)) pe_int (nomark _)) (pw_or (pt_cmpR op_ltX (pe_ix (ix_seqK (K := K)) (pv 3) pe_int (fun _ _ => rfl)) pe_int (nomark _)) (pw_or (pt_cmpR op_leX (pe_ix (ix_seqK (K := K)) (pv 3) pe_int (fun _ _ => rfl)) (pe_ix (ix_seqK (K := K)) (pv 3) pe_int (fun _ _ => rfl)) (nomark _)) (pw_or (pt_cmpR op_geX (pe_ix (ix_seqK (K := K)) (pv 3) pe_int (fun _ _ => rfl)) (pv 0) (nomark _)) (pw_or1 (pt_cmpR (op_inK (K := K) hr) (pe_callTy call_tupX (by rfl) (S.free 46) (by decide +kernel) (pa_cons (pv 3) pa_nil)) (pv 2) (by rfl)))))))) (pss_one (ps_ret pe_non)) pss_nil)
    (pss_one (ps_expr (pe_bm PySem.F.plainAttrs_list PySem.F.slot_list_append PySem.F.type_list_append mt_append (pv 2) (pa_cons (pe_callTy call_tupX (by rfl) (S.free 46) (by decide +kernel) (pa_cons (pv 3) pa_nil)) pa_nil))))))
    (pss_one (ps_ret (pe_callTy call_tupX (by rfl) (S.free 46) (by decide +kernel) (pa_cons (pe_callB (call_sortX hr) (by rfl) (S.free 45) (by decide +kernel) (pa_cons (pv 2) pa_nil)) pa_nil)))))), ?_⟩
    refine sq_asgN (en_lst ea_nil (by simp)) (lt_of_some rfl) ?_
    refine sq_for (ys := ps) (enc := dP) (ei_lst (ev_var rfl)) (fun pre G' => G' = [.d (.int n), .d (lTP ps), .own (.lst (pre.map dP)), .un]) (Wk.refl _) rfl ?_ ?_
    · intro pre p post G' e e2
      subst e2
      obtain ⟨h1, h2, h3⟩ := hp p (mem_mid e)
      refine ⟨_, _, bd_name, ?_⟩
      refine sq_guard (b := false) (EvT.as (et_or (by walk_at "ev") fun _ => et_or (by walk_at "ev") fun _ => et_or (by walk_at "ev") fun _ => et_or (by walk_at "ev") fun _ =>
        et_test (ev_inL (ns := [p.1, p.2]) (L := pre.map fun p => [p.1, p.2]) (ev_tupOf (EvD.sT (ev_var rfl))) (by rw [← dP_dI]; exact el_own rfl))) ?_) (fun h => nomatch h) fun _ => ?_
      · have : [p.1, p.2] ∉ pre.map fun p => [p.1, p.2] := fun hm => by
          obtain ⟨q, hq, e2⟩ := List.mem_map.mp hm
          have e3 : q = p := by
            injection e2 with a b
            injection b with b
            exact Prod.ext a b
          subst e3
          rw [e] at hn
          exact (List.nodup_append.mp hn).2.2 _ hq _ List.mem_cons_self rfl
        simp [this]
        omega
      · refine sg_app rfl (ev_tupOf (EvD.sT (ev_var rfl))) (by rw [List.length_map]; have := congrArg List.length e; simp at this; omega) ⟨_, .cons (.rfl _) (.cons (.rfl _) (.cons (.rfl _) (.cons (.un _) .nil))), ?_⟩
        rw [List.map_append]
        rfl
    · intro G' e2
      subst e2
      exact sg_ret (ev_tupOf (en_sortP (es_own rfl)).s) hF
def sp_every_name : Spec := fun ds F => ∃ n ts bs, ds = [.drw n ts bs] ∧ 0 ≤ n ∧ n ≤ 1000 ∧ F (dI (rgI n))
-- slots: 0 drawing
theorem ok_every_name (S : Su K mg) : Good P w (tx K) mg base 1 (He.fAd K ("every_name", none)) ["drawing"] sp_every_name := by
  obtain ⟨fd, F⟩ := S.def_ 9 (d := d_every_name)
  refine good_of F sc_every_name (fun _ _ _ _ _ _ us hl => match us, hl with | [_], _ => rfl) ?len ?body
  case len => intro ds F ⟨_, _, _, e, _⟩; rw [e]; rfl
  case body =>
    intro cdv A outer s H E hr ds F ⟨n, ts, bs, e, h0, h1, hF⟩
    subst e
    refine ⟨_, (pss_one (ps_ret (pe_tupRg rfl (by rfl) (S.free 46) (prg_1 (by rfl) (S.free 44) (pe_fld (pv 0) rfl))))), ?_⟩
    refine sg_ret (ev_tupRg (ev_count S.cls S.na_count (ev_var rfl)) h0 (by omega)) ?_
    rw [rgD_rgI]
    exact hF
def sp_without : Spec := fun ds F => ∃ ns os, ds = [dI ns, dI os] ∧ ns.length ≤ 1000 ∧ F (dI (woF ns os))
-- slots: 0 names, 1 others*, 2 name
theorem ok_without (S : Su K mg) : Good P w (tx K) mg base 1 (He.fAd K ("without", none)) ["names", "others"] sp_without := by
  obtain ⟨fd, F⟩ := S.def_ 10 (d := d_without)
  refine good_of F sc_without (fun _ _ _ _ _ _ us hl => match us, hl with | [_, _], _ => rfl) ?len ?body
  case len => intro ds F ⟨_, _, e, _⟩; rw [e]; rfl
  case body =>
    intro cdv A outer s H E hr ds F ⟨ns, os, e, hz, hF⟩
    subst e
    refine ⟨_, (pss_one (ps_ret (pe_callTy call_tupX (by rfl) (S.free 46) (by decide +kernel) (pa_cons (pe_lc (own := [("name", 2)]) rfl sc_without.nd (pi_seq (pv 0)) (blkOk_by (own := [("name", 2)]) (N := N_without) (sc := defScope (top 19)) (by decide +kernel)) (fun _ _ _ _ _ => (pg_name (i := 2) sc_without.nd rfl (by first | exact Or.inl rfl | exact Or.inr rfl))) (fun _ _ _ _ _ => (pts_one (pt_cmpR (op_niK (K := K) hr) (pv 2) (pv 1) (by rfl)))) (fun _ _ _ _ _ => (pv 2))) pa_nil)))), ?_⟩
    exact sg_ret (ev_tupOf (EvN.s (en_lc1 (ys := ns) (enc := .int) (fun j => !decide (j ∈ os)) .int (ei_tup (ev_var rfl)).j (by omega) rfl fun y hy => ⟨by walk_at "ev", fun _ => by walk_at "ev"⟩))) hF
def sp_summed : Spec := fun ds F => ∃ ns f, ds = [dI ns, encF f] ∧ F (encF (sumF ns f))
-- slots: 0 names, 1 formula
theorem ok_summed (S : Su K mg) : Good P w (tx K) mg base 1 (He.fAd K ("summed", none)) ["names", "formula"] sp_summed := by
  obtain ⟨fd, F⟩ := S.def_ 18 (d := d_summed)
  refine good_of F sc_summed (fun _ _ _ _ _ _ us hl => match us, hl with | [_, _], _ => rfl) ?len ?body
  case len => intro ds F ⟨_, _, e, _⟩; rw [e]; rfl
  case body =>
    intro cdv A outer s H E hr ds F ⟨ns, f, e, hF⟩
    subst e
    refine ⟨_, (pss_cons (ps_if (pt_cmpR (op_eqK (K := K) hr) (pv 0) (pe_tup pa_nil) (nomark _)) (pss_one (ps_ret (pv 1))) pss_nil)
    (pss_one (ps_ret (pe_tup (pa_cons pe_str (pa_cons (pv 0) (pa_cons (pv 1) pa_nil))))))), ?_⟩
    refine sq_guard (b := decide (ns = [])) (et_test (ev_eqT (ms := []) (ev_var rfl) (ev_tup ea_nil (by simp)))) (fun h => sg_ret (ev_var rfl) ?_) fun h => sg_ret (ev_tup (ea_cons ev_str (ea_cons (ev_var rfl) (ea_cons (ev_var rfl) ea_nil))) (by simp)) ?_
    · have := of_decide_eq_true h
      rw [sumF, if_pos this] at hF
      exact hF
    · have := of_decide_eq_false h
      rw [sumF, if_neg this, encF] at hF
      exact hF
def sp_look_at_set : Spec := fun ds F => ∃ n ts bs ns, ds = [.drw n ts bs, dI ns] ∧ ns.length ≤ 1000 ∧ isSet n ns = true ∧ F .non
-- slots: 0 drawing, 1 names
theorem ok_look_at_set (S : Su K mg) : Good P w (tx K) mg base 2 (He.fAd K ("look_at_set", none)) ["drawing", "names"] sp_look_at_set := by
  obtain ⟨fd, F⟩ := S.def_ 1 (d := d_look_at_set)
  have g_is_set := ok_is_set (P := P) (w := w) (base := base) S
  refine good_of F sc_look_at_set (fun _ _ _ _ _ _ us hl => match us, hl with | [_, _], _ => rfl) ?len ?body
  case len => intro ds F ⟨_, _, _, _, e, _⟩; rw [e]; rfl
  case body =>
    intro cdv A outer s H E hr ds F ⟨n, ts, bs, ns, e, hz, hs, hF⟩
    subst e
    refine ⟨_, (pss_one (ps_if (pt_not (pt_val (pe_callG (T := tx K) g_is_set (hr.mono (by decide)) (by rfl) (S.glo 0) (pa_cons (pv 0) (pa_cons (pv 1) pa_nil))))) (pss_one ps_never) pss_nil)), ?_⟩
    refine sg_if (b := false) (EvT.as (et_not (et_B (ev_callD (T := tx K) (x := .bl (isSet n ns)) (by walk_at "ev") ⟨n, ts, bs, ns, rfl, hz, rfl⟩))) (by rw [hs]; rfl)) (fun h => nomatch h) fun _ => sg_next hF
def sp_m_sources : Spec := fun ds F => ∃ n ts bs j, ds = [.drw n ts bs, .int j] ∧ isSet n [j] = true ∧ ts.length ≤ 1000 ∧ F (dI (srcF ts j))
-- slots: 0 self, 1 name*, 2 u, 3 v
theorem ok_m_sources (S : Su K mg) : Good P w (tx K) mg base 3 (He.fAd K ("Drawing", some "sources")) ["self", "name"] sp_m_sources := by
  obtain ⟨fd, F⟩ := S.def_ 4 (d := d_m_sources)
  have g_look_at_set := ok_look_at_set (P := P) (w := w) (base := base) S
  refine good_of F sc_m_sources (fun _ _ _ _ _ _ us hl => match us, hl with | [_, _], _ => rfl) ?len ?body
  case len => intro ds F ⟨_, _, _, _, e, _⟩; rw [e]; rfl
  case body =>
    intro cdv A outer s H E hr ds F ⟨n, ts, bs, j, e, hs, hz, hF⟩
    subst e
    refine ⟨_, (pss_cons (ps_expr (pe_callG (T := tx K) g_look_at_set (hr.mono (by decide)) (by rfl) (S.glo 1) (pa_cons (pv 0) (pa_cons (pe_tup (pa_cons (pv 1) pa_nil)) pa_nil))))
    (pss_one (ps_ret (pe_callTy call_tupX (by rfl) (S.free 46) (by decide +kernel) (pa_cons (pe_lc (own := [("u", 2), ("v", 3)]) rfl sc_m_sources.nd (pi_seq (pe_fld (pv 0) rfl)) (blkOk_by (own := [("u", 2), ("v", 3)]) (N := N_m_sources) (sc := defScope (inClass (top 15) 1)) (by decide +kernel)) (fun _ _ _ _ _ => (pg_seqK (K := K) (n := 2) rfl (pgs_cons (pg_name (i := 2) sc_m_sources.nd rfl (by first | exact Or.inl rfl | exact Or.inr rfl)) (pgs_cons (pg_name (i := 3) sc_m_sources.nd rfl (by first | exact Or.inl rfl | exact Or.inr rfl)) pgs_nil)))) (fun _ _ _ _ _ => (pts_one (pt_cmpR (op_eqK (K := K) hr) (pv 3) (pv 1) (nomark _)))) (fun _ _ _ _ _ => (pv 2))) pa_nil))))), ?_⟩
    refine sq_drop (ev_callD (T := tx K) (x := .non) (ea2 (ev_var rfl) (ev_tup (ea1 (ev_var rfl)) (by simp))) ⟨n, ts, bs, [j], rfl, by simp, hs, rfl⟩) ?_
    refine sg_ret (ev_tupOf (EvN.s (EvN.as (en_lc2 (ys := ts) (enc := dP) (fun p => decide (p.2 = j)) (fun p => .int p.1) (ei_tup (ev_ties S.cls S.na_ties (ev_var rfl))).j (fun _ => rfl) (by omega) rfl fun y hy => ⟨by walk_at "ev", fun _ => by walk_at "ev"⟩) (List.map_map (g := Dt.int) (f := fun p : Int × Int => p.1)).symm))) hF
end
end W3

namespace W3
open PySem PySem.Spec PyProof.Rows L2 Evl
local macro_rules | `(tactic| walk_at "ev") => `(tactic| first
  | ((with_reducible apply ev_var); exact rfl)
  | ((with_reducible apply es_own); exact rfl)
  | ((with_reducible apply el_own); exact rfl)
  | with_reducible exact ev_int
  | with_reducible exact ev_bl
  | with_reducible exact ev_str
  | with_reducible exact ev_non
  | with_reducible exact ea_nil
  | with_reducible exact et_yes
  | ((with_reducible apply ea_cons); walk_at "ev"; walk_at "ev")
  | ((with_reducible apply ev_add); walk_at "ev"; walk_at "ev")
  | ((with_reducible apply ev_sub); walk_at "ev"; walk_at "ev")
  | ((with_reducible apply ev_lt); walk_at "ev"; walk_at "ev")
  | ((with_reducible apply ev_le); walk_at "ev"; walk_at "ev")
  | ((with_reducible apply ev_gt); walk_at "ev"; walk_at "ev")
  | ((with_reducible apply ev_ge); walk_at "ev"; walk_at "ev")
  | ((with_reducible apply ev_in); walk_at "ev"; walk_at "ev")
  | ((with_reducible apply ev_ni); walk_at "ev"; walk_at "ev")
  | ((with_reducible apply ev_inLT); walk_at "ev"; walk_at "ev")
  | ((with_reducible apply ev_inL); walk_at "ev"; walk_at "ev")
  | ((with_reducible apply ev_niTT); walk_at "ev"; walk_at "ev")
  | ((with_reducible apply ev_eq); walk_at "ev"; walk_at "ev")
  | ((with_reducible apply ev_eqS); walk_at "ev"; walk_at "ev")
  | ((with_reducible apply ev_eqT); walk_at "ev"; walk_at "ev")
  | ((with_reducible apply ev_eqL); walk_at "ev"; walk_at "ev")
  | ((with_reducible apply ev_ne); walk_at "ev"; walk_at "ev")
  | ((with_reducible apply ev_neT); walk_at "ev"; walk_at "ev")
  | ((with_reducible apply ev_neL); walk_at "ev"; walk_at "ev")
  | ((with_reducible apply ev_neLT); walk_at "ev"; walk_at "ev")
  | ((with_reducible apply ev_neB); walk_at "ev"; walk_at "ev")
  | ((with_reducible apply ev_len); walk_at "ev")
  | ((with_reducible apply ev_tupOf); walk_at "ev")
  | ((with_reducible apply ev_intB); walk_at "ev")
  | ((with_reducible apply en_lstOf); walk_at "ev")
  | ((with_reducible apply et_test); walk_at "ev")
  | ((with_reducible apply et_B); walk_at "ev")
  | ((with_reducible apply et_not); walk_at "ev")
  | ((with_reducible apply EvD.sT); walk_at "ev")
  | ((with_reducible apply EvD.sL); walk_at "ev")
  | ((with_reducible apply EvD.l); walk_at "ev")
  | ((with_reducible apply EvN.s); walk_at "ev")
  | ((with_reducible apply EvN.d); walk_at "ev")
  | ((with_reducible apply EvN.l); walk_at "ev")
  | ((with_reducible apply et_and); walk_at "ev"; intro _; walk_at "ev")
  | ((with_reducible apply et_or); walk_at "ev"; intro _; walk_at "ev")
  | ((with_reducible apply ev_ixN (j := 0)); walk_at "ev"; exact ev_int; exact rfl)
  | ((with_reducible apply ev_ixN (j := 1)); walk_at "ev"; exact ev_int; exact rfl)
  | ((with_reducible apply ev_ixN (j := 2)); walk_at "ev"; exact ev_int; exact rfl)
  | ((with_reducible apply ev_mod); walk_at "ev"; walk_at "ev"; decide)
  | ((with_reducible apply ev_div); walk_at "ev"; walk_at "ev"; decide)
  | ((with_reducible apply ev_tup); walk_at "ev"; simp)
  | ((with_reducible apply en_lst); walk_at "ev"; simp))
local macro_rules | `(tactic| walk_at "wk") => `(tactic| first | exact Wk.nil | (refine Wk.cons (Wk1.rfl _) ?_; walk_at "wk") | (refine Wk.cons (Wk1.un _) ?_; walk_at "wk") | (refine Wk.cons (Wk1.fz _) ?_; walk_at "wk") | (refine Wk.cons (Wk1.lk _) ?_; walk_at "wk"))
section
variable {T : Tx} {G : List Sl} {te tk : TE} {ds : List Dt}
theorem cut_map {α β : Type} (f : α → β) (xs : List α) (lo hi : Option Int) : cutG (xs.map f) lo hi = (cutG xs lo hi).map f := by
  unfold cutG
  rw [List.length_map, List.map_take, List.map_drop]
theorem en_slL {tl th : TO} {lo hi : Option Int} (h : EvL T te G ds) (hl : EvO T tl G lo) (hh : EvO T th G hi) : EvN T (tSl (rSlX T.K) te tl th) G (cutG ds lo hi) := fun B ad H s I Q q =>
  h B ad H s I _ fun v H1 e1 ⟨p, vs, ev, hp, r1⟩ => hl B ad H1 s (I.mono e1) _ fun H2 e2 => hh B ad H2 s (I.mono (e1.trans e2)) _ fun H3 e3 => by
    subst ev
    have r3 := r1.mono (wo_mono (e2.trans e3))
    exact .inl ⟨p, vs, rfl, SqL.of (e3 _ _ (e2 _ _ hp)), fun l hl' => q _ _ (((e1.trans e2).trans e3).trans (Ex.new hl')) ⟨l, _, rfl, fresh_back ((e1.trans e2).trans e3) hl', upd_same, (r3.cut lo hi).mono (ex_but hl')⟩⟩
theorem ev_tailT {α : Type} {ys : List α} {enc : α → Dt} {k : Nat} (h : EvD T te G (.tup (ys.map enc))) (hk : EvD T tk G (.int (k : Nat))) : EvD T (tSl (rSlX T.K) te (tPart tk) tNoPart) G (.tup ((ys.drop k).map enc)) :=
  (ev_slT h (eo_some hk) eo_none).as (by rw [cut_map, cut_tail])
theorem filter_all {α : Type} (l : List α) : l.filter (fun _ => true) = l := List.filter_eq_self.mpr fun _ _ => rfl
end
section
variable {P : Program} {w : World} {K : PySem.W.Frag} {mg : Str → Option Value} {base : Heap}
def sp_product : Spec := fun ds F => ∃ fs : List Fm, ds = [.lst (fs.map encF)] ∧ fs ≠ [] ∧ F (encF (prodF fs))
-- slots: 0 formulas, 1 made, 2 formula
theorem ok_product (S : Su K mg) : Good P w (tx K) mg base 1 (He.fAd K ("product", none)) ["formulas"] sp_product := by
  obtain ⟨fd, F⟩ := S.def_ 17 (d := d_product)
  refine good_of F sc_product (fun _ _ _ _ _ _ us hl => match us, hl with | [_], _ => rfl) ?len ?body
  case len => intro ds F ⟨_, e, _⟩; rw [e]; rfl
  case body =>
    intro cdv A outer s H E hr ds F ⟨fs, e, hn, hF⟩
    subst e
    refine ⟨_, (pss_cons (ps_set (i := 1) sc_product.nd rfl (Or.inl rfl) (pe_ix (ix_seqK (K := K)) (pv 0) pe_int (fun _ _ => rfl)))
    (pss_cons (ps_for PassesOwn.never rfl (pi_seq (pe_slice sl_X (pv 0) (po_some pe_int) po_none)) (pg_name (i := 2) sc_product.nd rfl (Or.inl rfl)) (pss_one (ps_set (i := 1) sc_product.nd rfl (Or.inl rfl) (pe_tup (pa_cons pe_str (pa_cons (pv 1) (pa_cons (pv 2) pa_nil)))))))
    (pss_one (ps_ret (pv 1))))), ?_⟩
    obtain ⟨f0, rest, rfl⟩ := List.exists_cons_of_ne_nil hn
    refine sq_asg (ev_ixN (j := 0) (x := encF f0) (ev_var rfl).sL ev_int rfl) ?_
    refine sq_for (ys := rest) (enc := encF) (ei_lst (EvN.d (EvN.as (en_slL (ev_var rfl).l (eo_some (i := ((1 : Nat) : Int)) ev_int) eo_none) (by rw [cut_tail]; rfl)))) (fun pre G' => G' = [.d (.lst ((f0 :: rest).map encF)), .d (encF (pre.foldl .times f0)), .un]) (Wk.refl _) rfl ?_ ?_
    · intro pre f post G' e e2
      subst e2
      refine ⟨_, _, bd_name, ?_⟩
      refine sg_asgB (ev_tup (ea_cons ev_str (ea_cons (ev_var rfl) (ea_cons (ev_var rfl) ea_nil))) (by simp)) bd_name ⟨_, .cons (.rfl _) (.cons (.rfl _) (.cons (.un _) .nil)), ?_⟩
      rw [List.foldl_append, List.foldl_cons, List.foldl_nil, encF]
    · intro G' e2
      subst e2
      exact sg_ret (ev_var rfl) hF
def sp_first_formula : Spec := fun ds F => ∃ ns : List Int, ds = [dI ns] ∧ ns ≠ [] ∧ ns.length ≤ 1000 ∧ (∀ j ∈ ns, 0 ≤ j ∧ j ≤ 1000) ∧ F (encF (firstF ns))
-- slots: 0 lump, 1 made, 2 name
theorem ok_first_formula (S : Su K mg) : Good P w (tx K) mg base 2 (He.fAd K ("first_formula", none)) ["lump"] sp_first_formula := by
  obtain ⟨fd, F⟩ := S.def_ 19 (d := d_first_formula)
  have g_product := ok_product (P := P) (w := w) (base := base) S
  refine good_of F sc_first_formula (fun _ _ _ _ _ _ us hl => match us, hl with | [_], _ => rfl) ?len ?body
  case len => intro ds F ⟨_, e, _⟩; rw [e]; rfl
  case body =>
    intro cdv A outer s H E hr ds F ⟨ns, e, hn, hz, hb, hF⟩
    subst e
    refine ⟨_, (pss_cons (ps_set (i := 1) sc_first_formula.nd rfl (Or.inl rfl) (pe_lst pa_nil))
    (pss_cons (ps_for PassesOwn.never rfl (pi_seq (pv 0)) (pg_name (i := 2) sc_first_formula.nd rfl (Or.inl rfl)) (pss_one (ps_expr (pe_bm PySem.F.plainAttrs_list PySem.F.slot_list_append PySem.F.type_list_append mt_append (pv 1) (pa_cons (pe_tup (pa_cons pe_str (pa_cons (pe_tup (pa_cons pe_str (pa_cons (pe_tupRg rfl (by rfl) (S.free 46) (prg_1 (by rfl) (S.free 44) (pe_op (op_addK (K := K)) (pv 2) pe_int))) pa_nil))) (pa_cons (pe_tup (pa_cons pe_str (pa_cons (pe_tupRg rfl (by rfl) (S.free 46) (prg_1 (by rfl) (S.free 44) (pv 2))) pa_nil))) pa_nil)))) pa_nil)))))
    (pss_one (ps_ret (pe_callG (T := tx K) g_product (hr.mono (by decide)) (by rfl) (S.glo 12) (pa_cons (pv 1) pa_nil)))))), ?_⟩
    refine sq_asgN (en_lst ea_nil (by simp)) (lt_of_some rfl) ?_
    refine sq_for (ys := ns) (enc := .int) (ei_tup (ev_var rfl)) (fun pre G' => G' = [.d (dI ns), .own (.lst ((pre.map fun j => Fm.over (.seen (rgI (j + 1))) (.seen (rgI j))).map encF)), .un]) (Wk.refl _) rfl ?_ ?_
    · intro pre j post G' e e2
      subst e2
      obtain ⟨h1, h2⟩ := hb j (mem_mid e)
      refine ⟨_, _, bd_name, ?_⟩
      refine sg_app (x := encF (.over (.seen (rgI (j + 1))) (.seen (rgI j)))) rfl ?_ (by rw [List.length_map, List.length_map]; have := congrArg List.length e; simp at this; omega) ⟨_, .cons (.rfl _) (.cons (.rfl _) (.cons (.un _) .nil)), ?_⟩
      · refine (ev_tup (ea_cons ev_str (ea_cons (ev_tup (ea_cons ev_str (ea_cons ((ev_tupRg (ev_add (ev_var rfl) ev_int) (by omega) (by omega)).as (y := dI (rgI (j + 1))) (by rw [rgD_rgI]; rfl)) ea_nil)) (by simp)) (ea_cons (ev_tup (ea_cons ev_str (ea_cons ((ev_tupRg (ev_var rfl) h1 (by omega)).as (y := dI (rgI j)) (by rw [rgD_rgI]; rfl)) ea_nil)) (by simp)) ea_nil))) (by simp)).as ?_
        simp only [encF]
      · rw [List.map_append, List.map_append]
        rfl
    · intro G' e2
      subst e2
      refine sg_wk (.cons (.rfl _) (.cons (.fz _) (.cons (.rfl _) .nil))) ?_
      refine sg_ret (ev_callD (T := tx K) (x := encF (firstF ns)) (ea1 (ev_var rfl)) ⟨_, rfl, by simpa using hn, rfl⟩) hF
def sp_lump_formula : Spec := fun ds F => ∃ (st ns : List Int) (f : Fm), ds = [dI st, dI ns, encF f] ∧ (∃ j ∈ st, j ∈ ns) ∧ st.length ≤ 1000 ∧ F (encF (lumpForm st ns f))
def lumpAt1 (st : List Int) (f : Fm) (p : Int × Nat) : Fm := .over (sumF (st.drop (p.2 + 1)) f) (lessF st p.2 f)
-- slots: 0 stands, 1 names, 2 formula, 3 made, 4 at, 5 name, 6 less
theorem ok_lump_formula (S : Su K mg) : Good P w (tx K) mg base 2 (He.fAd K ("lump_formula", none)) ["stands", "names", "formula"] sp_lump_formula := by
  obtain ⟨fd, F⟩ := S.def_ 20 (d := d_lump_formula)
  have g_product := ok_product (P := P) (w := w) (base := base) S
  have g_summed := ok_summed (P := P) (w := w) (base := base) S
  refine good_of F sc_lump_formula (fun _ _ _ _ _ _ us hl => match us, hl with | [_, _, _], _ => rfl) ?len ?body
  case len => intro ds F ⟨_, _, _, e, _⟩; rw [e]; rfl
  case body =>
    intro cdv A outer s H E hr ds F ⟨st, ns, f, e, hn, hz, hF⟩
    subst e
    refine ⟨_, (pss_cons (ps_set (i := 3) sc_lump_formula.nd rfl (Or.inl rfl) (pe_lst pa_nil))
    (pss_cons (ps_for PassesOwn.never rfl (pi_enumX (by rfl) (S.free 49) (pv 0)) (pg_seqK (K := K) (n := 2) rfl (pgs_cons (pg_name (i := 4) sc_lump_formula.nd rfl (Or.inl rfl)) (pgs_cons (pg_name (i := 5) sc_lump_formula.nd rfl (Or.inl rfl)) pgs_nil))) (pss_one (ps_if (pt_cmpR (op_inK (K := K) hr) (pv 5) (pv 1) (by rfl)) (pss_cons (ps_set (i := 6) sc_lump_formula.nd rfl (Or.inl rfl) (pe_tup (pa_cons pe_str pa_nil)))
    (pss_cons (ps_if (pt_cmpR op_gtX (pv 4) pe_int (nomark _)) (pss_one (ps_set (i := 6) sc_lump_formula.nd rfl (Or.inl rfl) (pe_callG (T := tx K) g_summed (hr.mono (by decide)) (by rfl) (S.glo 13) (pa_cons (pe_slice sl_X (pv 0) (po_some (pv 4)) po_none) (pa_cons (pv 2) pa_nil))))) pss_nil)
    (pss_one (ps_expr (pe_bm PySem.F.plainAttrs_list PySem.F.slot_list_append PySem.F.type_list_append mt_append (pv 3) (pa_cons (pe_tup (pa_cons pe_str (pa_cons (pe_callG (T := tx K) g_summed (hr.mono (by decide)) (by rfl) (S.glo 13) (pa_cons (pe_slice sl_X (pv 0) (po_some (pe_op (op_addK (K := K)) (pv 4) pe_int)) po_none) (pa_cons (pv 2) pa_nil))) (pa_cons (pv 6) pa_nil)))) pa_nil)))))) pss_nil)))
    (pss_one (ps_ret (pe_callG (T := tx K) g_product (hr.mono (by decide)) (by rfl) (S.glo 12) (pa_cons (pv 3) pa_nil)))))), ?_⟩
    refine sq_asgN (en_lst ea_nil (by simp)) (lt_of_some rfl) ?_
    refine sq_for (ys := st.zipIdx) (enc := fun p => .tup [.int (p.2 : Nat), .int p.1]) (ei_enum (.inr (ev_var rfl))) (fun pre G' => G' = [.d (dI st), .d (dI ns), .d (encF f), .own (.lst (((pre.filter fun p => decide (p.1 ∈ ns)).map (lumpAt1 st f)).map encF)), .un, .un, .un]) (Wk.refl _) rfl ?_ ?_
    · intro pre p post G' e e2
      subst e2
      have hl : pre.length < st.length := by have := congrArg List.length e; simp at this; omega
      refine ⟨_, _, bd_2T, ?_⟩
      refine sg_if (b := decide (p.1 ∈ ns)) (by walk_at "ev") (fun hb => ?_) fun hb => ?_
      · refine sq_asg (x := encF .one) ((ev_tup (ea_cons ev_str ea_nil) (by simp)).as (by rw [encF])) ?_
        refine sq_when (fun G2 => G2 = [.d (dI st), .d (dI ns), .d (encF f), .own (.lst (((pre.filter fun p => decide (p.1 ∈ ns)).map (lumpAt1 st f)).map encF)), .d (.int (p.2 : Nat)), .d (.int p.1), .d (encF (lessF st p.2 f))]) (b := decide ((0 : Int) < (p.2 : Nat))) (by walk_at "ev") (fun h0 => ?_) (fun h0 => ?_) ?_
        · refine sg_asgB (x := encF (lessF st p.2 f)) (ev_callD (T := tx K) (ea2 (ev_tailT (ys := st) (enc := .int) (ev_var rfl) (ev_var rfl)) (ev_var rfl)) ⟨st.drop p.2, f, rfl, ?_⟩) bd_name rfl
          rw [lessF, if_pos h0]
        · rw [lessF, if_neg (by rw [h0]; decide)]
          rfl
        · intro G2 e3
          subst e3
          refine sg_app (x := encF (lumpAt1 st f p)) rfl ?_ ?_ ⟨_, .cons (.rfl _) (.cons (.rfl _) (.cons (.rfl _) (.cons (.rfl _) (.cons (.un _) (.cons (.un _) (.cons (.un _) .nil)))))), ?_⟩
          · refine (ev_tup (ea_cons ev_str (ea_cons (ev_callD (T := tx K) (x := encF (sumF (st.drop (p.2 + 1)) f)) (ea2 (ev_tailT (k := p.2 + 1) (ys := st) (enc := .int) (ev_var rfl) ((ev_add (ev_var rfl) ev_int).as (by rw [Int.natCast_add]; rfl))) (ev_var rfl)) ⟨_, f, rfl, rfl⟩) (ea_cons (ev_var rfl) ea_nil))) (by simp)).as ?_
            rw [lumpAt1, encF]
          · rw [List.length_map, List.length_map]
            have := List.length_filter_le (fun p : Int × Nat => decide (p.1 ∈ ns)) pre
            omega
          · rw [List.filter_append, List.filter_cons, if_pos hb, List.map_append, List.map_append]
            rfl
      · refine sg_next ⟨_, .cons (.rfl _) (.cons (.rfl _) (.cons (.rfl _) (.cons (.rfl _) (.cons (.un _) (.cons (.un _) (.cons (.rfl _) .nil)))))), ?_⟩
        rw [List.filter_append, List.filter_cons, if_neg (by rw [hb]; decide), List.filter_nil, List.append_nil]
    · intro G' e2
      subst e2
      refine sg_wk (.cons (.rfl _) (.cons (.rfl _) (.cons (.rfl _) (.cons (.fz _) (.cons (.rfl _) (.cons (.rfl _) (.cons (.rfl _) .nil))))))) ?_
      refine sg_ret (ev_callD (T := tx K) (x := encF (lumpForm st ns f)) (ea1 (ev_var rfl)) ⟨_, rfl, ?_, rfl⟩) hF
      obtain ⟨j, h1, h2⟩ := hn
      intro e3
      rw [List.map_eq_nil_iff, List.filter_eq_nil_iff] at e3
      obtain ⟨k, hk, e4⟩ := List.getElem_of_mem h1
      refine e3 (j, k) ?_ (by simpa using h2)
      rw [List.mem_zipIdx_iff_getElem?, List.getElem?_eq_getElem hk, e4]
def sp_m_ancestors : Spec := fun ds F => ∃ n ts bs ns, ds = [.drw n ts bs, dI ns] ∧ isSet n ns = true ∧ ns.length ≤ 1000 ∧ ts.length ≤ 1000 ∧ F (dI (ancF ts ns))
-- slots: 0 self, 1 names, 2 found, 3 u, 4 v
theorem ok_m_ancestors (S : Su K mg) : Good P w (tx K) mg base 3 (He.fAd K ("Drawing", some "ancestors")) ["self", "names"] sp_m_ancestors := by
  obtain ⟨fd, F⟩ := S.def_ 5 (d := d_m_ancestors)
  have g_look_at_set := ok_look_at_set (P := P) (w := w) (base := base) S
  refine good_of F sc_m_ancestors (fun _ _ _ _ _ _ us hl => match us, hl with | [_, _], _ => rfl) ?len ?body
  case len => intro ds F ⟨_, _, _, _, e, _⟩; rw [e]; rfl
  case body =>
    intro cdv A outer s H E hr ds F ⟨n, ts, bs, ns, e, hs, hz, ht, hF⟩
    subst e
    refine ⟨_, (pss_cons (ps_expr (pe_callG (T := tx K) g_look_at_set (hr.mono (by decide)) (by rfl) (S.glo 1) (pa_cons (pv 0) (pa_cons (pv 1) pa_nil))))
    (pss_cons (ps_set (i := 2) sc_m_ancestors.nd rfl (Or.inl rfl) (pe_callTy call_lstX (by rfl) (S.free 47) (by decide +kernel) (pa_cons (pv 1) pa_nil)))
    (pss_cons (ps_for PassesOwn.never rfl (RT.pi_revA (by rfl) (S.free 48) (pe_callB (call_sortX hr) (by rfl) (S.free 45) (by decide +kernel) (pa_cons (pe_lc (own := [("u", 3), ("v", 4)]) rfl sc_m_ancestors.nd (pi_seq (pe_fld (pv 0) rfl)) (blkOk_by (own := [("u", 3), ("v", 4)]) (N := N_m_ancestors) (sc := defScope (inClass (top 15) 3)) (by decide +kernel)) (fun _ _ _ _ _ => (pg_seqK (K := K) (n := 2) rfl (pgs_cons (pg_name (i := 3) sc_m_ancestors.nd rfl (by first | exact Or.inl rfl | exact Or.inr rfl)) (pgs_cons (pg_name (i := 4) sc_m_ancestors.nd rfl (by first | exact Or.inl rfl | exact Or.inr rfl)) pgs_nil)))) (fun _ _ _ _ _ => pts_nil) (fun _ _ _ _ _ => (pe_tup (pa_cons (pv 4) (pa_cons (pv 3) pa_nil))))) pa_nil))) (pg_seqK (K := K) (n := 2) rfl (pgs_cons (pg_name (i := 3) sc_m_ancestors.nd rfl (Or.inl rfl)) (pgs_cons (pg_name (i := 4) sc_m_ancestors.nd rfl (Or.inl rfl)) pgs_nil))) (pss_one (ps_if (PW.pt (pw_and (pt_cmpR (op_inK (K := K) hr) (pv 3) (pv 2) (by rfl)) (pw_and1 (pt_cmpR (op_niK (K := K) hr) (pv 4) (pv 2) (by rfl))))) (pss_one (ps_expr (pe_bm PySem.F.plainAttrs_list PySem.F.slot_list_append PySem.F.type_list_append mt_append (pv 2) (pa_cons (pv 4) pa_nil)))) pss_nil)))
    (pss_one (ps_ret (pe_callTy call_tupX (by rfl) (S.free 46) (by decide +kernel) (pa_cons (pe_callB (call_sortX hr) (by rfl) (S.free 45) (by decide +kernel) (pa_cons (pv 2) pa_nil)) pa_nil))))))), ?_⟩
    refine sq_drop (ev_callD (T := tx K) (x := .non) (ea2 (ev_var rfl) (ev_var rfl)) ⟨n, ts, bs, ns, rfl, hz, hs, rfl⟩) ?_
    refine sq_asgN (en_lstOf (ev_var rfl).sT) (lt_of_some rfl) ?_
    refine sq_for (ys := ancL ts) (enc := dP) (EvI.as (ei_rev (EvN.d (en_sortP (ps := ts.map fun p => (p.2, p.1)) (EvN.s (EvN.as (en_lc2 (ys := ts) (enc := dP) (fun _ => true) (fun p => dP (p.2, p.1)) (ei_tup (ev_ties S.cls S.na_ties (ev_var rfl))).j (fun _ => rfl) (by omega) rfl fun y hy => ⟨et_yes, fun _ => by exact ev_tup (ea2 (ev_var rfl) (ev_var rfl)) (by simp)⟩) (by rw [filter_all, List.map_map]; rfl)))))) ?_)
      (fun pre G' => (pre.foldl ancStep ns).length ≤ ns.length + pre.length ∧ G' = [.d (.drw n ts bs), .d (dI ns), .own (.lst ((pre.foldl ancStep ns).map .int)), .un, .un]) (Wk.refl _) ⟨Nat.le_add_right _ _, rfl⟩ ?_ ?_
    · rw [ancL, List.map_reverse]
      rfl
    · intro pre p post G' e ⟨hl, e2⟩
      subst e2
      have hq : pre.length < ts.length := by
        have := congrArg List.length e
        unfold ancL sortP at this
        simp at this
        omega
      refine ⟨_, _, bd_2T, ?_⟩
      refine sg_if (b := decide (p.1 ∈ pre.foldl ancStep ns) && !decide (p.2 ∈ pre.foldl ancStep ns)) (by walk_at "ev") (fun hb => ?_) fun hb => ?_
      · refine sg_app rfl (x := .int p.2) (ev_var rfl) (by rw [List.length_map]; omega) ⟨_, .cons (.rfl _) (.cons (.rfl _) (.cons (.rfl _) (.cons (.un _) (.cons (.un _) .nil)))), ?_⟩
        rw [List.foldl_append, List.foldl_cons, List.foldl_nil, ancStep, if_pos hb]
        rw [List.length_append, List.map_append, List.length_append]
        refine ⟨?_, rfl⟩
        show _ + 1 ≤ _ + (_ + 1)
        omega
      · refine sg_next ⟨_, .cons (.rfl _) (.cons (.rfl _) (.cons (.rfl _) (.cons (.un _) (.cons (.un _) .nil)))), ?_⟩
        rw [List.foldl_append, List.foldl_cons, List.foldl_nil, ancStep, if_neg (by rw [hb]; decide), List.length_append]
        exact ⟨by omega, rfl⟩
    · intro G' ⟨_, e2⟩
      subst e2
      exact sg_ret (ev_tupOf (en_sortI (es_own rfl)).s) hF
end
end W3

namespace W3
open PySem PySem.Spec PyProof.Rows L2 Evl
local macro_rules | `(tactic| walk_at "ev") => `(tactic| first
  | ((with_reducible apply ev_var); exact rfl)
  | ((with_reducible apply es_own); exact rfl)
  | ((with_reducible apply el_own); exact rfl)
  | with_reducible exact ev_int
  | with_reducible exact ev_bl
  | with_reducible exact ev_str
  | with_reducible exact ev_non
  | with_reducible exact ea_nil
  | with_reducible exact et_yes
  | ((with_reducible apply ea_cons); walk_at "ev"; walk_at "ev")
  | ((with_reducible apply ev_add); walk_at "ev"; walk_at "ev")
  | ((with_reducible apply ev_sub); walk_at "ev"; walk_at "ev")
  | ((with_reducible apply ev_lt); walk_at "ev"; walk_at "ev")
  | ((with_reducible apply ev_le); walk_at "ev"; walk_at "ev")
  | ((with_reducible apply ev_gt); walk_at "ev"; walk_at "ev")
  | ((with_reducible apply ev_ge); walk_at "ev"; walk_at "ev")
  | ((with_reducible apply ev_in); walk_at "ev"; walk_at "ev")
  | ((with_reducible apply ev_ni); walk_at "ev"; walk_at "ev")
  | ((with_reducible apply ev_inLT); walk_at "ev"; walk_at "ev")
  | ((with_reducible apply ev_inL); walk_at "ev"; walk_at "ev")
  | ((with_reducible apply ev_niTT); walk_at "ev"; walk_at "ev")
  | ((with_reducible apply ev_eq); walk_at "ev"; walk_at "ev")
  | ((with_reducible apply ev_eqS); walk_at "ev"; walk_at "ev")
  | ((with_reducible apply ev_eqT); walk_at "ev"; walk_at "ev")
  | ((with_reducible apply ev_eqL); walk_at "ev"; walk_at "ev")
  | ((with_reducible apply ev_ne); walk_at "ev"; walk_at "ev")
  | ((with_reducible apply ev_neT); walk_at "ev"; walk_at "ev")
  | ((with_reducible apply ev_neL); walk_at "ev"; walk_at "ev")
  | ((with_reducible apply ev_neLT); walk_at "ev"; walk_at "ev")
  | ((with_reducible apply ev_neB); walk_at "ev"; walk_at "ev")
  | ((with_reducible apply ev_len); walk_at "ev")
  | ((with_reducible apply ev_tupOf); walk_at "ev")
  | ((with_reducible apply ev_intB); walk_at "ev")
  | ((with_reducible apply en_lstOf); walk_at "ev")
  | ((with_reducible apply et_test); walk_at "ev")
  | ((with_reducible apply et_B); walk_at "ev")
  | ((with_reducible apply et_not); walk_at "ev")
  | ((with_reducible apply EvD.sT); walk_at "ev")
  | ((with_reducible apply EvD.sL); walk_at "ev")
  | ((with_reducible apply EvD.l); walk_at "ev")
  | ((with_reducible apply EvN.s); walk_at "ev")
  | ((with_reducible apply EvN.d); walk_at "ev")
  | ((with_reducible apply EvN.l); walk_at "ev")
  | ((with_reducible apply et_and); walk_at "ev"; intro _; walk_at "ev")
  | ((with_reducible apply et_or); walk_at "ev"; intro _; walk_at "ev")
  | ((with_reducible apply ev_ixN (j := 0)); walk_at "ev"; exact ev_int; exact rfl)
  | ((with_reducible apply ev_ixN (j := 1)); walk_at "ev"; exact ev_int; exact rfl)
  | ((with_reducible apply ev_ixN (j := 2)); walk_at "ev"; exact ev_int; exact rfl)
  | ((with_reducible apply ev_mod); walk_at "ev"; walk_at "ev"; decide)
  | ((with_reducible apply ev_div); walk_at "ev"; walk_at "ev"; decide)
  | ((with_reducible apply ev_tup); walk_at "ev"; simp)
  | ((with_reducible apply en_lst); walk_at "ev"; simp))
local macro_rules | `(tactic| walk_at "wk") => `(tactic| first | exact Wk.nil | (refine Wk.cons (Wk1.rfl _) ?_; walk_at "wk") | (refine Wk.cons (Wk1.un _) ?_; walk_at "wk") | (refine Wk.cons (Wk1.fz _) ?_; walk_at "wk") | (refine Wk.cons (Wk1.lk _) ?_; walk_at "wk"))
/-- good pairs -/
def GP (n : Int) (ps : List (Int × Int)) : Prop := (∀ p ∈ ps, 0 ≤ p.1 ∧ p.1 < p.2 ∧ p.2 < n) ∧ ps.Nodup ∧ ps.length ≤ 1000
/-- a good drawing -/
structure GD (n : Int) (ts bs : List (Int × Int)) : Prop where
  n1 : 1 ≤ n
  n6 : n ≤ 6
  t : GP n ts
  b : GP n bs
  b6 : bs.length ≤ 6
theorem GP.sort {n : Int} {ps : List (Int × Int)} (h : GP n ps) : GP n (sortP ps) := ⟨fun p hp => h.1 p (mem_sortP.mp hp), nd_sortP h.2.1, by rw [len_sortP]; exact h.2.2⟩
theorem GP.part {n : Int} {ps : List (Int × Int)} (h : GP n ps) (ns : List Int) : GP n (partP ps ns) := ⟨fun p hp => h.1 p (List.mem_filter.mp hp).1, h.2.1.filter _, Nat.le_trans (List.length_filter_le _ _) h.2.2⟩
theorem GD.part {n : Int} {ts bs : List (Int × Int)} (h : GD n ts bs) (ns : List Int) : GD n (sortP (partP ts ns)) (sortP (partP bs ns)) :=
  ⟨h.n1, h.n6, (h.t.part ns).sort, (h.b.part ns).sort, by rw [len_sortP]; exact Nat.le_trans (List.length_filter_le _ _) h.b6⟩
theorem set_len {n : Int} {ns : List Int} (h : isSet n ns = true) : ns.length ≤ n.toNat := by
  obtain ⟨h1, h2⟩ := isSet_iff.mp h
  rw [← rgI_len n]
  exact len_of_sub (nd_rise h2) fun x hx => rgI_mem.mpr (h1 x hx)
section
variable {P : Program} {w : World} {K : PySem.W.Frag} {mg : Str → Option Value} {base : Heap}
def dQ (ones asked : List Int) : Dt := .tup [dI ones, dI asked]
structure GQ (n : Int) (ones asked : List Int) : Prop where
  so : isSet n ones = true
  sa : isSet n asked = true
  ne : asked ≠ []
  dj : ∀ j ∈ asked, j ∉ ones
def sp_look_at_question : Spec := fun ds F => ∃ n ts bs ones asked, ds = [.drw n ts bs, dQ ones asked] ∧ n ≤ 6 ∧ GQ n ones asked ∧ F .non
-- slots: 0 drawing, 1 question, 2 ones*, 3 asked, 4 name
theorem ok_look_at_question (S : Su K mg) : Good P w (tx K) mg base 3 (He.fAd K ("look_at_question", none)) ["drawing", "question"] sp_look_at_question := by
  obtain ⟨fd, F⟩ := S.def_ 8 (d := d_look_at_question)
  have g_look_at_set := ok_look_at_set (P := P) (w := w) (base := base) S
  refine good_of F sc_look_at_question (fun _ _ _ _ _ _ us hl => match us, hl with | [_, _], _ => rfl) ?len ?body
  case len => intro ds F ⟨_, _, _, _, _, e, _⟩; rw [e]; rfl
  case body =>
    intro cdv A outer s H E hr ds F ⟨n, ts, bs, ones, asked, e, hn, hq, hF⟩
    subst e
    have l1 := set_len hq.so
    have l2 := set_len hq.sa
    refine ⟨_, (pss_cons (ps_asg (pv 1) (pg_seqK (K := K) (n := 2) rfl (pgs_cons (pg_name (i := 2) sc_look_at_question.nd rfl (Or.inr rfl)) (pgs_cons (pg_name (i := 3) sc_look_at_question.nd rfl (Or.inl rfl)) pgs_nil))))
    (pss_cons (ps_expr (pe_callG (T := tx K) g_look_at_set (hr.mono (by decide)) (by rfl) (S.glo 1) (pa_cons (pv 0) (pa_cons (pv 2) pa_nil))))
    (pss_cons (ps_expr (pe_callG (T := tx K) g_look_at_set (hr.mono (by decide)) (by rfl) (S.glo 1) (pa_cons (pv 0) (pa_cons (pv 3) pa_nil))))
    (pss_one (ps_if (PW.pt (pw_or (pt_cmpR (op_eqK (K := K) hr) (pv 3) (pe_tup pa_nil) (nomark _)) (pw_or1 (pt_cmpR (op_neK (K := K) hr) (pe_lc (own := [("name", 4)]) rfl sc_look_at_question.nd (pi_seq (pv 3)) (blkOk_by (own := [("name", 4)]) (N := N_look_at_question) (sc := defScope (top 17)) (by decide +kernel)) (fun _ _ _ _ _ => (pg_name (i := 4) sc_look_at_question.nd rfl (by first | exact Or.inl rfl | exact Or.inr rfl))) (fun _ _ _ _ _ => (pts_one (pt_cmpR (op_inK (K := K) hr) (pv 4) (pv 2) (by rfl)))) (fun _ _ _ _ _ => (pv 4))) (pe_lst pa_nil) (nomark _))))) (pss_one ps_never) pss_nil))))), ?_⟩
    refine sq_asgB (x := dQ ones asked) (ev_var rfl) bd_2T ?_
    refine sq_drop (ev_callD (T := tx K) (x := .non) (ea2 (ev_var rfl) (ev_var rfl)) ⟨n, ts, bs, ones, rfl, by omega, hq.so, rfl⟩) ?_
    refine sq_drop (ev_callD (T := tx K) (x := .non) (ea2 (ev_var rfl) (ev_var rfl)) ⟨n, ts, bs, asked, rfl, by omega, hq.sa, rfl⟩) ?_
    refine sg_if (b := false) (EvT.as (et_or (b := decide (asked = [])) (c := !decide (asked.filter (fun j => decide (j ∈ ones)) = [])) (et_test (ev_eqT (ms := []) (ev_var rfl) (ev_tup ea_nil (by simp)))) fun _ => et_test (ev_neL (ms := []) (EvN.d (en_lc1 (ys := asked) (enc := .int) (fun j => decide (j ∈ ones)) .int (ei_tup (ev_var rfl)).j (by omega) rfl fun y hy => ⟨by walk_at "ev", fun _ => by walk_at "ev"⟩)) (EvN.d (en_lst ea_nil (by simp))))) ?_) (fun h => nomatch h) fun _ => sg_next hF
    have h1 := hq.ne
    have h2 : asked.filter (fun j => decide (j ∈ ones)) = [] := List.filter_eq_nil_iff.mpr fun j hj => by simpa using hq.dj j hj
    simp [h1, h2]
def sp_init : List Dt → Dt → Prop := fun ds y => ∃ n ts bs, ds = [.int n, lTP ts, lTP bs] ∧ GD n ts bs ∧ y = .drw n (sortP ts) (sortP bs)
theorem ok_init (S : Su K mg) : GoodM P w (tx K) mg base 2 (He.fAd K ("Drawing", some "__init__")) ["self", "count", "ties", "bows"] sp_init := by
  obtain ⟨fd, F⟩ := S.def_ 3 (d := d_init)
  have g_pairs_of := ok_pairs_of (P := P) (w := w) (base := base) S
  refine goodM_of F sc_init (fun _ _ _ _ _ _ us hl => match us, hl with | [_, _, _, _], _ => rfl) ?len ?body
  case len => intro ds y ⟨_, _, _, e, _⟩; rw [e]; rfl
  case body =>
    intro cdv A outer s H E hr ds y dx ⟨n, ts, bs, e, hg, ey⟩
    subst e
    have h1 := hg.n1
    have h6 := hg.n6
    refine ⟨_, n, sortP ts, sortP bs, ey, (pss_cons (ps_if (PW.pt (pw_or (pt_cmpR op_ltX (pv 1) pe_int (nomark _)) (pw_or1 (pt_cmpR op_gtX (pv 1) (pe_glob (v := .int 6) rfl (S.int 54).choose_spec ⟨_, rfl⟩) (nomark _))))) (pss_one ps_never) pss_nil)
    (pss_cons (ps_fld (pv 0) (pv 1) rfl)
    (pss_cons (ps_fld (pv 0) (pe_callG (T := tx K) g_pairs_of (hr.mono (by decide)) (by rfl) (S.glo 2) (pa_cons (pv 1) (pa_cons (pv 2) pa_nil))) rfl)
    (pss_cons (ps_if (pt_cmpR op_isN (pe_fld (pv 0) rfl) pe_non (nomark _)) (pss_one ps_never) pss_nil)
    (pss_cons (ps_fld (pv 0) (pe_callG (T := tx K) g_pairs_of (hr.mono (by decide)) (by rfl) (S.glo 2) (pa_cons (pv 1) (pa_cons (pv 3) pa_nil))) rfl)
    (pss_one (ps_if (PW.pt (pw_or (pt_cmpR op_isN (pe_fld (pv 0) rfl) pe_non (nomark _)) (pw_or1 (pt_cmpR op_gtX (pe_callB (call_lenK (K := K)) (by rfl) (S.free 43) PySem.boot_len (pa_cons (pe_fld (pv 0) rfl) pa_nil)) (pe_glob (v := .int 6) rfl (S.int 55).choose_spec ⟨_, rfl⟩) (nomark _))))) (pss_one ps_never) pss_nil))))))), ?_⟩
    refine sx_seq (sx_guard (EvT.as (et_or (et_test (ev_lt (ev_var (i := 1) rfl) ev_int)) fun _ => et_test (ev_gt (ev_var (i := 1) rfl) ev_int)) ?_)) ?_
    · simp; omega
    refine sx_seq (sx_fld (fs := []) S.cls S.na_count rfl (ev_var (i := 1) rfl) (by simp) (by simp)) ?_
    refine sx_seq (sx_fld S.cls S.na_ties rfl (ev_callD (T := tx K) (x := dTP (sortP ts)) (ea2 (ev_var (i := 1) rfl) (ev_var (i := 2) rfl)) ⟨n, ts, rfl, hg.t.1, hg.t.2.1, hg.t.2.2, rfl⟩) (show ("ties" : Str) ∉ [("count" : Str)] by decide) (by simp)) ?_
    refine sx_seq (sx_guard (et_test (ev_isN (x := dTP (sortP ts)) (ev_fldO S.cls S.na_ties rfl rfl) (fun z => nomatch z)))) ?_
    refine sx_seq (sx_fld S.cls S.na_bows rfl (ev_callD (T := tx K) (x := dTP (sortP bs)) (ea2 (ev_var (i := 1) rfl) (ev_var (i := 3) rfl)) ⟨n, bs, rfl, hg.b.1, hg.b.2.1, hg.b.2.2, rfl⟩) (show ("bows" : Str) ∉ [("count" : Str), ("ties" : Str)] by decide) (by simp)) ?_
    refine sx_guard (EvT.as (et_or (et_test (ev_isN (x := dTP (sortP bs)) (ev_fldO S.cls S.na_bows rfl rfl) (fun z => nomatch z))) fun _ => et_test (ev_gt (ev_len (EvD.sT (ds := (sortP bs).map dP) (ev_fldO S.cls S.na_bows rfl rfl))) ev_int)) ?_)
    have := hg.b6
    rw [List.length_map, len_sortP]
    simp
    omega
def sp_m_part : Spec := fun ds F => ∃ n ts bs ns, ds = [.drw n ts bs, dI ns] ∧ GD n ts bs ∧ isSet n ns = true ∧ F (.drw n (sortP (partP ts ns)) (sortP (partP bs ns)))
-- slots: 0 self, 1 names*, 2 ties, 3 u, 4 v
theorem ok_m_part (S : Su K mg) : Good P w (tx K) mg base 4 (He.fAd K ("Drawing", some "part")) ["self", "names"] sp_m_part := by
  obtain ⟨fd, F⟩ := S.def_ 7 (d := d_m_part)
  have g_init := ok_init (P := P) (w := w) (base := base) S
  have g_look_at_set := ok_look_at_set (P := P) (w := w) (base := base) S
  refine good_of F sc_m_part (fun _ _ _ _ _ _ us hl => match us, hl with | [_, _], _ => rfl) ?len ?body
  case len => intro ds F ⟨_, _, _, _, e, _⟩; rw [e]; rfl
  case body =>
    intro cdv A outer s H E hr ds F ⟨n, ts, bs, ns, e, hg, hs, hF⟩
    subst e
    have l1 := set_len hs
    have h6 := hg.n6
    have lt := hg.t.2.2
    have lb := hg.b.2.2
    refine ⟨_, (pss_cons (ps_expr (pe_callG (T := tx K) g_look_at_set (hr.mono (by decide)) (by rfl) (S.glo 1) (pa_cons (pv 0) (pa_cons (pv 1) pa_nil))))
    (pss_cons (ps_setLc (i := 2) (own := [("u", 3), ("v", 4)]) rfl sc_m_part.nd rfl rfl (sw_true rfl rfl rfl (by decide +kernel)) (pi_seq (pe_fld (pv 0) rfl)) (blkOk_by (own := [("u", 3), ("v", 4)]) (N := N_m_part) (sc := defScope (inClass (top 15) 6)) (by decide +kernel)) (fun _ _ _ _ _ => (pg_seqK (K := K) (n := 2) rfl (pgs_cons (pg_name (i := 3) sc_m_part.nd rfl (by first | exact Or.inl rfl | exact Or.inr rfl)) (pgs_cons (pg_name (i := 4) sc_m_part.nd rfl (by first | exact Or.inl rfl | exact Or.inr rfl)) pgs_nil)))) (fun _ _ _ _ _ => (pts_one (PW.pt (pw_and (pt_cmpR (op_inK (K := K) hr) (pv 3) (pv 1) (by rfl)) (pw_and1 (pt_cmpR (op_inK (K := K) hr) (pv 4) (pv 1) (by rfl))))))) (fun _ _ _ _ _ => (pe_tup (pa_cons (pv 3) (pa_cons (pv 4) pa_nil)))))
    (pss_one (ps_ret (pe_makeG (T := tx K) S.mkr g_init (hr.mono (by decide)) (by rfl) (S.glo 42) (pa_cons (pe_fld (pv 0) rfl) (pa_cons (pv 2) (pa_cons (pe_lc (own := [("u", 3), ("v", 4)]) rfl sc_m_part.nd (pi_seq (pe_fld (pv 0) rfl)) (blkOk_by (own := [("u", 3), ("v", 4)]) (N := N_m_part) (sc := defScope (inClass (top 15) 6)) (by decide +kernel)) (fun _ _ _ _ _ => (pg_seqK (K := K) (n := 2) rfl (pgs_cons (pg_name (i := 3) sc_m_part.nd rfl (by first | exact Or.inl rfl | exact Or.inr rfl)) (pgs_cons (pg_name (i := 4) sc_m_part.nd rfl (by first | exact Or.inl rfl | exact Or.inr rfl)) pgs_nil)))) (fun _ _ _ _ _ => (pts_one (PW.pt (pw_and (pt_cmpR (op_inK (K := K) hr) (pv 3) (pv 1) (by rfl)) (pw_and1 (pt_cmpR (op_inK (K := K) hr) (pv 4) (pv 1) (by rfl))))))) (fun _ _ _ _ _ => (pe_tup (pa_cons (pv 3) (pa_cons (pv 4) pa_nil))))) pa_nil)))))))), ?_⟩
    refine sq_drop (ev_callD (T := tx K) (x := .non) (ea2 (ev_var rfl) (ev_var rfl)) ⟨n, ts, bs, ns, rfl, by omega, hs, rfl⟩) ?_
    refine sq_asgN (en_lc2 (ys := ts) (enc := dP) (fun p => decide (p.1 ∈ ns) && decide (p.2 ∈ ns)) dP (ei_tup (ev_ties S.cls S.na_ties (ev_var rfl))).j (fun _ => rfl) (by omega) rfl fun y hy => ⟨by walk_at "ev", fun _ => ev_tup (ea2 (ev_var rfl) (ev_var rfl)) (by simp)⟩) (lt_of_some rfl) ?_
    refine sg_wk (G' := [.d (.drw n ts bs), .d (dI ns), .d (lTP (partP ts ns)), .un, .un]) (by walk_at "wk") ?_
    refine sg_ret (ev_make (S := sp_init) (y := .drw n (sortP (partP ts ns)) (sortP (partP bs ns))) (ea_cons (ev_count S.cls S.na_count (ev_var rfl)) (ea_cons (ev_var rfl) (ea_cons (EvN.d (en_lc2 (ys := bs) (enc := dP) (fun p => decide (p.1 ∈ ns) && decide (p.2 ∈ ns)) dP (ei_tup (ev_bows S.cls S.na_bows (ev_var rfl))).j (fun _ => rfl) (by omega) rfl fun y hy => ⟨by walk_at "ev", fun _ => ev_tup (ea2 (ev_var rfl) (ev_var rfl)) (by simp)⟩)) ea_nil))) ⟨n, partP ts ns, partP bs ns, rfl, ⟨hg.n1, hg.n6, hg.t.part ns, hg.b.part ns, Nat.le_trans (List.length_filter_le _ _) hg.b6⟩, rfl⟩) hF
def sp_m_lumps : Spec := fun ds F => ∃ n ts bs ns, ds = [.drw n ts bs, dI ns] ∧ n ≤ 6 ∧ bs.length ≤ 1000 ∧ isSet n ns = true ∧ F (lTI (lumpsF bs ns))
theorem sing_dI (ns : List Int) : (ns.map fun j => dI [j]) = (ns.map fun j => [j]).map dI := by rw [List.map_map]; rfl
-- slots: 0 self, 1 names, 2 found, 3 u*, 4 v*, 5 here*, 6 there*, 7 name, 8 lump
theorem ok_m_lumps (S : Su K mg) : Good P w (tx K) mg base 3 (He.fAd K ("Drawing", some "lumps")) ["self", "names"] sp_m_lumps := by
  obtain ⟨fd, F⟩ := S.def_ 6 (d := d_m_lumps)
  have g_look_at_set := ok_look_at_set (P := P) (w := w) (base := base) S
  refine good_of F sc_m_lumps (fun _ _ _ _ _ _ us hl => match us, hl with | [_, _], _ => rfl) ?len ?body
  case len => intro ds F ⟨_, _, _, _, e, _⟩; rw [e]; rfl
  case body =>
    intro cdv A outer s H E hr ds F ⟨n, ts, bs, ns, e, h6, hb, hs, hF⟩
    subst e
    have l1 := set_len hs
    have hnd := nd_rise (isSet_iff.mp hs).2
    refine ⟨_, (pss_cons (ps_expr (pe_callG (T := tx K) g_look_at_set (hr.mono (by decide)) (by rfl) (S.glo 1) (pa_cons (pv 0) (pa_cons (pv 1) pa_nil))))
    (pss_cons (ps_setLc (i := 2) (own := [("name", 7)]) rfl sc_m_lumps.nd rfl rfl (sw_true rfl rfl rfl (by decide +kernel)) (pi_seq (pv 1)) (blkOk_by (own := [("name", 7)]) (N := N_m_lumps) (sc := defScope (inClass (top 15) 5)) (by decide +kernel)) (fun _ _ _ _ _ => (pg_name (i := 7) sc_m_lumps.nd rfl (by first | exact Or.inl rfl | exact Or.inr rfl))) (fun _ _ _ _ _ => pts_nil) (fun _ _ _ _ _ => (pe_tup (pa_cons (pv 7) pa_nil))))
    (pss_cons (ps_for PassesOwn.never rfl (pi_seq (pe_fld (pv 0) rfl)) (pg_seqK (K := K) (n := 2) rfl (pgs_cons (pg_name (i := 3) sc_m_lumps.nd rfl (Or.inr rfl)) (pgs_cons (pg_name (i := 4) sc_m_lumps.nd rfl (Or.inr rfl)) pgs_nil))) (pss_one (ps_if (PW.pt (pw_and (pt_cmpR (op_inK (K := K) hr) (pv 3) (pv 1) (by rfl)) (pw_and1 (pt_cmpR (op_inK (K := K) hr) (pv 4) (pv 1) (by rfl))))) (pss_cons (ps_set (i := 5) sc_m_lumps.nd rfl (Or.inr rfl) (pe_ix (ix_seqK (K := K)) (pe_lc (own := [("lump", 8)]) rfl sc_m_lumps.nd (pi_seq (pv 2)) (blkOk_by (own := [("lump", 8)]) (N := N_m_lumps) (sc := defScope (inClass (top 15) 5)) (by decide +kernel)) (fun _ _ _ _ _ => (pg_name (i := 8) sc_m_lumps.nd rfl (by first | exact Or.inl rfl | exact Or.inr rfl))) (fun _ _ _ _ _ => (pts_one (pt_cmpR (op_inK (K := K) hr) (pv 3) (pv 8) (by rfl)))) (fun _ _ _ _ _ => (pv 8))) pe_int (fun _ _ => rfl)))
    (pss_cons (ps_set (i := 6) sc_m_lumps.nd rfl (Or.inr rfl) (pe_ix (ix_seqK (K := K)) (pe_lc (own := [("lump", 8)]) rfl sc_m_lumps.nd (pi_seq (pv 2)) (blkOk_by (own := [("lump", 8)]) (N := N_m_lumps) (sc := defScope (inClass (top 15) 5)) (by decide +kernel)) (fun _ _ _ _ _ => (pg_name (i := 8) sc_m_lumps.nd rfl (by first | exact Or.inl rfl | exact Or.inr rfl))) (fun _ _ _ _ _ => (pts_one (pt_cmpR (op_inK (K := K) hr) (pv 4) (pv 8) (by rfl)))) (fun _ _ _ _ _ => (pv 8))) pe_int (fun _ _ => rfl)))
    (pss_one (ps_if (pt_cmpR (op_neK (K := K) hr) (pv 5) (pv 6) (nomark _)) (pss_cons (ps_setLc (i := 2) (own := [("lump", 8)]) rfl sc_m_lumps.nd rfl rfl (sw_true rfl rfl rfl (by decide +kernel)) (pi_seq (pv 2)) (blkOk_by (own := [("lump", 8)]) (N := N_m_lumps) (sc := defScope (inClass (top 15) 5)) (by decide +kernel)) (fun _ _ _ _ _ => (pg_name (i := 8) sc_m_lumps.nd rfl (by first | exact Or.inl rfl | exact Or.inr rfl))) (fun _ _ _ _ _ => (pts_one (pt_cmpR (op_niK (K := K) hr) (pv 8) (pe_tup (pa_cons (pv 5) (pa_cons (pv 6) pa_nil))) (by rfl)))) (fun _ _ _ _ _ => (pv 8)))
    (pss_one (ps_expr (pe_bm PySem.F.plainAttrs_list PySem.F.slot_list_append PySem.F.type_list_append mt_append (pv 2) (pa_cons (pe_callTy call_tupX (by rfl) (S.free 46) (by decide +kernel) (pa_cons (pe_callB (call_sortX hr) (by rfl) (S.free 45) (by decide +kernel) (pa_cons (pe_op (op_addK (K := K)) (pv 5) (pv 6)) pa_nil)) pa_nil)) pa_nil))))) pss_nil)))) pss_nil)))
    (pss_one (ps_ret (pe_callB (call_sortX hr) (by rfl) (S.free 45) (by decide +kernel) (pa_cons (pv 2) pa_nil))))))), ?_⟩
    refine sq_drop (ev_callD (T := tx K) (x := .non) (ea2 (ev_var rfl) (ev_var rfl)) ⟨n, ts, bs, ns, rfl, by omega, hs, rfl⟩) ?_
    refine sq_asgN (ds := (ns.map fun j => [j]).map dI) (EvN.as (en_lc1 (ys := ns) (enc := .int) (fun _ => true) (fun j => dI [j]) (ei_tup (ev_var rfl)).j (by omega) rfl fun y hy => ⟨et_yes, fun _ => ev_tup (ea1 (ev_var rfl)) (by simp)⟩) (by rw [filter_all, sing_dI])) (lt_of_some rfl) ?_
    refine sq_for (ys := bs) (enc := dP) (ei_tup (ev_bows S.cls S.na_bows (ev_var rfl))) (fun pre G' => G' = [.d (.drw n ts bs), .d (dI ns), .own (.lst ((pre.foldl (lumpStep ns) (ns.map fun j => [j])).map dI)), .un, .un, .un, .un, .un, .un]) (Wk.refl _) rfl ?_ ?_
    · intro pre p post G' e e2
      subst e2
      obtain ⟨hp, hl⟩ := LPart.fold pre (LPart.start hnd)
      rw [List.length_map] at hl
      have hq : pre.length < bs.length := by have := congrArg List.length e; simp at this; omega
      generalize hL : pre.foldl (lumpStep ns) (ns.map fun j => [j]) = L at *
      have nxt : (pre ++ [p]).foldl (lumpStep ns) (ns.map fun j => [j]) = lumpStep ns L p := by rw [List.foldl_append, hL]; rfl
      refine ⟨_, _, bd_2T, ?_⟩
      refine sg_if (b := decide (p.1 ∈ ns) && decide (p.2 ∈ ns)) (by walk_at "ev") (fun hb1 => ?_) fun hb1 => ?_
      · have hc := hb1
        simp only [Bool.and_eq_true, decide_eq_true_eq] at hc
        obtain ⟨a1, a2, a3⟩ := lumpAt_mem (hp.cov p.1 hc.1)
        obtain ⟨b1, b2, b3⟩ := lumpAt_mem (hp.cov p.2 hc.2)
        have la := hp.len a1
        have lb := hp.len b1
        refine sq_asg (x := dI (lumpAt L p.1)) (ev_ixM (k := 0) (enc := dI) (ys := L.filter fun l => decide (p.1 ∈ l)) (EvN.s (en_lc1 (ys := L) (enc := dI) (fun l => decide (p.1 ∈ l)) dI (ej_own rfl) (by omega) rfl fun y hy => ⟨by walk_at "ev", fun _ => by walk_at "ev"⟩)) ev_int (List.length_pos_iff.mpr a3)) ?_
        refine sq_asg (x := dI (lumpAt L p.2)) (ev_ixM (k := 0) (enc := dI) (ys := L.filter fun l => decide (p.2 ∈ l)) (EvN.s (en_lc1 (ys := L) (enc := dI) (fun l => decide (p.2 ∈ l)) dI (ej_own rfl) (by omega) rfl fun y hy => ⟨by walk_at "ev", fun _ => by walk_at "ev"⟩)) ev_int (List.length_pos_iff.mpr b3)) ?_
        refine sg_if (b := !decide (lumpAt L p.1 = lumpAt L p.2)) (by walk_at "ev") (fun hb2 => ?_) fun hb2 => ?_
        · refine sq_asgN (en_lc1 (ys := L) (enc := dI) (fun l => !decide (l ∈ [lumpAt L p.1, lumpAt L p.2])) dI (ej_own rfl) (by omega) rfl fun y hy => ⟨et_test (ev_niTT (L := [lumpAt L p.1, lumpAt L p.2]) (ev_var rfl) (ev_tup (ea2 (ev_var rfl) (ev_var rfl)) (by simp))), fun _ => by walk_at "ev"⟩) (lt_of_some rfl) ?_
          refine sg_app (x := dI (sortI (lumpAt L p.1 ++ lumpAt L p.2))) rfl (ev_tupOf (EvN.s (en_sortI (EvS.as (EvD.sT (ev_catT (ds := (lumpAt L p.1).map .int) (es := (lumpAt L p.2).map .int) (ev_var rfl) (ev_var rfl) (by rw [List.length_map, List.length_map]; omega))) List.map_append.symm)))) (by rw [List.length_map]; have := List.length_filter_le (fun l => !decide (l ∈ [lumpAt L p.1, lumpAt L p.2])) L; omega) ⟨[.d (.drw n ts bs), .d (dI ns), .own (.lst ((lumpStep ns L p).map dI)), .un, .un, .un, .un, .un, .un], ?_, by rw [nxt]⟩
          rw [lumpStep, if_pos hb1, if_pos hb2, List.map_append]
          walk_at "wk"
        · refine sg_next ⟨[.d (.drw n ts bs), .d (dI ns), .own (.lst ((lumpStep ns L p).map dI)), .un, .un, .un, .un, .un, .un], ?_, by rw [nxt]⟩
          rw [lumpStep, if_pos hb1, if_neg (by rw [hb2]; decide)]
          walk_at "wk"
      · refine sg_next ⟨[.d (.drw n ts bs), .d (dI ns), .own (.lst ((lumpStep ns L p).map dI)), .un, .un, .un, .un, .un, .un], ?_, by rw [nxt]⟩
        rw [lumpStep, if_neg (by rw [hb1]; decide)]
        walk_at "wk"
    · intro G' e2
      subst e2
      exact sg_ret (EvN.d (en_sortT (es_own rfl) (LPart.fold bs (LPart.start hnd)).1.ne)) hF
def sp_lump_with : Spec := fun ds F => ∃ n ts bs ns inner, ds = [.drw n ts bs, dI ns, dI inner] ∧ n ≤ 6 ∧ bs.length ≤ 1000 ∧ isSet n ns = true ∧ inner ≠ [] ∧ F (dI (lumpWith bs ns inner))
-- slots: 0 drawing, 1 names, 2 inner, 3 lump
theorem ok_lump_with (S : Su K mg) : Good P w (tx K) mg base 4 (He.fAd K ("lump_with", none)) ["drawing", "names", "inner"] sp_lump_with := by
  obtain ⟨fd, F⟩ := S.def_ 12 (d := d_lump_with)
  have g_m_lumps := ok_m_lumps (P := P) (w := w) (base := base) S
  refine good_of F sc_lump_with (fun _ _ _ _ _ _ us hl => match us, hl with | [_, _, _], _ => rfl) ?len ?body
  case len => intro ds F ⟨_, _, _, _, _, e, _⟩; rw [e]; rfl
  case body =>
    intro cdv A outer s H E hr ds F ⟨n, ts, bs, ns, inner, e, h6, hb, hs, hi, hF⟩
    subst e
    refine ⟨_, (pss_cons (ps_for PassesOwn.never rfl (pi_seq (pe_methG (T := tx K) (pv 0) S.cls (S.meth 63) g_m_lumps (hr.mono (by decide)) (pa_cons (pv 1) pa_nil))) (pg_name (i := 3) sc_lump_with.nd rfl (Or.inl rfl)) (pss_one (ps_if (pt_cmpR (op_inK (K := K) hr) (pe_ix (ix_seqK (K := K)) (pv 2) pe_int (fun _ _ => rfl)) (pv 3) (by rfl)) (pss_one (ps_ret (pv 3))) pss_nil)))
    (pss_one (ps_ret (pe_tup pa_nil)))), ?_⟩
    refine sq_for (ys := lumpsF bs ns) (enc := dI) (ei_lst (ev_methD (T := tx K) (x := lTI (lumpsF bs ns)) (ev_var rfl) (by decide) (ea1 (ev_var rfl)) ⟨n, ts, bs, ns, rfl, h6, hb, hs, rfl⟩)) (fun pre G' => (∀ l ∈ pre, inner.getD 0 0 ∉ l) ∧ G' = [.d (.drw n ts bs), .d (dI ns), .d (dI inner), .un]) (Wk.refl _) ⟨fun _ h => (nomatch h), rfl⟩ ?_ ?_
    · intro pre l post G' e ⟨hp, e2⟩
      subst e2
      refine ⟨_, _, bd_name, ?_⟩
      refine sg_if (b := decide (inner.getD 0 0 ∈ l)) (et_test (ev_in (ev_ixI (k := 0) (ev_var rfl).sT ev_int (List.length_pos_iff.mpr hi)) (EvD.sT (ev_var rfl)))) (fun h => ?_) fun h => ?_
      · refine sg_ret (x := dI l) (ev_var rfl) ?_
        have : lumpWith bs ns inner = l := by
          unfold lumpWith
          rw [e, List.find?_append, List.find?_eq_none.mpr (fun m hm => by simpa using hp m hm), Option.none_or, List.find?_cons, h]
          rfl
        rw [this] at hF
        exact hF
      · refine sg_next ⟨[.d (.drw n ts bs), .d (dI ns), .d (dI inner), .un], by walk_at "wk", fun m hm => ?_, rfl⟩
        rcases List.mem_append.mp hm with hm | hm
        · exact hp m hm
        · rw [List.mem_singleton.mp hm]
          exact of_decide_eq_false h
    · intro G' ⟨hp, e2⟩
      subst e2
      refine sg_ret (x := dI []) (ev_tup ea_nil (by simp)) ?_
      have : lumpWith bs ns inner = [] := by
        unfold lumpWith
        rw [List.find?_eq_none.mpr (fun m hm => by simpa using hp m hm)]
        rfl
      rw [this] at hF
      exact hF
end
end W3

namespace W3
open PySem PySem.Spec PyProof.Rows L2 Evl
local macro_rules | `(tactic| walk_at "ev") => `(tactic| first
  | ((with_reducible apply ev_var); exact rfl)
  | ((with_reducible apply es_own); exact rfl)
  | ((with_reducible apply el_own); exact rfl)
  | with_reducible exact ev_int
  | with_reducible exact ev_bl
  | with_reducible exact ev_str
  | with_reducible exact ev_non
  | with_reducible exact ea_nil
  | with_reducible exact et_yes
  | ((with_reducible apply ea_cons); walk_at "ev"; walk_at "ev")
  | ((with_reducible apply ev_add); walk_at "ev"; walk_at "ev")
  | ((with_reducible apply ev_sub); walk_at "ev"; walk_at "ev")
  | ((with_reducible apply ev_lt); walk_at "ev"; walk_at "ev")
  | ((with_reducible apply ev_le); walk_at "ev"; walk_at "ev")
  | ((with_reducible apply ev_gt); walk_at "ev"; walk_at "ev")
  | ((with_reducible apply ev_ge); walk_at "ev"; walk_at "ev")
  | ((with_reducible apply ev_in); walk_at "ev"; walk_at "ev")
  | ((with_reducible apply ev_ni); walk_at "ev"; walk_at "ev")
  | ((with_reducible apply ev_inLT); walk_at "ev"; walk_at "ev")
  | ((with_reducible apply ev_inL); walk_at "ev"; walk_at "ev")
  | ((with_reducible apply ev_niTT); walk_at "ev"; walk_at "ev")
  | ((with_reducible apply ev_eq); walk_at "ev"; walk_at "ev")
  | ((with_reducible apply ev_eqS); walk_at "ev"; walk_at "ev")
  | ((with_reducible apply ev_eqT); walk_at "ev"; walk_at "ev")
  | ((with_reducible apply ev_eqL); walk_at "ev"; walk_at "ev")
  | ((with_reducible apply ev_ne); walk_at "ev"; walk_at "ev")
  | ((with_reducible apply ev_neT); walk_at "ev"; walk_at "ev")
  | ((with_reducible apply ev_neL); walk_at "ev"; walk_at "ev")
  | ((with_reducible apply ev_neLT); walk_at "ev"; walk_at "ev")
  | ((with_reducible apply ev_neB); walk_at "ev"; walk_at "ev")
  | ((with_reducible apply ev_len); walk_at "ev")
  | ((with_reducible apply ev_tupOf); walk_at "ev")
  | ((with_reducible apply ev_intB); walk_at "ev")
  | ((with_reducible apply en_lstOf); walk_at "ev")
  | ((with_reducible apply et_test); walk_at "ev")
  | ((with_reducible apply et_B); walk_at "ev")
  | ((with_reducible apply et_not); walk_at "ev")
  | ((with_reducible apply EvD.sT); walk_at "ev")
  | ((with_reducible apply EvD.sL); walk_at "ev")
  | ((with_reducible apply EvD.l); walk_at "ev")
  | ((with_reducible apply EvN.s); walk_at "ev")
  | ((with_reducible apply EvN.d); walk_at "ev")
  | ((with_reducible apply EvN.l); walk_at "ev")
  | ((with_reducible apply et_and); walk_at "ev"; intro _; walk_at "ev")
  | ((with_reducible apply et_or); walk_at "ev"; intro _; walk_at "ev")
  | ((with_reducible apply ev_ixN (j := 0)); walk_at "ev"; exact ev_int; exact rfl)
  | ((with_reducible apply ev_ixN (j := 1)); walk_at "ev"; exact ev_int; exact rfl)
  | ((with_reducible apply ev_ixN (j := 2)); walk_at "ev"; exact ev_int; exact rfl)
  | ((with_reducible apply ev_mod); walk_at "ev"; walk_at "ev"; decide)
  | ((with_reducible apply ev_div); walk_at "ev"; walk_at "ev"; decide)
  | ((with_reducible apply ev_tup); walk_at "ev"; simp)
  | ((with_reducible apply en_lst); walk_at "ev"; simp))
local macro_rules | `(tactic| walk_at "wk") => `(tactic| first | exact Wk.nil | (refine Wk.cons (Wk1.rfl _) ?_; walk_at "wk") | (refine Wk.cons (Wk1.un _) ?_; walk_at "wk") | (refine Wk.cons (Wk1.fz _) ?_; walk_at "wk") | (refine Wk.cons (Wk1.lk _) ?_; walk_at "wk"))
def dC (c : Cut) : Dt := .tup [.str c.1, dI c.2]
def dCs (cs : List Cut) : Dt := .tup (cs.map dC)
def dRow (r : Row) : Dt := .tup [dI r.1, dCs r.2]
def dPap (p : List Row) : Dt := .tup (p.map dRow)
/-- a paper of a size that goes -/
def GPap (p : List Row) : Prop := p.length ≤ 1000 ∧ ∀ r ∈ p, ∀ c ∈ r.2, c.2.length ≤ 1000
section
variable {P : Program} {w : World} {K : PySem.W.Frag} {mg : Str → Option Value} {base : Heap}
theorem set_one {n : Int} {ns : List Int} (h : isSet n ns = true) {j : Int} (hj : j ∈ ns) : isSet n [j] = true := by
  obtain ⟨h1, _⟩ := isSet_iff.mp h
  exact isSet_iff.mpr ⟨fun x hx => by rw [List.mem_singleton.mp hx]; exact h1 j hj, by simp⟩
def sp_wanted : Spec := fun ds F => ∃ n ts bs ones asked, ds = [.drw n ts bs, dQ ones asked] ∧ GD n ts bs ∧ GQ n ones asked ∧ F (.tup [dI (wantF n ts ones asked), lTI (lumpsF bs (wantF n ts ones asked))])
-- slots: 0 drawing, 1 question, 2 ones, 3 asked, 4 names
theorem ok_wanted (S : Su K mg) : Good P w (tx K) mg base 5 (He.fAd K ("wanted", none)) ["drawing", "question"] sp_wanted := by
  obtain ⟨fd, F⟩ := S.def_ 11 (d := d_wanted)
  have g_every_name := ok_every_name (P := P) (w := w) (base := base) S
  have g_look_at_question := ok_look_at_question (P := P) (w := w) (base := base) S
  have g_m_ancestors := ok_m_ancestors (P := P) (w := w) (base := base) S
  have g_m_lumps := ok_m_lumps (P := P) (w := w) (base := base) S
  have g_m_part := ok_m_part (P := P) (w := w) (base := base) S
  have g_without := ok_without (P := P) (w := w) (base := base) S
  refine good_of F sc_wanted (fun _ _ _ _ _ _ us hl => match us, hl with | [_, _], _ => rfl) ?len ?body
  case len => intro ds F ⟨_, _, _, _, _, e, _⟩; rw [e]; rfl
  case body =>
    intro cdv A outer s H E hr ds F ⟨n, ts, bs, ones, asked, e, hg, hq, hF⟩
    subst e
    have h1 := hg.n1
    have h6 := hg.n6
    refine ⟨_, (pss_cons (ps_expr (pe_callG (T := tx K) g_look_at_question (hr.mono (by decide)) (by rfl) (S.glo 3) (pa_cons (pv 0) (pa_cons (pv 1) pa_nil))))
    (pss_cons (ps_asg (pv 1) (pg_seqK (K := K) (n := 2) rfl (pgs_cons (pg_name (i := 2) sc_wanted.nd rfl (Or.inl rfl)) (pgs_cons (pg_name (i := 3) sc_wanted.nd rfl (Or.inl rfl)) pgs_nil))))
    (pss_cons (ps_set (i := 4) sc_wanted.nd rfl (Or.inl rfl) (pe_methG (T := tx K) (pe_methG (T := tx K) (pv 0) S.cls (S.meth 64) g_m_part (hr.mono (by decide)) (pa_cons (pe_callG (T := tx K) g_without (hr.mono (by decide)) (by rfl) (S.glo 5) (pa_cons (pe_callG (T := tx K) g_every_name (hr.mono (by decide)) (by rfl) (S.glo 4) (pa_cons (pv 0) pa_nil)) (pa_cons (pv 2) pa_nil))) pa_nil)) S.cls (S.meth 62) g_m_ancestors (hr.mono (by decide)) (pa_cons (pv 3) pa_nil)))
    (pss_one (ps_ret (pe_tup (pa_cons (pv 4) (pa_cons (pe_methG (T := tx K) (pv 0) S.cls (S.meth 63) g_m_lumps (hr.mono (by decide)) (pa_cons (pv 4) pa_nil)) pa_nil)))))))), ?_⟩
    refine sq_drop (ev_callD (T := tx K) (x := .non) (ea2 (ev_var rfl) (ev_var rfl)) ⟨n, ts, bs, ones, asked, rfl, h6, hq, rfl⟩) ?_
    refine sq_asgB (x := dQ ones asked) (ev_var rfl) bd_2T ?_
    have lr : (rgI n).length ≤ 1000 := by rw [rgI_len]; omega
    have lt2 : (sortP (partP ts (woF (rgI n) ones))).length ≤ 1000 := by rw [len_sortP]; exact Nat.le_trans (List.length_filter_le _ _) hg.t.2.2
    have la := set_len hq.sa
    refine sq_asg (x := dI (wantF n ts ones asked)) (ev_methD (T := tx K) (ev_methD (T := tx K) (x := .drw n (sortP (partP ts (woF (rgI n) ones))) (sortP (partP bs (woF (rgI n) ones)))) (ev_var rfl) (by decide)
      (ea1 (ev_callD (T := tx K) (x := dI (woF (rgI n) ones)) (ea2 (ev_callD (T := tx K) (x := dI (rgI n)) (ea1 (ev_var rfl)) ⟨n, ts, bs, rfl, by omega, by omega, rfl⟩) (ev_var rfl)) ⟨rgI n, ones, rfl, lr, rfl⟩))
      ⟨n, ts, bs, woF (rgI n) ones, rfl, hg, wo_set rgI_set, rfl⟩) (by decide) (ea1 (ev_var rfl)) ⟨n, _, _, asked, rfl, hq.sa, by omega, lt2, rfl⟩) ?_
    exact sg_ret (ev_tup (ea2 (ev_var rfl) (ev_methD (T := tx K) (x := lTI (lumpsF bs (wantF n ts ones asked))) (ev_var rfl) (by decide) (ea1 (ev_var rfl)) ⟨n, ts, bs, _, rfl, h6, hg.b.2.2, want_set hg.t.1 hq.sa, rfl⟩)) (by simp)) hF
def sp_is_closed : Spec := fun ds F => ∃ n ts bs st ns, ds = [.drw n ts bs, dI st, dI ns] ∧ GD n ts bs ∧ isSet n ns = true ∧ F (.bl (closedF ts st ns))
-- slots: 0 drawing, 1 stands, 2 names, 3 name, 4 source
theorem ok_is_closed (S : Su K mg) : Good P w (tx K) mg base 4 (He.fAd K ("is_closed", none)) ["drawing", "stands", "names"] sp_is_closed := by
  obtain ⟨fd, F⟩ := S.def_ 13 (d := d_is_closed)
  have g_m_sources := ok_m_sources (P := P) (w := w) (base := base) S
  refine good_of F sc_is_closed (fun _ _ _ _ _ _ us hl => match us, hl with | [_, _, _], _ => rfl) ?len ?body
  case len => intro ds F ⟨_, _, _, _, _, e, _⟩; rw [e]; rfl
  case body =>
    intro cdv A outer s H E hr ds F ⟨n, ts, bs, st, ns, e, hg, hs, hF⟩
    subst e
    refine ⟨_, (pss_cons (ps_for PassesOwn.never rfl (pi_seq (pv 2)) (pg_name (i := 3) sc_is_closed.nd rfl (Or.inl rfl)) (pss_one (ps_for PassesOwn.never rfl (pi_seq (pe_methG (T := tx K) (pv 0) S.cls (S.meth 61) g_m_sources (hr.mono (by decide)) (pa_cons (pv 3) pa_nil))) (pg_name (i := 4) sc_is_closed.nd rfl (Or.inl rfl)) (pss_one (ps_if (PW.pt (pw_and (pt_cmpR (op_inK (K := K) hr) (pv 4) (pv 1) (by rfl)) (pw_and1 (pt_cmpR (op_niK (K := K) hr) (pv 4) (pv 2) (by rfl))))) (pss_one (ps_ret pe_bl)) pss_nil)))))
    (pss_one (ps_ret pe_bl))), ?_⟩
    refine sq_for (ys := ns) (enc := .int) (ei_tup (ev_var rfl)) (fun pre G' => (pre.all fun j => (srcF ts j).all fun s => !(decide (s ∈ st) && !decide (s ∈ ns))) = true ∧ G' = [.d (.drw n ts bs), .d (dI st), .d (dI ns), .un, .un]) (Wk.refl _) ⟨rfl, rfl⟩ ?_ ?_
    · intro pre j post G' e ⟨hp, e2⟩
      subst e2
      refine ⟨_, _, bd_name, ?_⟩
      refine sg_for (ys := srcF ts j) (enc := .int) (ei_tup (ev_methD (T := tx K) (x := dI (srcF ts j)) (ev_var rfl) (by decide) (ea1 (ev_var rfl)) ⟨n, ts, bs, j, rfl, set_one hs (mem_mid e), hg.t.2.2, rfl⟩)) (fun pre2 G' => (pre2.all fun s => !(decide (s ∈ st) && !decide (s ∈ ns))) = true ∧ G' = [.d (.drw n ts bs), .d (dI st), .d (dI ns), .d (.int j), .un]) (Wk.refl _) ⟨rfl, rfl⟩ ?_ ?_
      · intro pre2 s post2 G' e' ⟨hp2, e2⟩
        subst e2
        refine ⟨_, _, bd_name, ?_⟩
        refine sg_if (b := decide (s ∈ st) && !decide (s ∈ ns)) (by walk_at "ev") (fun h => ?_) fun h => ?_
        · refine sg_ret ev_bl ?_
          have : closedF ts st ns = false := by
            cases q : closedF ts st ns with
            | false => rfl
            | true =>
              unfold closedF at q
              have q2 := List.all_eq_true.mp (List.all_eq_true.mp q j (mem_mid e)) s (mem_mid e')
              rw [h] at q2
              cases q2
          rw [this] at hF
          exact hF
        · refine sg_next ⟨[.d (.drw n ts bs), .d (dI st), .d (dI ns), .d (.int j), .un], by walk_at "wk", ?_, rfl⟩
          rw [List.all_append, hp2, List.all_cons, h]
          rfl
      · intro G' ⟨hp2, e2⟩
        subst e2
        refine ⟨[.d (.drw n ts bs), .d (dI st), .d (dI ns), .un, .un], by walk_at "wk", ?_, rfl⟩
        rw [List.all_append, hp, List.all_cons, hp2]
        rfl
    · intro G' ⟨hp, e2⟩
      subst e2
      refine sg_ret ev_bl ?_
      have : closedF ts st ns = true := hp
      rw [this] at hF
      exact hF
def sp_after_cut : Spec := fun ds F => ∃ n ts bs st c, ds = [.drw n ts bs, dI st, dC c] ∧ GD n ts bs ∧ isSet n st = true ∧ c.2.length ≤ 1000 ∧ F (dI (cutF n ts bs st c))
-- slots: 0 drawing, 1 stands, 2 cut, 3 word, 4 names
theorem ok_after_cut (S : Su K mg) : Good P w (tx K) mg base 5 (He.fAd K ("after_cut", none)) ["drawing", "stands", "cut"] sp_after_cut := by
  obtain ⟨fd, F⟩ := S.def_ 14 (d := d_after_cut)
  have g_is_closed := ok_is_closed (P := P) (w := w) (base := base) S
  have g_is_set := ok_is_set (P := P) (w := w) (base := base) S
  have g_m_lumps := ok_m_lumps (P := P) (w := w) (base := base) S
  have g_without := ok_without (P := P) (w := w) (base := base) S
  refine good_of F sc_after_cut (fun _ _ _ _ _ _ us hl => match us, hl with | [_, _, _], _ => rfl) ?len ?body
  case len => intro ds F ⟨_, _, _, _, _, e, _⟩; rw [e]; rfl
  case body =>
    intro cdv A outer s H E hr ds F ⟨n, ts, bs, st, c, e, hg, hs, hz, hF⟩
    subst e
    refine ⟨_, (pss_cons (ps_asg (pv 2) (pg_seqK (K := K) (n := 2) rfl (pgs_cons (pg_name (i := 3) sc_after_cut.nd rfl (Or.inl rfl)) (pgs_cons (pg_name (i := 4) sc_after_cut.nd rfl (Or.inl rfl)) pgs_nil))))
    (pss_cons (ps_if (PW.pt (pw_or (pt_not (pt_val (pe_callG (T := tx K) g_is_set (hr.mono (by decide)) (by rfl) (S.glo 0) (pa_cons (pv 0) (pa_cons (pv 4) pa_nil))))) (pw_or1 (pt_cmpR op_geX (pe_callB (call_lenK (K := K)) (by rfl) (S.free 43) PySem.boot_len (pa_cons (pv 4) pa_nil)) (pe_callB (call_lenK (K := K)) (by rfl) (S.free 43) PySem.boot_len (pa_cons (pv 1) pa_nil)) (nomark _))))) (pss_one (ps_ret (pe_tup pa_nil))) pss_nil)
    (pss_cons (ps_if (PW.pt (pw_and (pt_cmpR (op_eqK (K := K) hr) (pv 3) pe_str (nomark _)) (pw_and1 (pt_cmpR (op_inK (K := K) hr) (pv 4) (pe_methG (T := tx K) (pv 0) S.cls (S.meth 63) g_m_lumps (hr.mono (by decide)) (pa_cons (pv 1) pa_nil)) (by rfl))))) (pss_one (ps_ret (pv 4))) pss_nil)
    (pss_cons (ps_if (PW.pt (pw_and (pt_cmpR (op_eqK (K := K) hr) (pv 3) pe_str (nomark _)) (pw_and (pt_cmpR (op_eqK (K := K) hr) (pe_callG (T := tx K) g_without (hr.mono (by decide)) (by rfl) (S.glo 5) (pa_cons (pv 4) (pa_cons (pv 1) pa_nil))) (pe_tup pa_nil) (nomark _)) (pw_and1 (pt_val (pe_callG (T := tx K) g_is_closed (hr.mono (by decide)) (by rfl) (S.glo 8) (pa_cons (pv 0) (pa_cons (pv 1) (pa_cons (pv 4) pa_nil))))))))) (pss_one (ps_ret (pv 4))) pss_nil)
    (pss_one (ps_ret (pe_tup pa_nil))))))), ?_⟩
    refine sq_asgB (x := dC c) (ev_var rfl) bd_2T ?_
    unfold cutF at hF
    refine sq_guard (b := !isSet n c.2 || decide ((st.length : Int) ≤ c.2.length)) (et_or (et_not (et_B (ev_callD (T := tx K) (x := .bl (isSet n c.2)) (ea2 (ev_var rfl) (ev_var rfl)) ⟨n, ts, bs, c.2, rfl, hz, rfl⟩))) fun _ => et_test ((ev_ge (ev_len (ev_var rfl).sT) (ev_len (ev_var rfl).sT)).as (by rw [List.length_map, List.length_map]))) (fun h => ?_) fun h => ?_
    · rw [if_pos h] at hF
      exact sg_ret (x := dI []) (ev_tup ea_nil (by simp)) hF
    rw [if_neg (by rw [h]; decide)] at hF
    have hset : isSet n c.2 = true := by
      cases q : isSet n c.2
      · rw [q] at h; exact nomatch h
      · rfl
    refine sq_guard (b := decide (c.1 = ("lump" : Str)) && decide (c.2 ∈ lumpsF bs st)) (et_and (by walk_at "ev") fun _ => et_test (ev_inLT (L := lumpsF bs st) (ev_var rfl) (ev_methD (T := tx K) (x := lTI (lumpsF bs st)) (ev_var rfl) (by decide) (ea1 (ev_var rfl)) ⟨n, ts, bs, st, rfl, hg.n6, hg.b.2.2, hs, rfl⟩))) (fun h2 => ?_) fun h2 => ?_
    · rw [if_pos h2] at hF
      exact sg_ret (x := dI c.2) (ev_var rfl) hF
    rw [if_neg (by rw [h2]; decide)] at hF
    refine sq_guard (b := decide (c.1 = ("up" : Str)) && (decide (woF c.2 st = []) && closedF ts st c.2)) (et_and (by walk_at "ev") fun _ => et_and (et_test (ev_eqT (ns := woF c.2 st) (ms := []) (ev_callD (T := tx K) (ea2 (ev_var rfl) (ev_var rfl)) ⟨c.2, st, rfl, hz, rfl⟩) (ev_tup ea_nil (by simp)))) fun _ => et_B (ev_callD (T := tx K) (ea_cons (ev_var rfl) (ea2 (ev_var rfl) (ev_var rfl))) ⟨n, ts, bs, st, c.2, rfl, hg, hset, rfl⟩)) (fun h3 => ?_) fun h3 => ?_
    · rw [if_pos h3] at hF
      exact sg_ret (x := dI c.2) (ev_var rfl) hF
    · rw [if_neg (by rw [h3]; decide)] at hF
      exact sg_ret (x := dI []) (ev_tup ea_nil (by simp)) hF
def sp_leads_to : Spec := fun ds F => ∃ n ts bs lump cuts, ds = [.drw n ts bs, dI lump, dCs cuts] ∧ GD n ts bs ∧ lump ≠ [] ∧ (∀ c ∈ cuts, c.2.length ≤ 1000) ∧ F (.bl (leadsF n ts bs lump cuts))
-- slots: 0 drawing, 1 lump, 2 cuts, 3 stands, 4 cut
theorem ok_leads_to (S : Su K mg) : Good P w (tx K) mg base 6 (He.fAd K ("leads_to", none)) ["drawing", "lump", "cuts"] sp_leads_to := by
  obtain ⟨fd, F⟩ := S.def_ 15 (d := d_leads_to)
  have g_after_cut := ok_after_cut (P := P) (w := w) (base := base) S
  have g_every_name := ok_every_name (P := P) (w := w) (base := base) S
  have g_lump_with := ok_lump_with (P := P) (w := w) (base := base) S
  refine good_of F sc_leads_to (fun _ _ _ _ _ _ us hl => match us, hl with | [_, _, _], _ => rfl) ?len ?body
  case len => intro ds F ⟨_, _, _, _, _, e, _⟩; rw [e]; rfl
  case body =>
    intro cdv A outer s H E hr ds F ⟨n, ts, bs, lump, cuts, e, hg, hl, hz, hF⟩
    subst e
    have h1 := hg.n1
    have h6 := hg.n6
    refine ⟨_, (pss_cons (ps_set (i := 3) sc_leads_to.nd rfl (Or.inl rfl) (pe_callG (T := tx K) g_lump_with (hr.mono (by decide)) (by rfl) (S.glo 7) (pa_cons (pv 0) (pa_cons (pe_callG (T := tx K) g_every_name (hr.mono (by decide)) (by rfl) (S.glo 4) (pa_cons (pv 0) pa_nil)) (pa_cons (pv 1) pa_nil)))))
    (pss_cons (ps_for PassesOwn.never rfl (pi_seq (pv 2)) (pg_name (i := 4) sc_leads_to.nd rfl (Or.inl rfl)) (pss_cons (ps_set (i := 3) sc_leads_to.nd rfl (Or.inl rfl) (pe_callG (T := tx K) g_after_cut (hr.mono (by decide)) (by rfl) (S.glo 9) (pa_cons (pv 0) (pa_cons (pv 3) (pa_cons (pv 4) pa_nil)))))
    (pss_one (ps_if (pt_cmpR (op_eqK (K := K) hr) (pv 3) (pe_tup pa_nil) (nomark _)) (pss_one (ps_ret pe_bl)) pss_nil))))
    (pss_one (ps_ret (pe_cmpR (op_eqK (K := K) hr) (pv 3) (pv 1) (nomark _)))))), ?_⟩
    refine sq_asg (x := dI (lumpWith bs (rgI n) lump)) (ev_callD (T := tx K) (ea_cons (ev_var rfl) (ea2 (ev_callD (T := tx K) (x := dI (rgI n)) (ea1 (ev_var rfl)) ⟨n, ts, bs, rfl, by omega, by omega, rfl⟩) (ev_var rfl))) ⟨n, ts, bs, rgI n, lump, rfl, h6, hg.b.2.2, rgI_set, hl, rfl⟩) ?_
    refine sq_for (ys := cuts) (enc := dC) (ei_tup (ev_var rfl)) (fun pre G' => ∃ st, isSet n st = true ∧ (∀ rest, leadsF n ts bs lump (pre ++ rest) = leadsGo n ts bs lump st rest) ∧ G' = [.d (.drw n ts bs), .d (dI lump), .d (dCs cuts), .d (dI st), .un]) (Wk.refl _) ⟨_, lw_set rgI_set, fun _ => rfl, rfl⟩ ?_ ?_
    · rintro pre c post G' e ⟨st, hs, hgo, e2⟩
      subst e2
      refine ⟨_, _, bd_name, ?_⟩
      refine sq_asg (x := dI (cutF n ts bs st c)) (ev_callD (T := tx K) (ea_cons (ev_var rfl) (ea2 (ev_var rfl) (ev_var rfl))) ⟨n, ts, bs, st, c, rfl, hg, hs, hz c (mem_mid e), rfl⟩) ?_
      refine sg_if (b := decide (cutF n ts bs st c = [])) (et_test (ev_eqT (ms := []) (ev_var rfl) (ev_tup ea_nil (by simp)))) (fun h => ?_) fun h => ?_
      · refine sg_ret ev_bl ?_
        have : leadsF n ts bs lump cuts = false := by
          rw [e, hgo, leadsGo, if_pos (of_decide_eq_true h)]
        rw [this] at hF
        exact hF
      · refine sg_next ⟨[.d (.drw n ts bs), .d (dI lump), .d (dCs cuts), .d (dI (cutF n ts bs st c)), .un], by walk_at "wk", _, cut_set, fun rest => ?_, rfl⟩
        rw [List.append_assoc, List.singleton_append, hgo, leadsGo, if_neg (of_decide_eq_false h)]
    · rintro G' ⟨st, hs, hgo, e2⟩
      subst e2
      refine sg_ret (ev_eqT (ev_var rfl) (ev_var rfl)) ?_
      have := hgo []
      rw [List.append_nil, leadsGo] at this
      rw [this] at hF
      exact hF
def sp_lets : Spec := fun ds F => ∃ n ts bs ones asked paper, ds = [.drw n ts bs, dQ ones asked, dPap paper] ∧ GD n ts bs ∧ GQ n ones asked ∧ GPap paper ∧ F (.bl (letsF n ts bs ones asked paper))
theorem want_rows {n : Int} {ts bs : List (Int × Int)} {ones asked : List Int} {paper : List Row} (hg : GD n ts bs) (hq : GQ n ones asked) (h : paper.map (·.1) = lumpsF bs (wantF n ts ones asked)) : ∀ r ∈ paper, r.1 ≠ [] := fun r hr => by
  have p := lumps_part (bs := bs) (nd_rise (isSet_iff.mp (want_set (ones := ones) hg.t.1 hq.sa)).2)
  exact p.ne r.1 (by rw [← h]; exact List.mem_map_of_mem hr)
-- slots: 0 drawing, 1 question, 2 paper, 3 lumps, 4 lump, 5 cuts, 6 row
theorem ok_lets (S : Su K mg) : Good P w (tx K) mg base 7 (He.fAd K ("lets", none)) ["drawing", "question", "paper"] sp_lets := by
  obtain ⟨fd, F⟩ := S.def_ 16 (d := d_lets)
  have g_leads_to := ok_leads_to (P := P) (w := w) (base := base) S
  have g_wanted := ok_wanted (P := P) (w := w) (base := base) S
  refine good_of F sc_lets (fun _ _ _ _ _ _ us hl => match us, hl with | [_, _, _], _ => rfl) ?len ?body
  case len => intro ds F ⟨_, _, _, _, _, _, e, _⟩; rw [e]; rfl
  case body =>
    intro cdv A outer s H E hr ds F ⟨n, ts, bs, ones, asked, paper, e, hg, hq, hp, hF⟩
    subst e
    have hz := hp.1
    refine ⟨_, (pss_cons (ps_set (i := 3) sc_lets.nd rfl (Or.inl rfl) (pe_ix (ix_seqK (K := K)) (pe_callG (T := tx K) g_wanted (hr.mono (by decide)) (by rfl) (S.glo 6) (pa_cons (pv 0) (pa_cons (pv 1) pa_nil))) pe_int (fun _ _ => rfl)))
    (pss_cons (ps_if (pt_cmpR (op_neK (K := K) hr) (pe_lc (own := [("row", 6)]) rfl sc_lets.nd (pi_seq (pv 2)) (blkOk_by (own := [("row", 6)]) (N := N_lets) (sc := defScope (top 25)) (by decide +kernel)) (fun _ _ _ _ _ => (pg_name (i := 6) sc_lets.nd rfl (by first | exact Or.inl rfl | exact Or.inr rfl))) (fun _ _ _ _ _ => pts_nil) (fun _ _ _ _ _ => (pe_ix (ix_seqK (K := K)) (pv 6) pe_int (fun _ _ => rfl)))) (pv 3) (nomark _)) (pss_one (ps_ret pe_bl)) pss_nil)
    (pss_cons (ps_for PassesOwn.never rfl (pi_seq (pv 2)) (pg_seqK (K := K) (n := 2) rfl (pgs_cons (pg_name (i := 4) sc_lets.nd rfl (Or.inl rfl)) (pgs_cons (pg_name (i := 5) sc_lets.nd rfl (Or.inl rfl)) pgs_nil))) (pss_one (ps_if (pt_not (pt_val (pe_callG (T := tx K) g_leads_to (hr.mono (by decide)) (by rfl) (S.glo 10) (pa_cons (pv 0) (pa_cons (pv 4) (pa_cons (pv 5) pa_nil)))))) (pss_one (ps_ret pe_bl)) pss_nil)))
    (pss_one (ps_ret pe_bl))))), ?_⟩
    refine sq_asg (x := lTI (lumpsF bs (wantF n ts ones asked))) (ev_ixN (j := 1) (EvD.sT (ev_callD (T := tx K) (ea2 (ev_var rfl) (ev_var rfl)) ⟨n, ts, bs, ones, asked, rfl, hg, hq, rfl⟩)) ev_int rfl) ?_
    refine sq_guard (b := !decide (paper.map (·.1) = lumpsF bs (wantF n ts ones asked))) (et_test (ev_neLT (EvN.d (EvN.as (en_lc1 (ys := paper) (enc := dRow) (fun _ => true) (fun r => dI r.1) (ei_tup (ev_var rfl)).j (by omega) rfl fun y hy => ⟨et_yes, fun _ => ev_ixN (j := 0) (ds := [dI y.1, dCs y.2]) (EvD.sT (ev_var rfl)) ev_int rfl⟩) (by rw [filter_all]; exact (List.map_map (g := dI) (f := fun r : Row => r.1)).symm))) (ev_var rfl))) (fun h => ?_) fun h => ?_
    · refine sg_ret ev_bl ?_
      rw [letsF, if_pos h] at hF
      exact hF
    rw [letsF, if_neg (by rw [h]; decide)] at hF
    have he : paper.map (·.1) = lumpsF bs (wantF n ts ones asked) := by simpa using h
    have hne := want_rows hg hq he
    refine sq_for (ys := paper) (enc := dRow) (ei_tup (ev_var rfl)) (fun pre G' => (pre.all fun r => leadsF n ts bs r.1 r.2) = true ∧ G' = [.d (.drw n ts bs), .d (dQ ones asked), .d (dPap paper), .d (lTI (lumpsF bs (wantF n ts ones asked))), .un, .un, .un]) (Wk.refl _) ⟨rfl, rfl⟩ ?_ ?_
    · rintro pre r post G' e ⟨ha, e2⟩
      subst e2
      refine ⟨_, _, bd_2T (x := dI r.1) (y := dCs r.2), ?_⟩
      refine sg_if (b := !leadsF n ts bs r.1 r.2) (et_not (et_B (ev_callD (T := tx K) (ea_cons (ev_var rfl) (ea2 (ev_var rfl) (ev_var rfl))) ⟨n, ts, bs, r.1, r.2, rfl, hg, hne r (mem_mid e), hp.2 r (mem_mid e), rfl⟩))) (fun h => ?_) fun h => ?_
      · refine sg_ret ev_bl ?_
        have : (paper.all fun r => leadsF n ts bs r.1 r.2) = false := by
          rw [e, List.all_append, List.all_cons, (Bool.not_eq_true' _).mp h]
          simp
        rw [this] at hF
        exact hF
      · refine sg_next ⟨[.d (.drw n ts bs), .d (dQ ones asked), .d (dPap paper), .d (lTI (lumpsF bs (wantF n ts ones asked))), .un, .un, .un], by walk_at "wk", ?_, rfl⟩
        rw [List.all_append, ha, List.all_cons, (Bool.not_eq_false' _).mp h]
        rfl
    · rintro G' ⟨ha, e2⟩
      subst e2
      refine sg_ret ev_bl ?_
      rw [ha] at hF
      exact hF
def sp_shares_of : Spec := fun ds F => ∃ n ts bs lump cuts, ds = [.drw n ts bs, dI lump, dCs cuts] ∧ GD n ts bs ∧ lump ≠ [] ∧ lump.getD 0 0 ∈ rgI n ∧ (∀ c ∈ cuts, c.2.length ≤ 1000) ∧ leadsF n ts bs lump cuts = true ∧ F (encF (sharesF n bs lump cuts))
-- slots: 0 drawing, 1 lump, 2 cuts, 3 stands, 4 formula, 5 word, 6 names
theorem ok_shares_of (S : Su K mg) : Good P w (tx K) mg base 5 (He.fAd K ("shares_of", none)) ["drawing", "lump", "cuts"] sp_shares_of := by
  obtain ⟨fd, F⟩ := S.def_ 21 (d := d_shares_of)
  have g_every_name := ok_every_name (P := P) (w := w) (base := base) S
  have g_first_formula := ok_first_formula (P := P) (w := w) (base := base) S
  have g_lump_formula := ok_lump_formula (P := P) (w := w) (base := base) S
  have g_lump_with := ok_lump_with (P := P) (w := w) (base := base) S
  have g_summed := ok_summed (P := P) (w := w) (base := base) S
  have g_without := ok_without (P := P) (w := w) (base := base) S
  refine good_of F sc_shares_of (fun _ _ _ _ _ _ us hl => match us, hl with | [_, _, _], _ => rfl) ?len ?body
  case len => intro ds F ⟨_, _, _, _, _, e, _⟩; rw [e]; rfl
  case body =>
    intro cdv A outer s H E hr ds F ⟨n, ts, bs, lump, cuts, e, hg, hl, hl0, hz, hgo, hF⟩
    subst e
    have h1 := hg.n1
    have h6 := hg.n6
    refine ⟨_, (pss_cons (ps_set (i := 3) sc_shares_of.nd rfl (Or.inl rfl) (pe_callG (T := tx K) g_lump_with (hr.mono (by decide)) (by rfl) (S.glo 7) (pa_cons (pv 0) (pa_cons (pe_callG (T := tx K) g_every_name (hr.mono (by decide)) (by rfl) (S.glo 4) (pa_cons (pv 0) pa_nil)) (pa_cons (pv 1) pa_nil)))))
    (pss_cons (ps_set (i := 4) sc_shares_of.nd rfl (Or.inl rfl) (pe_callG (T := tx K) g_first_formula (hr.mono (by decide)) (by rfl) (S.glo 14) (pa_cons (pv 3) pa_nil)))
    (pss_cons (ps_for PassesOwn.never rfl (pi_seq (pv 2)) (pg_seqK (K := K) (n := 2) rfl (pgs_cons (pg_name (i := 5) sc_shares_of.nd rfl (Or.inl rfl)) (pgs_cons (pg_name (i := 6) sc_shares_of.nd rfl (Or.inl rfl)) pgs_nil))) (pss_cons (ps_if (pt_cmpR (op_eqK (K := K) hr) (pv 5) pe_str (nomark _)) (pss_one (ps_set (i := 4) sc_shares_of.nd rfl (Or.inl rfl) (pe_callG (T := tx K) g_summed (hr.mono (by decide)) (by rfl) (S.glo 13) (pa_cons (pe_callG (T := tx K) g_without (hr.mono (by decide)) (by rfl) (S.glo 5) (pa_cons (pv 3) (pa_cons (pv 6) pa_nil))) (pa_cons (pv 4) pa_nil))))) (pss_one (ps_set (i := 4) sc_shares_of.nd rfl (Or.inl rfl) (pe_callG (T := tx K) g_lump_formula (hr.mono (by decide)) (by rfl) (S.glo 15) (pa_cons (pv 3) (pa_cons (pv 6) (pa_cons (pv 4) pa_nil)))))))
    (pss_one (ps_set (i := 3) sc_shares_of.nd rfl (Or.inl rfl) (pv 6)))))
    (pss_one (ps_ret (pv 4)))))), ?_⟩
    refine sq_asg (x := dI (lumpWith bs (rgI n) lump)) (ev_callD (T := tx K) (ea_cons (ev_var rfl) (ea2 (ev_callD (T := tx K) (x := dI (rgI n)) (ea1 (ev_var rfl)) ⟨n, ts, bs, rfl, by omega, by omega, rfl⟩) (ev_var rfl))) ⟨n, ts, bs, rgI n, lump, rfl, h6, hg.b.2.2, rgI_set, hl, rfl⟩) ?_
    obtain ⟨hm, hin⟩ := lw_ne (bs := bs) (nd_rise (rgI_rise n)) hl0
    have s0 : isSet n (lumpWith bs (rgI n) lump) = true := lump_set rgI_set hm
    have ne0 : lumpWith bs (rgI n) lump ≠ [] := fun z => by rw [z] at hin; cases hin
    have ls := set_len s0
    refine sq_asg (x := encF (firstF (lumpWith bs (rgI n) lump))) (ev_callD (T := tx K) (ea1 (ev_var rfl)) ⟨_, rfl, ne0, by omega, fun j hj => ?_, rfl⟩) ?_
    · have := (isSet_iff.mp s0).1 j hj
      omega
    refine sq_for (ys := cuts) (enc := dC) (ei_tup (ev_var rfl)) (fun pre G' => ∃ st f, isSet n st = true ∧ (∀ rest, cuts = pre ++ rest → leadsGo n ts bs lump st rest = true) ∧ (∀ rest, sharesF n bs lump (pre ++ rest) = sharesGo st f rest) ∧ G' = [.d (.drw n ts bs), .d (dI lump), .d (dCs cuts), .d (dI st), .d (encF f), .un, .un]) (Wk.refl _)
      ⟨_, _, s0, fun rest e => by rw [List.nil_append] at e; rw [← e]; exact hgo, fun _ => rfl, rfl⟩ ?_ ?_
    · rintro pre c post G' e ⟨st, f, hs, hgo, hsh, e2⟩
      subst e2
      have lst := set_len hs
      have hg1 := hgo _ e
      rw [leadsGo] at hg1
      have hcut : cutF n ts bs st c ≠ [] := fun z => by rw [if_pos z] at hg1; cases hg1
      rw [if_neg hcut] at hg1
      have ck := cut_ok hcut
      rw [ck.eq] at hg1
      refine ⟨_, _, bd_2T (x := .str c.1) (y := dI c.2), ?_⟩
      refine sq_ife (fun G2 => G2 = [.d (.drw n ts bs), .d (dI lump), .d (dCs cuts), .d (dI st), .d (encF (cutForm st f c)), .d (.str c.1), .d (dI c.2)]) (b := decide (c.1 = ("up" : Str))) (by walk_at "ev") (fun h => ?_) (fun h => ?_) ?_
      · refine sg_asgB (x := encF (cutForm st f c)) (ev_callD (T := tx K) (ea2 (ev_callD (T := tx K) (x := dI (woF st c.2)) (ea2 (ev_var rfl) (ev_var rfl)) ⟨st, c.2, rfl, by omega, rfl⟩) (ev_var rfl)) ⟨_, f, rfl, ?_⟩) bd_name rfl
        rw [cutForm, if_pos h]
      · refine sg_asgB (x := encF (cutForm st f c)) (ev_callD (T := tx K) (ea_cons (ev_var rfl) (ea2 (ev_var rfl) (ev_var rfl))) ⟨st, c.2, f, rfl, ?_, by omega, ?_⟩) bd_name rfl
        · rcases ck.way with ⟨_, hw⟩ | ⟨hw, _⟩
          · have p := lumps_part (bs := bs) (nd_rise (isSet_iff.mp hs).2)
            obtain ⟨j, js, ej⟩ := List.exists_cons_of_ne_nil ck.ne
            exact ⟨j, p.sub _ hw j (by rw [ej]; exact List.mem_cons_self), by rw [ej]; exact List.mem_cons_self⟩
          · exact absurd hw (of_decide_eq_false h)
        · rw [cutForm, if_neg (by rw [h]; decide)]
      · intro G2 e3
        subst e3
        refine sg_asgB (x := dI c.2) (ev_var rfl) bd_name ⟨[.d (.drw n ts bs), .d (dI lump), .d (dCs cuts), .d (dI c.2), .d (encF (cutForm st f c)), .un, .un], by walk_at "wk", _, _, ck.set, fun rest e4 => ?_, fun rest => ?_, rfl⟩
        · rw [e, List.append_assoc, List.singleton_append] at e4
          have e5 := List.append_cancel_left e4
          injection e5 with _ e6
          rw [← e6]
          exact hg1
        · rw [List.append_assoc, List.singleton_append, hsh, sharesGo]
    · rintro G' ⟨st, f, hs, _, hsh, e2⟩
      subst e2
      refine sg_ret (x := encF f) (ev_var rfl) ?_
      have := hsh []
      rw [List.append_nil, sharesGo] at this
      rw [this] at hF
      exact hF
def sp_formula_of : Spec := fun ds F => ∃ n ts bs ones asked paper, ds = [.drw n ts bs, dQ ones asked, dPap paper] ∧ GD n ts bs ∧ GQ n ones asked ∧ GPap paper ∧ letsF n ts bs ones asked paper = true ∧ F (encF (formF n ts bs ones asked paper))
theorem getD_zero {l : List Int} (h : l ≠ []) : l.getD 0 0 ∈ l := by
  obtain ⟨a, l', rfl⟩ := List.exists_cons_of_ne_nil h
  exact List.mem_cons_self
theorem rows_ok {n : Int} {ts bs : List (Int × Int)} {ones asked : List Int} {paper : List Row} (hg : GD n ts bs) (hq : GQ n ones asked) (h : paper.map (·.1) = lumpsF bs (wantF n ts ones asked)) : (∀ r ∈ paper, r.1 ≠ [] ∧ r.1.getD 0 0 ∈ rgI n) ∧ paper ≠ [] := by
  have ws := want_set (ones := ones) hg.t.1 hq.sa
  have hnd := nd_rise (isSet_iff.mp ws).2
  have p := lumps_part (bs := bs) hnd
  refine ⟨fun r hr => ?_, fun z => ?_⟩
  · have hm : r.1 ∈ lumpsF bs (wantF n ts ones asked) := by rw [← h]; exact List.mem_map_of_mem hr
    have ne := p.ne _ hm
    exact ⟨ne, rgI_mem.mpr ((isSet_iff.mp ws).1 _ (p.sub _ hm _ (getD_zero ne)))⟩
  · obtain ⟨a, as, ea⟩ := List.exists_cons_of_ne_nil hq.ne
    have ha : a ∈ wantF n ts ones asked := (anc_mem (nd_rise (isSet_iff.mp hq.sa).2)).1 a (by rw [ea]; exact List.mem_cons_self)
    obtain ⟨l, hl, _⟩ := p.cov a ha
    rw [← h, z] at hl
    cases hl
-- slots: 0 drawing*, 1 question, 2 paper, 3 names, 4 made, 5 lump, 6 cuts
theorem ok_formula_of (S : Su K mg) : Good P w (tx K) mg base 8 (He.fAd K ("formula_of", none)) ["drawing", "question", "paper"] sp_formula_of := by
  obtain ⟨fd, F⟩ := S.def_ 22 (d := d_formula_of)
  have g_lets := ok_lets (P := P) (w := w) (base := base) S
  have g_product := ok_product (P := P) (w := w) (base := base) S
  have g_shares_of := ok_shares_of (P := P) (w := w) (base := base) S
  have g_summed := ok_summed (P := P) (w := w) (base := base) S
  have g_wanted := ok_wanted (P := P) (w := w) (base := base) S
  have g_without := ok_without (P := P) (w := w) (base := base) S
  refine good_of F sc_formula_of (fun _ _ _ _ _ _ us hl => match us, hl with | [_, _, _], _ => rfl) ?len ?body
  case len => intro ds F ⟨_, _, _, _, _, _, e, _⟩; rw [e]; rfl
  case body =>
    intro cdv A outer s H E hr ds F ⟨n, ts, bs, ones, asked, paper, e, hg, hq, hp, hl, hF⟩
    subst e
    have hz := hp.1
    obtain ⟨he, hall⟩ := lets_iff.mp hl
    obtain ⟨hr1, hne⟩ := rows_ok hg hq he
    have lw := set_len (want_set (ones := ones) hg.t.1 hq.sa)
    have h6 := hg.n6
    refine ⟨_, (pss_cons (ps_if (pt_not (pt_val (pe_callG (T := tx K) g_lets (hr.mono (by decide)) (by rfl) (S.glo 11) (pa_cons (pv 0) (pa_cons (pv 1) (pa_cons (pv 2) pa_nil)))))) (pss_one ps_never) pss_nil)
    (pss_cons (ps_set (i := 3) sc_formula_of.nd rfl (Or.inl rfl) (pe_ix (ix_seqK (K := K)) (pe_callG (T := tx K) g_wanted (hr.mono (by decide)) (by rfl) (S.glo 6) (pa_cons (pv 0) (pa_cons (pv 1) pa_nil))) pe_int (fun _ _ => rfl)))
    (pss_cons (ps_set (i := 4) sc_formula_of.nd rfl (Or.inl rfl) (pe_callG (T := tx K) g_product (hr.mono (by decide)) (by rfl) (S.glo 12) (pa_cons (pe_lc (own := [("lump", 5), ("cuts", 6)]) rfl sc_formula_of.nd (pi_seq (pv 2)) (blkOk_by (own := [("lump", 5), ("cuts", 6)]) (N := N_formula_of) (sc := defScope (top 31)) (by decide +kernel)) (fun _ _ _ _ _ => (pg_seqK (K := K) (n := 2) rfl (pgs_cons (pg_name (i := 5) sc_formula_of.nd rfl (by first | exact Or.inl rfl | exact Or.inr rfl)) (pgs_cons (pg_name (i := 6) sc_formula_of.nd rfl (by first | exact Or.inl rfl | exact Or.inr rfl)) pgs_nil)))) (fun _ _ _ _ _ => pts_nil) (fun _ _ _ _ _ => (pe_callG (T := tx K) g_shares_of (hr.mono (by decide)) (by rfl) (S.glo 16) (pa_cons (pv 0) (pa_cons (pv 5) (pa_cons (pv 6) pa_nil)))))) pa_nil)))
    (pss_one (ps_ret (pe_callG (T := tx K) g_summed (hr.mono (by decide)) (by rfl) (S.glo 13) (pa_cons (pe_callG (T := tx K) g_without (hr.mono (by decide)) (by rfl) (S.glo 5) (pa_cons (pv 3) (pa_cons (pe_ix (ix_seqK (K := K)) (pv 1) pe_int (fun _ _ => rfl)) pa_nil))) (pa_cons (pv 4) pa_nil)))))))), ?_⟩
    refine sq_guard (b := false) (EvT.as (et_not (et_B (ev_callD (T := tx K) (x := .bl (letsF n ts bs ones asked paper)) (ea_cons (ev_var rfl) (ea2 (ev_var rfl) (ev_var rfl))) ⟨n, ts, bs, ones, asked, paper, rfl, hg, hq, hp, rfl⟩))) (by rw [hl]; rfl)) (fun h => nomatch h) fun _ => ?_
    refine sq_asg (x := dI (wantF n ts ones asked)) (ev_ixN (j := 0) (EvD.sT (ev_callD (T := tx K) (ea2 (ev_var rfl) (ev_var rfl)) ⟨n, ts, bs, ones, asked, rfl, hg, hq, rfl⟩)) ev_int rfl) ?_
    refine sq_asg (x := encF (prodF (paper.map fun r => sharesF n bs r.1 r.2))) (ev_callD (T := tx K) (ea1 (EvN.d (ds := (paper.map fun r => sharesF n bs r.1 r.2).map encF) (EvN.as (en_lc2 (ys := paper) (enc := dRow) (a := fun r => dI r.1) (b := fun r => dCs r.2) (fun _ => true) (fun r => encF (sharesF n bs r.1 r.2)) (ei_tup (ev_var rfl)).j (fun _ => rfl) (by omega) rfl fun r hr => ⟨et_yes, fun _ => ev_callD (T := tx K) (ea_cons (ev_var rfl) (ea2 (ev_var rfl) (ev_var rfl))) ⟨n, ts, bs, r.1, r.2, rfl, hg, (hr1 r hr).1, (hr1 r hr).2, hp.2 r hr, hall r hr, rfl⟩⟩) (by rw [filter_all, List.map_map]; rfl)))) ⟨_, rfl, by simpa using hne, rfl⟩) ?_
    refine sg_ret (ev_callD (T := tx K) (x := encF (formF n ts bs ones asked paper)) (ea2 (ev_callD (T := tx K) (x := dI (woF (wantF n ts ones asked) asked)) (ea2 (ev_var rfl) (ev_ixN (j := 1) (x := dI asked) (EvD.sT (ev_var rfl)) ev_int rfl)) ⟨_, asked, rfl, by omega, rfl⟩) (ev_var rfl)) ⟨_, _, rfl, rfl⟩) hF
end
end W3

namespace W3
open PySem PySem.Spec PyProof.Rows L2 Evl
local macro_rules | `(tactic| walk_at "ev") => `(tactic| first
  | ((with_reducible apply ev_var); exact rfl)
  | ((with_reducible apply es_own); exact rfl)
  | ((with_reducible apply el_own); exact rfl)
  | with_reducible exact ev_int
  | with_reducible exact ev_bl
  | with_reducible exact ev_str
  | with_reducible exact ev_non
  | with_reducible exact ea_nil
  | with_reducible exact et_yes
  | ((with_reducible apply ea_cons); walk_at "ev"; walk_at "ev")
  | ((with_reducible apply ev_add); walk_at "ev"; walk_at "ev")
  | ((with_reducible apply ev_sub); walk_at "ev"; walk_at "ev")
  | ((with_reducible apply ev_lt); walk_at "ev"; walk_at "ev")
  | ((with_reducible apply ev_le); walk_at "ev"; walk_at "ev")
  | ((with_reducible apply ev_gt); walk_at "ev"; walk_at "ev")
  | ((with_reducible apply ev_ge); walk_at "ev"; walk_at "ev")
  | ((with_reducible apply ev_in); walk_at "ev"; walk_at "ev")
  | ((with_reducible apply ev_ni); walk_at "ev"; walk_at "ev")
  | ((with_reducible apply ev_inLT); walk_at "ev"; walk_at "ev")
  | ((with_reducible apply ev_inL); walk_at "ev"; walk_at "ev")
  | ((with_reducible apply ev_niTT); walk_at "ev"; walk_at "ev")
  | ((with_reducible apply ev_eq); walk_at "ev"; walk_at "ev")
  | ((with_reducible apply ev_eqS); walk_at "ev"; walk_at "ev")
  | ((with_reducible apply ev_eqT); walk_at "ev"; walk_at "ev")
  | ((with_reducible apply ev_eqL); walk_at "ev"; walk_at "ev")
  | ((with_reducible apply ev_ne); walk_at "ev"; walk_at "ev")
  | ((with_reducible apply ev_neT); walk_at "ev"; walk_at "ev")
  | ((with_reducible apply ev_neL); walk_at "ev"; walk_at "ev")
  | ((with_reducible apply ev_neLT); walk_at "ev"; walk_at "ev")
  | ((with_reducible apply ev_neB); walk_at "ev"; walk_at "ev")
  | ((with_reducible apply ev_len); walk_at "ev")
  | ((with_reducible apply ev_tupOf); walk_at "ev")
  | ((with_reducible apply ev_intB); walk_at "ev")
  | ((with_reducible apply en_lstOf); walk_at "ev")
  | ((with_reducible apply et_test); walk_at "ev")
  | ((with_reducible apply et_B); walk_at "ev")
  | ((with_reducible apply et_not); walk_at "ev")
  | ((with_reducible apply EvD.sT); walk_at "ev")
  | ((with_reducible apply EvD.sL); walk_at "ev")
  | ((with_reducible apply EvD.l); walk_at "ev")
  | ((with_reducible apply EvN.s); walk_at "ev")
  | ((with_reducible apply EvN.d); walk_at "ev")
  | ((with_reducible apply EvN.l); walk_at "ev")
  | ((with_reducible apply et_and); walk_at "ev"; intro _; walk_at "ev")
  | ((with_reducible apply et_or); walk_at "ev"; intro _; walk_at "ev")
  | ((with_reducible apply ev_ixN (j := 0)); walk_at "ev"; exact ev_int; exact rfl)
  | ((with_reducible apply ev_ixN (j := 1)); walk_at "ev"; exact ev_int; exact rfl)
  | ((with_reducible apply ev_ixN (j := 2)); walk_at "ev"; exact ev_int; exact rfl)
  | ((with_reducible apply ev_mod); walk_at "ev"; walk_at "ev"; decide)
  | ((with_reducible apply ev_div); walk_at "ev"; walk_at "ev"; decide)
  | ((with_reducible apply ev_tup); walk_at "ev"; simp)
  | ((with_reducible apply en_lst); walk_at "ev"; simp))
local macro_rules | `(tactic| walk_at "wk") => `(tactic| first | exact Wk.nil | (refine Wk.cons (Wk1.rfl _) ?_; walk_at "wk") | (refine Wk.cons (Wk1.un _) ?_; walk_at "wk") | (refine Wk.cons (Wk1.fz _) ?_; walk_at "wk") | (refine Wk.cons (Wk1.lk _) ?_; walk_at "wk"))
/-! bounds of ints -/
def Bt (a : Nat) (i : Int) : Prop := i.natAbs < 2 ^ a
theorem Bt.mul {a b : Nat} {i j : Int} (hi : Bt a i) (hj : Bt b j) : Bt (a + b) (i * j) := by
  unfold Bt at *
  rw [Int.natAbs_mul, Nat.pow_add]
  exact Nat.mul_lt_mul'' hi hj
theorem Bt.mono {a b : Nat} {i : Int} (hi : Bt a i) (h : a ≤ b) : Bt b i := Nat.lt_of_lt_of_le hi (Nat.pow_le_pow_right (by decide) h)
theorem Bt.add {a b : Nat} {i j : Int} (hi : Bt a i) (hj : Bt b j) : Bt (a + b + 1) (i + j) := by
  have h1 := hi.mono (show a ≤ a + b by omega)
  have h2 := hj.mono (show b ≤ a + b by omega)
  unfold Bt at *
  rw [Nat.pow_succ]
  have := Int.natAbs_add_le i j
  omega
theorem Bt.of {a : Nat} {i : Int} (h0 : 0 ≤ i) (h : i < 2 ^ a) : Bt a i := by
  unfold Bt
  have : ((i.natAbs : Nat) : Int) < ((2 ^ a : Nat) : Int) := by
    rw [Int.natAbs_of_nonneg h0]
    exact_mod_cast h
  exact_mod_cast this
theorem Bt.mod {a : Nat} {i j : Int} (hj : 0 < j) (h : Bt a j) : Bt a (i % j) := by
  unfold Bt at *
  have h1 := Int.emod_nonneg i (by omega : j ≠ 0)
  have h2 := Int.emod_lt_of_pos i hj
  omega
theorem Bt.cm {a b : Nat} {i j : Int} (hi : Bt a i) (hj : Bt b j) (h : a + b ≤ 134217728 := by decide) : CMulX i j := by
  unfold CMulX
  have h1 := intBits_le hi
  have h2 := intBits_le hj
  omega
theorem cdiv {i j : Int} {a : Nat} (h0 : 0 < j) (h : Bt a j) (ha : a ≤ 8999 := by decide) : CDivW i j := by
  refine ⟨h0, ?_⟩
  have h1 : j.natAbs ≠ 0 := by omega
  have := (Nat.log2_lt h1).mpr h
  omega
theorem rg_at {n k : Nat} {pre post : List Nat} (h : List.range n = pre ++ k :: post) : k = pre.length := by
  have h1 : (List.range n)[pre.length]? = some k := by rw [h, List.getElem?_append_right (Nat.le_refl _), Nat.sub_self]; rfl
  have h2 : pre.length < n := by have := congrArg List.length h; simp at this; omega
  rw [List.getElem?_range h2] at h1
  exact (Option.some.inj h1).symm
theorem rg_end {n : Nat} : (List.range n).length = n := List.length_range
section
variable {T : Tx} {G : List Sl} {te : TE} {i : Int}
/-- 10 ** k and the like -/
theorem ev_pw {a b : Int} (h0 : 0 ≤ b) (h1 : b ≤ 1000000) (h2 : a.natAbs < 2 ^ 64) : EvD T (tOp rPowX (tC (.int a)) (tC (.int b))) G (.int (a ^ b.toNat)) := ev_pow ev_int ev_int ⟨h0, h1, h2⟩
end
section
variable {P : Program} {w : World} {K : PySem.W.Frag} {mg : Str → Option Value} {base : Heap}
def sp_cell_at : Spec := fun ds F => ∃ ns k, ds = [.scr ns, .int k] ∧ 0 ≤ k ∧ ∀ v : Int, F (.int v)
-- slots: 0 _law_script, 1 _law_k
theorem ok_law_cell_at (S : Su K mg) : Good P w (tx K) mg base 1 (He.fAd K ("_law_cell_at", none)) ["_law_script", "_law_k"] sp_cell_at := by
  obtain ⟨fd, F⟩ := S.def_ 23 (d := d_law_cell_at)
  refine good_of F sc_law_cell_at (fun _ _ _ _ _ _ us hl => match us, hl with | [_, _], _ => rfl) ?len ?body
  case len => intro ds F ⟨_, _, e, _⟩; rw [e]; rfl
  case body =>
    intro cdv A outer s H E hr ds F ⟨ns, k, e, hk, hF⟩
    subst e
    refine ⟨_, (pss_cons (ps_if (pt_cmpR op_ltX (pv 1) (pe_callB (call_lenK (K := K)) (by rfl) (S.free 43) PySem.boot_len (pa_cons (pv 0) pa_nil)) (nomark _)) (pss_one (ps_ret (pe_ix (ix_seqK (K := K)) (pv 0) (pv 1) (fun _ _ => rfl)))) pss_nil)
    (pss_one (ps_ret pe_int))), ?_⟩
    refine sq_guard (b := decide (k < (ns.length : Nat))) (et_test (ev_lt (ev_var rfl) (ev_lenScr (ev_var rfl)))) (fun h => ?_) fun h => sg_ret ev_int (hF 0)
    have h' := of_decide_eq_true h
    have hl : k.toNat < ns.length := by omega
    have e : k = ((k.toNat : Nat) : Int) := by omega
    exact sg_ret (ev_ixScr (n := ns[k.toNat]) (ev_var rfl) (ev_var rfl) (by have z := atI_nat (xs := ns) (List.getElem?_eq_getElem hl); rwa [← e] at z)) (hF _)
def sp_mix : Spec := fun ds F => ∃ u k, ds = [.int u, .int k] ∧ 0 ≤ k ∧ k ≤ 10 ∧ ∀ v : Int, 0 ≤ v → F (.int v)
theorem bt_nat (a : Nat) (i : Nat) (h : i < 2 ^ a) : Bt a (i : Int) := by unfold Bt; simpa using h
theorem p10_18 : (10 : Int) ^ (18 : Int).toNat = 1000000000000000000 := by decide +kernel
theorem p10_60 : (10 : Int) ^ (60 : Int).toNat = 1000000000000000000000000000000000000000000000000000000000000 := by decide +kernel
theorem p10_40 : (10 : Int) ^ (40 : Int).toNat = 10000000000000000000000000000000000000000 := by decide +kernel
-- slots: 0 _law_unit, 1 _law_k, 2 _law_number
theorem ok_law_mix (S : Su K mg) : Good P w (tx K) mg base 1 (He.fAd K ("_law_mix", none)) ["_law_unit", "_law_k"] sp_mix := by
  obtain ⟨fd, F⟩ := S.def_ 24 (d := d_law_mix)
  refine good_of F sc_law_mix (fun _ _ _ _ _ _ us hl => match us, hl with | [_, _], _ => rfl) ?len ?body
  case len => intro ds F ⟨_, _, e, _⟩; rw [e]; rfl
  case body =>
    intro cdv A outer s H E hr ds F ⟨u, k, e, h0, h1, hF⟩
    subst e
    refine ⟨_, (pss_cons (ps_if (pt_cmpR op_geX (pv 0) (pe_op op_powX pe_int pe_int) (nomark _)) (pss_one (ps_ret (pe_op op_subX (pv 0) (pe_op op_powX pe_int pe_int)))) pss_nil)
    (pss_cons (ps_set (i := 2) sc_law_mix.nd rfl (Or.inl rfl) (pe_op op_modX (pv 0) (pe_op op_powX pe_int pe_int)))
    (pss_cons (ps_set (i := 2) sc_law_mix.nd rfl (Or.inl rfl) (pe_op op_modX (pe_op op_mulXX (pe_op (op_addK (K := K)) (pe_op (op_addK (K := K)) (pe_op op_mulXX (pv 2) (pv 2)) (pe_op op_mulXX (pe_op op_mulXX pe_int (pv 1)) (pv 1))) pe_int) pe_int) (pe_op (op_addK (K := K)) (pe_op op_powX pe_int pe_int) pe_int)))
    (pss_one (ps_ret (pe_op op_modX (pe_op op_mulXX (pe_op (op_addK (K := K)) (pe_op op_mulXX (pv 2) (pv 2)) (pv 1)) pe_int) (pe_op (op_addK (K := K)) (pe_op op_powX pe_int pe_int) pe_int))))))), ?_⟩
    have q18 : EvD (tx K) (tOp rPowX (tC (.int 10)) (tC (.int 18))) [.d (.int u), .d (.int k), .un] (.int 1000000000000000000) := (ev_pw (by decide) (by decide) (by decide)).as (by rw [p10_18])
    refine sq_guard (b := decide ((1000000000000000000 : Int) ≤ u)) (et_test (ev_ge (ev_var rfl) q18)) (fun h => sg_ret (ev_sub (ev_var rfl) q18) (hF _ ?_)) fun h => ?_
    · have := of_decide_eq_true h
      omega
    refine sq_asg (x := .int (u % 1000000000000000000000000000000000000000000000000000000000000)) (ev_mod (ev_var rfl) ((ev_pw (by decide) (by decide) (by decide)).as (by rw [p10_60])) (by decide)) ?_
    have b1 : Bt 200 (u % 1000000000000000000000000000000000000000000000000000000000000) := Bt.mod (by decide) (by unfold Bt; decide)
    generalize u % 1000000000000000000000000000000000000000000000000000000000000 = x at *
    have bk : Bt 4 k := Bt.of h0 (by omega)
    have m1 : (0 : Int) < 1000000000000000000 + 9 := by decide
    refine sq_asg (x := .int ((x * x + 40503 * k * k + 7919) * 1812433253982451697 % (1000000000000000000 + 9))) (ev_mod (ev_mul (ev_add (ev_add (ev_mul (ev_var rfl) (ev_var rfl) (b1.cm b1)) (ev_mul (ev_mul ev_int (ev_var rfl) ?_) (ev_var rfl) ?_)) ev_int) ev_int ?_) (ev_add ((ev_pw (by decide) (by decide) (by decide)).as (by rw [p10_18])) ev_int) m1) ?_
    · exact Bt.cm (a := 20) (by unfold Bt; decide) bk
    · exact Bt.cm (Bt.mul (a := 20) (by unfold Bt; decide) bk) bk
    · exact Bt.cm (b := 70) (((b1.mul b1).add (((show Bt 20 40503 by unfold Bt; decide).mul bk).mul bk)).add (show Bt 20 7919 by unfold Bt; decide)) (by unfold Bt; decide)
    have b2 : Bt 70 ((x * x + 40503 * k * k + 7919) * 1812433253982451697 % (1000000000000000000 + 9)) := Bt.mod m1 (by unfold Bt; decide)
    generalize (x * x + 40503 * k * k + 7919) * 1812433253982451697 % (1000000000000000000 + 9) = y at *
    have m2 : (0 : Int) < 10000000000000000000000000000000000000000 + 121 := by decide
    refine sg_ret (x := .int ((y * y + k) * 739108512309184756019283746561 % (10000000000000000000000000000000000000000 + 121))) (ev_mod (ev_mul (ev_add (ev_mul (ev_var rfl) (ev_var rfl) (b2.cm b2)) (ev_var rfl)) ev_int ?_) (ev_add ((ev_pw (by decide) (by decide) (by decide)).as (by rw [p10_40])) ev_int) m2) (hF _ (Int.emod_nonneg _ (by decide)))
    exact Bt.cm (b := 110) ((b2.mul b2).add bk) (by unfold Bt; decide)
/-! the shape -/
def dSh (n : Int) (ts bs : List (Int × Int)) : Dt := .lst [.int n, lTP ts, lTP bs]
structure GS (n : Int) (ts bs : List (Int × Int)) : Prop where
  n1 : 1 ≤ n
  n4 : n ≤ 4
  t : GP n ts
  b : GP n bs
  b4 : bs.length ≤ 4
theorem GS.d {n : Int} {ts bs : List (Int × Int)} (h : GS n ts bs) : GD n ts bs := ⟨h.n1, by have := h.n4; omega, h.t, h.b, by have := h.b4; omega⟩
structure PG (n : Int) (v u : Nat) (ps : List (Int × Int)) : Prop where
  ok : ∀ p ∈ ps, 0 ≤ p.1 ∧ p.1 < p.2 ∧ p.2 < n
  old : ∀ p ∈ ps, p.2 < v ∨ (p.2 = v ∧ p.1 < u)
  nd : ps.Nodup
  len : ps.length ≤ 4 * v + u
theorem PG.gp {n : Int} {v u : Nat} {ps : List (Int × Int)} (h : PG n v u ps) (hv : v ≤ 4) (hu : u ≤ 4) : GP n ps := ⟨h.ok, h.nd, by have := h.len; omega⟩
theorem PG.step {n : Int} {v u : Nat} {ps : List (Int × Int)} (h : PG n v u ps) : PG n v (u + 1) ps := ⟨h.ok, fun p hp => by have := h.old p hp; omega, h.nd, by have := h.len; omega⟩
theorem PG.up {n : Int} {v : Nat} {ps : List (Int × Int)} (h : PG n v v ps) (hv : v ≤ 4) : PG n (v + 1) 0 ps := ⟨h.ok, fun p hp => by have := h.old p hp; omega, h.nd, by have := h.len; omega⟩
theorem PG.push {n : Int} {v u : Nat} {ps : List (Int × Int)} (h : PG n v u ps) (hu : u < v) (hv : (v : Int) < n) : PG n v (u + 1) (ps ++ [((u : Int), (v : Int))]) where
  ok := fun p hp => by
    rcases List.mem_append.mp hp with hp | hp
    · exact h.ok p hp
    · rw [List.mem_singleton.mp hp]; exact ⟨by omega, by simp; omega, hv⟩
  old := fun p hp => by
    rcases List.mem_append.mp hp with hp | hp
    · have := h.old p hp; omega
    · rw [List.mem_singleton.mp hp]; exact .inr ⟨rfl, by simp; omega⟩
  nd := List.nodup_append.mpr ⟨h.nd, by simp, fun p hp q hq e => by
    have h1 := h.old p hp
    rw [List.mem_singleton.mp hq] at e
    rw [e] at h1
    simp at h1⟩
  len := by rw [List.length_append]; have := h.len; simp; omega
theorem mem_range_int {n k : Nat} (h : k < n) (m : Int) (e : n = m.toNat) : ((k : Nat) : Int) < m := by omega
def sp_drawing : Spec := fun ds F => ∃ u, ds = [.int u, .int 1, .int 4] ∧ ∀ n ts bs, GS n ts bs → F (dSh n ts bs)
theorem gp_sort {n : Int} {ps : List (Int × Int)} (h : GP n ps) : GP n (sortP ps) := h.sort
-- slots: 0 _law_number, 1 _law_least, 2 _law_most, 3 _law_count, 4 _law_ties, 5 _law_bows, 6 _law_v, 7 _law_u
theorem ok_law_drawing (S : Su K mg) : Good P w (tx K) mg base 1 (He.fAd K ("_law_drawing", none)) ["_law_number", "_law_least", "_law_most"] sp_drawing := by
  obtain ⟨fd, F⟩ := S.def_ 25 (d := d_law_drawing)
  refine good_of F sc_law_drawing (fun _ _ _ _ _ _ us hl => match us, hl with | [_, _, _], _ => rfl) ?len ?body
  case len => intro ds F ⟨_, e, _⟩; rw [e]; rfl
  case body =>
    intro cdv A outer s H E hr ds F ⟨u, e, hF⟩
    subst e
    refine ⟨_, (pss_cons (ps_set (i := 3) sc_law_drawing.nd rfl (Or.inl rfl) (pe_op (op_addK (K := K)) (pv 1) (pe_op op_modX (pv 0) (pe_op (op_addK (K := K)) (pe_op op_subX (pv 2) (pv 1)) pe_int))))
    (pss_cons (ps_set (i := 0) sc_law_drawing.nd rfl (Or.inl rfl) (pe_op op_divX (pv 0) (pe_op (op_addK (K := K)) (pe_op op_subX (pv 2) (pv 1)) pe_int)))
    (pss_cons (ps_set (i := 4) sc_law_drawing.nd rfl (Or.inl rfl) (pe_lst pa_nil))
    (pss_cons (ps_set (i := 5) sc_law_drawing.nd rfl (Or.inl rfl) (pe_lst pa_nil))
    (pss_cons (ps_for PassesOwn.never rfl (pi_range1 (by rfl) (S.free 44) (pa_cons (pv 3) pa_nil)) (pg_name (i := 6) sc_law_drawing.nd rfl (Or.inl rfl)) (pss_one (ps_for PassesOwn.never rfl (pi_range1 (by rfl) (S.free 44) (pa_cons (pv 6) pa_nil)) (pg_name (i := 7) sc_law_drawing.nd rfl (Or.inl rfl)) (pss_cons (ps_if (pt_cmpR (op_eqK (K := K) hr) (pe_op op_modX (pe_op op_modX (pv 0) pe_int) pe_int) pe_int (nomark _)) (pss_one (ps_expr (pe_bm PySem.F.plainAttrs_list PySem.F.slot_list_append PySem.F.type_list_append mt_append (pv 4) (pa_cons (pe_tup (pa_cons (pv 7) (pa_cons (pv 6) pa_nil))) pa_nil)))) pss_nil)
    (pss_cons (ps_if (PW.pt (pw_and (pt_cmpR (op_eqK (K := K) hr) (pe_op op_divX (pe_op op_modX (pv 0) pe_int) pe_int) pe_int (nomark _)) (pw_and1 (pt_cmpR op_ltX (pe_callB (call_lenK (K := K)) (by rfl) (S.free 43) PySem.boot_len (pa_cons (pv 5) pa_nil)) pe_int (nomark _))))) (pss_one (ps_expr (pe_bm PySem.F.plainAttrs_list PySem.F.slot_list_append PySem.F.type_list_append mt_append (pv 5) (pa_cons (pe_tup (pa_cons (pv 7) (pa_cons (pv 6) pa_nil))) pa_nil)))) pss_nil)
    (pss_one (ps_set (i := 0) sc_law_drawing.nd rfl (Or.inl rfl) (pe_op op_divX (pv 0) pe_int))))))))
    (pss_one (ps_ret (pe_lst (pa_cons (pv 3) (pa_cons (pe_callB (call_sortX hr) (by rfl) (S.free 45) (by decide +kernel) (pa_cons (pv 4) pa_nil)) (pa_cons (pe_callB (call_sortX hr) (by rfl) (S.free 45) (by decide +kernel) (pa_cons (pv 5) pa_nil)) pa_nil))))))))))), ?_⟩
    refine sq_asg (x := .int (1 + u % (4 - 1 + 1))) (by walk_at "ev") ?_
    refine sq_asg (x := .int (u / (4 - 1 + 1))) (ev_div (ev_var rfl) (by walk_at "ev") (cdiv (a := 3) (by decide) (by unfold Bt; decide))) ?_
    have n1 : 1 ≤ 1 + u % (4 - 1 + 1) := by omega
    have n4 : 1 + u % (4 - 1 + 1) ≤ 4 := by omega
    generalize 1 + u % (4 - 1 + 1) = n at *
    refine sq_asgN (en_lst ea_nil (by simp)) (lt_of_some rfl) ?_
    refine sq_asgN (en_lst ea_nil (by simp)) (lt_of_some rfl) ?_
    refine sq_for (ys := List.range n.toNat) (enc := fun i => .int (i : Nat)) (ei_rng (ea1 (ev_var rfl)) (by omega) (by omega)) (fun pre G' => ∃ x ts bs, PG n pre.length 0 ts ∧ PG n pre.length 0 bs ∧ bs.length ≤ 4 ∧ G' = [.d (.int x), .d (.int 1), .d (.int 4), .d (.int n), .own (.lst (ts.map dP)), .own (.lst (bs.map dP)), .un, .un]) (Wk.refl _)
      ⟨u / (4 - 1 + 1), [], [], ⟨fun _ h => (nomatch h), fun _ h => (nomatch h), List.nodup_nil, Nat.zero_le _⟩, ⟨fun _ h => (nomatch h), fun _ h => (nomatch h), List.nodup_nil, Nat.zero_le _⟩, Nat.zero_le _, rfl⟩ ?_ ?_
    · rintro pre v post G' e ⟨x, ts, bs, ht, hb, h4, e2⟩
      subst e2
      have ev := rg_at e
      have hv := rg_mid e
      rw [← ev] at ht hb
      refine ⟨_, _, bd_name, ?_⟩
      refine sg_for (ys := List.range v) (enc := fun i => .int (i : Nat)) (ei_rngN (ea1 (ev_var rfl)) (by omega)) (fun pre2 G' => ∃ x ts bs, PG n v pre2.length ts ∧ PG n v pre2.length bs ∧ bs.length ≤ 4 ∧ G' = [.d (.int x), .d (.int 1), .d (.int 4), .d (.int n), .own (.lst (ts.map dP)), .own (.lst (bs.map dP)), .d (.int (v : Nat)), .un]) (Wk.refl _) ⟨x, ts, bs, ht, hb, h4, rfl⟩ ?_ ?_
      · rintro pre2 k post2 G' e' ⟨x, ts, bs, ht, hb, h4, e2⟩
        subst e2
        have ek := rg_at e'
        have hk := rg_mid e'
        rw [← ek] at ht hb
        have lt := ht.len
        refine ⟨_, _, bd_name, ?_⟩
        have el : (pre2 ++ [k]).length = k + 1 := by rw [List.length_append, ← ek]; rfl
        refine sq_when (fun G2 => ∃ ts, PG n v (k + 1) ts ∧ G2 = [.d (.int x), .d (.int 1), .d (.int 4), .d (.int n), .own (.lst (ts.map dP)), .own (.lst (bs.map dP)), .d (.int (v : Nat)), .d (.int (k : Nat))]) (b := decide (x % 6 % 2 = 1)) (by walk_at "ev") (fun h => ?_) (fun h => ⟨ts, ht.step, rfl⟩) ?_
        · refine sg_app (x := dP ((k : Int), (v : Int))) rfl (ev_tup (ea2 (ev_var rfl) (ev_var rfl)) (by simp)) (by rw [List.length_map]; omega) ⟨ts ++ [((k : Int), (v : Int))], ht.push hk (by omega), ?_⟩
          rw [List.map_append]
          rfl
        · rintro G2 ⟨ts, ht, e3⟩
          subst e3
          refine sq_when (fun G2 => ∃ bs, PG n v (k + 1) bs ∧ bs.length ≤ 4 ∧ G2 = [.d (.int x), .d (.int 1), .d (.int 4), .d (.int n), .own (.lst (ts.map dP)), .own (.lst (bs.map dP)), .d (.int (v : Nat)), .d (.int (k : Nat))]) (b := decide (x % 6 / 2 = 2) && decide (((bs.map dP).length : Int) < 4)) (et_and (et_test (ev_eq (ev_div (by walk_at "ev") ev_int (cdiv (a := 3) (by decide) (by unfold Bt; decide))) ev_int)) fun _ => et_test (ev_lt (ev_len (es_own rfl)) ev_int)) (fun h => ?_) (fun h => ⟨bs, hb.step, h4, rfl⟩) ?_
          · have h5 : (bs.length : Int) < 4 := by
              rw [Bool.and_eq_true] at h
              have := of_decide_eq_true h.2
              rwa [List.length_map] at this
            refine sg_app (x := dP ((k : Int), (v : Int))) rfl (ev_tup (ea2 (ev_var rfl) (ev_var rfl)) (by simp)) (by rw [List.length_map]; omega) ⟨bs ++ [((k : Int), (v : Int))], hb.push hk (by omega), by simp; omega, ?_⟩
            rw [List.map_append]
            rfl
          · rintro G2 ⟨bs, hb, h4, e3⟩
            subst e3
            refine sg_asgB (x := .int (x / 6)) (ev_div (ev_var rfl) ev_int (cdiv (a := 3) (by decide) (by unfold Bt; decide))) bd_name ⟨_, ?wk, x / 6, ts, bs, by rw [el]; exact ht, by rw [el]; exact hb, h4, rfl⟩
            case wk => walk_at "wk"
      · rintro G' ⟨x, ts, bs, ht, hb, h4, e2⟩
        subst e2
        have el : (pre ++ [v]).length = v + 1 := by rw [List.length_append, ← ev]; rfl
        rw [rg_end] at ht hb
        refine ⟨_, ?wk, x, ts, bs, by rw [el]; exact ht.up (by omega), by rw [el]; exact hb.up (by omega), h4, rfl⟩
        case wk => walk_at "wk"
    · rintro G' ⟨x, ts, bs, ht, hb, h4, e2⟩
      subst e2
      rw [rg_end] at ht hb
      refine sg_ret (x := dSh n (sortP ts) (sortP bs)) (EvN.d (en_lst (ea_cons (ev_var rfl) (ea2 (EvN.d (en_sortP (es_own rfl))) (EvN.d (en_sortP (es_own rfl))))) (by simp))) (hF n _ _ ⟨n1, n4, (ht.gp (by omega) (by omega)).sort, (hb.gp (by omega) (by omega)).sort, by rw [len_sortP]; exact h4⟩)
/-! the question -/
theorem up_push {k : Nat} {l : List Int} (h : isSet (k : Nat) l = true) : isSet ((k + 1 : Nat) : Int) (l ++ [((k : Nat) : Int)]) = true := by
  obtain ⟨h1, h2⟩ := isSet_iff.mp h
  refine isSet_iff.mpr ⟨fun x hx => ?_, List.pairwise_append.mpr ⟨h2, by simp, fun x hx y hy => ?_⟩⟩
  · rcases List.mem_append.mp hx with hx | hx
    · have := h1 x hx; omega
    · rw [List.mem_singleton.mp hx]; omega
  · rw [List.mem_singleton.mp hy]
    exact (h1 x hx).2
theorem up_mono {n m : Int} {l : List Int} (h : isSet n l = true) (hm : n ≤ m) : isSet m l = true := by
  obtain ⟨h1, h2⟩ := isSet_iff.mp h
  exact isSet_iff.mpr ⟨fun x hx => by have := h1 x hx; omega, h2⟩
def sp_question : Spec := fun ds F => ∃ u n, ds = [.int u, .int n] ∧ 1 ≤ n ∧ n ≤ 4 ∧ ∀ ones asked, GQ n ones asked → F (dQ ones asked)
-- slots: 0 _law_number, 1 _law_count*, 2 _law_ones, 3 _law_asked, 4 _law_name, 5 _law_way
theorem ok_law_question (S : Su K mg) : Good P w (tx K) mg base 1 (He.fAd K ("_law_question", none)) ["_law_number", "_law_count"] sp_question := by
  obtain ⟨fd, F⟩ := S.def_ 26 (d := d_law_question)
  refine good_of F sc_law_question (fun _ _ _ _ _ _ us hl => match us, hl with | [_, _], _ => rfl) ?len ?body
  case len => intro ds F ⟨_, _, e, _⟩; rw [e]; rfl
  case body =>
    intro cdv A outer s H E hr ds F ⟨u, n, e, n1, n4, hF⟩
    subst e
    refine ⟨_, (pss_cons (ps_set (i := 2) sc_law_question.nd rfl (Or.inl rfl) (pe_lst pa_nil))
    (pss_cons (ps_set (i := 3) sc_law_question.nd rfl (Or.inl rfl) (pe_lst pa_nil))
    (pss_cons (ps_for PassesOwn.never rfl (pi_range1 (by rfl) (S.free 44) (pa_cons (pv 1) pa_nil)) (pg_name (i := 4) sc_law_question.nd rfl (Or.inl rfl)) (pss_cons (ps_set (i := 5) sc_law_question.nd rfl (Or.inl rfl) (pe_op op_modX (pv 0) pe_int))
    (pss_cons (ps_set (i := 0) sc_law_question.nd rfl (Or.inl rfl) (pe_op op_divX (pv 0) pe_int))
    (pss_cons (ps_if (PW.pt (pw_or (pt_cmpR (op_eqK (K := K) hr) (pv 5) pe_int (nomark _)) (pw_or1 (pt_cmpR (op_eqK (K := K) hr) (pv 5) pe_int (nomark _))))) (pss_one (ps_expr (pe_bm PySem.F.plainAttrs_list PySem.F.slot_list_append PySem.F.type_list_append mt_append (pv 2) (pa_cons (pv 4) pa_nil)))) pss_nil)
    (pss_one (ps_if (pt_cmpR (op_eqK (K := K) hr) (pv 5) pe_int (nomark _)) (pss_one (ps_expr (pe_bm PySem.F.plainAttrs_list PySem.F.slot_list_append PySem.F.type_list_append mt_append (pv 3) (pa_cons (pv 4) pa_nil)))) pss_nil))))))
    (pss_cons (ps_if (pt_cmpR (op_eqK (K := K) hr) (pe_callB (call_lenK (K := K)) (by rfl) (S.free 43) PySem.boot_len (pa_cons (pv 3) pa_nil)) pe_int (nomark _)) (pss_cons (ps_set (i := 3) sc_law_question.nd rfl (Or.inl rfl) (pe_lst (pa_cons (pe_op op_subX (pv 1) pe_int) pa_nil)))
    (pss_one (ps_setLc (i := 2) (own := [("_law_name", 4)]) rfl sc_law_question.nd rfl rfl (sw_true rfl rfl rfl (by decide +kernel)) (pi_seq (pv 2)) (blkOk_by (own := [("_law_name", 4)]) (N := N_law_question) (sc := defScope (top 36)) (by decide +kernel)) (fun _ _ _ _ _ => (pg_name (i := 4) sc_law_question.nd rfl (by first | exact Or.inl rfl | exact Or.inr rfl))) (fun _ _ _ _ _ => (pts_one (pt_cmpR op_ltX (pv 4) (pe_op op_subX (pv 1) pe_int) (nomark _)))) (fun _ _ _ _ _ => (pv 4))))) pss_nil)
    (pss_one (ps_ret (pe_tup (pa_cons (pe_callTy call_tupX (by rfl) (S.free 46) (by decide +kernel) (pa_cons (pv 2) pa_nil)) (pa_cons (pe_callTy call_tupX (by rfl) (S.free 46) (by decide +kernel) (pa_cons (pv 3) pa_nil)) pa_nil))))))))), ?_⟩
    refine sq_asgN (en_lst ea_nil (by simp)) (lt_of_some rfl) ?_
    refine sq_asgN (en_lst ea_nil (by simp)) (lt_of_some rfl) ?_
    refine sq_for (ys := List.range n.toNat) (enc := fun i => .int (i : Nat)) (ei_rng (ea1 (ev_var rfl)) (by omega) (by omega)) (fun pre G' => ∃ x ones asked, isSet (pre.length : Nat) ones = true ∧ isSet (pre.length : Nat) asked = true ∧ (∀ j ∈ asked, j ∉ ones) ∧ G' = [.d (.int x), .d (.int n), .own (.lst (ones.map .int)), .own (.lst (asked.map .int)), .un, .un]) (Wk.refl _)
      ⟨u, [], [], rfl, rfl, fun _ h => (nomatch h), rfl⟩ ?_ ?_
    · rintro pre k post G' e ⟨x, ones, asked, ho, ha, hd, e2⟩
      subst e2
      have ek := rg_at e
      have hk := rg_mid e
      rw [← ek] at ho ha
      have el : (pre ++ [k]).length = k + 1 := by rw [List.length_append, ← ek]; rfl
      have lo := set_len ho
      have la := set_len ha
      have no : (k : Int) ∉ ones := fun z => by have := (isSet_iff.mp ho).1 _ z; omega
      have na : (k : Int) ∉ asked := fun z => by have := (isSet_iff.mp ha).1 _ z; omega
      have ho1 : isSet ((k + 1 : Nat) : Int) ones = true := up_mono ho (by omega)
      have ha1 : isSet ((k + 1 : Nat) : Int) asked = true := up_mono ha (by omega)
      refine ⟨_, _, bd_name, ?_⟩
      refine sq_asg (x := .int (x % 5)) (by walk_at "ev") ?_
      refine sq_asg (x := .int (x / 5)) (ev_div (ev_var rfl) ev_int (cdiv (a := 3) (by decide) (by unfold Bt; decide))) ?_
      refine sq_when (fun G2 => ∃ ones, isSet ((k + 1 : Nat) : Int) ones = true ∧ (∀ j ∈ asked, j ∉ ones) ∧ (x % 5 = 2 → (k : Int) ∉ ones) ∧ G2 = [.d (.int (x / 5)), .d (.int n), .own (.lst (ones.map .int)), .own (.lst (asked.map .int)), .d (.int (k : Nat)), .d (.int (x % 5))]) (b := decide (x % 5 = 0) || decide (x % 5 = 1)) (by walk_at "ev") (fun h => ?_) (fun h => ⟨ones, ho1, hd, fun _ => no, rfl⟩) ?_
      · refine sg_app (x := .int (k : Nat)) rfl (ev_var rfl) (by rw [List.length_map]; omega) ⟨ones ++ [((k : Nat) : Int)], up_push ho, fun j hj hj2 => ?_, fun h2 => ?_, ?_⟩
        · rcases List.mem_append.mp hj2 with hj2 | hj2
          · exact hd j hj hj2
          · rw [List.mem_singleton.mp hj2] at hj; exact na hj
        · rw [h2] at h; exact absurd h (by decide)
        · rw [List.map_append]; rfl
      · rintro G2 ⟨ones, ho, hd, hn, e3⟩
        subst e3
        refine sg_if (b := decide (x % 5 = 2)) (by walk_at "ev") (fun h => ?_) (fun h => ?_)
        · refine sg_app (x := .int (k : Nat)) rfl (ev_var rfl) (by rw [List.length_map]; omega) ⟨_, ?wk, x / 5, ones, asked ++ [((k : Nat) : Int)], by rw [el]; exact ho, by rw [el]; exact up_push ha, fun j hj => ?_, by rw [List.map_append]; try rfl⟩
          case wk => walk_at "wk"
          rcases List.mem_append.mp hj with hj | hj
          · exact hd j hj
          · rw [List.mem_singleton.mp hj]; exact hn (of_decide_eq_true h)
        · refine sg_next ⟨_, ?wk, x / 5, ones, asked, by rw [el]; exact ho, by rw [el]; exact ha1, hd, rfl⟩
          case wk => walk_at "wk"
    · rintro G' ⟨x, ones, asked, ho, ha, hd, e2⟩
      subst e2
      rw [rg_end] at ho ha
      have en : ((n.toNat : Nat) : Int) = n := by omega
      rw [en] at ho ha
      have lo := set_len ho
      refine sq_when (fun G2 => ∃ ones asked, GQ n ones asked ∧ G2 = [.d (.int x), .d (.int n), .own (.lst (ones.map .int)), .own (.lst (asked.map .int)), .un, .un]) (b := decide (((asked.map Dt.int).length : Int) = 0)) (et_test (ev_eq (ev_len (es_own rfl)) ev_int)) (fun h => ?_) (fun h => ⟨ones, asked, ⟨ho, ha, fun z => by rw [z] at h; exact absurd h (by decide), hd⟩, rfl⟩) ?_
      · refine sq_asgN (en_lst (ea1 (ev_sub (ev_var rfl) ev_int)) (by simp)) (lt_of_some rfl) ?_
        refine sg_asgN (en_lc1 (ys := ones) (enc := .int) (fun j => decide (j < n - 1)) .int (ej_own rfl) (by omega) rfl fun y hy => ⟨by walk_at "ev", fun _ => by walk_at "ev"⟩) (lt_of_some rfl) ⟨ones.filter fun j => decide (j < n - 1), [n - 1], ⟨?_, ?_, by simp, fun j hj hj2 => ?_⟩, rfl⟩
        · obtain ⟨h1, h2⟩ := isSet_iff.mp ho
          exact isSet_iff.mpr ⟨fun x hx => h1 x (List.mem_filter.mp hx).1, h2.filter _⟩
        · exact isSet_iff.mpr ⟨fun x hx => by rw [List.mem_singleton.mp hx]; omega, by simp⟩
        · rw [List.mem_singleton.mp hj] at hj2
          have := (List.mem_filter.mp hj2).2
          simp at this
      · rintro G2 ⟨ones, asked, hq, e3⟩
        subst e3
        exact sg_ret (x := dQ ones asked) (ev_tup (ea2 (ev_tupOf (es_own rfl)) (ev_tupOf (es_own rfl))) (by simp)) (hF _ _ hq)
end
end W3

namespace W3
open PySem PySem.Spec PyProof.Rows L2 Evl
local macro_rules | `(tactic| walk_at "ev") => `(tactic| first
  | ((with_reducible apply ev_var); exact rfl)
  | ((with_reducible apply es_own); exact rfl)
  | ((with_reducible apply el_own); exact rfl)
  | with_reducible exact ev_int
  | with_reducible exact ev_bl
  | with_reducible exact ev_str
  | with_reducible exact ev_non
  | with_reducible exact ea_nil
  | with_reducible exact et_yes
  | ((with_reducible apply ea_cons); walk_at "ev"; walk_at "ev")
  | ((with_reducible apply ev_add); walk_at "ev"; walk_at "ev")
  | ((with_reducible apply ev_sub); walk_at "ev"; walk_at "ev")
  | ((with_reducible apply ev_lt); walk_at "ev"; walk_at "ev")
  | ((with_reducible apply ev_le); walk_at "ev"; walk_at "ev")
  | ((with_reducible apply ev_gt); walk_at "ev"; walk_at "ev")
  | ((with_reducible apply ev_ge); walk_at "ev"; walk_at "ev")
  | ((with_reducible apply ev_in); walk_at "ev"; walk_at "ev")
  | ((with_reducible apply ev_ni); walk_at "ev"; walk_at "ev")
  | ((with_reducible apply ev_inLT); walk_at "ev"; walk_at "ev")
  | ((with_reducible apply ev_inL); walk_at "ev"; walk_at "ev")
  | ((with_reducible apply ev_niTT); walk_at "ev"; walk_at "ev")
  | ((with_reducible apply ev_eq); walk_at "ev"; walk_at "ev")
  | ((with_reducible apply ev_eqS); walk_at "ev"; walk_at "ev")
  | ((with_reducible apply ev_eqT); walk_at "ev"; walk_at "ev")
  | ((with_reducible apply ev_eqL); walk_at "ev"; walk_at "ev")
  | ((with_reducible apply ev_ne); walk_at "ev"; walk_at "ev")
  | ((with_reducible apply ev_neT); walk_at "ev"; walk_at "ev")
  | ((with_reducible apply ev_neL); walk_at "ev"; walk_at "ev")
  | ((with_reducible apply ev_neLT); walk_at "ev"; walk_at "ev")
  | ((with_reducible apply ev_neB); walk_at "ev"; walk_at "ev")
  | ((with_reducible apply ev_len); walk_at "ev")
  | ((with_reducible apply ev_tupOf); walk_at "ev")
  | ((with_reducible apply ev_intB); walk_at "ev")
  | ((with_reducible apply en_lstOf); walk_at "ev")
  | ((with_reducible apply et_test); walk_at "ev")
  | ((with_reducible apply et_B); walk_at "ev")
  | ((with_reducible apply et_not); walk_at "ev")
  | ((with_reducible apply EvD.sT); walk_at "ev")
  | ((with_reducible apply EvD.sL); walk_at "ev")
  | ((with_reducible apply EvD.l); walk_at "ev")
  | ((with_reducible apply EvN.s); walk_at "ev")
  | ((with_reducible apply EvN.d); walk_at "ev")
  | ((with_reducible apply EvN.l); walk_at "ev")
  | ((with_reducible apply et_and); walk_at "ev"; intro _; walk_at "ev")
  | ((with_reducible apply et_or); walk_at "ev"; intro _; walk_at "ev")
  | ((with_reducible apply ev_ixN (j := 0)); walk_at "ev"; exact ev_int; exact rfl)
  | ((with_reducible apply ev_ixN (j := 1)); walk_at "ev"; exact ev_int; exact rfl)
  | ((with_reducible apply ev_ixN (j := 2)); walk_at "ev"; exact ev_int; exact rfl)
  | ((with_reducible apply ev_mod); walk_at "ev"; walk_at "ev"; decide)
  | ((with_reducible apply ev_div); walk_at "ev"; walk_at "ev"; decide)
  | ((with_reducible apply ev_tup); walk_at "ev"; simp)
  | ((with_reducible apply en_lst); walk_at "ev"; simp))
local macro_rules | `(tactic| walk_at "wk") => `(tactic| first | exact Wk.nil | (refine Wk.cons (Wk1.rfl _) ?_; walk_at "wk") | (refine Wk.cons (Wk1.un _) ?_; walk_at "wk") | (refine Wk.cons (Wk1.fz _) ?_; walk_at "wk") | (refine Wk.cons (Wk1.lk _) ?_; walk_at "wk"))
/-! ### values that are one of some -/
def EvAP (T : Tx) (ta : TA) (G : List Sl) (FA : List Dt → Prop) : Prop :=
  ∀ (B : Base) (ad : Nat → Addr) (H : Hp) (s : L2.St), EnvOk T B ad H s G → ∀ Q : List V → Hp → Prop, (∀ vs H2 ds, Ex H H2 → RpAll T (wo H2 (own B G ad)) vs ds → FA ds → Q vs H2) → ta s H Q
def EvIP (T : Tx) (wi : TI) (G : List Sl) (F : List Dt → Prop) : Prop :=
  ∀ (B : Base) (ad : Nat → Addr) (H : Hp) (s : L2.St), EnvOk T B ad H s G → ∀ R : It → Hp → Prop, (∀ J H1 xs, Ex H H1 → F xs → WkOk T (B.at H1 G ad) J xs → R J H1) → wi s H R
section
variable {T : Tx} {G G0 G' : List Sl} {te ta tb : TE} {t : TA} {S : Spec} {E : XK} {x y : Dt} {ds : List Dt} {F F' F2 : Dt → Prop} {FA : List Dt → Prop} {P : Post} {tl u : TS} {g : TG} {wi : TI}
theorem eap_nil : EvAP T tNil G (fun ds => ds = []) := fun B ad H s I Q q => q [] H [] (Ex.refl H) .nil rfl
theorem eap_cons (ha : EvP T ta G F) (hr : EvAP T t G FA) : EvAP T (tCons ta t) G (fun ds => ∃ x r, ds = x :: r ∧ F x ∧ FA r) := fun B ad H s I Q q =>
  ha B ad H s I _ fun v H1 e1 ⟨x, hx, r1⟩ => hr B ad H1 s (I.mono e1) _ fun vs H2 r e2 r2 hr' => q _ H2 (x :: r) (e1.trans e2) (.cons (r1.mono (wo_mono e2)) r2) ⟨x, r, rfl, hx, hr'⟩
theorem eap1 (ha : EvP T ta G F) : EvAP T (tCons ta tNil) G (fun ds => ∃ x, ds = [x] ∧ F x) := fun B ad H s I Q q =>
  eap_cons ha eap_nil B ad H s I Q fun vs H2 ds e r ⟨x, r', e2, hx, e3⟩ => q vs H2 ds e r ⟨x, by rw [e2, e3], hx⟩
theorem eap2 (ha : EvP T ta G F) (hb : EvP T tb G F2) : EvAP T (tCons ta (tCons tb tNil)) G (fun ds => ∃ x y, ds = [x, y] ∧ F x ∧ F2 y) := fun B ad H s I Q q =>
  eap_cons ha (eap1 hb) B ad H s I Q fun vs H2 ds e r ⟨x, r', e2, hx, y, e3, hy⟩ => q vs H2 ds e r ⟨x, y, by rw [e2, e3], hx, hy⟩
theorem eap3 {tc : TE} {F3 : Dt → Prop} (ha : EvP T ta G F) (hb : EvP T tb G F2) (hc : EvP T tc G F3) : EvAP T (tCons ta (tCons tb (tCons tc tNil))) G (fun ds => ∃ x y z, ds = [x, y, z] ∧ F x ∧ F2 y ∧ F3 z) := fun B ad H s I Q q =>
  eap_cons ha (eap2 hb hc) B ad H s I Q fun vs H2 ds e r ⟨x, r', e2, hx, y, z, e3, hy, hz⟩ => q vs H2 ds e r ⟨x, y, z, by rw [e2, e3], hx, hy, hz⟩
theorem EvD.q (h : EvD T te G x) : EvP T te G (· = x) := h.p rfl
theorem ev_callAP (h : EvAP T t G FA) (hs : ∀ ds, FA ds → S ds F) : EvP T (tCall (spOf T S) [] E t) G F := fun B ad H s I Q q =>
  h B ad H s I _ fun vs H1 ds e r hf => ⟨own B G ad, ds, F, fun a ha => (I.mono e).mu ha, by rw [List.append_nil]; exact r, hs ds hf, fun v H2 x e2 r2 hx => q v H2 (e.trans e2) ⟨x, hx, r2⟩⟩
theorem ev_tupP (h : EvAP T t G FA) (hz : ∀ ds, FA ds → ds.length ≤ 100000) : EvP T (tTup t) G (fun x => ∃ ds, x = .tup ds ∧ FA ds) := fun B ad H s I Q q =>
  h B ad H s I _ fun vs H1 ds e1 r1 hf => ⟨sz_of (by rw [r1.length]; exact hz ds hf), fun p hp => q _ _ (e1.trans (Ex.new hp)) ⟨_, ⟨ds, rfl, hf⟩, .tup (by rw [wo_at ((I.mono e1).new hp)]; exact upd_same) (r1.mono (wo_mono (Ex.new hp)))⟩⟩
theorem sq_asgPB (h : EvP T te G F) (k : ∀ x, F x → ∃ js G1, Bd T g js x G G1 ∧ SG T u G1 P) : SG T (tSeq (tAsg te g) u) G P := fun B ad H s D I nx rt bk ct =>
  h B ad H s I _ fun v H1 e ⟨x, hx, r⟩ => by
    obtain ⟨js, G1, hb, hu⟩ := k x hx
    exact hb B ad H1 s v (I.mono e) r _ fun s' I' _ _ => hu B ad H1 s' D I' nx rt bk ct
theorem sg_appP {i : Nat} (hi : G[i]? = some (.own (.lst ds))) (h : EvP T te G F) (hz : ds.length < 100000) (k : ∀ x, F x → P.nx (G.set i (.own (.lst (ds ++ [x]))))) : SG T (tDrop (tBM T.K "list" rAppend (tVar i) (tCons te tNil))) G P := fun B ad H s D I nx rt bk ct => by
  obtain ⟨e, g2, g3, vs, g4, g5⟩ := I.ow i _ hi
  refine ⟨_, e, .inl ⟨rfl, vs, SqL.of g4⟩, h B ad H s I _ fun v H1 e1 ⟨x, hx, r⟩ => ⟨ad i, vs, v, rfl, rfl, e1 _ _ g4, sz_lt (by rw [g5.length]; exact hz), ?_⟩⟩
  exact nx _ ad _ s ((I.mono e1).put hi (c' := .lst (ds ++ [x])) ⟨_, rfl, (g5.mono (wo_mono e1)).append (.cons r .nil)⟩) (k x hx)
theorem sq_appP {i : Nat} (hi : G[i]? = some (.own (.lst ds))) (h : EvP T te G F) (hz : ds.length < 100000) (k : ∀ x, F x → SG T u (G.set i (.own (.lst (ds ++ [x])))) P) : SG T (tSeq (tDrop (tBM T.K "list" rAppend (tVar i) (tCons te tNil))) u) G P :=
  sg_seq (fun G' => ∃ x, F x ∧ G' = G.set i (.own (.lst (ds ++ [x])))) (sg_appP hi h hz fun x hx => ⟨x, hx, rfl⟩) fun G' ⟨x, hx, e⟩ => e ▸ k x hx
theorem ei_lstP {α : Type} {enc : α → Dt} {FL : List α → Prop} (h : EvP T te G fun x => ∃ ys, x = .lst (ys.map enc) ∧ FL ys) : EvIP T (iSeq T.K te) G (fun xs => ∃ ys, xs = ys.map enc ∧ FL ys) := fun B ad H s I R q => .inl (h B ad H s I _ fun v H1 e ⟨x, ⟨ys, ex, hf⟩, r⟩ => by
  subst ex
  have J := I.mono e
  have r : Rp T (wo H1 (own B G ad)) v _ := r
  rw [← at_wo] at r
  cases r with
  | @lst pa vs _ h1 a1 =>
    have h2 := wo_ex _ _ _ _ h1
    refine ⟨_, rfl, ⟨_, SqL.of (J.rebase.ex _ _ h2)⟩, q _ H1 _ e ⟨ys, rfl, hf⟩ ?_⟩
    have w := walk_list (K := T.K) (a := pa) (xs := vs)
    rw [WkOk, ← a1.length]
    exact w.mono (fun H' e' => SqL.of (e' _ _ h2)) fun i H' v H'' hi hG ⟨e1, e2⟩ => by
      subst e1
      obtain ⟨z, z1, z2⟩ := a1.getV e2
      exact ⟨Ex.refl _, z, z1, fun O ho _ => z2.mono ho⟩)
theorem sg_forP {α : Type} {enc : α → Dt} {FL : List α → Prop} (hi : EvIP T wi G (fun xs => ∃ ys, xs = ys.map enc ∧ FL ys)) (I : List α → List α → List Sl → Prop) (hw : Wk G G0) (h0 : ∀ ys, FL ys → I ys [] G0)
    (step : ∀ ys, FL ys → ∀ pre y post G', ys = pre ++ y :: post → I ys pre G' → ∃ js G1, Bd T g js (enc y) G' G1 ∧ SG T tl G1 ⟨fun G2 => ∃ G3, Wk G2 G3 ∧ I ys (pre ++ [y]) G3, P.rt, P.nx, fun G2 => ∃ G3, Wk G2 G3 ∧ I ys (pre ++ [y]) G3⟩)
    (hd : ∀ ys, FL ys → ∀ G', I ys ys G' → P.nx G') : SG T (tFor wi g tl) G P := fun B ad H s D I0 nx rt bk ct =>
  hi B ad H s I0 _ fun J H1 xs e ⟨ys, ex, hf⟩ wk => by
    subst ex
    exact for_core (P := P) (I0.mono e) wk (I ys) hw (h0 ys hf) (step ys hf) (hd ys hf) nx rt
theorem sq_forP {α : Type} {enc : α → Dt} {FL : List α → Prop} (hi : EvIP T wi G (fun xs => ∃ ys, xs = ys.map enc ∧ FL ys)) (I : List α → List α → List Sl → Prop) (hw : Wk G G0) (h0 : ∀ ys, FL ys → I ys [] G0)
    (step : ∀ ys, FL ys → ∀ pre y post G', ys = pre ++ y :: post → I ys pre G' → ∃ js G1, Bd T g js (enc y) G' G1 ∧ SG T tl G1 ⟨fun G2 => ∃ G3, Wk G2 G3 ∧ I ys (pre ++ [y]) G3, P.rt, fun G2 => ∃ ys, FL ys ∧ I ys ys G2, fun G2 => ∃ G3, Wk G2 G3 ∧ I ys (pre ++ [y]) G3⟩)
    (hd : ∀ ys, FL ys → ∀ G', I ys ys G' → SG T u G' P) : SG T (tSeq (tFor wi g tl) u) G P :=
  sg_seq (fun G' => ∃ ys, FL ys ∧ I ys ys G') (sg_forP (P := { P with nx := fun G' => ∃ ys, FL ys ∧ I ys ys G' }) hi I hw h0 step fun ys hf G' h => ⟨ys, hf, h⟩) fun G' ⟨ys, hf, h⟩ => hd ys hf G' h
/-- a list or a tuple of ints -/
def IsI (x : Dt) (ns : List Int) : Prop := x = dI ns ∨ x = lI ns
theorem es_any {i : Nat} {ns : List Int} (hx : IsI x ns) (h : G[i]? = some (.d x)) : EvS T (tVar i) G (ns.map .int) := by
  rcases hx with e | e
  · subst e; exact (ev_var h).sT
  · subst e; exact (ev_var h).sL
theorem ei_any {i : Nat} {ns : List Int} (hx : IsI x ns) (h : G[i]? = some (.d x)) : EvI T (iSeq T.K (tVar i)) G (ns.map .int) := by
  rcases hx with e | e
  · subst e; exact ei_tup (ev_var h)
  · subst e; exact ei_lst (ev_var h)
theorem ev_neg {i : Int} (h : EvD T te G (.int i)) : EvD T (tUn (rU fun i => .int (-i)) te) G (.int (-i)) := fun B ad H s I Q q => h B ad H s I _ fun v H1 e r => by
  cases r
  exact ⟨i, rfl, q _ H1 e (.int _)⟩
end
section
variable {P : Program} {w : World} {K : PySem.W.Frag} {mg : Str → Option Value} {base : Heap}
def sp_upper : Spec := fun ds F => ∃ n ts bs ns es, ds = [dSh n ts bs, lI ns, dI es] ∧ GS n ts bs ∧ isSet n es = true ∧ (∀ x ∈ ns, 0 ≤ x ∧ x < n) ∧ ∀ r, isSet n r = true → F (dI r)
theorem in_len {n : Int} {l : List Int} (h : l.Nodup) (h2 : ∀ x ∈ l, 0 ≤ x ∧ x < n) : l.length ≤ n.toNat := by
  rw [← rgI_len n]
  exact len_of_sub h fun x hx => rgI_mem.mpr (h2 x hx)
-- slots: 0 _law_shape, 1 _law_names, 2 _law_ends, 3 _law_got, 4 _law_turn, 5 _law_u, 6 _law_v, 7 _law_name
theorem ok_law_upper (S : Su K mg) : Good P w (tx K) mg base 1 (He.fAd K ("_law_upper", none)) ["_law_shape", "_law_names", "_law_ends"] sp_upper := by
  obtain ⟨fd, F⟩ := S.def_ 27 (d := d_law_upper)
  refine good_of F sc_law_upper (fun _ _ _ _ _ _ us hl => match us, hl with | [_, _, _], _ => rfl) ?len ?body
  case len => intro ds F ⟨_, _, _, _, _, e, _⟩; rw [e]; rfl
  case body =>
    intro cdv A outer s H E hr ds F ⟨n, ts, bs, ns, es, e, hg, hs, hns, hF⟩
    subst e
    have ls := set_len hs
    have n4 := hg.n4
    refine ⟨_, (pss_cons (ps_setLc (i := 3) (own := [("_law_name", 7)]) rfl sc_law_upper.nd rfl rfl (sw_true rfl rfl rfl (by decide +kernel)) (pi_seq (pv 2)) (blkOk_by (own := [("_law_name", 7)]) (N := N_law_upper) (sc := defScope (top 37)) (by decide +kernel)) (fun _ _ _ _ _ => (pg_name (i := 7) sc_law_upper.nd rfl (by first | exact Or.inl rfl | exact Or.inr rfl))) (fun _ _ _ _ _ => pts_nil) (fun _ _ _ _ _ => (pv 7)))
    (pss_cons (ps_for PassesOwn.never rfl (pi_seq (pv 1)) (pg_name (i := 4) sc_law_upper.nd rfl (Or.inl rfl)) (pss_one (ps_for PassesOwn.never rfl (pi_seq (pe_ix (ix_seqK (K := K)) (pv 0) pe_int (fun _ _ => rfl))) (pg_seqK (K := K) (n := 2) rfl (pgs_cons (pg_name (i := 5) sc_law_upper.nd rfl (Or.inl rfl)) (pgs_cons (pg_name (i := 6) sc_law_upper.nd rfl (Or.inl rfl)) pgs_nil))) (pss_one (ps_if (PW.pt (pw_and (pt_cmpR (op_inK (K := K) hr) (pv 6) (pv 3) (by rfl)) (pw_and (pt_cmpR (op_inK (K := K) hr) (pv 5) (pv 1) (by rfl)) (pw_and1 (pt_cmpR (op_niK (K := K) hr) (pv 5) (pv 3) (by rfl)))))) (pss_one (ps_expr (pe_bm PySem.F.plainAttrs_list PySem.F.slot_list_append PySem.F.type_list_append mt_append (pv 3) (pa_cons (pv 5) pa_nil)))) pss_nil)))))
    (pss_one (ps_ret (pe_callTy call_tupX (by rfl) (S.free 46) (by decide +kernel) (pa_cons (pe_callB (call_sortX hr) (by rfl) (S.free 45) (by decide +kernel) (pa_cons (pv 3) pa_nil)) pa_nil)))))), ?_⟩
    refine sq_asgN (en_lc1 (ys := es) (enc := .int) (fun _ => true) .int (ei_tup (ev_var rfl)).j (by omega) rfl fun y hy => ⟨et_yes, fun _ => by walk_at "ev"⟩) (lt_of_some rfl) ?_
    rw [filter_all]
    refine sq_for (ys := ns) (enc := .int) (ei_lst (ev_var rfl)) (fun pre G' => ∃ got : List Int, got.Nodup ∧ (∀ x ∈ got, 0 ≤ x ∧ x < n) ∧ G' = [.d (dSh n ts bs), .d (lI ns), .d (dI es), .own (.lst (got.map .int)), .un, .un, .un, .un]) (Wk.refl _) ⟨es, nd_rise (isSet_iff.mp hs).2, (isSet_iff.mp hs).1, rfl⟩ ?_ ?_
    · rintro pre j post G' e ⟨got, h1, h2, e2⟩
      subst e2
      refine ⟨_, _, bd_name, ?_⟩
      refine sg_for (ys := ts) (enc := dP) (ei_lst (by walk_at "ev")) (fun pre G' => ∃ got : List Int, got.Nodup ∧ (∀ x ∈ got, 0 ≤ x ∧ x < n) ∧ G' = [.d (dSh n ts bs), .d (lI ns), .d (dI es), .own (.lst (got.map .int)), .un, .un, .un, .un]) (by walk_at "wk") ⟨got, h1, h2, rfl⟩ ?_ ?_
      · rintro pre2 p post2 G' e' ⟨got, h1, h2, e2⟩
        subst e2
        have lg := in_len h1 h2
        refine ⟨_, _, bd_2T, ?_⟩
        refine sg_if (b := decide (p.2 ∈ got) && (decide (p.1 ∈ ns) && !decide (p.1 ∈ got))) (by walk_at "ev") (fun h => ?_) fun h => ?_
        · simp only [Bool.and_eq_true, decide_eq_true_eq, Bool.not_eq_true', decide_eq_false_iff_not] at h
          refine sg_app (x := .int p.1) rfl (ev_var rfl) (by rw [List.length_map]; omega) ⟨_, ?wk, got ++ [p.1], List.nodup_append.mpr ⟨h1, by simp, fun x hx y hy e => h.2.2 (by rw [List.mem_singleton.mp hy] at e; rw [← e]; exact hx)⟩, fun x hx => ?_, by rw [List.map_append]; try rfl⟩
          case wk => walk_at "wk"
          rcases List.mem_append.mp hx with hx | hx
          · exact h2 x hx
          · rw [List.mem_singleton.mp hx]; exact hns _ h.2.1
        · refine sg_next ⟨_, ?wk, got, h1, h2, rfl⟩
          case wk => walk_at "wk"
      · rintro G' ⟨got, h1, h2, e2⟩
        exact ⟨G', Wk.refl _, got, h1, h2, e2⟩
    · rintro G' ⟨got, h1, h2, e2⟩
      subst e2
      exact sg_ret (ev_tupOf (en_sortI (es_own rfl)).s) (hF (sortI got) (isSet_iff.mpr ⟨fun x hx => h2 x (mem_sortI.mp hx), rise_sort h1⟩))
/-! lumps -/
structure LG (n : Int) (ns : List Int) (L : List (List Int)) : Prop where
  set : ∀ l ∈ L, isSet n l = true
  ne : ∀ l ∈ L, l ≠ []
  sub : ∀ l ∈ L, ∀ x ∈ l, x ∈ ns
def sp_lawlumps : Spec := fun ds F => ∃ n ts bs ns x, ds = [dSh n ts bs, x] ∧ IsI x ns ∧ GS n ts bs ∧ isSet n ns = true ∧ ∀ L, LG n ns L → L.length ≤ 4 → F (lTI L)
-- slots: 0 _law_shape, 1 _law_names, 2 _law_lumps_here, 3 _law_left, 4 _law_lump*, 5 _law_turn, 6 _law_u, 7 _law_v, 8 _law_name
theorem ok_law_lumps (S : Su K mg) : Good P w (tx K) mg base 1 (He.fAd K ("_law_lumps", none)) ["_law_shape", "_law_names"] sp_lawlumps := by
  obtain ⟨fd, F⟩ := S.def_ 28 (d := d_law_lumps)
  refine good_of F sc_law_lumps (fun _ _ _ _ _ _ us hl => match us, hl with | [_, _], _ => rfl) ?len ?body
  case len => intro ds F ⟨_, _, _, _, _, e, _⟩; rw [e]; rfl
  case body =>
    intro cdv A outer s H E hr ds F ⟨n, ts, bs, ns, x, e, hx, hg, hs, hF⟩
    subst e
    have ls := set_len hs
    have n4 := hg.n4
    have hin := (isSet_iff.mp hs).1
    refine ⟨_, (pss_cons (ps_set (i := 2) sc_law_lumps.nd rfl (Or.inl rfl) (pe_lst pa_nil))
    (pss_cons (ps_set (i := 3) sc_law_lumps.nd rfl (Or.inl rfl) (pe_callTy call_lstX (by rfl) (S.free 47) (by decide +kernel) (pa_cons (pv 1) pa_nil)))
    (pss_cons (ps_while PassesOwn.never (pt_cmpR op_gtX (pe_callB (call_lenK (K := K)) (by rfl) (S.free 43) PySem.boot_len (pa_cons (pv 3) pa_nil)) pe_int (nomark _)) (pss_cons (ps_set (i := 4) sc_law_lumps.nd rfl (Or.inr rfl) (pe_lst (pa_cons (pe_ix (ix_seqK (K := K)) (pv 3) pe_int (fun _ _ => rfl)) pa_nil)))
    (pss_cons (ps_for PassesOwn.never rfl (pi_seq (pv 1)) (pg_name (i := 5) sc_law_lumps.nd rfl (Or.inl rfl)) (pss_one (ps_for PassesOwn.never rfl (pi_seq (pe_ix (ix_seqK (K := K)) (pv 0) pe_int (fun _ _ => rfl))) (pg_seqK (K := K) (n := 2) rfl (pgs_cons (pg_name (i := 6) sc_law_lumps.nd rfl (Or.inl rfl)) (pgs_cons (pg_name (i := 7) sc_law_lumps.nd rfl (Or.inl rfl)) pgs_nil))) (pss_one (ps_if (PW.pt (pw_and (pt_cmpR (op_inK (K := K) hr) (pv 6) (pv 1) (by rfl)) (pw_and (pt_cmpR (op_inK (K := K) hr) (pv 7) (pv 1) (by rfl)) (pw_and1 (pt_cmpR (op_neK (K := K) hr) (pe_cmpR (op_inK (K := K) hr) (pv 6) (pv 4) (by rfl)) (pe_cmpR (op_inK (K := K) hr) (pv 7) (pv 4) (by rfl)) (nomark _)))))) (pss_one (ps_expr (pe_bm PySem.F.plainAttrs_list PySem.F.slot_list_append PySem.F.type_list_append mt_append (pv 4) (pa_cons (pe_ix (ix_seqK (K := K)) (pe_lst (pa_cons (pv 6) (pa_cons (pv 7) pa_nil))) (pe_callTy call_intX (by rfl) (S.free 50) (by decide +kernel) (pa_cons (pe_cmpR (op_inK (K := K) hr) (pv 6) (pv 4) (by rfl)) pa_nil)) (fun _ _ => rfl)) pa_nil)))) pss_nil)))))
    (pss_cons (ps_expr (pe_bm PySem.F.plainAttrs_list PySem.F.slot_list_append PySem.F.type_list_append mt_append (pv 2) (pa_cons (pe_callTy call_tupX (by rfl) (S.free 46) (by decide +kernel) (pa_cons (pe_callB (call_sortX hr) (by rfl) (S.free 45) (by decide +kernel) (pa_cons (pv 4) pa_nil)) pa_nil)) pa_nil)))
    (pss_one (ps_setLc (i := 3) (own := [("_law_name", 8)]) rfl sc_law_lumps.nd rfl rfl (sw_true rfl rfl rfl (by decide +kernel)) (pi_seq (pv 3)) (blkOk_by (own := [("_law_name", 8)]) (N := N_law_lumps) (sc := defScope (top 38)) (by decide +kernel)) (fun _ _ _ _ _ => (pg_name (i := 8) sc_law_lumps.nd rfl (by first | exact Or.inl rfl | exact Or.inr rfl))) (fun _ _ _ _ _ => (pts_one (pt_cmpR (op_niK (K := K) hr) (pv 8) (pv 4) (by rfl)))) (fun _ _ _ _ _ => (pv 8))))))))
    (pss_one (ps_ret (pv 2)))))), ?_⟩
    refine sq_asgN (en_lst ea_nil (by simp)) (lt_of_some rfl) ?_
    refine sq_asgN (en_lstOf (es_any hx rfl)) (lt_of_some rfl) ?_
    refine sq_while (fun m G' => ∃ (L : List (List Int)) (left : List Int), LG n ns L ∧ (∀ y ∈ left, y ∈ ns) ∧ left.length = m ∧ L.length + m ≤ ns.length ∧ G' = [.d (dSh n ts bs), .d x, .own (.lst (L.map dI)), .own (.lst (left.map .int)), .un, .un, .un, .un, .un])
      (fun G' => ∃ L : List (List Int), LG n ns L ∧ L.length ≤ 4 ∧ G'[2]? = some (.own (.lst (L.map dI))) ∧ ∃ a b c d e f g h, G' = [a, b, .own (.lst (L.map dI)), c, d, e, f, g, h]) ns.length (Wk.refl _) ⟨[], ns, ⟨fun _ h => (nomatch h), fun _ h => (nomatch h), fun _ h => (nomatch h)⟩, fun y hy => hy, rfl, by simp, rfl⟩ ?_ ?_
    · rintro m G' ⟨L, left, hL, hl, em, hm, e2⟩
      subst e2
      refine ⟨decide ((0 : Int) < ((left.map Dt.int).length : Nat)), et_test (ev_gt (ev_len (es_own rfl)) ev_int), fun h => ?_, fun h => ?_⟩
      · have h0 := of_decide_eq_true h
        rw [List.length_map] at h0
        obtain ⟨a, rest, el⟩ := List.exists_cons_of_ne_nil (show left ≠ [] from fun z => by rw [z] at h0; simp at h0)
        subst el
        refine sq_asgN (ds := [a].map .int) (en_lst (ea1 (ev_ixN (j := 0) (es_own rfl) ev_int rfl)) (by simp)) (lt_of_some rfl) ?_
        have inv : ∀ (lump : List Int), lump.Nodup ∧ (∀ y ∈ lump, y ∈ ns) ∧ a ∈ lump → lump.length ≤ 4 := fun lump hh => by
          have := in_len hh.1 fun y hy => hin y (hh.2.1 y hy)
          omega
        refine sq_for (ys := ns) (enc := .int) (ei_any hx rfl) (fun pre G' => ∃ lump : List Int, (lump.Nodup ∧ (∀ y ∈ lump, y ∈ ns) ∧ a ∈ lump) ∧ G' = [.d (dSh n ts bs), .d x, .own (.lst (L.map dI)), .own (.lst ((a :: rest).map .int)), .own (.lst (lump.map .int)), .un, .un, .un, .un]) (Wk.refl _)
          ⟨[a], ⟨by simp, fun y hy => by rw [List.mem_singleton.mp hy]; exact hl a List.mem_cons_self, List.mem_singleton.mpr rfl⟩, rfl⟩ ?_ ?_
        · rintro pre j post G' e ⟨lump, hq, e2⟩
          subst e2
          refine ⟨_, _, bd_name, ?_⟩
          refine sg_for (ys := bs) (enc := dP) (ei_lst (by walk_at "ev")) (fun pre G' => ∃ lump : List Int, (lump.Nodup ∧ (∀ y ∈ lump, y ∈ ns) ∧ a ∈ lump) ∧ G' = [.d (dSh n ts bs), .d x, .own (.lst (L.map dI)), .own (.lst ((a :: rest).map .int)), .own (.lst (lump.map .int)), .un, .un, .un, .un]) (by walk_at "wk") ⟨lump, hq, rfl⟩ ?_ ?_
          · rintro pre2 p post2 G' e' ⟨lump, hq, e2⟩
            subst e2
            have l4 := inv lump hq
            refine ⟨_, _, bd_2T, ?_⟩
            refine sg_if (b := decide (p.1 ∈ ns) && (decide (p.2 ∈ ns) && !decide (decide (p.1 ∈ lump) = decide (p.2 ∈ lump)))) (et_and (et_test (ev_in (ev_var rfl) (es_any hx rfl))) fun _ => et_and (et_test (ev_in (ev_var rfl) (es_any hx rfl))) fun _ => et_test (ev_neB (ev_in (ev_var rfl) (es_own rfl)) (ev_in (ev_var rfl) (es_own rfl)))) (fun h => ?_) fun h => ?_
            · simp only [Bool.and_eq_true, decide_eq_true_eq, Bool.not_eq_true', decide_eq_false_iff_not] at h
              obtain ⟨c1, c2, c3⟩ := h
              have hw : ∃ y, atI [Dt.int p.1, Dt.int p.2] (if decide (p.1 ∈ lump) = true then 1 else 0) = some (.int y) ∧ y ∉ lump ∧ y ∈ ns := by
                by_cases q : p.1 ∈ lump
                · rw [if_pos (by simpa using q)]
                  exact ⟨p.2, rfl, fun z => c3 (by simp [q, z]), c2⟩
                · rw [if_neg (by simpa using q)]
                  exact ⟨p.1, rfl, q, c1⟩
              obtain ⟨y, hy, ny, yn⟩ := hw
              refine sg_app (x := .int y) rfl (ev_ix (EvN.s (en_lst (ea2 (ev_var rfl) (ev_var rfl)) (by simp))) (ev_intB (ev_in (ev_var rfl) (es_own rfl))) hy) (by rw [List.length_map]; omega) ⟨_, ?wk, lump ++ [y], ⟨List.nodup_append.mpr ⟨hq.1, by simp, fun z hz z2 hz2 e => ny (by rw [List.mem_singleton.mp hz2] at e; rw [← e]; exact hz)⟩, fun z hz => ?_, List.mem_append_left _ hq.2.2⟩, by rw [List.map_append]; try rfl⟩
              case wk => walk_at "wk"
              rcases List.mem_append.mp hz with hz | hz
              · exact hq.2.1 z hz
              · rw [List.mem_singleton.mp hz]; exact yn
            · refine sg_next ⟨_, ?wk, lump, hq, rfl⟩
              case wk => walk_at "wk"
          · rintro G' ⟨lump, hq, e2⟩
            exact ⟨G', Wk.refl _, lump, hq, e2⟩
        · rintro G' ⟨lump, hq, e2⟩
          subst e2
          have l4 := inv lump hq
          refine sq_app (x := dI (sortI lump)) rfl (ev_tupOf (en_sortI (es_own rfl)).s) (by rw [List.length_map]; omega) ?_
          have lr : ((a :: rest).filter fun j => !decide (j ∈ lump)).length < m := by
            rw [List.filter_cons, if_neg (by simp [hq.2.2])]
            have := List.length_filter_le (fun j => !decide (j ∈ lump)) rest
            simp at em
            omega
          refine sg_asgN (en_lc1 (ys := a :: rest) (enc := .int) (fun j => !decide (j ∈ lump)) .int (ej_own rfl) (by omega) rfl fun y hy => ⟨et_test (ev_ni (ev_var rfl) (es_own rfl)), fun _ => by walk_at "ev"⟩) (lt_of_some rfl) ⟨_, _, ?wk, lr, L ++ [sortI lump], (a :: rest).filter (fun j => !decide (j ∈ lump)), ⟨fun l hl' => ?_, fun l hl' => ?_, fun l hl' => ?_⟩, fun y hy => hl y (List.mem_filter.mp hy).1, rfl, by rw [List.length_append]; simp; omega, by rw [List.map_append]; try rfl⟩
          case wk => walk_at "wk"
          · rcases List.mem_append.mp hl' with hl' | hl'
            · exact hL.set l hl'
            · rw [List.mem_singleton.mp hl']
              exact isSet_iff.mpr ⟨fun y hy => hin y (hq.2.1 y (mem_sortI.mp hy)), rise_sort hq.1⟩
          · rcases List.mem_append.mp hl' with hl' | hl'
            · exact hL.ne l hl'
            · rw [List.mem_singleton.mp hl']
              intro z
              have := mem_sortI.mpr hq.2.2
              rw [z] at this
              cases this
          · rcases List.mem_append.mp hl' with hl' | hl'
            · exact hL.sub l hl'
            · rw [List.mem_singleton.mp hl']
              exact fun y hy => hq.2.1 y (mem_sortI.mp hy)
      · exact ⟨L, hL, by omega, rfl, _, _, _, _, _, _, _, _, rfl⟩
    · rintro G' ⟨L, hL, h4, hi, a, b, c, d, e, f, g, h, e2⟩
      subst e2
      refine sg_wk (G' := [.un, .un, .d (lTI L), .un, .un, .un, .un, .un, .un]) (.cons (.un _) (.cons (.un _) (.cons (.fz _) (.cons (.un _) (.cons (.un _) (.cons (.un _) (.cons (.un _) (.cons (.un _) (.cons (.un _) .nil))))))))) ?_
      exact sg_ret (x := lTI L) (ev_var rfl) (hF L hL h4)
def sp_lawwanted : Spec := fun ds F => ∃ n ts bs ones asked, ds = [dSh n ts bs, dQ ones asked] ∧ GS n ts bs ∧ GQ n ones asked ∧ ∀ r, isSet n r = true → F (dI r)
-- slots: 0 _law_shape, 1 _law_question_here*, 2 _law_names, 3 _law_name
theorem ok_law_wanted (S : Su K mg) : Good P w (tx K) mg base 2 (He.fAd K ("_law_wanted", none)) ["_law_shape", "_law_question_here"] sp_lawwanted := by
  obtain ⟨fd, F⟩ := S.def_ 29 (d := d_law_wanted)
  have g_law_upper := ok_law_upper (P := P) (w := w) (base := base) S
  refine good_of F sc_law_wanted (fun _ _ _ _ _ _ us hl => match us, hl with | [_, _], _ => rfl) ?len ?body
  case len => intro ds F ⟨_, _, _, _, _, e, _⟩; rw [e]; rfl
  case body =>
    intro cdv A outer s H E hr ds F ⟨n, ts, bs, ones, asked, e, hg, hq, hF⟩
    subst e
    have n4 := hg.n4
    have n1 := hg.n1
    have lr : (rgI n).length ≤ 1000 := by rw [rgI_len]; omega
    refine ⟨_, (pss_cons (ps_setLc (i := 2) (own := [("_law_name", 3)]) rfl sc_law_wanted.nd rfl rfl (sw_true rfl rfl rfl (by decide +kernel)) (pi_range1 (by rfl) (S.free 44) (pa_cons (pe_ix (ix_seqK (K := K)) (pv 0) pe_int (fun _ _ => rfl)) pa_nil)) (blkOk_by (own := [("_law_name", 3)]) (N := N_law_wanted) (sc := defScope (top 39)) (by decide +kernel)) (fun _ _ _ _ _ => (pg_name (i := 3) sc_law_wanted.nd rfl (by first | exact Or.inl rfl | exact Or.inr rfl))) (fun _ _ _ _ _ => (pts_one (pt_cmpR (op_niK (K := K) hr) (pv 3) (pe_ix (ix_seqK (K := K)) (pv 1) pe_int (fun _ _ => rfl)) (by rfl)))) (fun _ _ _ _ _ => (pv 3)))
    (pss_one (ps_ret (pe_callG (T := tx K) g_law_upper (hr.mono (by decide)) (by rfl) (S.glo 22) (pa_cons (pv 0) (pa_cons (pv 2) (pa_cons (pe_ix (ix_seqK (K := K)) (pv 1) pe_int (fun _ _ => rfl)) pa_nil))))))), ?_⟩
    refine sq_asgN (en_lc1 (ys := rgI n) (enc := .int) (fun j => !decide (j ∈ ones)) .int (EvI.as (ei_rng (ea1 (ev_ixN (j := 0) (EvD.sL (ev_var rfl)) ev_int rfl)) (by omega) (by omega)) (rgD_rgI n)).j (by omega) rfl fun y hy => ⟨et_test (ev_ni (ev_var rfl) (EvD.sT (ev_ixN (j := 0) (x := dI ones) (EvD.sT (ev_var rfl)) ev_int rfl))), fun _ => by walk_at "ev"⟩) (lt_of_some rfl) ?_
    refine sg_wk (G' := [.d (dSh n ts bs), .d (dQ ones asked), .d (lI (woF (rgI n) ones)), .un]) (by walk_at "wk") ?_
    exact sg_retP (ev_call (T := tx K) (F := F) (ea_cons (ev_var rfl) (ea2 (ev_var rfl) (ev_ixN (j := 1) (x := dI asked) (EvD.sT (ev_var rfl)) ev_int rfl))) ⟨n, ts, bs, _, asked, rfl, hg, hq.sa, fun x hx => rgI_mem.mp (wo_mem.mp hx).1, hF⟩) fun x hx => hx
def sp_lawlumpwith : Spec := fun ds F => ∃ n ts bs ns inner x, ds = [dSh n ts bs, x, dI inner] ∧ IsI x ns ∧ GS n ts bs ∧ isSet n ns = true ∧ inner ≠ [] ∧ ∀ r, isSet n r = true → (∀ y ∈ r, y ∈ ns) → F (dI r)
-- slots: 0 _law_shape, 1 _law_names, 2 _law_inner, 3 _law_lump
theorem ok_law_lump_with (S : Su K mg) : Good P w (tx K) mg base 2 (He.fAd K ("_law_lump_with", none)) ["_law_shape", "_law_names", "_law_inner"] sp_lawlumpwith := by
  obtain ⟨fd, F⟩ := S.def_ 30 (d := d_law_lump_with)
  have g_law_lumps := ok_law_lumps (P := P) (w := w) (base := base) S
  refine good_of F sc_law_lump_with (fun _ _ _ _ _ _ us hl => match us, hl with | [_, _, _], _ => rfl) ?len ?body
  case len => intro ds F ⟨_, _, _, _, _, _, e, _⟩; rw [e]; rfl
  case body =>
    intro cdv A outer s H E hr ds F ⟨n, ts, bs, ns, inner, x, e, hx, hg, hs, hi, hF⟩
    subst e
    refine ⟨_, (pss_cons (ps_for PassesOwn.never rfl (pi_seq (pe_callG (T := tx K) g_law_lumps (hr.mono (by decide)) (by rfl) (S.glo 23) (pa_cons (pv 0) (pa_cons (pv 1) pa_nil)))) (pg_name (i := 3) sc_law_lump_with.nd rfl (Or.inl rfl)) (pss_one (ps_if (pt_cmpR (op_inK (K := K) hr) (pe_ix (ix_seqK (K := K)) (pv 2) pe_int (fun _ _ => rfl)) (pv 3) (by rfl)) (pss_one (ps_ret (pv 3))) pss_nil)))
    (pss_one (ps_ret (pe_tup pa_nil)))), ?_⟩
    refine sq_forP (enc := dI) (FL := fun L => LG n ns L) (ei_lstP (ev_call (T := tx K) (ea2 (ev_var rfl) (ev_var rfl)) ⟨n, ts, bs, ns, x, rfl, hx, hg, hs, fun L hL _ => ⟨L, rfl, hL⟩⟩)) (fun ys pre G' => G' = [.d (dSh n ts bs), .d x, .d (dI inner), .un]) (Wk.refl _) (fun _ _ => rfl) ?_ ?_
    · intro L hL pre l post G' e e2
      subst e2
      refine ⟨_, _, bd_name, ?_⟩
      refine sg_if (b := decide (inner.getD 0 0 ∈ l)) (et_test (ev_in (ev_ixI (k := 0) (ev_var rfl).sT ev_int (List.length_pos_iff.mpr hi)) (EvD.sT (ev_var rfl)))) (fun h => ?_) fun h => ?_
      · exact sg_ret (x := dI l) (ev_var rfl) (hF l (hL.set l (mem_mid e)) (hL.sub l (mem_mid e)))
      · exact sg_next ⟨[.d (dSh n ts bs), .d x, .d (dI inner), .un], by walk_at "wk", rfl⟩
    · intro L hL G' e2
      subst e2
      exact sg_ret (x := dI []) (ev_tup ea_nil (by simp)) (hF [] rfl fun y hy => nomatch hy)
def sp_lawisset : Spec := fun ds F => ∃ n ts bs ns, ds = [dSh n ts bs, dI ns] ∧ ns.length ≤ 1000 ∧ F (.bl (isSet n ns))
-- slots: 0 _law_shape, 1 _law_names, 2 _law_k
theorem ok_law_is_set (S : Su K mg) : Good P w (tx K) mg base 1 (He.fAd K ("_law_is_set", none)) ["_law_shape", "_law_names"] sp_lawisset := by
  obtain ⟨fd, F⟩ := S.def_ 31 (d := d_law_is_set)
  refine good_of F sc_law_is_set (fun _ _ _ _ _ _ us hl => match us, hl with | [_, _], _ => rfl) ?len ?body
  case len => intro ds F ⟨_, _, _, _, e, _⟩; rw [e]; rfl
  case body =>
    intro cdv A outer s H E hr ds F ⟨n, ts, bs, ns, e, hz, hF⟩
    subst e
    refine ⟨_, (pss_cons (ps_for PassesOwn.never rfl (pi_range1 (by rfl) (S.free 44) (pa_cons (pe_callB (call_lenK (K := K)) (by rfl) (S.free 43) PySem.boot_len (pa_cons (pv 1) pa_nil)) pa_nil)) (pg_name (i := 2) sc_law_is_set.nd rfl (Or.inl rfl)) (pss_one (ps_if (PW.pt (pw_or (pt_cmpR op_ltX (pe_ix (ix_seqK (K := K)) (pv 1) (pv 2) (fun _ _ => rfl)) pe_int (nomark _)) (pw_or (pt_cmpR op_geX (pe_ix (ix_seqK (K := K)) (pv 1) (pv 2) (fun _ _ => rfl)) (pe_ix (ix_seqK (K := K)) (pv 0) pe_int (fun _ _ => rfl)) (nomark _)) (pw_or1 (PW.pt (pw_and (pt_cmpR op_gtX (pv 2) pe_int (nomark _)) (pw_and1 (pt_cmpR op_leX (pe_ix (ix_seqK (K := K)) (pv 1) (pv 2) (fun _ _ => rfl)) (pe_ix (ix_seqK (K := K)) (pv 1) (pe_op op_subX (pv 2) pe_int) (fun _ _ => rfl)) (nomark _))))))))) (pss_one (ps_ret pe_bl)) pss_nil)))
    (pss_one (ps_ret pe_bl))), ?_⟩
    refine sq_for (ys := List.range ns.length) (enc := fun i => .int (i : Nat)) (ei_rngN (ea1 (ev_len (ev_var rfl).sT |>.as (by rw [List.length_map]))) (by omega))
      (fun pre G' => G' = [.d (dSh n ts bs), .d (dI ns), .un] ∧ pre.all (okAt n ns) = true) (Wk.refl _) ⟨rfl, rfl⟩ ?_ ?_
    · intro pre k post G' e ⟨e2, hp⟩
      subst e2
      have hk := rg_mid e
      refine ⟨_, _, bd_name, ?_⟩
      refine sg_if (b := !okAt n ns k) ((et_or (et_test (ev_lt (ev_ixI (ev_var rfl).sT (ev_var rfl) hk) ev_int)) fun _ => et_or (et_test (ev_ge (ev_ixI (ev_var rfl).sT (ev_var rfl) hk) (ev_ixN (j := 0) (x := .int n) (EvD.sL (ev_var rfl)) ev_int rfl))) fun _ =>
        et_and (et_test (ev_gt (ev_var rfl) ev_int)) fun h0 => et_test (ev_le (ev_ixI (ev_var rfl).sT (ev_var rfl) hk) (ev_ixI (k := k - 1) (ev_var rfl).sT ((ev_sub (ev_var rfl) ev_int).as ?_) ?_))).as ?_) (fun hb => ?_) (fun hb => ?_)
      · have := of_decide_eq_true h0
        congr 1
        omega
      · omega
      · show _ = !!_
        rw [Bool.not_not]
      · refine sg_ret ev_bl ?_
        show F (.bl false)
        have : isSet n ns = false := by
          rw [Bool.not_eq_true'] at hb
          unfold isSet
          rw [e, List.all_append, List.all_cons, hb, Bool.false_and, Bool.and_false]
        rw [this] at hF
        exact hF
      · refine sg_next ⟨_, .cons (.rfl _) (.cons (.rfl _) (.cons (.un _) .nil)), rfl, ?_⟩
        rw [Bool.not_eq_false'] at hb
        rw [List.all_append, hp, List.all_cons, hb]
        rfl
    · intro G' ⟨e2, hp⟩
      subst e2
      exact sg_ret ev_bl (by
        show F (.bl true)
        have : isSet n ns = true := hp
        rw [this] at hF
        exact hF)
end
end W3

namespace W3
open PySem PySem.Spec PyProof.Rows L2 Evl
local macro_rules | `(tactic| walk_at "ev") => `(tactic| first
  | ((with_reducible apply ev_var); exact rfl)
  | ((with_reducible apply es_own); exact rfl)
  | ((with_reducible apply el_own); exact rfl)
  | with_reducible exact ev_int
  | with_reducible exact ev_bl
  | with_reducible exact ev_str
  | with_reducible exact ev_non
  | with_reducible exact ea_nil
  | with_reducible exact et_yes
  | ((with_reducible apply ea_cons); walk_at "ev"; walk_at "ev")
  | ((with_reducible apply ev_add); walk_at "ev"; walk_at "ev")
  | ((with_reducible apply ev_sub); walk_at "ev"; walk_at "ev")
  | ((with_reducible apply ev_lt); walk_at "ev"; walk_at "ev")
  | ((with_reducible apply ev_le); walk_at "ev"; walk_at "ev")
  | ((with_reducible apply ev_gt); walk_at "ev"; walk_at "ev")
  | ((with_reducible apply ev_ge); walk_at "ev"; walk_at "ev")
  | ((with_reducible apply ev_in); walk_at "ev"; walk_at "ev")
  | ((with_reducible apply ev_ni); walk_at "ev"; walk_at "ev")
  | ((with_reducible apply ev_inLT); walk_at "ev"; walk_at "ev")
  | ((with_reducible apply ev_inL); walk_at "ev"; walk_at "ev")
  | ((with_reducible apply ev_niTT); walk_at "ev"; walk_at "ev")
  | ((with_reducible apply ev_eq); walk_at "ev"; walk_at "ev")
  | ((with_reducible apply ev_eqS); walk_at "ev"; walk_at "ev")
  | ((with_reducible apply ev_eqT); walk_at "ev"; walk_at "ev")
  | ((with_reducible apply ev_eqL); walk_at "ev"; walk_at "ev")
  | ((with_reducible apply ev_ne); walk_at "ev"; walk_at "ev")
  | ((with_reducible apply ev_neT); walk_at "ev"; walk_at "ev")
  | ((with_reducible apply ev_neL); walk_at "ev"; walk_at "ev")
  | ((with_reducible apply ev_neLT); walk_at "ev"; walk_at "ev")
  | ((with_reducible apply ev_neB); walk_at "ev"; walk_at "ev")
  | ((with_reducible apply ev_len); walk_at "ev")
  | ((with_reducible apply ev_tupOf); walk_at "ev")
  | ((with_reducible apply ev_intB); walk_at "ev")
  | ((with_reducible apply en_lstOf); walk_at "ev")
  | ((with_reducible apply et_test); walk_at "ev")
  | ((with_reducible apply et_B); walk_at "ev")
  | ((with_reducible apply et_not); walk_at "ev")
  | ((with_reducible apply EvD.sT); walk_at "ev")
  | ((with_reducible apply EvD.sL); walk_at "ev")
  | ((with_reducible apply EvD.l); walk_at "ev")
  | ((with_reducible apply EvN.s); walk_at "ev")
  | ((with_reducible apply EvN.d); walk_at "ev")
  | ((with_reducible apply EvN.l); walk_at "ev")
  | ((with_reducible apply et_and); walk_at "ev"; intro _; walk_at "ev")
  | ((with_reducible apply et_or); walk_at "ev"; intro _; walk_at "ev")
  | ((with_reducible apply ev_ixN (j := 0)); walk_at "ev"; exact ev_int; exact rfl)
  | ((with_reducible apply ev_ixN (j := 1)); walk_at "ev"; exact ev_int; exact rfl)
  | ((with_reducible apply ev_ixN (j := 2)); walk_at "ev"; exact ev_int; exact rfl)
  | ((with_reducible apply ev_mod); walk_at "ev"; walk_at "ev"; decide)
  | ((with_reducible apply ev_div); walk_at "ev"; walk_at "ev"; decide)
  | ((with_reducible apply ev_tup); walk_at "ev"; simp)
  | ((with_reducible apply en_lst); walk_at "ev"; simp))
local macro_rules | `(tactic| walk_at "wk") => `(tactic| first | exact Wk.nil | (refine Wk.cons (Wk1.rfl _) ?_; walk_at "wk") | (refine Wk.cons (Wk1.un _) ?_; walk_at "wk") | (refine Wk.cons (Wk1.fz _) ?_; walk_at "wk") | (refine Wk.cons (Wk1.lk _) ?_; walk_at "wk"))
section
variable {T : Tx} {G : List Sl} {te ta tb : TE}
theorem ev_slM {α : Type} {ys : List α} {enc : α → Dt} {tl th : TO} {lo hi : Option Int} (h : EvD T te G (.tup (ys.map enc))) (hl : EvO T tl G lo) (hh : EvO T th G hi) : EvD T (tSl (rSlX T.K) te tl th) G (.tup ((cutG ys lo hi).map enc)) :=
  (ev_slT h hl hh).as (by rw [cut_map])
theorem ev_catM {α : Type} {xs ys : List α} {enc : α → Dt} (ha : EvD T ta G (.tup (xs.map enc))) (hb : EvD T tb G (.tup (ys.map enc))) (hz : xs.length + ys.length ≤ 100000) : EvD T (tOp (rAddX T.K) ta tb) G (.tup ((xs ++ ys).map enc)) :=
  (ev_catT ha hb (by rw [List.length_map, List.length_map]; exact hz)).as (by rw [List.map_append])
theorem cutG_mem {α : Type} {xs : List α} {lo hi : Option Int} {x : α} (h : x ∈ cutG xs lo hi) : x ∈ xs := List.mem_of_mem_drop (List.mem_of_mem_take h)
theorem cutG_len {α : Type} (xs : List α) (lo hi : Option Int) : (cutG xs lo hi).length ≤ xs.length := by
  unfold cutG
  rw [List.length_take, List.length_drop]
  omega
end
section
variable {P : Program} {w : World} {K : PySem.W.Frag} {mg : Str → Option Value} {base : Heap}
def lackL (ts : List (Int × Int)) (st ns : List Int) : List Int := (ts.filter fun p => decide (p.2 ∈ ns) && (decide (p.1 ∈ st) && !decide (p.1 ∈ ns))).map (·.1)
def cutL (n : Int) (ts : List (Int × Int)) (st ns : List Int) : List Int :=
  if (decide ((ns.length : Int) = 0) || (decide ((st.length : Int) ≤ ns.length) || !isSet n ns)) = true then []
  else if (!decide (woF ns st = [])) = true then [] else if lackL ts st ns = [] then ns else []
theorem cutL_ne {n : Int} {ts : List (Int × Int)} {st ns : List Int} (h : cutL n ts st ns ≠ []) : ns.length < st.length := by
  unfold cutL at h
  split at h
  · exact absurd rfl h
  · rename_i h1
    simp only [Bool.or_eq_true, decide_eq_true_eq, not_or] at h1
    omega
def sp_lawcut : Spec := fun ds F => ∃ n ts bs st ns, ds = [dSh n ts bs, dI st, dC (("up" : Str), ns)] ∧ GS n ts bs ∧ ns.length ≤ 1000 ∧ F (dI (cutL n ts st ns))
-- slots: 0 _law_shape, 1 _law_stands*, 2 _law_cut_here, 3 _law_word, 4 _law_names*, 5 _law_lacks, 6 _law_u, 7 _law_v, 8 _law_name
theorem ok_law_cut (S : Su K mg) : Good P w (tx K) mg base 2 (He.fAd K ("_law_cut", none)) ["_law_shape", "_law_stands", "_law_cut_here"] sp_lawcut := by
  obtain ⟨fd, F⟩ := S.def_ 32 (d := d_law_cut)
  have g_law_is_set := ok_law_is_set (P := P) (w := w) (base := base) S
  have g_law_lumps := ok_law_lumps (P := P) (w := w) (base := base) S
  refine good_of F sc_law_cut (fun _ _ _ _ _ _ us hl => match us, hl with | [_, _, _], _ => rfl) ?len ?body
  case len => intro ds F ⟨_, _, _, _, _, e, _⟩; rw [e]; rfl
  case body =>
    intro cdv A outer s H E hr ds F ⟨n, ts, bs, st, ns, e, hg, hz, hF⟩
    subst e
    have lt := hg.t.2.2
    refine ⟨_, (pss_cons (ps_asg (pv 2) (pg_seqK (K := K) (n := 2) rfl (pgs_cons (pg_name (i := 3) sc_law_cut.nd rfl (Or.inl rfl)) (pgs_cons (pg_name (i := 4) sc_law_cut.nd rfl (Or.inr rfl)) pgs_nil))))
    (pss_cons (ps_if (PW.pt (pw_or (pt_cmpR (op_eqK (K := K) hr) (pe_callB (call_lenK (K := K)) (by rfl) (S.free 43) PySem.boot_len (pa_cons (pv 4) pa_nil)) pe_int (nomark _)) (pw_or (pt_cmpR op_geX (pe_callB (call_lenK (K := K)) (by rfl) (S.free 43) PySem.boot_len (pa_cons (pv 4) pa_nil)) (pe_callB (call_lenK (K := K)) (by rfl) (S.free 43) PySem.boot_len (pa_cons (pv 1) pa_nil)) (nomark _)) (pw_or1 (pt_not (pt_val (pe_callG (T := tx K) g_law_is_set (hr.mono (by decide)) (by rfl) (S.glo 26) (pa_cons (pv 0) (pa_cons (pv 4) pa_nil))))))))) (pss_one (ps_ret (pe_tup pa_nil))) pss_nil)
    (pss_cons (ps_if (pt_cmpR (op_neK (K := K) hr) (pe_lc (own := [("_law_name", 8)]) rfl sc_law_cut.nd (pi_seq (pv 4)) (blkOk_by (own := [("_law_name", 8)]) (N := N_law_cut) (sc := defScope (top 42)) (by decide +kernel)) (fun _ _ _ _ _ => (pg_name (i := 8) sc_law_cut.nd rfl (by first | exact Or.inl rfl | exact Or.inr rfl))) (fun _ _ _ _ _ => (pts_one (pt_cmpR (op_niK (K := K) hr) (pv 8) (pv 1) (by rfl)))) (fun _ _ _ _ _ => (pv 8))) (pe_lst pa_nil) (nomark _)) (pss_one (ps_ret (pe_tup pa_nil))) pss_nil)
    (pss_cons (ps_if (PW.pt (pw_and (pt_cmpR (op_eqK (K := K) hr) (pv 3) pe_str (nomark _)) (pw_and1 (pt_cmpR (op_inK (K := K) hr) (pv 4) (pe_callG (T := tx K) g_law_lumps (hr.mono (by decide)) (by rfl) (S.glo 23) (pa_cons (pv 0) (pa_cons (pv 1) pa_nil))) (by rfl))))) (pss_one (ps_ret (pv 4))) pss_nil)
    (pss_cons (ps_setLc (i := 5) (own := [("_law_u", 6), ("_law_v", 7)]) rfl sc_law_cut.nd rfl rfl (sw_true rfl rfl rfl (by decide +kernel)) (pi_seq (pe_ix (ix_seqK (K := K)) (pv 0) pe_int (fun _ _ => rfl))) (blkOk_by (own := [("_law_u", 6), ("_law_v", 7)]) (N := N_law_cut) (sc := defScope (top 42)) (by decide +kernel)) (fun _ _ _ _ _ => (pg_seqK (K := K) (n := 2) rfl (pgs_cons (pg_name (i := 6) sc_law_cut.nd rfl (by first | exact Or.inl rfl | exact Or.inr rfl)) (pgs_cons (pg_name (i := 7) sc_law_cut.nd rfl (by first | exact Or.inl rfl | exact Or.inr rfl)) pgs_nil)))) (fun _ _ _ _ _ => (pts_one (PW.pt (pw_and (pt_cmpR (op_inK (K := K) hr) (pv 7) (pv 4) (by rfl)) (pw_and (pt_cmpR (op_inK (K := K) hr) (pv 6) (pv 1) (by rfl)) (pw_and1 (pt_cmpR (op_niK (K := K) hr) (pv 6) (pv 4) (by rfl)))))))) (fun _ _ _ _ _ => (pv 6)))
    (pss_cons (ps_if (PW.pt (pw_and (pt_cmpR (op_eqK (K := K) hr) (pv 3) pe_str (nomark _)) (pw_and1 (pt_cmpR (op_eqK (K := K) hr) (pv 5) (pe_lst pa_nil) (nomark _))))) (pss_one (ps_ret (pv 4))) pss_nil)
    (pss_one (ps_ret (pe_tup pa_nil))))))))), ?_⟩
    refine sq_asgB (x := dC (("up" : Str), ns)) (ev_var rfl) bd_2T ?_
    unfold cutL at hF
    refine sq_guard (b := decide ((ns.length : Int) = 0) || (decide ((st.length : Int) ≤ ns.length) || !isSet n ns)) (et_or (et_test ((ev_eq (ev_len (ev_var rfl).sT) ev_int).as (by rw [List.length_map]))) fun _ => et_or (et_test ((ev_ge (ev_len (ev_var rfl).sT) (ev_len (ev_var rfl).sT)).as (by rw [List.length_map, List.length_map]))) fun _ => et_not (et_B (ev_callD (T := tx K) (x := .bl (isSet n ns)) (ea2 (ev_var rfl) (ev_var rfl)) ⟨n, ts, bs, ns, rfl, hz, rfl⟩))) (fun h => ?_) fun h => ?_
    · rw [if_pos h] at hF
      exact sg_ret (x := dI []) (ev_tup ea_nil (by simp)) hF
    rw [if_neg (by rw [h]; decide)] at hF
    refine sq_guard (b := !decide (woF ns st = [])) (et_test (ev_neL (ns := woF ns st) (ms := []) (EvN.d (en_lc1 (ys := ns) (enc := .int) (fun j => !decide (j ∈ st)) .int (ei_tup (ev_var rfl)).j (by omega) rfl fun y hy => ⟨by walk_at "ev", fun _ => by walk_at "ev"⟩)) (EvN.d (en_lst ea_nil (by simp))))) (fun h2 => ?_) fun h2 => ?_
    · rw [if_pos h2] at hF
      exact sg_ret (x := dI []) (ev_tup ea_nil (by simp)) hF
    rw [if_neg (by rw [h2]; decide)] at hF
    refine sq_guard (b := false && false) (et_and (et_test ((ev_eqS (ev_var rfl) ev_str).as (congrArg Dt.bl (show decide (("up" : Str) = ("lump" : Str)) = false by decide +kernel)))) fun z => nomatch z) (fun h => nomatch h) fun _ => ?_
    refine sq_asg (x := lI (lackL ts st ns)) (EvN.d (EvN.as (en_lc2 (ys := ts) (enc := dP) (fun p => decide (p.2 ∈ ns) && (decide (p.1 ∈ st) && !decide (p.1 ∈ ns))) (fun p => .int p.1) (ei_lst (by walk_at "ev")).j (fun _ => rfl) (by omega) rfl fun y hy => ⟨by walk_at "ev", fun _ => by walk_at "ev"⟩) (by unfold lackL; rw [List.map_map]; rfl))) ?_
    refine sq_guard (b := true && decide (lackL ts st ns = [])) (et_and (et_test ((ev_eqS (ev_var rfl) ev_str).as (by simp))) fun _ => et_test (ev_eqL (ms := []) (ev_var rfl) (EvN.d (en_lst ea_nil (by simp))))) (fun h3 => ?_) fun h3 => ?_
    · rw [if_pos (by simpa using h3)] at hF
      exact sg_ret (x := dI ns) (ev_var rfl) hF
    · rw [if_neg (by simpa using h3)] at hF
      exact sg_ret (x := dI []) (ev_tup ea_nil (by simp)) hF
/-- cuts of the law: rising names, fewer than stand -/
def CsOk (n : Int) (m : Nat) (cs : List Cut) : Prop := ∀ c ∈ cs, isSet n c.2 = true ∧ c.2.length < m
def sp_closed : Spec := fun ds F => ∃ n ts bs st lump, ds = [dSh n ts bs, dI st, dI lump] ∧ GS n ts bs ∧ isSet n st = true ∧ lump.length ≤ 1000 ∧ ∀ cs, CsOk n st.length cs → cs.length ≤ 16 → F (.lst (cs.map dC))
def namesB (st : List Int) (b : Nat) : List Int := (st.zipIdx.filter fun p => decide ((b : Int) / 2 ^ ((p.2 : Nat) : Int).toNat % 2 = 1)).map (·.1)
theorem namesB_set {n : Int} {st : List Int} (h : isSet n st = true) (b : Nat) : isSet n (namesB st b) = true := by
  obtain ⟨h1, h2⟩ := isSet_iff.mp h
  have hs : (namesB st b).Sublist st := by
    have := (List.filter_sublist (p := fun p : Int × Nat => decide ((b : Int) / 2 ^ ((p.2 : Nat) : Int).toNat % 2 = 1)) (l := st.zipIdx)).map (·.1)
    rw [List.zipIdx_map_fst] at this
    exact this
  exact isSet_iff.mpr ⟨fun x hx => h1 x (hs.subset hx), h2.sublist hs⟩
-- slots: 0 _law_shape, 1 _law_stands, 2 _law_lump, 3 _law_got, 4 _law_bits*, 5 _law_names*, 6 _law_k, 7 _law_name
theorem ok_law_closed_sets (S : Su K mg) : Good P w (tx K) mg base 3 (He.fAd K ("_law_closed_sets", none)) ["_law_shape", "_law_stands", "_law_lump"] sp_closed := by
  obtain ⟨fd, F⟩ := S.def_ 33 (d := d_law_closed_sets)
  have g_law_cut := ok_law_cut (P := P) (w := w) (base := base) S
  refine good_of F sc_law_closed_sets (fun _ _ _ _ _ _ us hl => match us, hl with | [_, _, _], _ => rfl) ?len ?body
  case len => intro ds F ⟨_, _, _, _, _, e, _⟩; rw [e]; rfl
  case body =>
    intro cdv A outer s H E hr ds F ⟨n, ts, bs, st, lump, e, hg, hs, hz, hF⟩
    subst e
    have n4 := hg.n4
    have ls := set_len hs
    have l4 : st.length ≤ 4 := by omega
    have pw : ∀ m : Nat, m ≤ 4 → ((1 : Int) * 2 ^ ((m : Nat) : Int).toNat) = ((2 ^ m : Nat) : Int) ∧ 2 ^ m ≤ 16 := fun m hm => by
      have : m = 0 ∨ m = 1 ∨ m = 2 ∨ m = 3 ∨ m = 4 := by omega
      rcases this with e | e | e | e | e <;> subst e <;> decide
    obtain ⟨e2, e16⟩ := pw st.length l4
    refine ⟨_, (pss_cons (ps_set (i := 3) sc_law_closed_sets.nd rfl (Or.inl rfl) (pe_lst pa_nil))
    (pss_cons (ps_for PassesOwn.never rfl (pi_range1 (by rfl) (S.free 44) (pa_cons (pe_op op_shlX pe_int (pe_callB (call_lenK (K := K)) (by rfl) (S.free 43) PySem.boot_len (pa_cons (pv 1) pa_nil))) pa_nil)) (pg_name (i := 4) sc_law_closed_sets.nd rfl (Or.inr rfl)) (pss_cons (ps_set (i := 5) sc_law_closed_sets.nd rfl (Or.inr rfl) (pe_callTy call_tupX (by rfl) (S.free 46) (by decide +kernel) (pa_cons (pe_lc (own := [("_law_k", 6), ("_law_name", 7)]) rfl sc_law_closed_sets.nd (pi_enumX (by rfl) (S.free 49) (pv 1)) (blkOk_by (own := [("_law_k", 6), ("_law_name", 7)]) (N := N_law_closed_sets) (sc := defScope (top 44)) (by decide +kernel)) (fun _ _ _ _ _ => (pg_seqK (K := K) (n := 2) rfl (pgs_cons (pg_name (i := 6) sc_law_closed_sets.nd rfl (by first | exact Or.inl rfl | exact Or.inr rfl)) (pgs_cons (pg_name (i := 7) sc_law_closed_sets.nd rfl (by first | exact Or.inl rfl | exact Or.inr rfl)) pgs_nil)))) (fun _ _ _ _ _ => (pts_one (pt_cmpR (op_eqK (K := K) hr) (pe_op op_modX (pe_op op_shrX (pv 4) (pv 6)) pe_int) pe_int (nomark _)))) (fun _ _ _ _ _ => (pv 7))) pa_nil)))
    (pss_one (ps_if (PW.pt (pw_and (pt_cmpR (op_eqK (K := K) hr) (pe_lc (own := [("_law_name", 7)]) rfl sc_law_closed_sets.nd (pi_seq (pv 2)) (blkOk_by (own := [("_law_name", 7)]) (N := N_law_closed_sets) (sc := defScope (top 44)) (by decide +kernel)) (fun _ _ _ _ _ => (pg_name (i := 7) sc_law_closed_sets.nd rfl (by first | exact Or.inl rfl | exact Or.inr rfl))) (fun _ _ _ _ _ => (pts_one (pt_cmpR (op_niK (K := K) hr) (pv 7) (pv 5) (by rfl)))) (fun _ _ _ _ _ => (pv 7))) (pe_lst pa_nil) (nomark _)) (pw_and1 (pt_cmpR (op_neK (K := K) hr) (pe_callG (T := tx K) g_law_cut (hr.mono (by decide)) (by rfl) (S.glo 27) (pa_cons (pv 0) (pa_cons (pv 1) (pa_cons (pe_tup (pa_cons pe_str (pa_cons (pv 5) pa_nil))) pa_nil)))) (pe_tup pa_nil) (nomark _))))) (pss_one (ps_expr (pe_bm PySem.F.plainAttrs_list PySem.F.slot_list_append PySem.F.type_list_append mt_append (pv 3) (pa_cons (pe_tup (pa_cons pe_str (pa_cons (pv 5) pa_nil))) pa_nil)))) pss_nil))))
    (pss_one (ps_ret (pv 3))))), ?_⟩
    refine sq_asgN (ds := ([] : List Cut).map dC) (en_lst ea_nil (by simp)) (lt_of_some rfl) ?_
    refine sq_for (ys := List.range (2 ^ st.length)) (enc := fun i => .int (i : Nat)) (ei_rngN (ea1 ((ev_shl ev_int (ev_len (ev_var rfl).sT) ⟨by omega, by rw [List.length_map]; omega, by decide⟩).as (by rw [List.length_map, e2]))) (by omega)) (fun pre G' => ∃ cs : List Cut, CsOk n st.length cs ∧ cs.length ≤ pre.length ∧ G' = [.d (dSh n ts bs), .d (dI st), .d (dI lump), .own (.lst (cs.map dC)), .un, .un, .un, .un]) (Wk.refl _) ⟨[], fun _ h => (nomatch h), Nat.le_refl _, rfl⟩ ?_ ?_
    · rintro pre b post G' e ⟨cs, hc, hl, e2⟩
      subst e2
      have hb := rg_mid e
      have eb := rg_at e
      have hnb := namesB_set hs b
      have lnb := set_len hnb
      refine ⟨_, _, bd_name, ?_⟩
      refine sq_asg (x := dI (namesB st b)) (ev_tupOf (EvN.s (EvN.as (en_lc2 (ys := st.zipIdx) (enc := fun p => .tup [.int (p.2 : Nat), .int p.1]) (a := fun p => .int (p.2 : Nat)) (b := fun p => .int p.1) (fun p => decide ((b : Int) / 2 ^ ((p.2 : Nat) : Int).toNat % 2 = 1)) (fun p => .int p.1) (ei_enum (.inr (ev_var rfl))).j (fun _ => rfl) (by rw [List.length_zipIdx]; omega) rfl fun y hy => ⟨et_test (ev_eq (ev_mod (ev_shr (ev_var rfl) (ev_var rfl) (by omega)) ev_int (by decide)) ev_int), fun _ => ev_var rfl⟩) (by unfold namesB; rw [List.map_map]; rfl)))) ?_
      refine sg_if (b := decide (woF lump (namesB st b) = []) && !decide (cutL n ts st (namesB st b) = [])) (et_and (et_test (ev_eqL (ns := woF lump (namesB st b)) (ms := []) (EvN.d (en_lc1 (ys := lump) (enc := .int) (fun j => !decide (j ∈ namesB st b)) .int (ei_tup (ev_var rfl)).j (by omega) rfl fun y hy => ⟨by walk_at "ev", fun _ => by walk_at "ev"⟩)) (EvN.d (en_lst ea_nil (by simp))))) fun _ => et_test (ev_neT (ns := cutL n ts st (namesB st b)) (ms := []) (ev_callD (T := tx K) (ea_cons (ev_var rfl) (ea2 (ev_var rfl) (ev_tup (ea2 ev_str (ev_var rfl)) (by simp)))) ⟨n, ts, bs, st, _, rfl, hg, Nat.le_trans lnb (by omega), rfl⟩) (ev_tup ea_nil (by simp)))) (fun h => ?_) fun h => ?_
      · refine sg_app (x := dC (("up" : Str), namesB st b)) rfl (ev_tup (ea2 ev_str (ev_var rfl)) (by simp)) (by rw [List.length_map]; omega) ⟨_, ?wk, cs ++ [(("up" : Str), namesB st b)], fun c hc' => ?_, by rw [List.length_append, List.length_append]; simp; omega, by rw [List.map_append]; try rfl⟩
        case wk => walk_at "wk"
        rcases List.mem_append.mp hc' with hc' | hc'
        · exact hc c hc'
        · rw [List.mem_singleton.mp hc']
          rw [Bool.and_eq_true] at h
          exact ⟨hnb, cutL_ne (n := n) (ts := ts) (by simpa using h.2)⟩
      · refine sg_next ⟨_, ?wk, cs, hc, by rw [List.length_append]; omega, rfl⟩
        case wk => walk_at "wk"
    · rintro G' ⟨cs, hc, hl, e2⟩
      subst e2
      rw [rg_end] at hl
      refine sg_wk (G' := [.un, .un, .un, .d (.lst (cs.map dC)), .un, .un, .un, .un]) (.cons (.un _) (.cons (.un _) (.cons (.un _) (.cons (.fz _) (.cons (.un _) (.cons (.un _) (.cons (.un _) (.cons (.un _) .nil)))))))) ?_
      exact sg_ret (ev_var rfl) (hF cs hc (by omega))
theorem rise_eq : ∀ {a b : List Int}, a.Pairwise (· < ·) → b.Pairwise (· < ·) → (∀ x ∈ a, x ∈ b) → a.length = b.length → a = b
  | [], [], _, _, _, _ => rfl
  | [], _ :: _, _, _, _, e => by simp at e
  | _ :: _, [], _, _, _, e => by simp at e
  | x :: a, y :: b, ha, hb, hs, e => by
    rw [List.pairwise_cons] at ha hb
    have hx : x = y := by
      rcases List.mem_cons.mp (hs x List.mem_cons_self) with h | h
      · exact h
      · exfalso
        have hs2 : ∀ z ∈ x :: a, z ∈ b := fun z hz => by
          have hyx := hb.1 x h
          rcases List.mem_cons.mp hz with hz | hz
          · rw [hz]; exact h
          · rcases List.mem_cons.mp (hs z (List.mem_cons_of_mem _ hz)) with q | q
            · have := ha.1 z hz; omega
            · exact q
        have := len_of_sub (nd_rise (List.pairwise_cons.mpr ha)) hs2
        simp at this e
        omega
    subst hx
    have ht : ∀ z ∈ a, z ∈ b := fun z hz => by
      rcases List.mem_cons.mp (hs z (List.mem_cons_of_mem _ hz)) with q | q
      · have := ha.1 z hz; omega
      · exact q
    rw [rise_eq ha.2 hb.2 ht (by simpa using e)]
def sp_lawcuts : Spec := fun ds F => ∃ n ts bs lump u, ds = [dSh n ts bs, dI lump, .int u] ∧ GS n ts bs ∧ isSet n lump = true ∧ lump ≠ [] ∧ ∀ (cs : List Cut) (st : List Int), (∀ c ∈ cs, isSet n c.2 = true) → cs.length ≤ 4 → isSet n st = true → F (.lst [.lst (cs.map dC), dI st])
theorem ix_mod {α : Type} {l : List α} (h : l ≠ []) (u : Int) : ∃ c ∈ l, atI l (u % (l.length : Nat)) = some c := by
  have hp := List.length_pos_iff.mpr h
  have h0 := Int.emod_nonneg u (show ((l.length : Nat) : Int) ≠ 0 by omega)
  have h1 := Int.emod_lt_of_pos u (show (0 : Int) < ((l.length : Nat) : Int) by omega)
  generalize u % ((l.length : Nat) : Int) = k at *
  have e : k = ((k.toNat : Nat) : Int) := by omega
  have hk : k.toNat < l.length := by omega
  refine ⟨l[k.toNat], List.getElem_mem hk, ?_⟩
  have := atI_nat (xs := l) (List.getElem?_eq_getElem hk)
  rwa [← e] at this
theorem atI_map {α β : Type} (f : α → β) {l : List α} {i : Int} {x : α} (h : atI l i = some x) : atI (l.map f) i = some (f x) := by
  obtain ⟨j, hj, hat⟩ := atI_len (xs := l.map f) (ys := l) (List.length_map _) h
  exact hat _ (by rw [List.getElem?_map, hj]; rfl)
theorem atI_last {α : Type} (l : List α) (x : α) : atI (l ++ [x]) (-1) = some x := by
  unfold atI ixN
  simp
  rw [if_pos (by omega)]
  have e : (-1 + ((l.length : Int) + 1)).toNat = l.length := by omega
  rw [e]
  simp
-- slots: 0 _law_shape, 1 _law_lump, 2 _law_number, 3 _law_stands, 4 _law_cuts_here, 5 _law_ways_here, 6 _law_held
theorem ok_law_cuts (S : Su K mg) : Good P w (tx K) mg base 4 (He.fAd K ("_law_cuts", none)) ["_law_shape", "_law_lump", "_law_number"] sp_lawcuts := by
  obtain ⟨fd, F⟩ := S.def_ 34 (d := d_law_cuts)
  have g_law_closed_sets := ok_law_closed_sets (P := P) (w := w) (base := base) S
  have g_law_lump_with := ok_law_lump_with (P := P) (w := w) (base := base) S
  refine good_of F sc_law_cuts (fun _ _ _ _ _ _ us hl => match us, hl with | [_, _, _], _ => rfl) ?len ?body
  case len => intro ds F ⟨_, _, _, _, _, e, _⟩; rw [e]; rfl
  case body =>
    intro cdv A outer s H E hr ds F ⟨n, ts, bs, lump, u, e, hg, hs, hne, hF⟩
    subst e
    have n4 := hg.n4
    have n1 := hg.n1
    have ll := set_len hs
    refine ⟨_, (pss_cons (ps_set (i := 3) sc_law_cuts.nd rfl (Or.inl rfl) (pe_callG (T := tx K) g_law_lump_with (hr.mono (by decide)) (by rfl) (S.glo 25) (pa_cons (pv 0) (pa_cons (pe_listRg rfl (by rfl) (S.free 47) (prg_1 (by rfl) (S.free 44) (pe_ix (ix_seqK (K := K)) (pv 0) pe_int (fun _ _ => rfl)))) (pa_cons (pv 1) pa_nil)))))
    (pss_cons (ps_set (i := 4) sc_law_cuts.nd rfl (Or.inl rfl) (pe_lst pa_nil))
    (pss_cons (ps_while PassesOwn.never (pt_cmpR (op_neK (K := K) hr) (pv 3) (pv 1) (nomark _)) (pss_cons (ps_set (i := 5) sc_law_cuts.nd rfl (Or.inl rfl) (pe_callG (T := tx K) g_law_closed_sets (hr.mono (by decide)) (by rfl) (S.glo 28) (pa_cons (pv 0) (pa_cons (pv 3) (pa_cons (pv 1) pa_nil)))))
    (pss_cons (ps_set (i := 6) sc_law_cuts.nd rfl (Or.inl rfl) (pe_callG (T := tx K) g_law_lump_with (hr.mono (by decide)) (by rfl) (S.glo 25) (pa_cons (pv 0) (pa_cons (pv 3) (pa_cons (pv 1) pa_nil)))))
    (pss_cons (ps_if (pt_cmpR (op_neK (K := K) hr) (pv 6) (pv 3) (nomark _)) (pss_one (ps_set (i := 5) sc_law_cuts.nd rfl (Or.inl rfl) (pe_op (op_addK (K := K)) (pv 5) (pe_lst (pa_cons (pe_tup (pa_cons pe_str (pa_cons (pv 6) pa_nil))) pa_nil))))) pss_nil)
    (pss_cons (ps_if (pt_cmpR (op_eqK (K := K) hr) (pe_callB (call_lenK (K := K)) (by rfl) (S.free 43) PySem.boot_len (pa_cons (pv 5) pa_nil)) pe_int (nomark _)) (pss_one (ps_ret (pe_lst (pa_cons (pv 4) (pa_cons (pv 3) pa_nil))))) pss_nil)
    (pss_cons (ps_expr (pe_bm PySem.F.plainAttrs_list PySem.F.slot_list_append PySem.F.type_list_append mt_append (pv 4) (pa_cons (pe_ix (ix_seqK (K := K)) (pv 5) (pe_op op_modX (pv 2) (pe_callB (call_lenK (K := K)) (by rfl) (S.free 43) PySem.boot_len (pa_cons (pv 5) pa_nil))) (fun _ _ => rfl)) pa_nil)))
    (pss_cons (ps_set (i := 2) sc_law_cuts.nd rfl (Or.inl rfl) (pe_op op_divX (pv 2) (pe_callB (call_lenK (K := K)) (by rfl) (S.free 43) PySem.boot_len (pa_cons (pv 5) pa_nil))))
    (pss_one (ps_set (i := 3) sc_law_cuts.nd rfl (Or.inl rfl) (pe_ix (ix_seqK (K := K)) (pe_ix (ix_seqK (K := K)) (pv 4) (pe_un un_neg pe_int) (fun _ _ => rfl)) pe_int (fun _ _ => rfl)))))))))))
    (pss_one (ps_ret (pe_lst (pa_cons (pv 4) (pa_cons (pv 1) pa_nil)))))))), ?_⟩
    refine sq_asgP (F := fun x => ∃ st, x = dI st ∧ isSet n st = true) (ev_call (T := tx K) (ea_cons (ev_var rfl) (ea2 ((EvN.d (en_lstRg (ev_ixN (j := 0) (x := .int n) (EvD.sL (ev_var rfl)) ev_int rfl) (by omega) (by omega))).as (y := lI (rgI n)) (by rw [rgD_rgI]; rfl)) (ev_var rfl))) ⟨n, ts, bs, rgI n, lump, _, rfl, .inr rfl, hg, rgI_set, hne, fun r hr1 _ => ⟨r, rfl, hr1⟩⟩) ?_
    rintro _ ⟨st0, rfl, hst0⟩
    have ls0 := set_len hst0
    refine sq_asgN (ds := ([] : List Cut).map dC) (en_lst ea_nil (by simp)) (lt_of_some rfl) ?_
    refine sq_while (fun m G' => ∃ (st : List Int) (cs : List Cut) (u : Int), isSet n st = true ∧ st.length = m ∧ (∀ c ∈ cs, isSet n c.2 = true) ∧ cs.length + m ≤ 4 ∧ G' = [.d (dSh n ts bs), .d (dI lump), .d (.int u), .d (dI st), .own (.lst (cs.map dC)), .un, .un])
      (fun G' => ∃ cs : List Cut, (∀ c ∈ cs, isSet n c.2 = true) ∧ cs.length ≤ 4 ∧ ∃ (u : Int) (st : List Int), G' = [.d (dSh n ts bs), .d (dI lump), .d (.int u), .d (dI st), .own (.lst (cs.map dC)), .un, .un]) st0.length (Wk.refl _) ⟨st0, [], u, hst0, rfl, fun _ h => (nomatch h), by simp; omega, rfl⟩ ?_ ?_
    · rintro m G' ⟨st, cs, u, hst, em, hcs, hm, e2⟩
      subst e2
      have lst := set_len hst
      refine ⟨!decide (st = lump), by walk_at "ev", fun h => ?_, fun h => ⟨cs, hcs, by omega, u, st, rfl⟩⟩
      refine sq_asgP (F := fun x => ∃ ws : List Cut, x = .lst (ws.map dC) ∧ CsOk n st.length ws ∧ ws.length ≤ 16) (ev_call (T := tx K) (ea_cons (ev_var rfl) (ea2 (ev_var rfl) (ev_var rfl))) ⟨n, ts, bs, st, lump, rfl, hg, hst, by omega, fun ws hw hl => ⟨ws, rfl, hw, hl⟩⟩) ?_
      rintro _ ⟨ws, rfl, hw, hl⟩
      refine sq_asgP (F := fun x => ∃ hd, x = dI hd ∧ isSet n hd = true ∧ ∀ y ∈ hd, y ∈ st) (ev_call (T := tx K) (ea_cons (ev_var rfl) (ea2 (ev_var rfl) (ev_var rfl))) ⟨n, ts, bs, st, lump, _, rfl, .inl rfl, hg, hst, hne, fun r hr1 hr2 => ⟨r, rfl, hr1, hr2⟩⟩) ?_
      rintro _ ⟨hd, rfl, hhd, hsub⟩
      refine sq_when (fun G2 => ∃ ws : List Cut, CsOk n st.length ws ∧ ws.length ≤ 17 ∧ G2 = [.d (dSh n ts bs), .d (dI lump), .d (.int u), .d (dI st), .own (.lst (cs.map dC)), .d (.lst (ws.map dC)), .d (dI hd)]) (b := !decide (hd = st)) (by walk_at "ev") (fun h2 => ?_) (fun h2 => ⟨ws, hw, by omega, rfl⟩) ?_
      · refine sg_asgB (x := .lst ((ws ++ [(("lump" : Str), hd)]).map dC)) ((EvN.d (en_cat (EvD.l (ev_var rfl)) (EvN.l (en_lst (ds := [dC (("lump" : Str), hd)]) (ea1 (ev_tup (ea2 ev_str (ev_var rfl)) (by simp))) (by simp))) (by rw [List.length_map]; simp; omega))).as (by rw [List.map_append]; rfl)) bd_name ⟨_, fun c hc => ?_, by rw [List.length_append]; simp; omega, rfl⟩
        rcases List.mem_append.mp hc with hc | hc
        · exact hw c hc
        · rw [List.mem_singleton.mp hc]
          refine ⟨hhd, ?_⟩
          have h3 : hd ≠ st := by simpa using h2
          have l1 := len_of_sub (nd_rise (isSet_iff.mp hhd).2) hsub
          have : hd.length ≠ st.length := fun z => h3 (rise_eq (isSet_iff.mp hhd).2 (isSet_iff.mp hst).2 hsub z)
          show hd.length < st.length
          omega
      · rintro G2 ⟨ws, hw, hl, e3⟩
        subst e3
        refine sq_guard (b := decide ((ws.length : Int) = 0)) (et_test ((ev_eq (ev_len (ev_var rfl).sL) ev_int).as (by rw [List.length_map]))) (fun h3 => ?_) fun h3 => ?_
        · refine sg_wk (G' := [.d (dSh n ts bs), .d (dI lump), .d (.int u), .d (dI st), .d (.lst (cs.map dC)), .d (.lst (ws.map dC)), .d (dI hd)]) (by walk_at "wk") ?_
          exact sg_ret (x := .lst [.lst (cs.map dC), dI st]) (EvN.d (en_lst (ea2 (ev_var rfl) (ev_var rfl)) (by simp))) (hF cs st hcs (by omega) hst)
        · have h4 := of_decide_eq_false h3
          have wne : ws ≠ [] := fun z => h4 (by rw [z]; rfl)
          obtain ⟨c, hc, hat⟩ := ix_mod wne u
          refine sq_app (x := dC c) rfl (ev_ix (EvD.sL (ev_var rfl)) (ev_mod (ev_var rfl) (ev_len (ev_var rfl).sL) (by rw [List.length_map]; omega)) (by rw [List.length_map]; exact atI_map dC hat)) (by rw [List.length_map]; omega) ?_
          refine sq_asg (x := .int (u / (ws.length : Nat))) ((ev_div (ev_var rfl) (ev_len (ev_var rfl).sL) (cdiv (a := 10) (by rw [List.length_map]; omega) (by rw [List.length_map]; unfold Bt; omega))).as (by rw [List.length_map])) ?_
          refine sg_asgB (x := dI c.2) (ev_ixN (j := 1) (EvD.sT (ds := [.str c.1, dI c.2]) (ev_ix (x := dC c) (es_own rfl) (ev_neg ev_int) (atI_last _ _))) ev_int rfl) bd_name ⟨[.d (dSh n ts bs), .d (dI lump), .d (.int (u / (ws.length : Nat))), .d (dI c.2), .own (.lst ((cs ++ [c]).map dC)), .un, .un], c.2.length, ?_, ?_, c.2, cs ++ [c], u / (ws.length : Nat), (hw c hc).1, rfl, fun d hd => ?_, ?_, rfl⟩
          · rw [List.map_append]
            walk_at "wk"
          · have := (hw c hc).2
            omega
          · rcases List.mem_append.mp hd with hd | hd
            · exact hcs d hd
            · rw [List.mem_singleton.mp hd]; exact (hw c hc).1
          · have := (hw c hc).2
            rw [List.length_append]
            simp
            omega
    · rintro G' ⟨cs, hcs, hl, u, st, e2⟩
      subst e2
      refine sg_wk (G' := [.d (dSh n ts bs), .d (dI lump), .d (.int u), .d (dI st), .d (.lst (cs.map dC)), .un, .un]) (by walk_at "wk") ?_
      exact sg_ret (x := .lst [.lst (cs.map dC), dI lump]) (EvN.d (en_lst (ea2 (ev_var rfl) (ev_var rfl)) (by simp))) (hF cs lump hcs hl hs)
/-- a small paper -/
def SP (p : List Row) : Prop := p.length ≤ 4 ∧ ∀ r ∈ p, r.1.length ≤ 4 ∧ r.2.length ≤ 4 ∧ ∀ c ∈ r.2, c.2.length ≤ 4
def sp_lawpaper : Spec := fun ds F => ∃ n ts bs ones asked u, ds = [dSh n ts bs, dQ ones asked, .int u] ∧ GS n ts bs ∧ GQ n ones asked ∧ (∀ l st, l.length ≤ 4 → F (.lst [.str ("nest" : Str), dI l, dI st])) ∧ ∀ p, SP p → F (.lst [.str ("formula" : Str), dPap p, dI []])
-- slots: 0 _law_shape, 1 _law_question_here, 2 _law_number, 3 _law_rows, 4 _law_lump, 5 _law_cuts_here, 6 _law_stands
theorem ok_law_paper (S : Su K mg) : Good P w (tx K) mg base 5 (He.fAd K ("_law_paper", none)) ["_law_shape", "_law_question_here", "_law_number"] sp_lawpaper := by
  obtain ⟨fd, F⟩ := S.def_ 35 (d := d_law_paper)
  have g_law_cuts := ok_law_cuts (P := P) (w := w) (base := base) S
  have g_law_lumps := ok_law_lumps (P := P) (w := w) (base := base) S
  have g_law_wanted := ok_law_wanted (P := P) (w := w) (base := base) S
  refine good_of F sc_law_paper (fun _ _ _ _ _ _ us hl => match us, hl with | [_, _, _], _ => rfl) ?len ?body
  case len => intro ds F ⟨_, _, _, _, _, _, e, _⟩; rw [e]; rfl
  case body =>
    intro cdv A outer s H E hr ds F ⟨n, ts, bs, ones, asked, u, e, hg, hq, hF1, hF2⟩
    subst e
    have n4 := hg.n4
    refine ⟨_, (pss_cons (ps_set (i := 3) sc_law_paper.nd rfl (Or.inl rfl) (pe_lst pa_nil))
    (pss_cons (ps_for PassesOwn.never rfl (pi_seq (pe_callG (T := tx K) g_law_lumps (hr.mono (by decide)) (by rfl) (S.glo 23) (pa_cons (pv 0) (pa_cons (pe_callG (T := tx K) g_law_wanted (hr.mono (by decide)) (by rfl) (S.glo 24) (pa_cons (pv 0) (pa_cons (pv 1) pa_nil))) pa_nil)))) (pg_name (i := 4) sc_law_paper.nd rfl (Or.inl rfl)) (pss_cons (ps_asg (pe_callG (T := tx K) g_law_cuts (hr.mono (by decide)) (by rfl) (S.glo 29) (pa_cons (pv 0) (pa_cons (pv 4) (pa_cons (pv 2) pa_nil)))) (pg_seqK (K := K) (n := 2) rfl (pgs_cons (pg_name (i := 5) sc_law_paper.nd rfl (Or.inl rfl)) (pgs_cons (pg_name (i := 6) sc_law_paper.nd rfl (Or.inl rfl)) pgs_nil))))
    (pss_cons (ps_if (pt_cmpR (op_neK (K := K) hr) (pv 6) (pv 4) (nomark _)) (pss_one (ps_ret (pe_lst (pa_cons pe_str (pa_cons (pv 4) (pa_cons (pv 6) pa_nil)))))) pss_nil)
    (pss_cons (ps_expr (pe_bm PySem.F.plainAttrs_list PySem.F.slot_list_append PySem.F.type_list_append mt_append (pv 3) (pa_cons (pe_tup (pa_cons (pv 4) (pa_cons (pe_callTy call_tupX (by rfl) (S.free 46) (by decide +kernel) (pa_cons (pv 5) pa_nil)) pa_nil))) pa_nil)))
    (pss_one (ps_set (i := 2) sc_law_paper.nd rfl (Or.inl rfl) (pe_op op_divX (pv 2) pe_int)))))))
    (pss_one (ps_ret (pe_lst (pa_cons pe_str (pa_cons (pe_callTy call_tupX (by rfl) (S.free 46) (by decide +kernel) (pa_cons (pv 3) pa_nil)) (pa_cons (pe_tup pa_nil) pa_nil)))))))), ?_⟩
    refine sq_asgN (ds := ([] : List Row).map dRow) (en_lst ea_nil (by simp)) (lt_of_some rfl) ?_
    refine sq_forP (enc := dI) (FL := fun L => (∀ l ∈ L, isSet n l = true ∧ l ≠ []) ∧ L.length ≤ 4) (ei_lstP (ev_callAP (T := tx K) (eap2 (ev_var (x := dSh n ts bs) rfl).q (ev_call (T := tx K) (F := fun x => ∃ r, x = dI r ∧ isSet n r = true) (ea2 (ev_var rfl) (ev_var rfl)) ⟨n, ts, bs, ones, asked, rfl, hg, hq, fun r h => ⟨r, rfl, h⟩⟩)) ?_)) (fun ys pre G' => ∃ (p : List Row) (u : Int), p.length = pre.length ∧ (∀ r ∈ p, r.1.length ≤ 4 ∧ r.2.length ≤ 4 ∧ ∀ c ∈ r.2, c.2.length ≤ 4) ∧ G' = [.d (dSh n ts bs), .d (dQ ones asked), .d (.int u), .own (.lst (p.map dRow)), .un, .un, .un]) (Wk.refl _) (fun _ _ => ⟨[], u, rfl, fun _ h => (nomatch h), rfl⟩) ?_ ?_
    · rintro ds ⟨x, y, e, ex, r, ey, hr1⟩
      subst ex ey
      exact ⟨n, ts, bs, r, dI r, e, .inl rfl, hg, hr1, fun L hL h4 => ⟨L, rfl, fun l hl => ⟨hL.set l hl, hL.ne l hl⟩, h4⟩⟩
    · rintro L ⟨hL, h4⟩ pre l post G' e ⟨p, u, hp, hpr, e2⟩
      subst e2
      obtain ⟨hl, hln⟩ := hL l (mem_mid e)
      have ll := set_len hl
      have hq2 : pre.length < L.length := by have := congrArg List.length e; simp at this; omega
      refine ⟨_, _, bd_name, ?_⟩
      refine sq_asgPB (F := fun x => ∃ (cs : List Cut) (st : List Int), x = .lst [.lst (cs.map dC), dI st] ∧ (∀ c ∈ cs, isSet n c.2 = true) ∧ cs.length ≤ 4) (ev_call (T := tx K) (ea_cons (ev_var rfl) (ea2 (ev_var rfl) (ev_var rfl))) ⟨n, ts, bs, l, u, rfl, hg, hl, hln, fun cs st h1 h2 h3 => ⟨cs, st, rfl, h1, h2⟩⟩) ?_
      rintro _ ⟨cs, st, rfl, hcs, hc4⟩
      refine ⟨_, _, bd_2L, ?_⟩
      refine sq_guard (b := !decide (st = l)) (by walk_at "ev") (fun h => sg_ret (x := .lst [.str ("nest" : Str), dI l, dI st]) (EvN.d (en_lst (ea_cons ev_str (ea2 (ev_var rfl) (ev_var rfl))) (by simp))) (hF1 l st (by omega))) fun h => ?_
      refine sq_app (x := dRow (l, cs)) rfl (ev_tup (ea2 (ev_var rfl) (ev_tupOf (EvD.sL (ev_var rfl)))) (by simp)) (by rw [List.length_map]; omega) ?_
      refine sg_asgB (x := .int (u / 1000)) (ev_div (ev_var rfl) ev_int (cdiv (a := 10) (by decide) (by unfold Bt; decide))) bd_name ⟨_, ?wk, p ++ [(l, cs)], u / 1000, by rw [List.length_append, List.length_append, hp]; rfl, fun r hr1 => ?_, by rw [List.map_append]; try rfl⟩
      case wk => exact .cons (.rfl _) (.cons (.rfl _) (.cons (.rfl _) (.cons (.rfl _) (.cons (.un _) (.cons (.un _) (.cons (.un _) .nil))))))
      rcases List.mem_append.mp hr1 with hr1 | hr1
      · exact hpr r hr1
      · rw [List.mem_singleton.mp hr1]
        exact ⟨by show l.length ≤ 4; omega, hc4, fun c hc => by have := set_len (hcs c hc); omega⟩
    · rintro L ⟨hL, h4⟩ G' ⟨p, u, hp, hpr, e2⟩
      subst e2
      exact sg_ret (x := .lst [.str ("formula" : Str), dPap p, dI []]) (EvN.d (en_lst (ea_cons ev_str (ea2 (ev_tupOf (es_own rfl)) (ev_tup ea_nil (by simp)))) (by simp))) (hF2 p ⟨by omega, hpr⟩)
end
end W3

namespace W3
open PySem PySem.Spec PyProof.Rows L2 Evl
local macro_rules | `(tactic| walk_at "ev") => `(tactic| first
  | ((with_reducible apply ev_var); exact rfl)
  | ((with_reducible apply es_own); exact rfl)
  | ((with_reducible apply el_own); exact rfl)
  | with_reducible exact ev_int
  | with_reducible exact ev_bl
  | with_reducible exact ev_str
  | with_reducible exact ev_non
  | with_reducible exact ea_nil
  | with_reducible exact et_yes
  | ((with_reducible apply ea_cons); walk_at "ev"; walk_at "ev")
  | ((with_reducible apply ev_add); walk_at "ev"; walk_at "ev")
  | ((with_reducible apply ev_sub); walk_at "ev"; walk_at "ev")
  | ((with_reducible apply ev_lt); walk_at "ev"; walk_at "ev")
  | ((with_reducible apply ev_le); walk_at "ev"; walk_at "ev")
  | ((with_reducible apply ev_gt); walk_at "ev"; walk_at "ev")
  | ((with_reducible apply ev_ge); walk_at "ev"; walk_at "ev")
  | ((with_reducible apply ev_in); walk_at "ev"; walk_at "ev")
  | ((with_reducible apply ev_ni); walk_at "ev"; walk_at "ev")
  | ((with_reducible apply ev_inLT); walk_at "ev"; walk_at "ev")
  | ((with_reducible apply ev_inL); walk_at "ev"; walk_at "ev")
  | ((with_reducible apply ev_niTT); walk_at "ev"; walk_at "ev")
  | ((with_reducible apply ev_eq); walk_at "ev"; walk_at "ev")
  | ((with_reducible apply ev_eqS); walk_at "ev"; walk_at "ev")
  | ((with_reducible apply ev_eqT); walk_at "ev"; walk_at "ev")
  | ((with_reducible apply ev_eqL); walk_at "ev"; walk_at "ev")
  | ((with_reducible apply ev_ne); walk_at "ev"; walk_at "ev")
  | ((with_reducible apply ev_neT); walk_at "ev"; walk_at "ev")
  | ((with_reducible apply ev_neL); walk_at "ev"; walk_at "ev")
  | ((with_reducible apply ev_neLT); walk_at "ev"; walk_at "ev")
  | ((with_reducible apply ev_neB); walk_at "ev"; walk_at "ev")
  | ((with_reducible apply ev_len); walk_at "ev")
  | ((with_reducible apply ev_tupOf); walk_at "ev")
  | ((with_reducible apply ev_intB); walk_at "ev")
  | ((with_reducible apply en_lstOf); walk_at "ev")
  | ((with_reducible apply et_test); walk_at "ev")
  | ((with_reducible apply et_B); walk_at "ev")
  | ((with_reducible apply et_not); walk_at "ev")
  | ((with_reducible apply EvD.sT); walk_at "ev")
  | ((with_reducible apply EvD.sL); walk_at "ev")
  | ((with_reducible apply EvD.l); walk_at "ev")
  | ((with_reducible apply EvN.s); walk_at "ev")
  | ((with_reducible apply EvN.d); walk_at "ev")
  | ((with_reducible apply EvN.l); walk_at "ev")
  | ((with_reducible apply et_and); walk_at "ev"; intro _; walk_at "ev")
  | ((with_reducible apply et_or); walk_at "ev"; intro _; walk_at "ev")
  | ((with_reducible apply ev_ixN (j := 0)); walk_at "ev"; exact ev_int; exact rfl)
  | ((with_reducible apply ev_ixN (j := 1)); walk_at "ev"; exact ev_int; exact rfl)
  | ((with_reducible apply ev_ixN (j := 2)); walk_at "ev"; exact ev_int; exact rfl)
  | ((with_reducible apply ev_mod); walk_at "ev"; walk_at "ev"; decide)
  | ((with_reducible apply ev_div); walk_at "ev"; walk_at "ev"; decide)
  | ((with_reducible apply ev_tup); walk_at "ev"; simp)
  | ((with_reducible apply en_lst); walk_at "ev"; simp))
local macro_rules | `(tactic| walk_at "wk") => `(tactic| first | exact Wk.nil | (refine Wk.cons (Wk1.rfl _) ?_; walk_at "wk") | (refine Wk.cons (Wk1.un _) ?_; walk_at "wk") | (refine Wk.cons (Wk1.fz _) ?_; walk_at "wk") | (refine Wk.cons (Wk1.lk _) ?_; walk_at "wk"))
section
variable {P : Program} {w : World} {K : PySem.W.Frag} {mg : Str → Option Value} {base : Heap}
theorem cdv {i : Int} {j : Int} (h0 : 0 < j := by decide) (h : j < 100000 := by decide) : CDivW i j := cdiv (a := 17) h0 (Bt.of (by omega) (by omega))
def sp_bent_set : Spec := fun ds F => ∃ ns u n, ds = [dI ns, .int u, .int n] ∧ 1 ≤ n ∧ n ≤ 4 ∧ ns.length ≤ 100 ∧ ∀ r : List Int, r.length ≤ 200 → F (dI r)
-- slots: 0 _law_names, 1 _law_number*, 2 _law_count, 3 _law_way, 4 _law_name
theorem ok_law_bent_set (S : Su K mg) : Good P w (tx K) mg base 1 (He.fAd K ("_law_bent_set", none)) ["_law_names", "_law_number", "_law_count"] sp_bent_set := by
  obtain ⟨fd, F⟩ := S.def_ 36 (d := d_law_bent_set)
  refine good_of F sc_law_bent_set (fun _ _ _ _ _ _ us hl => match us, hl with | [_, _, _], _ => rfl) ?len ?body
  case len => intro ds F ⟨_, _, _, e, _⟩; rw [e]; rfl
  case body =>
    intro cdv' A outer s H E hr ds F ⟨ns, u, n, e, n1, n4, hz, hF⟩
    subst e
    refine ⟨_, (pss_cons (ps_set (i := 3) sc_law_bent_set.nd rfl (Or.inl rfl) (pe_op op_modX (pv 1) pe_int))
    (pss_cons (ps_set (i := 1) sc_law_bent_set.nd rfl (Or.inr rfl) (pe_op op_divX (pv 1) pe_int))
    (pss_cons (ps_if (pt_cmpR (op_eqK (K := K) hr) (pv 3) pe_int (nomark _)) (pss_one (ps_ret (pe_slice sl_X (pv 0) (po_some pe_int) po_none))) pss_nil)
    (pss_cons (ps_if (pt_cmpR (op_eqK (K := K) hr) (pv 3) pe_int (nomark _)) (pss_one (ps_ret (pe_callTy call_tupX (by rfl) (S.free 46) (by decide +kernel) (pa_cons (pe_callB (call_sortX hr) (by rfl) (S.free 45) (by decide +kernel) (pa_cons (pe_op (op_addK (K := K)) (pe_callTy call_lstX (by rfl) (S.free 47) (by decide +kernel) (pa_cons (pv 0) pa_nil)) (pe_lst (pa_cons (pe_op op_modX (pv 1) (pv 2)) pa_nil))) pa_nil)) pa_nil)))) pss_nil)
    (pss_cons (ps_if (pt_cmpR (op_eqK (K := K) hr) (pv 3) pe_int (nomark _)) (pss_one (ps_ret (pe_op (op_addK (K := K)) (pe_tupRevT rfl (by rfl) (S.free 46) (by rfl) (S.free 48) (pv 0)) (pe_tup (pa_cons (pe_op op_subX (pe_op op_modX (pv 1) (pe_op (op_addK (K := K)) (pv 2) pe_int)) pe_int) pa_nil))))) pss_nil)
    (pss_cons (ps_if (pt_cmpR (op_eqK (K := K) hr) (pv 3) pe_int (nomark _)) (pss_one (ps_ret (pe_callTy call_tupX (by rfl) (S.free 46) (by decide +kernel) (pa_cons (pe_lc (own := [("_law_name", 4)]) rfl sc_law_bent_set.nd (pi_range1 (by rfl) (S.free 44) (pa_cons (pv 2) pa_nil)) (blkOk_by (own := [("_law_name", 4)]) (N := N_law_bent_set) (sc := defScope (top 47)) (by decide +kernel)) (fun _ _ _ _ _ => (pg_name (i := 4) sc_law_bent_set.nd rfl (by first | exact Or.inl rfl | exact Or.inr rfl))) (fun _ _ _ _ _ => (pts_one (pt_cmpR (op_eqK (K := K) hr) (pe_op op_modX (pe_op op_shrX (pv 1) (pv 4)) pe_int) pe_int (nomark _)))) (fun _ _ _ _ _ => (pv 4))) pa_nil)))) pss_nil)
    (pss_one (ps_ret (pe_op (op_addK (K := K)) (pe_slice sl_X (pv 0) po_none (po_some (pe_un un_neg pe_int))) (pe_tup (pa_cons (pe_op op_modX (pv 1) (pv 2)) pa_nil))))))))))), ?_⟩
    refine sq_asg (x := .int (u % 5)) (by walk_at "ev") ?_
    refine sq_asg (x := .int (u / 5)) (ev_div (ev_var rfl) ev_int cdv) ?_
    have m0 : 0 < n := by omega
    have m2 : 0 < n + 2 := by omega
    refine sq_guard (b := decide (u % 5 = 0)) (by walk_at "ev") (fun _ => sg_ret (x := dI (cutG ns (some 1) none)) (ev_slM (ev_var rfl) (eo_some ev_int) eo_none) (hF _ (Nat.le_trans (cutG_len _ _ _) (by omega)))) fun _ => ?_
    refine sq_guard (b := decide (u % 5 = 1)) (by walk_at "ev") (fun _ => sg_ret (x := dI (sortI (ns ++ [u / 5 % n]))) (ev_tupOf (EvN.s (en_sortI (EvS.as (EvN.s (en_cat (EvN.l (en_lstOf (ev_var rfl).sT)) (EvN.l (en_lst (ea1 (ev_mod (ev_var rfl) (ev_var rfl) m0)) (by simp))) (by rw [List.length_map]; simp; omega))) (by rw [List.map_append]; rfl))))) (hF _ (by rw [len_sortI, List.length_append]; simp; omega))) fun _ => ?_
    refine sq_guard (b := decide (u % 5 = 2)) (by walk_at "ev") (fun _ => sg_ret (x := dI (ns.reverse ++ [u / 5 % (n + 2) - 1])) (ev_catM ((ev_tupRev (ev_var rfl)).as (by rw [List.map_reverse])) (ev_tup (ea1 (ev_sub (ev_mod (ev_var rfl) (ev_add (ev_var rfl) ev_int) m2) ev_int)) (by simp)) (by rw [List.length_reverse]; simp; omega)) (hF _ (by rw [List.length_append, List.length_reverse]; simp; omega))) fun _ => ?_
    refine sq_guard (b := decide (u % 5 = 3)) (by walk_at "ev") (fun _ => sg_ret (x := dI ((List.range n.toNat).filter (fun k => decide (u / 5 / 2 ^ ((k : Nat) : Int).toNat % 2 = 1)) |>.map fun k : Nat => ((k : Nat) : Int))) (ev_tupOf (EvN.s (EvN.as (en_lc1 (ys := List.range n.toNat) (enc := fun i => .int (i : Nat)) (fun k => decide (u / 5 / 2 ^ ((k : Nat) : Int).toNat % 2 = 1)) (fun k => .int (k : Nat)) (ei_rng (ea1 (ev_var rfl)) (by omega) (by omega)).j (by rw [List.length_range]; omega) rfl fun y hy => ⟨et_test (ev_eq (ev_mod (ev_shr (ev_var rfl) (ev_var rfl) (by omega)) ev_int (by decide)) ev_int), fun _ => ev_var rfl⟩) (by rw [List.map_map]; rfl)))) (hF _ ?_)) fun _ => ?_
    · rw [List.length_map]
      have := List.length_filter_le (fun k => decide (u / 5 / 2 ^ ((k : Nat) : Int).toNat % 2 = 1)) (List.range n.toNat)
      rw [List.length_range] at this
      omega
    · exact sg_ret (x := dI (cutG ns none (some (-1)) ++ [u / 5 % n])) (ev_catM (ev_slM (ev_var rfl) eo_none (eo_some (ev_neg ev_int))) (ev_tup (ea1 (ev_mod (ev_var rfl) (ev_var rfl) m0)) (by simp)) (by have := cutG_len ns none (some (-1)); simp; omega)) (hF _ (by have := cutG_len ns none (some (-1)); rw [List.length_append]; simp; omega))
def sp_bent_paper : Spec := fun ds F => ∃ p u n, ds = [dPap p, .int u, .int n] ∧ 1 ≤ n ∧ n ≤ 4 ∧ SP p ∧ ∀ p', GPap p' → F (dPap p')
/-- cuts of a size that goes -/
def CZ (cs : List Cut) : Prop := cs.length ≤ 20 ∧ ∀ c ∈ cs, c.2.length ≤ 1000
theorem CZ.app {a b : List Cut} (ha : CZ a) (hb : CZ b) (h : a.length + b.length ≤ 20) : CZ (a ++ b) := ⟨by rw [List.length_append]; exact h, fun c hc => by
  rcases List.mem_append.mp hc with hc | hc
  · exact ha.2 c hc
  · exact hb.2 c hc⟩
theorem CZ.cut {a : List Cut} (ha : CZ a) (lo hi : Option Int) : CZ (cutG a lo hi) := ⟨Nat.le_trans (cutG_len _ _ _) ha.1, fun c hc => ha.2 c (cutG_mem hc)⟩
theorem CZ.one {c : Cut} (h : c.2.length ≤ 1000) : CZ [c] := ⟨by simp, fun d hd => by rw [List.mem_singleton.mp hd]; exact h⟩
def RZ (p : List Row) : Prop := ∀ r ∈ p, ∀ c ∈ r.2, c.2.length ≤ 1000
theorem RZ.app {a b : List Row} (ha : RZ a) (hb : RZ b) : RZ (a ++ b) := fun c hc => by
  rcases List.mem_append.mp hc with hc | hc
  · exact ha c hc
  · exact hb c hc
theorem RZ.cut {a : List Row} (ha : RZ a) (lo hi : Option Int) : RZ (cutG a lo hi) := fun c hc => ha c (cutG_mem hc)
-- slots: 0 _law_paper_here, 1 _law_number*, 2 _law_count, 3 _law_more, 4 _law_at, 5 _law_lump, 6 _law_cuts_here, 7 _law_way, 8 _law_spot, 9 _law_names, 10 _law_cut_here, 11 _law_name
theorem ok_law_bent_paper (S : Su K mg) : Good P w (tx K) mg base 2 (He.fAd K ("_law_bent_paper", none)) ["_law_paper_here", "_law_number", "_law_count"] sp_bent_paper := by
  obtain ⟨fd, F⟩ := S.def_ 37 (d := d_law_bent_paper)
  have g_law_bent_set := ok_law_bent_set (P := P) (w := w) (base := base) S
  refine good_of F sc_law_bent_paper (fun _ _ _ _ _ _ us hl => match us, hl with | [_, _, _], _ => rfl) ?len ?body
  case len => intro ds F ⟨_, _, _, e, _⟩; rw [e]; rfl
  case body =>
    intro cdv' A outer s H E hr ds F ⟨p, u, n, e, n1, n4, hp, hF⟩
    subst e
    have hz := hp.1
    have hrz : RZ p := fun r hr c hc => Nat.le_trans ((hp.2 r hr).2.2 c hc) (by decide)
    refine ⟨_, (pss_cons (ps_if (PW.pt (pw_or (pt_cmpR (op_eqK (K := K) hr) (pe_callB (call_lenK (K := K)) (by rfl) (S.free 43) PySem.boot_len (pa_cons (pv 0) pa_nil)) pe_int (nomark _)) (pw_or1 (pt_cmpR (op_eqK (K := K) hr) (pe_op op_modX (pv 1) pe_int) pe_int (nomark _))))) (pss_cons (ps_set (i := 3) sc_law_bent_paper.nd rfl (Or.inl rfl) (pe_lst (pa_cons (pe_slice sl_X (pv 0) (po_some pe_int) po_none) (pa_cons (pe_op (op_addK (K := K)) (pe_slice sl_X (pv 0) (po_some pe_int) po_none) (pe_slice sl_X (pv 0) po_none (po_some pe_int))) (pa_cons (pe_op (op_addK (K := K)) (pv 0) (pe_slice sl_X (pv 0) (po_some (pe_un un_neg pe_int)) po_none)) (pa_cons (pe_op (op_addK (K := K)) (pe_slice sl_X (pv 0) po_none (po_some pe_int)) (pv 0)) pa_nil))))))
    (pss_one (ps_ret (pe_ix (ix_seqK (K := K)) (pv 3) (pe_op op_modX (pe_op op_divX (pv 1) pe_int) pe_int) (fun _ _ => rfl))))) pss_nil)
    (pss_cons (ps_set (i := 4) sc_law_bent_paper.nd rfl (Or.inl rfl) (pe_op op_modX (pe_op op_divX (pv 1) pe_int) (pe_callB (call_lenK (K := K)) (by rfl) (S.free 43) PySem.boot_len (pa_cons (pv 0) pa_nil))))
    (pss_cons (ps_asg (pe_ix (ix_seqK (K := K)) (pv 0) (pv 4) (fun _ _ => rfl)) (pg_seqK (K := K) (n := 2) rfl (pgs_cons (pg_name (i := 5) sc_law_bent_paper.nd rfl (Or.inl rfl)) (pgs_cons (pg_name (i := 6) sc_law_bent_paper.nd rfl (Or.inl rfl)) pgs_nil))))
    (pss_cons (ps_set (i := 7) sc_law_bent_paper.nd rfl (Or.inl rfl) (pe_op op_modX (pe_op op_divX (pv 1) pe_int) pe_int))
    (pss_cons (ps_set (i := 1) sc_law_bent_paper.nd rfl (Or.inr rfl) (pe_op op_divX (pv 1) pe_int))
    (pss_cons (ps_set (i := 8) sc_law_bent_paper.nd rfl (Or.inl rfl) (pe_op op_modX (pv 1) (pe_op (op_addK (K := K)) (pe_callB (call_lenK (K := K)) (by rfl) (S.free 43) PySem.boot_len (pa_cons (pv 6) pa_nil)) pe_int)))
    (pss_cons (ps_if (pt_cmpR (op_eqK (K := K) hr) (pv 7) pe_int (nomark _)) (pss_one (ps_set (i := 5) sc_law_bent_paper.nd rfl (Or.inl rfl) (pe_callG (T := tx K) g_law_bent_set (hr.mono (by decide)) (by rfl) (S.glo 31) (pa_cons (pv 5) (pa_cons (pe_op op_divX (pv 1) pe_int) (pa_cons (pv 2) pa_nil)))))) (pss_one (ps_if (pt_cmpR (op_eqK (K := K) hr) (pv 7) pe_int (nomark _)) (pss_one (ps_set (i := 6) sc_law_bent_paper.nd rfl (Or.inl rfl) (pe_op (op_addK (K := K)) (pe_slice sl_X (pv 6) po_none (po_some (pv 8))) (pe_slice sl_X (pv 6) (po_some (pe_op (op_addK (K := K)) (pv 8) pe_int)) po_none)))) (pss_one (ps_if (pt_cmpR (op_eqK (K := K) hr) (pv 7) pe_int (nomark _)) (pss_cons (ps_set (i := 9) sc_law_bent_paper.nd rfl (Or.inl rfl) (pe_callTy call_tupX (by rfl) (S.free 46) (by decide +kernel) (pa_cons (pe_lc (own := [("_law_name", 11)]) rfl sc_law_bent_paper.nd (pi_range1 (by rfl) (S.free 44) (pa_cons (pv 2) pa_nil)) (blkOk_by (own := [("_law_name", 11)]) (N := N_law_bent_paper) (sc := defScope (top 48)) (by decide +kernel)) (fun _ _ _ _ _ => (pg_name (i := 11) sc_law_bent_paper.nd rfl (by first | exact Or.inl rfl | exact Or.inr rfl))) (fun _ _ _ _ _ => (pts_one (pt_cmpR (op_eqK (K := K) hr) (pe_op op_modX (pe_op op_shrX (pe_op op_divX (pv 1) pe_int) (pv 11)) pe_int) pe_int (nomark _)))) (fun _ _ _ _ _ => (pv 11))) pa_nil)))
    (pss_cons (ps_set (i := 10) sc_law_bent_paper.nd rfl (Or.inl rfl) (pe_tup (pa_cons (pe_ix (ix_seqK (K := K)) (pe_lst (pa_cons pe_str (pa_cons pe_str pa_nil))) (pe_op op_modX (pe_op op_divX (pv 1) (pe_op op_powX pe_int pe_int)) pe_int) (fun _ _ => rfl)) (pa_cons (pv 9) pa_nil))))
    (pss_one (ps_set (i := 6) sc_law_bent_paper.nd rfl (Or.inl rfl) (pe_op (op_addK (K := K)) (pe_op (op_addK (K := K)) (pe_slice sl_X (pv 6) po_none (po_some (pv 8))) (pe_tup (pa_cons (pv 10) pa_nil))) (pe_slice sl_X (pv 6) (po_some (pv 8)) po_none)))))) (pss_one (ps_if (PW.pt (pw_and (pt_cmpR (op_eqK (K := K) hr) (pv 7) pe_int (nomark _)) (pw_and1 (pt_cmpR op_ltX (pv 8) (pe_callB (call_lenK (K := K)) (by rfl) (S.free 43) PySem.boot_len (pa_cons (pv 6) pa_nil)) (nomark _))))) (pss_cons (ps_set (i := 10) sc_law_bent_paper.nd rfl (Or.inl rfl) (pe_tup (pa_cons (pe_ix (ix_seqK (K := K)) (pe_lst (pa_cons pe_str (pa_cons pe_str (pa_cons pe_str pa_nil)))) (pe_op op_modX (pe_op op_divX (pv 1) pe_int) pe_int) (fun _ _ => rfl)) (pa_cons (pe_ix (ix_seqK (K := K)) (pe_ix (ix_seqK (K := K)) (pv 6) (pv 8) (fun _ _ => rfl)) pe_int (fun _ _ => rfl)) pa_nil))))
    (pss_one (ps_set (i := 6) sc_law_bent_paper.nd rfl (Or.inl rfl) (pe_op (op_addK (K := K)) (pe_op (op_addK (K := K)) (pe_slice sl_X (pv 6) po_none (po_some (pv 8))) (pe_tup (pa_cons (pv 10) pa_nil))) (pe_slice sl_X (pv 6) (po_some (pe_op (op_addK (K := K)) (pv 8) pe_int)) po_none))))) (pss_one (ps_if (PW.pt (pw_and (pt_cmpR (op_eqK (K := K) hr) (pv 7) pe_int (nomark _)) (pw_and1 (pt_cmpR op_ltX (pv 8) (pe_callB (call_lenK (K := K)) (by rfl) (S.free 43) PySem.boot_len (pa_cons (pv 6) pa_nil)) (nomark _))))) (pss_cons (ps_set (i := 10) sc_law_bent_paper.nd rfl (Or.inl rfl) (pe_tup (pa_cons (pe_ix (ix_seqK (K := K)) (pe_ix (ix_seqK (K := K)) (pv 6) (pv 8) (fun _ _ => rfl)) pe_int (fun _ _ => rfl)) (pa_cons (pe_callG (T := tx K) g_law_bent_set (hr.mono (by decide)) (by rfl) (S.glo 31) (pa_cons (pe_ix (ix_seqK (K := K)) (pe_ix (ix_seqK (K := K)) (pv 6) (pv 8) (fun _ _ => rfl)) pe_int (fun _ _ => rfl)) (pa_cons (pe_op op_divX (pv 1) pe_int) (pa_cons (pv 2) pa_nil)))) pa_nil))))
    (pss_one (ps_set (i := 6) sc_law_bent_paper.nd rfl (Or.inl rfl) (pe_op (op_addK (K := K)) (pe_op (op_addK (K := K)) (pe_slice sl_X (pv 6) po_none (po_some (pv 8))) (pe_tup (pa_cons (pv 10) pa_nil))) (pe_slice sl_X (pv 6) (po_some (pe_op (op_addK (K := K)) (pv 8) pe_int)) po_none))))) (pss_one (ps_set (i := 6) sc_law_bent_paper.nd rfl (Or.inl rfl) (pe_op (op_addK (K := K)) (pv 6) (pe_slice sl_X (pv 6) (po_some (pe_un un_neg pe_int)) po_none)))))))))))))
    (pss_one (ps_ret (pe_op (op_addK (K := K)) (pe_op (op_addK (K := K)) (pe_slice sl_X (pv 0) po_none (po_some (pv 4))) (pe_tup (pa_cons (pe_tup (pa_cons (pv 5) (pa_cons (pv 6) pa_nil))) pa_nil))) (pe_slice sl_X (pv 0) (po_some (pe_op (op_addK (K := K)) (pv 4) pe_int)) po_none))))))))))), ?_⟩
    have lc : ∀ lo hi, (cutG p lo hi).length ≤ 4 := fun lo hi => Nat.le_trans (cutG_len p lo hi) hz
    refine sq_guard (b := decide ((p.length : Int) = 0) || decide (u % 7 = 0)) (et_or (et_test ((ev_eq (ev_len (ev_var rfl).sT) ev_int).as (by rw [List.length_map]))) fun _ => by walk_at "ev") (fun _ => ?_) fun h => ?_
    · have l1 := lc (some 1) none
      have l2 := lc none (some 1)
      have l3 := lc (some (-1)) none
      refine sq_asg (x := .lst ([cutG p (some 1) none, cutG p (some 1) none ++ cutG p none (some 1), p ++ cutG p (some (-1)) none, cutG p none (some 1) ++ p].map dPap)) (EvN.d (en_lst (ea_cons (ev_slM (ev_var rfl) (eo_some ev_int) eo_none) (ea_cons (ev_catM (ev_slM (ev_var rfl) (eo_some ev_int) eo_none) (ev_slM (ev_var rfl) eo_none (eo_some ev_int)) (by omega)) (ea2 (ev_catM (ev_var rfl) (ev_slM (ev_var rfl) (eo_some (ev_neg ev_int)) eo_none) (by omega)) (ev_catM (ev_slM (ev_var rfl) eo_none (eo_some ev_int)) (ev_var rfl) (by omega))))) (by simp))) ?_
      obtain ⟨q, hq, hat⟩ := ix_mod (l := [cutG p (some 1) none, cutG p (some 1) none ++ cutG p none (some 1), p ++ cutG p (some (-1)) none, cutG p none (some 1) ++ p]) (by simp) (u / 7)
      refine sg_ret (x := dPap q) (ev_ix (EvD.sL (ev_var rfl)) (ev_mod (ev_div (ev_var rfl) ev_int cdv) ev_int (by decide)) (atI_map dPap hat)) (hF q ?_)
      simp only [List.mem_cons, List.not_mem_nil, or_false] at hq
      rcases hq with e | e | e | e <;> subst e
      · exact ⟨by omega, hrz.cut _ _⟩
      · exact ⟨by rw [List.length_append]; omega, (hrz.cut _ _).app (hrz.cut _ _)⟩
      · exact ⟨by rw [List.length_append]; omega, hrz.app (hrz.cut _ _)⟩
      · exact ⟨by rw [List.length_append]; omega, (hrz.cut _ _).app hrz⟩
    · have pne : p ≠ [] := fun z => by rw [z] at h; exact absurd h (by simp)
      have plp := List.length_pos_iff.mpr pne
      obtain ⟨r, hr1, hat⟩ := ix_mod pne (u / 7)
      obtain ⟨r1, r2, r3⟩ := hp.2 r hr1
      refine sq_asg (x := .int (u / 7 % (p.length : Nat))) ((ev_mod (ev_div (ev_var rfl) ev_int cdv) (ev_len (ev_var rfl).sT) (by rw [List.length_map]; omega)).as (by rw [List.length_map])) ?_
      generalize u / 7 % (p.length : Nat) = at1 at *
      refine sq_asgB (x := dRow r) (ev_ix (EvD.sT (ev_var rfl)) (ev_var rfl) (atI_map dRow hat)) bd_2T ?_
      refine sq_asg (x := .int (u / 42 % 6)) (ev_mod (ev_div (ev_var rfl) ev_int cdv) ev_int (by decide)) ?_
      generalize u / 42 % 6 = way
      refine sq_asg (x := .int (u / 252)) (ev_div (ev_var rfl) ev_int cdv) ?_
      generalize u / 252 = v
      refine sq_asg (x := .int (v % ((r.2.length : Nat) + 1))) ((ev_mod (ev_var rfl) (ev_add (ev_len (ev_var (x := dCs r.2) rfl).sT) ev_int) (by rw [List.length_map]; omega)).as (by rw [List.length_map])) ?_
      have s0 : 0 ≤ v % ((r.2.length : Nat) + 1) := Int.emod_nonneg _ (by omega)
      generalize v % ((r.2.length : Nat) + 1) = spot at *
      have cz : CZ r.2 := ⟨by omega, fun c hc => Nat.le_trans (r3 c hc) (by decide)⟩
      have lcz : ∀ lo hi, (cutG r.2 lo hi).length ≤ 4 := fun lo hi => Nat.le_trans (cutG_len r.2 lo hi) r2
      have czc := fun lo hi => cz.cut lo hi
      refine sq_ife (fun G2 => ∃ lump cuts, CZ cuts ∧ Wk G2 [.d (dPap p), .d (.int v), .d (.int n), .un, .d (.int at1), .d (dI lump), .d (dCs cuts), .un, .un, .un, .un, .un]) (b := decide (way = 0)) (by walk_at "ev") (fun _ => ?_) (fun _ => ?_) ?_
      · refine sg_asgP (F := fun x => ∃ l, x = dI l) (ev_call (T := tx K) (ea_cons (ev_var rfl) (ea2 (ev_div (ev_var rfl) ev_int cdv) (ev_var rfl))) ⟨r.1, v / 8, n, rfl, n1, n4, by omega, fun l _ => ⟨l, rfl⟩⟩) ?_
        rintro _ ⟨l, rfl⟩
        exact ⟨l, r.2, cz, by walk_at "wk"⟩
      · refine sg_if (b := decide (way = 1)) (by walk_at "ev") (fun _ => ?_) fun _ => ?_
        · have l1 := lcz none (some spot)
          have l2 := lcz (some (spot + 1)) none
          exact sg_asgB (x := dCs (cutG r.2 none (some spot) ++ cutG r.2 (some (spot + 1)) none)) (ev_catM (ev_slM (ev_var rfl) eo_none (eo_some (ev_var rfl))) (ev_slM (ev_var rfl) (eo_some (ev_add (ev_var rfl) ev_int)) eo_none) (by omega)) bd_name ⟨r.1, _, (czc none (some spot)).app (czc (some (spot + 1)) none) (by omega), by walk_at "wk"⟩
        · refine sg_if (b := decide (way = 2)) (by walk_at "ev") (fun _ => ?_) fun _ => ?_
          · have l1 := lcz none (some spot)
            have l2 := lcz (some spot) none
            refine sq_asg (x := dI (((List.range n.toNat).filter fun k => decide (v / 8 / 2 ^ ((k : Nat) : Int).toNat % 2 = 1)).map fun k : Nat => ((k : Nat) : Int))) (ev_tupOf (EvN.s (EvN.as (en_lc1 (ys := List.range n.toNat) (enc := fun i => .int (i : Nat)) (fun k => decide (v / 8 / 2 ^ ((k : Nat) : Int).toNat % 2 = 1)) (fun k => .int (k : Nat)) (ei_rng (ea1 (ev_var rfl)) (by omega) (by omega)).j (by rw [List.length_range]; omega) rfl fun y hy => ⟨et_test (ev_eq (ev_mod (ev_shr (ev_div (ev_var rfl) ev_int cdv) (ev_var rfl) (by omega)) ev_int (by decide)) ev_int), fun _ => ev_var rfl⟩) (by rw [List.map_map]; rfl)))) ?_
            have lnm : (((List.range n.toNat).filter fun k => decide (v / 8 / 2 ^ ((k : Nat) : Int).toNat % 2 = 1)).map fun k : Nat => ((k : Nat) : Int)).length ≤ 1000 := by
              rw [List.length_map]
              have := List.length_filter_le (fun k => decide (v / 8 / 2 ^ ((k : Nat) : Int).toNat % 2 = 1)) (List.range n.toNat)
              rw [List.length_range] at this
              omega
            generalize (((List.range n.toNat).filter fun k => decide (v / 8 / 2 ^ ((k : Nat) : Int).toNat % 2 = 1)).map fun k : Nat => ((k : Nat) : Int)) = nm at *
            have p4 : (10 : Int) ^ (4 : Int).toNat = 10000 := by decide
            obtain ⟨wd, _, hwd⟩ := ix_mod (l := [("up" : Str), ("lump" : Str)]) (by simp) (v / 10000)
            refine sq_asg (x := dC (wd, nm)) (ev_tup (ea2 (ev_ix (x := .str wd) (EvN.s (en_lst (ds := [("up" : Str), ("lump" : Str)].map .str) (ea2 ev_str ev_str) (by simp))) (ev_mod (ev_div (ev_var rfl) ((ev_pw (by decide) (by decide) (by decide)).as (by rw [p4])) cdv) ev_int (by decide)) (atI_map _ hwd)) (ev_var rfl)) (by simp)) ?_
            exact sg_asgB (x := dCs ((cutG r.2 none (some spot) ++ [(wd, nm)]) ++ cutG r.2 (some spot) none)) (ev_catM (ev_catM (ev_slM (ev_var rfl) eo_none (eo_some (ev_var rfl))) (ev_tup (ea1 (ev_var rfl)) (by simp)) (by simp; omega)) (ev_slM (ev_var rfl) (eo_some (ev_var rfl)) eo_none) (by rw [List.length_append]; simp; omega)) bd_name ⟨r.1, _, ((czc none (some spot)).app (CZ.one (c := (wd, nm)) lnm) (by simp; omega)).app (czc (some spot) none) (by rw [List.length_append]; simp; omega), by walk_at "wk"⟩
          · have l1 := lcz none (some spot)
            have l2 := lcz (some (spot + 1)) none
            have at2 : spot < ((r.2.length : Nat) : Int) → ∃ c ∈ r.2, atI r.2 spot = some c := fun hs => by
              have hk : spot.toNat < r.2.length := by omega
              have e : spot = ((spot.toNat : Nat) : Int) := by omega
              have := atI_nat (xs := r.2) (List.getElem?_eq_getElem hk)
              rw [← e] at this
              exact ⟨_, List.getElem_mem hk, this⟩
            refine sg_if (b := decide (way = 3) && decide (spot < ((r.2.length : Nat) : Int))) (et_and (by walk_at "ev") fun _ => et_test ((ev_lt (ev_var rfl) (ev_len (ev_var (x := dCs r.2) rfl).sT)).as (by rw [List.length_map]))) (fun h3 => ?_) fun _ => ?_
            · rw [Bool.and_eq_true] at h3
              obtain ⟨c, hc, hcat⟩ := at2 (of_decide_eq_true h3.2)
              obtain ⟨wd, _, hwd⟩ := ix_mod (l := [("lump" : Str), ("up" : Str), ("ups" : Str)]) (by simp) (v / 8)
              refine sq_asg (x := dC (wd, c.2)) (ev_tup (ea2 (ev_ix (x := .str wd) (EvN.s (en_lst (ds := [("lump" : Str), ("up" : Str), ("ups" : Str)].map .str) (ea_cons ev_str (ea2 ev_str ev_str)) (by simp))) (ev_mod (ev_div (ev_var rfl) ev_int cdv) ev_int (by decide)) (atI_map _ hwd)) (ev_ixN (j := 1) (x := dI c.2) (EvD.sT (ds := [.str c.1, dI c.2]) (ev_ix (x := dC c) (EvD.sT (ev_var (x := dCs r.2) rfl)) (ev_var rfl) (atI_map dC hcat))) ev_int rfl)) (by simp)) ?_
              exact sg_asgB (x := dCs ((cutG r.2 none (some spot) ++ [(wd, c.2)]) ++ cutG r.2 (some (spot + 1)) none)) (ev_catM (ev_catM (ev_slM (ev_var rfl) eo_none (eo_some (ev_var rfl))) (ev_tup (ea1 (ev_var rfl)) (by simp)) (by simp; omega)) (ev_slM (ev_var rfl) (eo_some (ev_add (ev_var rfl) ev_int)) eo_none) (by rw [List.length_append]; simp; omega)) bd_name ⟨r.1, _, ((czc none (some spot)).app (CZ.one (c := (wd, c.2)) (cz.2 c hc)) (by simp; omega)).app (czc (some (spot + 1)) none) (by rw [List.length_append]; simp; omega), by walk_at "wk"⟩
            · refine sg_if (b := decide (way = 4) && decide (spot < ((r.2.length : Nat) : Int))) (et_and (by walk_at "ev") fun _ => et_test ((ev_lt (ev_var rfl) (ev_len (ev_var (x := dCs r.2) rfl).sT)).as (by rw [List.length_map]))) (fun h3 => ?_) fun _ => ?_
              · rw [Bool.and_eq_true] at h3
                obtain ⟨c, hc, hcat⟩ := at2 (of_decide_eq_true h3.2)
                have lc4 := r3 c hc
                refine sq_asgP (F := fun x => ∃ l : List Int, x = dC (c.1, l) ∧ l.length ≤ 200) (EvP.mono (ev_tupP (eap2 (EvD.q (ev_ixN (j := 0) (x := .str c.1) (EvD.sT (ds := [.str c.1, dI c.2]) (ev_ix (x := dC c) (EvD.sT (ev_var (x := dCs r.2) rfl)) (ev_var rfl) (atI_map dC hcat))) ev_int rfl)) (ev_call (T := tx K) (F := fun x => ∃ l : List Int, x = dI l ∧ l.length ≤ 200) (ea_cons (ev_ixN (j := 1) (x := dI c.2) (EvD.sT (ds := [.str c.1, dI c.2]) (ev_ix (x := dC c) (EvD.sT (ev_var (x := dCs r.2) rfl)) (ev_var rfl) (atI_map dC hcat))) ev_int rfl) (ea2 (ev_div (ev_var rfl) ev_int cdv) (ev_var rfl))) ⟨c.2, v / 8, n, rfl, n1, n4, by omega, fun l hl => ⟨l, rfl, hl⟩⟩)) (fun ds ⟨_, _, e, _⟩ => by rw [e]; simp)) ?_) ?_
                · rintro _ ⟨ds, rfl, x, y, rfl, rfl, l, rfl, hl⟩
                  exact ⟨l, rfl, hl⟩
                · rintro _ ⟨l, rfl, hl⟩
                  exact sg_asgB (x := dCs ((cutG r.2 none (some spot) ++ [(c.1, l)]) ++ cutG r.2 (some (spot + 1)) none)) (ev_catM (ev_catM (ev_slM (ev_var rfl) eo_none (eo_some (ev_var rfl))) (ev_tup (ea1 (ev_var rfl)) (by simp)) (by simp; omega)) (ev_slM (ev_var rfl) (eo_some (ev_add (ev_var rfl) ev_int)) eo_none) (by rw [List.length_append]; simp; omega)) bd_name ⟨r.1, _, ((czc none (some spot)).app (CZ.one (c := (c.1, l)) (by show l.length ≤ 1000; omega)) (by simp; omega)).app (czc (some (spot + 1)) none) (by rw [List.length_append]; simp; omega), by walk_at "wk"⟩
              · have l3 := lcz (some (-1)) none
                exact sg_asgB (x := dCs (r.2 ++ cutG r.2 (some (-1)) none)) (ev_catM (ev_var rfl) (ev_slM (ev_var rfl) (eo_some (ev_neg ev_int)) eo_none) (by omega)) bd_name ⟨r.1, _, cz.app (czc (some (-1)) none) (by omega), by walk_at "wk"⟩
      · rintro G2 ⟨lump, cuts, hcz, hw⟩
        refine sg_wk hw ?_
        have l1 := lc none (some at1)
        have l2 := lc (some (at1 + 1)) none
        refine sg_ret (x := dPap ((cutG p none (some at1) ++ [(lump, cuts)]) ++ cutG p (some (at1 + 1)) none)) (ev_catM (ev_catM (ev_slM (ev_var rfl) eo_none (eo_some (ev_var rfl))) (ev_tup (ea1 (ev_tup (ea2 (ev_var rfl) (ev_var rfl)) (by simp))) (by simp)) (by simp; omega)) (ev_slM (ev_var rfl) (eo_some (ev_add (ev_var rfl) ev_int)) eo_none) (by rw [List.length_append]; simp; omega)) (hF _ ⟨by rw [List.length_append, List.length_append]; simp; omega, RZ.app (RZ.app (hrz.cut _ _) fun r hr => by rw [List.mem_singleton.mp hr]; exact hcz.2) (hrz.cut _ _)⟩)
end
end W3

namespace W3
/-! ### what the law computes of its world -/
structure GRow (s : Int) (r : List Int) : Prop where
  len : (r.length : Int) = s
  pos : ∀ x ∈ r, 0 < x
  sum : r.sum = 8
def headT (ts : List (Int × Int)) (i : Int) : List (Int × Int) := ts.filter fun p => decide (p.2 = i)
def headB (bs : List (Int × Int)) (i : Int) : List ((Int × Int) × Nat) := bs.zipIdx.filter fun q => decide (i ∈ [q.1.1, q.1.2])
/-- the sizes of the heads of i, the widths of the bows w -/
def headS (ts bs : List (Int × Int)) (sz wd : List Int) (i : Int) : List Int := ((headT ts i).map fun p => sz.getD p.1.toNat 0) ++ (headB bs i).map fun q => wd.getD q.2 0
def prodL (l : List Int) : Int := l.foldl (· * ·) 1
structure GWorld (n : Int) (ts bs : List (Int × Int)) (sz : List Int) (hid : List (List Int)) (tab : List (List (List Int))) : Prop where
  szl : sz.length = n.toNat
  szv : ∀ s ∈ sz, s = 2 ∨ s = 3
  hil : hid.length = bs.length
  hir : ∀ r ∈ hid, GRow 2 r
  tal : tab.length = n.toNat
  tar : ∀ (k : Nat) t, tab[k]? = some t → (t.length : Int) = prodL (headS ts bs sz (hid.map fun r => (r.length : Int)) (k : Nat)) ∧ ∀ r ∈ t, GRow (sz.getD k 0) r
def wayStep (got : List (List Int)) (s : Int) : List (List Int) := got.flatMap fun w => (rgI s).map fun x => w ++ [x]
def waysF (szs : List Int) : List (List Int) := szs.foldl wayStep [[]]
def atT (sz v : List Int) (i : Int) (a : Int) (p : Int × Int) : Int := if decide (p.2 = i) = true then a * sz.getD p.1.toNat 0 + v.getD p.1.toNat 0 else a
def atB (wd h : List Int) (i : Int) (a : Int) (q : (Int × Int) × Nat) : Int := if decide (i ∈ [q.1.1, q.1.2]) = true then a * wd.getD q.2 0 + h.getD q.2 0 else a
def atF (ts bs : List (Int × Int)) (sz wd v h : List Int) (i : Int) : Int := bs.zipIdx.foldl (atB wd h i) (ts.foldl (atT sz v i) 0)
def rowF (ts bs : List (Int × Int)) (sz wd : List Int) (tab : List (List (List Int))) (i : Int) (v h : List Int) : List Int := (tab.getD i.toNat []).getD (atF ts bs sz wd v h i).toNat []
def hwF (hid : List (List Int)) (h : List Int) : Int := h.zipIdx.foldl (fun a p => a * (hid.getD p.2 []).getD p.1.toNat 0) 1
def wtStep (ts bs : List (Int × Int)) (sz wd : List Int) (tab : List (List (List Int))) (ones v h : List Int) (a : Int) (i : Int) : Int :=
  if (!decide (i ∈ ones)) = true then a * (rowF ts bs sz wd tab i v h).getD (v.getD i.toNat 0).toNat 0 else a
def wtF (n : Int) (ts bs : List (Int × Int)) (sz : List Int) (hid : List (List Int)) (tab : List (List (List Int))) (ones v h : List Int) : Int :=
  (rgI n).foldl (wtStep ts bs sz (hid.map fun r => (r.length : Int)) tab ones v h) (hwF hid h)
def wsumF (n : Int) (ts bs : List (Int × Int)) (sz : List Int) (hid : List (List Int)) (tab : List (List (List Int))) (ones v : List Int) : Int :=
  (waysF (hid.map fun r => (r.length : Int))).foldl (fun a h => a + wtF n ts bs sz hid tab ones v h) 0
def weightsF (n : Int) (ts bs : List (Int × Int)) (sz : List Int) (hid : List (List Int)) (tab : List (List (List Int))) (ones : List Int) : List (List Int × Int) :=
  (waysF sz).map fun v => (v, wsumF n ts bs sz hid tab ones v)
def lowF (a b : Int) : Int × Int := (a / (Int.gcd a b : Int), b / (Int.gcd a b : Int))
/-! facts -/
theorem prodL_append (a b : List Int) : prodL (a ++ b) = b.foldl (· * ·) (prodL a) := by unfold prodL; rw [List.foldl_append]
theorem prodL_snoc (a : List Int) (x : Int) : prodL (a ++ [x]) = prodL a * x := by rw [prodL_append]; rfl
theorem fold_bound : ∀ (l : List Int) (a : Int), 0 < a → (∀ x ∈ l, 0 < x ∧ x ≤ 3) → 0 < l.foldl (· * ·) a ∧ l.foldl (· * ·) a ≤ a * 3 ^ l.length
  | [], a, ha, _ => ⟨ha, by simp⟩
  | x :: l, a, ha, h => by
    obtain ⟨h1, h2⟩ := h x List.mem_cons_self
    obtain ⟨h3, h4⟩ := fold_bound l (a * x) (Int.mul_pos ha h1) fun y hy => h y (List.mem_cons_of_mem _ hy)
    refine ⟨h3, Int.le_trans h4 ?_⟩
    rw [List.length_cons, Int.pow_succ', ← Int.mul_assoc]
    refine Int.mul_le_mul_of_nonneg_right (Int.mul_le_mul_of_nonneg_left h2 (Int.le_of_lt ha)) (Int.le_of_lt (Int.pow_pos (by decide)))
theorem prodL_bound {l : List Int} (h : ∀ x ∈ l, 0 < x ∧ x ≤ 3) (hl : l.length ≤ 8) : 0 < prodL l ∧ prodL l ≤ 6561 := by
  obtain ⟨h1, h2⟩ := fold_bound l 1 (by decide) h
  refine ⟨h1, Int.le_trans h2 ?_⟩
  rw [Int.one_mul]
  have : l.length = 0 ∨ l.length = 1 ∨ l.length = 2 ∨ l.length = 3 ∨ l.length = 4 ∨ l.length = 5 ∨ l.length = 6 ∨ l.length = 7 ∨ l.length = 8 := by omega
  rcases this with e | e | e | e | e | e | e | e | e <;> rw [e] <;> decide
theorem headT_len {n : Int} {ts : List (Int × Int)} {i : Int} (h : ∀ p ∈ ts, 0 ≤ p.1 ∧ p.1 < p.2 ∧ p.2 < n) (hn : ts.Nodup) : (headT ts i).length ≤ n.toNat := by
  have h1 : ((headT ts i).map (·.1)).Nodup := by
    rw [List.Nodup, List.pairwise_map]
    have h2 : (headT ts i).Nodup := hn.filter _
    refine List.Pairwise.imp_of_mem (fun {a b} ha hb hab e => hab ?_) h2
    have ea := of_decide_eq_true (List.mem_filter.mp ha).2
    have eb := of_decide_eq_true (List.mem_filter.mp hb).2
    exact Prod.ext e (ea.trans eb.symm)
  have h2 := len_of_sub (m := rgI n) h1 fun x hx => by
    obtain ⟨p, hp, rfl⟩ := List.mem_map.mp hx
    have := h p (List.mem_filter.mp hp).1
    exact rgI_mem.mpr ⟨by omega, by omega⟩
  rw [List.length_map] at h2
  unfold rgI at h2
  rw [List.length_map, List.length_range] at h2
  exact h2
theorem headB_len {bs : List (Int × Int)} {i : Int} : (headB bs i).length ≤ bs.length := by
  have := List.length_filter_le (fun q : (Int × Int) × Nat => decide (i ∈ [q.1.1, q.1.2])) bs.zipIdx
  rw [List.length_zipIdx] at this
  exact this
theorem getD_mem {α : Type} {l : List α} {k : Nat} {d : α} (h : k < l.length) : l.getD k d ∈ l := by
  rw [List.getD_eq_getElem?_getD, List.getElem?_eq_getElem h]
  exact List.getElem_mem h
/-- the heads' sizes are small, there are at most eight -/
theorem headS_ok {n : Int} {ts bs : List (Int × Int)} {sz wd : List Int} {i : Int} (n4 : n ≤ 4) (ht : ∀ p ∈ ts, 0 ≤ p.1 ∧ p.1 < p.2 ∧ p.2 < n) (hn : ts.Nodup) (hb : bs.length ≤ 4) (hs : sz.length = n.toNat) (hv : ∀ s ∈ sz, s = 2 ∨ s = 3)
    (hw : wd.length = bs.length) (hwv : ∀ s ∈ wd, s = 2) : (∀ x ∈ headS ts bs sz wd i, 0 < x ∧ x ≤ 3) ∧ (headS ts bs sz wd i).length ≤ 8 := by
  refine ⟨fun x hx => ?_, ?_⟩
  · unfold headS at hx
    rcases List.mem_append.mp hx with hx | hx
    · obtain ⟨p, hp, rfl⟩ := List.mem_map.mp hx
      have h1 := ht p (List.mem_filter.mp hp).1
      have h2 := hv _ (getD_mem (l := sz) (k := p.1.toNat) (d := 0) (by omega))
      omega
    · obtain ⟨q, hq, rfl⟩ := List.mem_map.mp hx
      have h1 := (List.mem_filter.mp hq).1
      obtain ⟨h3, h4, h5⟩ := List.mem_zipIdx h1
      have h2 := hwv _ (getD_mem (l := wd) (k := q.2) (d := 0) (by omega))
      omega
  · unfold headS
    rw [List.length_append, List.length_map, List.length_map]
    have h1 := headT_len (i := i) ht hn
    have h2 := headB_len (bs := bs) (i := i)
    omega
/-! ways -/
theorem wayStep_mem {got : List (List Int)} {s : Int} {w : List Int} : w ∈ wayStep got s ↔ ∃ u ∈ got, ∃ x, 0 ≤ x ∧ x < s ∧ w = u ++ [x] := by
  unfold wayStep
  rw [List.mem_flatMap]
  constructor
  · rintro ⟨u, hu, hw⟩
    obtain ⟨x, hx, rfl⟩ := List.mem_map.mp hw
    have := rgI_mem.mp hx
    exact ⟨u, hu, x, this.1, this.2, rfl⟩
  · rintro ⟨u, hu, x, h0, h1, rfl⟩
    exact ⟨u, hu, List.mem_map.mpr ⟨x, rgI_mem.mpr ⟨h0, h1⟩, rfl⟩⟩
theorem wayStep_nd {got : List (List Int)} {s : Int} (h : got.Nodup) : (wayStep got s).Nodup := by
  unfold wayStep List.Nodup
  rw [List.pairwise_flatMap]
  refine ⟨fun w _ => ?_, ?_⟩
  · rw [List.pairwise_map]
    exact (rgI_rise s).imp fun hlt e => by
      have := List.append_cancel_left e
      simp at this
      omega
  · refine h.imp fun hne x hx y hy e => hne ?_
    obtain ⟨a, _, rfl⟩ := List.mem_map.mp hx
    obtain ⟨b, _, rfl⟩ := List.mem_map.mp hy
    have := congrArg List.dropLast e
    simpa using this
theorem ways_nd : ∀ (szs : List Int) {got : List (List Int)}, got.Nodup → (szs.foldl wayStep got).Nodup
  | [], _, h => h
  | s :: szs, _, h => ways_nd szs (wayStep_nd h)
/-- w goes with the sizes szs -/
def InSz (szs w : List Int) : Prop := w.length = szs.length ∧ ∀ k, k < szs.length → 0 ≤ w.getD k 0 ∧ w.getD k 0 < szs.getD k 0
theorem getD_app1 {α : Type} {a b : List α} {k : Nat} {d : α} (h : k < a.length) : (a ++ b).getD k d = a.getD k d := by
  rw [List.getD_eq_getElem?_getD, List.getElem?_append_left h, List.getD_eq_getElem?_getD]
theorem getD_app2 {α : Type} {a : List α} {x d : α} : (a ++ [x]).getD a.length d = x := by
  rw [List.getD_eq_getElem?_getD, List.getElem?_append_right (Nat.le_refl _), Nat.sub_self]
  rfl
theorem InSz.snoc {szs w : List Int} {s x : Int} (h : InSz szs w) (h0 : 0 ≤ x) (h1 : x < s) : InSz (szs ++ [s]) (w ++ [x]) := by
  refine ⟨by rw [List.length_append, List.length_append, h.1]; rfl, fun k hk => ?_⟩
  rw [List.length_append] at hk
  by_cases e : k < szs.length
  · rw [getD_app1 (by rw [h.1]; exact e), getD_app1 e]
    exact h.2 k e
  · have ek : k = szs.length := by simp at hk; omega
    subst ek
    rw [getD_app2, ← h.1, getD_app2]
    exact ⟨h0, h1⟩
theorem ways_in : ∀ (szs pre : List Int) {got : List (List Int)}, (∀ w ∈ got, InSz pre w) → ∀ w ∈ szs.foldl wayStep got, InSz (pre ++ szs) w
  | [], pre, got, h, w, hw => by rw [List.append_nil]; exact h w hw
  | s :: szs, pre, got, h, w, hw => by
    have := ways_in szs (pre ++ [s]) (got := wayStep got s) (fun u hu => by
      obtain ⟨v, hv, x, h0, h1, rfl⟩ := wayStep_mem.mp hu
      exact (h v hv).snoc h0 h1) w hw
    rw [List.append_assoc] at this
    exact this
theorem ways_ok {szs w : List Int} (h : w ∈ waysF szs) : InSz szs w := by
  have := ways_in szs [] (got := [[]]) (fun u hu => by rw [List.mem_singleton.mp hu]; exact ⟨rfl, fun k hk => nomatch hk⟩) w h
  exact this
theorem ways_len : ∀ (szs : List Int) (got : List (List Int)), (∀ s ∈ szs, s ≤ 3) → (szs.foldl wayStep got).length ≤ got.length * 3 ^ szs.length
  | [], got, _ => by simp
  | s :: szs, got, h => by
    have h1 := ways_len szs (wayStep got s) fun x hx => h x (List.mem_cons_of_mem _ hx)
    have h2 : (wayStep got s).length ≤ got.length * 3 := by
      unfold wayStep
      rw [List.length_flatMap]
      have : ∀ g : List (List Int), (g.map fun w => ((rgI s).map fun x => w ++ [x]).length).sum ≤ g.length * 3 := fun g => by
        induction g with
        | nil => simp
        | cons a g ih =>
          rw [List.map_cons, List.sum_cons, List.length_cons]
          have h3 := h s List.mem_cons_self
          have : ((rgI s).map fun x => a ++ [x]).length ≤ 3 := by
            rw [List.length_map]; unfold rgI; rw [List.length_map, List.length_range]; omega
          omega
      exact this got
    rw [List.length_cons, Nat.pow_succ, List.foldl_cons]
    refine Nat.le_trans h1 ?_
    rw [Nat.mul_comm (3 ^ szs.length) 3, ← Nat.mul_assoc]
    exact Nat.mul_le_mul_right _ h2
end W3

namespace W3
open PySem PySem.Spec PyProof.Rows L2 Evl
local macro_rules | `(tactic| walk_at "ev") => `(tactic| first
  | ((with_reducible apply ev_var); exact rfl)
  | ((with_reducible apply es_own); exact rfl)
  | ((with_reducible apply el_own); exact rfl)
  | with_reducible exact ev_int
  | with_reducible exact ev_bl
  | with_reducible exact ev_str
  | with_reducible exact ev_non
  | with_reducible exact ea_nil
  | with_reducible exact et_yes
  | ((with_reducible apply ea_cons); walk_at "ev"; walk_at "ev")
  | ((with_reducible apply ev_add); walk_at "ev"; walk_at "ev")
  | ((with_reducible apply ev_sub); walk_at "ev"; walk_at "ev")
  | ((with_reducible apply ev_lt); walk_at "ev"; walk_at "ev")
  | ((with_reducible apply ev_le); walk_at "ev"; walk_at "ev")
  | ((with_reducible apply ev_gt); walk_at "ev"; walk_at "ev")
  | ((with_reducible apply ev_ge); walk_at "ev"; walk_at "ev")
  | ((with_reducible apply ev_in); walk_at "ev"; walk_at "ev")
  | ((with_reducible apply ev_ni); walk_at "ev"; walk_at "ev")
  | ((with_reducible apply ev_inLT); walk_at "ev"; walk_at "ev")
  | ((with_reducible apply ev_inL); walk_at "ev"; walk_at "ev")
  | ((with_reducible apply ev_niTT); walk_at "ev"; walk_at "ev")
  | ((with_reducible apply ev_eq); walk_at "ev"; walk_at "ev")
  | ((with_reducible apply ev_eqS); walk_at "ev"; walk_at "ev")
  | ((with_reducible apply ev_eqT); walk_at "ev"; walk_at "ev")
  | ((with_reducible apply ev_eqL); walk_at "ev"; walk_at "ev")
  | ((with_reducible apply ev_ne); walk_at "ev"; walk_at "ev")
  | ((with_reducible apply ev_neT); walk_at "ev"; walk_at "ev")
  | ((with_reducible apply ev_neL); walk_at "ev"; walk_at "ev")
  | ((with_reducible apply ev_neLT); walk_at "ev"; walk_at "ev")
  | ((with_reducible apply ev_neB); walk_at "ev"; walk_at "ev")
  | ((with_reducible apply ev_len); walk_at "ev")
  | ((with_reducible apply ev_tupOf); walk_at "ev")
  | ((with_reducible apply ev_intB); walk_at "ev")
  | ((with_reducible apply en_lstOf); walk_at "ev")
  | ((with_reducible apply et_test); walk_at "ev")
  | ((with_reducible apply et_B); walk_at "ev")
  | ((with_reducible apply et_not); walk_at "ev")
  | ((with_reducible apply EvD.sT); walk_at "ev")
  | ((with_reducible apply EvD.sL); walk_at "ev")
  | ((with_reducible apply EvD.l); walk_at "ev")
  | ((with_reducible apply EvN.s); walk_at "ev")
  | ((with_reducible apply EvN.d); walk_at "ev")
  | ((with_reducible apply EvN.l); walk_at "ev")
  | ((with_reducible apply et_and); walk_at "ev"; intro _; walk_at "ev")
  | ((with_reducible apply et_or); walk_at "ev"; intro _; walk_at "ev")
  | ((with_reducible apply ev_ixN (j := 0)); walk_at "ev"; exact ev_int; exact rfl)
  | ((with_reducible apply ev_ixN (j := 1)); walk_at "ev"; exact ev_int; exact rfl)
  | ((with_reducible apply ev_ixN (j := 2)); walk_at "ev"; exact ev_int; exact rfl)
  | ((with_reducible apply ev_mod); walk_at "ev"; walk_at "ev"; decide)
  | ((with_reducible apply ev_div); walk_at "ev"; walk_at "ev"; decide)
  | ((with_reducible apply ev_tup); walk_at "ev"; simp)
  | ((with_reducible apply en_lst); walk_at "ev"; simp))
local macro_rules | `(tactic| walk_at "wk") => `(tactic| first | exact Wk.nil | (refine Wk.cons (Wk1.rfl _) ?_; walk_at "wk") | (refine Wk.cons (Wk1.un _) ?_; walk_at "wk") | (refine Wk.cons (Wk1.fz _) ?_; walk_at "wk") | (refine Wk.cons (Wk1.lk _) ?_; walk_at "wk"))
def lLI (L : List (List Int)) : Dt := .lst (L.map lI)
def lTab (t : List (List (List Int))) : Dt := .lst (t.map lLI)
def dSpec (sz : List Int) (hid : List (List Int)) (tab : List (List (List Int))) : Dt := .lst [lI sz, lLI hid, lTab tab]
section
variable {T : Tx} {G : List Sl} {ta tb : TE}
theorem ev_ixZ {α : Type} {ys : List α} {enc : α → Dt} {d : α} {i : Int} (ha : EvS T ta G (ys.map enc)) (hb : EvD T tb G (.int i)) (h0 : 0 ≤ i) (hk : i.toNat < ys.length) : EvD T (tOp (rIx T.K) ta tb) G (enc (ys.getD i.toNat d)) := by
  have e : i = ((i.toNat : Nat) : Int) := by omega
  rw [e] at hb
  exact ev_ixM ha hb hk
theorem ev_ixZI {ns : List Int} {i : Int} (ha : EvS T ta G (ns.map .int)) (hb : EvD T tb G (.int i)) (h0 : 0 ≤ i) (hk : i.toNat < ns.length) : EvD T (tOp (rIx T.K) ta tb) G (.int (ns.getD i.toNat 0)) := ev_ixZ (enc := .int) ha hb h0 hk
end
theorem bt_le {i : Int} {a : Nat} (h0 : 0 ≤ i) (h : i ≤ 65535) (ha : 16 ≤ a := by decide) : Bt a i := (Bt.of (a := 16) h0 (by omega)).mono ha
section
variable {P : Program} {w : World} {K : PySem.W.Frag} {mg : Str → Option Value} {base : Heap}
def sp_eighths : Spec := fun ds F => ∃ u s, ds = [.int u, .int s] ∧ (s = 2 ∨ s = 3) ∧ ∀ r, GRow s r → F (lI r)
-- slots: 0 _law_number, 1 _law_size, 2 _law_first
theorem ok_law_eighths (S : Su K mg) : Good P w (tx K) mg base 1 (He.fAd K ("_law_eighths", none)) ["_law_number", "_law_size"] sp_eighths := by
  obtain ⟨fd, F⟩ := S.def_ 38 (d := d_law_eighths)
  refine good_of F sc_law_eighths (fun _ _ _ _ _ _ us hl => match us, hl with | [_, _], _ => rfl) ?len ?body
  case len => intro ds F ⟨_, _, e, _⟩; rw [e]; rfl
  case body =>
    intro cdv' A outer s H E hr ds F ⟨u, s, e, hs, hF⟩
    subst e
    refine ⟨_, (pss_cons (ps_if (pt_cmpR (op_eqK (K := K) hr) (pv 1) pe_int (nomark _)) (pss_cons (ps_set (i := 2) sc_law_eighths.nd rfl (Or.inl rfl) (pe_op (op_addK (K := K)) pe_int (pe_op op_modX (pv 0) pe_int)))
    (pss_one (ps_ret (pe_lst (pa_cons (pv 2) (pa_cons (pe_op op_subX pe_int (pv 2)) pa_nil)))))) pss_nil)
    (pss_cons (ps_if (pt_cmpR (op_eqK (K := K) hr) (pv 1) pe_int (nomark _)) (pss_one (ps_ret (pe_lst (pa_cons (pe_op (op_addK (K := K)) pe_int (pe_op op_modX (pv 0) pe_int)) (pa_cons (pe_op (op_addK (K := K)) pe_int (pe_op op_modX (pe_op op_divX (pv 0) pe_int) pe_int)) (pa_cons (pe_op op_subX (pe_op op_subX pe_int (pe_op op_modX (pv 0) pe_int)) (pe_op op_modX (pe_op op_divX (pv 0) pe_int) pe_int)) pa_nil)))))) pss_nil)
    pss_never)), ?_⟩
    refine sq_guard (b := decide (s = 2)) (by walk_at "ev") (fun h => ?_) fun h => ?_
    · have h2 := of_decide_eq_true h
      subst h2
      refine sq_asg (x := .int (1 + u % 7)) (by walk_at "ev") ?_
      refine sg_ret (x := lI [1 + u % 7, 8 - (1 + u % 7)]) (EvN.d (en_lst (ea2 (ev_var rfl) (by walk_at "ev")) (by simp))) (hF _ ⟨rfl, fun x hx => ?_, by simp; omega⟩)
      have h0 := Int.emod_nonneg u (show (7 : Int) ≠ 0 by decide)
      have h1 := Int.emod_lt_of_pos u (show (0 : Int) < 7 by decide)
      simp only [List.mem_cons, List.not_mem_nil, or_false] at hx
      rcases hx with e | e <;> rw [e] <;> omega
    · have h3 : s = 3 := by
        have := of_decide_eq_false h
        omega
      subst h3
      refine sq_guard (b := true) (EvT.as (b := decide ((3 : Int) = 3)) (by walk_at "ev") rfl) (fun _ => ?_) (fun h => nomatch h)
      refine sg_ret (x := lI [1 + u % 3, 1 + u / 3 % 3, 6 - u % 3 - u / 3 % 3]) (EvN.d (en_lst (ea_cons (by walk_at "ev") (ea2 (ev_add ev_int (ev_mod (ev_div (ev_var rfl) ev_int cdv) ev_int (by decide))) (ev_sub (by walk_at "ev") (ev_mod (ev_div (ev_var rfl) ev_int cdv) ev_int (by decide))))) (by simp))) (hF _ ⟨rfl, fun x hx => ?_, by simp; omega⟩)
      have h0 := Int.emod_nonneg u (show (3 : Int) ≠ 0 by decide)
      have h1 := Int.emod_lt_of_pos u (show (0 : Int) < 3 by decide)
      have h2 := Int.emod_nonneg (u / 3) (show (3 : Int) ≠ 0 by decide)
      have h3 := Int.emod_lt_of_pos (u / 3) (show (0 : Int) < 3 by decide)
      simp only [List.mem_cons, List.not_mem_nil, or_false] at hx
      rcases hx with e | e | e <;> rw [e] <;> omega
def encH (p : Dt × Int) : Dt := .tup [p.1, .int p.2]
def sp_heads : Spec := fun ds F => ∃ n ts bs sz wd i, ds = [dSh n ts bs, lI sz, lI wd, .int i] ∧ GS n ts bs ∧ sz.length = n.toNat ∧ wd.length = bs.length ∧ ∀ hs : List (Dt × Int), hs.map (·.2) = headS ts bs sz wd i → F (.lst (hs.map encH))
-- slots: 0 _law_shape, 1 _law_sizes*, 2 _law_widths*, 3 _law_name*, 4 _law_got, 5 _law_u, 6 _law_v, 7 _law_k, 8 _law_bow
theorem ok_law_heads (S : Su K mg) : Good P w (tx K) mg base 1 (He.fAd K ("_law_heads", none)) ["_law_shape", "_law_sizes", "_law_widths", "_law_name"] sp_heads := by
  obtain ⟨fd, F⟩ := S.def_ 39 (d := d_law_heads)
  refine good_of F sc_law_heads (fun _ _ _ _ _ _ us hl => match us, hl with | [_, _, _, _], _ => rfl) ?len ?body
  case len => intro ds F ⟨_, _, _, _, _, _, e, _⟩; rw [e]; rfl
  case body =>
    intro cdv' A outer s H E hr ds F ⟨n, ts, bs, sz, wd, i, e, hg, hsz, hwd, hF⟩
    subst e
    have lt := hg.t.2.2
    have lb := hg.b4
    refine ⟨_, (pss_cons (ps_setLc (i := 4) (own := [("_law_u", 5), ("_law_v", 6)]) rfl sc_law_heads.nd rfl rfl (sw_true rfl rfl rfl (by decide +kernel)) (pi_seq (pe_ix (ix_seqK (K := K)) (pv 0) pe_int (fun _ _ => rfl))) (blkOk_by (own := [("_law_u", 5), ("_law_v", 6)]) (N := N_law_heads) (sc := defScope (top 50)) (by decide +kernel)) (fun _ _ _ _ _ => (pg_seqK (K := K) (n := 2) rfl (pgs_cons (pg_name (i := 5) sc_law_heads.nd rfl (by first | exact Or.inl rfl | exact Or.inr rfl)) (pgs_cons (pg_name (i := 6) sc_law_heads.nd rfl (by first | exact Or.inl rfl | exact Or.inr rfl)) pgs_nil)))) (fun _ _ _ _ _ => (pts_one (pt_cmpR (op_eqK (K := K) hr) (pv 6) (pv 3) (nomark _)))) (fun _ _ _ _ _ => (pe_tup (pa_cons (pv 5) (pa_cons (pe_ix (ix_seqK (K := K)) (pv 1) (pv 5) (fun _ _ => rfl)) pa_nil)))))
    (pss_one (ps_ret (pe_op (op_addK (K := K)) (pv 4) (pe_lc (own := [("_law_k", 7), ("_law_bow", 8)]) rfl sc_law_heads.nd (pi_enumX (by rfl) (S.free 49) (pe_ix (ix_seqK (K := K)) (pv 0) pe_int (fun _ _ => rfl))) (blkOk_by (own := [("_law_k", 7), ("_law_bow", 8)]) (N := N_law_heads) (sc := defScope (top 50)) (by decide +kernel)) (fun _ _ _ _ _ => (pg_seqK (K := K) (n := 2) rfl (pgs_cons (pg_name (i := 7) sc_law_heads.nd rfl (by first | exact Or.inl rfl | exact Or.inr rfl)) (pgs_cons (pg_name (i := 8) sc_law_heads.nd rfl (by first | exact Or.inl rfl | exact Or.inr rfl)) pgs_nil)))) (fun _ _ _ _ _ => (pts_one (pt_cmpR (op_inK (K := K) hr) (pv 3) (pv 8) (by rfl)))) (fun _ _ _ _ _ => (pe_tup (pa_cons (pv 8) (pa_cons (pe_ix (ix_seqK (K := K)) (pv 2) (pv 7) (fun _ _ => rfl)) pa_nil))))))))), ?_⟩
    refine sq_asg (x := .lst (((headT ts i).map fun p => (Dt.int p.1, sz.getD p.1.toNat 0)).map encH)) (EvN.d (EvN.as (en_lc2 (ys := ts) (enc := dP) (fun p => decide (p.2 = i)) (fun p => encH (.int p.1, sz.getD p.1.toNat 0)) (ei_lst (by walk_at "ev")).j (fun _ => rfl) (by omega) rfl fun p hp => ⟨by walk_at "ev", fun _ => ?_⟩) (by rw [List.map_map]; rfl))) ?_
    · have := hg.t.1 p hp
      exact ev_tup (ea2 (ev_var rfl) (ev_ixZI (ev_var rfl).sL (ev_var rfl) this.1 (by omega))) (by simp)
    refine sg_ret (EvN.d (EvN.as (en_cat (EvD.l (ev_var rfl)) (EvN.l (en_lc2 (ys := bs.zipIdx) (enc := fun q => .tup [.int (q.2 : Nat), dP q.1]) (a := fun q => .int (q.2 : Nat)) (b := fun q => dP q.1) (fun q => decide (i ∈ [q.1.1, q.1.2])) (fun q => encH (dP q.1, wd.getD q.2 0)) (ei_enum (.inl (by walk_at "ev"))).j (fun _ => rfl) (by rw [List.length_zipIdx]; omega) rfl fun q hq => ⟨et_test (ev_in (ns := [q.1.1, q.1.2]) (ev_var rfl) (EvD.sT (ev_var rfl))), fun _ => ev_tup (ea2 (ev_var rfl) (ev_ixI (ev_var rfl).sL (ev_var rfl) (by have := (List.mem_zipIdx hq).2.1; omega))) (by simp)⟩)) ?_) (es := (((headT ts i).map fun p => (Dt.int p.1, sz.getD p.1.toNat 0)) ++ (headB bs i).map fun q => (dP q.1, wd.getD q.2 0)).map encH) ?_)) (hF _ ?_)
    · rw [List.length_map, List.length_map, List.length_map]
      have h1 := List.length_filter_le (fun p : Int × Int => decide (p.2 = i)) ts
      have h2 := List.length_filter_le (fun q : (Int × Int) × Nat => decide (i ∈ [q.1.1, q.1.2])) bs.zipIdx
      rw [List.length_zipIdx] at h2
      unfold headT
      omega
    · rw [List.map_append]
      congr 1
      rw [List.map_map]
      rfl
    · rw [List.map_append, List.map_map, List.map_map]
      rfl
def sp_ways : Spec := fun ds F => ∃ szs, ds = [lI szs] ∧ (∀ s ∈ szs, 0 ≤ s ∧ s ≤ 3) ∧ szs.length ≤ 4 ∧ F (lTI (waysF szs))
theorem pow3 {k : Nat} (h : k ≤ 4) : 3 ^ k ≤ 81 := by
  have : k = 0 ∨ k = 1 ∨ k = 2 ∨ k = 3 ∨ k = 4 := by omega
  rcases this with e | e | e | e | e <;> subst e <;> decide
-- slots: 0 _law_sizes, 1 _law_got, 2 _law_size, 3 _law_more, 4 _law_way*, 5 _law_value
theorem ok_law_ways (S : Su K mg) : Good P w (tx K) mg base 1 (He.fAd K ("_law_ways", none)) ["_law_sizes"] sp_ways := by
  obtain ⟨fd, F⟩ := S.def_ 41 (d := d_law_ways)
  refine good_of F sc_law_ways (fun _ _ _ _ _ _ us hl => match us, hl with | [_], _ => rfl) ?len ?body
  case len => intro ds F ⟨_, e, _⟩; rw [e]; rfl
  case body =>
    intro cdv' A outer s H E hr ds F ⟨szs, e, hs, hl, hF⟩
    subst e
    refine ⟨_, (pss_cons (ps_set (i := 1) sc_law_ways.nd rfl (Or.inl rfl) (pe_lst (pa_cons (pe_tup pa_nil) pa_nil)))
    (pss_cons (ps_for PassesOwn.never rfl (pi_seq (pv 0)) (pg_name (i := 2) sc_law_ways.nd rfl (Or.inl rfl)) (pss_cons (ps_set (i := 3) sc_law_ways.nd rfl (Or.inl rfl) (pe_lst pa_nil))
    (pss_cons (ps_for PassesOwn.never rfl (pi_seq (pv 1)) (pg_name (i := 4) sc_law_ways.nd rfl (Or.inr rfl)) (pss_one (ps_set (i := 3) sc_law_ways.nd rfl (Or.inl rfl) (pe_op (op_addK (K := K)) (pv 3) (pe_lc (own := [("_law_value", 5)]) rfl sc_law_ways.nd (pi_range1 (by rfl) (S.free 44) (pa_cons (pv 2) pa_nil)) (blkOk_by (own := [("_law_value", 5)]) (N := N_law_ways) (sc := defScope (top 54)) (by decide +kernel)) (fun _ _ _ _ _ => (pg_name (i := 5) sc_law_ways.nd rfl (by first | exact Or.inl rfl | exact Or.inr rfl))) (fun _ _ _ _ _ => pts_nil) (fun _ _ _ _ _ => (pe_op (op_addK (K := K)) (pv 4) (pe_tup (pa_cons (pv 5) pa_nil)))))))))
    (pss_one (ps_set (i := 1) sc_law_ways.nd rfl (Or.inl rfl) (pv 3))))))
    (pss_one (ps_ret (pv 1))))), ?_⟩
    refine sq_asg (x := lTI [[]]) (EvN.d (en_lst (ds := [dI []]) (ea1 (ev_tup ea_nil (by simp))) (by simp))) ?_
    refine sq_for (ys := szs) (enc := .int) (ei_lst (ev_var rfl)) (fun pre G' => G' = [.d (lI szs), .d (lTI (pre.foldl wayStep [[]])), .un, .un, .un, .un]) (Wk.refl _) rfl ?_ ?_
    · intro pre z post G' e e2
      subst e2
      have hp : pre.length < 4 := by have := congrArg List.length e; simp at this; omega
      have hpre : ∀ s ∈ pre, s ≤ 3 := fun s h => (hs s (by rw [e]; exact List.mem_append_left _ h)).2
      have hz := hs z (mem_mid e)
      have l1 := ways_len pre [[]] hpre
      have l2 := pow3 (k := pre.length) (by omega)
      have lw : ∀ w ∈ pre.foldl wayStep [[]], w.length = pre.length := fun w hw => (ways_ok (szs := pre) hw).1
      generalize hgot : pre.foldl wayStep [[]] = got at *
      have lg : got.length ≤ 81 := by simp at l1; omega
      refine ⟨_, _, bd_name, ?_⟩
      refine sq_asg (x := lTI []) (EvN.d (en_lst ea_nil (by simp))) ?_
      refine sq_for (ys := got) (enc := dI) (ei_lst (ev_var rfl)) (fun pre2 G' => G' = [.d (lI szs), .d (lTI got), .d (.int z), .d (lTI (wayStep pre2 z)), .un, .un]) (by walk_at "wk") rfl ?_ ?_
      · intro pre2 u post2 G' e' e2
        subst e2
        have hu := lw u (mem_mid e')
        have lp : pre2.length ≤ 81 := by have := congrArg List.length e'; simp at this; omega
        have l3 : (wayStep pre2 z).length ≤ pre2.length * 3 := by have := ways_len [z] pre2 (fun s h => by rw [List.mem_singleton.mp h]; exact hz.2); simpa using this
        have l4 : (rgI z).length ≤ 3 := by rw [rgI_len]; omega
        refine ⟨_, _, bd_name, ?_⟩
        refine sg_asgB (x := lTI (wayStep (pre2 ++ [u]) z)) (EvN.d (EvN.as (en_cat (EvD.l (ev_var rfl)) (EvN.l (en_lc1 (ys := rgI z) (enc := .int) (fun _ => true) (fun x => dI (u ++ [x])) (EvI.as (ei_rng (ea1 (ev_var rfl)) (by omega) (by omega)) (rgD_rgI z)).j (by omega) rfl fun y hy => ⟨et_yes, fun _ => ev_catM (enc := .int) (ev_var rfl) (ev_tup (ea1 (ev_var rfl)) (by simp)) (by simp; omega)⟩)) (by rw [List.length_map, filter_all, List.length_map]; omega)) ?_)) bd_name ⟨_, ?wk, rfl⟩
        case wk => walk_at "wk"
        rw [filter_all]
        unfold wayStep
        rw [List.flatMap_append, List.map_append]
        simp
      · intro G' e2
        subst e2
        refine sg_asgB (x := lTI (wayStep got z)) (ev_var rfl) bd_name ⟨_, ?wk, by rw [List.foldl_append, hgot]; try rfl⟩
        case wk => walk_at "wk"
    · intro G' e2
      subst e2
      exact sg_ret (ev_var rfl) hF
theorem gcd_em {x y : Int} (hx : 0 ≤ x) (hy : 0 < y) : Int.gcd (x % y) y = Int.gcd x y := by
  obtain ⟨a, rfl⟩ := Int.eq_ofNat_of_zero_le hx
  obtain ⟨b, rfl⟩ := Int.eq_ofNat_of_zero_le (Int.le_of_lt hy)
  have e : ((a : Int) % (b : Int)) = ((a % b : Nat) : Int) := rfl
  rw [e]
  show Nat.gcd (a % b) b = Nat.gcd a b
  rw [← Nat.gcd_rec, Nat.gcd_comm]
def sp_lowest : Spec := fun ds F => ∃ a b, ds = [.int a, .int b] ∧ 0 ≤ a ∧ 0 < b ∧ Bt 8000 b ∧ F (dP (lowF a b))
-- slots: 0 _law_top, 1 _law_bottom, 2 _law_one, 3 _law_other
theorem ok_law_lowest (S : Su K mg) : Good P w (tx K) mg base 1 (He.fAd K ("_law_lowest", none)) ["_law_top", "_law_bottom"] sp_lowest := by
  obtain ⟨fd, F⟩ := S.def_ 44 (d := d_law_lowest)
  refine good_of F sc_law_lowest (fun _ _ _ _ _ _ us hl => match us, hl with | [_, _], _ => rfl) ?len ?body
  case len => intro ds F ⟨_, _, e, _⟩; rw [e]; rfl
  case body =>
    intro cdv' A outer s H E hr ds F ⟨a, b, e, h0, hb, hbt, hF⟩
    subst e
    refine ⟨_, (pss_cons (ps_set (i := 2) sc_law_lowest.nd rfl (Or.inl rfl) (pv 1))
    (pss_cons (ps_set (i := 3) sc_law_lowest.nd rfl (Or.inl rfl) (pe_op op_modX (pv 0) (pv 1)))
    (pss_cons (ps_while PassesOwn.never (pt_cmpR op_gtX (pv 3) pe_int (nomark _)) (pss_one (ps_par (i := 2) (j := 3) (by rfl) sc_law_lowest.nd rfl rfl (by decide) rfl rfl (pa_cons (pv 3) (pa_cons (pe_op op_modX (pv 2) (pv 3)) pa_nil)) (by rfl))))
    (pss_one (ps_ret (pe_tup (pa_cons (pe_op op_divX (pv 0) (pv 2)) (pa_cons (pe_op op_divX (pv 1) (pv 2)) pa_nil)))))))), ?_⟩
    refine sq_asg (x := .int b) (ev_var rfl) ?_
    refine sq_asg (x := .int (a % b)) (ev_mod (ev_var rfl) (ev_var rfl) hb) ?_
    refine sq_while (fun m G' => ∃ x y : Int, 0 < x ∧ x ≤ b ∧ 0 ≤ y ∧ y ≤ b ∧ y.toNat = m ∧ Int.gcd x y = Int.gcd a b ∧ G' = [.d (.int a), .d (.int b), .d (.int x), .d (.int y)])
      (fun G' => G' = [.d (.int a), .d (.int b), .d (.int (Int.gcd a b : Int)), .d (.int 0)] ∧ (0 : Int) < (Int.gcd a b : Int) ∧ (Int.gcd a b : Int) ≤ b) (a % b).toNat (Wk.refl _)
      ⟨b, a % b, hb, Int.le_refl _, Int.emod_nonneg _ (by omega), Int.le_of_lt (Int.emod_lt_of_pos _ hb), rfl, by rw [Int.gcd_comm b, gcd_em h0 hb], rfl⟩ ?_ ?_
    · rintro m G' ⟨x, y, hx, hxb, hy, hyb, em, eg, e2⟩
      subst e2
      refine ⟨decide (0 < y), by walk_at "ev", fun h => ?_, fun h => ?_⟩
      · have h1 := of_decide_eq_true h
        have h2 := Int.emod_lt_of_pos x h1
        have h3 := Int.emod_nonneg x (show y ≠ 0 by omega)
        exact sg_par (ea2 (ev_var rfl) (ev_mod (ev_var rfl) (ev_var rfl) h1)) ⟨_, (x % y).toNat, Wk.refl _, by omega, y, x % y, h1, hyb, h3, by omega, rfl, by rw [Int.gcd_comm y, gcd_em (Int.le_of_lt hx) h1, eg], rfl⟩
      · have h1 := of_decide_eq_false h
        have h2 : y = 0 := by omega
        subst h2
        have h3 : (Int.gcd a b : Int) = x := by
          rw [← eg, Int.gcd_zero_right]
          omega
        rw [h3]
        exact ⟨rfl, hx, hxb⟩
    · rintro G' ⟨e2, hg, hgb⟩
      subst e2
      have hgt : Bt 8000 (Int.gcd a b : Int) := by unfold Bt at *; omega
      exact sg_ret (x := dP (lowF a b)) (ev_tup (ea2 (ev_div (ev_var rfl) (ev_var rfl) (cdiv hg hgt)) (ev_div (ev_var rfl) (ev_var rfl) (cdiv hg hgt))) (by simp)) hF
end
end W3

namespace W3
open PySem PySem.Spec PyProof.Rows L2 Evl
local macro_rules | `(tactic| walk_at "ev") => `(tactic| first
  | ((with_reducible apply ev_var); exact rfl)
  | ((with_reducible apply es_own); exact rfl)
  | ((with_reducible apply el_own); exact rfl)
  | with_reducible exact ev_int
  | with_reducible exact ev_bl
  | with_reducible exact ev_str
  | with_reducible exact ev_non
  | with_reducible exact ea_nil
  | with_reducible exact et_yes
  | ((with_reducible apply ea_cons); walk_at "ev"; walk_at "ev")
  | ((with_reducible apply ev_add); walk_at "ev"; walk_at "ev")
  | ((with_reducible apply ev_sub); walk_at "ev"; walk_at "ev")
  | ((with_reducible apply ev_lt); walk_at "ev"; walk_at "ev")
  | ((with_reducible apply ev_le); walk_at "ev"; walk_at "ev")
  | ((with_reducible apply ev_gt); walk_at "ev"; walk_at "ev")
  | ((with_reducible apply ev_ge); walk_at "ev"; walk_at "ev")
  | ((with_reducible apply ev_in); walk_at "ev"; walk_at "ev")
  | ((with_reducible apply ev_ni); walk_at "ev"; walk_at "ev")
  | ((with_reducible apply ev_inLT); walk_at "ev"; walk_at "ev")
  | ((with_reducible apply ev_inL); walk_at "ev"; walk_at "ev")
  | ((with_reducible apply ev_niTT); walk_at "ev"; walk_at "ev")
  | ((with_reducible apply ev_eq); walk_at "ev"; walk_at "ev")
  | ((with_reducible apply ev_eqS); walk_at "ev"; walk_at "ev")
  | ((with_reducible apply ev_eqT); walk_at "ev"; walk_at "ev")
  | ((with_reducible apply ev_eqL); walk_at "ev"; walk_at "ev")
  | ((with_reducible apply ev_ne); walk_at "ev"; walk_at "ev")
  | ((with_reducible apply ev_neT); walk_at "ev"; walk_at "ev")
  | ((with_reducible apply ev_neL); walk_at "ev"; walk_at "ev")
  | ((with_reducible apply ev_neLT); walk_at "ev"; walk_at "ev")
  | ((with_reducible apply ev_neB); walk_at "ev"; walk_at "ev")
  | ((with_reducible apply ev_len); walk_at "ev")
  | ((with_reducible apply ev_tupOf); walk_at "ev")
  | ((with_reducible apply ev_intB); walk_at "ev")
  | ((with_reducible apply en_lstOf); walk_at "ev")
  | ((with_reducible apply et_test); walk_at "ev")
  | ((with_reducible apply et_B); walk_at "ev")
  | ((with_reducible apply et_not); walk_at "ev")
  | ((with_reducible apply EvD.sT); walk_at "ev")
  | ((with_reducible apply EvD.sL); walk_at "ev")
  | ((with_reducible apply EvD.l); walk_at "ev")
  | ((with_reducible apply EvN.s); walk_at "ev")
  | ((with_reducible apply EvN.d); walk_at "ev")
  | ((with_reducible apply EvN.l); walk_at "ev")
  | ((with_reducible apply et_and); walk_at "ev"; intro _; walk_at "ev")
  | ((with_reducible apply et_or); walk_at "ev"; intro _; walk_at "ev")
  | ((with_reducible apply ev_ixN (j := 0)); walk_at "ev"; exact ev_int; exact rfl)
  | ((with_reducible apply ev_ixN (j := 1)); walk_at "ev"; exact ev_int; exact rfl)
  | ((with_reducible apply ev_ixN (j := 2)); walk_at "ev"; exact ev_int; exact rfl)
  | ((with_reducible apply ev_mod); walk_at "ev"; walk_at "ev"; decide)
  | ((with_reducible apply ev_div); walk_at "ev"; walk_at "ev"; decide)
  | ((with_reducible apply ev_tup); walk_at "ev"; simp)
  | ((with_reducible apply en_lst); walk_at "ev"; simp))
local macro_rules | `(tactic| walk_at "wk") => `(tactic| first | exact Wk.nil | (refine Wk.cons (Wk1.rfl _) ?_; walk_at "wk") | (refine Wk.cons (Wk1.un _) ?_; walk_at "wk") | (refine Wk.cons (Wk1.fz _) ?_; walk_at "wk") | (refine Wk.cons (Wk1.lk _) ?_; walk_at "wk"))
section
variable {P : Program} {w : World} {K : PySem.W.Frag} {mg : Str → Option Value} {base : Heap}
def sp_world : Spec := fun ds F => ∃ n ts bs u, ds = [dSh n ts bs, .int u] ∧ GS n ts bs ∧ ∀ sz hid tab, GWorld n ts bs sz hid tab → F (dSpec sz hid tab)
theorem ix4 {k : Int} (h0 : 0 ≤ k) (h4 : k < 4) : ∃ s : Int, atI [Dt.int 2, Dt.int 2, Dt.int 2, Dt.int 3] k = some (.int s) ∧ (s = 2 ∨ s = 3) := by
  have : k = 0 ∨ k = 1 ∨ k = 2 ∨ k = 3 := by omega
  rcases this with e | e | e | e <;> subst e
  · exact ⟨2, rfl, .inl rfl⟩
  · exact ⟨2, rfl, .inl rfl⟩
  · exact ⟨2, rfl, .inl rfl⟩
  · exact ⟨3, rfl, .inr rfl⟩
theorem hs_bound {n : Int} {ts bs : List (Int × Int)} {sz wd : List Int} {i : Int} (hg : GS n ts bs) (hs : sz.length = n.toNat) (hv : ∀ s ∈ sz, s = 2 ∨ s = 3) (hw : wd.length = bs.length) (hwv : ∀ s ∈ wd, s = 2) :
    (∀ x ∈ headS ts bs sz wd i, 0 < x ∧ x ≤ 3) ∧ (headS ts bs sz wd i).length ≤ 8 := headS_ok hg.n4 hg.t.1 hg.t.2.1 hg.b4 hs hv hw hwv
theorem getElem?_snoc {α : Type} {l : List α} {x y : α} {k : Nat} (h : (l ++ [x])[k]? = some y) : l[k]? = some y ∨ (k = l.length ∧ y = x) := by
  by_cases e : k < l.length
  · rw [List.getElem?_append_left e] at h
    exact .inl h
  · rw [List.getElem?_append_right (by omega)] at h
    by_cases e2 : k - l.length = 0
    · rw [e2] at h
      exact .inr ⟨by omega, by simpa using h.symm⟩
    · rw [List.getElem?_eq_none (by simp; omega)] at h
      cases h
-- slots: 0 _law_shape, 1 _law_number, 2 _law_sizes, 3 _law_name, 4 _law_widths, 5 _law_hidden, 6 _law_bow, 7 _law_tables, 8 _law_rows, 9 _law_head, 10 _law_size, 11 _law_table, 12 _law_row
theorem ok_law_world (S : Su K mg) : Good P w (tx K) mg base 2 (He.fAd K ("_law_world", none)) ["_law_shape", "_law_number"] sp_world := by
  obtain ⟨fd, F⟩ := S.def_ 40 (d := d_law_world)
  have g_law_eighths := ok_law_eighths (P := P) (w := w) (base := base) S
  have g_law_heads := ok_law_heads (P := P) (w := w) (base := base) S
  refine good_of F sc_law_world (fun _ _ _ _ _ _ us hl => match us, hl with | [_, _], _ => rfl) ?len ?body
  case len => intro ds F ⟨_, _, _, _, e, _⟩; rw [e]; rfl
  case body =>
    intro cdv' A outer s H E hr ds F ⟨n, ts, bs, u, e, hg, hF⟩
    subst e
    have n1 := hg.n1
    have n4 := hg.n4
    refine ⟨_, (pss_cons (ps_set (i := 2) sc_law_world.nd rfl (Or.inl rfl) (pe_lst pa_nil))
    (pss_cons (ps_for PassesOwn.never rfl (pi_range1 (by rfl) (S.free 44) (pa_cons (pe_ix (ix_seqK (K := K)) (pv 0) pe_int (fun _ _ => rfl)) pa_nil)) (pg_name (i := 3) sc_law_world.nd rfl (Or.inl rfl)) (pss_cons (ps_expr (pe_bm PySem.F.plainAttrs_list PySem.F.slot_list_append PySem.F.type_list_append mt_append (pv 2) (pa_cons (pe_ix (ix_seqK (K := K)) (pe_lst (pa_cons pe_int (pa_cons pe_int (pa_cons pe_int (pa_cons pe_int pa_nil))))) (pe_op op_mulXX (pe_op op_modX (pv 1) pe_int) (pe_callTy call_intX (by rfl) (S.free 50) (by decide +kernel) (pa_cons (pe_cmpR op_ltX (pe_ix (ix_seqK (K := K)) (pv 0) pe_int (fun _ _ => rfl)) pe_int (nomark _)) pa_nil))) (fun _ _ => rfl)) pa_nil)))
    (pss_one (ps_set (i := 1) sc_law_world.nd rfl (Or.inl rfl) (pe_op op_divX (pv 1) pe_int)))))
    (pss_cons (ps_set (i := 4) sc_law_world.nd rfl (Or.inl rfl) (pe_lst pa_nil))
    (pss_cons (ps_set (i := 5) sc_law_world.nd rfl (Or.inl rfl) (pe_lst pa_nil))
    (pss_cons (ps_for PassesOwn.never rfl (pi_seq (pe_ix (ix_seqK (K := K)) (pv 0) pe_int (fun _ _ => rfl))) (pg_name (i := 6) sc_law_world.nd rfl (Or.inl rfl)) (pss_cons (ps_expr (pe_bm PySem.F.plainAttrs_list PySem.F.slot_list_append PySem.F.type_list_append mt_append (pv 4) (pa_cons pe_int pa_nil)))
    (pss_cons (ps_expr (pe_bm PySem.F.plainAttrs_list PySem.F.slot_list_append PySem.F.type_list_append mt_append (pv 5) (pa_cons (pe_callG (T := tx K) g_law_eighths (hr.mono (by decide)) (by rfl) (S.glo 33) (pa_cons (pv 1) (pa_cons pe_int pa_nil))) pa_nil)))
    (pss_one (ps_set (i := 1) sc_law_world.nd rfl (Or.inl rfl) (pe_op op_divX (pv 1) pe_int))))))
    (pss_cons (ps_set (i := 7) sc_law_world.nd rfl (Or.inl rfl) (pe_lst pa_nil))
    (pss_cons (ps_for PassesOwn.never rfl (pi_range1 (by rfl) (S.free 44) (pa_cons (pe_ix (ix_seqK (K := K)) (pv 0) pe_int (fun _ _ => rfl)) pa_nil)) (pg_name (i := 3) sc_law_world.nd rfl (Or.inl rfl)) (pss_cons (ps_set (i := 8) sc_law_world.nd rfl (Or.inl rfl) pe_int)
    (pss_cons (ps_for PassesOwn.never rfl (pi_seq (pe_callG (T := tx K) g_law_heads (hr.mono (by decide)) (by rfl) (S.glo 34) (pa_cons (pv 0) (pa_cons (pv 2) (pa_cons (pv 4) (pa_cons (pv 3) pa_nil)))))) (pg_seqK (K := K) (n := 2) rfl (pgs_cons (pg_name (i := 9) sc_law_world.nd rfl (Or.inl rfl)) (pgs_cons (pg_name (i := 10) sc_law_world.nd rfl (Or.inl rfl)) pgs_nil))) (pss_one (ps_set (i := 8) sc_law_world.nd rfl (Or.inl rfl) (pe_op op_mulXX (pv 8) (pv 10)))))
    (pss_cons (ps_set (i := 11) sc_law_world.nd rfl (Or.inl rfl) (pe_lst pa_nil))
    (pss_cons (ps_for PassesOwn.never rfl (pi_range1 (by rfl) (S.free 44) (pa_cons (pv 8) pa_nil)) (pg_name (i := 12) sc_law_world.nd rfl (Or.inl rfl)) (pss_cons (ps_expr (pe_bm PySem.F.plainAttrs_list PySem.F.slot_list_append PySem.F.type_list_append mt_append (pv 11) (pa_cons (pe_callG (T := tx K) g_law_eighths (hr.mono (by decide)) (by rfl) (S.glo 33) (pa_cons (pv 1) (pa_cons (pe_ix (ix_seqK (K := K)) (pv 2) (pv 3) (fun _ _ => rfl)) pa_nil))) pa_nil)))
    (pss_cons (ps_set (i := 1) sc_law_world.nd rfl (Or.inl rfl) (pe_op op_divX (pv 1) pe_int))
    (pss_one (ps_if (pt_cmpR (op_eqK (K := K) hr) (pv 1) pe_int (nomark _)) (pss_one (ps_set (i := 1) sc_law_world.nd rfl (Or.inl rfl) (pe_op (op_addK (K := K)) (pe_op op_mulXX (pe_op op_mulXX pe_int (pe_op (op_addK (K := K)) (pv 12) pe_int)) (pe_op (op_addK (K := K)) (pe_op (op_addK (K := K)) (pv 12) (pv 3)) pe_int)) (pe_callB (call_lenK (K := K)) (by rfl) (S.free 43) PySem.boot_len (pa_cons (pv 11) pa_nil))))) pss_nil)))))
    (pss_one (ps_expr (pe_bm PySem.F.plainAttrs_list PySem.F.slot_list_append PySem.F.type_list_append mt_append (pv 7) (pa_cons (pv 11) pa_nil)))))))))
    (pss_one (ps_ret (pe_lst (pa_cons (pv 2) (pa_cons (pv 5) (pa_cons (pv 7) pa_nil))))))))))))), ?_⟩
    refine sq_asgN (ds := ([] : List Int).map .int) (en_lst ea_nil (by simp)) (lt_of_some rfl) ?_
    refine sq_for (ys := List.range n.toNat) (enc := fun i => .int (i : Nat)) (ei_rng (ea1 (ev_ixN (j := 0) (x := .int n) (EvD.sL (ev_var rfl)) ev_int rfl)) (by omega) (by omega)) (fun pre G' => ∃ (u : Int) (sz : List Int), sz.length = pre.length ∧ (∀ s ∈ sz, s = 2 ∨ s = 3) ∧ G' = [.d (dSh n ts bs), .d (.int u), .own (.lst (sz.map .int)), .un, .un, .un, .un, .un, .un, .un, .un, .un, .un]) (Wk.refl _)
      ⟨u, [], rfl, fun _ h => (nomatch h), rfl⟩ ?_ ?_
    · rintro pre k post G' e ⟨u, sz, hl, hv, e2⟩
      subst e2
      have hk := rg_mid e
      have ek := rg_at e
      have h0 := Int.emod_nonneg u (show (4 : Int) ≠ 0 by decide)
      have h1 := Int.emod_lt_of_pos u (show (0 : Int) < 4 by decide)
      obtain ⟨s, hs, hs2⟩ := ix4 (k := u % 4 * (if decide (n < 4) = true then 1 else 0)) (by split <;> omega) (by split <;> omega)
      refine ⟨_, _, bd_name, ?_⟩
      refine sq_app (x := .int s) rfl (ev_ix (EvN.s (en_lst (ea_cons ev_int (ea_cons ev_int (ea2 ev_int ev_int))) (by simp))) (ev_mul (by walk_at "ev") (ev_intB (ev_lt (ev_ixN (j := 0) (x := .int n) (EvD.sL (ev_var rfl)) ev_int rfl) ev_int)) (Bt.cm (a := 16) (b := 16) (bt_le h0 (by omega)) (bt_le (by split <;> omega) (by split <;> omega)))) hs) (by rw [List.length_map]; omega) ?_
      refine sg_asgB (x := .int (u / 4)) (ev_div (ev_var rfl) ev_int cdv) bd_name ⟨_, ?wk, u / 4, sz ++ [s], by rw [List.length_append, List.length_append, hl]; rfl, fun x hx => ?_, by rw [List.map_append]; try rfl⟩
      case wk => walk_at "wk"
      rcases List.mem_append.mp hx with hx | hx
      · exact hv x hx
      · rw [List.mem_singleton.mp hx]; exact hs2
    rintro G' ⟨u, sz, hsz, hsv, e2⟩
    subst e2
    rw [rg_end] at hsz
    refine sg_wk (G' := [.d (dSh n ts bs), .d (.int u), .d (lI sz), .un, .un, .un, .un, .un, .un, .un, .un, .un, .un]) (by walk_at "wk") ?_
    refine sq_asgN (ds := ([] : List Int).map .int) (en_lst ea_nil (by simp)) (lt_of_some rfl) ?_
    refine sq_asgN (ds := ([] : List (List Int)).map lI) (en_lst ea_nil (by simp)) (lt_of_some rfl) ?_
    refine sq_for (ys := bs) (enc := dP) (ei_lst (by walk_at "ev")) (fun pre G' => ∃ (u : Int) (hid : List (List Int)), hid.length = pre.length ∧ (∀ r ∈ hid, GRow 2 r) ∧ G' = [.d (dSh n ts bs), .d (.int u), .d (lI sz), .un, .own (.lst ((hid.map fun r => (r.length : Int)).map .int)), .own (.lst (hid.map lI)), .un, .un, .un, .un, .un, .un, .un]) (Wk.refl _)
      ⟨u, [], rfl, fun _ h => (nomatch h), rfl⟩ ?_ ?_
    · rintro pre p post G' e ⟨u, hid, hl, hv, e2⟩
      subst e2
      have hp : pre.length < 4 := by have := congrArg List.length e; have := hg.b4; simp at *; omega
      refine ⟨_, _, bd_name, ?_⟩
      refine sq_app (x := .int 2) rfl ev_int (by rw [List.length_map, List.length_map]; omega) ?_
      refine sq_appP (F := fun x => ∃ r, x = lI r ∧ GRow 2 r) rfl (ev_call (T := tx K) (ea2 (ev_var rfl) ev_int) ⟨u, 2, rfl, .inl rfl, fun r hr => ⟨r, rfl, hr⟩⟩) (by rw [List.length_map]; omega) ?_
      rintro _ ⟨r, rfl, hr⟩
      refine sg_asgB (x := .int (u / 7)) (ev_div (ev_var rfl) ev_int cdv) bd_name ⟨[.d (dSh n ts bs), .d (.int (u / 7)), .d (lI sz), .un, .own (.lst (((hid ++ [r]).map fun r => (r.length : Int)).map .int)), .own (.lst ((hid ++ [r]).map lI)), .un, .un, .un, .un, .un, .un, .un], ?_, u / 7, hid ++ [r], by rw [List.length_append, List.length_append, hl]; rfl, fun x hx => ?_, rfl⟩
      · rw [List.map_append, List.map_append, List.map_append, List.map_cons, hr.len]
        walk_at "wk"
      rcases List.mem_append.mp hx with hx | hx
      · exact hv x hx
      · rw [List.mem_singleton.mp hx]; exact hr
    rintro G' ⟨u, hid, hhl, hhv, e2⟩
    subst e2
    have hwl : (hid.map fun r => (r.length : Int)).length = bs.length := by rw [List.length_map]; exact hhl
    have hwv : ∀ s ∈ hid.map fun r => (r.length : Int), s = 2 := fun s hs => by
      obtain ⟨r, hr, rfl⟩ := List.mem_map.mp hs
      exact (hhv r hr).len
    generalize hwd : (hid.map fun r => (r.length : Int)) = wd at *
    refine sg_wk (G' := [.d (dSh n ts bs), .d (.int u), .d (lI sz), .un, .d (lI wd), .d (lLI hid), .un, .un, .un, .un, .un, .un, .un]) (by walk_at "wk") ?_
    refine sq_asgN (ds := ([] : List (List (List Int))).map lLI) (en_lst ea_nil (by simp)) (lt_of_some rfl) ?_
    refine sq_for (ys := List.range n.toNat) (enc := fun i => .int (i : Nat)) (ei_rng (ea1 (ev_ixN (j := 0) (x := .int n) (EvD.sL (ev_var rfl)) ev_int rfl)) (by omega) (by omega)) (fun pre G' => ∃ (u : Int) (tab : List (List (List Int))), tab.length = pre.length ∧ (∀ (k : Nat) t, tab[k]? = some t → (t.length : Int) = prodL (headS ts bs sz wd (k : Nat)) ∧ ∀ r ∈ t, GRow (sz.getD k 0) r) ∧ G' = [.d (dSh n ts bs), .d (.int u), .d (lI sz), .un, .d (lI wd), .d (lLI hid), .un, .own (.lst (tab.map lLI)), .un, .un, .un, .un, .un]) (Wk.refl _)
      ⟨u, [], rfl, fun _ _ h => by simp at h, rfl⟩ ?_ ?_
    · rintro pre k post G' e ⟨u, tab, hl, hv, e2⟩
      subst e2
      have hk := rg_mid e
      have ek := rg_at e
      obtain ⟨hb1, hb2⟩ := hs_bound (i := (k : Nat)) hg hsz hsv hwl hwv
      obtain ⟨pb1, pb2⟩ := prodL_bound hb1 hb2
      have hsk : sz.getD k 0 = 2 ∨ sz.getD k 0 = 3 := hsv _ (getD_mem (by omega))
      refine ⟨_, _, bd_name, ?_⟩
      refine sq_asg (x := .int 1) ev_int ?_
      refine sq_forP (enc := encH) (FL := fun hs => hs.map (·.2) = headS ts bs sz wd (k : Nat)) (ei_lstP (ev_call (T := tx K) (ea_cons (ev_var rfl) (ea_cons (ev_var rfl) (ea2 (ev_var rfl) (ev_var rfl)))) ⟨n, ts, bs, sz, wd, (k : Nat), rfl, hg, hsz, hwl, fun hs h => ⟨hs, rfl, h⟩⟩)) (fun hs pre G' => G' = [.d (dSh n ts bs), .d (.int u), .d (lI sz), .d (.int (k : Nat)), .d (lI wd), .d (lLI hid), .un, .own (.lst (tab.map lLI)), .d (.int (prodL (pre.map (·.2)))), .un, .un, .un, .un]) (Wk.refl _) (fun _ _ => rfl) ?_ ?_
      · intro hs hh pre2 q post2 G' e' e2
        subst e2
        have hpre : ∀ x ∈ pre2.map (·.2), 0 < x ∧ x ≤ 3 := fun x hx => hb1 x (by rw [← hh, e', List.map_append]; exact List.mem_append_left _ hx)
        have hq : 0 < q.2 ∧ q.2 ≤ 3 := hb1 q.2 (by rw [← hh, e', List.map_append]; exact List.mem_append_right _ (by simp))
        have hpl : (pre2.map (·.2)).length ≤ 8 := by rw [← hh, e'] at hb2; simp at hb2 ⊢; omega
        obtain ⟨q1, q2⟩ := prodL_bound hpre hpl
        refine ⟨_, _, bd_2T (x := q.1) (y := .int q.2), ?_⟩
        refine sg_asgB (x := .int (prodL ((pre2 ++ [q]).map (·.2)))) ((ev_mul (ev_var rfl) (ev_var rfl) (Bt.cm (a := 16) (b := 16) (bt_le (by omega) (by omega)) (bt_le (by omega) (by omega)))).as (by rw [List.map_append, List.map_cons, List.map_nil, prodL_snoc])) bd_name ⟨_, ?wk, rfl⟩
        case wk => walk_at "wk"
      · intro hs hh G' e2
        subst e2
        rw [hh]
        generalize hrows : prodL (headS ts bs sz wd (k : Nat)) = rows at *
        refine sq_asgN (ds := ([] : List (List Int)).map lI) (en_lst ea_nil (by simp)) (lt_of_some rfl) ?_
        refine sq_for (ys := List.range rows.toNat) (enc := fun i => .int (i : Nat)) (ei_rng (ea1 (ev_var rfl)) (by omega) (by omega)) (fun pre G' => ∃ (u : Int) (t : List (List Int)), t.length = pre.length ∧ (∀ r ∈ t, GRow (sz.getD k 0) r) ∧ G' = [.d (dSh n ts bs), .d (.int u), .d (lI sz), .d (.int (k : Nat)), .d (lI wd), .d (lLI hid), .un, .own (.lst (tab.map lLI)), .d (.int rows), .un, .un, .own (.lst (t.map lI)), .un]) (Wk.refl _) ⟨u, [], rfl, fun _ h => (nomatch h), rfl⟩ ?_ ?_
        · rintro pre3 j post3 G' e3 ⟨u, t, htl, htr, e2⟩
          subst e2
          have hj := rg_mid e3
          have ej := rg_at e3
          refine ⟨_, _, bd_name, ?_⟩
          refine sq_appP (F := fun x => ∃ r, x = lI r ∧ GRow (sz.getD k 0) r) rfl (ev_call (T := tx K) (ea2 (ev_var rfl) (ev_ixI (ev_var rfl).sL (ev_var rfl) (by omega))) ⟨u, sz.getD k 0, rfl, hsk, fun r hr => ⟨r, rfl, hr⟩⟩) (by rw [List.length_map]; omega) ?_
          rintro _ ⟨r, rfl, hr⟩
          refine sq_asg (x := .int (u / 7)) (ev_div (ev_var rfl) ev_int cdv) ?_
          have nxt : ∀ x ∈ t ++ [r], GRow (sz.getD k 0) x := fun x hx => by
            rcases List.mem_append.mp hx with hx | hx
            · exact htr x hx
            · rw [List.mem_singleton.mp hx]; exact hr
          have et : t.map lI ++ [lI r] = (t ++ [r]).map lI := by rw [List.map_append]; rfl
          refine sg_if (b := decide (u / 7 = 0)) (by walk_at "ev") (fun _ => ?_) fun _ => ?_
          · have b1 : Bt 20 ((j : Nat) + 3) := (bt_le (by omega) (by omega))
            have b2 : Bt 20 ((j : Nat) + (k : Nat) + 1) := (bt_le (by omega) (by omega))
            have b0 : Bt 20 7919 := by unfold Bt; decide
            refine sg_asgB (x := .int (7919 * ((j : Nat) + 3) * ((j : Nat) + (k : Nat) + 1) + ((t.map lI ++ [lI r]).length : Nat))) (ev_add (ev_mul (ev_mul ev_int (by walk_at "ev") (b0.cm b1)) (by walk_at "ev") (Bt.cm (b0.mul b1) b2)) (ev_len (es_own rfl))) bd_name ⟨_, ?wk, 7919 * ((j : Nat) + 3) * ((j : Nat) + (k : Nat) + 1) + ((t.map lI ++ [lI r]).length : Nat), t ++ [r], by rw [List.length_append, List.length_append, htl]; rfl, nxt, by rw [← et]⟩
            case wk => walk_at "wk"
          · refine sg_next ⟨_, ?wk, u / 7, t ++ [r], by rw [List.length_append, List.length_append, htl]; rfl, nxt, by rw [← et]⟩
            case wk => walk_at "wk"
        · rintro G' ⟨u, t, htl, htr, e2⟩
          subst e2
          rw [rg_end] at htl
          refine sg_wk (G' := [.d (dSh n ts bs), .d (.int u), .d (lI sz), .d (.int (k : Nat)), .d (lI wd), .d (lLI hid), .un, .own (.lst (tab.map lLI)), .d (.int rows), .un, .un, .d (lLI t), .un]) (by walk_at "wk") ?_
          refine sg_app (x := lLI t) rfl (ev_var rfl) (by rw [List.length_map]; omega) ⟨_, ?wk, u, tab ++ [t], by rw [List.length_append, List.length_append, hl]; rfl, fun m t' hm => ?_, by rw [List.map_append]; try rfl⟩
          case wk => walk_at "wk"
          rcases getElem?_snoc hm with hm | ⟨em, et⟩
          · exact hv m t' hm
          · subst et
            have em2 : m = k := by omega
            subst em2
            exact ⟨by rw [hrows]; omega, htr⟩
    · rintro G' ⟨u, tab, hl, hv, e2⟩
      subst e2
      rw [rg_end] at hl
      refine sg_wk (G' := [.un, .un, .d (lI sz), .un, .un, .d (lLI hid), .un, .d (lTab tab), .un, .un, .un, .un, .un]) (.cons (.un _) (.cons (.un _) (.cons (.rfl _) (.cons (.un _) (.cons (.un _) (.cons (.rfl _) (.cons (.un _) (.cons (.fz _) (.cons (.un _) (.cons (.un _) (.cons (.un _) (.cons (.un _) (.cons (.un _) .nil))))))))))))) ?_
      refine sg_ret (x := dSpec sz hid tab) (EvN.d (en_lst (ea_cons (ev_var rfl) (ea2 (ev_var rfl) (ev_var rfl))) (by simp))) (hF sz hid tab ⟨hsz, hsv, hhl, hhv, hl, ?_⟩)
      rw [hwd]
      exact hv
end
end W3

namespace W3
open PySem PySem.Spec PyProof.Rows L2 Evl
local macro_rules | `(tactic| walk_at "ev") => `(tactic| first
  | ((with_reducible apply ev_var); exact rfl)
  | ((with_reducible apply es_own); exact rfl)
  | ((with_reducible apply el_own); exact rfl)
  | with_reducible exact ev_int
  | with_reducible exact ev_bl
  | with_reducible exact ev_str
  | with_reducible exact ev_non
  | with_reducible exact ea_nil
  | with_reducible exact et_yes
  | ((with_reducible apply ea_cons); walk_at "ev"; walk_at "ev")
  | ((with_reducible apply ev_add); walk_at "ev"; walk_at "ev")
  | ((with_reducible apply ev_sub); walk_at "ev"; walk_at "ev")
  | ((with_reducible apply ev_lt); walk_at "ev"; walk_at "ev")
  | ((with_reducible apply ev_le); walk_at "ev"; walk_at "ev")
  | ((with_reducible apply ev_gt); walk_at "ev"; walk_at "ev")
  | ((with_reducible apply ev_ge); walk_at "ev"; walk_at "ev")
  | ((with_reducible apply ev_in); walk_at "ev"; walk_at "ev")
  | ((with_reducible apply ev_ni); walk_at "ev"; walk_at "ev")
  | ((with_reducible apply ev_inLT); walk_at "ev"; walk_at "ev")
  | ((with_reducible apply ev_inL); walk_at "ev"; walk_at "ev")
  | ((with_reducible apply ev_niTT); walk_at "ev"; walk_at "ev")
  | ((with_reducible apply ev_eq); walk_at "ev"; walk_at "ev")
  | ((with_reducible apply ev_eqS); walk_at "ev"; walk_at "ev")
  | ((with_reducible apply ev_eqT); walk_at "ev"; walk_at "ev")
  | ((with_reducible apply ev_eqL); walk_at "ev"; walk_at "ev")
  | ((with_reducible apply ev_ne); walk_at "ev"; walk_at "ev")
  | ((with_reducible apply ev_neT); walk_at "ev"; walk_at "ev")
  | ((with_reducible apply ev_neL); walk_at "ev"; walk_at "ev")
  | ((with_reducible apply ev_neLT); walk_at "ev"; walk_at "ev")
  | ((with_reducible apply ev_neB); walk_at "ev"; walk_at "ev")
  | ((with_reducible apply ev_len); walk_at "ev")
  | ((with_reducible apply ev_tupOf); walk_at "ev")
  | ((with_reducible apply ev_intB); walk_at "ev")
  | ((with_reducible apply en_lstOf); walk_at "ev")
  | ((with_reducible apply et_test); walk_at "ev")
  | ((with_reducible apply et_B); walk_at "ev")
  | ((with_reducible apply et_not); walk_at "ev")
  | ((with_reducible apply EvD.sT); walk_at "ev")
  | ((with_reducible apply EvD.sL); walk_at "ev")
  | ((with_reducible apply EvD.l); walk_at "ev")
  | ((with_reducible apply EvN.s); walk_at "ev")
  | ((with_reducible apply EvN.d); walk_at "ev")
  | ((with_reducible apply EvN.l); walk_at "ev")
  | ((with_reducible apply et_and); walk_at "ev"; intro _; walk_at "ev")
  | ((with_reducible apply et_or); walk_at "ev"; intro _; walk_at "ev")
  | ((with_reducible apply ev_ixN (j := 0)); walk_at "ev"; exact ev_int; exact rfl)
  | ((with_reducible apply ev_ixN (j := 1)); walk_at "ev"; exact ev_int; exact rfl)
  | ((with_reducible apply ev_ixN (j := 2)); walk_at "ev"; exact ev_int; exact rfl)
  | ((with_reducible apply ev_mod); walk_at "ev"; walk_at "ev"; decide)
  | ((with_reducible apply ev_div); walk_at "ev"; walk_at "ev"; decide)
  | ((with_reducible apply ev_tup); walk_at "ev"; simp)
  | ((with_reducible apply en_lst); walk_at "ev"; simp))
local macro_rules | `(tactic| walk_at "wk") => `(tactic| first | exact Wk.nil | (refine Wk.cons (Wk1.rfl _) ?_; walk_at "wk") | (refine Wk.cons (Wk1.un _) ?_; walk_at "wk") | (refine Wk.cons (Wk1.fz _) ?_; walk_at "wk") | (refine Wk.cons (Wk1.lk _) ?_; walk_at "wk"))
theorem dig {a b s d : Int} (h0 : 0 ≤ a) (h1 : a < b) (d0 : 0 ≤ d) (d1 : d < s) : 0 ≤ a * s + d ∧ a * s + d < b * s := by
  have hs : 0 ≤ s := by omega
  have h2 : (a + 1) * s ≤ b * s := Int.mul_le_mul_of_nonneg_right (by omega) hs
  have h3 : 0 ≤ a * s := Int.mul_nonneg h0 hs
  have h4 : (a + 1) * s = a * s + s := by rw [Int.add_mul, Int.one_mul]
  omega
theorem atT_bd {sz v : List Int} {i : Int} : ∀ (ts : List (Int × Int)) (a b : Int), (∀ p ∈ ts, p.2 = i → 0 ≤ v.getD p.1.toNat 0 ∧ v.getD p.1.toNat 0 < sz.getD p.1.toNat 0) → 0 ≤ a → a < b →
    0 ≤ ts.foldl (atT sz v i) a ∧ ts.foldl (atT sz v i) a < ((headT ts i).map fun p => sz.getD p.1.toNat 0).foldl (· * ·) b
  | [], a, b, _, h0, h1 => ⟨h0, h1⟩
  | p :: ts, a, b, h, h0, h1 => by
    have ht := fun q hq => h q (List.mem_cons_of_mem p hq)
    rw [List.foldl_cons]
    unfold headT
    rw [List.filter_cons]
    by_cases e : p.2 = i
    · rw [if_pos (by simpa using e), List.map_cons, List.foldl_cons]
      obtain ⟨d0, d1⟩ := h p List.mem_cons_self e
      obtain ⟨e0, e1⟩ := dig h0 h1 d0 d1
      have : atT sz v i a p = a * sz.getD p.1.toNat 0 + v.getD p.1.toNat 0 := by unfold atT; rw [if_pos (by simpa using e)]
      rw [this]
      exact atT_bd ts _ _ ht e0 e1
    · rw [if_neg (by simpa using e)]
      have : atT sz v i a p = a := by unfold atT; rw [if_neg (by simpa using e)]
      rw [this]
      exact atT_bd ts a b ht h0 h1
theorem atB_bd {wd h : List Int} {i : Int} : ∀ (bs : List ((Int × Int) × Nat)) (a b : Int), (∀ q ∈ bs, 0 ≤ h.getD q.2 0 ∧ h.getD q.2 0 < wd.getD q.2 0) → 0 ≤ a → a < b →
    0 ≤ bs.foldl (atB wd h i) a ∧ bs.foldl (atB wd h i) a < ((bs.filter fun q => decide (i ∈ [q.1.1, q.1.2])).map fun q => wd.getD q.2 0).foldl (· * ·) b
  | [], a, b, _, h0, h1 => ⟨h0, h1⟩
  | q :: bs, a, b, hh, h0, h1 => by
    have ht := fun x hx => hh x (List.mem_cons_of_mem q hx)
    rw [List.foldl_cons, List.filter_cons]
    by_cases e : i ∈ [q.1.1, q.1.2]
    · rw [if_pos (by simpa using e), List.map_cons, List.foldl_cons]
      obtain ⟨d0, d1⟩ := hh q List.mem_cons_self
      obtain ⟨e0, e1⟩ := dig h0 h1 d0 d1
      have : atB wd h i a q = a * wd.getD q.2 0 + h.getD q.2 0 := by unfold atB; rw [if_pos (by simpa using e)]
      rw [this]
      exact atB_bd bs _ _ ht e0 e1
    · rw [if_neg (by simpa using e)]
      have : atB wd h i a q = a := by unfold atB; rw [if_neg (by simpa using e)]
      rw [this]
      exact atB_bd bs a b ht h0 h1
theorem GWorld.wl {n : Int} {ts bs : List (Int × Int)} {sz : List Int} {hid : List (List Int)} {tab : List (List (List Int))} (h : GWorld n ts bs sz hid tab) : (hid.map fun r => (r.length : Int)).length = bs.length := by rw [List.length_map]; exact h.hil
theorem GWorld.wv {n : Int} {ts bs : List (Int × Int)} {sz : List Int} {hid : List (List Int)} {tab : List (List (List Int))} (h : GWorld n ts bs sz hid tab) : ∀ s ∈ hid.map fun r => (r.length : Int), s = 2 := fun s hs => by
  obtain ⟨r, hr, rfl⟩ := List.mem_map.mp hs
  exact (h.hir r hr).len
theorem getD_map {α β : Type} {f : α → β} {l : List α} {k : Nat} {d : α} {e : β} (h : k < l.length) : (l.map f).getD k e = f (l.getD k d) := by
  rw [List.getD_eq_getElem?_getD, List.getElem?_map, List.getD_eq_getElem?_getD, List.getElem?_eq_getElem h]
  rfl
/-- the row of i is there -/
theorem atF_ok {n : Int} {ts bs : List (Int × Int)} {sz : List Int} {hid : List (List Int)} {tab : List (List (List Int))} (hg : GS n ts bs) (hw : GWorld n ts bs sz hid tab) {i : Int} (h0 : 0 ≤ i) (h1 : i < n) {v h : List Int}
    (hv : InSz sz v) (hh : InSz (hid.map fun r => (r.length : Int)) h) :
    0 ≤ atF ts bs sz (hid.map fun r => (r.length : Int)) v h i ∧ (atF ts bs sz (hid.map fun r => (r.length : Int)) v h i).toNat < (tab.getD i.toNat []).length := by
  have hsl := hw.szl
  have ht := hw.tal
  have hit : i.toNat < tab.length := by omega
  have htl := (hw.tar i.toNat _ (getD_at hit (d := []))).1
  have e : ((i.toNat : Nat) : Int) = i := by omega
  rw [e] at htl
  have a1 := atT_bd (sz := sz) (v := v) (i := i) ts 0 1 (fun p hp _ => hv.2 p.1.toNat (by have := hg.t.1 p hp; omega)) (Int.le_refl _) (by decide)
  have a2 := atB_bd (wd := hid.map fun r => (r.length : Int)) (h := h) (i := i) bs.zipIdx _ _ (fun q hq => hh.2 q.2 (by rw [hw.wl]; have := (List.mem_zipIdx hq).2.1; omega)) a1.1 a1.2
  have e3 : ((bs.zipIdx.filter fun q => decide (i ∈ [q.1.1, q.1.2])).map fun q => (hid.map fun r => (r.length : Int)).getD q.2 0).foldl (· * ·) (((headT ts i).map fun p => sz.getD p.1.toNat 0).foldl (· * ·) 1) = prodL (headS ts bs sz (hid.map fun r => (r.length : Int)) i) := by
    unfold headS
    rw [prodL_append]
    rfl
  rw [e3, ← htl] at a2
  unfold atF
  exact ⟨a2.1, by omega⟩
section
variable {P : Program} {w : World} {K : PySem.W.Frag} {mg : Str → Option Value} {base : Heap}
def sp_row_at : Spec := fun ds F => ∃ n ts bs sz hid tab i v h, ds = [dSh n ts bs, dSpec sz hid tab, .int i, dI v, dI h] ∧ GS n ts bs ∧ GWorld n ts bs sz hid tab ∧ 0 ≤ i ∧ i < n ∧ InSz sz v ∧ InSz (hid.map fun r => (r.length : Int)) h ∧
  F (lI (rowF ts bs sz (hid.map fun r => (r.length : Int)) tab i v h))
-- slots: 0 _law_shape, 1 _law_spec, 2 _law_name, 3 _law_values, 4 _law_hid, 5 _law_at, 6 _law_u, 7 _law_v, 8 _law_k, 9 _law_bow
theorem ok_law_row_at (S : Su K mg) : Good P w (tx K) mg base 1 (He.fAd K ("_law_row_at", none)) ["_law_shape", "_law_spec", "_law_name", "_law_values", "_law_hid"] sp_row_at := by
  obtain ⟨fd, F⟩ := S.def_ 42 (d := d_law_row_at)
  refine good_of F sc_law_row_at (fun _ _ _ _ _ _ us hl => match us, hl with | [_, _, _, _, _], _ => rfl) ?len ?body
  case len => intro ds F ⟨_, _, _, _, _, _, _, _, _, e, _⟩; rw [e]; rfl
  case body =>
    intro cdv' A outer s H E hr ds F ⟨n, ts, bs, sz, hid, tab, i, v, h, e, hg, hw, i0, i1, hv, hh, hF⟩
    subst e
    have n4 := hg.n4
    have hsl := hw.szl
    have hvl := hv.1
    have hhl := hh.1
    have hwl := hw.wl
    have hil := hw.hil
    have htl := hw.tal
    refine ⟨_, (pss_cons (ps_set (i := 5) sc_law_row_at.nd rfl (Or.inl rfl) pe_int)
    (pss_cons (ps_for PassesOwn.never rfl (pi_seq (pe_ix (ix_seqK (K := K)) (pv 0) pe_int (fun _ _ => rfl))) (pg_seqK (K := K) (n := 2) rfl (pgs_cons (pg_name (i := 6) sc_law_row_at.nd rfl (Or.inl rfl)) (pgs_cons (pg_name (i := 7) sc_law_row_at.nd rfl (Or.inl rfl)) pgs_nil))) (pss_one (ps_if (pt_cmpR (op_eqK (K := K) hr) (pv 7) (pv 2) (nomark _)) (pss_one (ps_set (i := 5) sc_law_row_at.nd rfl (Or.inl rfl) (pe_op (op_addK (K := K)) (pe_op op_mulXX (pv 5) (pe_ix (ix_seqK (K := K)) (pe_ix (ix_seqK (K := K)) (pv 1) pe_int (fun _ _ => rfl)) (pv 6) (fun _ _ => rfl))) (pe_ix (ix_seqK (K := K)) (pv 3) (pv 6) (fun _ _ => rfl))))) pss_nil)))
    (pss_cons (ps_for PassesOwn.never rfl (pi_enumX (by rfl) (S.free 49) (pe_ix (ix_seqK (K := K)) (pv 0) pe_int (fun _ _ => rfl))) (pg_seqK (K := K) (n := 2) rfl (pgs_cons (pg_name (i := 8) sc_law_row_at.nd rfl (Or.inl rfl)) (pgs_cons (pg_name (i := 9) sc_law_row_at.nd rfl (Or.inl rfl)) pgs_nil))) (pss_one (ps_if (pt_cmpR (op_inK (K := K) hr) (pv 2) (pv 9) (by rfl)) (pss_one (ps_set (i := 5) sc_law_row_at.nd rfl (Or.inl rfl) (pe_op (op_addK (K := K)) (pe_op op_mulXX (pv 5) (pe_callB (call_lenK (K := K)) (by rfl) (S.free 43) PySem.boot_len (pa_cons (pe_ix (ix_seqK (K := K)) (pe_ix (ix_seqK (K := K)) (pv 1) pe_int (fun _ _ => rfl)) (pv 8) (fun _ _ => rfl)) pa_nil))) (pe_ix (ix_seqK (K := K)) (pv 4) (pv 8) (fun _ _ => rfl))))) pss_nil)))
    (pss_one (ps_ret (pe_ix (ix_seqK (K := K)) (pe_ix (ix_seqK (K := K)) (pe_ix (ix_seqK (K := K)) (pv 1) pe_int (fun _ _ => rfl)) (pv 2) (fun _ _ => rfl)) (pv 5) (fun _ _ => rfl))))))), ?_⟩
    refine sq_asg (x := .int 0) ev_int ?_
    refine sq_for (ys := ts) (enc := dP) (ei_lst (by walk_at "ev")) (fun pre G' => G' = [.d (dSh n ts bs), .d (dSpec sz hid tab), .d (.int i), .d (dI v), .d (dI h), .d (.int (pre.foldl (atT sz v i) 0)), .un, .un, .un, .un]) (Wk.refl _) rfl ?_ ?_
    · intro pre p post G' e e2
      subst e2
      have hp := hg.t.1 p (mem_mid e)
      have hpre : ∀ q ∈ pre, 0 ≤ q.1 ∧ q.1 < q.2 ∧ q.2 < n := fun q hq => hg.t.1 q (by rw [e]; exact List.mem_append_left _ hq)
      have hnd : pre.Nodup := (List.nodup_append.mp (e ▸ hg.t.2.1)).1
      have a1 := atT_bd (sz := sz) (v := v) (i := i) pre 0 1 (fun q hq _ => hv.2 q.1.toNat (by have := hpre q hq; omega)) (Int.le_refl _) (by decide)
      have hb := headS_ok (bs := []) (sz := sz) (wd := []) (i := i) n4 hpre hnd (by simp) hsl hw.szv rfl (fun _ h => nomatch h)
      have pb := prodL_bound hb.1 hb.2
      have e3 : ((headT pre i).map fun p => sz.getD p.1.toNat 0).foldl (· * ·) 1 = prodL (headS pre [] sz [] i) := by
        unfold headS headB prodL
        simp
      rw [e3] at a1
      refine ⟨_, _, bd_2T, ?_⟩
      refine sg_if (b := decide (p.2 = i)) (by walk_at "ev") (fun hc => ?_) fun hc => ?_
      · have s23 := hw.szv _ (getD_mem (l := sz) (k := p.1.toNat) (d := 0) (by omega))
        refine sg_asgB (x := .int ((pre ++ [p]).foldl (atT sz v i) 0)) ((ev_add (ev_mul (ev_var rfl) (ev_ixZI (EvD.sL (ev_ixN (j := 0) (x := lI sz) (EvD.sL (ev_var rfl)) ev_int rfl)) (ev_var rfl) hp.1 (by omega)) (Bt.cm (a := 16) (b := 16) (bt_le a1.1 (by omega)) (bt_le (by omega) (by omega)))) (ev_ixZI (EvD.sT (ev_var rfl)) (ev_var rfl) hp.1 (by omega))).as ?_) bd_name ⟨_, ?wk, rfl⟩
        case wk => walk_at "wk"
        rw [List.foldl_append, List.foldl_cons, List.foldl_nil, atT, if_pos hc]
      · refine sg_next ⟨[.d (dSh n ts bs), .d (dSpec sz hid tab), .d (.int i), .d (dI v), .d (dI h), .d (.int ((pre ++ [p]).foldl (atT sz v i) 0)), .un, .un, .un, .un], ?_, rfl⟩
        rw [List.foldl_append, List.foldl_cons, List.foldl_nil, atT, if_neg (by rw [hc]; decide)]
        walk_at "wk"
    intro G' e2
    subst e2
    have a1 := atT_bd (sz := sz) (v := v) (i := i) ts 0 1 (fun q hq _ => hv.2 q.1.toNat (by have := hg.t.1 q hq; omega)) (Int.le_refl _) (by decide)
    refine sq_for (ys := bs.zipIdx) (enc := fun q => .tup [.int (q.2 : Nat), dP q.1]) (ei_enum (.inl (by walk_at "ev"))) (fun pre G' => G' = [.d (dSh n ts bs), .d (dSpec sz hid tab), .d (.int i), .d (dI v), .d (dI h), .d (.int (pre.foldl (atB (hid.map fun r => (r.length : Int)) h i) (ts.foldl (atT sz v i) 0))), .un, .un, .un, .un]) (Wk.refl _) rfl ?_ ?_
    · intro pre q post G' e e2
      subst e2
      have hq := (List.mem_zipIdx (mem_mid e)).2.1
      have hk : q.2 < hid.length := by omega
      have hpm : ∀ x ∈ pre, x.2 < bs.length := fun x hx => by have := (List.mem_zipIdx (show x ∈ bs.zipIdx by rw [e]; exact List.mem_append_left _ hx)).2.1; omega
      have a2 := atB_bd (wd := hid.map fun r => (r.length : Int)) (h := h) (i := i) pre _ _ (fun x hx => hh.2 x.2 (by rw [hwl]; exact hpm x hx)) a1.1 a1.2
      have hb := headS_ok (bs := bs) (sz := sz) (wd := hid.map fun r => (r.length : Int)) (i := i) n4 hg.t.1 hg.t.2.1 hg.b4 hsl hw.szv hwl hw.wv
      have bnd : pre.foldl (atB (hid.map fun r => (r.length : Int)) h i) (ts.foldl (atT sz v i) 0) ≤ 6561 := by
        have pf : pre.filter (fun q => decide (i ∈ [q.1.1, q.1.2])) <+: headB bs i := by
          unfold headB
          rw [e, List.filter_append]
          exact List.prefix_append _ _
        have hb' : ∀ x ∈ ((headT ts i).map fun p => sz.getD p.1.toNat 0) ++ (pre.filter (fun q => decide (i ∈ [q.1.1, q.1.2]))).map (fun q => (hid.map fun r => (r.length : Int)).getD q.2 0), 0 < x ∧ x ≤ 3 := fun x hx => hb.1 x (by
          unfold headS
          rcases List.mem_append.mp hx with hx | hx
          · exact List.mem_append_left _ hx
          · obtain ⟨y, hy, ey⟩ := List.mem_map.mp hx
            exact List.mem_append_right _ (List.mem_map.mpr ⟨y, pf.subset hy, ey⟩))
        have hl' : (((headT ts i).map fun p => sz.getD p.1.toNat 0) ++ (pre.filter (fun q => decide (i ∈ [q.1.1, q.1.2]))).map (fun q => (hid.map fun r => (r.length : Int)).getD q.2 0)).length ≤ 8 := by
          have := hb.2
          have h5 := pf.length_le
          unfold headS at this
          simp only [List.length_append, List.length_map] at *
          omega
        have pb := prodL_bound hb' hl'
        rw [prodL_append] at pb
        have := a2.2
        unfold prodL at pb
        omega
      refine ⟨_, _, bd_2T (x := .int (q.2 : Nat)) (y := dP q.1), ?_⟩
      refine sg_if (b := decide (i ∈ [q.1.1, q.1.2])) (et_test (ev_in (ns := [q.1.1, q.1.2]) (ev_var rfl) (EvD.sT (ev_var rfl)))) (fun hc => ?_) fun hc => ?_
      · have e5 : (hid.map fun r => (r.length : Int)).getD q.2 0 = ((hid.getD q.2 []).length : Int) := getD_map hk
        have e6 := (hw.hir _ (getD_mem hk (d := []))).len
        refine sg_asgB (x := .int ((pre ++ [q]).foldl (atB (hid.map fun r => (r.length : Int)) h i) (ts.foldl (atT sz v i) 0))) ((ev_add (ev_mul (ev_var rfl) ((ev_len (EvD.sL (ev_ixM (enc := lI) (d := []) (k := q.2) (ys := hid) (EvD.sL (ev_ixN (j := 1) (x := lLI hid) (EvD.sL (ev_var rfl)) ev_int rfl)) (ev_var rfl) hk))).as (y := .int ((hid.getD q.2 []).length : Nat)) (by rw [List.length_map])) (Bt.cm (a := 16) (b := 16) (bt_le a2.1 (by omega)) (bt_le (by omega) (by omega)))) (ev_ixI (EvD.sT (ev_var rfl)) (ev_var rfl) (by omega))).as ?_) bd_name ⟨_, ?wk, rfl⟩
        case wk => walk_at "wk"
        rw [List.foldl_append, List.foldl_cons, List.foldl_nil, atB, if_pos hc, e5]
      · refine sg_next ⟨[.d (dSh n ts bs), .d (dSpec sz hid tab), .d (.int i), .d (dI v), .d (dI h), .d (.int ((pre ++ [q]).foldl (atB (hid.map fun r => (r.length : Int)) h i) (ts.foldl (atT sz v i) 0))), .un, .un, .un, .un], ?_, rfl⟩
        rw [List.foldl_append, List.foldl_cons, List.foldl_nil, atB, if_neg (by rw [hc]; decide)]
        walk_at "wk"
    intro G' e2
    subst e2
    obtain ⟨f0, f1⟩ := atF_ok hg hw i0 i1 hv hh
    exact sg_ret (x := lI (rowF ts bs sz (hid.map fun r => (r.length : Int)) tab i v h)) (ev_ixZ (enc := lI) (d := []) (ys := tab.getD i.toNat []) (EvD.sL (ev_ixZ (enc := lLI) (d := []) (ys := tab) (EvD.sL (ev_ixN (j := 2) (x := lTab tab) (EvD.sL (ev_var rfl)) ev_int rfl)) (ev_var rfl) i0 (by omega))) (ev_var rfl) f0 f1) hF
/-! weights -/
theorem lkp_last {κ : Type} [DecidableEq κ] {l : List (κ × Int)} {k : κ} {a : Int} (h : k ∉ l.map (·.1)) : lkp (l ++ [(k, a)]) k = some a := by
  unfold lkp
  rw [List.find?_append, List.find?_eq_none.mpr (fun p hp => by
    have : p.1 ≠ k := fun e => h (List.mem_map.mpr ⟨p, hp, e⟩)
    simpa using this), Option.none_or, List.find?_cons]
  simp
theorem putL_new {κ : Type} [DecidableEq κ] {l : List (κ × Int)} {k : κ} {a : Int} (h : k ∉ l.map (·.1)) : putL l k a = l ++ [(k, a)] := by
  unfold putL
  rw [if_neg]
  rw [List.any_eq_true]
  rintro ⟨p, hp, e⟩
  exact h (List.mem_map.mpr ⟨p, hp, by simpa using e⟩)
theorem putL_last {κ : Type} [DecidableEq κ] {l : List (κ × Int)} {k : κ} {a b : Int} (h : k ∉ l.map (·.1)) : putL (l ++ [(k, a)]) k b = l ++ [(k, b)] := by
  unfold putL
  rw [if_pos (by simp), List.map_append]
  congr 1
  · conv => rhs; rw [← List.map_id l]
    refine List.map_congr_left fun p hp => ?_
    have : p.1 ≠ k := fun e => h (List.mem_map.mpr ⟨p, hp, e⟩)
    rw [if_neg this]
    rfl
  · simp
theorem row_le {s : Int} {r : List Int} (h : GRow s r) {x : Int} (hx : x ∈ r) : 0 < x ∧ x ≤ 8 := by
  refine ⟨h.pos x hx, ?_⟩
  have key : ∀ l : List Int, (∀ y ∈ l, 0 < y) → 0 ≤ l.sum ∧ ∀ y ∈ l, y ≤ l.sum := fun l => by
    induction l with
    | nil => intro _; exact ⟨by simp, fun y hy => nomatch hy⟩
    | cons a l ih =>
      intro hl
      obtain ⟨h1, h2⟩ := ih fun y hy => hl y (List.mem_cons_of_mem _ hy)
      have ha := hl a List.mem_cons_self
      rw [List.sum_cons]
      refine ⟨by omega, fun y hy => ?_⟩
      rcases List.mem_cons.mp hy with e | hy
      · omega
      · have := h2 y hy; omega
  have := (key r h.pos).2 x hx
  rw [h.sum] at this
  exact this
def sp_weights : Spec := fun ds F => ∃ n ts bs sz hid tab ones, ds = [dSh n ts bs, dSpec sz hid tab, dI ones] ∧ GS n ts bs ∧ GWorld n ts bs sz hid tab ∧ F (.du (weightsF n ts bs sz hid tab ones))
-- slots: 0 _law_shape, 1 _law_spec, 2 _law_ones, 3 _law_got, 4 _law_values, 5 _law_hid, 6 _law_weight, 7 _law_k, 8 _law_value, 9 _law_name, 10 _law_row
theorem ok_law_weights (S : Su K mg) : Good P w (tx K) mg base 2 (He.fAd K ("_law_weights", none)) ["_law_shape", "_law_spec", "_law_ones"] sp_weights := by
  obtain ⟨fd, F⟩ := S.def_ 43 (d := d_law_weights)
  have g_law_row_at := ok_law_row_at (P := P) (w := w) (base := base) S
  have g_law_ways := ok_law_ways (P := P) (w := w) (base := base) S
  refine good_of F sc_law_weights (fun _ _ _ _ _ _ us hl => match us, hl with | [_, _, _], _ => rfl) ?len ?body
  case len => intro ds F ⟨_, _, _, _, _, _, _, e, _⟩; rw [e]; rfl
  case body =>
    intro cdv' A outer s H E hr ds F ⟨n, ts, bs, sz, hid, tab, ones, e, hg, hw, hF⟩
    subst e
    have n4 := hg.n4
    have n1 := hg.n1
    have hsl := hw.szl
    have hwl := hw.wl
    have hil := hw.hil
    have htl := hw.tal
    have hb4 := hg.b4
    have s4 : sz.length ≤ 4 := by omega
    have szb : ∀ s ∈ sz, 0 ≤ s ∧ s ≤ 3 := fun s hs => by have := hw.szv s hs; omega
    have wdb : ∀ s ∈ (hid.map fun r => (r.length : Int)), 0 ≤ s ∧ s ≤ 3 := fun s hs => by have := hw.wv s hs; omega
    have lw : (waysF sz).length ≤ 81 := by
      have h1 := ways_len sz [[]] fun s hs => (szb s hs).2
      have h2 := pow3 s4
      unfold waysF
      simp at h1
      omega
    refine ⟨_, (pss_cons (ps_set (i := 3) sc_law_weights.nd rfl (Or.inl rfl) pe_dnewT)
    (pss_cons (ps_for PassesOwn.never rfl (pi_seq (pe_callG (T := tx K) g_law_ways (hr.mono (by decide)) (by rfl) (S.glo 36) (pa_cons (pe_ix (ix_seqK (K := K)) (pv 1) pe_int (fun _ _ => rfl)) pa_nil))) (pg_name (i := 4) sc_law_weights.nd rfl (Or.inl rfl)) (pss_cons (ps_dput (hu_of hr) (pv 3) (pv 4) pe_int rfl)
    (pss_one (ps_for PassesOwn.never rfl (pi_seq (pe_callG (T := tx K) g_law_ways (hr.mono (by decide)) (by rfl) (S.glo 36) (pa_cons (pe_lc (own := [("_law_row", 10)]) rfl sc_law_weights.nd (pi_seq (pe_ix (ix_seqK (K := K)) (pv 1) pe_int (fun _ _ => rfl))) (blkOk_by (own := [("_law_row", 10)]) (N := N_law_weights) (sc := defScope (top 56)) (by decide +kernel)) (fun _ _ _ _ _ => (pg_name (i := 10) sc_law_weights.nd rfl (by first | exact Or.inl rfl | exact Or.inr rfl))) (fun _ _ _ _ _ => pts_nil) (fun _ _ _ _ _ => (pe_callB (call_lenK (K := K)) (by rfl) (S.free 43) PySem.boot_len (pa_cons (pv 10) pa_nil)))) pa_nil))) (pg_name (i := 5) sc_law_weights.nd rfl (Or.inl rfl)) (pss_cons (ps_set (i := 6) sc_law_weights.nd rfl (Or.inl rfl) pe_int)
    (pss_cons (ps_for PassesOwn.never rfl (pi_enumX (by rfl) (S.free 49) (pv 5)) (pg_seqK (K := K) (n := 2) rfl (pgs_cons (pg_name (i := 7) sc_law_weights.nd rfl (Or.inl rfl)) (pgs_cons (pg_name (i := 8) sc_law_weights.nd rfl (Or.inl rfl)) pgs_nil))) (pss_one (ps_set (i := 6) sc_law_weights.nd rfl (Or.inl rfl) (pe_op op_mulXX (pv 6) (pe_ix (ix_seqK (K := K)) (pe_ix (ix_seqK (K := K)) (pe_ix (ix_seqK (K := K)) (pv 1) pe_int (fun _ _ => rfl)) (pv 7) (fun _ _ => rfl)) (pv 8) (fun _ _ => rfl))))))
    (pss_cons (ps_for PassesOwn.never rfl (pi_range1 (by rfl) (S.free 44) (pa_cons (pe_ix (ix_seqK (K := K)) (pv 0) pe_int (fun _ _ => rfl)) pa_nil)) (pg_name (i := 9) sc_law_weights.nd rfl (Or.inl rfl)) (pss_one (ps_if (pt_cmpR (op_niK (K := K) hr) (pv 9) (pv 2) (by rfl)) (pss_one (ps_set (i := 6) sc_law_weights.nd rfl (Or.inl rfl) (pe_op op_mulXX (pv 6) (pe_ix (ix_seqK (K := K)) (pe_callG (T := tx K) g_law_row_at (hr.mono (by decide)) (by rfl) (S.glo 37) (pa_cons (pv 0) (pa_cons (pv 1) (pa_cons (pv 9) (pa_cons (pv 4) (pa_cons (pv 5) pa_nil)))))) (pe_ix (ix_seqK (K := K)) (pv 4) (pv 9) (fun _ _ => rfl)) (fun _ _ => rfl))))) pss_nil)))
    (pss_one (ps_dput (hu_of hr) (pv 3) (pv 4) (pe_op (op_addK (K := K)) (pe_dget (hu_of hr) (pv 3) (pv 4) (fun _ _ => rfl)) (pv 6)) rfl)))))))))
    (pss_one (ps_ret (pv 3))))), ?_⟩
    refine sq_asgC ec_newT (lt_of_some rfl) ?_
    refine sq_for (ys := waysF sz) (enc := dI) (ei_lst (ev_callD (T := tx K) (x := lTI (waysF sz)) (ea1 (ev_ixN (j := 0) (x := lI sz) (EvD.sL (ev_var rfl)) ev_int rfl)) ⟨sz, rfl, szb, s4, rfl⟩)) (fun pre G' => G' = [.d (dSh n ts bs), .d (dSpec sz hid tab), .d (dI ones), .own (.dt (pre.map fun v => (v, wsumF n ts bs sz hid tab ones v))), .un, .un, .un, .un, .un, .un, .un]) (Wk.refl _) rfl ?_ ?_
    · intro pre v post G' e e2
      subst e2
      have hv := ways_ok (mem_mid e)
      have hvl := hv.1
      have nk : v ∉ (pre.map fun v => (v, wsumF n ts bs sz hid tab ones v)).map (·.1) := fun z => by
        rw [List.map_map] at z
        obtain ⟨y, hy, ey⟩ := List.mem_map.mp z
        have ey : y = v := ey
        subst ey
        have hnd := ways_nd sz (got := [[]]) (by simp)
        rw [show sz.foldl wayStep [[]] = waysF sz from rfl, e] at hnd
        exact (List.nodup_append.mp hnd).2.2 _ hy _ List.mem_cons_self rfl
      have lp : pre.length ≤ 81 := by have := congrArg List.length e; simp at this; omega
      have lL : (pre.map fun v => (v, wsumF n ts bs sz hid tab ones v)).length ≤ 81 := by rw [List.length_map]; exact lp
      have nxt : (pre ++ [v]).map (fun v => (v, wsumF n ts bs sz hid tab ones v)) = (pre.map fun v => (v, wsumF n ts bs sz hid tab ones v)) ++ [(v, wsumF n ts bs sz hid tab ones v)] := by rw [List.map_append]; rfl
      rw [nxt]
      generalize hL : (pre.map fun v => (v, wsumF n ts bs sz hid tab ones v)) = L at *
      refine ⟨_, _, bd_name, ?_⟩
      refine sq_dpT (k := v) (v := 0) rfl (ev_var rfl) ev_int (by omega) ?_
      rw [putL_new nk]
      refine sg_for (ys := waysF (hid.map fun r => (r.length : Int))) (enc := dI) (ei_lst (ev_callD (T := tx K) (x := lTI (waysF (hid.map fun r => (r.length : Int)))) (ea1 (EvN.d (EvN.as (en_lc1 (ys := hid) (enc := lI) (fun _ => true) (fun r => .int (r.length : Nat)) (ei_lst (ev_ixN (j := 1) (x := lLI hid) (EvD.sL (ev_var rfl)) ev_int rfl)).j (by omega) rfl fun r hr => ⟨et_yes, fun _ => (ev_len (EvD.sL (ev_var (x := lI r) rfl))).as (by rw [List.length_map])⟩) (by rw [filter_all]; exact (List.map_map (g := Dt.int) (f := fun r : List Int => ((r.length : Nat) : Int))).symm)))) ⟨_, rfl, wdb, by rw [hwl]; exact hb4, rfl⟩))
        (fun pre2 G' => G' = [.d (dSh n ts bs), .d (dSpec sz hid tab), .d (dI ones), .own (.dt (L ++ [(v, pre2.foldl (fun a h => a + wtF n ts bs sz hid tab ones v h) 0)])), .d (dI v), .un, .un, .un, .un, .un, .un]) (by walk_at "wk") rfl ?_ ?_
      · intro pre2 h post2 G' e' e2
        subst e2
        have hh := ways_ok (mem_mid e')
        have hhl := hh.1
        have nd2 : (pre2 ++ [h]).foldl (fun a h => a + wtF n ts bs sz hid tab ones v h) 0 = pre2.foldl (fun a h => a + wtF n ts bs sz hid tab ones v h) 0 + wtF n ts bs sz hid tab ones v h := by rw [List.foldl_append, List.foldl_cons, List.foldl_nil]
        rw [nd2]
        generalize hD : pre2.foldl (fun a h => a + wtF n ts bs sz hid tab ones v h) 0 = D at *
        refine ⟨_, _, bd_name, ?_⟩
        refine sq_asg (x := .int 1) ev_int ?_
        refine sq_for (ys := h.zipIdx) (enc := fun p => .tup [.int (p.2 : Nat), .int p.1]) (ei_enum (.inr (ev_var rfl))) (fun pre3 G' => Bt (4 * pre3.length + 1) (pre3.foldl (fun a p => a * (hid.getD p.2 []).getD p.1.toNat 0) 1) ∧ G' = [.d (dSh n ts bs), .d (dSpec sz hid tab), .d (dI ones), .own (.dt (L ++ [(v, D)])), .d (dI v), .d (dI h), .d (.int (pre3.foldl (fun a p => a * (hid.getD p.2 []).getD p.1.toNat 0) 1)), .un, .un, .un, .un]) (by walk_at "wk") ⟨show Bt 1 1 by unfold Bt; decide, rfl⟩ ?_ ?_
        · rintro pre3 p post3 G' e3 ⟨hbt, e2⟩
          subst e2
          have hp := List.mem_zipIdx (mem_mid e3)
          have hp2 := hp.2.1
          have hk : p.2 < hid.length := by rw [hil, ← hwl, ← hhl]; omega
          have hd := hh.2 p.2 (by rw [hwl]; omega)
          have ep : p.1 = h.getD p.2 0 := by
            have := hp.2.2
            rw [List.getD_eq_getElem?_getD, List.getElem?_eq_getElem (by omega)]
            simpa using this
          have e5 : (hid.map fun r => (r.length : Int)).getD p.2 0 = ((hid.getD p.2 []).length : Int) := getD_map hk
          have hrow := hw.hir _ (getD_mem hk (d := []))
          have hrl : p.1.toNat < (hid.getD p.2 []).length := by omega
          have hx := row_le hrow (getD_mem hrl (d := 0))
          have l3 : pre3.length < 4 := by have := congrArg List.length e3; simp at this; omega
          have hb1 : Bt 4 ((hid.getD p.2 []).getD p.1.toNat 0) := Bt.of (by omega) (by omega)
          have nxt3 : (pre3 ++ [p]).foldl (fun a p => a * (hid.getD p.2 []).getD p.1.toNat 0) 1 = pre3.foldl (fun a p => a * (hid.getD p.2 []).getD p.1.toNat 0) 1 * (hid.getD p.2 []).getD p.1.toNat 0 := by rw [List.foldl_append, List.foldl_cons, List.foldl_nil]
          rw [nxt3]
          generalize hW : pre3.foldl (fun a p => a * (hid.getD p.2 []).getD p.1.toNat 0) 1 = W at *
          refine ⟨_, _, bd_2T, ?_⟩
          refine sg_asgB (x := .int (W * (hid.getD p.2 []).getD p.1.toNat 0)) (ev_mul (ev_var rfl) (ev_ixZI (EvD.sL (ev_ixM (enc := lI) (d := []) (k := p.2) (ys := hid) (EvD.sL (ev_ixN (j := 1) (x := lLI hid) (EvD.sL (ev_var rfl)) ev_int rfl)) (ev_var rfl) hk)) (ev_var rfl) (by omega) hrl) (Bt.cm hbt hb1 (by omega))) bd_name ⟨_, ?wk, ?_, rfl⟩
          case wk => walk_at "wk"
          rw [List.length_append]
          exact (hbt.mul hb1).mono (by simp; omega)
        · rintro G' ⟨hbt, e2⟩
          subst e2
          have hl4 : h.length ≤ 4 := by omega
          rw [List.length_zipIdx] at hbt
          refine sq_for (ys := rgI n) (enc := .int) (EvI.as (ei_rng (ea1 (ev_ixN (j := 0) (x := .int n) (EvD.sL (ev_var rfl)) ev_int rfl)) (by omega) (by omega)) (rgD_rgI n)) (fun pre4 G' => Bt (4 * pre4.length + 17) (pre4.foldl (wtStep ts bs sz (hid.map fun r => (r.length : Int)) tab ones v h) (hwF hid h)) ∧ G' = [.d (dSh n ts bs), .d (dSpec sz hid tab), .d (dI ones), .own (.dt (L ++ [(v, D)])), .d (dI v), .d (dI h), .d (.int (pre4.foldl (wtStep ts bs sz (hid.map fun r => (r.length : Int)) tab ones v h) (hwF hid h))), .un, .un, .un, .un]) (Wk.refl _) ⟨hbt.mono (by simp; omega), rfl⟩ ?_ ?_
          · rintro pre4 i post4 G' e4 ⟨hbt, e2⟩
            subst e2
            have hi := rgI_mem.mp (show i ∈ rgI n from mem_mid e4)
            have l3 : pre4.length < 4 := by have := congrArg List.length e4; rw [rgI_len] at this; simp at this; omega
            have nxt4 : (pre4 ++ [i]).foldl (wtStep ts bs sz (hid.map fun r => (r.length : Int)) tab ones v h) (hwF hid h) = wtStep ts bs sz (hid.map fun r => (r.length : Int)) tab ones v h (pre4.foldl (wtStep ts bs sz (hid.map fun r => (r.length : Int)) tab ones v h) (hwF hid h)) i := by rw [List.foldl_append, List.foldl_cons, List.foldl_nil]
            rw [nxt4]
            generalize hW : pre4.foldl (wtStep ts bs sz (hid.map fun r => (r.length : Int)) tab ones v h) (hwF hid h) = W at *
            refine ⟨_, _, bd_name, ?_⟩
            refine sg_if (b := !decide (i ∈ ones)) (by walk_at "ev") (fun hc => ?_) fun hc => ?_
            · rw [wtStep, if_pos hc]
              obtain ⟨f0, f1⟩ := atF_ok hg hw hi.1 hi.2 hv hh
              have hit : i.toNat < tab.length := by omega
              have hrow := (hw.tar i.toNat _ (getD_at hit (d := []))).2 _ (getD_mem f1 (d := []))
              have hvi := hv.2 i.toNat (by omega)
              have hrl : (v.getD i.toNat 0).toNat < (rowF ts bs sz (hid.map fun r => (r.length : Int)) tab i v h).length := by
                have := hrow.len
                unfold rowF
                omega
              have hx := row_le hrow (getD_mem (show (v.getD i.toNat 0).toNat < ((tab.getD i.toNat []).getD (atF ts bs sz (hid.map fun r => (r.length : Int)) v h i).toNat []).length from hrl) (d := 0))
              have hb1 : Bt 4 ((rowF ts bs sz (hid.map fun r => (r.length : Int)) tab i v h).getD (v.getD i.toNat 0).toNat 0) := Bt.of (Int.le_of_lt hx.1) (by have := hx.2; unfold rowF; omega)
              have hc1 := ev_callD (T := tx K) (G := [.d (dSh n ts bs), .d (dSpec sz hid tab), .d (dI ones), .own (.dt (L ++ [(v, D)])), .d (dI v), .d (dI h), .d (.int W), .un, .un, .d (.int i), .un]) (E := E0) (S := sp_row_at) (x := lI (rowF ts bs sz (hid.map fun r => (r.length : Int)) tab i v h)) (ea_cons (ev_var (i := 0) rfl) (ea_cons (ev_var (i := 1) rfl) (ea_cons (ev_var (i := 9) rfl) (ea2 (ev_var (i := 4) rfl) (ev_var (i := 5) rfl))))) ⟨n, ts, bs, sz, hid, tab, i, v, h, rfl, hg, hw, hi.1, hi.2, hv, hh, rfl⟩
              generalize hR : rowF ts bs sz (hid.map fun r => (r.length : Int)) tab i v h = R at *
              refine sg_asgB (x := .int (W * R.getD (v.getD i.toNat 0).toNat 0)) (ev_mul (ev_var rfl) (ev_ixZI (EvD.sL hc1) (ev_ixZI (EvD.sT (ev_var rfl)) (ev_var rfl) hi.1 (by omega)) hvi.1 hrl) (Bt.cm hbt hb1 (by omega))) bd_name ⟨_, ?wk, ?_, rfl⟩
              case wk => walk_at "wk"
              rw [List.length_append]
              exact (hbt.mul hb1).mono (by simp; omega)
            · rw [wtStep, if_neg (by rw [hc]; decide)]
              refine sg_next ⟨_, ?wk, ?_, rfl⟩
              case wk => walk_at "wk"
              rw [List.length_append]
              exact hbt.mono (by omega)
          · rintro G' ⟨hbt, e2⟩
            subst e2
            have ew : (rgI n).foldl (wtStep ts bs sz (hid.map fun r => (r.length : Int)) tab ones v h) (hwF hid h) = wtF n ts bs sz hid tab ones v h := rfl
            rw [ew]
            generalize wtF n ts bs sz hid tab ones v h = W
            refine sg_dpT (k := v) (v := D + W) rfl (ev_var rfl) (ev_add (ev_dgT (edt_own rfl) (ev_var rfl) (lkp_last nk)) (ev_var rfl)) (by rw [List.length_append]; simp; omega) ⟨[.d (dSh n ts bs), .d (dSpec sz hid tab), .d (dI ones), .own (.dt (L ++ [(v, D + W)])), .d (dI v), .un, .un, .un, .un, .un, .un], ?_, rfl⟩
            rw [putL_last nk]
            walk_at "wk"
      · intro G' e2
        subst e2
        exact ⟨[.d (dSh n ts bs), .d (dSpec sz hid tab), .d (dI ones), .own (.dt (L ++ [(v, wsumF n ts bs sz hid tab ones v)])), .un, .un, .un, .un, .un, .un, .un], by unfold wsumF; walk_at "wk", rfl⟩
    · intro G' e2
      subst e2
      refine sg_wk (G' := [.un, .un, .un, .d (.du (weightsF n ts bs sz hid tab ones)), .un, .un, .un, .un, .un, .un, .un]) (.cons (.un _) (.cons (.un _) (.cons (.un _) (.cons (.fz _) (.cons (.un _) (.cons (.un _) (.cons (.un _) (.cons (.un _) (.cons (.un _) (.cons (.un _) (.cons (.un _) .nil))))))))))) ?_
      exact sg_ret (ev_var rfl) hF
end
end W3

namespace W3
/-! ### what a formula is worth -/
def upE (e : Int → Int) (j x : Int) : Int → Int := fun k => if k = j then x else e k
def upEs (e : Int → Int) (ns w : List Int) : Int → Int := ns.zipIdx.foldl (fun e p => upE e p.1 (w.getD p.2 0)) e
def agF (ns : List Int) (e : Int → Int) (y : List Int) : Bool := decide ((ns.filter fun j => !decide (y.getD j.toNat 0 = e j)) = [])
def topF (kt : List (List Int × Int)) (ns : List Int) (e : Int → Int) : Int := kt.foldl (fun a p => if agF ns e p.1 = true then a + p.2 else a) 0
def totF (kt : List (List Int × Int)) : Int := (kt.map (·.2)).sum
structure Sm (r : Rat) : Prop where
  nn : 0 ≤ r.num
  num : r.num.natAbs < 2 ^ 3000
  den : r.den < 2 ^ 3000
def dep : Fm → Nat
  | .one => 0
  | .seen _ => 0
  | .times a b => max (dep a) (dep b) + 1
  | .over a b => max (dep a) (dep b) + 1
  | .sum _ f => dep f + 1
def szAt (sz : List Int) (j : Int) : Int := sz.getD j.toNat 0
inductive Val (n : Int) (sz : List Int) (kt : List (List Int × Int)) : Fm → (Int → Int) → Rat → Prop
  | one {e : Int → Int} : Val n sz kt .one e 1
  | seen {e : Int → Int} {ns : List Int} : ns.length ≤ 1000 → (∀ j ∈ ns, 0 ≤ j ∧ j < n) → Val n sz kt (.seen ns) e (mkRat (topF kt ns e) (totF kt).toNat)
  | times {e : Int → Int} {f g : Fm} {a b : Rat} : Val n sz kt f e a → Val n sz kt g e b → Sm a → Sm b → Val n sz kt (.times f g) e (a * b)
  | over {e : Int → Int} {f g : Fm} {a b : Rat} : Val n sz kt f e a → Val n sz kt g e b → Sm a → Sm b → 0 < b.num → Val n sz kt (.over f g) e (a / b)
  | sum {e : Int → Int} {ns : List Int} {f : Fm} (g : List Int → Rat) : (∀ j ∈ ns, 0 ≤ j ∧ j < n) → ns.length ≤ 4 → (∀ w ∈ waysF (ns.map (szAt sz)), Val n sz kt f (upEs e ns w) (g w)) → (∀ w ∈ waysF (ns.map (szAt sz)), Sm (g w)) →
      (∀ pre post, waysF (ns.map (szAt sz)) = pre ++ post → Sm ((pre.map g).sum)) → Val n sz kt (.sum ns f) e (((waysF (ns.map (szAt sz))).map g).sum)
theorem low_mk {a b : Int} (hb : 0 < b) : lowF a b = ((mkRat a b.toNat).num, ((mkRat a b.toNat).den : Int)) := by
  have hd : b.toNat ≠ 0 := by omega
  have e : ((b.toNat : Nat) : Int) = b := by omega
  have eg : Int.gcd a b = b.toNat.gcd a.natAbs := by
    unfold Int.gcd
    rw [Nat.gcd_comm]
    congr 1
    omega
  rw [Rat.num_mkRat, if_neg hd, Rat.den_mkRat, if_neg hd]
  unfold lowF
  rw [eg]
  refine Prod.ext rfl ?_
  show b / _ = ((b.toNat / b.toNat.gcd a.natAbs : Nat) : Int)
  rw [Int.natCast_ediv, e]
theorem low_add (a b : Rat) : lowF (a.num * b.den + b.num * a.den) (a.den * b.den) = ((a + b).num, ((a + b).den : Int)) := by
  have h1 := a.den_pos
  have h2 := b.den_pos
  have h3 : 0 < (a.den : Int) * (b.den : Int) := Int.mul_pos (by omega) (by omega)
  have e : ((a.den : Int) * (b.den : Int)).toNat = a.den * b.den := by rw [← Int.natCast_mul]; exact Int.toNat_natCast _
  rw [low_mk h3, e, ← Rat.add_def']
theorem low_mul (a b : Rat) : lowF (a.num * b.num) (a.den * b.den) = ((a * b).num, ((a * b).den : Int)) := by
  have h1 := a.den_pos
  have h2 := b.den_pos
  have h3 : 0 < (a.den : Int) * (b.den : Int) := Int.mul_pos (by omega) (by omega)
  have e : ((a.den : Int) * (b.den : Int)).toNat = a.den * b.den := by rw [← Int.natCast_mul]; exact Int.toNat_natCast _
  rw [low_mk h3, e, ← Rat.mul_def']
theorem low_div (a b : Rat) (hb : 0 < b.num) : lowF (a.num * b.den) (a.den * b.num) = ((a / b).num, ((a / b).den : Int)) := by
  have h1 := a.den_pos
  have h3 : 0 < (a.den : Int) * b.num := Int.mul_pos (by omega) hb
  obtain ⟨m, hm⟩ := Int.eq_ofNat_of_zero_le (Int.le_of_lt hb)
  have e : ((a.den : Int) * b.num).toNat = a.den * m := by rw [hm, ← Int.natCast_mul]; exact Int.toNat_natCast _
  rw [low_mk h3, e]
  have e2 : a / b = mkRat (a.num * b.den) (a.den * m) := by
    rw [Rat.div_def, Rat.inv_def, hm, Rat.divInt_ofNat]
    conv => lhs; rw [← Rat.mkRat_self a]
    rw [Rat.mkRat_mul_mkRat]
  rw [e2]
/-! tables -/
section
variable {κ : Type} [DecidableEq κ]
theorem lkp_put {kvs : List (κ × Int)} {k k' : κ} {v : Int} : lkp (putL kvs k v) k' = if k' = k then some v else lkp kvs k' := by
  unfold putL
  split
  · rename_i h
    unfold lkp
    induction kvs with
    | nil => simp at h
    | cons p r ih =>
      rw [List.map_cons, List.find?_cons, List.find?_cons]
      by_cases e : p.1 = k
      · rw [if_pos e]
        by_cases e2 : k' = k
        · subst e2
          simp [e]
        · have n1 : ¬ p.1 = k' := fun z => e2 (z.symm.trans e)
          rw [decide_eq_false n1, if_neg e2]
          show Option.map _ (List.find? _ (r.map _)) = _
          by_cases h2 : (r.any fun p => decide (p.1 = k)) = true
          · have := ih h2
            rw [if_neg e2] at this
            exact this
          · have : r.map (fun p => if p.1 = k then (p.1, v) else p) = r := by
              conv => rhs; rw [← List.map_id r]
              refine List.map_congr_left fun q hq => ?_
              have : ¬ q.1 = k := fun z => h2 (List.any_eq_true.mpr ⟨q, hq, by simpa using z⟩)
              rw [if_neg this]; rfl
            rw [this]
      · rw [if_neg e]
        by_cases e2 : p.1 = k'
        · have n2 : ¬ k' = k := fun z => e (e2.trans z)
          simp [e2, n2]
        · rw [decide_eq_false e2]
          have h2 : (r.any fun p => decide (p.1 = k)) = true := by simpa [e] using h
          exact ih h2
  · rename_i h
    unfold lkp
    rw [List.find?_append]
    by_cases e : k' = k
    · subst e
      have : List.find? (fun p => decide (p.1 = k')) kvs = none := List.find?_eq_none.mpr fun p hp z => h (List.any_eq_true.mpr ⟨p, hp, z⟩)
      rw [this]
      simp
    · rw [if_neg e]
      cases q : List.find? (fun p => decide (p.1 = k')) kvs with
      | some x => rfl
      | none =>
        have : ¬ k = k' := fun z => e z.symm
        simp [this]
theorem putL_len {kvs : List (κ × Int)} {k : κ} {v x : Int} (h : lkp kvs k = some x) : (putL kvs k v).length = kvs.length := by
  unfold putL
  rw [if_pos, List.length_map]
  unfold lkp at h
  obtain ⟨p, hp, _⟩ := Option.map_eq_some_iff.mp h
  exact List.any_eq_true.mpr ⟨p, List.mem_of_find?_eq_some hp, by have := List.find?_some hp; simpa using this⟩
theorem lkp_mem {kvs : List (κ × Int)} (h : (kvs.map (·.1)).Nodup) {p : κ × Int} (hp : p ∈ kvs) : lkp kvs p.1 = some p.2 := by
  unfold lkp
  induction kvs with
  | nil => cases hp
  | cons q r ih =>
    rw [List.map_cons, List.nodup_cons] at h
    rw [List.find?_cons]
    rcases List.mem_cons.mp hp with e | hp
    · subst e; simp
    · have : ¬ q.1 = p.1 := fun z => h.1 (by rw [z]; exact List.mem_map_of_mem hp)
      rw [decide_eq_false this]
      exact ih h.2 hp
end
def EnvR (n : Int) (kvs : List (Int × Int)) (e : Int → Int) : Prop := ∀ j, 0 ≤ j → j < n → lkp kvs j = some (e j)
theorem EnvR.put {n : Int} {kvs : List (Int × Int)} {e : Int → Int} (h : EnvR n kvs e) (j x : Int) : EnvR n (putL kvs j x) (upE e j x) := fun k h0 h1 => by
  rw [lkp_put]
  unfold upE
  by_cases q : k = j
  · rw [if_pos q, if_pos q]
  · rw [if_neg q, if_neg q]
    exact h k h0 h1
structure KT (n : Int) (kt : List (List Int × Int)) : Prop where
  nd : (kt.map (·.1)).Nodup
  len : ∀ p ∈ kt, p.1.length = n.toNat
  nn : ∀ p ∈ kt, 0 ≤ p.2
  pos : 0 < totF kt
  big : totF kt < 2 ^ 3000
end W3

namespace W3
def top2F (kt : List (List Int × Int)) (ones asked : List Int) (e : Int → Int) : Int := kt.foldl (fun a p => if agF ones e p.1 = true then (if agF asked e p.1 = true then a + p.2 else a) else a) 0
structure Plain (n : Int) (ts bs : List (Int × Int)) (ones asked : List Int) (paper : List Row) (sz : List Int) (hid : List (List Int)) (tab : List (List (List Int))) (e : Int → Int) : Prop where
  kt : KT n (weightsF n ts bs sz hid tab [])
  val : Val n sz (weightsF n ts bs sz hid tab []) (formF n (sortP ts) (sortP bs) ones asked paper) e (mkRat (top2F (weightsF n ts bs sz hid tab ones) ones asked e) (topF (weightsF n ts bs sz hid tab ones) ones e).toNat)
  dp : dep (formF n (sortP ts) (sortP bs) ones asked paper) ≤ 59
  pos : 0 < topF (weightsF n ts bs sz hid tab ones) ones e
  big : topF (weightsF n ts bs sz hid tab ones) ones e < 2 ^ 3000
  nn : 0 ≤ top2F (weightsF n ts bs sz hid tab ones) ones asked e
theorem weights_keys {n : Int} {ts bs : List (Int × Int)} {sz : List Int} {hid : List (List Int)} {tab : List (List (List Int))} {ones : List Int} : (weightsF n ts bs sz hid tab ones).map (·.1) = waysF sz := by
  unfold weightsF
  rw [List.map_map]
  conv => rhs; rw [← List.map_id (waysF sz)]
  rfl
theorem weights_nd {n : Int} {ts bs : List (Int × Int)} {sz : List Int} {hid : List (List Int)} {tab : List (List (List Int))} {ones : List Int} : ((weightsF n ts bs sz hid tab ones).map (·.1)).Nodup := by
  rw [weights_keys]
  exact ways_nd sz (by simp)
theorem weights_in {n : Int} {ts bs : List (Int × Int)} {sz : List Int} {hid : List (List Int)} {tab : List (List (List Int))} {ones : List Int} {p : List Int × Int} (h : p ∈ weightsF n ts bs sz hid tab ones) : InSz sz p.1 := by
  have : p.1 ∈ (weightsF n ts bs sz hid tab ones).map (·.1) := List.mem_map_of_mem h
  rw [weights_keys] at this
  exact ways_ok this
end W3

namespace W3
open PySem PySem.Spec PyProof.Rows L2 Evl
local macro_rules | `(tactic| walk_at "ev") => `(tactic| first
  | ((with_reducible apply ev_var); exact rfl)
  | ((with_reducible apply es_own); exact rfl)
  | ((with_reducible apply el_own); exact rfl)
  | with_reducible exact ev_int
  | with_reducible exact ev_bl
  | with_reducible exact ev_str
  | with_reducible exact ev_non
  | with_reducible exact ea_nil
  | with_reducible exact et_yes
  | ((with_reducible apply ea_cons); walk_at "ev"; walk_at "ev")
  | ((with_reducible apply ev_add); walk_at "ev"; walk_at "ev")
  | ((with_reducible apply ev_sub); walk_at "ev"; walk_at "ev")
  | ((with_reducible apply ev_lt); walk_at "ev"; walk_at "ev")
  | ((with_reducible apply ev_le); walk_at "ev"; walk_at "ev")
  | ((with_reducible apply ev_gt); walk_at "ev"; walk_at "ev")
  | ((with_reducible apply ev_ge); walk_at "ev"; walk_at "ev")
  | ((with_reducible apply ev_in); walk_at "ev"; walk_at "ev")
  | ((with_reducible apply ev_ni); walk_at "ev"; walk_at "ev")
  | ((with_reducible apply ev_inLT); walk_at "ev"; walk_at "ev")
  | ((with_reducible apply ev_inL); walk_at "ev"; walk_at "ev")
  | ((with_reducible apply ev_niTT); walk_at "ev"; walk_at "ev")
  | ((with_reducible apply ev_eq); walk_at "ev"; walk_at "ev")
  | ((with_reducible apply ev_eqS); walk_at "ev"; walk_at "ev")
  | ((with_reducible apply ev_eqT); walk_at "ev"; walk_at "ev")
  | ((with_reducible apply ev_eqL); walk_at "ev"; walk_at "ev")
  | ((with_reducible apply ev_ne); walk_at "ev"; walk_at "ev")
  | ((with_reducible apply ev_neT); walk_at "ev"; walk_at "ev")
  | ((with_reducible apply ev_neL); walk_at "ev"; walk_at "ev")
  | ((with_reducible apply ev_neLT); walk_at "ev"; walk_at "ev")
  | ((with_reducible apply ev_neB); walk_at "ev"; walk_at "ev")
  | ((with_reducible apply ev_len); walk_at "ev")
  | ((with_reducible apply ev_tupOf); walk_at "ev")
  | ((with_reducible apply ev_intB); walk_at "ev")
  | ((with_reducible apply en_lstOf); walk_at "ev")
  | ((with_reducible apply et_test); walk_at "ev")
  | ((with_reducible apply et_B); walk_at "ev")
  | ((with_reducible apply et_not); walk_at "ev")
  | ((with_reducible apply EvD.sT); walk_at "ev")
  | ((with_reducible apply EvD.sL); walk_at "ev")
  | ((with_reducible apply EvD.l); walk_at "ev")
  | ((with_reducible apply EvN.s); walk_at "ev")
  | ((with_reducible apply EvN.d); walk_at "ev")
  | ((with_reducible apply EvN.l); walk_at "ev")
  | ((with_reducible apply et_and); walk_at "ev"; intro _; walk_at "ev")
  | ((with_reducible apply et_or); walk_at "ev"; intro _; walk_at "ev")
  | ((with_reducible apply ev_ixN (j := 0)); walk_at "ev"; exact ev_int; exact rfl)
  | ((with_reducible apply ev_ixN (j := 1)); walk_at "ev"; exact ev_int; exact rfl)
  | ((with_reducible apply ev_ixN (j := 2)); walk_at "ev"; exact ev_int; exact rfl)
  | ((with_reducible apply ev_mod); walk_at "ev"; walk_at "ev"; decide)
  | ((with_reducible apply ev_div); walk_at "ev"; walk_at "ev"; decide)
  | ((with_reducible apply ev_tup); walk_at "ev"; simp)
  | ((with_reducible apply en_lst); walk_at "ev"; simp))
local macro_rules | `(tactic| walk_at "wk") => `(tactic| first | exact Wk.nil | (refine Wk.cons (Wk1.rfl _) ?_; walk_at "wk") | (refine Wk.cons (Wk1.un _) ?_; walk_at "wk") | (refine Wk.cons (Wk1.fz _) ?_; walk_at "wk") | (refine Wk.cons (Wk1.lk _) ?_; walk_at "wk"))
def dR (r : Rat) : Dt := dP (r.num, (r.den : Int))
theorem encF_one : encF .one = .tup [.str ("one" : Str)] := by rw [encF]
theorem encF_seen (ns : List Int) : encF (.seen ns) = .tup [.str ("seen" : Str), dI ns] := by rw [encF]
theorem encF_times (a b : Fm) : encF (.times a b) = .tup [.str ("times" : Str), encF a, encF b] := by rw [encF]
theorem encF_over (a b : Fm) : encF (.over a b) = .tup [.str ("over" : Str), encF a, encF b] := by rw [encF]
theorem encF_sum (ns : List Int) (f : Fm) : encF (.sum ns f) = .tup [.str ("sum" : Str), dI ns, encF f] := by rw [encF]
theorem Sm.bn {r : Rat} (h : Sm r) : Bt 3000 r.num := h.num
theorem Sm.bd {r : Rat} (h : Sm r) : Bt 3000 (r.den : Int) := by unfold Bt; simpa using h.den
section
variable {T : Tx} {G : List Sl} {tb : TE}
theorem ev_eqSf {a b : Str} {ta : TE} (ha : EvD T ta G (.str a)) (h : decide (a = b) = false) : EvT T (tTest (tOp (rEqX T.K) ta (tC (.str b)))) G false := et_test ((ev_eqS ha ev_str).as (by rw [h]))
theorem ev_eqSt {a : Str} {ta : TE} (ha : EvD T ta G (.str a)) : EvT T (tTest (tOp (rEqX T.K) ta (tC (.str a)))) G true := et_test ((ev_eqS ha ev_str).as (by simp))
theorem ev_p0 {i : Nat} {r : Rat} (h : G[i]? = some (.d (dR r))) : EvD T (tOp (rIx T.K) (tVar i) (tC (.int 0))) G (.int r.num) := ev_ixN (j := 0) (EvD.sT (ds := [.int r.num, .int r.den]) (ev_var h)) ev_int rfl
theorem ev_p1 {i : Nat} {r : Rat} (h : G[i]? = some (.d (dR r))) : EvD T (tOp (rIx T.K) (tVar i) (tC (.int 1))) G (.int r.den) := ev_ixN (j := 1) (EvD.sT (ds := [.int r.num, .int r.den]) (ev_var h)) ev_int rfl
end
section
variable {P : Program} {w : World} {K : PySem.W.Frag} {mg : Str → Option Value} {base : Heap}
def sp_worth (d : Nat) : Spec := fun ds F => ∃ n sz kt f e kvs r, ds = [lI sz, .du kt, encF f, .dk kvs] ∧ dep f ≤ d ∧ sz.length = n.toNat ∧ (∀ s ∈ sz, 0 ≤ s ∧ s ≤ 3) ∧ KT n kt ∧ EnvR n kvs e ∧ kvs.length ≤ 1000 ∧ Val n sz kt f e r ∧ F (dR r)
theorem good_never {T : Tx} {x qual : Str} {params : Arguments} {body : List Stmt} {scope : Scope} {kws : List (Str × V)} {f : Addr} {fd : FuncData} {ps : List Str} (F : FunD T.K x qual params body scope [] kws f fd)
    (hb : ∀ (kV doc pm : Value) (an : Option Addr) (cdv ct : Value) (us : List Value), us.length = ps.length → bindArgs (PySem.W.fnOf x qual params body scope .none kV doc pm an cdv ct) ⟨us, []⟩ = pure (ps.zip us)) : Good P w T mg base 0 f ps (fun _ _ => False) :=
  ⟨⟨fd, ⟨fun vs H Q E ⟨_, _, _, _, _, h, _⟩ => h.elim, fun A outer s H args us vs Q E hr he hbd hv ⟨_, _, _, _, _, h, _⟩ => h.elim⟩, F.bindsN hb⟩, F.kp⟩
theorem worth_step (S : Su K mg) (d : Nat) (Srec : Spec) (g_rec : Good P w (tx K) mg base (d + 2) (He.fAd K ("_law_worth", none)) ["_law_sizes", "_law_weights_here", "_law_formula", "_law_values"] Srec) (hsub : ∀ d', d' < d → ∀ ds F, sp_worth d' ds F → Srec ds F) :
    Good P w (tx K) mg base (d + 3) (He.fAd K ("_law_worth", none)) ["_law_sizes", "_law_weights_here", "_law_formula", "_law_values"] (sp_worth d) := by
  obtain ⟨fd, F⟩ := S.def_ 45 (d := d_law_worth)
  have g_law_lowest := ok_law_lowest (P := P) (w := w) (base := base) S
  have g_law_ways := ok_law_ways (P := P) (w := w) (base := base) S
  refine good_of F sc_law_worth (fun _ _ _ _ _ _ us hl => match us, hl with | [_, _, _, _], _ => rfl) ?len ?body
  case len => intro ds F ⟨_, _, _, _, _, _, _, e, _⟩; rw [e]; rfl
  case body =>
    intro cdv' A outer s H E hr ds F ⟨n, sz, kt, f, e, kvs, r, eds, hdep, hsz, hszv, hkt, henv, hkl, hval, hF⟩
    subst eds
    have hrec : d + 2 ≤ d + 2 := Nat.le_refl _
    refine ⟨_, (pss_cons (ps_set (i := 4) sc_law_worth.nd rfl (Or.inl rfl) (pe_ix (ix_seqK (K := K)) (pv 2) pe_int (fun _ _ => rfl)))
    (pss_cons (ps_if (pt_cmpR (op_eqK (K := K) hr) (pv 4) pe_str (nomark _)) (pss_one (ps_ret (pe_tup (pa_cons pe_int (pa_cons pe_int pa_nil))))) pss_nil)
    (pss_cons (ps_if (pt_cmpR (op_eqK (K := K) hr) (pv 4) pe_str (nomark _)) (pss_cons (ps_set (i := 5) sc_law_worth.nd rfl (Or.inl rfl) pe_int)
    (pss_cons (ps_lock (ps_for PassesOwn.never rfl (pi_keys (pv 1)) (pg_name (i := 6) sc_law_worth.nd rfl (Or.inr rfl)) (pss_one (ps_if (pt_cmpR (op_eqK (K := K) hr) (pe_lc (own := [("_law_name", 11)]) rfl sc_law_worth.nd (pi_seq (pe_ix (ix_seqK (K := K)) (pv 2) pe_int (fun _ _ => rfl))) (blkOk_by (own := [("_law_name", 11)]) (N := N_law_worth) (sc := defScope (top 58)) (by decide +kernel)) (fun _ _ _ _ _ => (pg_name (i := 11) sc_law_worth.nd rfl (by first | exact Or.inl rfl | exact Or.inr rfl))) (fun _ _ _ _ _ => (pts_one (pt_cmpR (op_neK (K := K) hr) (pe_ix (ix_seqK (K := K)) (pv 6) (pv 11) (fun _ _ => rfl)) (pe_dget (hu_of hr) (pv 3) (pv 11) (fun _ _ => rfl)) (nomark _)))) (fun _ _ _ _ _ => (pv 11))) (pe_lst pa_nil) (nomark _)) (pss_one (ps_set (i := 5) sc_law_worth.nd rfl (Or.inl rfl) (pe_op (op_addK (K := K)) (pv 5) (pe_dget (hu_of hr) (pv 1) (pv 6) (fun _ _ => rfl))))) pss_nil))))
    (pss_one (ps_ret (pe_callG (T := tx K) g_law_lowest (hr.mono (by omega)) (by rfl) (S.glo 39) (pa_cons (pv 5) (pa_cons (pe_sumVals rfl (by rfl) (S.free 51) (pv 1)) pa_nil))))))) pss_nil)
    (pss_cons (ps_if (pt_cmpR (op_eqK (K := K) hr) (pv 4) pe_str (nomark _)) (pss_cons (ps_set (i := 7) sc_law_worth.nd rfl (Or.inl rfl) (pe_tup (pa_cons pe_int (pa_cons pe_int pa_nil))))
    (pss_cons (ps_for PassesOwn.never rfl (pi_seq (pe_callG (T := tx K) g_law_ways (hr.mono (by omega)) (by rfl) (S.glo 36) (pa_cons (pe_lc (own := [("_law_name", 11)]) rfl sc_law_worth.nd (pi_seq (pe_ix (ix_seqK (K := K)) (pv 2) pe_int (fun _ _ => rfl))) (blkOk_by (own := [("_law_name", 11)]) (N := N_law_worth) (sc := defScope (top 58)) (by decide +kernel)) (fun _ _ _ _ _ => (pg_name (i := 11) sc_law_worth.nd rfl (by first | exact Or.inl rfl | exact Or.inr rfl))) (fun _ _ _ _ _ => pts_nil) (fun _ _ _ _ _ => (pe_ix (ix_seqK (K := K)) (pv 0) (pv 11) (fun _ _ => rfl)))) pa_nil))) (pg_name (i := 8) sc_law_worth.nd rfl (Or.inl rfl)) (pss_cons (ps_set (i := 9) sc_law_worth.nd rfl (Or.inl rfl) (pe_callTy call_dictX (by rfl) (S.free 52) (by decide +kernel) (pa_cons (pv 3) pa_nil)))
    (pss_cons (ps_for PassesOwn.never rfl (pi_enumX (by rfl) (S.free 49) (pe_ix (ix_seqK (K := K)) (pv 2) pe_int (fun _ _ => rfl))) (pg_seqK (K := K) (n := 2) rfl (pgs_cons (pg_name (i := 10) sc_law_worth.nd rfl (Or.inl rfl)) (pgs_cons (pg_name (i := 11) sc_law_worth.nd rfl (Or.inl rfl)) pgs_nil))) (pss_one (ps_dput (hu_of hr) (pv 9) (pv 11) (pe_ix (ix_seqK (K := K)) (pv 8) (pv 10) (fun _ _ => rfl)) rfl)))
    (pss_cons (ps_set (i := 12) sc_law_worth.nd rfl (Or.inl rfl) (pe_callG (T := tx K) g_rec (hr.mono hrec) (by rfl) (S.glo 40) (pa_cons (pv 0) (pa_cons (pv 1) (pa_cons (pe_ix (ix_seqK (K := K)) (pv 2) pe_int (fun _ _ => rfl)) (pa_cons (pv 9) pa_nil))))))
    (pss_one (ps_set (i := 7) sc_law_worth.nd rfl (Or.inl rfl) (pe_callG (T := tx K) g_law_lowest (hr.mono (by omega)) (by rfl) (S.glo 39) (pa_cons (pe_op (op_addK (K := K)) (pe_op op_mulXX (pe_ix (ix_seqK (K := K)) (pv 7) pe_int (fun _ _ => rfl)) (pe_ix (ix_seqK (K := K)) (pv 12) pe_int (fun _ _ => rfl))) (pe_op op_mulXX (pe_ix (ix_seqK (K := K)) (pv 12) pe_int (fun _ _ => rfl)) (pe_ix (ix_seqK (K := K)) (pv 7) pe_int (fun _ _ => rfl)))) (pa_cons (pe_op op_mulXX (pe_ix (ix_seqK (K := K)) (pv 7) pe_int (fun _ _ => rfl)) (pe_ix (ix_seqK (K := K)) (pv 12) pe_int (fun _ _ => rfl))) pa_nil)))))))))
    (pss_one (ps_ret (pv 7))))) pss_nil)
    (pss_cons (ps_set (i := 12) sc_law_worth.nd rfl (Or.inl rfl) (pe_callG (T := tx K) g_rec (hr.mono hrec) (by rfl) (S.glo 40) (pa_cons (pv 0) (pa_cons (pv 1) (pa_cons (pe_ix (ix_seqK (K := K)) (pv 2) pe_int (fun _ _ => rfl)) (pa_cons (pv 3) pa_nil))))))
    (pss_cons (ps_set (i := 13) sc_law_worth.nd rfl (Or.inl rfl) (pe_callG (T := tx K) g_rec (hr.mono hrec) (by rfl) (S.glo 40) (pa_cons (pv 0) (pa_cons (pv 1) (pa_cons (pe_ix (ix_seqK (K := K)) (pv 2) pe_int (fun _ _ => rfl)) (pa_cons (pv 3) pa_nil))))))
    (pss_cons (ps_if (pt_cmpR (op_eqK (K := K) hr) (pv 4) pe_str (nomark _)) (pss_one (ps_ret (pe_callG (T := tx K) g_law_lowest (hr.mono (by omega)) (by rfl) (S.glo 39) (pa_cons (pe_op op_mulXX (pe_ix (ix_seqK (K := K)) (pv 12) pe_int (fun _ _ => rfl)) (pe_ix (ix_seqK (K := K)) (pv 13) pe_int (fun _ _ => rfl))) (pa_cons (pe_op op_mulXX (pe_ix (ix_seqK (K := K)) (pv 12) pe_int (fun _ _ => rfl)) (pe_ix (ix_seqK (K := K)) (pv 13) pe_int (fun _ _ => rfl))) pa_nil))))) pss_nil)
    (pss_one (ps_ret (pe_callG (T := tx K) g_law_lowest (hr.mono (by omega)) (by rfl) (S.glo 39) (pa_cons (pe_op op_mulXX (pe_ix (ix_seqK (K := K)) (pv 12) pe_int (fun _ _ => rfl)) (pe_ix (ix_seqK (K := K)) (pv 13) pe_int (fun _ _ => rfl))) (pa_cons (pe_op op_mulXX (pe_ix (ix_seqK (K := K)) (pv 12) pe_int (fun _ _ => rfl)) (pe_ix (ix_seqK (K := K)) (pv 13) pe_int (fun _ _ => rfl))) pa_nil)))))))))))), ?_⟩
    cases hval with
    | one =>
      rw [encF_one]
      refine sq_asg (x := .str ("one" : Str)) (ev_ixN (j := 0) (EvD.sT (ev_var rfl)) ev_int rfl) ?_
      refine sq_guard (b := true) (ev_eqSt (ev_var rfl)) (fun _ => sg_ret (x := dR 1) (ev_tup (ea2 ev_int ev_int) (by simp)) hF) fun h => nomatch h
    | seen hz hns =>
      rename_i ns
      rw [encF_seen]
      refine sq_asg (x := .str ("seen" : Str)) (ev_ixN (j := 0) (EvD.sT (ev_var rfl)) ev_int rfl) ?_
      refine sq_guard (b := false) (ev_eqSf (ev_var rfl) (by decide +kernel)) (fun h => nomatch h) fun _ => ?_
      refine sq_guard (b := true) (ev_eqSt (ev_var rfl)) (fun _ => ?_) fun h => nomatch h
      refine sq_asg (x := .int 0) ev_int ?_
      refine sq_keys (i := 1) (kvs := kt) rfl (fun y hy => ?_) (fun pre G' => G' = [.d (lI sz), .d (.dt kt), .d (.tup [.str ("seen" : Str), dI ns]), .d (.dk kvs), .d (.str ("seen" : Str)), .d (.int (topF pre ns e)), .un, .un, .un, .un, .un, .un, .un, .un]) rfl ?_ ?_
      · have hy : y ∈ [Sl.d (lI sz), .d (.dt kt), .d (.tup [.str ("seen" : Str), dI ns]), .d (.dk kvs), .d (.str ("seen" : Str)), .d (.int 0), .un, .un, .un, .un, .un, .un, .un, .un] := hy
        simp only [List.mem_cons, List.not_mem_nil, or_false] at hy
        rcases hy with h | h | h | h | h | h | h | h | h | h | h | h | h | h <;> subst h <;> simp [noDuS, noDu, noDuL, noDu_lI, noDu_dI]
      · intro pre y post G' e1 e2
        subst e2
        have hym : y ∈ kt := mem_mid e1
        have hyl := hkt.len y hym
        have etop : topF (pre ++ [y]) ns e = if agF ns e y.1 = true then topF pre ns e + y.2 else topF pre ns e := by unfold topF; rw [List.foldl_append]; rfl
        rw [etop]
        refine ⟨_, _, bd_name, ?_⟩
        refine sg_if (b := agF ns e y.1) (et_test (ev_eqL (ns := ns.filter fun j => !decide (y.1.getD j.toNat 0 = e j)) (ms := []) (EvN.d (en_lc1 (ys := ns) (enc := .int) (fun j => !decide (y.1.getD j.toNat 0 = e j)) .int (ei_tup (ev_ixN (j := 1) (x := dI ns) (EvD.sT (ev_var rfl)) ev_int rfl)).j (by omega) rfl fun j hj => ⟨et_test (ev_ne (ev_ixZI (EvD.sT (ev_var rfl)) (ev_var rfl) (hns j hj).1 (by have := hns j hj; omega)) (ev_dgK (edk rfl) (ev_var rfl) (henv j (hns j hj).1 (hns j hj).2))), fun _ => ev_var rfl⟩)) (EvN.d (en_lst ea_nil (by simp))))) (fun hc => ?_) fun hc => ?_
        · rw [if_pos hc]
          refine sg_asgB (x := .int (topF pre ns e + y.2)) (ev_add (ev_var rfl) (ev_dgT (edt rfl) (ev_var rfl) (lkp_mem hkt.nd hym))) bd_name ⟨_, ?wk, rfl⟩
          case wk => walk_at "wk"
        · rw [if_neg (by rw [hc]; decide)]
          refine sg_next ⟨_, ?wk, rfl⟩
          case wk => walk_at "wk"
      · intro G' e2
        subst e2
        have h0 : 0 ≤ topF kt ns e := by
          unfold topF
          have key : ∀ (l : List (List Int × Int)) (a : Int), 0 ≤ a → (∀ p ∈ l, 0 ≤ p.2) → 0 ≤ l.foldl (fun a p => if agF ns e p.1 = true then a + p.2 else a) a := fun l => by
            induction l with
            | nil => intro a ha _; exact ha
            | cons p l ih =>
              intro a ha hl
              have := hl p List.mem_cons_self
              exact ih _ (by show 0 ≤ (if agF ns e p.1 = true then a + p.2 else a); split <;> omega) fun q hq => hl q (List.mem_cons_of_mem _ hq)
          exact key kt 0 (Int.le_refl _) hkt.nn
        have hb : Bt 8000 (totF kt) := Bt.mono (a := 3000) (Bt.of (Int.le_of_lt hkt.pos) hkt.big) (by decide)
        refine sg_ret (x := dP (lowF (topF kt ns e) (totF kt))) (ev_callD (T := tx K) (ea2 (ev_var rfl) (ev_sumV (edt rfl))) ⟨_, _, rfl, h0, hkt.pos, hb, rfl⟩) ?_
        rw [low_mk hkt.pos]
        exact hF
    | @times _ f g a b ha hb sa sb =>
      rw [encF_times]
      have h1 : dep f < d := by unfold dep at hdep; omega
      have h2 : dep g < d := by unfold dep at hdep; omega
      refine sq_asg (x := .str ("times" : Str)) (ev_ixN (j := 0) (EvD.sT (ev_var rfl)) ev_int rfl) ?_
      refine sq_guard (b := false) (ev_eqSf (ev_var rfl) (by decide +kernel)) (fun h => nomatch h) fun _ => ?_
      refine sq_guard (b := false) (ev_eqSf (ev_var rfl) (by decide +kernel)) (fun h => nomatch h) fun _ => ?_
      refine sq_guard (b := false) (ev_eqSf (ev_var rfl) (by decide +kernel)) (fun h => nomatch h) fun _ => ?_
      refine sq_asg (x := dR a) (ev_callD (T := tx K) (ea_cons (ev_var rfl) (ea_cons (ev_var rfl) (ea2 (ev_ixN (j := 1) (x := encF f) (EvD.sT (ev_var rfl)) ev_int rfl) (ev_var rfl)))) (hsub _ h1 _ _ ⟨n, sz, kt, f, e, kvs, a, rfl, Nat.le_refl _, hsz, hszv, hkt, henv, hkl, ha, rfl⟩)) ?_
      refine sq_asg (x := dR b) (ev_callD (T := tx K) (ea_cons (ev_var rfl) (ea_cons (ev_var rfl) (ea2 (ev_ixN (j := 2) (x := encF g) (EvD.sT (ev_var rfl)) ev_int rfl) (ev_var rfl)))) (hsub _ h2 _ _ ⟨n, sz, kt, g, e, kvs, b, rfl, Nat.le_refl _, hsz, hszv, hkt, henv, hkl, hb, rfl⟩)) ?_
      have da := a.den_pos
      have db := b.den_pos
      refine sq_guard (b := true) (ev_eqSt (ev_var rfl)) (fun _ => ?_) fun h => nomatch h
      refine sg_ret (x := dP (lowF (a.num * b.num) (a.den * b.den))) (ev_callD (T := tx K) (ea2 (ev_mul (ev_p0 rfl) (ev_p0 rfl) (sa.bn.cm sb.bn)) (ev_mul (ev_p1 rfl) (ev_p1 rfl) (sa.bd.cm sb.bd))) ⟨_, _, rfl, Int.mul_nonneg sa.nn sb.nn, Int.mul_pos (by omega) (by omega), (sa.bd.mul sb.bd).mono (by decide), rfl⟩) ?_
      rw [low_mul]
      exact hF
    | @over _ f g a b ha hb sa sb hbp =>
      rw [encF_over]
      have h1 : dep f < d := by unfold dep at hdep; omega
      have h2 : dep g < d := by unfold dep at hdep; omega
      refine sq_asg (x := .str ("over" : Str)) (ev_ixN (j := 0) (EvD.sT (ev_var rfl)) ev_int rfl) ?_
      refine sq_guard (b := false) (ev_eqSf (ev_var rfl) (by decide +kernel)) (fun h => nomatch h) fun _ => ?_
      refine sq_guard (b := false) (ev_eqSf (ev_var rfl) (by decide +kernel)) (fun h => nomatch h) fun _ => ?_
      refine sq_guard (b := false) (ev_eqSf (ev_var rfl) (by decide +kernel)) (fun h => nomatch h) fun _ => ?_
      refine sq_asg (x := dR a) (ev_callD (T := tx K) (ea_cons (ev_var rfl) (ea_cons (ev_var rfl) (ea2 (ev_ixN (j := 1) (x := encF f) (EvD.sT (ev_var rfl)) ev_int rfl) (ev_var rfl)))) (hsub _ h1 _ _ ⟨n, sz, kt, f, e, kvs, a, rfl, Nat.le_refl _, hsz, hszv, hkt, henv, hkl, ha, rfl⟩)) ?_
      refine sq_asg (x := dR b) (ev_callD (T := tx K) (ea_cons (ev_var rfl) (ea_cons (ev_var rfl) (ea2 (ev_ixN (j := 2) (x := encF g) (EvD.sT (ev_var rfl)) ev_int rfl) (ev_var rfl)))) (hsub _ h2 _ _ ⟨n, sz, kt, g, e, kvs, b, rfl, Nat.le_refl _, hsz, hszv, hkt, henv, hkl, hb, rfl⟩)) ?_
      have da := a.den_pos
      have db := b.den_pos
      refine sq_guard (b := false) (ev_eqSf (ev_var rfl) (by decide +kernel)) (fun h => nomatch h) fun _ => ?_
      refine sg_ret (x := dP (lowF (a.num * b.den) (a.den * b.num))) (ev_callD (T := tx K) (ea2 (ev_mul (ev_p0 rfl) (ev_p1 rfl) (sa.bn.cm sb.bd)) (ev_mul (ev_p1 rfl) (ev_p0 rfl) (sa.bd.cm sb.bn))) ⟨_, _, rfl, Int.mul_nonneg sa.nn (by omega), Int.mul_pos (by omega) hbp, (sa.bd.mul sb.bn).mono (by decide), rfl⟩) ?_
      rw [low_div a b hbp]
      exact hF
    | @sum _ ns f g hns hn4 hg hsm hps =>
      rw [encF_sum]
      have h1 : dep f < d := by unfold dep at hdep; omega
      refine sq_asg (x := .str ("sum" : Str)) (ev_ixN (j := 0) (EvD.sT (ev_var rfl)) ev_int rfl) ?_
      refine sq_guard (b := false) (ev_eqSf (ev_var rfl) (by decide +kernel)) (fun h => nomatch h) fun _ => ?_
      refine sq_guard (b := false) (ev_eqSf (ev_var rfl) (by decide +kernel)) (fun h => nomatch h) fun _ => ?_
      refine sq_guard (b := true) (ev_eqSt (ev_var rfl)) (fun _ => ?_) fun h => nomatch h
      refine sq_asg (x := dR 0) (ev_tup (ea2 ev_int ev_int) (by simp)) ?_
      have hszn : ∀ j ∈ ns, j.toNat < sz.length := fun j hj => by have := hns j hj; omega
      refine sq_for (ys := waysF (ns.map (szAt sz))) (enc := dI) (ei_lst (ev_callD (T := tx K) (x := lTI (waysF (ns.map (szAt sz)))) (ea1 (EvN.d (EvN.as (en_lc1 (ys := ns) (enc := .int) (fun _ => true) (fun j => .int (szAt sz j)) (ei_tup (ev_ixN (j := 1) (x := dI ns) (EvD.sT (ev_var rfl)) ev_int rfl)).j (by omega) rfl fun j hj => ⟨et_yes, fun _ => ev_ixZI (ev_var rfl).sL (ev_var rfl) (hns j hj).1 (hszn j hj)⟩) (by rw [filter_all]; exact (List.map_map (g := Dt.int) (f := szAt sz)).symm)))) ⟨_, rfl, fun s hs => ?_, by rw [List.length_map]; exact hn4, rfl⟩))
        (fun pre G' => G' = [.d (lI sz), .d (.du kt), .d (.tup [.str ("sum" : Str), dI ns, encF f]), .d (.dk kvs), .d (.str ("sum" : Str)), .un, .un, .d (dR ((pre.map g).sum)), .un, .un, .un, .un, .un, .un]) (by walk_at "wk") rfl ?_ ?_
      · obtain ⟨j, hj, rfl⟩ := List.mem_map.mp hs
        exact hszv _ (getD_mem (hszn j hj))
      · intro pre wy post G' e1 e2
        subst e2
        have hwy : wy ∈ waysF (ns.map (szAt sz)) := mem_mid e1
        have hwl := (ways_ok hwy).1
        rw [List.length_map] at hwl
        have s1 := hps pre (wy :: post) e1
        have s2 := hsm wy hwy
        refine ⟨_, _, bd_name, ?_⟩
        refine sq_asgC (ec_dict (edk rfl)) (lt_of_some rfl) ?_
        refine sq_for (ys := ns.zipIdx) (enc := fun p => .tup [.int (p.2 : Nat), .int p.1]) (ei_enum (.inr (ev_ixN (j := 1) (x := dI ns) (EvD.sT (ev_var rfl)) ev_int rfl))) (fun pre2 G' => ∃ kv2, EnvR n kv2 (pre2.foldl (fun e p => upE e p.1 (wy.getD p.2 0)) e) ∧ kv2.length ≤ 1000 ∧ G' = [.d (lI sz), .d (.du kt), .d (.tup [.str ("sum" : Str), dI ns, encF f]), .d (.dk kvs), .d (.str ("sum" : Str)), .un, .un, .d (dR ((pre.map g).sum)), .d (dI wy), .own (.dk kv2), .un, .un, .un, .un]) (Wk.refl _) ⟨kvs, henv, hkl, rfl⟩ ?_ ?_
        · rintro pre2 p post2 G' e3 ⟨kv2, he2, hl2, e2⟩
          subst e2
          have hp := (List.mem_zipIdx (mem_mid e3))
          have hp2 : p.2 < ns.length := by have := hp.2.1; omega
          have hpn : p.1 ∈ ns := by have := hp.2.2; rw [this]; exact List.getElem_mem _
          have hb := hns p.1 hpn
          refine ⟨_, _, bd_2T, ?_⟩
          refine sg_dpK (k := p.1) (v := wy.getD p.2 0) rfl (ev_var rfl) (ev_ixI (EvD.sT (ev_var rfl)) (ev_var rfl) (by omega)) (by omega) ⟨_, ?wk, putL kv2 p.1 (wy.getD p.2 0), ?_, ?_, rfl⟩
          case wk => walk_at "wk"
          · rw [List.foldl_append, List.foldl_cons, List.foldl_nil]
            exact he2.put _ _
          · rw [putL_len (he2 p.1 hb.1 hb.2)]
            exact hl2
        · rintro G' ⟨kv2, he2, hl2, e2⟩
          subst e2
          refine sg_wk (G' := [.d (lI sz), .d (.du kt), .d (.tup [.str ("sum" : Str), dI ns, encF f]), .d (.dk kvs), .d (.str ("sum" : Str)), .un, .un, .d (dR ((pre.map g).sum)), .d (dI wy), .d (.dk kv2), .un, .un, .un, .un]) (by walk_at "wk") ?_
          refine sq_asg (x := dR (g wy)) (ev_callD (T := tx K) (ea_cons (ev_var rfl) (ea_cons (ev_var rfl) (ea2 (ev_ixN (j := 2) (x := encF f) (EvD.sT (ev_var rfl)) ev_int rfl) (ev_var rfl)))) (hsub _ h1 _ _ ⟨n, sz, kt, f, upEs e ns wy, kv2, g wy, rfl, Nat.le_refl _, hsz, hszv, hkt, he2, hl2, hg wy hwy, rfl⟩)) ?_
          have es : ((pre ++ [wy]).map g).sum = (pre.map g).sum + g wy := by rw [List.map_append, List.sum_append]; simp [Rat.add_zero]
          rw [es]
          generalize (pre.map g).sum = x at *
          generalize g wy = y at *
          have dx := x.den_pos
          have dy := y.den_pos
          refine sg_asgB (x := dP (lowF (x.num * y.den + y.num * x.den) (x.den * y.den))) (ev_callD (T := tx K) (ea2 (ev_add (ev_mul (ev_p0 rfl) (ev_p1 rfl) (s1.bn.cm s2.bd)) (ev_mul (ev_p0 rfl) (ev_p1 rfl) (s2.bn.cm s1.bd))) (ev_mul (ev_p1 rfl) (ev_p1 rfl) (s1.bd.cm s2.bd))) ⟨_, _, rfl, Int.add_nonneg (Int.mul_nonneg s1.nn (by omega)) (Int.mul_nonneg s2.nn (by omega)), Int.mul_pos (by omega) (by omega), (s1.bd.mul s2.bd).mono (by decide), rfl⟩) bd_name ⟨[.d (lI sz), .d (.du kt), .d (.tup [.str ("sum" : Str), dI ns, encF f]), .d (.dk kvs), .d (.str ("sum" : Str)), .un, .un, .d (dR (x + y)), .un, .un, .un, .un, .un, .un], ?_, rfl⟩
          rw [low_add]
          walk_at "wk"
      · intro G' e2
        subst e2
        exact sg_ret (ev_var rfl) hF
theorem ok_law_worth (S : Su K mg) : ∀ d, Good P w (tx K) mg base (d + 3) (He.fAd K ("_law_worth", none)) ["_law_sizes", "_law_weights_here", "_law_formula", "_law_values"] (sp_worth d)
  | 0 => by
    obtain ⟨fd, F⟩ := S.def_ 45 (d := d_law_worth)
    exact worth_step S 0 _ ((good_never F (fun _ _ _ _ _ _ us hl => match us, hl with | [_, _, _, _], _ => rfl)).mono (by omega)) fun d' h => absurd h (Nat.not_lt_zero _)
  | d + 1 => worth_step S (d + 1) _ (ok_law_worth S d) fun d' h ds F ⟨n, sz, kt, f, e, kvs, r, h1, h2, h3⟩ => ⟨n, sz, kt, f, e, kvs, r, h1, by omega, h3⟩
end
end W3

namespace W3
/-! ### sums of rationals -/
def sumR {α : Type} (l : List α) (f : α → Rat) : Rat := (l.map f).sum
theorem sumR_nil {α : Type} (f : α → Rat) : sumR [] f = 0 := rfl
theorem sumR_cons {α : Type} (a : α) (l : List α) (f : α → Rat) : sumR (a :: l) f = f a + sumR l f := by unfold sumR; rw [List.map_cons, List.sum_cons]
theorem sumR_app {α : Type} (a b : List α) (f : α → Rat) : sumR (a ++ b) f = sumR a f + sumR b f := by
  induction a with
  | nil => rw [List.nil_append, sumR_nil, Rat.zero_add]
  | cons x a ih => rw [List.cons_append, sumR_cons, sumR_cons, ih, Rat.add_assoc]
theorem sumR_congr {α : Type} {l : List α} {f g : α → Rat} (h : ∀ x ∈ l, f x = g x) : sumR l f = sumR l g := by
  unfold sumR
  rw [List.map_congr_left h]
theorem sumR_add {α : Type} (l : List α) (f g : α → Rat) : sumR l (fun x => f x + g x) = sumR l f + sumR l g := by
  induction l with
  | nil => simp only [sumR_nil]; rw [Rat.add_zero]
  | cons x l ih => rw [sumR_cons, sumR_cons, sumR_cons, ih]; grind
theorem sumR_zero {α : Type} (l : List α) : sumR l (fun _ => 0) = 0 := by
  induction l with
  | nil => rfl
  | cons x l ih => rw [sumR_cons, ih, Rat.add_zero]
theorem sumR_mul {α : Type} (c : Rat) (l : List α) (f : α → Rat) : sumR l (fun x => c * f x) = c * sumR l f := by
  induction l with
  | nil => simp only [sumR_nil]; rw [Rat.mul_zero]
  | cons x l ih => rw [sumR_cons, sumR_cons, ih, Rat.mul_add]
theorem sumR_swap {α β : Type} (a : List α) (b : List β) (f : α → β → Rat) : sumR a (fun x => sumR b (f x)) = sumR b (fun y => sumR a fun x => f x y) := by
  induction a with
  | nil => simp only [sumR_nil]; rw [sumR_zero]
  | cons x a ih =>
    rw [sumR_cons, ih, ← sumR_add]
    exact sumR_congr fun y _ => (sumR_cons x a fun x => f x y).symm
theorem sumR_flat {α β : Type} (l : List α) (f : α → List β) (g : β → Rat) : sumR (l.flatMap f) g = sumR l fun x => sumR (f x) g := by
  induction l with
  | nil => rfl
  | cons x l ih => rw [List.flatMap_cons, sumR_app, ih, sumR_cons]
theorem sumR_map {α β : Type} (l : List α) (f : α → β) (g : β → Rat) : sumR (l.map f) g = sumR l fun x => g (f x) := by
  unfold sumR
  rw [List.map_map]
  rfl
theorem sumR_perm {α : Type} {a b : List α} (h : a.Perm b) (f : α → Rat) : sumR a f = sumR b f := by
  induction h with
  | nil => rfl
  | cons x _ ih => rw [sumR_cons, sumR_cons, ih]
  | swap x y l => rw [sumR_cons, sumR_cons, sumR_cons, sumR_cons]; grind
  | trans _ _ h1 h2 => rw [h1, h2]
def prodR : List Rat → Rat
  | [] => 1
  | x :: l => x * prodR l
theorem prodR_app (a b : List Rat) : prodR (a ++ b) = prodR a * prodR b := by
  induction a with
  | nil => rw [List.nil_append, prodR, Rat.one_mul]
  | cons x a ih => rw [List.cons_append, prodR, prodR, ih, Rat.mul_assoc]
theorem prodR_perm {a b : List Rat} (h : a.Perm b) : prodR a = prodR b := by
  induction h with
  | nil => rfl
  | cons x _ ih => rw [prodR, prodR, ih]
  | swap x y l => rw [prodR, prodR, prodR, prodR]; grind
  | trans _ _ h1 h2 => rw [h1, h2]
/-! ### ways as nested sums -/
def NS : List Int → (List Int → Rat) → Rat
  | [], g => g []
  | s :: ss, g => sumR (rgI s) fun x => NS ss fun t => g (x :: t)
theorem ways_fold : ∀ (ss : List Int) (got : List (List Int)) (g : List Int → Rat), sumR (ss.foldl wayStep got) g = sumR got fun w => NS ss fun t => g (w ++ t)
  | [], got, g => sumR_congr fun w _ => by rw [NS, List.append_nil]
  | s :: ss, got, g => by
    rw [List.foldl_cons, ways_fold ss (wayStep got s) g]
    unfold wayStep
    rw [sumR_flat]
    refine sumR_congr fun w _ => ?_
    rw [sumR_map, NS]
    refine sumR_congr fun x _ => ?_
    congr 1
    funext t
    rw [List.append_assoc]
    rfl
theorem ways_NS (ss : List Int) (g : List Int → Rat) : sumR (waysF ss) g = NS ss g := by
  unfold waysF
  rw [ways_fold, sumR_cons, sumR_nil, Rat.add_zero]
  rfl
theorem NS_congr : ∀ {ss : List Int} {f g : List Int → Rat}, (∀ w, InSz ss w → f w = g w) → NS ss f = NS ss g
  | [], f, g, h => h [] ⟨rfl, fun k hk => nomatch hk⟩
  | s :: ss, f, g, h => sumR_congr fun x hx => NS_congr fun w hw => h (x :: w) ⟨by rw [List.length_cons, hw.1]; rfl, fun k hk => by
      cases k with
      | zero => exact rgI_mem.mp hx
      | succ k => exact hw.2 k (by simpa using hk)⟩
/-! ### sums over names -/
def SS (sz : List Int) : List Int → ((Int → Int) → Rat) → (Int → Int) → Rat
  | [], F, e => F e
  | j :: js, F, e => sumR (rgI (szAt sz j)) fun x => SS sz js F (upE e j x)
theorem upEs_cons (e : Int → Int) (j x : Int) (js w : List Int) : upEs e (j :: js) (x :: w) = upEs (upE e j x) js w := by
  unfold upEs
  rw [List.zipIdx_cons, List.foldl_cons]
  have key : ∀ (js : List Int) (k : Nat) (e : Int → Int), (js.zipIdx (k + 1)).foldl (fun e p => upE e p.1 ((x :: w).getD p.2 0)) e = (js.zipIdx k).foldl (fun e p => upE e p.1 (w.getD p.2 0)) e := fun js => by
    induction js with
    | nil => intro k e; rfl
    | cons a js ih =>
      intro k e
      rw [List.zipIdx_cons, List.zipIdx_cons, List.foldl_cons, List.foldl_cons, ih]
      rfl
  exact key js 0 _
theorem upEs_nil (e : Int → Int) (w : List Int) : upEs e [] w = e := rfl
theorem NS_SS (sz : List Int) : ∀ (js : List Int) (F : (Int → Int) → Rat) (e : Int → Int), NS (js.map (szAt sz)) (fun w => F (upEs e js w)) = SS sz js F e
  | [], F, e => rfl
  | j :: js, F, e => by
    rw [List.map_cons, NS, SS]
    refine sumR_congr fun x _ => ?_
    rw [← NS_SS sz js F (upE e j x)]
    congr 1
    funext w
    rw [upEs_cons]
theorem upEs_out {js : List Int} : ∀ {w : List Int} {e : Int → Int} {k : Int}, k ∉ js → w.length = js.length → upEs e js w k = e k := by
  induction js with
  | nil => intro w e k _ _; rfl
  | cons j js ih =>
    intro w e k hk hw
    cases w with
    | nil => cases hw
    | cons x w =>
      rw [List.mem_cons, not_or] at hk
      rw [upEs_cons, ih hk.2 (by simpa using hw)]
      unfold upE
      rw [if_neg hk.1]
theorem upEs_map : ∀ {js w : List Int} {e : Int → Int}, js.Nodup → w.length = js.length → js.map (upEs e js w) = w
  | [], [], _, _, _ => rfl
  | [], _ :: _, _, _, h => by simp at h
  | _ :: _, [], _, _, h => by simp at h
  | j :: js, x :: w, e, hn, h => by
    rw [List.nodup_cons] at hn
    have hw : w.length = js.length := by simpa using h
    rw [List.map_cons, upEs_cons, upEs_map hn.2 hw, upEs_out hn.1 hw]
    unfold upE
    rw [if_pos rfl]
theorem SS_app (sz : List Int) : ∀ (a b : List Int) (F : (Int → Int) → Rat) (e : Int → Int), SS sz (a ++ b) F e = SS sz a (SS sz b F) e
  | [], _, _, _ => rfl
  | j :: a, b, F, e => sumR_congr fun x _ => SS_app sz a b F _
theorem upE_comm {e : Int → Int} {i j x y : Int} (h : i ≠ j) : upE (upE e i x) j y = upE (upE e j y) i x := by
  funext k
  unfold upE
  by_cases h1 : k = j
  · rw [if_pos h1, if_neg (fun z => h (z.symm.trans h1)), if_pos h1]
  · rw [if_neg h1, if_neg h1]
theorem upE_same {e : Int → Int} {i x y : Int} : upE (upE e i x) i y = upE e i y := by
  funext k
  unfold upE
  split <;> rfl
theorem upE_id {e : Int → Int} {i : Int} : upE e i (e i) = e := by
  funext k
  unfold upE
  split
  · rename_i h; rw [h]
  · rfl
theorem SS_perm (sz : List Int) {a b : List Int} (h : a.Perm b) : ∀ (F : (Int → Int) → Rat) (e : Int → Int), SS sz a F e = SS sz b F e := by
  induction h with
  | nil => intro F e; rfl
  | cons x _ ih => intro F e; exact sumR_congr fun y _ => ih F _
  | swap i j l =>
    intro F e
    rw [SS, SS]
    by_cases hij : i = j
    · subst hij; rfl
    · show sumR _ (fun x => sumR _ fun y => SS sz l F (upE (upE e j x) i y)) = sumR _ (fun x => sumR _ fun y => SS sz l F (upE (upE e i x) j y))
      rw [sumR_swap]
      exact sumR_congr fun y _ => sumR_congr fun x _ => by rw [upE_comm fun z => hij z.symm]
  | trans _ _ h1 h2 => intro F e; rw [h1, h2]
/-- values in range -/
def InR (n : Int) (sz : List Int) (e : Int → Int) : Prop := ∀ j, 0 ≤ j → j < n → 0 ≤ e j ∧ e j < szAt sz j
theorem InR.up {n : Int} {sz : List Int} {e : Int → Int} (h : InR n sz e) {j x : Int} (hx : x ∈ rgI (szAt sz j)) : InR n sz (upE e j x) := fun k h0 h1 => by
  unfold upE
  by_cases q : k = j
  · rw [if_pos q, q]; exact rgI_mem.mp hx
  · rw [if_neg q]; exact h k h0 h1
theorem SS_congr {n : Int} {sz : List Int} {F G : (Int → Int) → Rat} : ∀ {js : List Int} {e : Int → Int}, InR n sz e → (∀ e, InR n sz e → F e = G e) → SS sz js F e = SS sz js G e
  | [], e, h, hf => hf e h
  | j :: js, e, h, hf => sumR_congr fun x hx => SS_congr (h.up hx) hf
theorem SS_mul (sz : List Int) (c : Rat) : ∀ (js : List Int) (F : (Int → Int) → Rat) (e : Int → Int), SS sz js (fun e => c * F e) e = c * SS sz js F e
  | [], F, e => rfl
  | j :: js, F, e => by
    rw [SS, SS, ← sumR_mul]
    exact sumR_congr fun x _ => SS_mul sz c js F _
/-- the sum over all that agrees with e on A -/
theorem SS_agree {n : Int} {sz : List Int} (A : List Int) {F : (Int → Int) → Rat} {e0 : Int → Int} (h0 : InR n sz e0) : ∀ (js : List Int) (e : Int → Int), js.Nodup → (∀ j ∈ js, 0 ≤ j ∧ j < n) → (∀ a ∈ A, a ∈ js ∨ e a = e0 a) → (∀ j ∈ js, e j = e0 j) →
    SS sz js (fun e => if (∀ a ∈ A, e a = e0 a) then F e else 0) e = SS sz (js.filter fun j => !decide (j ∈ A)) F e
  | [], e, _, _, ha, _ => by
    show (if (∀ a ∈ A, e a = e0 a) then F e else 0) = F e
    rw [if_pos fun a h => (ha a h).resolve_left fun z => nomatch z]
  | j :: js, e, hn, hr, ha, hj => by
    rw [List.nodup_cons] at hn
    have hr' := fun k hk => hr k (List.mem_cons_of_mem j hk)
    by_cases hA : j ∈ A
    · rw [List.filter_cons, if_neg (by simpa using hA), SS]
      have hmem : e0 j ∈ rgI (szAt sz j) := rgI_mem.mpr (h0 j (hr j List.mem_cons_self).1 (hr j List.mem_cons_self).2)
      have key : ∀ x ∈ rgI (szAt sz j), SS sz js (fun e => if (∀ a ∈ A, e a = e0 a) then F e else 0) (upE e j x) = if x = e0 j then SS sz (js.filter fun j => !decide (j ∈ A)) F e else 0 := fun x hx => by
        by_cases q : x = e0 j
        · rw [if_pos q]
          have e1 : upE e j x = e := by rw [q, ← hj j List.mem_cons_self]; exact upE_id
          rw [e1]
          refine SS_agree A h0 js e hn.2 hr' (fun a h => ?_) fun k hk => hj k (List.mem_cons_of_mem _ hk)
          rcases ha a h with h | h
          · rcases List.mem_cons.mp h with h | h
            · rw [h]; exact .inr (hj j List.mem_cons_self)
            · exact .inl h
          · exact .inr h
        · rw [if_neg q]
          have zero : ∀ (ks : List Int) (e : Int → Int), j ∉ ks → e j = x → SS sz ks (fun e => if (∀ a ∈ A, e a = e0 a) then F e else 0) e = 0 := fun ks => by
            induction ks with
            | nil =>
              intro e _ he
              show (if (∀ a ∈ A, e a = e0 a) then F e else 0) = 0
              rw [if_neg fun z => q (he.symm.trans (z j hA))]
            | cons k ks ih =>
              intro e hk he
              rw [List.mem_cons, not_or] at hk
              rw [SS]
              rw [sumR_congr (g := fun _ => 0) fun y _ => ih _ hk.2 (by unfold upE; rw [if_neg hk.1]; exact he)]
              exact sumR_zero _
          exact zero js _ hn.1 (by unfold upE; rw [if_pos rfl])
      rw [sumR_congr key]
      have pick : ∀ (l : List Int) (c : Rat) (y : Int), l.Nodup → y ∈ l → sumR l (fun x => if x = y then c else 0) = c := fun l c y => by
        induction l with
        | nil => intro _ h; cases h
        | cons a l ih =>
          intro hn hy
          rw [List.nodup_cons] at hn
          rw [sumR_cons]
          rcases List.mem_cons.mp hy with h | h
          · subst h
            rw [if_pos rfl, sumR_congr (g := fun _ => 0) fun x hx => by rw [if_neg (fun z : x = y => hn.1 (by rw [← z]; exact hx))], sumR_zero, Rat.add_zero]
          · rw [if_neg (fun z : a = y => hn.1 (by rw [z]; exact h)), ih hn.2 h, Rat.zero_add]
      exact pick _ _ _ (nd_rise (rgI_rise _)) hmem
    · rw [List.filter_cons, if_pos (by simpa using hA), SS, SS]
      have nj : ∀ k ∈ js, k ≠ j := fun k hk z => hn.1 (z ▸ hk)
      -- the value at j does not matter: e0 may be moved
      refine sumR_congr fun x hx => ?_
      have := SS_agree (F := F) A (e0 := upE e0 j x) (h0.up hx) js (upE e j x) hn.2 hr' (fun a h => ?_) (fun k hk => ?_)
      · rw [← this]
        refine congrFun (congrArg (SS sz js) (funext fun e' => ?_)) _
        have : (∀ a ∈ A, e' a = e0 a) ↔ (∀ a ∈ A, e' a = upE e0 j x a) := by
          have : ∀ a ∈ A, upE e0 j x a = e0 a := fun a ha' => by unfold upE; rw [if_neg (fun z : a = j => hA (by rw [← z]; exact ha'))]
          exact ⟨fun h a ha' => (h a ha').trans (this a ha').symm, fun h a ha' => (h a ha').trans (this a ha')⟩
        by_cases q : ∀ a ∈ A, e' a = e0 a
        · rw [if_pos q, if_pos (this.mp q)]
        · rw [if_neg q, if_neg fun z => q (this.mpr z)]
      · have naj : a ≠ j := fun z => hA (by rw [← z]; exact h)
        rcases ha a h with h2 | h2
        · exact .inl ((List.mem_cons.mp h2).resolve_left naj)
        · refine .inr ?_
          unfold upE
          rw [if_neg naj, if_neg naj]
          exact h2
      · unfold upE
        rw [if_neg (nj k hk), if_neg (nj k hk)]
        exact hj k (List.mem_cons_of_mem _ hk)
end W3

namespace W3
/-! ### the hidden ones: independence -/
/-- the mean over the rows hid -/
def EH : List (List Int) → (List Int → Rat) → Rat
  | [], F => F []
  | r :: hid, F => sumR (rgI (r.length : Nat)) fun x => (r.getD x.toNat 0 : Rat) / 8 * EH hid fun t => F (x :: t)
def hwR : List (List Int) → List Int → Rat
  | [], _ => 1
  | _, [] => 1
  | r :: hid, x :: t => (r.getD x.toNat 0 : Rat) / 8 * hwR hid t
theorem NS_mul (c : Rat) : ∀ (ss : List Int) (f : List Int → Rat), NS ss (fun w => c * f w) = c * NS ss f
  | [], f => rfl
  | s :: ss, f => by
    rw [NS, NS, ← sumR_mul]
    exact sumR_congr fun x _ => NS_mul c ss _
theorem NS_EH : ∀ (hid : List (List Int)) (F : List Int → Rat), NS (hid.map fun r => (r.length : Int)) (fun h => hwR hid h * F h) = EH hid F
  | [], F => by
    show (1 : Rat) * F [] = F []
    rw [Rat.one_mul]
  | r :: hid, F => by
    rw [List.map_cons, NS, EH]
    refine sumR_congr fun x _ => ?_
    rw [← NS_EH hid, ← NS_mul]
    congr 1
    funext t
    rw [hwR, Rat.mul_assoc]
theorem EH_congr : ∀ {hid : List (List Int)} {F G : List Int → Rat}, (∀ h, InSz (hid.map fun r => (r.length : Int)) h → F h = G h) → EH hid F = EH hid G
  | [], F, G, h => h [] ⟨rfl, fun k hk => nomatch hk⟩
  | r :: hid, F, G, h => sumR_congr fun x hx => by
      rw [EH_congr (hid := hid) fun t ht => h (x :: t) ⟨by rw [List.length_cons, ht.1, List.map_cons, List.length_cons], fun k hk => by
        cases k with
        | zero => exact rgI_mem.mp hx
        | succ k => exact ht.2 k (by simpa using hk)⟩]
/-- rows that sum to eight -/
theorem row_sumR (r : List Int) : sumR (rgI (r.length : Nat)) (fun x => (r.getD x.toNat 0 : Rat)) = (r.sum : Rat) := by
  have key : ∀ r : List Int, sumR (List.range r.length) (fun k => (r.getD k 0 : Rat)) = (r.sum : Rat) := fun r => by
    induction r with
    | nil => simp [sumR]
    | cons a r ih =>
      rw [List.length_cons, List.range_succ_eq_map, sumR_cons, sumR_map, List.sum_cons]
      rw [Rat.intCast_add, ← ih]
      rfl
  unfold rgI
  rw [sumR_map, ← key r]
  rw [Int.toNat_natCast]
  rfl
theorem EH_mul (c : Rat) : ∀ (hid : List (List Int)) (F : List Int → Rat), EH hid (fun h => c * F h) = c * EH hid F
  | [], F => rfl
  | r :: hid, F => by
    rw [EH, EH, ← sumR_mul]
    refine sumR_congr fun x _ => ?_
    rw [EH_mul c hid]
    grind
theorem row_one {r : List Int} (h : r.sum = 8) (c : Rat) : sumR (rgI (r.length : Nat)) (fun x => (r.getD x.toNat 0 : Rat) / 8 * c) = c := by
  have e : ∀ x : Int, (r.getD x.toNat 0 : Rat) / 8 * c = (c / 8) * (r.getD x.toNat 0 : Rat) := fun x => by grind
  rw [sumR_congr fun x _ => e x, sumR_mul, row_sumR, h]
  have : ((8 : Int) : Rat) = 8 := rfl
  rw [this]
  grind
theorem EH_const (c : Rat) : ∀ (hid : List (List Int)), (∀ r ∈ hid, r.sum = 8) → EH hid (fun _ => c) = c
  | [], _ => rfl
  | r :: hid, h => by
    rw [EH, EH_const c hid fun q hq => h q (List.mem_cons_of_mem _ hq)]
    exact row_one (h r List.mem_cons_self) c
/-- F does not look at the k-th -/
def Ind (F : List Int → Rat) (k : Nat) : Prop := ∀ h h' : List Int, h.length = h'.length → (∀ m, m ≠ k → h.getD m 0 = h'.getD m 0) → F h = F h'
theorem Ind.tail {F : List Int → Rat} {k : Nat} (h : Ind F (k + 1)) (x : Int) : Ind (fun t => F (x :: t)) k := fun a b hl hm => h _ _ (by simp [hl]) fun m hne => by
  cases m with
  | zero => rfl
  | succ m => exact hm m (by omega)
theorem Ind.head {F : List Int → Rat} (h : Ind F 0) (x y : Int) (t : List Int) : F (x :: t) = F (y :: t) := h _ _ rfl fun m hne => by
  cases m with
  | zero => exact absurd rfl hne
  | succ m => rfl
theorem EH_ind : ∀ (hid : List (List Int)) (F G : List Int → Rat), (∀ r ∈ hid, r.sum = 8) → (∀ k, Ind F k ∨ Ind G k) → EH hid (fun h => F h * G h) = EH hid F * EH hid G
  | [], _, _, _, _ => rfl
  | r :: hid, F, G, hs, hi => by
    have hs' := fun q hq => hs q (List.mem_cons_of_mem r hq)
    have step : ∀ x, EH hid (fun t => F (x :: t) * G (x :: t)) = EH hid (fun t => F (x :: t)) * EH hid (fun t => G (x :: t)) := fun x =>
      EH_ind hid _ _ hs' fun k => (hi (k + 1)).imp (fun h => h.tail x) fun h => h.tail x
    rw [EH, EH, EH]
    rw [sumR_congr fun x _ => by rw [step x]]
    rcases hi 0 with h | h
    · have e : ∀ x, EH hid (fun t => F (x :: t)) = EH hid (fun t => F (0 :: t)) := fun x => congrArg (EH hid) (funext fun t => h.head x 0 t)
      rw [sumR_congr fun x _ => by rw [e x], sumR_congr (l := rgI (r.length : Nat)) (f := fun x => (r.getD x.toNat 0 : Rat) / 8 * EH hid fun t => F (x :: t)) fun x _ => by rw [e x]]
      rw [row_one (hs r List.mem_cons_self), ← sumR_mul]
      exact sumR_congr fun x _ => by grind
    · have e : ∀ x, EH hid (fun t => G (x :: t)) = EH hid (fun t => G (0 :: t)) := fun x => congrArg (EH hid) (funext fun t => h.head x 0 t)
      rw [sumR_congr fun x _ => by rw [e x], sumR_congr (l := rgI (r.length : Nat)) (f := fun x => (r.getD x.toNat 0 : Rat) / 8 * EH hid fun t => G (x :: t)) fun x _ => by rw [e x]]
      rw [row_one (hs r List.mem_cons_self), Rat.mul_comm, ← sumR_mul]
      exact sumR_congr fun x _ => by grind
/-- sums of other things come in -/
theorem EH_sum {α : Type} (l : List α) : ∀ (hid : List (List Int)) (F : α → List Int → Rat), sumR l (fun x => EH hid (F x)) = EH hid fun h => sumR l fun x => F x h
  | [], F => rfl
  | r :: hid, F => by
    show sumR l (fun x => sumR _ fun y => _) = sumR _ _
    rw [sumR_swap]
    refine sumR_congr fun y _ => ?_
    rw [sumR_mul, EH_sum l hid]
end W3

namespace W3
structure WD where
  n : Int
  ts : List (Int × Int)
  bs : List (Int × Int)
  sz : List Int
  hid : List (List Int)
  tab : List (List (List Int))
def WD.wd (D : WD) : List Int := D.hid.map fun r => (r.length : Int)
structure WD.Ok (D : WD) : Prop where
  g : GS D.n D.ts D.bs
  w : GWorld D.n D.ts D.bs D.sz D.hid D.tab
def WD.vec (D : WD) (e : Int → Int) : List Int := (rgI D.n).map e
def WD.row (D : WD) (i : Int) (e : Int → Int) (h : List Int) : List Int := rowF D.ts D.bs D.sz D.wd D.tab i (D.vec e) h
/-- the share of i -/
def WD.t (D : WD) (i : Int) (e : Int → Int) (h : List Int) : Rat := ((D.row i e h).getD (e i).toNat 0 : Rat) / 8
def WD.f (D : WD) (S : List Int) (e : Int → Int) (h : List Int) : Rat := prodR (S.map fun i => D.t i e h)
def WD.Q (D : WD) (S : List Int) (e : Int → Int) : Rat := EH D.hid (D.f S e)
section
variable {D : WD} (W : D.Ok) {e e' : Int → Int} {i j x : Int} {h h' : List Int} {S A B : List Int}
theorem vec_getD (h0 : 0 ≤ i) (h1 : i < D.n) : (D.vec e).getD i.toNat 0 = e i := by
  have hl : i.toNat < (rgI D.n).length := by unfold rgI; rw [List.length_map, List.length_range]; omega
  have : (rgI D.n).getD i.toNat 0 = i := by
    unfold rgI
    have hl' : i.toNat < (List.range D.n.toNat).length := by rw [List.length_range]; omega
    rw [getD_map (d := 0) hl', List.getD_eq_getElem?_getD, List.getElem?_range (by omega)]
    show ((i.toNat : Nat) : Int) = i
    omega
  unfold WD.vec
  rw [getD_map (d := 0) hl, this]
theorem szAt_eq {sz : List Int} : szAt sz i = sz.getD i.toNat 0 := rfl
include W in
theorem vec_in (he : InR D.n D.sz e) : InSz D.sz (D.vec e) := by
  have hs := W.w.szl
  refine ⟨by unfold WD.vec rgI; rw [List.length_map, List.length_map, List.length_range, hs], fun k hk => ?_⟩
  have hk2 : ((k : Nat) : Int) < D.n := by omega
  have e1 := vec_getD (D := D) (e := e) (i := (k : Nat)) (by omega) hk2
  rw [Int.toNat_natCast] at e1
  rw [e1]
  have := he (k : Nat) (by omega) hk2
  unfold szAt at this
  rw [Int.toNat_natCast] at this
  exact this
theorem atT_congr {sz v v' : List Int} : ∀ (ts : List (Int × Int)) (a : Int), (∀ p ∈ ts, p.2 = i → v.getD p.1.toNat 0 = v'.getD p.1.toNat 0) → ts.foldl (atT sz v i) a = ts.foldl (atT sz v' i) a
  | [], a, _ => rfl
  | p :: ts, a, hh => by
    rw [List.foldl_cons, List.foldl_cons]
    have e1 : atT sz v i a p = atT sz v' i a p := by
      unfold atT
      by_cases q : p.2 = i
      · rw [hh p List.mem_cons_self q]
      · rw [if_neg (by simpa using q), if_neg (by simpa using q)]
    rw [e1]
    exact atT_congr ts _ fun q hq => hh q (List.mem_cons_of_mem _ hq)
theorem atB_congr {wd : List Int} : ∀ (bs : List ((Int × Int) × Nat)) (a : Int), (∀ q ∈ bs, i ∈ [q.1.1, q.1.2] → h.getD q.2 0 = h'.getD q.2 0) → bs.foldl (atB wd h i) a = bs.foldl (atB wd h' i) a
  | [], a, _ => rfl
  | p :: bs, a, hh => by
    rw [List.foldl_cons, List.foldl_cons]
    have e1 : atB wd h i a p = atB wd h' i a p := by
      unfold atB
      by_cases q : i ∈ [p.1.1, p.1.2]
      · rw [hh p List.mem_cons_self q]
      · rw [if_neg (by simpa using q), if_neg (by simpa using q)]
    rw [e1]
    exact atB_congr bs _ fun q hq => hh q (List.mem_cons_of_mem _ hq)
include W in
theorem row_env (he : ∀ u, (u, i) ∈ D.ts → e u = e' u) : D.row i e h = D.row i e' h := by
  unfold WD.row rowF atF
  rw [atT_congr D.ts 0 fun p hp q => ?_]
  have hp' := W.g.t.1 p hp
  rw [vec_getD (by omega) (by omega), vec_getD (by omega) (by omega)]
  exact he p.1 (by rw [← q]; exact hp)
theorem row_hid (hh : ∀ q ∈ D.bs.zipIdx, i ∈ [q.1.1, q.1.2] → h.getD q.2 0 = h'.getD q.2 0) : D.row i e h = D.row i e h' := by
  unfold WD.row rowF atF
  rw [atB_congr _ _ hh]
include W in
theorem row_ok (h0 : 0 ≤ i) (h1 : i < D.n) (he : InR D.n D.sz e) (hh : InSz D.wd h) : GRow (szAt D.sz i) (D.row i e h) := by
  obtain ⟨f0, f1⟩ := atF_ok W.g W.w h0 h1 (vec_in W he) hh
  have htl := W.w.tal
  have hit : i.toNat < D.tab.length := by omega
  exact (W.w.tar i.toNat _ (getD_at hit (d := []))).2 _ (getD_mem f1 (d := []))
include W in
theorem t_env (hi : e i = e' i) (he : ∀ u, (u, i) ∈ D.ts → e u = e' u) : D.t i e h = D.t i e' h := by
  unfold WD.t
  rw [row_env W he, hi]
include W in
theorem t_one (h0 : 0 ≤ i) (h1 : i < D.n) (he : InR D.n D.sz e) (hh : InSz D.wd h) : sumR (rgI (szAt D.sz i)) (fun x => D.t i (upE e i x) h) = 1 := by
  have hr := row_ok W h0 h1 he hh
  have e1 : ∀ x, D.t i (upE e i x) h = ((D.row i e h).getD x.toNat 0 : Rat) / 8 * 1 := fun x => by
    unfold WD.t
    have : D.row i (upE e i x) h = D.row i e h := row_env W fun u hu => by
      have := W.g.t.1 _ hu
      simp at this
      unfold upE
      rw [if_neg (by omega)]
    rw [this, Rat.mul_one]
    unfold upE
    rw [if_pos rfl]
  rw [sumR_congr fun x _ => e1 x, ← hr.len]
  exact row_one hr.sum 1
include W in
theorem t_pos (h0 : 0 ≤ i) (h1 : i < D.n) (he : InR D.n D.sz e) (hh : InSz D.wd h) : ∃ a : Int, 0 < a ∧ a ≤ 8 ∧ D.t i e h = (a : Rat) / 8 := by
  have hr := row_ok W h0 h1 he hh
  have hl := hr.len
  have hi := he i h0 h1
  have hx := row_le hr (getD_mem (show (e i).toNat < (D.row i e h).length by omega) (d := 0))
  exact ⟨_, hx.1, hx.2, rfl⟩
theorem Q_perm (h : A.Perm B) : D.Q A e = D.Q B e := by
  unfold WD.Q WD.f
  congr 1
  funext k
  exact prodR_perm (h.map _)
include W in
theorem Q_nil : D.Q [] e = 1 := EH_const 1 D.hid fun r hr => (W.w.hir r hr).sum
include W in
theorem Q_out (h0 : 0 ≤ j) (h1 : j < D.n) (he : InR D.n D.sz e) (hS : ∀ i ∈ S, i ≠ j ∧ (j, i) ∉ D.ts) : SS D.sz [j] (D.Q (j :: S)) e = D.Q S e := by
  show sumR (rgI (szAt D.sz j)) (fun x => D.Q (j :: S) (upE e j x)) = _
  unfold WD.Q
  rw [EH_sum]
  refine EH_congr fun h hh => ?_
  have e1 : ∀ x, D.f (j :: S) (upE e j x) h = D.f S e h * D.t j (upE e j x) h := fun x => by
    unfold WD.f
    rw [List.map_cons, prodR, Rat.mul_comm]
    congr 2
    refine List.map_congr_left fun i hi => ?_
    obtain ⟨hne, hnt⟩ := hS i hi
    refine t_env W ?_ fun u hu => ?_
    · unfold upE; rw [if_neg hne]
    · unfold upE
      rw [if_neg (fun z : u = j => hnt (by rw [← z]; exact hu))]
  rw [sumR_congr fun x _ => e1 x, sumR_mul, t_one W h0 h1 he hh, Rat.mul_one]
include W in
/-- summing out D, rising, that no tie leaves towards N -/
theorem Q_sum : ∀ (k : Nat) (L N : List Int) (e : Int → Int), L.length = k → L.Pairwise (· < ·) → (∀ u ∈ L, 0 ≤ u ∧ u < D.n) → (∀ i ∈ N, i ∉ L ∧ ∀ u ∈ L, (u, i) ∉ D.ts) → InR D.n D.sz e → SS D.sz L (D.Q (L ++ N)) e = D.Q N e
  | 0, L, N, e, hk, _, _, _, _ => by
    have : L = [] := List.length_eq_zero_iff.mp hk
    subst this
    rfl
  | k + 1, L, N, e, hk, hr, hb, hN, he => by
    obtain ⟨L', j, rfl⟩ : ∃ L' j, L = L' ++ [j] := ⟨L.dropLast, L.getLast (by intro z; rw [z] at hk; cases hk), (List.dropLast_concat_getLast _).symm⟩
    have hj := hb j (by simp)
    have hlt : ∀ a ∈ L', a < j := fun a ha => (List.pairwise_append.mp hr).2.2 a ha j (List.mem_singleton.mpr rfl)
    rw [SS_app]
    have step : ∀ e, InR D.n D.sz e → SS D.sz [j] (D.Q (L' ++ [j] ++ N)) e = D.Q (L' ++ N) e := fun e he => by
      have hp : (L' ++ [j] ++ N).Perm (j :: (L' ++ N)) := by
        rw [List.append_assoc]
        exact List.perm_middle
      rw [show D.Q (L' ++ [j] ++ N) = D.Q (j :: (L' ++ N)) from funext fun e => Q_perm hp]
      refine Q_out W hj.1 hj.2 he fun i hi => ?_
      rcases List.mem_append.mp hi with hi | hi
      · have := hlt i hi
        refine ⟨by omega, fun z => ?_⟩
        have := W.g.t.1 _ z
        simp at this
        omega
      · exact ⟨fun z => (hN i hi).1 (by rw [z]; simp), (hN i hi).2 j (by simp)⟩
    rw [SS_congr he step]
    exact Q_sum k L' N e (by simpa using hk) (List.pairwise_append.mp hr).1 (fun u hu => hb u (List.mem_append_left _ hu)) (fun i hi => ⟨fun z => (hN i hi).1 (List.mem_append_left _ z), fun u hu => (hN i hi).2 u (List.mem_append_left _ hu)⟩) he
include W in
/-- no bow between A and B -/
theorem Q_mul (hAB : ∀ p ∈ D.bs, ¬ ((p.1 ∈ A ∨ p.2 ∈ A) ∧ (p.1 ∈ B ∨ p.2 ∈ B))) : D.Q (A ++ B) e = D.Q A e * D.Q B e := by
  unfold WD.Q
  have e1 : D.f (A ++ B) e = fun h => D.f A e h * D.f B e h := by
    funext h
    unfold WD.f
    rw [List.map_append, prodR_app]
  rw [e1]
  have ind : ∀ (S : List Int) (k : Nat), (∀ q ∈ D.bs.zipIdx, q.2 = k → ¬ (q.1.1 ∈ S ∨ q.1.2 ∈ S)) → Ind (D.f S e) k := fun S k hS h h' hl hm => by
    unfold WD.f
    congr 1
    refine List.map_congr_left fun i hi => ?_
    unfold WD.t
    rw [row_hid (h := h) (h' := h') fun q hq hiq => hm _ fun z => hS q hq z ?_]
    simp only [List.mem_cons, List.not_mem_nil, or_false] at hiq
    rcases hiq with h1 | h1
    · exact .inl (by rw [← h1]; exact hi)
    · exact .inr (by rw [← h1]; exact hi)
  refine EH_ind D.hid _ _ (fun r hr => (W.w.hir r hr).sum) fun k => ?_
  by_cases hk : ∃ q ∈ D.bs.zipIdx, q.2 = k ∧ (q.1.1 ∈ A ∨ q.1.2 ∈ A)
  · obtain ⟨q, hq, ek, hqA⟩ := hk
    refine .inr (ind B k fun q' hq' ek' hB => ?_)
    have h1 := List.mem_zipIdx hq
    have h2 := List.mem_zipIdx hq'
    have e2 : q'.1 = q.1 := by
      rw [h1.2.2, h2.2.2]
      congr 1
      omega
    rw [e2] at hB
    exact hAB q.1 (by rw [h1.2.2]; exact List.getElem_mem _) ⟨hqA, hB⟩
  · exact .inl (ind A k fun q hq ek hA => hk ⟨q, hq, ek, hA⟩)
end
end W3

namespace W3
/-! ### lumps hold the bows together; ancestors are closed -/
theorem step_keep {ns : List Int} {L : List (List Int)} (q : Int × Int) {a b : Int} (h : ∃ l ∈ L, a ∈ l ∧ b ∈ l) : ∃ l ∈ lumpStep ns L q, a ∈ l ∧ b ∈ l := by
  obtain ⟨l, hl, ha, hb⟩ := h
  unfold lumpStep
  split
  · split
    · by_cases e : l ∈ [lumpAt L q.1, lumpAt L q.2]
      · refine ⟨sortI (lumpAt L q.1 ++ lumpAt L q.2), List.mem_append_right _ (List.mem_singleton.mpr rfl), ?_⟩
        simp only [List.mem_cons, List.not_mem_nil, or_false] at e
        rcases e with e | e
        · subst e; exact ⟨mem_sortI.mpr (List.mem_append_left _ ha), mem_sortI.mpr (List.mem_append_left _ hb)⟩
        · subst e; exact ⟨mem_sortI.mpr (List.mem_append_right _ ha), mem_sortI.mpr (List.mem_append_right _ hb)⟩
      · exact ⟨l, List.mem_append_left _ (List.mem_filter.mpr ⟨hl, by simpa using e⟩), ha, hb⟩
    · exact ⟨l, hl, ha, hb⟩
  · exact ⟨l, hl, ha, hb⟩
theorem step_join {ns : List Int} {L : List (List Int)} (hp : LPart ns L) (q : Int × Int) (h1 : q.1 ∈ ns) (h2 : q.2 ∈ ns) : ∃ l ∈ lumpStep ns L q, q.1 ∈ l ∧ q.2 ∈ l := by
  obtain ⟨a1, a2, _⟩ := lumpAt_mem (hp.cov q.1 h1)
  obtain ⟨b1, b2, _⟩ := lumpAt_mem (hp.cov q.2 h2)
  unfold lumpStep
  rw [if_pos (by simp [h1, h2])]
  split
  · exact ⟨_, List.mem_append_right _ (List.mem_singleton.mpr rfl), mem_sortI.mpr (List.mem_append_left _ a2), mem_sortI.mpr (List.mem_append_right _ b2)⟩
  · rename_i h
    have e : lumpAt L q.1 = lumpAt L q.2 := by simpa using h
    exact ⟨lumpAt L q.1, a1, a2, by rw [e]; exact b2⟩
theorem fold_keep {ns : List Int} {a b : Int} : ∀ (bs : List (Int × Int)) {L : List (List Int)}, (∃ l ∈ L, a ∈ l ∧ b ∈ l) → ∃ l ∈ bs.foldl (lumpStep ns) L, a ∈ l ∧ b ∈ l
  | [], _, h => h
  | q :: bs, _, h => fold_keep bs (step_keep q h)
theorem fold_join {ns : List Int} : ∀ (bs : List (Int × Int)) {L : List (List Int)}, LPart ns L → ∀ p ∈ bs, p.1 ∈ ns → p.2 ∈ ns → ∃ l ∈ bs.foldl (lumpStep ns) L, p.1 ∈ l ∧ p.2 ∈ l
  | q :: bs, L, hp, p, hm, h1, h2 => by
    rw [List.foldl_cons]
    rcases List.mem_cons.mp hm with e | hm
    · subst e
      exact fold_keep bs (step_join hp p h1 h2)
    · exact fold_join bs (hp.step q) p hm h1 h2
/-- no bow leaves a lump -/
theorem lumps_sep {bs : List (Int × Int)} {ns : List Int} (hn : ns.Nodup) {l : List Int} (hl : l ∈ lumpsF bs ns) {p : Int × Int} (hp : p ∈ bs) (h1 : p.1 ∈ ns) (h2 : p.2 ∈ ns) : (p.1 ∈ l ↔ p.2 ∈ l) := by
  have P := lumps_part (bs := bs) hn
  obtain ⟨m, hm, a, b⟩ := fold_join bs (LPart.start hn) p hp h1 h2
  have hm : m ∈ lumpsF bs ns := mem_sortL.mpr hm
  have hd := pw_two dis_symm P.dis l hl m hm
  by_cases e : l = m
  · subst e; exact ⟨fun _ => b, fun _ => a⟩
  · exact ⟨fun h => absurd a (hd e p.1 h), fun h => absurd b (hd e p.2 h)⟩
theorem anc_mono {ts : List (Int × Int)} {fd : List Int} {x : Int} (h : x ∈ fd) : x ∈ ts.foldl ancStep fd := by
  induction ts generalizing fd with
  | nil => exact h
  | cons p ts ih =>
    rw [List.foldl_cons]
    refine ih ?_
    unfold ancStep
    split
    · exact List.mem_append_left _ h
    · exact h
theorem anc_from {ts : List (Int × Int)} {fd : List Int} {x : Int} (h : x ∈ ts.foldl ancStep fd) : x ∈ fd ∨ ∃ p ∈ ts, p.2 = x := by
  induction ts generalizing fd with
  | nil => exact .inl h
  | cons p ts ih =>
    rw [List.foldl_cons] at h
    rcases ih h with h | ⟨q, hq, e⟩
    · unfold ancStep at h
      split at h
      · rcases List.mem_append.mp h with h | h
        · exact .inl h
        · exact .inr ⟨p, List.mem_cons_self, (List.mem_singleton.mp h).symm⟩
      · exact .inl h
    · exact .inr ⟨q, List.mem_cons_of_mem _ hq, e⟩
theorem anc_down : ∀ {L : List (Int × Int)} {fd : List Int}, L.Pairwise (fun p q => q.1 ≤ p.1) → (∀ p ∈ L, p.2 < p.1) → ∀ p ∈ L, p.1 ∈ L.foldl ancStep fd → p.2 ∈ L.foldl ancStep fd
  | q :: L, fd, hs, hl, p, hm, h => by
    rw [List.pairwise_cons] at hs
    rw [List.foldl_cons] at h ⊢
    rcases List.mem_cons.mp hm with e | hm
    · subst e
      rcases anc_from h with h | ⟨r, hr, e⟩
      · have hfd : p.1 ∈ fd := by
          unfold ancStep at h
          split at h
          · rcases List.mem_append.mp h with h | h
            · exact h
            · have := hl p List.mem_cons_self
              have := List.mem_singleton.mp h
              omega
          · exact h
        refine anc_mono ?_
        unfold ancStep
        by_cases q : p.2 ∈ fd
        · rw [if_neg (by simp [q])]; exact q
        · rw [if_pos (by simp [q, hfd])]; exact List.mem_append_right _ (List.mem_singleton.mpr rfl)
      · have h1 := hs.1 r hr
        have h2 := hl r (List.mem_cons_of_mem _ hr)
        omega
    · exact anc_down hs.2 (fun r hr => hl r (List.mem_cons_of_mem _ hr)) p hm h
theorem ancL_desc (ts : List (Int × Int)) : (ancL ts).Pairwise (fun p q => q.1 ≤ p.1) := by
  unfold ancL
  rw [List.pairwise_reverse]
  have h := List.pairwise_mergeSort (le := leP) (fun a b c h1 h2 => by unfold leP at *; simp at *; omega) (fun a b => by unfold leP; simp; omega) (ts.map fun p => (p.2, p.1))
  exact h.imp fun {a b} h => by unfold leP at h; simp at h; omega
theorem anc_closed {ts : List (Int × Int)} {ns : List Int} (ht : ∀ p ∈ ts, p.1 < p.2) {u v : Int} (h : (u, v) ∈ ts) (hv : v ∈ ancF ts ns) : u ∈ ancF ts ns := by
  unfold ancF at *
  rw [mem_sortI] at *
  exact anc_down (ancL_desc ts) (fun p hp => ht _ (mem_ancL.mp hp)) (v, u) (mem_ancL.mpr h) hv
end W3

namespace W3
/-! ### bounds -/
theorem mk_of {r : Rat} {p q : Int} (hq : 0 < q) (h : r * (q : Rat) = (p : Rat)) : r = mkRat p q.toNat := by
  have hq0 : (q : Rat) ≠ 0 := fun z => by
    have := Rat.intCast_inj.mp (show (q : Rat) = ((0 : Int) : Rat) from z)
    omega
  have e : q = (q.toNat : Int) := by omega
  have e1 : r = (p : Rat) / (q : Rat) := by grind
  rw [e1, Rat.mkRat_eq_div]
  conv => lhs; rw [e]
  rfl
theorem sm_of {r : Rat} {p q : Int} (hp : 0 ≤ p) (hp2 : p < 2 ^ 3000) (hq : 0 < q) (hq2 : q < 2 ^ 3000) (h : r * (q : Rat) = (p : Rat)) : Sm r ∧ (0 < p → 0 < r.num) := by
  have hr := mk_of hq h
  have hd : q.toNat ≠ 0 := by omega
  have hg : 0 < q.toNat.gcd p.natAbs := Nat.gcd_pos_of_pos_left _ (by omega)
  have hn : r.num = p / ((q.toNat.gcd p.natAbs : Nat) : Int) := by rw [hr, Rat.num_mkRat, if_neg hd]
  have hdn : r.den = q.toNat / q.toNat.gcd p.natAbs := by rw [hr, Rat.den_mkRat, if_neg hd]
  have h1 : r.num ≤ p := by rw [hn]; exact Int.ediv_le_self _ hp
  have h0 : 0 ≤ r.num := by rw [hn]; exact Int.ediv_nonneg hp (by omega)
  refine ⟨⟨h0, ?_, ?_⟩, fun hpp => ?_⟩
  · have : ((r.num.natAbs : Nat) : Int) < ((2 ^ 3000 : Nat) : Int) := by
      rw [Int.natAbs_of_nonneg h0]
      exact Int.lt_of_le_of_lt h1 (by exact_mod_cast hp2)
    exact_mod_cast this
  · have h2 : r.den ≤ q.toNat := by rw [hdn]; exact Nat.div_le_self _ _
    have : ((r.den : Nat) : Int) < ((2 ^ 3000 : Nat) : Int) := Int.lt_of_le_of_lt (show ((r.den : Nat) : Int) ≤ q by omega) (by exact_mod_cast hq2)
    exact_mod_cast this
  · have hle : q.toNat.gcd p.natAbs ≤ p.natAbs := Nat.gcd_le_right _ (by omega)
    rw [hn]
    have : 1 ≤ p / ((q.toNat.gcd p.natAbs : Nat) : Int) := (Int.le_ediv_iff_mul_le (by omega)).mpr (by omega)
    omega
/-- r = a / 8 ^ k with 0 < a and a at most 8 ^ k -/
def Fr (k : Nat) (r : Rat) : Prop := ∃ a : Int, 0 < a ∧ a ≤ 8 ^ k ∧ r * (8 : Rat) ^ k = (a : Rat)
theorem p8 (k : Nat) : (((8 : Int) ^ k : Int) : Rat) = (8 : Rat) ^ k := by rw [Rat.intCast_pow]; rfl
theorem p8_pos (k : Nat) : (0 : Int) < 8 ^ k := Int.pow_pos (by decide)
theorem p8_big {k : Nat} (h : k ≤ 900) : (8 : Int) ^ k < 2 ^ 2701 := by
  have e : (8 : Int) ^ k = 2 ^ (3 * k) := by rw [Int.pow_mul]; rfl
  rw [e]
  exact_mod_cast Nat.pow_lt_pow_right (by decide : 1 < 2) (by omega)
theorem Fr.one : Fr 0 1 := ⟨1, by decide, by decide, by simp⟩
theorem Fr.mul {k l : Nat} {r s : Rat} (h : Fr k r) (g : Fr l s) : Fr (k + l) (r * s) := by
  obtain ⟨a, a0, a1, ha⟩ := h
  obtain ⟨b, b0, b1, hb⟩ := g
  refine ⟨a * b, Int.mul_pos a0 b0, ?_, ?_⟩
  · rw [Int.pow_add]
    exact Int.mul_le_mul a1 b1 (Int.le_of_lt b0) (Int.le_of_lt (p8_pos k))
  · rw [Rat.intCast_mul, ← ha, ← hb]
    grind
theorem Fr.sm {k : Nat} {r : Rat} (h : Fr k r) (hk : k ≤ 400) : Sm r ∧ 0 < r.num := by
  obtain ⟨a, a0, a1, ha⟩ := h
  have hb : (8 : Int) ^ k < 2 ^ 3000 := Int.lt_of_lt_of_le (p8_big (by omega)) (by exact_mod_cast Nat.pow_le_pow_right (by decide : 0 < 2) (by decide : 2701 ≤ 3000))
  have := sm_of (r := r) (p := a) (q := 8 ^ k) (Int.le_of_lt a0) (Int.lt_of_le_of_lt a1 hb) (p8_pos k) hb (by rw [p8]; exact ha)
  exact ⟨this.1, this.2 a0⟩
theorem Fr.div_sm {k l : Nat} {r s : Rat} (h : Fr k r) (g : Fr l s) (hk : k + l ≤ 800) : Sm (r / s) := by
  obtain ⟨a, a0, a1, ha⟩ := h
  obtain ⟨b, b0, b1, hb⟩ := g
  have hbig : (8 : Int) ^ (k + l) < 2 ^ 3000 := Int.lt_of_lt_of_le (p8_big (by omega)) (by exact_mod_cast Nat.pow_le_pow_right (by decide : 0 < 2) (by decide : 2701 ≤ 3000))
  have m1 : a * 8 ^ l ≤ 8 ^ (k + l) := by rw [Int.pow_add]; exact Int.mul_le_mul_of_nonneg_right a1 (Int.le_of_lt (p8_pos l))
  have m2 : b * 8 ^ k ≤ 8 ^ (k + l) := by rw [Nat.add_comm, Int.pow_add]; exact Int.mul_le_mul_of_nonneg_right b1 (Int.le_of_lt (p8_pos k))
  have b0' : (b : Rat) ≠ 0 := fun z => by
    have := Rat.intCast_inj.mp (show (b : Rat) = ((0 : Int) : Rat) from z)
    omega
  refine (sm_of (r := r / s) (p := a * 8 ^ l) (q := b * 8 ^ k) (Int.le_of_lt (Int.mul_pos a0 (p8_pos l))) (Int.lt_of_le_of_lt m1 hbig) (Int.mul_pos b0 (p8_pos k)) (Int.lt_of_le_of_lt m2 hbig) ?_).1
  rw [Rat.intCast_mul, Rat.intCast_mul, p8, p8, ← ha, ← hb]
  have s0 : s ≠ 0 := fun z => b0' (by rw [← hb, z, Rat.zero_mul])
  grind
/-- sums of such -/
theorem fr_sum {α : Type} {k : Nat} {g : α → Rat} : ∀ (l : List α), (∀ x ∈ l, Fr k (g x)) → ∃ a : Int, 0 ≤ a ∧ a ≤ l.length * 8 ^ k ∧ ((l.map g).sum) * (8 : Rat) ^ k = (a : Rat)
  | [], _ => ⟨0, Int.le_refl _, by simp, by simp⟩
  | x :: l, h => by
    obtain ⟨a, a0, a1, ha⟩ := fr_sum l fun y hy => h y (List.mem_cons_of_mem _ hy)
    obtain ⟨b, b0, b1, hb⟩ := h x List.mem_cons_self
    refine ⟨b + a, by omega, ?_, ?_⟩
    · have : ((x :: l).length : Int) * 8 ^ k = l.length * 8 ^ k + 8 ^ k := by
        rw [List.length_cons, Int.natCast_add, Int.add_mul]
        simp
      omega
    · rw [List.map_cons, List.sum_cons, Rat.intCast_add, ← ha, ← hb]
      grind
theorem fr_sum_sm {α : Type} {k : Nat} {g : α → Rat} {l : List α} (h : ∀ x ∈ l, Fr k (g x)) (hk : k ≤ 400) (hl : l.length ≤ 100) : Sm ((l.map g).sum) := by
  obtain ⟨a, a0, a1, ha⟩ := fr_sum l h
  have hb : (8 : Int) ^ k < 2 ^ 2701 := p8_big (by omega)
  have h8 := p8_pos k
  have h3 : (l.length : Int) * 8 ^ k ≤ 128 * 8 ^ k := Int.mul_le_mul_of_nonneg_right (by omega) (Int.le_of_lt h8)
  have e : (128 : Int) * 2 ^ 2701 = 2 ^ 2708 := by rw [show (128 : Int) = 2 ^ 7 from rfl, ← Int.pow_add]
  have h4 : (2 : Int) ^ 2708 ≤ 2 ^ 3000 := by exact_mod_cast Nat.pow_le_pow_right (by decide : 0 < 2) (by decide : 2708 ≤ 3000)
  have h5 : (2 : Int) ^ 2701 ≤ 2 ^ 3000 := by exact_mod_cast Nat.pow_le_pow_right (by decide : 0 < 2) (by decide : 2701 ≤ 3000)
  have h6 : (128 : Int) * 8 ^ k < 128 * 2 ^ 2701 := Int.mul_lt_mul_of_pos_left hb (by decide)
  have h7 : a < 2 ^ 3000 := Int.lt_of_le_of_lt (Int.le_trans a1 h3) (Int.lt_of_lt_of_le h6 (by rw [e]; exact h4))
  exact (sm_of (r := (l.map g).sum) (p := a) (q := 8 ^ k) a0 h7 h8 (Int.lt_of_lt_of_le hb h5) (by rw [p8]; exact ha)).1
theorem row_two {r : List Int} (h : GRow 2 r) : ∃ p q : Int, r = [p, q] ∧ 0 < p ∧ 0 < q ∧ p + q = 8 := by
  have hl : r.length = 2 := by have := h.len; omega
  match r, hl with
  | [p, q], _ =>
    have hs := h.sum
    simp at hs
    exact ⟨p, q, rfl, h.pos p (by simp), h.pos q (by simp), hs⟩
theorem EH_fr : ∀ (hid : List (List Int)) (F : List Int → Rat) (m : Nat), (∀ r ∈ hid, GRow 2 r) → (∀ h, InSz (hid.map fun r => (r.length : Int)) h → Fr m (F h)) → Fr (m + hid.length) (EH hid F)
  | [], F, m, _, hf => hf [] ⟨rfl, fun k hk => nomatch hk⟩
  | r :: hid, F, m, hr, hf => by
    obtain ⟨p, q, rfl, p0, q0, pq⟩ := row_two (hr _ List.mem_cons_self)
    have step : ∀ x, 0 ≤ x → x < 2 → Fr (m + hid.length) (EH hid fun t => F (x :: t)) := fun x h0 h1 => EH_fr hid _ m (fun r h => hr r (List.mem_cons_of_mem _ h)) fun h hh => hf (x :: h) ⟨by rw [List.length_cons, hh.1, List.map_cons, List.length_cons], fun k hk => by
      cases k with
      | zero => exact ⟨h0, h1⟩
      | succ k => exact hh.2 k (by simpa using hk)⟩
    obtain ⟨a, a0, a1, ha⟩ := step 0 (by decide) (by decide)
    obtain ⟨b, b0, b1, hb⟩ := step 1 (by decide) (by decide)
    refine ⟨p * a + q * b, by have := Int.mul_pos p0 a0; have := Int.mul_pos q0 b0; omega, ?_, ?_⟩
    · have h1 : p * a ≤ p * 8 ^ (m + hid.length) := Int.mul_le_mul_of_nonneg_left a1 (Int.le_of_lt p0)
      have h2 : q * b ≤ q * 8 ^ (m + hid.length) := Int.mul_le_mul_of_nonneg_left b1 (Int.le_of_lt q0)
      have e : (8 : Int) ^ (m + (hid.length + 1)) = (p + q) * 8 ^ (m + hid.length) := by rw [pq, ← Nat.add_assoc, Int.pow_succ, Int.mul_comm]
      rw [List.length_cons, e, Int.add_mul]
      omega
    · have er : rgI (([p, q] : List Int).length : Nat) = [0, 1] := show rgI ((2 : Nat) : Int) = [0, 1] from by decide
      rw [EH, er, sumR_cons, sumR_cons, sumR_nil, Rat.add_zero, Rat.intCast_add, Rat.intCast_mul, Rat.intCast_mul, ← ha, ← hb]
      show ((p : Rat) / 8 * _ + (q : Rat) / 8 * _) * _ = _
      rw [List.length_cons, ← Nat.add_assoc]
      grind
section
variable {D : WD} (W : D.Ok) {e : Int → Int} {S : List Int}
include W in
theorem f_fr : ∀ {S : List Int} {h : List Int}, (∀ i ∈ S, 0 ≤ i ∧ i < D.n) → InR D.n D.sz e → InSz D.wd h → Fr S.length (D.f S e h)
  | [], h, _, _, _ => Fr.one
  | i :: S, h, hS, he, hh => by
    obtain ⟨a, a0, a1, ha⟩ := t_pos W (hS i List.mem_cons_self).1 (hS i List.mem_cons_self).2 he hh
    have h1 : Fr 1 (D.t i e h) := ⟨a, a0, a1, by rw [ha]; grind⟩
    have h2 := f_fr (S := S) (h := h) (fun j hj => hS j (List.mem_cons_of_mem _ hj)) he hh
    have := h1.mul h2
    rw [Nat.add_comm] at this
    exact this
include W in
theorem Q_fr (hS : ∀ i ∈ S, 0 ≤ i ∧ i < D.n) (he : InR D.n D.sz e) : Fr (S.length + D.hid.length) (D.Q S e) := EH_fr D.hid _ S.length W.w.hir fun h hh => f_fr W hS he hh
end
end W3

namespace W3
/-! ### the weights are Q -/
section
variable {D : WD} (W : D.Ok) {e e0 : Int → Int} {ones ns : List Int} {h : List Int}
theorem fold_add {α : Type} (g : α → Int) : ∀ (l : List α) (a : Int), ((l.foldl (fun a x => a + g x) a : Int) : Rat) = (a : Rat) + sumR l fun x => (g x : Rat)
  | [], a => by rw [sumR_nil, Rat.add_zero]; rfl
  | x :: l, a => by rw [List.foldl_cons, fold_add g l, sumR_cons, Rat.intCast_add, Rat.add_assoc]
theorem hw_eq : ∀ (hid pre : List (List Int)) (h : List Int) (a : Int), h.length = hid.length →
    (((h.zipIdx pre.length).foldl (fun a p => a * ((pre ++ hid).getD p.2 []).getD p.1.toNat 0) a : Int) : Rat) = (a : Rat) * (8 : Rat) ^ hid.length * hwR hid h
  | [], pre, [], a, _ => by
    rw [List.zipIdx_nil, List.foldl_nil, hwR]
    simp
  | [], _, _ :: _, _, hl => by simp at hl
  | _ :: _, _, [], _, hl => by simp at hl
  | r :: hid, pre, x :: h, a, hl => by
    have ih := hw_eq hid (pre ++ [r]) h (a * r.getD x.toNat 0) (by simpa using hl)
    rw [List.length_append, List.length_singleton, List.append_assoc, List.singleton_append] at ih
    have e1 : (pre ++ r :: hid).getD pre.length [] = r := by
      rw [List.getD_eq_getElem?_getD, List.getElem?_append_right (Nat.le_refl _), Nat.sub_self]
      rfl
    rw [List.zipIdx_cons, List.foldl_cons, e1, ih, hwR, Rat.intCast_mul, List.length_cons]
    grind
theorem hwF_eq (hl : h.length = D.hid.length) : ((hwF D.hid h : Int) : Rat) = (8 : Rat) ^ D.hid.length * hwR D.hid h := by
  have := hw_eq D.hid [] h 1 hl
  rw [show ((1 : Int) : Rat) = 1 from rfl, Rat.one_mul] at this
  exact this
theorem wt_eq : ∀ (L : List Int) (a : Int), (∀ i ∈ L, 0 ≤ i ∧ i < D.n) →
    ((L.foldl (wtStep D.ts D.bs D.sz D.wd D.tab ones (D.vec e) h) a : Int) : Rat) = (a : Rat) * (8 : Rat) ^ (woF L ones).length * D.f (woF L ones) e h
  | [], a, _ => by
    show (a : Rat) = (a : Rat) * (8 : Rat) ^ 0 * 1
    grind
  | i :: L, a, hL => by
    have hi := hL i List.mem_cons_self
    have ih := fun b => wt_eq L b fun j hj => hL j (List.mem_cons_of_mem _ hj)
    rw [List.foldl_cons, ih]
    unfold wtStep woF
    rw [List.filter_cons]
    by_cases q : i ∈ ones
    · rw [if_neg (by simp [q]), if_neg (by simp [q])]
    · rw [if_pos (by simp [q]), if_pos (by simp [q]), vec_getD hi.1 hi.2, Rat.intCast_mul, List.length_cons]
      unfold WD.f
      rw [List.map_cons, prodR]
      unfold WD.t WD.row
      grind
/-- the weight of a full row of values -/
theorem wsum_eq : ((wsumF D.n D.ts D.bs D.sz D.hid D.tab ones (D.vec e) : Int) : Rat) = (8 : Rat) ^ (D.hid.length + (woF (rgI D.n) ones).length) * D.Q (woF (rgI D.n) ones) e := by
  unfold wsumF
  rw [fold_add (fun h => wtF D.n D.ts D.bs D.sz D.hid D.tab ones (D.vec e) h), show ((0 : Int) : Rat) = 0 from rfl, Rat.zero_add]
  unfold WD.Q
  rw [← EH_mul, ← NS_EH, ways_NS]
  refine NS_congr fun h hh => ?_
  have hl : h.length = D.hid.length := by rw [hh.1, List.length_map]
  unfold wtF
  have := wt_eq (D := D) (ones := ones) (e := e) (h := h) (rgI D.n) (hwF D.hid h) fun i hi => rgI_mem.mp hi
  unfold WD.wd at this
  rw [this, hwF_eq hl]
  grind
theorem ag_iff {y : List Int} : agF ns e y = true ↔ ∀ a ∈ ns, y.getD a.toNat 0 = e a := by
  unfold agF
  rw [decide_eq_true_eq, List.filter_eq_nil_iff]
  simp
theorem fold_if {α : Type} (c : α → Bool) (g : α → Int) : ∀ (l : List α) (a : Int), ((l.foldl (fun a x => if c x = true then a + g x else a) a : Int) : Rat) = (a : Rat) + sumR l fun x => if c x = true then (g x : Rat) else 0
  | [], a => by rw [sumR_nil, Rat.add_zero]; rfl
  | x :: l, a => by
    rw [List.foldl_cons, fold_if c g l, sumR_cons]
    by_cases q : c x = true
    · rw [if_pos q, if_pos q, Rat.intCast_add, Rat.add_assoc]
    · rw [if_neg q, if_neg q, Rat.zero_add]
include W in
/-- the sum of the weights that agree with e on ns -/
theorem top_eq (he : InR D.n D.sz e) (hns : ∀ j ∈ ns, 0 ≤ j ∧ j < D.n) : ((topF (weightsF D.n D.ts D.bs D.sz D.hid D.tab ones) ns e : Int) : Rat) = (8 : Rat) ^ (D.hid.length + (woF (rgI D.n) ones).length) * SS D.sz (woF (rgI D.n) ns) (D.Q (woF (rgI D.n) ones)) e := by
  have hsl := W.w.szl
  have esz : (rgI D.n).map (szAt D.sz) = D.sz := by
    unfold rgI
    rw [List.map_map]
    refine List.ext_getElem? fun k => ?_
    rw [List.getElem?_map]
    by_cases hk : k < D.n.toNat
    · rw [List.getElem?_range hk]
      show some (szAt D.sz (k : Nat)) = _
      unfold szAt
      rw [Int.toNat_natCast, List.getD_eq_getElem?_getD, List.getElem?_eq_getElem (by omega)]
      rfl
    · rw [List.getElem?_eq_none (by simpa using hk), List.getElem?_eq_none (by omega)]
      rfl
  unfold topF weightsF
  rw [List.foldl_map, fold_if (fun v => agF ns e v) (fun v => wsumF D.n D.ts D.bs D.sz D.hid D.tab ones v), show ((0 : Int) : Rat) = 0 from rfl, Rat.zero_add, ways_NS]
  have step : NS D.sz (fun v => if agF ns e v = true then ((wsumF D.n D.ts D.bs D.sz D.hid D.tab ones v : Int) : Rat) else 0) = NS ((rgI D.n).map (szAt D.sz)) (fun v => (fun e' => if (∀ a ∈ ns, e' a = e a) then ((wsumF D.n D.ts D.bs D.sz D.hid D.tab ones (D.vec e') : Int) : Rat) else 0) (upEs e (rgI D.n) v)) := by
    rw [esz]
    refine NS_congr fun v hv => ?_
    have hvl : v.length = (rgI D.n).length := by rw [hv.1, hsl]; unfold rgI; rw [List.length_map, List.length_range]
    have ev : D.vec (upEs e (rgI D.n) v) = v := upEs_map (nd_rise (rgI_rise D.n)) hvl
    have hag : (agF ns e v = true) ↔ (∀ a ∈ ns, upEs e (rgI D.n) v a = e a) := by
      rw [ag_iff]
      have key : ∀ a ∈ ns, v.getD a.toNat 0 = upEs e (rgI D.n) v a := fun a ha => by
        have := vec_getD (D := D) (e := upEs e (rgI D.n) v) (hns a ha).1 (hns a ha).2
        rw [ev] at this
        exact this
      exact ⟨fun h a ha => (key a ha).symm.trans (h a ha), fun h a ha => (key a ha).trans (h a ha)⟩
    show _ = if (∀ a ∈ ns, upEs e (rgI D.n) v a = e a) then ((wsumF D.n D.ts D.bs D.sz D.hid D.tab ones (D.vec (upEs e (rgI D.n) v)) : Int) : Rat) else 0
    rw [ev]
    by_cases q : agF ns e v = true
    · rw [if_pos q, if_pos (hag.mp q)]
    · rw [if_neg q, if_neg fun z => q (hag.mpr z)]
  refine (step.trans (NS_SS D.sz (rgI D.n) (fun e' => if (∀ a ∈ ns, e' a = e a) then ((wsumF D.n D.ts D.bs D.sz D.hid D.tab ones (D.vec e') : Int) : Rat) else 0) e)).trans ?_
  rw [SS_agree ns he (rgI D.n) e (nd_rise (rgI_rise D.n)) (fun j hj => rgI_mem.mp hj) (fun a ha => .inr rfl) (fun j _ => rfl)]
  rw [← SS_mul]
  exact SS_congr he fun e' _ => wsum_eq
theorem wo_perm {a b : List Int} (ha : a.Nodup) (hb : b.Nodup) (hs : ∀ x ∈ b, x ∈ a) : a.Perm (woF a b ++ b) := by
  refine (List.perm_ext_iff_of_nodup ha ?_).mpr fun x => ?_
  · exact List.nodup_append.mpr ⟨ha.filter _, hb, fun x hx y hy z => (wo_mem.mp hx).2 (by rw [z]; exact hy)⟩
  · rw [List.mem_append, wo_mem]
    by_cases q : x ∈ b
    · exact ⟨fun _ => .inr q, fun _ => hs x q⟩
    · exact ⟨fun h => .inl ⟨h, q⟩, fun h => (h.resolve_right q).1⟩
include W in
/-- the rest is summed out of a set that is closed in A -/
theorem Q_cut {A B : List Int} (hA : isSet D.n A = true) (hB : B.Nodup) (hs : ∀ x ∈ B, x ∈ A) (hc : ∀ i ∈ B, ∀ u, (u, i) ∈ D.ts → u ∈ A → u ∈ B) (he : InR D.n D.sz e) : SS D.sz (woF A B) (D.Q A) e = D.Q B e := by
  obtain ⟨h1, h2⟩ := isSet_iff.mp hA
  have hp := wo_perm (nd_rise h2) hB hs
  rw [show D.Q A = D.Q (woF A B ++ B) from funext fun e => Q_perm hp]
  refine Q_sum W _ (woF A B) B e rfl (h2.filter _) (fun u hu => h1 u (wo_mem.mp hu).1) (fun i hi => ⟨fun z => (wo_mem.mp z).2 hi, fun u hu z => ?_⟩) he
  exact (wo_mem.mp hu).2 (hc i hi u z (wo_mem.mp hu).1)
end
end W3

namespace W3
section
variable {D : WD} (W : D.Ok) {e : Int → Int} {ones ns : List Int}
def WD.kt (D : WD) (ones : List Int) : List (List Int × Int) := weightsF D.n D.ts D.bs D.sz D.hid D.tab ones
theorem wo_nil (A : List Int) : woF A [] = A := by unfold woF; rw [List.filter_eq_self]; intro a _; simp
include W in
theorem bot_eq (he : InR D.n D.sz e) (hns : ∀ j ∈ ones, 0 ≤ j ∧ j < D.n) : topF (D.kt ones) ones e = 8 ^ (D.hid.length + (woF (rgI D.n) ones).length) := by
  have h := top_eq W (ones := ones) he hns
  have h2 : SS D.sz (woF (rgI D.n) ones) (D.Q (woF (rgI D.n) ones)) e = 1 := by
    have := Q_cut W (A := woF (rgI D.n) ones) (B := []) (wo_set rgI_set) List.nodup_nil (fun _ h => nomatch h) (fun _ h => nomatch h) he
    rw [wo_nil, Q_nil W] at this
    exact this
  rw [h2, Rat.mul_one, ← p8] at h
  exact Rat.intCast_inj.mp h
theorem tot_top (kt : List (List Int × Int)) (e : Int → Int) : totF kt = topF kt [] e := by
  have key : ∀ (l : List (List Int × Int)) (a : Int), l.foldl (fun a p => if agF [] e p.1 = true then a + p.2 else a) a = a + (l.map (·.2)).sum := fun l => by
    induction l with
    | nil => intro a; simp
    | cons p l ih =>
      intro a
      rw [List.foldl_cons, ih, if_pos (by unfold agF; simp), List.map_cons, List.sum_cons]
      omega
  unfold totF topF
  rw [key]
  omega
theorem InR.any {n : Int} {sz v : List Int} (hs : sz.length = n.toNat) (hv : InSz sz v) : InR n sz (fun j => v.getD j.toNat 0) ∧ (rgI n).map (fun j => v.getD j.toNat 0) = v := by
  refine ⟨fun j h0 h1 => hv.2 j.toNat (by omega), ?_⟩
  unfold rgI
  rw [List.map_map]
  refine List.ext_getElem? fun k => ?_
  rw [List.getElem?_map]
  have hl := hv.1
  by_cases hk : k < n.toNat
  · rw [List.getElem?_range hk]
    show some (v.getD ((k : Nat) : Int).toNat 0) = _
    rw [Int.toNat_natCast, List.getD_eq_getElem?_getD, List.getElem?_eq_getElem (by omega)]
    rfl
  · rw [List.getElem?_eq_none (by simpa using hk), List.getElem?_eq_none (by omega)]
    rfl
include W in
theorem kt_nn : ∀ p ∈ D.kt ones, 0 ≤ p.2 := fun p hp => by
  obtain ⟨v, hv, rfl⟩ := List.mem_map.mp hp
  obtain ⟨h1, h2⟩ := InR.any W.w.szl (ways_ok hv)
  have h3 := wsum_eq (D := D) (ones := ones) (e := fun j => v.getD j.toNat 0)
  rw [show D.vec (fun j => v.getD j.toNat 0) = v from h2] at h3
  obtain ⟨a, a0, _, ha⟩ := Q_fr W (S := woF (rgI D.n) ones) (fun i hi => rgI_mem.mp (wo_mem.mp hi).1) h1
  rw [Nat.add_comm, Rat.mul_comm, ha] at h3
  have := Rat.intCast_inj.mp h3
  show 0 ≤ wsumF D.n D.ts D.bs D.sz D.hid D.tab ones v
  omega
include W in
theorem small_len {S : List Int} (hS : isSet D.n S = true) : S.length ≤ 4 := by
  have := set_len hS
  have := W.g.n4
  omega
include W in
theorem hid_len : D.hid.length ≤ 4 := by
  have := W.w.hil
  have := W.g.b4
  omega
theorem p8_lt {k : Nat} (h : k ≤ 400) : (8 : Int) ^ k < 2 ^ 3000 := Int.lt_of_lt_of_le (p8_big (by omega)) (by exact_mod_cast Nat.pow_le_pow_right (by decide : 0 < 2) (by decide : 2701 ≤ 3000))
include W in
theorem kt_ok (he : InR D.n D.sz e) : KT D.n (D.kt []) := by
  have ht : totF (D.kt []) = 8 ^ (D.hid.length + (rgI D.n).length) := by
    have := bot_eq W (ones := []) he (fun _ h => nomatch h)
    rw [wo_nil] at this
    rw [tot_top _ e, this]
  have h1 := hid_len W
  have h2 := small_len W (rgI_set (n := D.n))
  refine ⟨weights_nd, fun p hp => by rw [(weights_in hp).1]; exact W.w.szl, kt_nn W, ?_, ?_⟩
  · rw [ht]; exact p8_pos _
  · rw [ht]; exact p8_lt (by omega)
include W in
theorem Q_ok {S : List Int} (hS : isSet D.n S = true) (he : InR D.n D.sz e) : Fr (S.length + D.hid.length) (D.Q S e) ∧ S.length + D.hid.length ≤ 8 := by
  have h1 := hid_len W
  have h2 := small_len W hS
  exact ⟨Q_fr W (isSet_iff.mp hS).1 he, by omega⟩
include W in
theorem val_seen {k : Int} (hk : k ≤ D.n) (he : InR D.n D.sz e) : Val D.n D.sz (D.kt []) (.seen (rgI k)) e (D.Q (rgI k) e) := by
  have hsub : ∀ j ∈ rgI k, 0 ≤ j ∧ j < D.n := fun j hj => by have := rgI_mem.mp hj; omega
  have ht : totF (D.kt []) = 8 ^ (D.hid.length + (rgI D.n).length) := by
    have := bot_eq W (ones := []) he (fun _ h => nomatch h)
    rw [wo_nil] at this
    rw [tot_top _ e, this]
  have htop := top_eq W (ones := []) he hsub
  rw [wo_nil] at htop
  have hq := Q_cut W (A := rgI D.n) (B := rgI k) rgI_set (nd_rise (rgI_rise k)) (fun x hx => rgI_mem.mpr (hsub x hx)) (fun i hi u hu _ => by
    have h1 := rgI_mem.mp hi
    have h2 := W.g.t.1 _ hu
    simp at h2
    exact rgI_mem.mpr ⟨by omega, by omega⟩) he
  rw [hq] at htop
  have hpos : 0 < totF (D.kt []) := by rw [ht]; exact p8_pos _
  have e1 : D.Q (rgI k) e = mkRat (topF (D.kt []) (rgI k) e) (totF (D.kt [])).toNat := by
    refine mk_of hpos ?_
    rw [ht, p8, Rat.mul_comm]
    exact htop.symm
  rw [e1]
  refine Val.seen ?_ hsub
  rw [rgI_len]
  have := W.g.n4
  omega
include W in
/-- a sum over names -/
theorem val_sum {A L : List Int} {f : Fm} (hA : isSet D.n A = true) (hL : isSet D.n L = true) (hf : ∀ e, InR D.n D.sz e → Val D.n D.sz (D.kt []) f e (D.Q A e)) (he : InR D.n D.sz e) : Val D.n D.sz (D.kt []) (sumF L f) e (SS D.sz L (D.Q A) e) := by
  unfold sumF
  by_cases q : L = []
  · rw [if_pos q]
    subst q
    exact hf e he
  · rw [if_neg q]
    have hLr := (isSet_iff.mp hL).1
    have hl4 := small_len W hL
    have hin : ∀ w ∈ waysF (L.map (szAt D.sz)), InR D.n D.sz (upEs e L w) := fun w hw => by
      have hok := ways_ok hw
      have key : ∀ (L w : List Int) (e : Int → Int), InR D.n D.sz e → InSz (L.map (szAt D.sz)) w → InR D.n D.sz (upEs e L w) := fun L => by
        induction L with
        | nil => intro w e he _; exact he
        | cons j L ih =>
          intro w e he hw
          match w, hw with
          | [], hw => have := hw.1; simp at this
          | x :: w, hw =>
            rw [upEs_cons]
            have h0 := hw.2 0 (by simp)
            refine ih w _ (he.up (rgI_mem.mpr h0)) ⟨by have := hw.1; simpa using this, fun k hk => hw.2 (k + 1) (by simpa using hk)⟩
      exact key L w e he hok
    have hs : SS D.sz L (D.Q A) e = ((waysF (L.map (szAt D.sz))).map fun w => D.Q A (upEs e L w)).sum := by
      rw [← NS_SS, ← ways_NS]
      rfl
    rw [hs]
    have hfr := fun w hw => (Q_ok W hA (hin w hw)).1
    have h8 := (Q_ok W hA he).2
    have hlen : (waysF (L.map (szAt D.sz))).length ≤ 81 := by
      have h1 := ways_len (L.map (szAt D.sz)) [[]] fun s hs => by
        obtain ⟨j, hj, rfl⟩ := List.mem_map.mp hs
        have := hLr j hj
        have := W.w.szv _ (getD_mem (l := D.sz) (k := j.toNat) (d := 0) (by have := W.w.szl; omega))
        unfold szAt
        omega
      have h2 := pow3 (k := L.length) hl4
      rw [List.length_map] at h1
      unfold waysF
      simp at h1
      omega
    refine Val.sum (fun w => D.Q A (upEs e L w)) hLr hl4 (fun w hw => hf _ (hin w hw)) (fun w hw => ((hfr w hw).sm (by omega)).1) fun pre post hp => ?_
    refine fr_sum_sm (k := A.length + D.hid.length) (fun w hw => hfr w (by rw [hp]; exact List.mem_append_left _ hw)) (by omega) ?_
    have := congrArg List.length hp
    rw [List.length_append] at this
    omega
end
end W3

namespace W3
theorem prodF_snoc {xs : List Fm} {f : Fm} (h : xs ≠ []) : prodF (xs ++ [f]) = .times (prodF xs) f := by
  obtain ⟨x, xs', rfl⟩ := List.exists_cons_of_ne_nil h
  rw [List.cons_append, prodF, prodF, List.foldl_append]
  rfl
theorem dep_prodF {d : Nat} : ∀ (fs : List Fm), (∀ f ∈ fs, dep f ≤ d) → dep (prodF fs) ≤ d + fs.length := by
  have key : ∀ (fs : List Fm) (f : Fm) (m : Nat), dep f ≤ d + m → (∀ g ∈ fs, dep g ≤ d) → dep (fs.foldl .times f) ≤ d + m + fs.length := fun fs => by
    induction fs with
    | nil => intro f m h _; exact h
    | cons g fs ih =>
      intro f m h hg
      have h1 := hg g List.mem_cons_self
      have := ih (.times f g) (m + 1) (by unfold dep; omega) fun x hx => hg x (List.mem_cons_of_mem _ hx)
      rw [List.foldl_cons, List.length_cons]
      omega
  intro fs h
  cases fs with
  | nil => show 0 ≤ _; omega
  | cons f fs =>
    have := key fs f 0 (h f List.mem_cons_self) fun g hg => h g (List.mem_cons_of_mem _ hg)
    rw [prodF, List.length_cons]
    omega
theorem dep_sumF {L : List Int} {f : Fm} : dep (sumF L f) ≤ dep f + 1 := by
  unfold sumF
  split
  · omega
  · exact Nat.le_refl _
section
variable {D : WD} (W : D.Ok) {e : Int → Int} {st nm : List Int}
theorem set_sub {n : Int} {a b : List Int} (h : isSet n a = true) (s : b.Sublist a) : isSet n b = true := by
  obtain ⟨h1, h2⟩ := isSet_iff.mp h
  exact isSet_iff.mpr ⟨fun x hx => h1 x (s.subset hx), h2.sublist s⟩
include W in
theorem Q_ne {S : List Int} (hS : isSet D.n S = true) (he : InR D.n D.sz e) : D.Q S e ≠ 0 := fun z => by
  obtain ⟨h1, h2⟩ := Q_ok W hS he
  have := (h1.sm (by omega)).2
  rw [z] at this
  exact absurd this (by decide)
include W in
theorem Q_pre (hst : isSet D.n st = true) (k : Nat) (he : InR D.n D.sz e) : SS D.sz (st.drop k) (D.Q st) e = D.Q (st.take k) e := by
  obtain ⟨h1, h2⟩ := isSet_iff.mp hst
  have hp : st.Perm (st.drop k ++ st.take k) := by
    have := List.perm_append_comm (l₁ := st.take k) (l₂ := st.drop k)
    rw [List.take_append_drop] at this
    exact this
  rw [show D.Q st = D.Q (st.drop k ++ st.take k) from funext fun e => Q_perm hp]
  have hlt : ∀ i ∈ st.take k, ∀ u ∈ st.drop k, i < u := by
    have := h2
    rw [← List.take_append_drop k st] at this
    exact (List.pairwise_append.mp this).2.2
  refine Q_sum W _ (st.drop k) (st.take k) e rfl (h2.sublist (List.drop_sublist k st)) (fun u hu => h1 u (List.mem_of_mem_drop hu)) (fun i hi => ⟨fun z => by have := hlt i hi i z; omega, fun u hu z => ?_⟩) he
  have h3 := hlt i hi u hu
  have := W.g.t.1 _ z
  simp at this
  omega
include W in
theorem Q_split (hsep : ∀ p ∈ D.bs, p.1 ∈ st → p.2 ∈ st → (p.1 ∈ nm ↔ p.2 ∈ nm)) (k : Nat) : D.Q (st.take k) e = D.Q ((st.take k).filter fun j => decide (j ∈ nm)) e * D.Q ((st.take k).filter fun j => !decide (j ∈ nm)) e := by
  rw [Q_perm (List.filter_append_perm (fun j => decide (j ∈ nm)) (st.take k)).symm]
  refine Q_mul W fun p hp ⟨h1, h2⟩ => ?_
  have m1 : ∀ x, x ∈ ((st.take k).filter fun j => decide (j ∈ nm)) → x ∈ st ∧ x ∈ nm := fun x hx => by
    have := List.mem_filter.mp hx
    exact ⟨List.mem_of_mem_take this.1, by simpa using this.2⟩
  have m2 : ∀ x, x ∈ ((st.take k).filter fun j => !decide (j ∈ nm)) → x ∈ st ∧ x ∉ nm := fun x hx => by
    have := List.mem_filter.mp hx
    exact ⟨List.mem_of_mem_take this.1, by simpa using this.2⟩
  rcases h1 with h1 | h1 <;> rcases h2 with h2 | h2
  · exact (m2 _ h2).2 (m1 _ h1).2
  · exact (m2 _ h2).2 ((hsep p hp (m1 _ h1).1 (m2 _ h2).1).mp (m1 _ h1).2)
  · exact (m2 _ h2).2 ((hsep p hp (m2 _ h2).1 (m1 _ h1).1).mpr (m1 _ h1).2)
  · exact (m2 _ h2).2 (m1 _ h1).2
include W in
theorem tel (hst : isSet D.n st = true) (hsep : ∀ p ∈ D.bs, p.1 ∈ st → p.2 ∈ st → (p.1 ∈ nm ↔ p.2 ∈ nm)) (he : InR D.n D.sz e) {Fp : Int × Nat → Fm}
    (hF : ∀ k j, st[k]? = some j → j ∈ nm → Val D.n D.sz (D.kt []) (Fp (j, k)) e (D.Q (st.take (k + 1)) e / D.Q (st.take k) e)) : ∀ k, k ≤ st.length →
    (((st.zipIdx.take k).filter fun p => decide (p.1 ∈ nm)) ≠ [] → Val D.n D.sz (D.kt []) (prodF (((st.zipIdx.take k).filter fun p => decide (p.1 ∈ nm)).map Fp)) e (D.Q ((st.take k).filter fun j => decide (j ∈ nm)) e)) ∧
    (((st.zipIdx.take k).filter fun p => decide (p.1 ∈ nm)) = [] → ((st.take k).filter fun j => decide (j ∈ nm)) = [])
  | 0, _ => ⟨fun h => absurd rfl h, fun _ => rfl⟩
  | k + 1, hk => by
    obtain ⟨ih1, ih2⟩ := tel hst hsep he hF k (by omega)
    have hj : st[k]? = some st[k] := List.getElem?_eq_getElem (by omega)
    have hz : st.zipIdx[k]? = some (st[k], k) := by rw [List.getElem?_zipIdx, hj]; simp
    have s1 := filter_take (f := fun p : Int × Nat => decide (p.1 ∈ nm)) hz
    have s2 := filter_take (f := fun j : Int => decide (j ∈ nm)) hj
    have s3 := filter_take (f := fun j : Int => !decide (j ∈ nm)) hj
    by_cases q : st[k] ∈ nm
    · rw [if_pos (by simpa using q)] at s1 s2
      rw [if_neg (by simpa using q), List.append_nil] at s3
      rw [s1, s2]
      have hv := hF k st[k] hj q
      have e1 := Q_split W (e := e) hsep (k + 1)
      have e2 := Q_split W (e := e) hsep k
      rw [s2, s3] at e1
      have sub1 : isSet D.n ((st.take k).filter fun j => decide (j ∈ nm)) = true := set_sub hst ((List.filter_sublist).trans (List.take_sublist k st))
      have sub2 : isSet D.n ((st.take k).filter fun j => !decide (j ∈ nm)) = true := set_sub hst ((List.filter_sublist).trans (List.take_sublist k st))
      have n1 := Q_ne W sub1 he
      have n2 := Q_ne W sub2 he
      have t1 := Q_ok W (set_sub hst (List.take_sublist (k + 1) st)) he
      have t2 := Q_ok W (set_sub hst (List.take_sublist k st)) he
      have sr := t1.1.div_sm t2.1 (by omega)
      refine ⟨fun _ => ?_, fun z => absurd z (by simp)⟩
      by_cases hL : ((st.zipIdx.take k).filter fun p => decide (p.1 ∈ nm)) = []
      · rw [hL, ih2 hL, List.nil_append, List.nil_append]
        show Val _ _ _ (Fp (st[k], k)) e _
        rw [ih2 hL, Q_nil W, Rat.one_mul] at e2
        rw [ih2 hL, List.nil_append] at e1
        have : D.Q (st.take (k + 1)) e / D.Q (st.take k) e = D.Q [st[k]] e := by rw [e1, e2]; grind
        rw [← this]
        exact hv
      · rw [List.map_append, List.map_cons, List.map_nil, prodF_snoc (by simpa using hL)]
        have hq := Q_ok W sub1 he
        have : D.Q ((st.take k).filter (fun j => decide (j ∈ nm)) ++ [st[k]]) e = D.Q ((st.take k).filter fun j => decide (j ∈ nm)) e * (D.Q (st.take (k + 1)) e / D.Q (st.take k) e) := by rw [e1, e2]; grind
        rw [this]
        exact Val.times (ih1 hL) hv (hq.1.sm (by omega)).1 sr
    · rw [if_neg (by simpa using q), List.append_nil] at s1 s2
      rw [s1, s2]
      exact ⟨ih1, ih2⟩
include W in
theorem tel_all (hst : isSet D.n st = true) (hnm : isSet D.n nm = true) (hsub : ∀ x ∈ nm, x ∈ st) (hne : nm ≠ []) (hsep : ∀ p ∈ D.bs, p.1 ∈ st → p.2 ∈ st → (p.1 ∈ nm ↔ p.2 ∈ nm)) (he : InR D.n D.sz e) {Fp : Int × Nat → Fm}
    (hF : ∀ k j, st[k]? = some j → j ∈ nm → Val D.n D.sz (D.kt []) (Fp (j, k)) e (D.Q (st.take (k + 1)) e / D.Q (st.take k) e)) :
    Val D.n D.sz (D.kt []) (prodF ((st.zipIdx.filter fun p => decide (p.1 ∈ nm)).map Fp)) e (D.Q nm e) := by
  have h := (tel W hst hsep he hF st.length (Nat.le_refl _)).1
  rw [List.take_length, List.take_of_length_le (by rw [List.length_zipIdx]; exact Nat.le_refl _)] at h
  have hp : (st.filter fun j => decide (j ∈ nm)).Perm nm := by
    refine (List.perm_ext_iff_of_nodup ((nd_rise (isSet_iff.mp hst).2).filter _) (nd_rise (isSet_iff.mp hnm).2)).mpr fun x => ?_
    rw [List.mem_filter]
    exact ⟨fun h => by simpa using h.2, fun h => ⟨hsub x h, by simpa using h⟩⟩
  rw [Q_perm hp] at h
  refine h fun z => ?_
  obtain ⟨x, xs, ex⟩ := List.exists_cons_of_ne_nil hne
  have hx : x ∈ st := hsub x (by rw [ex]; exact List.mem_cons_self)
  obtain ⟨k, hk, e3⟩ := List.getElem_of_mem hx
  rw [List.filter_eq_nil_iff] at z
  refine z (x, k) ?_ (by simp [ex])
  rw [List.mem_zipIdx_iff_getElem?, List.getElem?_eq_getElem hk, e3]
/-- the lump formula -/
theorem sep_of {bs : List (Int × Int)} (hb : ∀ p, p ∈ D.bs → p ∈ bs) (hst : isSet D.n st = true) (hl : nm ∈ lumpsF bs st) : ∀ p ∈ D.bs, p.1 ∈ st → p.2 ∈ st → (p.1 ∈ nm ↔ p.2 ∈ nm) := fun p hp h1 h2 => lumps_sep (nd_rise (isSet_iff.mp hst).2) hl (hb p hp) h1 h2
include W in
theorem val_lump {bs : List (Int × Int)} {f : Fm} (hb : ∀ p, p ∈ D.bs → p ∈ bs) (hst : isSet D.n st = true) (hl : nm ∈ lumpsF bs st) (hf : ∀ e, InR D.n D.sz e → Val D.n D.sz (D.kt []) f e (D.Q st e)) (he : InR D.n D.sz e) : Val D.n D.sz (D.kt []) (lumpForm st nm f) e (D.Q nm e) := by
  have P := lumps_part (bs := bs) (nd_rise (isSet_iff.mp hst).2)
  refine tel_all W hst (lump_set hst hl) (P.sub _ hl) (P.ne _ hl) (sep_of hb hst hl) he (Fp := fun p => .over (sumF (st.drop (p.2 + 1)) f) (lessF st p.2 f)) fun k j hk hj => ?_
  have d1 := set_sub hst (List.drop_sublist (k + 1) st)
  have d2 := set_sub hst (List.drop_sublist k st)
  have t1 := Q_ok W (set_sub hst (List.take_sublist (k + 1) st)) he
  have t2 := Q_ok W (set_sub hst (List.take_sublist k st)) he
  have v1 := val_sum W hst d1 hf he
  rw [Q_pre W hst (k + 1) he] at v1
  have v2 : Val D.n D.sz (D.kt []) (lessF st k f) e (D.Q (st.take k) e) := by
    unfold lessF
    by_cases q : (0 : Int) < (k : Nat)
    · rw [if_pos (by simpa using q)]
      have v2 := val_sum W hst d2 hf he
      rw [Q_pre W hst k he] at v2
      exact v2
    · rw [if_neg (by simpa using q)]
      have : k = 0 := by omega
      subst this
      rw [List.take_zero, Q_nil W]
      exact Val.one
  exact Val.over v1 v2 (t1.1.sm (by omega)).1 (t2.1.sm (by omega)).1 (t2.1.sm (by omega)).2
theorem take_rgI {n : Int} {k : Nat} (h : (k : Int) ≤ n) : (rgI n).take k = rgI k := by
  unfold rgI
  rw [← List.map_take, List.take_range, Int.toNat_natCast, Nat.min_eq_left (by omega)]
include W in
theorem val_first {bs : List (Int × Int)} (hb : ∀ p, p ∈ D.bs → p ∈ bs) (hl : nm ∈ lumpsF bs (rgI D.n)) (he : InR D.n D.sz e) : Val D.n D.sz (D.kt []) (firstF nm) e (D.Q nm e) := by
  have hst : isSet D.n (rgI D.n) = true := rgI_set
  have P := lumps_part (bs := bs) (nd_rise (isSet_iff.mp hst).2)
  have hnm := lump_set hst hl
  have h := tel_all W hst hnm (P.sub _ hl) (P.ne _ hl) (sep_of hb hst hl) he (Fp := fun p => .over (.seen (rgI (p.1 + 1))) (.seen (rgI p.1))) fun k j hk hj => by
    have hkl : k < (rgI D.n).length := (List.getElem?_eq_some_iff.mp hk).1
    rw [rgI_len] at hkl
    have ej : j = (k : Int) := by
      unfold rgI at hk
      rw [List.getElem?_map, List.getElem?_range (by omega)] at hk
      exact (Option.some.inj hk).symm
    subst ej
    rw [take_rgI (by omega), take_rgI (by omega)]
    have e1 : rgI ((k + 1 : Nat) : Int) = rgI ((k : Int) + 1) := by rw [Int.natCast_add]; rfl
    rw [e1]
    have s1 : isSet D.n (rgI ((k : Int) + 1)) = true := isSet_iff.mpr ⟨fun x hx => by have := rgI_mem.mp hx; omega, rgI_rise _⟩
    have s2 : isSet D.n (rgI (k : Int)) = true := isSet_iff.mpr ⟨fun x hx => by have := rgI_mem.mp hx; omega, rgI_rise _⟩
    have t1 := Q_ok W s1 he
    have t2 := Q_ok W s2 he
    exact Val.over (val_seen W (by omega) he) (val_seen W (by omega) he) (t1.1.sm (by omega)).1 (t2.1.sm (by omega)).1 (t2.1.sm (by omega)).2
  have e2 : ((rgI D.n).zipIdx.filter fun p => decide (p.1 ∈ nm)).map (fun p : Int × Nat => Fm.over (.seen (rgI (p.1 + 1))) (.seen (rgI p.1))) = nm.map fun j => Fm.over (.seen (rgI (j + 1))) (.seen (rgI j)) := by
    have e3 : ((rgI D.n).zipIdx.filter fun p => decide (p.1 ∈ nm)).map (·.1) = nm := by
      have e4 : ((rgI D.n).zipIdx.filter fun p => decide (p.1 ∈ nm)).map (·.1) = (rgI D.n).filter fun j => decide (j ∈ nm) := by
        conv => rhs; rw [← List.zipIdx_map_fst 0 (rgI D.n)]
        rw [List.filter_map]
        rfl
      rw [e4]
      have hn1 := (rgI_rise D.n).filter fun j => decide (j ∈ nm)
      refine rise_eq hn1 (isSet_iff.mp hnm).2 (fun x hx => by simpa using (List.mem_filter.mp hx).2) ?_
      refine ((List.perm_ext_iff_of_nodup (nd_rise hn1) (nd_rise (isSet_iff.mp hnm).2)).mpr fun x => ?_).length_eq
      rw [List.mem_filter]
      exact ⟨fun h => by simpa using h.2, fun h => ⟨P.sub _ hl x h, by simpa using h⟩⟩
    conv => rhs; rw [← e3]
    rw [List.map_map]
    rfl
  rw [e2] at h
  exact h
end
end W3

namespace W3
open PySem
section
variable {D : WD} (W : D.Ok) {e : Int → Int} {st nm : List Int}
theorem up_lump : ¬ ("lump" : Str) = ("up" : Str) := of_decide_eq_false (by decide +kernel)
include W in
theorem val_cut (hst : isSet D.n st = true) {c : Cut} (ck : CutOk D.n (sortP D.ts) (sortP D.bs) st c) {f : Fm} (hf : ∀ e, InR D.n D.sz e → Val D.n D.sz (D.kt []) f e (D.Q st e)) (he : InR D.n D.sz e) : Val D.n D.sz (D.kt []) (cutForm st f c) e (D.Q c.2 e) := by
  have hb : ∀ p, p ∈ D.bs → p ∈ sortP D.bs := fun p hp => mem_sortP.mpr hp
  unfold cutForm
  rcases ck.way with ⟨h1, h2⟩ | ⟨h1, h2, h3⟩
  · rw [if_neg (by rw [h1]; simpa using up_lump)]
    exact val_lump W hb hst h2 hf he
  · rw [if_pos (by simpa using h1)]
    have hsub : ∀ x ∈ c.2, x ∈ st := fun x hx => by
      by_cases q : x ∈ st
      · exact q
      · have : x ∈ woF c.2 st := wo_mem.mpr ⟨hx, q⟩
        rw [h2] at this
        cases this
    have hcl : ∀ i ∈ c.2, ∀ u, (u, i) ∈ D.ts → u ∈ st → u ∈ c.2 := fun i hi u hu hus => by
      unfold closedF at h3
      have h4 := List.all_eq_true.mp h3 i hi
      have h5 := List.all_eq_true.mp h4 u (by
        unfold srcF
        exact List.mem_map.mpr ⟨(u, i), List.mem_filter.mpr ⟨mem_sortP.mpr hu, by simp⟩, rfl⟩)
      simpa [hus] using h5
    have v := val_sum W hst (wo_set (os := c.2) hst) hf he
    rw [Q_cut W hst (nd_rise (isSet_iff.mp ck.set).2) hsub hcl he] at v
    exact v
include W in
theorem val_shares {lump : List Int} : ∀ (cuts : List Cut) (st : List Int) (f : Fm), isSet D.n st = true → (∀ e, InR D.n D.sz e → Val D.n D.sz (D.kt []) f e (D.Q st e)) → leadsGo D.n (sortP D.ts) (sortP D.bs) lump st cuts = true → ∀ e, InR D.n D.sz e → Val D.n D.sz (D.kt []) (sharesGo st f cuts) e (D.Q lump e)
  | [], st, f, hst, hf, hl, e, he => by
    unfold leadsGo at hl
    have := of_decide_eq_true hl
    subst this
    exact hf e he
  | c :: cs, st, f, hst, hf, hl, e, he => by
    unfold leadsGo at hl
    have hcut : cutF D.n (sortP D.ts) (sortP D.bs) st c ≠ [] := fun z => by rw [if_pos z] at hl; cases hl
    rw [if_neg hcut] at hl
    have ck := cut_ok hcut
    rw [ck.eq] at hl
    exact val_shares cs c.2 (cutForm st f c) ck.set (fun e he => val_cut W hst ck hf he) hl e he
theorem lumpFs_len {f : Fm} : (lumpFs st nm f).length ≤ st.length := by
  unfold lumpFs
  rw [List.length_map]
  have := List.length_filter_le (fun p : Int × Nat => decide (p.1 ∈ nm)) st.zipIdx
  rw [List.length_zipIdx] at this
  exact this
theorem dep_cut {c : Cut} {f : Fm} : dep (cutForm st f c) ≤ dep f + 2 + st.length := by
  unfold cutForm
  split
  · have := dep_sumF (L := woF st c.2) (f := f); omega
  · have h := dep_prodF (d := dep f + 2) (lumpFs st c.2 f) fun g hg => by
      unfold lumpFs at hg
      obtain ⟨p, _, rfl⟩ := List.mem_map.mp hg
      have h1 := dep_sumF (L := st.drop (p.2 + 1)) (f := f)
      have h2 : dep (lessF st p.2 f) ≤ dep f + 1 := by
        unfold lessF
        split
        · exact dep_sumF
        · show 0 ≤ _; omega
      show max _ _ + 1 ≤ _
      omega
    have := lumpFs_len (st := st) (nm := c.2) (f := f)
    unfold lumpForm
    omega
theorem dep_shares {n : Int} {ts bs : List (Int × Int)} {lump : List Int} : ∀ (cuts : List Cut) (st : List Int) (f : Fm), st.length ≤ 4 → leadsGo n ts bs lump st cuts = true → dep (sharesGo st f cuts) ≤ dep f + 6 * st.length
  | [], st, f, _, _ => by show dep f ≤ _; omega
  | c :: cs, st, f, h4, hl => by
    unfold leadsGo at hl
    have hcut : cutF n ts bs st c ≠ [] := fun z => by rw [if_pos z] at hl; cases hl
    rw [if_neg hcut] at hl
    have ck := cut_ok hcut
    rw [ck.eq] at hl
    have hlen := ck.len
    have h1 := dep_shares cs c.2 (cutForm st f c) (by omega) hl
    have h2 := dep_cut (st := st) (c := c) (f := f)
    show dep (sharesGo c.2 (cutForm st f c) cs) ≤ _
    omega
theorem dep_first : dep (firstF nm) ≤ 1 + nm.length := by
  have h := dep_prodF (d := 1) (nm.map fun j => Fm.over (.seen (rgI (j + 1))) (.seen (rgI j))) fun g hg => by
    obtain ⟨j, _, rfl⟩ := List.mem_map.mp hg
    show max 0 0 + 1 ≤ 1
    omega
  rw [List.length_map] at h
  exact h
include W in
theorem val_row {r : Row} (hr : r.1.getD 0 0 ∈ rgI D.n) (hl : leadsF D.n (sortP D.ts) (sortP D.bs) r.1 r.2 = true) (he : InR D.n D.sz e) : Val D.n D.sz (D.kt []) (sharesF D.n (sortP D.bs) r.1 r.2) e (D.Q r.1 e) ∧ dep (sharesF D.n (sortP D.bs) r.1 r.2) ≤ 29 := by
  have hb : ∀ p, p ∈ D.bs → p ∈ sortP D.bs := fun p hp => mem_sortP.mpr hp
  obtain ⟨hm, _⟩ := lw_ne (bs := sortP D.bs) (nd_rise (rgI_rise D.n)) hr
  have hs := lump_set rgI_set hm
  have h4 := small_len W hs
  refine ⟨val_shares W r.2 _ _ hs (fun e he => val_first W hb hm he) hl e he, ?_⟩
  have h1 := dep_shares r.2 (lumpWith (sortP D.bs) (rgI D.n) r.1) (firstF (lumpWith (sortP D.bs) (rgI D.n) r.1)) h4 hl
  have h2 := dep_first (nm := lumpWith (sortP D.bs) (rgI D.n) r.1)
  show dep (sharesGo _ _ _) ≤ 29
  omega
include W in
/-- the product over lumps that no bow joins -/
theorem val_rows {ns : List Int} (hns : isSet D.n ns = true) (he : InR D.n D.sz e) {sh : Row → Fm} {all : List Row} (hall : all.map (·.1) = lumpsF (sortP D.bs) ns) (hv : ∀ r ∈ all, Val D.n D.sz (D.kt []) (sh r) e (D.Q r.1 e)) :
    ∀ (rest pre : List Row), all = pre ++ rest → pre ≠ [] → Val D.n D.sz (D.kt []) (prodF (pre.map sh)) e (D.Q (pre.map (·.1)).flatten e) → Val D.n D.sz (D.kt []) (prodF (all.map sh)) e (D.Q (all.map (·.1)).flatten e)
  | [], pre, ha, _, h => by
    rw [List.append_nil] at ha
    rw [ha]
    exact h
  | r :: rest, pre, ha, hne, h => by
    have P := lumps_part (bs := sortP D.bs) (nd_rise (isSet_iff.mp hns).2)
    have hmem : ∀ q ∈ all, q.1 ∈ lumpsF (sortP D.bs) ns := fun q hq => by rw [← hall]; exact List.mem_map_of_mem hq
    have hr : r ∈ all := by rw [ha]; simp
    have hdis : ∀ q ∈ pre, ∀ x ∈ q.1, x ∉ r.1 := fun q hq x hx => by
      have hp := P.dis
      rw [← hall, ha, List.map_append] at hp
      exact (List.pairwise_append.mp hp).2.2 q.1 (List.mem_map_of_mem hq) r.1 (by simp) x hx
    have hpin : ∀ x ∈ (pre.map (·.1)).flatten, x ∈ ns ∧ x ∉ r.1 := fun x hx => by
      obtain ⟨l, hl, hxl⟩ := List.mem_flatten.mp hx
      obtain ⟨q, hq, rfl⟩ := List.mem_map.mp hl
      exact ⟨P.sub _ (hmem q (by rw [ha]; exact List.mem_append_left _ hq)) x hxl, hdis q hq x hxl⟩
    have hrin : ∀ x ∈ r.1, x ∈ ns := P.sub _ (hmem r hr)
    have hsp : ∀ p ∈ D.bs, ¬ ((p.1 ∈ (pre.map (·.1)).flatten ∨ p.2 ∈ (pre.map (·.1)).flatten) ∧ (p.1 ∈ r.1 ∨ p.2 ∈ r.1)) := fun p hp ⟨h1, h2⟩ => by
      have sep := fun a b => lumps_sep (nd_rise (isSet_iff.mp hns).2) (hmem r hr) (mem_sortP.mpr hp) a b
      rcases h1 with h1 | h1 <;> rcases h2 with h2 | h2
      · exact (hpin _ h1).2 h2
      · exact (hpin _ h1).2 ((sep (hpin _ h1).1 (hrin _ h2)).mpr h2)
      · exact (hpin _ h1).2 ((sep (hrin _ h2) (hpin _ h1).1).mp h2)
      · exact (hpin _ h1).2 h2
    have hq := Q_mul W (e := e) hsp
    have ef : ((pre ++ [r]).map (·.1)).flatten = (pre.map (·.1)).flatten ++ r.1 := by rw [List.map_append, List.flatten_append]; simp
    have inN : ∀ i ∈ (pre.map (·.1)).flatten, 0 ≤ i ∧ i < D.n := fun i hi => (isSet_iff.mp hns).1 i (hpin i hi).1
    have ndp : (pre.map (·.1)).flatten.Nodup := by
      have hp := P.dis
      rw [← hall, ha, List.map_append] at hp
      refine List.pairwise_flatten.mpr ⟨fun l hl => ?_, (List.pairwise_append.mp hp).1.imp fun h x hx y hy z => h x hx (by rw [z]; exact hy)⟩
      obtain ⟨q, hq, rfl⟩ := List.mem_map.mp hl
      exact nd_rise (P.rise _ (hmem q (by rw [ha]; exact List.mem_append_left _ hq)))
    have hl4 : (pre.map (·.1)).flatten.length ≤ 4 := by
      have := in_len ndp inN
      have := W.g.n4
      omega
    have s1 := (Q_fr W inN he).sm (by have := hid_len W; omega)
    have s2 := Q_ok W (lump_set hns (hmem r hr)) he
    refine val_rows hns he hall hv rest (pre ++ [r]) (by rw [ha, List.append_assoc]; rfl) (by simp) ?_
    rw [ef, hq, List.map_append, List.map_cons, List.map_nil, prodF_snoc (by simpa using hne)]
    exact Val.times h (hv r hr) s1.1 (s2.1.sm (by omega)).1
end
theorem top2_top (kt : List (List Int × Int)) (ones asked : List Int) (e : Int → Int) : top2F kt ones asked e = topF kt (ones ++ asked) e := by
  unfold top2F topF
  congr 1
  funext a p
  have h1 := ag_iff (ns := ones) (e := e) (y := p.1)
  have h2 := ag_iff (ns := asked) (e := e) (y := p.1)
  have h3 := ag_iff (ns := ones ++ asked) (e := e) (y := p.1)
  by_cases q1 : agF ones e p.1 = true
  · rw [if_pos q1]
    by_cases q2 : agF asked e p.1 = true
    · rw [if_pos q2, if_pos (h3.mpr fun x hx => (List.mem_append.mp hx).elim (h1.mp q1 x) (h2.mp q2 x))]
    · rw [if_neg q2, if_neg fun z => q2 (h2.mpr fun x hx => h3.mp z x (List.mem_append_right _ hx))]
  · rw [if_neg q1, if_neg fun z => q1 (h1.mpr fun x hx => h3.mp z x (List.mem_append_left _ hx))]
theorem top_nn {kt : List (List Int × Int)} {ns : List Int} {e : Int → Int} (h : ∀ p ∈ kt, 0 ≤ p.2) : 0 ≤ topF kt ns e := by
  have key : ∀ (l : List (List Int × Int)) (a : Int), 0 ≤ a → (∀ p ∈ l, 0 ≤ p.2) → 0 ≤ l.foldl (fun a p => if agF ns e p.1 = true then a + p.2 else a) a := fun l => by
    induction l with
    | nil => intro a ha _; exact ha
    | cons p l ih =>
      intro a ha hl
      have := hl p List.mem_cons_self
      exact ih _ (by show 0 ≤ (if agF ns e p.1 = true then a + p.2 else a); split <;> omega) fun q hq => hl q (List.mem_cons_of_mem _ hq)
  exact key kt 0 (Int.le_refl _) h
theorem plain_law {n : Int} {ts bs : List (Int × Int)} {ones asked : List Int} {paper : List Row} {sz : List Int} {hid : List (List Int)} {tab : List (List (List Int))} {e : Int → Int} (hg : GS n ts bs) (hq : GQ n ones asked)
    (hl : letsF n (sortP ts) (sortP bs) ones asked paper = true) (hw : GWorld n ts bs sz hid tab) (he : ∀ j, 0 ≤ j → j < n → 0 ≤ e j ∧ e j < szAt sz j) : Plain n ts bs ones asked paper sz hid tab e := by
  obtain ⟨hmap, hall⟩ := lets_iff.mp hl
  let D : WD := ⟨n, ts, bs, sz, hid, tab⟩
  have W : D.Ok := ⟨hg, hw⟩
  have he : InR D.n D.sz e := he
  have hgd : GD n (sortP ts) (sortP bs) := ⟨hg.n1, by have := hg.n4; omega, hg.t.sort, hg.b.sort, by rw [len_sortP]; have := hg.b4; omega⟩
  have hts : ∀ p ∈ sortP ts, 0 ≤ p.1 ∧ p.1 < p.2 ∧ p.2 < n := hgd.t.1
  have hso := isSet_iff.mp hq.so
  have hsa := isSet_iff.mp hq.sa
  have hwant := want_set (ones := ones) hts hq.sa
  generalize hwn : wantF n (sortP ts) ones asked = wn at *
  obtain ⟨hrows, hpne⟩ := rows_ok hgd hq (by rw [hwn]; exact hmap)
  have hN : isSet D.n (woF (rgI D.n) ones) = true := wo_set rgI_set
  -- the wanted names: those asked, closed among the others
  have hask : ∀ x ∈ asked, x ∈ wn := fun x hx => by rw [← hwn]; exact (anc_mem (nd_rise hsa.2)).1 x hx
  have hpart : ∀ u v, (u, v) ∈ sortP (partP (sortP ts) (woF (rgI n) ones)) ↔ (u, v) ∈ ts ∧ u ∈ woF (rgI n) ones ∧ v ∈ woF (rgI n) ones := fun u v => by
    rw [mem_sortP]
    unfold partP
    rw [List.mem_filter, mem_sortP]
    simp
  have hwsub : ∀ x ∈ wn, x ∈ woF (rgI n) ones := fun x hx => by
    rw [← hwn] at hx
    rcases (anc_mem (nd_rise hsa.2)).2 x hx with h | ⟨v, hv⟩
    · exact wo_mem.mpr ⟨rgI_mem.mpr (hsa.1 x h), hq.dj x h⟩
    · exact ((hpart x v).mp hv).2.1
  have hwcl : ∀ i ∈ wn, ∀ u, (u, i) ∈ D.ts → u ∈ woF (rgI D.n) ones → u ∈ wn := fun i hi u hu hun => by
    have hin := hwsub i hi
    rw [← hwn] at hi ⊢
    exact anc_closed (fun p hp => by
      have := ((hpart p.1 p.2).mp hp).1
      exact (hg.t.1 _ this).2.1) ((hpart u i).mpr ⟨hu, hun, hin⟩) hi
  have hcut : ∀ e, InR D.n D.sz e → SS D.sz (woF (woF (rgI D.n) ones) wn) (D.Q (woF (rgI D.n) ones)) e = D.Q wn e := fun e he => Q_cut W hN (nd_rise (isSet_iff.mp hwant).2) hwsub hwcl he
  have hbot := bot_eq W (ones := ones) he hso.1
  have htop := top_eq W (ones := ones) (ns := ones ++ asked) he fun j hj => (List.mem_append.mp hj).elim (hso.1 j) (hsa.1 j)
  have hK : D.hid.length + (woF (rgI D.n) ones).length ≤ 8 := by
    have := hid_len W
    have := small_len W hN
    omega
  have hkt : D.kt ones = weightsF n ts bs sz hid tab ones := rfl
  -- the formula's value
  have hprod : ∀ e, InR D.n D.sz e → Val D.n D.sz (D.kt []) (prodF (paper.map fun r => sharesF n (sortP bs) r.1 r.2)) e (D.Q wn e) := fun e he => by
    obtain ⟨r0, rest, ep⟩ := List.exists_cons_of_ne_nil hpne
    have hv : ∀ r ∈ paper, Val D.n D.sz (D.kt []) (sharesF n (sortP bs) r.1 r.2) e (D.Q r.1 e) := fun r hr => (val_row W (hrows r hr).2 (hall r hr) he).1
    have h1 := val_rows W hwant he (sh := fun r => sharesF n (sortP bs) r.1 r.2) hmap hv rest [r0] (by rw [ep]; rfl) (by simp) (by
      show Val _ _ _ (sharesF n (sortP bs) r0.1 r0.2) e (D.Q (r0.1 ++ []) e)
      rw [List.append_nil]
      exact hv r0 (by rw [ep]; exact List.mem_cons_self))
    have P := lumps_part (bs := sortP bs) (nd_rise (isSet_iff.mp hwant).2)
    have hp : (paper.map (·.1)).flatten.Perm wn := by
      rw [hmap]
      refine (List.perm_ext_iff_of_nodup (List.pairwise_flatten.mpr ⟨fun l hl => nd_rise (P.rise l hl), P.dis.imp fun h x hx y hy z => h x hx (by rw [z]; exact hy)⟩) (nd_rise (isSet_iff.mp hwant).2)).mpr fun x => ?_
      rw [List.mem_flatten]
      exact ⟨fun ⟨l, hl, hx⟩ => P.sub l hl x hx, fun hx => P.cov x hx⟩
    rw [Q_perm hp] at h1
    exact h1
  have hval := val_sum W hwant (wo_set (os := asked) hwant) hprod he
  have hval2 : SS D.sz (woF (rgI D.n) (ones ++ asked)) (D.Q (woF (rgI D.n) ones)) e = SS D.sz (woF wn asked) (D.Q wn) e := by
    have hp : (woF (rgI D.n) (ones ++ asked)).Perm (woF wn asked ++ woF (woF (rgI D.n) ones) wn) := by
      have nd1 : (woF (rgI D.n) (ones ++ asked)).Nodup := (nd_rise (rgI_rise D.n)).filter _
      have nd2 : (woF wn asked ++ woF (woF (rgI D.n) ones) wn).Nodup := List.nodup_append.mpr ⟨(nd_rise (isSet_iff.mp hwant).2).filter _, ((nd_rise (rgI_rise D.n)).filter _).filter _, fun x hx y hy z => (wo_mem.mp hy).2 (by rw [← z]; exact (wo_mem.mp hx).1)⟩
      refine (List.perm_ext_iff_of_nodup nd1 nd2).mpr fun x => ?_
      rw [List.mem_append, wo_mem, wo_mem, wo_mem, wo_mem, List.mem_append]
      constructor
      · rintro ⟨h1, h2⟩
        have h3 : x ∉ ones := fun z => h2 (.inl z)
        have h4 : x ∉ asked := fun z => h2 (.inr z)
        by_cases q : x ∈ wn
        · exact .inl ⟨q, h4⟩
        · exact .inr ⟨⟨h1, h3⟩, q⟩
      · rintro (⟨h1, h2⟩ | ⟨⟨h1, h2⟩, h3⟩)
        · have := wo_mem.mp (hwsub x h1)
          exact ⟨this.1, fun z => z.elim this.2 h2⟩
        · exact ⟨h1, fun z => z.elim h2 fun h => h3 (hask x h)⟩
    rw [SS_perm D.sz hp, SS_app]
    exact SS_congr he hcut
  rw [hval2] at htop
  have hpos : 0 < topF (D.kt ones) ones e := by rw [hbot]; exact p8_pos _
  have e2 : SS D.sz (woF wn asked) (D.Q wn) e = mkRat (top2F (D.kt ones) ones asked e) (topF (D.kt ones) ones e).toNat := by
    refine mk_of hpos ?_
    rw [top2_top, hbot, p8, Rat.mul_comm]
    exact htop.symm
  rw [e2] at hval
  refine ⟨kt_ok W he, ?_, ?_, hpos, by rw [← hkt, hbot]; exact p8_lt (by omega), ?_⟩
  · unfold formF
    rw [hwn]
    exact hval
  · unfold formF
    rw [hwn]
    have h1 := dep_sumF (L := woF wn asked) (f := prodF (paper.map fun r => sharesF n (sortP bs) r.1 r.2))
    have h2 := dep_prodF (d := 29) (paper.map fun r => sharesF n (sortP bs) r.1 r.2) fun g hg => by
      obtain ⟨r, hr, rfl⟩ := List.mem_map.mp hg
      exact (val_row W (hrows r hr).2 (hall r hr) he).2
    rw [List.length_map] at h2
    have h3 : paper.length ≤ 8 := by
      have P := lumps_part (bs := sortP bs) (nd_rise (isSet_iff.mp hwant).2)
      have h5 : paper.length = (lumpsF (sortP bs) wn).length := by rw [← hmap, List.length_map]
      have h6 := (LPart.fold (sortP bs) (LPart.start (nd_rise (isSet_iff.mp hwant).2))).2
      have h7 := small_len W hwant
      have h8 := hg.b4
      have h9 : (lumpsF (sortP bs) wn).length ≤ wn.length + bs.length := by
        unfold lumpsF
        rw [len_sortL]
        rw [List.length_map, len_sortP] at h6
        exact h6
      omega
    omega
  · rw [top2_top]
    exact top_nn (kt_nn W)
end W3

namespace W3
open PySem PySem.Spec PyProof.Rows L2 Evl
local macro_rules | `(tactic| walk_at "ev") => `(tactic| first
  | ((with_reducible apply ev_var); exact rfl)
  | ((with_reducible apply es_own); exact rfl)
  | ((with_reducible apply el_own); exact rfl)
  | with_reducible exact ev_int
  | with_reducible exact ev_bl
  | with_reducible exact ev_str
  | with_reducible exact ev_non
  | with_reducible exact ea_nil
  | with_reducible exact et_yes
  | ((with_reducible apply ea_cons); walk_at "ev"; walk_at "ev")
  | ((with_reducible apply ev_add); walk_at "ev"; walk_at "ev")
  | ((with_reducible apply ev_sub); walk_at "ev"; walk_at "ev")
  | ((with_reducible apply ev_lt); walk_at "ev"; walk_at "ev")
  | ((with_reducible apply ev_le); walk_at "ev"; walk_at "ev")
  | ((with_reducible apply ev_gt); walk_at "ev"; walk_at "ev")
  | ((with_reducible apply ev_ge); walk_at "ev"; walk_at "ev")
  | ((with_reducible apply ev_in); walk_at "ev"; walk_at "ev")
  | ((with_reducible apply ev_ni); walk_at "ev"; walk_at "ev")
  | ((with_reducible apply ev_inLT); walk_at "ev"; walk_at "ev")
  | ((with_reducible apply ev_inL); walk_at "ev"; walk_at "ev")
  | ((with_reducible apply ev_niTT); walk_at "ev"; walk_at "ev")
  | ((with_reducible apply ev_eq); walk_at "ev"; walk_at "ev")
  | ((with_reducible apply ev_eqS); walk_at "ev"; walk_at "ev")
  | ((with_reducible apply ev_eqT); walk_at "ev"; walk_at "ev")
  | ((with_reducible apply ev_eqL); walk_at "ev"; walk_at "ev")
  | ((with_reducible apply ev_ne); walk_at "ev"; walk_at "ev")
  | ((with_reducible apply ev_neT); walk_at "ev"; walk_at "ev")
  | ((with_reducible apply ev_neL); walk_at "ev"; walk_at "ev")
  | ((with_reducible apply ev_neLT); walk_at "ev"; walk_at "ev")
  | ((with_reducible apply ev_neB); walk_at "ev"; walk_at "ev")
  | ((with_reducible apply ev_len); walk_at "ev")
  | ((with_reducible apply ev_tupOf); walk_at "ev")
  | ((with_reducible apply ev_intB); walk_at "ev")
  | ((with_reducible apply en_lstOf); walk_at "ev")
  | ((with_reducible apply et_test); walk_at "ev")
  | ((with_reducible apply et_B); walk_at "ev")
  | ((with_reducible apply et_not); walk_at "ev")
  | ((with_reducible apply EvD.sT); walk_at "ev")
  | ((with_reducible apply EvD.sL); walk_at "ev")
  | ((with_reducible apply EvD.l); walk_at "ev")
  | ((with_reducible apply EvN.s); walk_at "ev")
  | ((with_reducible apply EvN.d); walk_at "ev")
  | ((with_reducible apply EvN.l); walk_at "ev")
  | ((with_reducible apply et_and); walk_at "ev"; intro _; walk_at "ev")
  | ((with_reducible apply et_or); walk_at "ev"; intro _; walk_at "ev")
  | ((with_reducible apply ev_ixN (j := 0)); walk_at "ev"; exact ev_int; exact rfl)
  | ((with_reducible apply ev_ixN (j := 1)); walk_at "ev"; exact ev_int; exact rfl)
  | ((with_reducible apply ev_ixN (j := 2)); walk_at "ev"; exact ev_int; exact rfl)
  | ((with_reducible apply ev_mod); walk_at "ev"; walk_at "ev"; decide)
  | ((with_reducible apply ev_div); walk_at "ev"; walk_at "ev"; decide)
  | ((with_reducible apply ev_tup); walk_at "ev"; simp)
  | ((with_reducible apply en_lst); walk_at "ev"; simp))
local macro_rules | `(tactic| walk_at "wk") => `(tactic| first | exact Wk.nil | (refine Wk.cons (Wk1.rfl _) ?_; walk_at "wk") | (refine Wk.cons (Wk1.un _) ?_; walk_at "wk") | (refine Wk.cons (Wk1.fz _) ?_; walk_at "wk") | (refine Wk.cons (Wk1.lk _) ?_; walk_at "wk"))
section
variable {T : Tx} {G G' : List Sl} {te ta tb : TE} {P : Post} {g : TG} {F : Dt → Prop} {E E2 : XK} {kk : List (Int × Int)}
theorem sg_asgPB (h : EvP T te G F) (k : ∀ x, F x → ∃ js G1, Bd T g js x G G1 ∧ P.nx G1) : SG T (tAsg te g) G P := fun B ad H s D I nx rt bk ct =>
  h B ad H s I _ fun v H1 e ⟨x, hx, r⟩ => by
    obtain ⟨js, G1, hb, hu⟩ := k x hx
    exact hb B ad H1 s v (I.mono e) r _ fun s' I' _ _ => nx G1 ad H1 s' I' hu
/-- some int -/
def PI (x : Dt) : Prop := ∃ v : Int, x = .int v
def P0 (x : Dt) : Prop := ∃ v : Int, 0 ≤ v ∧ x = .int v
theorem ev_cell {i : Nat} {ns : List Int} {k : Int} (h : EvD T ta G (.scr ns)) (hb : EvD T tb G (.int k)) (hk : 0 ≤ k) : EvP T (tCall (spOf T sp_cell_at) [] E (tCons ta (tCons tb tNil))) G PI :=
  ev_call (ea2 h hb) ⟨ns, k, rfl, hk, fun v => ⟨v, rfl⟩⟩
theorem ev_mixP {i : Nat} {ns : List Int} {k : Int} (h : G[i]? = some (.d (.scr ns))) (h0 : 0 ≤ k) (h1 : k ≤ 10) :
    EvP T (tCall (spOf T sp_mix) [] E (tCons (tCall (spOf T sp_cell_at) [] E2 (tCons (tVar i) (tCons (tC (.int k)) tNil))) (tCons (tC (.int k)) tNil))) G P0 :=
  ev_callAP (eap2 (ev_cell (i := i) (ev_var h) ev_int h0) (EvD.q ev_int)) fun ds ⟨x, y, e, ⟨v, ex⟩, ey⟩ => ⟨v, k, by rw [e, ex, ey], h0, h1, fun u hu => ⟨u, hu, rfl⟩⟩
theorem ev_modP {j : Int} (ha : EvP T ta G PI) (hb : EvD T tb G (.int j)) (hj : 0 < j) : EvP T (tOp rModX ta tb) G (fun x => ∃ v : Int, (0 ≤ v ∧ v < j) ∧ x = .int v) :=
  ev_two ha hb fun B ad H H1 H2 s u v I I2 e1 e2 r1 r2 Q q => by
    obtain ⟨_, ⟨i, rfl⟩, r1⟩ := r1
    cases r1
    cases r2
    exact ⟨i, j, rfl, rfl, hj, q _ H2 (Ex.refl H2) ⟨_, ⟨i % j, ⟨Int.emod_nonneg _ (by omega), Int.emod_lt_of_pos _ hj⟩, rfl⟩, .int _⟩⟩
theorem sg_dpKP {i : Nat} {k : Int} {F : Int → Prop} (hi : G[i]? = some (.own (.dk kk))) (hk : EvD T ta G (.int k)) (hv : EvP T tb G (fun x => ∃ v : Int, F v ∧ x = .int v)) (hz : kk.length < 100000) (n : ∀ v, F v → P.nx (G.set i (.own (.dk (putL kk k v))))) : SG T (sDPut (tVar i) ta tb) G P := fun B ad H s D I nx rt bk ct =>
  hv B ad H s I _ fun w H1 e1 ⟨_, ⟨v, hv, rfl⟩, r1⟩ => by
    obtain ⟨e, _, _, h1⟩ := (I.mono e1).ow i _ hi
    refine ⟨_, e, hk B ad H1 s (I.mono e1) _ fun y H2 e2 r2 => ?_⟩
    cases r1
    cases r2
    have I2 := I.mono (e1.trans e2)
    refine ⟨ad i, _, rfl, .inl ⟨_, .inl k, e2 _ _ h1, rfl, sz_lt (by unfold kvK; rw [List.length_map]; exact hz), rfl⟩, ?_⟩
    rw [putK_kvK]
    exact nx _ ad _ s (I2.put hi (c' := .dk (putL kk k v)) rfl) (n v hv)
end
theorem noDu_encF : ∀ f : Fm, noDu (encF f) = true
  | .one => by rw [encF_one]; simp [noDu, noDuL]
  | .seen ns => by rw [encF_seen]; simp [noDu, noDuL, noDu_dI]
  | .times a b => by rw [encF_times]; simp [noDu, noDuL, noDu_encF a, noDu_encF b]
  | .over a b => by rw [encF_over]; simp [noDu, noDuL, noDu_encF a, noDu_encF b]
  | .sum ns f => by rw [encF_sum]; simp [noDu, noDuL, noDu_dI, noDu_encF f]
theorem noDu_dP (p : Int × Int) : noDu (dP p) = true := by simp [dP, noDu, noDuL]
theorem noDu_dSh (n : Int) (ts bs : List (Int × Int)) : noDu (dSh n ts bs) = true := by
  have h : ∀ ps : List (Int × Int), noDu (lTP ps) = true := fun ps => by rw [lTP, noDu]; exact noDuL_of noDu_dP ps
  unfold dSh
  simp [noDu, noDuL, h]
theorem noDu_dQ (a b : List Int) : noDu (dQ a b) = true := by unfold dQ; simp [noDu, noDuL, noDu_dI]
theorem noDu_dSpec (sz : List Int) (hid : List (List Int)) (tab : List (List (List Int))) : noDu (dSpec sz hid tab) = true := by
  have h : ∀ l : List (List Int), noDu (lLI l) = true := fun l => by rw [lLI, noDu]; exact noDuL_of noDu_lI l
  have h2 : noDu (lTab tab) = true := by rw [lTab, noDu]; exact noDuL_of h tab
  unfold dSpec
  simp [noDu, noDuL, noDu_lI, h, h2]
section
variable {P : Program} {w : World} {K : PySem.W.Frag} {mg : Str → Option Value} {base : Heap}
def sp_law : Spec := fun ds F => ∃ ns, ds = [.scr ns] ∧ F (.bl true)
theorem str_nest : decide (("formula" : Str) = ("nest" : Str)) = false := by decide +kernel
theorem fnok_of {T : Tx} {x qual : Str} {params : Arguments} {body : List Stmt} {scope : Scope} {kws : List (Str × V)} {f : Addr} {fd : FuncData} {N ps : List Str} {k : Nat} {S : Spec} (F : FunD T.K x qual params body scope [] kws f fd) (sc : FnScope N ps scope)
    (len : ∀ ds F, S ds F → ds.length = ps.length)
    (hbody : ∀ (cdv : Value) (A : Around) (outer : List Env) (s : Shared) (H : Hp) (E : XK), Room k (A.deeper (envOfC qual scope s.heap.objs.size f cdv)) → ∀ ds F, S ds F →
      ∃ t, PSs (cxOf CX0 P w T.K mg base N qual scope f cdv A outer s H E).nox body t ∧ SG T t (entG N ds) ⟨fun _ => F .non, F, fun _ => False, fun _ => False⟩) : FnOk P w T.K mg base CX0 (k + 1) f fd ps (spOf T S) := by
  refine F.ok sc (fun vs H Q E h => ?_) fun cdv A outer s H vs Q E hr h => ?_
  · obtain ⟨O, ds, F', _, r, h, _⟩ := h
    rw [r.length]
    exact len ds F' h
  · obtain ⟨O, ds, F', ho, r, h, q⟩ := h
    obtain ⟨t, ht, hs⟩ := hbody cdv A outer s H E hr ds F' h
    refine ⟨t, ht.nox, hs ⟨H, O⟩ _ H _ _ (env_entry N ho r) (fun G' ad' H' s' I' hn => ?_) (fun v H' x e rx hx => q v H' x e rx hx) (fun _ _ _ _ _ z => z.elim) fun _ _ _ _ _ z => z.elim⟩
    exact q _ H' .non I'.ex .non hn
theorem ok_law (S : Su K mg) {fd : FuncData} (F : FunD K d_law.name d_law.qual d_law.params d_law.body d_law.scope (d_law.dvs K) (d_law.kws K) (He.fAd K d_law.at_) fd) : FnOk P w (tx K).K mg base CX0 63 (He.fAd K ("law", none)) fd ["_law_script"] (spOf (tx K) sp_law) := by
  have g_law_worth := ok_law_worth (P := P) (w := w) (base := base) S 59
  have g_formula_of := ok_formula_of (P := P) (w := w) (base := base) S
  have g_init := ok_init (P := P) (w := w) (base := base) S
  have g_law_bent_paper := ok_law_bent_paper (P := P) (w := w) (base := base) S
  have g_law_cell_at := ok_law_cell_at (P := P) (w := w) (base := base) S
  have g_law_drawing := ok_law_drawing (P := P) (w := w) (base := base) S
  have g_law_lowest := ok_law_lowest (P := P) (w := w) (base := base) S
  have g_law_mix := ok_law_mix (P := P) (w := w) (base := base) S
  have g_law_paper := ok_law_paper (P := P) (w := w) (base := base) S
  have g_law_question := ok_law_question (P := P) (w := w) (base := base) S
  have g_law_weights := ok_law_weights (P := P) (w := w) (base := base) S
  have g_law_world := ok_law_world (P := P) (w := w) (base := base) S
  have g_lets := ok_lets (P := P) (w := w) (base := base) S
  refine fnok_of F sc_law ?len ?body
  case len => intro ds F ⟨_, e, _⟩; rw [e]; rfl
  case body =>
    intro cdv' A outer s H E hr ds F ⟨ns, e, hF⟩
    subst e
    refine ⟨_, (pss_cons (ps_set (i := 1) sc_law.nd rfl (Or.inl rfl) (pe_callG (T := tx K) g_law_mix (hr.mono (by decide)) (by rfl) (S.glo 19) (pa_cons (pe_callG (T := tx K) g_law_cell_at (hr.mono (by decide)) (by rfl) (S.glo 18) (pa_cons (pv 0) (pa_cons pe_int pa_nil))) (pa_cons pe_int pa_nil))))
    (pss_cons (ps_set (i := 2) sc_law.nd rfl (Or.inl rfl) (pe_callG (T := tx K) g_law_drawing (hr.mono (by decide)) (by rfl) (S.glo 20) (pa_cons (pe_callG (T := tx K) g_law_mix (hr.mono (by decide)) (by rfl) (S.glo 19) (pa_cons (pe_callG (T := tx K) g_law_cell_at (hr.mono (by decide)) (by rfl) (S.glo 18) (pa_cons (pv 0) (pa_cons pe_int pa_nil))) (pa_cons pe_int pa_nil))) (pa_cons pe_int (pa_cons pe_int pa_nil)))))
    (pss_cons (ps_set (i := 3) sc_law.nd rfl (Or.inl rfl) (pe_callG (T := tx K) g_law_question (hr.mono (by decide)) (by rfl) (S.glo 21) (pa_cons (pe_callG (T := tx K) g_law_mix (hr.mono (by decide)) (by rfl) (S.glo 19) (pa_cons (pe_callG (T := tx K) g_law_cell_at (hr.mono (by decide)) (by rfl) (S.glo 18) (pa_cons (pv 0) (pa_cons pe_int pa_nil))) (pa_cons pe_int pa_nil))) (pa_cons (pe_ix (ix_seqK (K := K)) (pv 2) pe_int (fun _ _ => rfl)) pa_nil))))
    (pss_cons (ps_asg (pe_callG (T := tx K) g_law_paper (hr.mono (by decide)) (by rfl) (S.glo 30) (pa_cons (pv 2) (pa_cons (pv 3) (pa_cons (pe_callG (T := tx K) g_law_mix (hr.mono (by decide)) (by rfl) (S.glo 19) (pa_cons (pe_callG (T := tx K) g_law_cell_at (hr.mono (by decide)) (by rfl) (S.glo 18) (pa_cons (pv 0) (pa_cons pe_int pa_nil))) (pa_cons pe_int pa_nil))) pa_nil)))) (pg_seqK (K := K) (n := 3) rfl (pgs_cons (pg_name (i := 4) sc_law.nd rfl (Or.inl rfl)) (pgs_cons (pg_name (i := 5) sc_law.nd rfl (Or.inl rfl)) (pgs_cons (pg_name (i := 6) sc_law.nd rfl (Or.inl rfl)) pgs_nil)))))
    (pss_cons (ps_if (pt_cmpR (op_eqK (K := K) hr) (pv 4) pe_str (nomark _)) (pss_one (ps_set (i := 5) sc_law.nd rfl (Or.inl rfl) (pe_tup (pa_cons (pe_tup (pa_cons (pv 5) (pa_cons (pe_tup pa_nil) pa_nil))) pa_nil)))) pss_nil)
    (pss_cons (ps_if (pt_cmpR (op_eqK (K := K) hr) (pe_op op_modX (pv 1) pe_int) pe_int (nomark _)) (pss_one (ps_set (i := 5) sc_law.nd rfl (Or.inl rfl) (pe_callG (T := tx K) g_law_bent_paper (hr.mono (by decide)) (by rfl) (S.glo 32) (pa_cons (pv 5) (pa_cons (pe_callG (T := tx K) g_law_mix (hr.mono (by decide)) (by rfl) (S.glo 19) (pa_cons (pe_callG (T := tx K) g_law_cell_at (hr.mono (by decide)) (by rfl) (S.glo 18) (pa_cons (pv 0) (pa_cons pe_int pa_nil))) (pa_cons pe_int pa_nil))) (pa_cons (pe_ix (ix_seqK (K := K)) (pv 2) pe_int (fun _ _ => rfl)) pa_nil)))))) pss_nil)
    (pss_cons (ps_set (i := 7) sc_law.nd rfl (Or.inl rfl) (pe_makeG (T := tx K) S.mkr g_init (hr.mono (by decide)) (by rfl) (S.glo 42) (pa_cons (pe_ix (ix_seqK (K := K)) (pv 2) pe_int (fun _ _ => rfl)) (pa_cons (pe_callTy call_lstX (by rfl) (S.free 47) (by decide +kernel) (pa_cons (pe_ix (ix_seqK (K := K)) (pv 2) pe_int (fun _ _ => rfl)) pa_nil)) (pa_cons (pe_callTy call_lstX (by rfl) (S.free 47) (by decide +kernel) (pa_cons (pe_ix (ix_seqK (K := K)) (pv 2) pe_int (fun _ _ => rfl)) pa_nil)) pa_nil)))))
    (pss_cons (ps_if (pt_cmpR op_notBl (pe_callG (T := tx K) g_lets (hr.mono (by decide)) (by rfl) (S.glo 11) (pa_cons (pv 7) (pa_cons (pv 3) (pa_cons (pv 5) pa_nil)))) pe_bl (nomark _)) (pss_one (ps_ret pe_bl)) pss_nil)
    (pss_cons (ps_set (i := 8) sc_law.nd rfl (Or.inl rfl) (pe_callG (T := tx K) g_formula_of (hr.mono (by decide)) (by rfl) (S.glo 17) (pa_cons (pv 7) (pa_cons (pv 3) (pa_cons (pv 5) pa_nil)))))
    (pss_cons (ps_set (i := 9) sc_law.nd rfl (Or.inl rfl) (pe_callG (T := tx K) g_law_world (hr.mono (by decide)) (by rfl) (S.glo 35) (pa_cons (pv 2) (pa_cons (pe_callG (T := tx K) g_law_mix (hr.mono (by decide)) (by rfl) (S.glo 19) (pa_cons (pe_callG (T := tx K) g_law_cell_at (hr.mono (by decide)) (by rfl) (S.glo 18) (pa_cons (pv 0) (pa_cons pe_int pa_nil))) (pa_cons pe_int pa_nil))) pa_nil))))
    (pss_cons (ps_set (i := 10) sc_law.nd rfl (Or.inr rfl) pe_dnewK)
    (pss_cons (ps_for PassesOwn.never rfl (pi_range1 (by rfl) (S.free 44) (pa_cons (pe_ix (ix_seqK (K := K)) (pv 2) pe_int (fun _ _ => rfl)) pa_nil)) (pg_name (i := 11) sc_law.nd rfl (Or.inl rfl)) (pss_one (ps_dput (hu_of hr) (pv 10) (pv 11) (pe_op op_modX (pe_callG (T := tx K) g_law_cell_at (hr.mono (by decide)) (by rfl) (S.glo 18) (pa_cons (pv 0) (pa_cons (pe_op (op_addK (K := K)) pe_int (pv 11)) pa_nil))) (pe_ix (ix_seqK (K := K)) (pe_ix (ix_seqK (K := K)) (pv 9) pe_int (fun _ _ => rfl)) (pv 11) (fun _ _ => rfl))) rfl)))
    (pss_cons (ps_set (i := 12) sc_law.nd rfl (Or.inl rfl) (pe_callG (T := tx K) g_law_weights (hr.mono (by decide)) (by rfl) (S.glo 38) (pa_cons (pv 2) (pa_cons (pv 9) (pa_cons (pe_ix (ix_seqK (K := K)) (pv 3) pe_int (fun _ _ => rfl)) pa_nil)))))
    (pss_cons (ps_set (i := 13) sc_law.nd rfl (Or.inl rfl) pe_int)
    (pss_cons (ps_set (i := 14) sc_law.nd rfl (Or.inl rfl) pe_int)
    (pss_cons (ps_lock (ps_for PassesOwn.never rfl (pi_keys (pv 12)) (pg_name (i := 15) sc_law.nd rfl (Or.inr rfl)) (pss_one (ps_if (pt_cmpR (op_eqK (K := K) hr) (pe_lc (own := [("_law_name", 11)]) rfl sc_law.nd (pi_seq (pe_ix (ix_seqK (K := K)) (pv 3) pe_int (fun _ _ => rfl))) (blkOk_by (own := [("_law_name", 11)]) (N := N_law) (sc := defScope (top 59)) (by decide +kernel)) (fun _ _ _ _ _ => (pg_name (i := 11) sc_law.nd rfl (by first | exact Or.inl rfl | exact Or.inr rfl))) (fun _ _ _ _ _ => (pts_one (pt_cmpR (op_neK (K := K) hr) (pe_ix (ix_seqK (K := K)) (pv 15) (pv 11) (fun _ _ => rfl)) (pe_dget (hu_of hr) (pv 10) (pv 11) (fun _ _ => rfl)) (nomark _)))) (fun _ _ _ _ _ => (pv 11))) (pe_lst pa_nil) (nomark _)) (pss_cons (ps_set (i := 14) sc_law.nd rfl (Or.inl rfl) (pe_op (op_addK (K := K)) (pv 14) (pe_dget (hu_of hr) (pv 12) (pv 15) (fun _ _ => rfl))))
    (pss_one (ps_if (pt_cmpR (op_eqK (K := K) hr) (pe_lc (own := [("_law_name", 11)]) rfl sc_law.nd (pi_seq (pe_ix (ix_seqK (K := K)) (pv 3) pe_int (fun _ _ => rfl))) (blkOk_by (own := [("_law_name", 11)]) (N := N_law) (sc := defScope (top 59)) (by decide +kernel)) (fun _ _ _ _ _ => (pg_name (i := 11) sc_law.nd rfl (by first | exact Or.inl rfl | exact Or.inr rfl))) (fun _ _ _ _ _ => (pts_one (pt_cmpR (op_neK (K := K) hr) (pe_ix (ix_seqK (K := K)) (pv 15) (pv 11) (fun _ _ => rfl)) (pe_dget (hu_of hr) (pv 10) (pv 11) (fun _ _ => rfl)) (nomark _)))) (fun _ _ _ _ _ => (pv 11))) (pe_lst pa_nil) (nomark _)) (pss_one (ps_set (i := 13) sc_law.nd rfl (Or.inl rfl) (pe_op (op_addK (K := K)) (pv 13) (pe_dget (hu_of hr) (pv 12) (pv 15) (fun _ _ => rfl))))) pss_nil))) pss_nil))))
    (pss_one (ps_ret (pe_cmpR (op_eqK (K := K) hr) (pe_callG (T := tx K) g_law_worth (hr.mono (by decide)) (by rfl) (S.glo 40) (pa_cons (pe_ix (ix_seqK (K := K)) (pv 9) pe_int (fun _ _ => rfl)) (pa_cons (pe_callG (T := tx K) g_law_weights (hr.mono (by decide)) (by rfl) (S.glo 38) (pa_cons (pv 2) (pa_cons (pv 9) (pa_cons (pe_tup pa_nil) pa_nil)))) (pa_cons (pv 8) (pa_cons (pv 10) pa_nil))))) (pe_callG (T := tx K) g_law_lowest (hr.mono (by decide)) (by rfl) (S.glo 39) (pa_cons (pv 13) (pa_cons (pv 14) pa_nil))) (nomark _)))))))))))))))))))), ?_⟩
    refine sq_asgP (ev_mixP (i := 0) rfl (by decide) (by decide)) ?_
    rintro _ ⟨hd, _, rfl⟩
    refine sq_asgP (F := fun x => ∃ n ts bs, x = dSh n ts bs ∧ GS n ts bs) (ev_callAP (eap3 (ev_mixP (i := 0) rfl (by decide) (by decide)) (EvD.q ev_int) (EvD.q ev_int)) fun ds ⟨x, y, z, e, ⟨v, _, ex⟩, ey, ez⟩ => ⟨v, by rw [e, ex, ey, ez], fun n ts bs h => ⟨n, ts, bs, rfl, h⟩⟩) ?_
    rintro _ ⟨n, ts, bs, rfl, hg⟩
    have n1 := hg.n1
    have n4 := hg.n4
    refine sq_asgP (F := fun x => ∃ ones asked, x = dQ ones asked ∧ GQ n ones asked) (ev_callAP (eap2 (ev_mixP (i := 0) rfl (by decide) (by decide)) (EvD.q (ev_ixN (j := 0) (x := .int n) (EvD.sL (ev_var rfl)) ev_int rfl))) fun ds ⟨x, y, e, ⟨v, _, ex⟩, ey⟩ => ⟨v, n, by rw [e, ex, ey], n1, n4, fun ones asked h => ⟨ones, asked, rfl, h⟩⟩) ?_
    rintro _ ⟨ones, asked, rfl, hq⟩
    refine sg_seq (fun G' => ∃ wd X z, ((wd = ("nest" : Str) ∧ ∃ l : List Int, X = dI l ∧ l.length ≤ 4) ∨ (wd = ("formula" : Str) ∧ ∃ p, X = dPap p ∧ SP p)) ∧ G' = [.d (.scr ns), .d (.int hd), .d (dSh n ts bs), .d (dQ ones asked), .d (.str wd), .d X, .d z, .un, .un, .un, .un, .un, .un, .un, .un, .un]) (sg_asgPB (ev_callAP (T := tx K) (F := fun x => (∃ l st, x = .lst [.str ("nest" : Str), dI l, dI st] ∧ l.length ≤ 4) ∨ ∃ p, x = .lst [.str ("formula" : Str), dPap p, dI []] ∧ SP p) (eap3 (EvD.q (ev_var rfl)) (EvD.q (ev_var rfl)) (ev_mixP (i := 0) rfl (by decide) (by decide))) fun ds ⟨x, y, z, e, ex, ey, v, _, ez⟩ => ⟨n, ts, bs, ones, asked, v, by rw [e, ex, ey, ez], hg, hq, fun l st h => .inl ⟨l, st, rfl, h⟩, fun p h => .inr ⟨p, rfl, h⟩⟩) fun x hx => ?_) ?_
    · rcases hx with ⟨l, st, rfl, h⟩ | ⟨p, rfl, h⟩
      · exact ⟨_, _, bd_3L, _, _, _, .inl ⟨rfl, l, rfl, h⟩, rfl⟩
      · exact ⟨_, _, bd_3L, _, _, _, .inr ⟨rfl, p, rfl, h⟩, rfl⟩
    rintro G' ⟨wd, X, z, hX, e2⟩
    subst e2
    refine sq_when (fun G' => ∃ p, SP p ∧ G' = [.d (.scr ns), .d (.int hd), .d (dSh n ts bs), .d (dQ ones asked), .d (.str wd), .d (dPap p), .d z, .un, .un, .un, .un, .un, .un, .un, .un, .un]) (b := decide (wd = ("nest" : Str))) (by walk_at "ev") (fun h => ?_) (fun h => ?_) ?_
    · have hw := of_decide_eq_true h
      rcases hX with ⟨_, l, rfl, hl⟩ | ⟨e, _⟩
      · exact sg_asgB (x := dPap [(l, [])]) (ev_tup (ea1 (ev_tup (ea2 (ev_var rfl) (ev_tup ea_nil (by simp))) (by simp))) (by simp)) bd_name ⟨[(l, [])], ⟨by simp, fun r hr => by rw [List.mem_singleton.mp hr]; exact ⟨hl, by simp, fun c hc => nomatch hc⟩⟩, rfl⟩
      · rw [hw] at e
        exact absurd e.symm (of_decide_eq_false str_nest)
    · rcases hX with ⟨e, _⟩ | ⟨_, p, rfl, hp⟩
      · exact absurd e (of_decide_eq_false h)
      · exact ⟨p, hp, rfl⟩
    rintro G' ⟨p, hp, e2⟩
    subst e2
    refine sq_when (fun G' => ∃ p, GPap p ∧ G' = [.d (.scr ns), .d (.int hd), .d (dSh n ts bs), .d (dQ ones asked), .d (.str wd), .d (dPap p), .d z, .un, .un, .un, .un, .un, .un, .un, .un, .un]) (b := decide (hd % 4 = 1)) (by walk_at "ev") (fun h => ?_) (fun h => ⟨p, ⟨by have := hp.1; omega, fun r hr c hc => Nat.le_trans ((hp.2 r hr).2.2 c hc) (by decide)⟩, rfl⟩) ?_
    · refine sg_asgP (F := fun x => ∃ p, x = dPap p ∧ GPap p) (ev_callAP (eap3 (EvD.q (ev_var rfl)) (ev_mixP (i := 0) rfl (by decide) (by decide)) (EvD.q (ev_ixN (j := 0) (x := .int n) (EvD.sL (ev_var rfl)) ev_int rfl))) fun ds ⟨x, y, z, e, ex, ⟨v, _, ey⟩, ez⟩ => ⟨p, v, n, by rw [e, ex, ey, ez], n1, n4, hp, fun p' h => ⟨p', rfl, h⟩⟩) ?_
      rintro _ ⟨p', rfl, h'⟩
      exact ⟨p', h', rfl⟩
    rintro G' ⟨paper, hp, e2⟩
    subst e2
    have hgd : GD n (sortP ts) (sortP bs) := ⟨n1, by omega, hg.t.sort, hg.b.sort, by rw [len_sortP]; have := hg.b4; omega⟩
    refine sq_asg (x := .drw n (sortP ts) (sortP bs)) (ev_make (S := sp_init) (ea_cons (ev_ixN (j := 0) (x := .int n) (EvD.sL (ev_var rfl)) ev_int rfl) (ea2 (EvN.d (en_lstOf (EvD.sL (ev_ixN (j := 1) (x := lTP ts) (EvD.sL (ev_var rfl)) ev_int rfl)))) (EvN.d (en_lstOf (EvD.sL (ev_ixN (j := 2) (x := lTP bs) (EvD.sL (ev_var rfl)) ev_int rfl)))))) ⟨n, ts, bs, rfl, hg.d, rfl⟩) ?_
    refine sq_guard (b := !decide (letsF n (sortP ts) (sortP bs) ones asked paper = true)) (et_test (ev_notB (ev_callD (T := tx K) (x := .bl (letsF n (sortP ts) (sortP bs) ones asked paper)) (ea_cons (ev_var rfl) (ea2 (ev_var rfl) (ev_var rfl))) ⟨n, _, _, ones, asked, paper, rfl, hgd, hq, hp, rfl⟩) ev_bl)) (fun _ => sg_ret ev_bl hF) fun h => ?_
    have hl : letsF n (sortP ts) (sortP bs) ones asked paper = true := by simpa using h
    refine sq_asg (x := encF (formF n (sortP ts) (sortP bs) ones asked paper)) (ev_callD (T := tx K) (ea_cons (ev_var rfl) (ea2 (ev_var rfl) (ev_var rfl))) ⟨n, _, _, ones, asked, paper, rfl, hgd, hq, hp, hl, rfl⟩) ?_
    refine sq_asgP (F := fun x => ∃ sz hid tab, x = dSpec sz hid tab ∧ GWorld n ts bs sz hid tab) (ev_callAP (eap2 (EvD.q (ev_var rfl)) (ev_mixP (i := 0) rfl (by decide) (by decide))) fun ds ⟨x, y, e, ex, v, _, ey⟩ => ⟨n, ts, bs, v, by rw [e, ex, ey], hg, fun sz hid tab h => ⟨sz, hid, tab, rfl, h⟩⟩) ?_
    rintro _ ⟨sz, hid, tab, rfl, hw⟩
    have hsl := hw.szl
    refine sg_wk (G' := [.d (.scr ns), .un, .d (dSh n ts bs), .d (dQ ones asked), .un, .un, .un, .un, .d (encF (formF n (sortP ts) (sortP bs) ones asked paper)), .d (dSpec sz hid tab), .un, .un, .un, .un, .un, .un]) (.cons (.rfl _) (.cons (.un _) (.cons (.rfl _) (.cons (.rfl _) (.cons (.un _) (.cons (.un _) (.cons (.un _) (.cons (.un _) (.cons (.rfl _) (.cons (.rfl _) (.cons (.rfl _) (.cons (.rfl _) (.cons (.rfl _) (.cons (.rfl _) (.cons (.rfl _) (.cons (.rfl _) .nil)))))))))))))))) ?_
    generalize hform : formF n (sortP ts) (sortP bs) ones asked paper = fm
    refine sq_asgC ec_newK (lt_of_some rfl) ?_
    refine sq_for (ys := List.range n.toNat) (enc := fun i => .int (i : Nat)) (ei_rng (ea1 (ev_ixN (j := 0) (x := .int n) (EvD.sL (ev_var rfl)) ev_int rfl)) (by omega) (by omega)) (fun pre G' => ∃ kvs : List (Int × Int), (∀ j : Int, 0 ≤ j → j < (pre.length : Nat) → ∃ x, lkp kvs j = some x ∧ 0 ≤ x ∧ x < szAt sz j) ∧ kvs.length ≤ pre.length ∧ G' = [.d (.scr ns), .un, .d (dSh n ts bs), .d (dQ ones asked), .un, .un, .un, .un, .d (encF fm), .d (dSpec sz hid tab), .own (.dk kvs), .un, .un, .un, .un, .un]) (Wk.refl _) ⟨[], fun j h0 h1 => by simp at h1; omega, Nat.le_refl _, rfl⟩ ?_ ?_
    · rintro pre k post G' e ⟨kvs, hk, hkl, e2⟩
      subst e2
      have hkn := rg_mid e
      have ek := rg_at e
      have hsz : sz.getD k 0 = 2 ∨ sz.getD k 0 = 3 := hw.szv _ (getD_mem (by omega))
      refine ⟨_, _, bd_name, ?_⟩
      refine sg_dpKP (k := (k : Nat)) (F := fun v => 0 ≤ v ∧ v < sz.getD k 0) rfl (ev_var rfl) (ev_modP (ev_cell (i := 0) (ev_var rfl) (ev_add ev_int (ev_var rfl)) (by omega)) (ev_ixI (EvD.sL (ev_ixN (j := 0) (x := lI sz) (EvD.sL (ev_var rfl)) ev_int rfl)) (ev_var rfl) (by omega)) (by omega)) (by omega) fun v hv => ⟨[.d (.scr ns), .un, .d (dSh n ts bs), .d (dQ ones asked), .un, .un, .un, .un, .d (encF fm), .d (dSpec sz hid tab), .own (.dk (putL kvs (k : Nat) v)), .un, .un, .un, .un, .un], by walk_at "wk", putL kvs (k : Nat) v, fun j h0 h1 => ?_, ?_, rfl⟩
      · rw [lkp_put]
        by_cases q : j = (k : Nat)
        · rw [if_pos q]
          refine ⟨v, rfl, hv.1, ?_⟩
          unfold szAt
          rw [q, Int.toNat_natCast]
          exact hv.2
        · rw [if_neg q]
          rw [List.length_append] at h1
          exact hk j h0 (by simp at h1; omega)
      · rw [List.length_append]
        unfold putL
        split
        · rw [List.length_map]; simp; omega
        · rw [List.length_append]; simp; omega
    rintro G' ⟨kvs, hk, hkl, e2⟩
    subst e2
    rw [rg_end] at hk hkl
    have henv : EnvR n kvs (fun j => (lkp kvs j).getD 0) := fun j h0 h1 => by
      obtain ⟨x, hx, _⟩ := hk j h0 (by omega)
      show lkp kvs j = some ((lkp kvs j).getD 0)
      rw [hx]
      rfl
    have hin : ∀ j, 0 ≤ j → j < n → 0 ≤ (lkp kvs j).getD 0 ∧ (lkp kvs j).getD 0 < szAt sz j := fun j h0 h1 => by
      obtain ⟨x, hx, h2⟩ := hk j h0 (by omega)
      rw [hx]
      exact h2
    have PL := plain_law (e := fun j => (lkp kvs j).getD 0) hg hq hl hw hin
    generalize hee : (fun j => (lkp kvs j).getD 0) = ee at *
    have hso := (isSet_iff.mp hq.so).1
    have hsa := (isSet_iff.mp hq.sa).1
    have lo := set_len hq.so
    have la := set_len hq.sa
    refine sq_asg (x := .du (weightsF n ts bs sz hid tab ones)) (ev_callD (T := tx K) (ea_cons (ev_var rfl) (ea2 (ev_var rfl) (ev_ixN (j := 0) (x := dI ones) (EvD.sT (ev_var rfl)) ev_int rfl))) ⟨n, ts, bs, sz, hid, tab, ones, rfl, hg, hw, rfl⟩) ?_
    have hnd := weights_nd (n := n) (ts := ts) (bs := bs) (sz := sz) (hid := hid) (tab := tab) (ones := ones)
    have hki : ∀ y ∈ weightsF n ts bs sz hid tab ones, y.1.length = n.toNat := fun y hy => by rw [(weights_in hy).1]; exact hsl
    have PL1 := PL.pos
    have PL2 := PL.big
    have PL3 := PL.nn
    have PL4 := PL.val
    have PL5 := PL.kt
    have PL6 := PL.dp
    rw [hform] at PL4 PL6
    clear PL
    generalize hkt : weightsF n ts bs sz hid tab ones = kt at *
    refine sq_asg (x := .int 0) ev_int ?_
    refine sq_asg (x := .int 0) ev_int ?_
    refine sq_keys (i := 12) (kvs := kt) rfl (fun y hy => ?_) (fun pre G' => G' = [.d (.scr ns), .un, .d (dSh n ts bs), .d (dQ ones asked), .un, .un, .un, .un, .d (encF fm), .d (dSpec sz hid tab), .own (.dk kvs), .un, .d (.dt kt), .d (.int (top2F pre ones asked ee)), .d (.int (topF pre ones ee)), .un]) rfl ?_ ?_
    · have hy : y ∈ [Sl.d (.scr ns), .un, .d (dSh n ts bs), .d (dQ ones asked), .un, .un, .un, .un, .d (encF fm), .d (dSpec sz hid tab), .own (.dk kvs), .un, .d (.dt kt), .d (.int 0), .d (.int 0), .un] := hy
      simp only [List.mem_cons, List.not_mem_nil, or_false] at hy
      rcases hy with h | h | h | h | h | h | h | h | h | h | h | h | h | h | h | h <;> subst h <;> first | rfl | exact noDu_dSh _ _ _ | exact noDu_dQ _ _ | exact noDu_encF _ | exact noDu_dSpec _ _ _
    · intro pre y post G' e1 e2
      subst e2
      have hym : y ∈ kt := mem_mid e1
      have hyl := hki y hym
      have etop : topF (pre ++ [y]) ones ee = if agF ones ee y.1 = true then topF pre ones ee + y.2 else topF pre ones ee := by unfold topF; rw [List.foldl_append]; rfl
      have etop2 : top2F (pre ++ [y]) ones asked ee = if agF ones ee y.1 = true then (if agF asked ee y.1 = true then top2F pre ones asked ee + y.2 else top2F pre ones asked ee) else top2F pre ones asked ee := by unfold top2F; rw [List.foldl_append]; rfl
      rw [etop, etop2]
      generalize topF pre ones ee = t1
      generalize top2F pre ones asked ee = t2
      refine ⟨_, _, bd_name, ?_⟩
      refine sg_if (b := agF ones ee y.1) (et_test (ev_eqL (ns := ones.filter fun j => !decide (y.1.getD j.toNat 0 = ee j)) (ms := []) (EvN.d (en_lc1 (ys := ones) (enc := .int) (fun j => !decide (y.1.getD j.toNat 0 = ee j)) .int (ei_tup (ev_ixN (j := 0) (x := dI ones) (EvD.sT (ev_var rfl)) ev_int rfl)).j (by omega) rfl fun j hj => ⟨et_test (ev_ne (ev_ixZI (EvD.sT (ev_var rfl)) (ev_var rfl) (hso j hj).1 (by have := hso j hj; omega)) (ev_dgK (edk_own rfl) (ev_var rfl) (henv j (hso j hj).1 (hso j hj).2))), fun _ => ev_var rfl⟩)) (EvN.d (en_lst ea_nil (by simp))))) (fun hc => ?_) fun hc => ?_
      · rw [if_pos hc, if_pos hc]
        refine sq_asg (x := .int (t1 + y.2)) (ev_add (ev_var rfl) (ev_dgT (edt rfl) (ev_var rfl) (lkp_mem hnd hym))) ?_
        refine sg_if (b := agF asked ee y.1) (et_test (ev_eqL (ns := asked.filter fun j => !decide (y.1.getD j.toNat 0 = ee j)) (ms := []) (EvN.d (en_lc1 (ys := asked) (enc := .int) (fun j => !decide (y.1.getD j.toNat 0 = ee j)) .int (ei_tup (ev_ixN (j := 1) (x := dI asked) (EvD.sT (ev_var rfl)) ev_int rfl)).j (by omega) rfl fun j hj => ⟨et_test (ev_ne (ev_ixZI (EvD.sT (ev_var rfl)) (ev_var rfl) (hsa j hj).1 (by have := hsa j hj; omega)) (ev_dgK (edk_own rfl) (ev_var rfl) (henv j (hsa j hj).1 (hsa j hj).2))), fun _ => ev_var rfl⟩)) (EvN.d (en_lst ea_nil (by simp))))) (fun hc2 => ?_) fun hc2 => ?_
        · rw [if_pos hc2]
          refine sg_asgB (x := .int (t2 + y.2)) (ev_add (ev_var rfl) (ev_dgT (edt rfl) (ev_var rfl) (lkp_mem hnd hym))) bd_name ⟨_, ?wk, rfl⟩
          case wk => walk_at "wk"
        · rw [if_neg (by rw [hc2]; decide)]
          refine sg_next ⟨_, ?wk, rfl⟩
          case wk => walk_at "wk"
      · rw [if_neg (by rw [hc]; decide), if_neg (by rw [hc]; decide)]
        refine sg_next ⟨_, ?wk, rfl⟩
        case wk => walk_at "wk"
    intro G' e2
    subst e2
    generalize top2F kt ones asked ee = t2 at *
    generalize topF kt ones ee = t1 at *
    refine sg_wk (G' := [.d (.scr ns), .un, .d (dSh n ts bs), .d (dQ ones asked), .un, .un, .un, .un, .d (encF fm), .d (dSpec sz hid tab), .d (.dk kvs), .un, .d (.dt kt), .d (.int t2), .d (.int t1), .un]) (by walk_at "wk") ?_
    have hb : Bt 8000 t1 := Bt.mono (a := 3000) (Bt.of (Int.le_of_lt PL1) PL2) (by decide)
    refine sg_ret (ev_eqT (ns := [(mkRat t2 t1.toNat).num, ((mkRat t2 t1.toNat).den : Int)]) (ms := [(lowF t2 t1).1, (lowF t2 t1).2]) (ev_callD (T := tx K) (ea_cons (ev_ixN (j := 0) (x := lI sz) (EvD.sL (ev_var rfl)) ev_int rfl) (ea_cons (ev_callD (T := tx K) (x := .du (weightsF n ts bs sz hid tab [])) (ea_cons (ev_var rfl) (ea2 (ev_var rfl) (ev_tup ea_nil (by simp)))) ⟨n, ts, bs, sz, hid, tab, [], rfl, hg, hw, rfl⟩) (ea2 (ev_var rfl) (ev_var rfl)))) ⟨n, sz, _, fm, ee, kvs, _, rfl, PL6, hsl, fun s hs => by have := hw.szv s hs; omega, PL5, henv, by omega, PL4, rfl⟩) (ev_callD (T := tx K) (ea2 (ev_var rfl) (ev_var rfl)) ⟨t2, t1, rfl, PL3, PL1, hb, rfl⟩)) ?_
    rw [low_mk PL1]
    simpa using hF
end
end W3

set_option maxHeartbeats 0
namespace W3
open PySem PySem.Spec PyProof.Rows L2
def names0 : List PySem.Str := ["_wall", "DoingError", "NoCount", "NoTie", "NoBow", "NoName", "NoSets", "BadPaper", "MOST_NAMES", "MOST_BOWS", "is_set", "look_at_set", "pairs_of", "Drawing", "look_at_question", "every_name", "without", "wanted", "lump_with", "is_closed"]
def names1 : List PySem.Str := ["after_cut", "leads_to", "lets", "product", "summed", "first_formula", "lump_formula", "shares_of", "formula_of", "_law_cell_at", "_law_mix", "_law_drawing", "_law_question", "_law_upper", "_law_lumps", "_law_wanted", "_law_lump_with", "_law_is_set", "_law_cut", "_law_lets"]
def names2 : List PySem.Str := ["_law_closed_sets", "_law_cuts", "_law_paper", "_law_bent_set", "_law_bent_paper", "_law_eighths", "_law_heads", "_law_world", "_law_share", "_law_handed", "_law_ways", "_law_row_at", "_law_weights", "_law_lowest", "_law_worth"]
def names : List PySem.Str := names0 ++ names1 ++ names2
abbrev RowL : PySem.W.OpenRow := PySem.W.OpenLaw.row PySem.Challenge.rw_doingbook_k44_whole_papers_are_right
abbrev hkL : PySem.W.Hook := He.hookD 5 fa fn
def obL (s : PySem.W.SharedT) : He.AlD := He.obsDG 5 fa fn (HandSHeadRun.getT s)
theorem obL_eq (s : PySem.W.SharedT) : obL s = hkL.obs s.abs := He.obsDG_eq (HandSHeadRun.getT_eq s)
theorem runL (w : World) : HandSHeadRun.RunEq RowL (PySem.W.view RowL.prog [59]) hkL obL 30000 names w := by
  intro os
  kernel_rfl
theorem facts {P : Program} {w : World} {K : PySem.W.Frag} {h : Heap} {mg : Str → Option Value} {f : Addr} (X : K.In h) (G : h.Ns mainGlobals mg) (hfa : mg ("law" : Str) = some (.ref f)) (c : He.SaysD W3.fa W3.fn K) :
    ∃ fd : FuncData, (∀ (s : Shared) (v : Value), BindsTo s fd ⟨[v], []⟩ [("_law_script", v)]) ∧ ∀ base : Heap, K.In base → base.Ns mainGlobals mg → FnOk P w K mg base CX0 63 f fd ["_law_script"] (spOf (tx K) sp_law) := by
  have S : Su K mg := ⟨h, X, G, c⟩
  obtain ⟨fd, F⟩ := S.def_ 46 (d := d_law)
  have e := hfa.symm.trans (He.glo_ok X G (c.fact 41 (f := .glo "law") rfl))
  cases e
  have b := FunD.bindsA (ps := ["_law_script"]) F fun _ _ _ _ _ _ us hl => match us, hl with | [_], _ => rfl
  exact ⟨fd, fun s v => b s [v] rfl, fun base _ _ => ok_law S F⟩
theorem wo_no (H : Hp) : wo H (fun _ => False) = H := by
  funext a
  rw [wo_at (fun h : False => h)]
end W3
open PySem PySem.W PySem.Calls PyProof.Rows
theorem PySem.Challenge.cw_doingbook_k44_whole_papers_are_right_holds : PySem.Challenge.rw_doingbook_k44_whole_papers_are_right.Holds := by
  w_on; o_law
  refine HandSHeadRun.head_any (r := OpenLaw.row PySem.Challenge.rw_doingbook_k44_whole_papers_are_right) (q := view (OpenLaw.row PySem.Challenge.rw_doingbook_k44_whole_papers_are_right).prog [59]) (H := W3.hkL) (ob := W3.obL) (M := 30000) (loose := W3.names) (d := HandSHeadRun.topDef (OpenLaw.row PySem.Challenge.rw_doingbook_k44_whole_papers_are_right).prog 59) (kwd := []) W3.obL_eq
    (by kernel_rfl) (fun s => by kernel_rfl) W3.runL (by kernel_rfl) (by kernel_rfl) (by kernel_rfl) (by rfl) (by first | assumption | decide +kernel) (by decide +kernel) ⟨rfl, rfl, rfl, rfl, rfl, by decide +kernel⟩ ?hw ?hc
  case hw => w_witness2
  case hc =>
    refine L2.walk_ofE (l := PySem.Challenge.rw_doingbook_k44_whole_papers_are_right) (n := 63) (k := 63) (x := "_law_script") (CX := L2.CX0) rfl (by decide) (by kernel_rfl) ⟨rfl, by decide, by decide⟩ ?F (fun _ _ _ _ z => z)
    intro w mg fa h Y G hmg0
    obtain ⟨K, KX, c⟩ := Y
    have hmg : mg ("law" : PySem.Str) = some (.ref fa) := by
      have e : (HandSHeadRun.topDef (OpenLaw.row PySem.Challenge.rw_doingbook_k44_whole_papers_are_right).prog 59).name = ("law" : PySem.Str) := by kernel_rfl
      rw [← e]
      exact hmg0
    obtain ⟨fd, hb, hF⟩ := W3.facts (P := (PySem.Challenge.rw_doingbook_k44_whole_papers_are_right).prog) (w := w) KX G hmg c
    exact ⟨K, fd, W3.spOf (W3.tx K) W3.sp_law, KX, hb, fun H a ns hl _ hS => ⟨fun _ => False, [.scr ns], fun x => x = .bl true, fun _ z => z.elim, .cons (.scr (by rw [W3.wo_no]; exact hS)) .nil, ⟨ns, rfl, rfl⟩, fun v H2 x _ r hx => by subst hx; cases r; rfl⟩, hF⟩

