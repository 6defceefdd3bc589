import PyProof.Rows.All
import PySem.Challenge.RW_oncehome_k06_four_hundred_years_of_dates
import HandS.ForMost
import HandS.IsInst
import HandS.Conv
import HandS.Flow
import HandS.SortInts
import HandS.Strs
import HandS.SetFor
import KE.GoesMore
set_option Elab.async false
set_option linter.all false
set_option maxRecDepth 100000
/-! PL1: plain data of the program, how values stand for them in a heap, environments. -/
namespace PL
open PySem PySem.Spec PyProof.Rows L2

inductive D where
  | non
  | bl (b : Bool)
  | int (i : Int)
  | str (x : Str)
  | tup (xs : List D)
  | lst (xs : List D)
  | st

/-- a tuple that is read: tracked and not hidden, or of the written part whatever the heap -/
def Tp (K : PySem.W.Frag) (O : Addr → Prop) (H : Hp) (a : Addr) (xs : List V) : Prop :=
  (¬ O a ∧ H a = some (.tup xs)) ∨ ∀ H', SqT K H' a xs
theorem Tp.sq {K : PySem.W.Frag} {O : Addr → Prop} {H : Hp} {a : Addr} {xs : List V} (t : Tp K O H a xs) : SqT K H a xs := by
  rcases t with ⟨_, h⟩ | h
  · exact SqT.of h
  · exact h H

section
variable (K : PySem.W.Frag) (O : Addr → Prop) (sa : Addr × Addr) (H : Hp)
mutual
/-- the value v stands for the data d: its lists are not hidden -/
def Dq : V → D → Prop
  | v, .non => v = .non
  | v, .bl b => v = .bl b
  | v, .int i => v = .int i
  | v, .str x => v = .str x
  | v, .st => v = .ref sa.1
  | v, .tup ds => ∃ a xs, v = .ref a ∧ Tp K O H a xs ∧ DqAll xs ds
  | v, .lst ds => ∃ a xs, v = .ref a ∧ ¬ O a ∧ H a = some (.lst xs) ∧ DqAll xs ds
def DqAll : List V → List D → Prop
  | [], [] => True
  | x :: xs, d :: ds => Dq x d ∧ DqAll xs ds
  | _, _ => False
end
end

section
variable {K : PySem.W.Frag} {O O' : Addr → Prop} {sa : Addr × Addr} {H H' : Hp}
mutual
theorem Dq.tr (h : ∀ a o, ¬ O a → H a = some o → ¬ O' a ∧ H' a = some o) : ∀ {d : D} {v : V}, Dq K O sa H v d → Dq K O' sa H' v d
  | .non, _, q => q
  | .bl _, _, q => q
  | .int _, _, q => q
  | .str _, _, q => q
  | .st, _, q => q
  | .tup ds, _, q => by
    obtain ⟨a, xs, e, t, q⟩ := q
    refine ⟨a, xs, e, ?_, DqAll.tr h q⟩
    rcases t with ⟨n, t⟩ | t
    · exact .inl (h a _ n t)
    · exact .inr t
  | .lst ds, _, q => by
    obtain ⟨a, xs, e, n, t, q⟩ := q
    exact ⟨a, xs, e, (h a _ n t).1, (h a _ n t).2, DqAll.tr h q⟩
theorem DqAll.tr (h : ∀ a o, ¬ O a → H a = some o → ¬ O' a ∧ H' a = some o) : ∀ {ds : List D} {vs : List V}, DqAll K O sa H vs ds → DqAll K O' sa H' vs ds
  | [], [], _ => trivial
  | d :: ds, v :: vs, q => ⟨Dq.tr h q.1, DqAll.tr h q.2⟩
  | [], _ :: _, q => q.elim
  | _ :: _, [], q => q.elim
end
theorem DqAll.length : ∀ {ds : List D} {vs : List V}, DqAll K O sa H vs ds → vs.length = ds.length
  | [], [], _ => rfl
  | d :: ds, v :: vs, q => congrArg (· + 1) (DqAll.length q.2)
  | [], _ :: _, q => q.elim
  | _ :: _, [], q => q.elim
theorem DqAll.get : ∀ {ds : List D} {vs : List V} {i : Nat} {d : D}, DqAll K O sa H vs ds → ds[i]? = some d → ∃ v, vs[i]? = some v ∧ Dq K O sa H v d
  | [], [], i, d, _, e => by simp at e
  | d :: ds, v :: vs, 0, d', q, e => by simp at e; subst e; exact ⟨v, rfl, q.1⟩
  | d :: ds, v :: vs, i + 1, d', q, e => by
    obtain ⟨u, h, r⟩ := DqAll.get (i := i) q.2 (by simpa using e)
    exact ⟨u, by simpa using h, r⟩
  | [], _ :: _, _, _, q, _ => q.elim
  | _ :: _, [], _, _, q, _ => q.elim
theorem DqAll.getV : ∀ {ds : List D} {vs : List V} {i : Nat} {v : V}, DqAll K O sa H vs ds → vs[i]? = some v → ∃ d, ds[i]? = some d ∧ Dq K O sa H v d
  | [], [], i, d, _, e => by simp at e
  | d :: ds, v :: vs, 0, d', q, e => by simp at e; subst e; exact ⟨d, rfl, q.1⟩
  | d :: ds, v :: vs, i + 1, d', q, e => by
    obtain ⟨u, h, r⟩ := DqAll.getV (i := i) q.2 (by simpa using e)
    exact ⟨u, by simpa using h, r⟩
  | [], _ :: _, _, _, q, _ => q.elim
  | _ :: _, [], _, _, q, _ => q.elim
theorem DqAll.append : ∀ {ds es : List D} {vs ws : List V}, DqAll K O sa H vs ds → DqAll K O sa H ws es → DqAll K O sa H (vs ++ ws) (ds ++ es)
  | [], _, [], _, _, r => r
  | d :: ds, _, v :: vs, _, q, r => ⟨q.1, DqAll.append q.2 r⟩
  | [], _, _ :: _, _, q, _ => q.elim
  | _ :: _, _, [], _, q, _ => q.elim
theorem DqAll.take : ∀ (n : Nat) {ds : List D} {vs : List V}, DqAll K O sa H vs ds → DqAll K O sa H (vs.take n) (ds.take n)
  | 0, _, _, _ => trivial
  | n + 1, [], [], _ => trivial
  | n + 1, d :: ds, v :: vs, q => ⟨q.1, DqAll.take n q.2⟩
  | _ + 1, [], _ :: _, q => q.elim
  | _ + 1, _ :: _, [], q => q.elim
theorem DqAll.drop : ∀ (n : Nat) {ds : List D} {vs : List V}, DqAll K O sa H vs ds → DqAll K O sa H (vs.drop n) (ds.drop n)
  | 0, _, _, q => q
  | n + 1, [], [], _ => trivial
  | n + 1, d :: ds, v :: vs, q => DqAll.drop n q.2
  | _ + 1, [], _ :: _, q => q.elim
  | _ + 1, _ :: _, [], q => q.elim
theorem DqAll.set {v : V} {d : D} (r : Dq K O sa H v d) : ∀ (n : Nat) {ds : List D} {vs : List V}, DqAll K O sa H vs ds → DqAll K O sa H (vs.set n v) (ds.set n d)
  | _, [], [], _ => trivial
  | 0, d :: ds, v :: vs, q => ⟨r, q.2⟩
  | n + 1, d :: ds, v :: vs, q => ⟨q.1, DqAll.set r n q.2⟩
  | _, [], _ :: _, q => q.elim
  | _, _ :: _, [], q => q.elim
theorem DqAll.rev : ∀ {ds : List D} {vs : List V}, DqAll K O sa H vs ds → DqAll K O sa H vs.reverse ds.reverse
  | [], [], _ => trivial
  | d :: ds, v :: vs, q => by
    rw [List.reverse_cons, List.reverse_cons]
    exact DqAll.append (DqAll.rev q.2) ⟨q.1, trivial⟩
  | [], _ :: _, q => q.elim
  | _ :: _, [], q => q.elim
theorem DqAll.rep : ∀ (n : Nat) {ds : List D} {vs : List V}, DqAll K O sa H vs ds → DqAll K O sa H (List.replicate n vs).flatten (List.replicate n ds).flatten
  | 0, _, _, _ => trivial
  | n + 1, _, _, q => by
    rw [List.replicate_succ, List.replicate_succ, List.flatten_cons, List.flatten_cons]
    exact DqAll.append q (DqAll.rep n q)
theorem DqAll.ints : ∀ {ns : List Int} {vs : List V}, DqAll K O sa H vs (ns.map D.int) → vs = ns.map V.int
  | [], [], _ => rfl
  | n :: ns, v :: vs, q => by
    have e1 : vs = ns.map V.int := DqAll.ints (ns := ns) q.2
    have e2 : v = .int n := q.1
    rw [e1, e2]; rfl
  | [], _ :: _, q => q.elim
  | _ :: _, [], q => q.elim
theorem DqAll.of_ints : ∀ (ns : List Int), DqAll K O sa H (ns.map V.int) (ns.map D.int)
  | [] => trivial
  | n :: ns => ⟨rfl, DqAll.of_ints ns⟩
theorem DqAll.bls : ∀ {ns : List Bool} {vs : List V}, DqAll K O sa H vs (ns.map D.bl) → vs = ns.map V.bl
  | [], [], _ => rfl
  | n :: ns, v :: vs, q => by
    have e1 : vs = ns.map V.bl := DqAll.bls (ns := ns) q.2
    have e2 : v = .bl n := q.1
    rw [e1, e2]; rfl
  | [], _ :: _, q => q.elim
  | _ :: _, [], q => q.elim
theorem DqAll.strs : ∀ {ns : List Str} {vs : List V}, DqAll K O sa H vs (ns.map D.str) → vs = ns.map V.str
  | [], [], _ => rfl
  | n :: ns, v :: vs, q => by
    have e1 : vs = ns.map V.str := DqAll.strs (ns := ns) q.2
    have e2 : v = .str n := q.1
    rw [e1, e2]; rfl
  | [], _ :: _, q => q.elim
  | _ :: _, [], q => q.elim
theorem DqAll.of_strs : ∀ (ns : List Str), DqAll K O sa H (ns.map V.str) (ns.map D.str)
  | [] => trivial
  | n :: ns => ⟨rfl, DqAll.of_strs ns⟩
end

/-! ### heaps that grow -/
def Ext (sa : Addr × Addr) (H H' : Hp) : Prop := ∀ a o, a ≠ sa.1 → H a = some o → H' a = some o
theorem Ext.refl (sa : Addr × Addr) (H : Hp) : Ext sa H H := fun _ _ _ h => h
theorem Ext.trans {sa : Addr × Addr} {H H1 H2 : Hp} (a : Ext sa H H1) (b : Ext sa H1 H2) : Ext sa H H2 := fun x o n h => b x o n (a x o n h)
theorem Ext.new {sa : Addr × Addr} {H : Hp} {p : Addr} {o : HO} (h : H p = none) : Ext sa H (upd H p o) := fun a u _ e => by
  rw [upd_ne (ne_of_none e h)]; exact e
theorem Ext.back {sa : Addr × Addr} {H H' : Hp} {p : Addr} (e : Ext sa H H') (n : p ≠ sa.1) (h : H' p = none) : H p = none := by
  cases h1 : H p with
  | none => rfl
  | some o => rw [e p o n h1] at h; cases h

/-- the state of draws: the cells, how many are begun, what is left of one, how many digits, the mix, how many draws -/
structure S where
  cells : List Int
  at_ : Nat
  cur : Int
  left : Int
  mix : Int
  cnt : Int

def StOk (Oc : Addr → Prop) (sa : Addr × Addr) (H : Hp) (s : S) : Prop :=
  sa.2 ≠ sa.1 ∧ Oc sa.2 ∧ Oc sa.1 ∧ H sa.1 = some (.lst [.ref sa.2, .int s.at_, .int s.cur, .int s.left, .int s.mix, .int s.cnt]) ∧ H sa.2 = some (.lst (s.cells.map V.int))
theorem StOk.ext {Oc : Addr → Prop} {sa : Addr × Addr} {H H' : Hp} {s : S} (h : StOk Oc sa H s) (e : Ext sa H H') (e2 : H' sa.1 = H sa.1) : StOk Oc sa H' s := by
  obtain ⟨n, o1, o2, h1, h2⟩ := h
  exact ⟨n, o1, o2, by rw [e2]; exact h1, e _ _ n h2⟩
theorem StOk.mono {Oc Oc' : Addr → Prop} {sa : Addr × Addr} {H : Hp} {s : S} (h : StOk Oc sa H s) (m : ∀ p, Oc p → Oc' p) : StOk Oc' sa H s := by
  obtain ⟨n, o1, o2, h1, h2⟩ := h
  exact ⟨n, m _ o1, m _ o2, h1, h2⟩

/-! ### environments -/
inductive Ent where
  | sh (d : D)
  | ow (ds : List D)
abbrev Env := List (Option Ent)

section
variable (K : PySem.W.Frag) (sa : Addr × Addr)
def SlotOk (Oc O : Addr → Prop) (H : Hp) (v : V) : Ent → Prop
  | .sh d => Dq K O sa H v d
  | .ow ds => ∃ p vs, v = .ref p ∧ H p = some (.lst vs) ∧ O p ∧ ¬ Oc p ∧ DqAll K O sa H vs ds
structure Ok (Oc : Addr → Prop) (B : Hp) (O : Addr → Prop) (H : Hp) (σ : L2.St) (ρ : Env) (s : S) : Prop where
  keep : ∀ a o, B a = some o → a ≠ sa.1 ∧ H a = some o
  sub : ∀ p, Oc p → O p
  trk : ∀ p, O p → ∃ o, H p = some o
  new : ∀ p, O p → Oc p ∨ B p = none
  st : StOk Oc sa H s
  len : σ.length = ρ.length
  slot : ∀ (i : Nat) (e : Ent), ρ[i]? = some (some e) → ∃ v, σ[i]? = some (some v) ∧ SlotOk K sa Oc O H v e
  inj : ∀ (i j : Nat) (p : Addr) (ds es : List D), ρ[i]? = some (some (.ow ds)) → ρ[j]? = some (some (.ow es)) → σ[i]? = some (some (.ref p)) → σ[j]? = some (some (.ref p)) → i = j
end

section
variable {K : PySem.W.Frag} {sa : Addr × Addr} {Oc O O' : Addr → Prop} {B H H' : Hp} {σ : L2.St} {ρ : Env} {s s' : S} {v : V} {e : Ent} {i : Nat} {d : D} {ds : List D}
theorem Ok.sao (h : Ok K sa Oc B O H σ ρ s) : Oc sa.1 := let ⟨_, _, o, _⟩ := h.st; o
theorem Ok.has (h : Ok K sa Oc B O H σ ρ s) : ∃ o, H sa.1 = some o := let ⟨_, _, _, o, _⟩ := h.st; ⟨_, o⟩
theorem Ok.sa_ne (h : Ok K sa Oc B O H σ ρ s) {p : Addr} (n : H p = none) : p ≠ sa.1 := fun z => by
  obtain ⟨o, q⟩ := h.has
  rw [z, q] at n; cases n
theorem Ok.nO (h : Ok K sa Oc B O H σ ρ s) {p : Addr} (n : H p = none) : ¬ O p := fun z => by
  obtain ⟨o, q⟩ := h.trk p z
  rw [q] at n; cases n
/-- data stay as the heap grows -/
theorem Dq.ext (sao : O sa.1) (x : Ext sa H H') (q : Dq K O sa H v d) : Dq K O sa H' v d :=
  q.tr fun a o n e => ⟨n, x a o (fun z => n (z ▸ sao)) e⟩
theorem DqAll.ext {vs : List V} (sao : O sa.1) (x : Ext sa H H') (q : DqAll K O sa H vs ds) : DqAll K O sa H' vs ds :=
  q.tr fun a o n e => ⟨n, x a o (fun z => n (z ▸ sao)) e⟩
/-- one more address hidden, that was free -/
def hid (O : Addr → Prop) (p : Addr) : Addr → Prop := fun a => O a ∨ a = p
theorem Dq.hid {p : Addr} (n : H p = none) (q : Dq K O sa H v d) : Dq K (hid O p) sa H v d :=
  q.tr fun a o h e => ⟨fun z => z.elim h (ne_of_none e n), e⟩
theorem DqAll.hid {p : Addr} {vs : List V} (n : H p = none) (q : DqAll K O sa H vs ds) : DqAll K (hid O p) sa H vs ds :=
  q.tr fun a o h e => ⟨fun z => z.elim h (ne_of_none e n), e⟩
theorem DqAll.unhid {p : Addr} {vs : List V} (q : DqAll K (PL.hid O p) sa H vs ds) : DqAll K O sa H vs ds :=
  q.tr fun a o h e => ⟨fun z => h (.inl z), e⟩
theorem SlotOk.ext (sao : O sa.1) (sac : Oc sa.1) (x : Ext sa H H') (q : SlotOk K sa Oc O H v e) : SlotOk K sa Oc O H' v e := by
  cases e with
  | sh d => exact Dq.ext sao x q
  | ow ds =>
    obtain ⟨p, vs, e1, e2, o, no, q⟩ := q
    exact ⟨p, vs, e1, x _ _ (fun z => no (z ▸ sac)) e2, o, no, q.ext sao x⟩
theorem Ok.ext (h : Ok K sa Oc B O H σ ρ s) (x : Ext sa H H') (st : StOk Oc sa H' s') : Ok K sa Oc B O H' σ ρ s' where
  keep := fun a o e => let ⟨n, q⟩ := h.keep a o e; ⟨n, x a o n q⟩
  sub := h.sub
  trk := fun p o => by
    by_cases z : p = sa.1
    · obtain ⟨_, _, _, e, _⟩ := st
      exact ⟨_, z ▸ e⟩
    · obtain ⟨u, q⟩ := h.trk p o
      exact ⟨u, x p u z q⟩
  new := h.new
  st := st
  len := h.len
  slot := fun i e q => by
    obtain ⟨v, e1, q⟩ := h.slot i e q
    exact ⟨v, e1, q.ext (h.sub _ h.sao) h.sao x⟩
  inj := h.inj
end
end PL

set_option Elab.async false
set_option linter.all false
set_option maxRecDepth 100000
set_option maxHeartbeats 4000000
/-! PL2: what holds ahead of a piece of syntax, whatever its rule; results; small operations on data. -/
namespace PL
open PySem PySem.Spec PyProof.Rows L2

section
variable (X : Cx)
def WE (e : Expr) : TE := fun σ H Q => ∃ t, PE X e t ∧ t σ H Q
def WT (e : Expr) : TT := fun σ H Q => ∃ t, PT X e t ∧ t σ H Q
def WW (e : Expr) : TT := fun σ H Q => ∃ t, PW X e t ∧ t σ H Q
def WA (es : List Expr) : TA := fun σ H Q => ∃ t, PA X es t ∧ t σ H Q
def WS (st : Stmt) : TS := fun D σ H => ∃ t, PS X st t ∧ t D σ H
def WB (sts : List Stmt) : TS := fun D σ H => ∃ t, PSs X sts t ∧ t D σ H
def WG (tg : Expr) : TG := fun v σ H Q => ∃ t, PG X tg t ∧ t v σ H Q
def WGs (tgs : List Expr) : TGs := fun vs σ H Q => ∃ t, PGs X tgs t ∧ t vs σ H Q
def WI (tg iter : Expr) : TI := fun σ H R => ∃ t, PI X tg iter t ∧ t σ H R
def WO (e : Option Expr) : TO := fun σ H Q => ∃ t, PO X e t ∧ t σ H Q
def WC (ifs : List Expr) : TT := fun σ H Q => ∃ t, PTs X ifs t ∧ t σ H Q
variable {X}
theorem peW {e : Expr} : PE X e (WE X e) := ⟨fun pins s σ H Q I h => let ⟨_, p, q⟩ := h; p.run pins s σ H Q I q⟩
theorem ptW {e : Expr} : PT X e (WT X e) := ⟨fun pins s σ H Q I h => let ⟨_, p, q⟩ := h; p.run pins s σ H Q I q⟩
theorem pwW {e : Expr} : PW X e (WW X e) := ⟨fun w pins s σ H Q I h => let ⟨_, p, q⟩ := h; p.run w pins s σ H Q I q⟩
theorem paW {es : List Expr} : PA X es (WA X es) := ⟨fun pos pins s σ H Q I h => let ⟨_, p, q⟩ := h; p.run pos pins s σ H Q I q⟩
theorem psW {st : Stmt} : PS X st (WS X st) := ⟨fun pins s σ H D I h => let ⟨_, p, q⟩ := h; p.run pins s σ H D I q⟩
theorem pbW {sts : List Stmt} : PSs X sts (WB X sts) := ⟨fun pins s σ H D I h => let ⟨_, p, q⟩ := h; p.run pins s σ H D I q⟩
theorem pgW {tg : Expr} : PG X tg (WG X tg) := ⟨fun pins s σ H v u Q I r h => let ⟨_, p, q⟩ := h; p.run pins s σ H v u Q I r q⟩
theorem pgsW {tgs : List Expr} : PGs X tgs (WGs X tgs) := ⟨fun pins s σ H v u Q I r h => let ⟨_, p, q⟩ := h; p.run pins s σ H v u Q I r q⟩
theorem piW {tg iter : Expr} : PI X tg iter (WI X tg iter) := ⟨fun pins s σ H R I h => let ⟨_, p, q⟩ := h; p.run pins s σ H R I q⟩
theorem pcW {ifs : List Expr} : PTs X ifs (WC X ifs) := ⟨fun pins s σ H Q I h => let ⟨_, p, q⟩ := h; p.run pins s σ H Q I q⟩
theorem poW {e : Option Expr} : PO X e (WO X e) := ⟨fun pins s σ H Q I h => let ⟨_, p, q⟩ := h; p.run pins s σ H Q I q⟩
end

/-! ### results -/
inductive Res where
  | sh (d : D)
  | bo (ds : List D)
  | fr (ds : List D)
def Res.d : Res → D
  | .sh d => d
  | .bo ds => .lst ds
  | .fr ds => .lst ds
/-- what may be kept elsewhere: an own list that is only lent may not -/
def Res.out : Res → Option D
  | .sh d => some d
  | .bo _ => none
  | .fr ds => some (.lst ds)
def Res.ent : Res → Option Ent
  | .sh d => some (.sh d)
  | .bo _ => none
  | .fr ds => some (.ow ds)
@[simp] theorem Res.d_sh (d : D) : (Res.sh d).d = d := rfl
@[simp] theorem Res.d_bo (ds : List D) : (Res.bo ds).d = .lst ds := rfl
@[simp] theorem Res.d_fr (ds : List D) : (Res.fr ds).d = .lst ds := rfl
@[simp] theorem Res.out_sh (d : D) : (Res.sh d).out = some d := rfl
@[simp] theorem Res.out_bo (ds : List D) : (Res.bo ds).out = none := rfl
@[simp] theorem Res.out_fr (ds : List D) : (Res.fr ds).out = some (.lst ds) := rfl
@[simp] theorem Res.ent_sh (d : D) : (Res.sh d).ent = some (.sh d) := rfl
@[simp] theorem Res.ent_bo (ds : List D) : (Res.bo ds).ent = none := rfl
@[simp] theorem Res.ent_fr (ds : List D) : (Res.fr ds).ent = some (.ow ds) := rfl

section
variable (K : PySem.W.Frag) (O : Addr → Prop) (sa : Addr × Addr) (H : Hp)
/-- the value is read as d: a list may be an own one -/
def Vw (v : V) : D → Prop
  | .lst ds => ∃ p vs, v = .ref p ∧ p ≠ sa.1 ∧ H p = some (.lst vs) ∧ DqAll K O sa H vs ds
  | d => Dq K O sa H v d
def VwAll : List V → List D → Prop
  | [], [] => True
  | v :: vs, d :: ds => Vw K O sa H v d ∧ VwAll vs ds
  | _, _ => False
end
section
variable (K : PySem.W.Frag) (Oc O : Addr → Prop) (sa : Addr × Addr) (H H' : Hp)
def RVal (v : V) : Res → Prop
  | .sh d => Dq K O sa H' v d
  | .bo ds => ∃ p vs, v = .ref p ∧ ¬ Oc p ∧ H' p = some (.lst vs) ∧ DqAll K O sa H' vs ds
  | .fr ds => ∃ p vs, v = .ref p ∧ H p = none ∧ H' p = some (.lst vs) ∧ DqAll K (hid O p) sa H' vs ds
end

section
variable {K : PySem.W.Frag} {Oc O : Addr → Prop} {sa : Addr × Addr} {H H' H1 H2 : Hp} {v : V} {d : D} {r : Res} {B : Hp} {σ : L2.St} {ρ : Env} {s s' : S} {e : Ent} {i : Nat}
theorem Vw.of (sao : O sa.1) (q : Dq K O sa H v d) : Vw K O sa H v d := by
  cases d with
  | lst ds =>
    obtain ⟨a, xs, e, n, t, q⟩ := q
    exact ⟨a, xs, e, fun z => n (z ▸ sao), t, q⟩
  | _ => exact q
theorem Vw.ext (sao : O sa.1) (x : Ext sa H H') (q : Vw K O sa H v d) : Vw K O sa H' v d := by
  cases d with
  | lst ds =>
    obtain ⟨p, vs, e, n, t, q⟩ := q
    exact ⟨p, vs, e, n, x _ _ n t, q.ext sao x⟩
  | _ => exact Dq.ext sao x q
theorem VwAll.ext (sao : O sa.1) (x : Ext sa H H') : ∀ {ds : List D} {vs : List V}, VwAll K O sa H vs ds → VwAll K O sa H' vs ds
  | [], [], _ => trivial
  | d :: ds, v :: vs, q => ⟨Vw.ext sao x q.1, VwAll.ext sao x q.2⟩
  | [], _ :: _, q => q.elim
  | _ :: _, [], q => q.elim
theorem RVal.vw (sao : O sa.1) (sac : Oc sa.1) (hs : ∃ o, H sa.1 = some o) (q : RVal K Oc O sa H H' v r) : Vw K O sa H' v r.d := by
  cases r with
  | sh d => exact Vw.of sao q
  | bo ds =>
    obtain ⟨p, vs, e, n, t, q⟩ := q
    exact ⟨p, vs, e, fun z => n (z ▸ sac), t, q⟩
  | fr ds =>
    obtain ⟨p, vs, e, n, t, q⟩ := q
    obtain ⟨o, hs⟩ := hs
    exact ⟨p, vs, e, ne_of_none hs n |>.symm, t, q.unhid⟩
theorem RVal.out (hO : ∀ p, O p → ∃ o, H p = some o) (h : r.out = some d) (q : RVal K Oc O sa H H' v r) : Dq K O sa H' v d := by
  cases r with
  | sh d' =>
    cases h
    exact q
  | bo ds => cases h
  | fr ds =>
    cases h
    obtain ⟨p, vs, e, n, t, q⟩ := q
    refine ⟨p, vs, e, fun z => ?_, t, q.unhid⟩
    obtain ⟨o, z⟩ := hO p z
    rw [z] at n; cases n
/-- from an earlier heap -/
theorem RVal.pre (hs : ∃ o, H1 sa.1 = some o) (x : Ext sa H H1) (q : RVal K Oc O sa H1 H' v r) : RVal K Oc O sa H H' v r := by
  cases r with
  | sh d => exact q
  | bo ds => exact q
  | fr ds =>
    obtain ⟨p, vs, e, n, t, q⟩ := q
    obtain ⟨o, hs⟩ := hs
    exact ⟨p, vs, e, x.back (ne_of_none hs n).symm n, t, q⟩
/-- to a later heap -/
theorem RVal.ext (sao : O sa.1) (sac : Oc sa.1) (hs : ∃ o, H sa.1 = some o) (x : Ext sa H1 H2) (q : RVal K Oc O sa H H1 v r) : RVal K Oc O sa H H2 v r := by
  cases r with
  | sh d => exact Dq.ext sao x q
  | bo ds =>
    obtain ⟨p, vs, e, n, t, q⟩ := q
    exact ⟨p, vs, e, n, x _ _ (fun z => n (z ▸ sac)) t, q.ext sao x⟩
  | fr ds =>
    obtain ⟨p, vs, e, n, t, q⟩ := q
    obtain ⟨o, hs⟩ := hs
    exact ⟨p, vs, e, n, x _ _ (ne_of_none hs n).symm t, q.ext (.inl sao) x⟩
end

section
variable (K : PySem.W.Frag) (Oc O : Addr → Prop) (sa : Addr × Addr) (H H' : Hp)
def RVals : List V → List Res → Prop
  | [], [] => True
  | v :: vs, r :: rs => RVal K Oc O sa H H' v r ∧ RVals vs rs
  | _, _ => False
end
def outs : List Res → Option (List D)
  | [] => some []
  | r :: rs => r.out.bind fun d => (outs rs).map fun ds => d :: ds
@[simp] theorem outs_nil : outs [] = some [] := rfl
@[simp] theorem outs_cons (r : Res) (rs : List Res) : outs (r :: rs) = r.out.bind fun d => (outs rs).map fun ds => d :: ds := rfl
section
variable {K : PySem.W.Frag} {Oc O : Addr → Prop} {sa : Addr × Addr} {H H' H1 H2 : Hp}
theorem RVals.pre (hs : ∃ o, H1 sa.1 = some o) (x : Ext sa H H1) : ∀ {rs : List Res} {vs : List V}, RVals K Oc O sa H1 H' vs rs → RVals K Oc O sa H H' vs rs
  | [], [], _ => trivial
  | r :: rs, v :: vs, q => ⟨q.1.pre hs x, RVals.pre hs x q.2⟩
  | [], _ :: _, q => q.elim
  | _ :: _, [], q => q.elim
theorem RVals.vw (sao : O sa.1) (sac : Oc sa.1) (hs : ∃ o, H sa.1 = some o) : ∀ {rs : List Res} {vs : List V}, RVals K Oc O sa H H' vs rs → VwAll K O sa H' vs (rs.map Res.d)
  | [], [], _ => trivial
  | r :: rs, v :: vs, q => ⟨q.1.vw sao sac hs, RVals.vw sao sac hs q.2⟩
  | [], _ :: _, q => q.elim
  | _ :: _, [], q => q.elim
theorem RVals.out (hO : ∀ p, O p → ∃ o, H p = some o) : ∀ {rs : List Res} {ds : List D} {vs : List V}, outs rs = some ds → RVals K Oc O sa H H' vs rs → DqAll K O sa H' vs ds
  | [], ds, [], h, _ => by cases h; trivial
  | r :: rs, ds, v :: vs, h, q => by
    rw [outs_cons] at h
    cases hr : r.out with
    | none => rw [hr] at h; cases h
    | some d =>
      rw [hr] at h
      cases hs : outs rs with
      | none => rw [hs] at h; cases h
      | some es =>
        rw [hs] at h
        cases h
        exact ⟨q.1.out hO hr, RVals.out hO hs q.2⟩
  | [], _, _ :: _, _, q => q.elim
  | _ :: _, _, [], _, q => q.elim
theorem RVals.length : ∀ {rs : List Res} {vs : List V}, RVals K Oc O sa H H' vs rs → vs.length = rs.length
  | [], [], _ => rfl
  | r :: rs, v :: vs, q => congrArg (· + 1) (RVals.length q.2)
  | [], _ :: _, q => q.elim
  | _ :: _, [], q => q.elim
end

/-! ### truth, equality -/
def truthD : D → Option Bool
  | .non => some false
  | .bl b => some b
  | .int i => some (i != 0)
  | .str x => if x.length ≤ sizeLine then some ((x.length : Int) != 0) else none
  | .tup xs => some (!xs.isEmpty)
  | .lst xs => some (!xs.isEmpty)
  | .st => none
mutual
def D.py : D → Option PyData
  | .non => some .none
  | .bl b => some (.bool b)
  | .int i => some (.int i)
  | .str x => some (.str x)
  | .tup xs => (pyAll xs).map .tuple
  | .lst xs => (pyAll xs).map .list
  | .st => none
def pyAll : List D → Option (List PyData)
  | [] => some []
  | d :: ds => (d.py).bind fun p => (pyAll ds).map fun ps => p :: ps
end
/-- the answer of ==, if both are not too deep -/
def eqD (a b : D) : Option Bool := a.py.bind fun p => b.py.bind fun q => if SeqAt.shaped p = true ∧ SeqAt.shaped q = true then some (PyData.eqv p q) else none
section
variable {K : PySem.W.Frag} {Oc O : Addr → Prop} {sa : Addr × Addr} {H H' H1 H2 : Hp}
mutual
theorem Dq.dp : ∀ {d : D} {p : PyData} {v : V}, d.py = some p → Dq K O sa H v d → Dp K H v p
  | .non, _, _, e, q => by cases e; cases q; exact .non
  | .bl b, _, _, e, q => by cases e; cases q; exact .bl b
  | .int i, _, _, e, q => by cases e; cases q; exact .int i
  | .str x, _, _, e, q => by cases e; cases q; exact .str x
  | .st, _, _, e, _ => by cases e
  | .tup ds, p, v, e, q => by
    obtain ⟨a, xs, rfl, t, q⟩ := q
    rw [D.py] at e
    cases h : pyAll ds with
    | none => rw [h] at e; cases e
    | some ps =>
      rw [h] at e
      cases e
      exact .tup t.sq (DqAll.dp h q)
  | .lst ds, p, v, e, q => by
    obtain ⟨a, xs, rfl, _, t, q⟩ := q
    rw [D.py] at e
    cases h : pyAll ds with
    | none => rw [h] at e; cases e
    | some ps =>
      rw [h] at e
      cases e
      exact .lst (SqL.of t) (DqAll.dp h q)
theorem DqAll.dp : ∀ {ds : List D} {ps : List PyData} {vs : List V}, pyAll ds = some ps → DqAll K O sa H vs ds → DpAll K H vs ps
  | [], _, [], e, _ => by cases e; exact .nil
  | d :: ds, ps, v :: vs, e, q => by
    rw [pyAll] at e
    cases h : d.py with
    | none => rw [h] at e; cases e
    | some p =>
      cases h2 : pyAll ds with
      | none => rw [h, h2] at e; cases e
      | some rs =>
        rw [h, h2] at e
        cases e
        exact .cons (Dq.dp h q.1) (DqAll.dp h2 q.2)
  | [], _, _ :: _, _, q => q.elim
  | _ :: _, _, [], _, q => q.elim
end
theorem Vw.dp {d : D} {p : PyData} {v : V} (e : d.py = some p) (q : Vw K O sa H v d) : Dp K H v p := by
  cases d with
  | lst ds =>
    obtain ⟨a, xs, rfl, _, t, q⟩ := q
    rw [D.py] at e
    cases h : pyAll ds with
    | none => rw [h] at e; cases e
    | some ps =>
      rw [h] at e
      cases e
      exact .lst (SqL.of t) (DqAll.dp h q)
  | _ => exact Dq.dp (O := O) (sa := sa) e q
theorem Vw.tru {d : D} {b : Bool} {v : V} (e : truthD d = some b) (q : Vw K O sa H v d) : TruV K v H b := by
  cases d with
  | non => cases q; cases e; rfl
  | bl c => cases q; cases e; rfl
  | int i => cases q; cases e; rfl
  | str x =>
    cases q
    rw [truthD] at e
    split at e
    · cases e
      exact ⟨by assumption, rfl⟩
    · cases e
  | tup ds =>
    obtain ⟨a, xs, rfl, t, q⟩ := q
    cases e
    refine .inr (.inl ⟨xs, t.sq, ?_⟩)
    have := q.length
    cases xs <;> cases ds <;> first | rfl | simp at this
  | lst ds =>
    obtain ⟨a, xs, rfl, _, t, q⟩ := q
    cases e
    refine .inl ⟨xs, SqL.of t, ?_⟩
    have := q.length
    cases xs <;> cases ds <;> first | rfl | simp at this
  | st => cases e
end
end PL

set_option Elab.async false
set_option linter.all false
set_option maxRecDepth 100000
set_option maxHeartbeats 4000000
/-! PL3: what expressions compute, as functions of the environment; each with the rule that it is sound. -/
namespace PL
open PySem PySem.Spec PyProof.Rows L2

/-- what is known of the heap ahead of an operation -/
structure Hd (Oc O : Addr → Prop) (sa : Addr × Addr) (H : Hp) : Prop where
  so : O sa.1
  sc : Oc sa.1
  hs : ∃ o, H sa.1 = some o
  tr : ∀ p, O p → ∃ o, H p = some o
theorem Hd.nO {Oc O : Addr → Prop} {sa : Addr × Addr} {H : Hp} (h : Hd Oc O sa H) {p : Addr} (n : H p = none) : ¬ O p := fun z => by
  obtain ⟨o, q⟩ := h.tr p z
  rw [q] at n; cases n
theorem Ok.hd {K : PySem.W.Frag} {sa : Addr × Addr} {Oc O : Addr → Prop} {B H : Hp} {σ : L2.St} {ρ : Env} {s : S} (h : Ok K sa Oc B O H σ ρ s) : Hd Oc O sa H := ⟨h.sub _ h.sao, h.sao, h.has, h.trk⟩
abbrev FE := Env → S → Option (Res × S)
abbrev FT := Env → S → Option (Bool × S)
abbrev FA := Env → S → Option (List Res × S)

section
variable (X : Cx) (sa : Addr × Addr)
def SndE (e : Expr) (f : FE) : Prop := ∀ ρ s r s', f ρ s = some (r, s') → ∀ Oc B O H σ, Ok X.K sa Oc B O H σ ρ s →
  ∀ Q : VK, (∀ v H', Ext sa H H' → StOk Oc sa H' s' → RVal X.K Oc O sa H H' v r → Q v H') → WE X e σ H Q
def SndA (es : List Expr) (f : FA) : Prop := ∀ ρ s r s', f ρ s = some (r, s') → ∀ Oc B O H σ, Ok X.K sa Oc B O H σ ρ s →
  ∀ Q : List V → Hp → Prop, (∀ vs H', Ext sa H H' → StOk Oc sa H' s' → RVals X.K Oc O sa H H' vs r → Q vs H') → WA X es σ H Q
def SndTW (Wt : TT) (f : FT) : Prop := ∀ ρ s b s', f ρ s = some (b, s') → ∀ Oc B O H σ, Ok X.K sa Oc B O H σ ρ s →
  ∀ Q : Bool → Hp → Prop, (∀ H', Ext sa H H' → StOk Oc sa H' s' → Q b H') → Wt σ H Q
def SndT (e : Expr) (f : FT) : Prop := SndTW X sa (WT X e) f
def SndW (e : Expr) (f : FT) : Prop := SndTW X sa (WW X e) f
/-- an operation on two values, by data -/
def Op2 (P : R2 → Prop) (c : D → D → Option Res) : Prop := ∀ d e r, c d e = some r → ∃ r2 : R2, P r2 ∧
  ∀ (Oc O : Addr → Prop) (H : Hp) (x y : V), Hd Oc O sa H → Vw X.K O sa H x d → Vw X.K O sa H y e →
    ∀ Q : VK, (∀ v H', Ext sa H H' → H' sa.1 = H sa.1 → RVal X.K Oc O sa H H' v r → Q v H') → r2 x y H Q
/-- a comparison of two values -/
def Cm2 (P : R2 → Prop) (c : D → D → Option Bool) : Prop := ∀ d e b, c d e = some b → ∃ r2 : R2, P r2 ∧
  ∀ (O : Addr → Prop) (H : Hp) (x y : V), O sa.1 → Vw X.K O sa H x d → Vw X.K O sa H y e → ∀ Q : VK, Q (.bl b) H → r2 x y H Q
def Op1 (P : (V → Hp → VK → Prop) → Prop) (c : D → Option Res) : Prop := ∀ d r, c d = some r → ∃ r1 : V → Hp → VK → Prop, P r1 ∧
  ∀ (Oc O : Addr → Prop) (H : Hp) (x : V), Hd Oc O sa H → Vw X.K O sa H x d →
    ∀ Q : VK, (∀ v H', Ext sa H H' → H' sa.1 = H sa.1 → RVal X.K Oc O sa H H' v r → Q v H') → r1 x H Q
/-- a call of a built-in on values -/
def CallD (P : (List V → Hp → VK → Prop) → Prop) (c : List D → Option Res) : Prop := ∀ ds r, c ds = some r → ∃ r1 : List V → Hp → VK → Prop, P r1 ∧
  ∀ (Oc O : Addr → Prop) (H : Hp) (xs : List V), Hd Oc O sa H → VwAll X.K O sa H xs ds →
    ∀ Q : VK, (∀ v H', Ext sa H H' → H' sa.1 = H sa.1 → RVal X.K Oc O sa H H' v r → Q v H') → r1 xs H Q
end

def eVar (i : Nat) : FE := fun ρ s => match ρ[i]? with
  | some (some (.sh d)) => some (.sh d, s)
  | some (some (.ow ds)) => some (.bo ds, s)
  | _ => none
def eC (d : D) : FE := fun _ s => some (.sh d, s)
def eOp2 (c : D → D → Option Res) (f g : FE) : FE := fun ρ s => (f ρ s).bind fun a => (g ρ a.2).bind fun b => (c a.1.d b.1.d).bind fun r => some (r, b.2)
def eOp1 (c : D → Option Res) (f : FE) : FE := fun ρ s => (f ρ s).bind fun a => (c a.1.d).bind fun r => some (r, a.2)
def eCmp (c : D → D → Option Bool) (f g : FE) : FE := fun ρ s => (f ρ s).bind fun a => (g ρ a.2).bind fun b => (c a.1.d b.1.d).bind fun r => some (.sh (.bl r), b.2)
def tCmp2 (c : D → D → Option Bool) (f g : FE) : FT := fun ρ s => (f ρ s).bind fun a => (g ρ a.2).bind fun b => (c a.1.d b.1.d).bind fun r => some (r, b.2)
def tChn (c c' : D → D → Option Bool) (f g h : FE) : FT := fun ρ s => (f ρ s).bind fun a => (g ρ a.2).bind fun b => (c a.1.d b.1.d).bind fun r =>
  if r = true then (h ρ b.2).bind fun k => (c' b.1.d k.1.d).bind fun r => some (r, k.2) else some (false, b.2)
def eOfT (t : FT) : FE := fun ρ s => (t ρ s).bind fun a => some (.sh (.bl a.1), a.2)
def eAnd (f g : FE) : FE := fun ρ s => (f ρ s).bind fun a => (truthD a.1.d).bind fun b => if b = true then g ρ a.2 else some a
def eOr (f g : FE) : FE := fun ρ s => (f ρ s).bind fun a => (truthD a.1.d).bind fun b => if b = true then some a else g ρ a.2
def eNot (f : FE) : FE := fun ρ s => (f ρ s).bind fun a => (truthD a.1.d).bind fun b => some (.sh (.bl (!b)), a.2)
def eIte (t : FT) (f g : FE) : FE := fun ρ s => (t ρ s).bind fun a => if a.1 = true then f ρ a.2 else g ρ a.2
def tOf (f : FE) : FT := fun ρ s => (f ρ s).bind fun a => (truthD a.1.d).bind fun b => some (b, a.2)
def tAn (t u : FT) : FT := fun ρ s => (t ρ s).bind fun a => if a.1 = true then u ρ a.2 else some (false, a.2)
def tOo (t u : FT) : FT := fun ρ s => (t ρ s).bind fun a => if a.1 = true then some (true, a.2) else u ρ a.2
def tNo (t : FT) : FT := fun ρ s => (t ρ s).bind fun a => some (!a.1, a.2)
def aNil : FA := fun _ s => some ([], s)
def aCons (f : FE) (g : FA) : FA := fun ρ s => (f ρ s).bind fun a => (g ρ a.2).bind fun b => some (a.1 :: b.1, b.2)
def eTup (g : FA) : FE := fun ρ s => (g ρ s).bind fun a => (outs a.1).bind fun ds => if ds.length ≤ sizeLine then some (.sh (.tup ds), a.2) else none
def eLst (g : FA) : FE := fun ρ s => (g ρ s).bind fun a => (outs a.1).bind fun ds => if ds.length ≤ sizeLine then some (.fr ds, a.2) else none
def eCall (c : List D → Option Res) (g : FA) : FE := fun ρ s => (g ρ s).bind fun a => (c (a.1.map Res.d)).bind fun r => some (r, a.2)
def eFn (φ : List D → S → Option (D × S)) (g : FA) : FE := fun ρ s => (g ρ s).bind fun a => (outs a.1).bind fun ds => (φ ds a.2).bind fun r => some (.sh r.1, r.2)

theorem bind_some_of {α β : Type} {x : Option α} {f : α → Option β} {b : β} (h : x.bind f = some b) : ∃ a, x = some a ∧ f a = some b := by
  cases x with
  | none => cases h
  | some a => exact ⟨a, rfl, h⟩

/-- hidden by others: the same by the first hiding -/
theorem StOk.to {Oc O : Addr → Prop} {sa : Addr × Addr} {H H' : Hp} {s s' : S} (h : StOk O sa H' s') (k : StOk Oc sa H s) : StOk Oc sa H' s' := ⟨h.1, k.2.1, k.2.2.1, h.2.2.2.1, h.2.2.2.2⟩
section
variable {X : Cx} {sa : Addr × Addr} {a b c e o : Expr} {es : List Expr} {f g h : FE} {fa : FA} {t u : FT} {pos : Pos}
theorem StOk.same {Oc : Addr → Prop} {H H' : Hp} {s : S} (h : StOk Oc sa H s) (e : Ext sa H H') (e2 : H' sa.1 = H sa.1) : StOk Oc sa H' s := h.ext e e2
theorem StOk.has {Oc : Addr → Prop} {H : Hp} {s : S} (h : StOk Oc sa H s) : ∃ o, H sa.1 = some o := let ⟨_, _, _, o, _⟩ := h; ⟨_, o⟩
theorem Ok.osa {K : PySem.W.Frag} {Oc O : Addr → Prop} {B H : Hp} {σ : L2.St} {ρ : Env} {s : S} (h : Ok K sa Oc B O H σ ρ s) : O sa.1 := h.sub _ h.sao

theorem s_var {i : Nat} {x : Str} (hN : X.N[i]? = some x) (hv : Vis X.env.scope x) (hd : (x == ("__debug__" : Str)) = false) (hcd : (x == ("__classdict__" : Str)) = false) : SndE X sa (.Name x pos) (eVar i) := by
  intro ρ s r s' e Oc B O H σ ok Q q
  unfold eVar at e
  split at e
  · rename_i d hd'
    cases e
    obtain ⟨v, h1, h2⟩ := ok.slot i _ hd'
    exact ⟨tVar i, pe_var hN hv hd hcd, v, h1, q v H (Ext.refl _ _) ok.st h2⟩
  · rename_i ds hd'
    cases e
    obtain ⟨v, h1, p, vs, h2, h3, h4, h5, h6⟩ := ok.slot i _ hd'
    exact ⟨tVar i, pe_var hN hv hd hcd, v, h1, q v H (Ext.refl _ _) ok.st ⟨p, vs, h2, h5, h3, h6⟩⟩
  · cases e
theorem s_c {e : Expr} {v : V} {d : D} (p : PE X e (tC v)) (h : ∀ (O : Addr → Prop) (H : Hp), Dq X.K O sa H v d) : SndE X sa e (eC d) := by
  intro ρ s r s' e Oc B O H σ ok Q q
  cases e
  exact ⟨_, p, q v H (Ext.refl _ _) ok.st (h O H)⟩
theorem s_int {i : Int} {j : Nat} : SndE X sa (.Constant (.int i) j pos) (eC (.int i)) := s_c pe_int fun _ _ => rfl
theorem s_bl {i : Bool} {j : Nat} : SndE X sa (.Constant (.bool i) j pos) (eC (.bl i)) := s_c pe_bl fun _ _ => rfl
theorem s_non {j : Nat} : SndE X sa (.Constant .none j pos) (eC .non) := s_c pe_non fun _ _ => rfl
theorem s_str {i : Str} {j : Nat} : SndE X sa (.Constant (.str i) j pos) (eC (.str i)) := s_c pe_str fun _ _ => rfl

/-- two operands, then the operation -/
theorem snd2 {Wt : TE} {c : D → D → Option Res} {P : R2 → Prop} (hop : Op2 X sa P c) (hW : ∀ r2, P r2 → ∀ σ H Q, tOp r2 (WE X a) (WE X b) σ H Q → Wt σ H Q) (ha : SndE X sa a f) (hb : SndE X sa b g) :
    ∀ ρ s r s', eOp2 c f g ρ s = some (r, s') → ∀ Oc B O H σ, Ok X.K sa Oc B O H σ ρ s →
      ∀ Q : VK, (∀ v H', Ext sa H H' → StOk Oc sa H' s' → RVal X.K Oc O sa H H' v r → Q v H') → Wt σ H Q := by
  intro ρ s r s' e Oc B O H σ ok Q q
  obtain ⟨⟨ra, s1⟩, ea, e⟩ := bind_some_of e
  obtain ⟨⟨rb, s2⟩, eb, e⟩ := bind_some_of e
  obtain ⟨r', ec, e⟩ := bind_some_of e
  cases e
  obtain ⟨r2, hr, hk⟩ := hop _ _ _ ec
  refine hW r2 hr σ H Q ?_
  refine ha ρ s ra s1 ea Oc B O H σ ok _ fun x H1 x1 st1 v1 => ?_
  have ok1 := ok.ext x1 st1
  refine hb ρ s1 rb s2 eb Oc B O H1 σ ok1 _ fun y H2 x2 st2 v2 => ?_
  refine hk Oc O H2 x y (ok1.ext x2 st2).hd ((v1.vw ok.osa ok.sao ok.has).ext ok.osa x2) (v2.vw ok.osa ok.sao ok1.has) Q fun v H' x3 e3 v3 => ?_
  exact q v H' ((x1.trans x2).trans x3) (st2.same x3 e3) (v3.pre st2.has (x1.trans x2))
theorem s_bin {op : Operator} {c : D → D → Option Res} (hop : Op2 X sa (OpR X (binaryOp op)) c) (ha : SndE X sa a f) (hb : SndE X sa b g) : SndE X sa (.BinOp a op b pos) (eOp2 c f g) :=
  snd2 hop (fun r2 hr σ H Q h => ⟨_, pe_op hr peW peW, h⟩) ha hb
theorem s_ix {c : D → D → Option Res} (hop : Op2 X sa (IxR X) c) (hs : PlainIx b) (ha : SndE X sa a f) (hb : SndE X sa b g) : SndE X sa (.Subscript a b pos) (eOp2 c f g) :=
  snd2 hop (fun r2 hr σ H Q h => ⟨_, pe_ix hr peW peW hs, h⟩) ha hb
theorem s_un {op : UnaryOp} {c : D → Option Res} (hop : Op1 X sa (UnR X (unaryOp op)) c) (ha : SndE X sa a f) : SndE X sa (.UnaryOp op a pos) (eOp1 c f) := by
  intro ρ s r s' e Oc B O H σ ok Q q
  obtain ⟨⟨ra, s1⟩, ea, e⟩ := bind_some_of e
  obtain ⟨r', ec, e⟩ := bind_some_of e
  cases e
  obtain ⟨r2, hr, hk⟩ := hop _ _ ec
  refine ⟨_, pe_un hr peW, ?_⟩
  refine ha ρ s ra s1 ea Oc B O H σ ok _ fun x H1 x1 st1 v1 => ?_
  refine hk Oc O H1 x (ok.ext x1 st1).hd (v1.vw ok.osa ok.sao ok.has) Q fun v H' x3 e3 v3 => ?_
  exact q v H' (x1.trans x3) (st1.same x3 e3) (v3.pre st1.has x1)
theorem s_cmp {op : CmpOp} {c : D → D → Option Bool} (hop : Cm2 X sa (OpR X (compareOp op)) c) (hm : behindInMarks op b = false) (ha : SndE X sa a f) (hb : SndE X sa b g) : SndE X sa (.Compare a [op] [b] pos) (eCmp c f g) := by
  intro ρ s r s' e Oc B O H σ ok Q q
  obtain ⟨⟨ra, s1⟩, ea, e⟩ := bind_some_of e
  obtain ⟨⟨rb, s2⟩, eb, e⟩ := bind_some_of e
  obtain ⟨r', ec, e⟩ := bind_some_of e
  cases e
  obtain ⟨r2, hr, hk⟩ := hop _ _ _ ec
  refine ⟨_, pe_cmpR hr peW peW hm, ?_⟩
  refine ha ρ s ra s1 ea Oc B O H σ ok _ fun x H1 x1 st1 v1 => ?_
  have ok1 := ok.ext x1 st1
  refine hb ρ s1 rb s2 eb Oc B O H1 σ ok1 _ fun y H2 x2 st2 v2 => ?_
  exact hk O H2 x y ok.osa ((v1.vw ok.osa ok.sao ok.has).ext ok.osa x2) (v2.vw ok.osa ok.sao ok1.has) Q (q _ H2 (x1.trans x2) st2 rfl)
theorem t_cmp {op : CmpOp} {c : D → D → Option Bool} (hop : Cm2 X sa (OpR X (compareOp op)) c) (hm : behindInMarks op b = false) (ha : SndE X sa a f) (hb : SndE X sa b g) : SndT X sa (.Compare a [op] [b] pos) (tCmp2 c f g) := by
  intro ρ s r s' e Oc B O H σ ok Q q
  obtain ⟨⟨ra, s1⟩, ea, e⟩ := bind_some_of e
  obtain ⟨⟨rb, s2⟩, eb, e⟩ := bind_some_of e
  obtain ⟨r', ec, e⟩ := bind_some_of e
  cases e
  obtain ⟨r2, hr, hk⟩ := hop _ _ _ ec
  refine ⟨_, pt_cmpR hr peW peW hm, ?_⟩
  refine ha ρ s ra s1 ea Oc B O H σ ok _ fun x H1 x1 st1 v1 => ?_
  have ok1 := ok.ext x1 st1
  refine hb ρ s1 rb s2 eb Oc B O H1 σ ok1 _ fun y H2 x2 st2 v2 => ?_
  exact hk O H2 x y ok.osa ((v1.vw ok.osa ok.sao ok.has).ext ok.osa x2) (v2.vw ok.osa ok.sao ok1.has) _ ⟨_, rfl, q H2 (x1.trans x2) st2⟩
theorem chn_core {op op' : CmpOp} {c c' : D → D → Option Bool} (hop : Cm2 X sa (OpR X (compareOp op)) c) (hop' : Cm2 X sa (OpR X (compareOp op')) c') (ha : SndE X sa a f) (hb : SndE X sa b g) (hc : SndE X sa o h) :
    ∀ ρ s r s', tChn c c' f g h ρ s = some (r, s') → ∀ Oc B O H σ, Ok X.K sa Oc B O H σ ρ s →
      ∃ r2 r3 : R2, OpR X (compareOp op) r2 ∧ OpR X (compareOp op') r3 ∧ ∀ Q : VK, (∀ H', Ext sa H H' → StOk Oc sa H' s' → Q (.bl r) H') → L2.tChain r2 r3 (WE X a) (WE X b) (WE X o) σ H Q := by
  intro ρ s r s' e Oc B O H σ ok
  obtain ⟨⟨ra, s1⟩, ea, e⟩ := bind_some_of e
  obtain ⟨⟨rb, s2⟩, eb, e⟩ := bind_some_of e
  obtain ⟨r', ec, e⟩ := bind_some_of e
  obtain ⟨r2, hr, hk⟩ := hop _ _ _ ec
  cases r' with
  | false =>
    rw [if_neg Bool.false_ne_true] at e
    cases e
    refine ⟨r2, fun _ _ _ _ => False, hr, fun _ _ _ _ _ _ _ _ _ _ _ _ z => z.elim, fun Q q => ?_⟩
    refine ha ρ s ra s1 ea Oc B O H σ ok _ fun x H1 x1 st1 v1 => ?_
    have ok1 := ok.ext x1 st1
    refine hb ρ s1 rb s2 eb Oc B O H1 σ ok1 _ fun y H2 x2 st2 v2 => ?_
    refine hk O H2 x y ok.osa ((v1.vw ok.osa ok.sao ok.has).ext ok.osa x2) (v2.vw ok.osa ok.sao ok1.has) _ ⟨false, rfl, ?_⟩
    rw [if_neg Bool.false_ne_true]
    exact q H2 (x1.trans x2) st2
  | true =>
    rw [if_pos rfl] at e
    obtain ⟨⟨rc, s3⟩, ec', e⟩ := bind_some_of e
    obtain ⟨r', ec2, e⟩ := bind_some_of e
    cases e
    obtain ⟨r3, hr3, hk3⟩ := hop' _ _ _ ec2
    refine ⟨r2, r3, hr, hr3, fun Q q => ?_⟩
    refine ha ρ s ra s1 ea Oc B O H σ ok _ fun x H1 x1 st1 v1 => ?_
    have ok1 := ok.ext x1 st1
    refine hb ρ s1 rb s2 eb Oc B O H1 σ ok1 _ fun y H2 x2 st2 v2 => ?_
    have ok2 := ok1.ext x2 st2
    refine hk O H2 x y ok.osa ((v1.vw ok.osa ok.sao ok.has).ext ok.osa x2) (v2.vw ok.osa ok.sao ok1.has) _ ⟨true, rfl, ?_⟩
    rw [if_pos rfl]
    refine hc ρ s2 rc s3 ec' Oc B O H2 σ ok2 _ fun z H3 x3 st3 v3 => ?_
    exact hk3 O H3 y z ok.osa ((v2.vw ok.osa ok.sao ok1.has).ext ok.osa x3) (v3.vw ok.osa ok.sao ok2.has) Q (q H3 ((x1.trans x2).trans x3) st3)
theorem s_chn {op op' : CmpOp} {c c' : D → D → Option Bool} (hop : Cm2 X sa (OpR X (compareOp op)) c) (hop' : Cm2 X sa (OpR X (compareOp op')) c') (hm : lastMarks [op, op'] [b, o] = false)
    (ha : SndE X sa a f) (hb : SndE X sa b g) (hc : SndE X sa o h) : SndE X sa (.Compare a [op, op'] [b, o] pos) (eOfT (tChn c c' f g h)) := by
  intro ρ s r s' e Oc B O H σ ok Q q
  obtain ⟨⟨ra, s1⟩, ea, e⟩ := bind_some_of e
  cases e
  obtain ⟨r2, r3, h2, h3, k⟩ := chn_core hop hop' ha hb hc ρ s ra _ ea Oc B O H σ ok
  exact ⟨_, pe_chain h2 h3 peW peW peW hm, k Q fun H' x st => q _ H' x st rfl⟩
theorem t_chn {op op' : CmpOp} {c c' : D → D → Option Bool} (hop : Cm2 X sa (OpR X (compareOp op)) c) (hop' : Cm2 X sa (OpR X (compareOp op')) c') (hm : lastMarks [op, op'] [b, o] = false)
    (ha : SndE X sa a f) (hb : SndE X sa b g) (hc : SndE X sa o h) : SndT X sa (.Compare a [op, op'] [b, o] pos) (tChn c c' f g h) := by
  intro ρ s r s' e Oc B O H σ ok Q q
  obtain ⟨r2, r3, h2, h3, k⟩ := chn_core hop hop' ha hb hc ρ s r _ e Oc B O H σ ok
  exact ⟨_, pt_chain h2 h3 peW peW peW hm, k _ fun H' x st => ⟨_, rfl, q H' x st⟩⟩

/-! ### and, or, not -/
theorem s_one {op : BoolOp} (ha : SndE X sa a f) : SndE X sa (.BoolOp op [a] pos) f := by
  intro ρ s r s' e Oc B O H σ ok Q q
  exact ⟨_, pe_one peW, ha ρ s r s' e Oc B O H σ ok Q q⟩
theorem s_and {rest : List Expr} (ha : SndE X sa a f) (hb : SndE X sa (.BoolOp .And (b :: rest) pos) g) : SndE X sa (.BoolOp .And (a :: b :: rest) pos) (eAnd f g) := by
  intro ρ s r s' e Oc B O H σ ok Q q
  obtain ⟨⟨ra, s1⟩, ea, e⟩ := bind_some_of e
  obtain ⟨k, ek, e⟩ := bind_some_of e
  refine ⟨_, pe_andT peW peW, ?_⟩
  refine ha ρ s ra s1 ea Oc B O H σ ok _ fun x H1 x1 st1 v1 => ⟨k, (v1.vw ok.osa ok.sao ok.has).tru ek, ?_⟩
  cases k with
  | true =>
    rw [if_pos rfl] at e ⊢
    exact hb ρ s1 r s' e Oc B O H1 σ (ok.ext x1 st1) Q fun v H' x2 st2 v2 => q v H' (x1.trans x2) st2 (v2.pre st1.has x1)
  | false =>
    rw [if_neg Bool.false_ne_true] at e ⊢
    cases e
    exact q x H1 x1 st1 v1
theorem s_or {rest : List Expr} (ha : SndE X sa a f) (hb : SndE X sa (.BoolOp .Or (b :: rest) pos) g) : SndE X sa (.BoolOp .Or (a :: b :: rest) pos) (eOr f g) := by
  intro ρ s r s' e Oc B O H σ ok Q q
  obtain ⟨⟨ra, s1⟩, ea, e⟩ := bind_some_of e
  obtain ⟨k, ek, e⟩ := bind_some_of e
  refine ⟨_, pe_orT peW peW, ?_⟩
  refine ha ρ s ra s1 ea Oc B O H σ ok _ fun x H1 x1 st1 v1 => ⟨k, (v1.vw ok.osa ok.sao ok.has).tru ek, ?_⟩
  cases k with
  | true =>
    rw [if_pos rfl] at e ⊢
    cases e
    exact q x H1 x1 st1 v1
  | false =>
    rw [if_neg Bool.false_ne_true] at e ⊢
    exact hb ρ s1 r s' e Oc B O H1 σ (ok.ext x1 st1) Q fun v H' x2 st2 v2 => q v H' (x1.trans x2) st2 (v2.pre st1.has x1)
theorem s_not (ha : SndE X sa a f) : SndE X sa (.UnaryOp .Not a pos) (eNot f) := by
  intro ρ s r s' e Oc B O H σ ok Q q
  obtain ⟨⟨ra, s1⟩, ea, e⟩ := bind_some_of e
  obtain ⟨k, ek, e⟩ := bind_some_of e
  cases e
  refine ⟨_, pe_notT peW, ?_⟩
  exact ha ρ s ra s1 ea Oc B O H σ ok _ fun x H1 x1 st1 v1 => ⟨k, (v1.vw ok.osa ok.sao ok.has).tru ek, q _ H1 x1 st1 rfl⟩
theorem s_ite (ht : SndT X sa c t) (ha : SndE X sa a f) (hb : SndE X sa b g) : SndE X sa (.IfExp c a b pos) (eIte t f g) := by
  intro ρ s r s' e Oc B O H σ ok Q q
  obtain ⟨⟨k, s1⟩, ea, e⟩ := bind_some_of e
  refine ⟨_, pe_ifExp ptW peW peW, ?_⟩
  refine ht ρ s k s1 ea Oc B O H σ ok _ fun H1 x1 st1 => ?_
  cases k with
  | true =>
    rw [if_pos rfl] at e ⊢
    exact ha ρ s1 r s' e Oc B O H1 σ (ok.ext x1 st1) Q fun v H' x2 st2 v2 => q v H' (x1.trans x2) st2 (v2.pre st1.has x1)
  | false =>
    rw [if_neg Bool.false_ne_true] at e ⊢
    exact hb ρ s1 r s' e Oc B O H1 σ (ok.ext x1 st1) Q fun v H' x2 st2 v2 => q v H' (x1.trans x2) st2 (v2.pre st1.has x1)

/-! ### tests -/
theorem t_of (he : ∀ whole, isTrue a X.env whole = (do let v ← whole; standAt a.pos; holding [v] (truthy v))) (ha : SndE X sa a f) : SndT X sa a (tOf f) := by
  intro ρ s r s' e Oc B O H σ ok Q q
  obtain ⟨⟨ra, s1⟩, ea, e⟩ := bind_some_of e
  obtain ⟨k, ek, e⟩ := bind_some_of e
  cases e
  refine ⟨_, pt_truth peW he, ?_⟩
  exact ha ρ s ra s1 ea Oc B O H σ ok _ fun x H1 x1 st1 v1 => ⟨_, (v1.vw ok.osa ok.sao ok.has).tru ek, q H1 x1 st1⟩
theorem t_not (ha : SndT X sa a t) : SndT X sa (.UnaryOp .Not a pos) (tNo t) := by
  intro ρ s r s' e Oc B O H σ ok Q q
  obtain ⟨⟨k, s1⟩, ea, e⟩ := bind_some_of e
  cases e
  exact ⟨_, pt_not ptW, ha ρ s k s1 ea Oc B O H σ ok _ fun H1 x1 st1 => q H1 x1 st1⟩
theorem w_and1 (ha : SndT X sa a t) : SndW X sa (.BoolOp .And [a] pos) t := by
  intro ρ s r s' e Oc B O H σ ok Q q
  exact ⟨_, pw_and1 ptW, ha ρ s r s' e Oc B O H σ ok Q q⟩
theorem w_or1 (ha : SndT X sa a t) : SndW X sa (.BoolOp .Or [a] pos) t := by
  intro ρ s r s' e Oc B O H σ ok Q q
  exact ⟨_, pw_or1 ptW, ha ρ s r s' e Oc B O H σ ok Q q⟩
theorem w_and {rest : List Expr} (ha : SndT X sa a t) (hb : SndW X sa (.BoolOp .And (b :: rest) pos) u) : SndW X sa (.BoolOp .And (a :: b :: rest) pos) (tAn t u) := by
  intro ρ s r s' e Oc B O H σ ok Q q
  obtain ⟨⟨k, s1⟩, ea, e⟩ := bind_some_of e
  refine ⟨_, pw_and ptW pwW, ?_⟩
  refine ha ρ s k s1 ea Oc B O H σ ok _ fun H1 x1 st1 => ?_
  cases k with
  | true =>
    rw [if_pos rfl] at e ⊢
    exact hb ρ s1 r s' e Oc B O H1 σ (ok.ext x1 st1) Q fun H' x2 st2 => q H' (x1.trans x2) st2
  | false =>
    rw [if_neg Bool.false_ne_true] at e ⊢
    cases e
    exact q H1 x1 st1
theorem w_or {rest : List Expr} (ha : SndT X sa a t) (hb : SndW X sa (.BoolOp .Or (b :: rest) pos) u) : SndW X sa (.BoolOp .Or (a :: b :: rest) pos) (tOo t u) := by
  intro ρ s r s' e Oc B O H σ ok Q q
  obtain ⟨⟨k, s1⟩, ea, e⟩ := bind_some_of e
  refine ⟨_, pw_or ptW pwW, ?_⟩
  refine ha ρ s k s1 ea Oc B O H σ ok _ fun H1 x1 st1 => ?_
  cases k with
  | true =>
    rw [if_pos rfl] at e ⊢
    cases e
    exact q H1 x1 st1
  | false =>
    rw [if_neg Bool.false_ne_true] at e ⊢
    exact hb ρ s1 r s' e Oc B O H1 σ (ok.ext x1 st1) Q fun H' x2 st2 => q H' (x1.trans x2) st2
theorem t_w (h : SndW X sa e t) : SndT X sa e t := by
  intro ρ s r s' e Oc B O H σ ok Q q
  obtain ⟨tt, p, z⟩ := h ρ s r s' e Oc B O H σ ok Q q
  exact ⟨tt, p.pt, z⟩

/-! ### arguments, displays -/
theorem a_nil : SndA X sa [] aNil := by
  intro ρ s r s' e Oc B O H σ ok Q q
  cases e
  exact ⟨_, pa_nil, q [] H (Ext.refl _ _) ok.st trivial⟩
theorem a_cons (hs : starEach (a :: es) X.env = (false, eval a X.env) :: starEach es X.env) (ha : SndE X sa a f) (hb : SndA X sa es fa) : SndA X sa (a :: es) (aCons f fa) := by
  intro ρ s r s' e Oc B O H σ ok Q q
  obtain ⟨⟨ra, s1⟩, ea, e⟩ := bind_some_of e
  obtain ⟨⟨rb, s2⟩, eb, e⟩ := bind_some_of e
  cases e
  refine ⟨_, pa_cons peW paW hs, ?_⟩
  refine ha ρ s ra s1 ea Oc B O H σ ok _ fun x H1 x1 st1 v1 => ?_
  refine hb ρ s1 rb s2 eb Oc B O H1 σ (ok.ext x1 st1) _ fun vs H2 x2 st2 v2 => ?_
  exact q (x :: vs) H2 (x1.trans x2) st2 ⟨v1.ext ok.osa ok.sao ok.has x2, v2.pre st1.has x1⟩
theorem new_st {Oc : Addr → Prop} {H : Hp} {p : Addr} {o : HO} {s : S} (st : StOk Oc sa H s) (n : H p = none) : StOk Oc sa (upd H p o) s := by
  refine st.ext (Ext.new n) ?_
  obtain ⟨u, h⟩ := st.has
  rw [upd_ne (ne_of_none h n)]
theorem s_tup {k : Nat} (ha : SndA X sa es fa) : SndE X sa (.Tuple es k pos) (eTup fa) := by
  intro ρ s r s' e Oc B O H σ ok Q q
  obtain ⟨⟨rs, s1⟩, ea, e⟩ := bind_some_of e
  obtain ⟨ds, ed, e⟩ := bind_some_of e
  split at e
  · rename_i hz
    cases e
    refine ⟨_, pe_tup paW, ?_⟩
    refine ha ρ s rs _ ea Oc B O H σ ok _ fun vs H1 x1 st1 v1 => ?_
    have v2 := RVals.out ok.trk ed v1
    refine ⟨by rw [v2.length]; exact hz, fun p np => ?_⟩
    have nO : ¬ O p := (ok.ext x1 st1).nO np
    exact q (.ref p) _ (x1.trans (Ext.new np)) (new_st st1 np) ⟨p, vs, rfl, .inl ⟨nO, upd_same⟩, v2.ext ok.osa (Ext.new np)⟩
  · cases e
theorem s_lst (ha : SndA X sa es fa) : SndE X sa (.List es pos) (eLst fa) := by
  intro ρ s r s' e Oc B O H σ ok Q q
  obtain ⟨⟨rs, s1⟩, ea, e⟩ := bind_some_of e
  obtain ⟨ds, ed, e⟩ := bind_some_of e
  split at e
  · rename_i hz
    cases e
    refine ⟨_, pe_lst paW, ?_⟩
    refine ha ρ s rs _ ea Oc B O H σ ok _ fun vs H1 x1 st1 v1 => ?_
    have v2 := RVals.out ok.trk ed v1
    refine ⟨by rw [v2.length]; exact hz, fun p np => ?_⟩
    have hp : H p = none := x1.back ((ok.ext x1 st1).sa_ne np) np
    exact q (.ref p) _ (x1.trans (Ext.new np)) (new_st st1 np) ⟨p, vs, rfl, hp, upd_same, (DqAll.hid np v2).ext (.inl ok.osa) (Ext.new np)⟩
  · cases e

/-! ### calls -/
theorem s_callD {Wt : TE} {P : (List V → Hp → VK → Prop) → Prop} {c : List D → Option Res} (hop : CallD X sa P c) (hW : ∀ r1, P r1 → ∀ σ H Q, tCB r1 (WA X es) σ H Q → Wt σ H Q) (ha : SndA X sa es fa) :
    ∀ ρ s r s', eCall c fa ρ s = some (r, s') → ∀ Oc B O H σ, Ok X.K sa Oc B O H σ ρ s →
      ∀ Q : VK, (∀ v H', Ext sa H H' → StOk Oc sa H' s' → RVal X.K Oc O sa H H' v r → Q v H') → Wt σ H Q := by
  intro ρ s r s' e Oc B O H σ ok Q q
  obtain ⟨⟨rs, s1⟩, ea, e⟩ := bind_some_of e
  obtain ⟨r', ec, e⟩ := bind_some_of e
  cases e
  obtain ⟨r1, hr, hk⟩ := hop _ _ ec
  refine hW r1 hr σ H Q ?_
  refine ha ρ s rs s1 ea Oc B O H σ ok _ fun vs H1 x1 st1 v1 => ?_
  refine hk Oc O H1 vs (ok.ext x1 st1).hd (v1.vw ok.osa ok.sao ok.has) Q fun v H' x3 e3 v3 => ?_
  exact q v H' (x1.trans x3) (st1.same x3 e3) (v3.pre st1.has x1)
theorem s_callB {id : String} {x : Str} {p : Pos} {c : List D → Option Res} (hop : CallD X sa (CallR X (.builtin id)) c) (hg : Gl X x) (hm : X.mg x = none) (hv : bootBuiltins x = some (.builtin id)) (hn : x ≠ "__name__") (hdb : (x == ("__debug__" : Str)) = false)
    (he : starEach (a :: es) X.env = (false, eval a X.env) :: starEach es X.env) (hpl : (backTo pos (starEach es X.env)).any (·.1) = false) (ha : SndA X sa (a :: es) fa) : SndE X sa (.Call (.Name x p) (a :: es) [] pos) (eCall c fa) :=
  s_callD hop (fun r1 hr σ H Q h => ⟨_, pe_callB hr hg hm hv paW hn hdb he hpl, h⟩) ha
theorem s_callTy {T : String} {x : Str} {p : Pos} {c : List D → Option Res} (hop : CallD X sa (CallR X (.type T)) c) (hg : Gl X x) (hm : X.mg x = none) (hv : bootBuiltins x = some (.type T)) (hn : x ≠ "__name__") (hdb : (x == ("__debug__" : Str)) = false)
    (he : starEach (a :: es) X.env = (false, eval a X.env) :: starEach es X.env) (hpl : (backTo pos (starEach es X.env)).any (·.1) = false) (ha : SndA X sa (a :: es) fa) : SndE X sa (.Call (.Name x p) (a :: es) [] pos) (eCall c fa) :=
  s_callD hop (fun r1 hr σ H Q h => ⟨_, pe_callTy hr hg hm hv paW hn hdb he hpl, h⟩) ha

/-- what a def promises: φ's value of its arguments' data -/
def spF (K : PySem.W.Frag) (n : Nat) (φ : List D → S → Option (D × S)) : Sp := fun vs H Q _ => ∃ (sa : Addr × Addr) (O : Addr → Prop) (ds : List D) (s : S) (d : D) (s' : S), φ ds s = some (d, s') ∧ vs.length = n ∧
  (∀ p, O p → ∃ o, H p = some o) ∧ StOk O sa H s ∧ DqAll K O sa H vs ds ∧ ∀ v H', Ext sa H H' → StOk O sa H' s' → Dq K O sa H' v d → Q v H'
/-- a def of the text that stands under a name, and keeps the promise -/
structure FnF (P : Program) (w : World) (K : PySem.W.Frag) (mg : Str → Option Value) (base : Heap) (k : Nat) (x : Str) (ps : List Str) (φ : List D → S → Option (D × S)) : Prop where
  ar : ∀ ds s r, φ ds s = some r → ds.length = ps.length
  ex : ∃ (f : Addr) (fd : FuncData), mg x = some (.ref f) ∧ PySem.W.keepIn K (.ref f) = true ∧ Binds K fd ps [] ∧ FnOk P w K mg base CX0 k f fd ps (spF K ps.length φ)
theorem FnF.mono {P : Program} {w : World} {K : PySem.W.Frag} {mg : Str → Option Value} {base : Heap} {j k : Nat} {x : Str} {ps : List Str} {φ : List D → S → Option (D × S)} (F : FnF P w K mg base j x ps φ) (h : j ≤ k) : FnF P w K mg base k x ps φ :=
  let ⟨f, fd, a, b, c, d⟩ := F.ex; ⟨F.ar, f, fd, a, b, c, d.mono h⟩
theorem s_fn {k : Nat} {x : Str} {ps : List Str} {φ : List D → S → Option (D × S)} {p : Pos} (F : FnF X.prog X.w X.K X.mg X.base k x ps φ) (hr : Room k X.A) (hg : Gl X x) (hdb : (x == ("__debug__" : Str)) = false)
    (he : starEach (a :: es) X.env = (false, eval a X.env) :: starEach es X.env) (hpl : (backTo pos (starEach es X.env)).any (·.1) = false) (ha : SndA X sa (a :: es) fa) : SndE X sa (.Call (.Name x p) (a :: es) [] pos) (eFn φ fa) := by
  intro ρ s r s' e Oc B O H σ ok Q q
  obtain ⟨⟨rs, s1⟩, ea, e⟩ := bind_some_of e
  obtain ⟨ds, ed, e⟩ := bind_some_of e
  obtain ⟨⟨d, s2⟩, eφ, e⟩ := bind_some_of e
  cases e
  have har := F.ar _ _ _ eφ
  obtain ⟨f, fd, hm, hk, hb, F⟩ := F.ex
  refine ⟨_, pe_call (dvs := []) F hr hg hm hk hb .nil pass0 paW hdb he hpl, ?_⟩
  refine ha ρ s rs s1 ea Oc B O H σ ok _ fun vs H1 x1 st1 v1 => ?_
  have ok1 := ok.ext x1 st1
  have v2 := RVals.out ok.trk ed v1
  refine ⟨sa, O, ds, s1, d, _, eφ, ?_, ok1.trk, st1.mono ok.sub, ?_, fun v H' x2 st2 dv => ?_⟩
  · rw [List.append_nil, v2.length, har]
  · rw [List.append_nil]; exact v2
  · refine q v H' (x1.trans x2) ?_ dv
    exact st2.to ok.st
end
end PL

set_option Elab.async false
set_option linter.all false
set_option maxRecDepth 100000
set_option maxHeartbeats 4000000
/-! PL4: targets, what is walked, comprehensions, statements, blocks, loops. -/
namespace PL
open PySem PySem.Spec PyProof.Rows L2

inductive Out where
  | nx (ρ : Env) (s : S)
  | rt (d : D) (s : S)
  | bk (ρ : Env) (s : S)
  | ct (ρ : Env) (s : S)
abbrev FS := Env → S → Option Out
abbrev FG := D → Env → Option Env
abbrev FI := Env → S → Option (Bool × List D × S)

/-! ### more of environments -/
section
variable {K : PySem.W.Frag} {sa : Addr × Addr} {Oc O O' : Addr → Prop} {B H H' : Hp} {σ : L2.St} {ρ : Env} {s s' : S} {v : V} {e : Ent} {i : Nat} {d : D} {ds : List D} {p : Addr} {o : HO}
theorem upd_at {H : Hp} {p a : Addr} {o : HO} {u : Option HO} (n : a ≠ p) (e : H a = u) : upd H p o a = u := by rw [upd_ne n]; exact e
theorem Ok.fresh_ne (h : Ok K sa Oc B O H σ ρ s) (n : H p = none) : p ≠ sa.1 := h.sa_ne n
/-- a new object, hidden -/
theorem Ok.hide (h : Ok K sa Oc B O H σ ρ s) (n : H p = none) : Ok K sa Oc B (hid O p) (upd H p o) σ ρ s where
  keep := fun a u e => let ⟨z, q⟩ := h.keep a u e; ⟨z, Ext.new (sa := sa) n a u z q⟩
  sub := fun q z => .inl (h.sub q z)
  trk := fun q z => by
    rcases z with z | z
    · obtain ⟨u, e⟩ := h.trk q z
      exact ⟨u, by rw [upd_ne (ne_of_none e n)]; exact e⟩
    · exact ⟨o, by rw [z, upd_same]⟩
  new := fun q z => by
    rcases z with z | z
    · exact h.new q z
    · refine .inr ?_
      cases hb : B q with
      | none => rfl
      | some u =>
        have := (h.keep q u hb).2
        rw [z, n] at this; cases this
  st := new_st h.st n
  len := h.len
  slot := fun i e q => by
    obtain ⟨v, e1, q⟩ := h.slot i e q
    refine ⟨v, e1, ?_⟩
    cases e with
    | sh d => exact Dq.ext (.inl h.osa) (Ext.new n) (Dq.hid n q)
    | ow ds =>
      obtain ⟨a, vs, e1, e2, oo, no, q⟩ := q
      exact ⟨a, vs, e1, by rw [upd_ne (ne_of_none e2 n)]; exact e2, .inl oo, no, (DqAll.hid n q).ext (.inl h.osa) (Ext.new n)⟩
  inj := h.inj
/-- a hidden list (an own one, or one in the making) is written -/
theorem Ok.write (h : Ok K sa Oc B O H σ ρ s) (hp : O p) (hc : ¬ Oc p) (hno : ∀ (i : Nat) (ds : List D), ρ[i]? = some (some (.ow ds)) → σ[i]? ≠ some (some (.ref p))) : Ok K sa Oc B O (upd H p o) σ ρ s where
  keep := fun a u e => by
    obtain ⟨z, q⟩ := h.keep a u e
    refine ⟨z, ?_⟩
    rw [upd_ne]
    · exact q
    · rintro rfl
      rcases h.new a hp with c | c
      · exact hc c
      · rw [c] at e; cases e
  sub := h.sub
  trk := fun q z => by
    by_cases e : q = p
    · exact ⟨o, by rw [e, upd_same]⟩
    · rw [upd_ne e]; exact h.trk q z
  new := h.new
  st := by
    obtain ⟨a, b, c, d, e⟩ := h.st
    exact ⟨a, b, c, upd_at (fun z => hc (z ▸ c)) d, upd_at (fun z => hc (z ▸ b)) e⟩
  len := h.len
  slot := fun i e q => by
    obtain ⟨v, e1, q2⟩ := h.slot i e q
    refine ⟨v, e1, ?_⟩
    have tr : ∀ a u, ¬ O a → H a = some u → ¬ O a ∧ upd H p o a = some u := fun a u n q => ⟨n, upd_at (fun z => n (z.symm ▸ hp)) q⟩
    cases e with
    | sh d => exact Dq.tr tr q2
    | ow ds =>
      obtain ⟨a, vs, e2, e3, oo, no, q2⟩ := q2
      subst e2
      exact ⟨a, vs, rfl, upd_at (fun z => hno i ds q (z ▸ e1)) e3, oo, no, DqAll.tr tr q2⟩
  inj := h.inj
theorem set_some {α : Type} {l : List α} {i j : Nat} {a b : α} (h : (l.set i a)[j]? = some b) : (i = j ∧ a = b ∧ j < l.length) ∨ (i ≠ j ∧ l[j]? = some b) := by
  by_cases e : i = j
  · subst e
    by_cases hl : i < l.length
    · rw [List.getElem?_set_self hl] at h; cases h; exact .inl ⟨rfl, rfl, hl⟩
    · rw [List.getElem?_eq_none (by simpa using hl)] at h; cases h
  · rw [List.getElem?_set_ne e] at h; exact .inr ⟨e, h⟩
/-- a slot is stored, a shared value -/
theorem Ok.setSh (h : Ok K sa Oc B O H σ ρ s) (q : Dq K O sa H v d) : Ok K sa Oc B O H (σ.set i (some v)) (ρ.set i (some (.sh d))) s where
  keep := h.keep
  sub := h.sub
  trk := h.trk
  new := h.new
  st := h.st
  len := by simpa using h.len
  slot := fun j e z => by
    rcases set_some z with ⟨rfl, e1, hl⟩ | ⟨ne, z⟩
    · cases e1
      exact ⟨v, by rw [List.getElem?_set_self (by rw [h.len]; exact hl)], q⟩
    · obtain ⟨u, e1, q⟩ := h.slot j e z
      exact ⟨u, by rw [List.getElem?_set_ne ne]; exact e1, q⟩
  inj := fun j k a ds es h1 h2 h3 h4 => by
    rcases set_some h1 with ⟨_, e, _⟩ | ⟨n1, h1⟩
    · cases e
    · rcases set_some h2 with ⟨_, e, _⟩ | ⟨n2, h2⟩
      · cases e
      · rw [List.getElem?_set_ne n1] at h3
        rw [List.getElem?_set_ne n2] at h4
        exact h.inj j k a ds es h1 h2 h3 h4
/-- a slot is stored, an own list -/
theorem Ok.setOw {vs : List V} (h : Ok K sa Oc B O H σ ρ s) (e2 : H p = some (.lst vs)) (oo : O p) (no : ¬ Oc p) (q : DqAll K O sa H vs ds)
    (hno : ∀ (j : Nat) (es : List D), j ≠ i → ρ[j]? = some (some (.ow es)) → σ[j]? ≠ some (some (.ref p))) : Ok K sa Oc B O H (σ.set i (some (.ref p))) (ρ.set i (some (.ow ds))) s where
  keep := h.keep
  sub := h.sub
  trk := h.trk
  new := h.new
  st := h.st
  len := by simpa using h.len
  slot := fun j e z => by
    rcases set_some z with ⟨rfl, e1, hl⟩ | ⟨ne, z⟩
    · cases e1
      exact ⟨.ref p, by rw [List.getElem?_set_self (by rw [h.len]; exact hl)], p, vs, rfl, e2, oo, no, q⟩
    · obtain ⟨u, e1, q⟩ := h.slot j e z
      exact ⟨u, by rw [List.getElem?_set_ne ne]; exact e1, q⟩
  inj := fun j k a es fs h1 h2 h3 h4 => by
    rcases set_some h1 with ⟨j1, _, l1⟩ | ⟨n1, h1⟩
    · rcases set_some h2 with ⟨j2, _, _⟩ | ⟨n2, h2⟩
      · exact j1.symm.trans j2
      · subst j1
        rw [List.getElem?_set_self (by rw [h.len]; exact l1)] at h3
        cases h3
        rw [List.getElem?_set_ne n2] at h4
        exact absurd h4 (hno k fs (Ne.symm n2) h2)
    · rw [List.getElem?_set_ne n1] at h3
      rcases set_some h2 with ⟨j2, _, l2⟩ | ⟨n2, h2⟩
      · subst j2
        rw [List.getElem?_set_self (by rw [h.len]; exact l2)] at h4
        cases h4
        exact absurd h3 (hno j es (Ne.symm n1) h1)
      · rw [List.getElem?_set_ne n2] at h4
        exact h.inj j k a es fs h1 h2 h3 h4
/-- no own slot holds what is free -/
theorem Ok.noOw (h : Ok K sa Oc B O H σ ρ s) (n : H p = none) {j : Nat} {es : List D} (e : ρ[j]? = some (some (.ow es))) : σ[j]? ≠ some (some (.ref p)) := fun z => by
  obtain ⟨v, e1, a, vs, e2, e3, _⟩ := h.slot j _ e
  rw [z] at e1
  cases e1
  cases e2
  rw [e3] at n; cases n
/-- forgotten slots -/
def wipeR (ρ : Env) : List Nat → Env
  | [] => ρ
  | v :: vs => (wipeR ρ vs).set v none
theorem wipeR_some {e : Ent} : ∀ {vs : List Nat}, (wipeR ρ vs)[i]? = some (some e) → ρ[i]? = some (some e) ∧ i ∉ vs
  | [], h => ⟨h, by simp⟩
  | v :: vs, h => by
    rcases set_some h with ⟨_, e, _⟩ | ⟨n, h⟩
    · cases e
    · obtain ⟨h1, h2⟩ := wipeR_some h
      exact ⟨h1, by simp only [List.mem_cons, not_or]; exact ⟨Ne.symm n, h2⟩⟩
theorem wipe_out' {σ : L2.St} {i : Nat} : ∀ {vs : List Nat}, i ∉ vs → (wipe σ vs)[i]? = σ[i]?
  | [], _ => rfl
  | v :: vs, h => by
    simp only [List.mem_cons, not_or] at h
    show ((wipe σ vs).set v none)[i]? = _
    rw [List.getElem?_set_ne (Ne.symm h.1)]
    exact wipe_out' h.2
theorem wipeR_length : ∀ vs : List Nat, (wipeR ρ vs).length = ρ.length
  | [] => rfl
  | v :: vs => by show ((wipeR ρ vs).set v none).length = _; rw [List.length_set, wipeR_length vs]
theorem Ok.wipe (h : Ok K sa Oc B O H σ ρ s) (vs : List Nat) : Ok K sa Oc B O H (L2.wipe σ vs) (wipeR ρ vs) s where
  keep := h.keep
  sub := h.sub
  trk := h.trk
  new := h.new
  st := h.st
  len := by rw [wipe_length, wipeR_length, h.len]
  slot := fun j e z => by
    obtain ⟨z, n⟩ := wipeR_some z
    obtain ⟨u, e1, q⟩ := h.slot j e z
    exact ⟨u, by rw [wipe_out' n]; exact e1, q⟩
  inj := fun j k a es fs h1 h2 h3 h4 => by
    obtain ⟨h1, n1⟩ := wipeR_some h1
    obtain ⟨h2, n2⟩ := wipeR_some h2
    rw [wipe_out' n1] at h3
    rw [wipe_out' n2] at h4
    exact h.inj j k a es fs h1 h2 h3 h4
theorem wipe_get {σ : L2.St} {i : Nat} : ∀ {vs : List Nat}, i ∈ vs → (wipe σ vs)[i]? = if i < σ.length then some none else none
  | [], h => absurd h (by simp)
  | v :: vs, h => by
    show ((wipe σ vs).set v none)[i]? = _
    by_cases e : v = i
    · subst e
      by_cases hl : v < σ.length
      · rw [List.getElem?_set_self (by rw [wipe_length]; exact hl), if_pos hl]
      · rw [List.getElem?_eq_none (by rw [List.length_set, wipe_length]; omega), if_neg hl]
    · rw [List.getElem?_set_ne e]
      exact wipe_get ((List.mem_cons.mp h).resolve_left (Ne.symm e))
theorem wipe_set {σ : L2.St} {i : Nat} {x : Option V} {vs : List Nat} (h : i ∈ vs) : L2.wipe (σ.set i x) vs = L2.wipe σ vs := by
  apply List.ext_getElem?
  intro j
  by_cases e : j ∈ vs
  · rw [wipe_get e, wipe_get e, List.length_set]
  · have ne : i ≠ j := fun z => e (z ▸ h)
    rw [wipe_out' e, wipe_out' e, List.getElem?_set_ne ne]
theorem wipe_wipe {σ : L2.St} {vs : List Nat} : L2.wipe (L2.wipe σ vs) vs = L2.wipe σ vs := by
  apply List.ext_getElem?
  intro j
  by_cases e : j ∈ vs
  · rw [wipe_get e, wipe_get e, wipe_length]
  · rw [wipe_out' e]
/-- all that is not hidden is kept from now on -/
noncomputable def gB (B : Hp) (O : Addr → Prop) (H : Hp) : Hp := fun a => open Classical in if O a then B a else H a
theorem Ok.enter (h : Ok K sa Oc B O H σ ρ s) : Ok K sa Oc (gB B O H) O H σ ρ s where
  keep := fun a u e => by
    unfold gB at e
    split at e
    · exact h.keep a u e
    · rename_i n
      exact ⟨fun z => n (z ▸ h.osa), e⟩
  sub := h.sub
  trk := h.trk
  new := fun p z => by
    rcases h.new p z with c | c
    · exact .inl c
    · exact .inr (by unfold gB; rw [if_pos z]; exact c)
  st := h.st
  len := h.len
  slot := h.slot
  inj := h.inj
theorem gB_of (h : Ok K sa Oc B O H σ ρ s) {a : Addr} {u : HO} (e : B a = some u) : gB B O H a = some u := by
  unfold gB
  split
  · exact e
  · exact (h.keep a u e).2
theorem gB_in {a : Addr} {u : HO} (n : ¬ O a) (e : H a = some u) : gB B O H a = some u := by
  unfold gB; rw [if_neg n]; exact e
theorem Ok.leave {σ' : L2.St} {ρ' : Env} (h : Ok K sa Oc B O H σ ρ s) (k : Ok K sa Oc (gB B O H) O' H' σ' ρ' s') : Ok K sa Oc B O' H' σ' ρ' s' where
  keep := fun a u e => k.keep a u (gB_of h e)
  sub := k.sub
  trk := k.trk
  new := fun p z => by
    rcases k.new p z with c | c
    · exact .inl c
    · refine .inr ?_
      cases hb : B p with
      | none => rfl
      | some u => rw [gB_of h hb] at c; cases c
  st := k.st
  len := k.len
  slot := k.slot
  inj := k.inj
/-- what was not hidden at the entry is neither hidden nor changed now -/
theorem Ok.since {σ' : L2.St} {ρ' : Env} (h : Ok K sa Oc B O H σ ρ s) (k : Ok K sa Oc (gB B O H) O' H' σ' ρ' s') : ∀ a u, ¬ O a → H a = some u → ¬ O' a ∧ H' a = some u := fun a u n e =>
  ⟨fun z => (k.new a z).elim (fun c => n (h.sub a c)) (fun c => absurd ((gB_in n e).symm.trans c) (fun z => nomatch z)), (k.keep a u (gB_in n e)).2⟩
end

/-! ### targets -/
section
variable (X : Cx) (sa : Addr × Addr)
def SndG (sl : List Nat) (tg : Expr) (g : FG) : Prop := ∀ d ρ ρ', g d ρ = some ρ' → ∀ Oc B O H σ s v, Ok X.K sa Oc B O H σ ρ s → Dq X.K O sa H v d →
  ∀ Q : L2.St → Hp → Prop, (∀ σ', Ok X.K sa Oc B O H σ' ρ' s → (∀ vs : List Nat, (∀ i ∈ sl, i ∈ vs) → L2.wipe σ' vs = L2.wipe σ vs) → Q σ' H) → WG X tg v σ H Q
def SndGs (sl : List Nat) (tgs : List Expr) (g : List D → Env → Option Env) : Prop := ∀ ds ρ ρ', g ds ρ = some ρ' → ∀ Oc B O H σ s vs, Ok X.K sa Oc B O H σ ρ s → DqAll X.K O sa H vs ds →
  ∀ Q : L2.St → Hp → Prop, (∀ σ', Ok X.K sa Oc B O H σ' ρ' s → (∀ vs : List Nat, (∀ i ∈ sl, i ∈ vs) → L2.wipe σ' vs = L2.wipe σ vs) → Q σ' H) → WGs X tgs vs σ H Q
end
def gN (i : Nat) : FG := fun d ρ => some (ρ.set i (some (.sh d)))
def gT (g : List D → Env → Option Env) : FG := fun d ρ => match d with
  | .tup ds => g ds ρ
  | _ => none
def gs0 : List D → Env → Option Env := fun ds ρ => match ds with
  | [] => some ρ
  | _ => none
def gsC (g : FG) (h : List D → Env → Option Env) : List D → Env → Option Env := fun ds ρ => match ds with
  | d :: ds => (g d ρ).bind fun ρ1 => h ds ρ1
  | [] => none
section
variable {X : Cx} {sa : Addr × Addr} {sl sl' : List Nat} {tg : Expr} {tgs : List Expr} {g : FG} {h : List D → Env → Option Env} {pos : Pos}
theorem g_nm {i : Nat} {x : Str} (hN : X.N.Nodup) (hi : X.N[i]? = some x) (hx : Loc X.env.scope x) (hf : X.fn x = true ∨ X.env.scope.names.lookup x = some .local) : SndG X sa [i] (.Name x pos) (gN i) := by
  intro d ρ ρ' e Oc B O H σ s v ok dq Q q
  cases e
  exact ⟨_, pg_name hN hi hx hf, q _ (ok.setSh dq) fun vs hv => wipe_set (hv i (by simp))⟩
theorem gs_nil : SndGs X sa [] [] gs0 := by
  intro ds ρ ρ' e Oc B O H σ s vs ok dq Q q
  cases ds with
  | nil =>
    cases e
    cases vs with
    | nil => exact ⟨_, pgs_nil, rfl, q σ ok fun _ _ => rfl⟩
    | cons _ _ => exact dq.elim
  | cons _ _ => cases e
theorem gs_cons (hs : (assignEach (tg :: tgs) X.env).map (·.2) = assign tg X.env :: (assignEach tgs X.env).map (·.2)) (h1 : SndG X sa sl tg g) (h2 : SndGs X sa sl' tgs h) : SndGs X sa (sl ++ sl') (tg :: tgs) (gsC g h) := by
  intro ds ρ ρ' e Oc B O H σ s vs ok dq Q q
  cases ds with
  | nil => cases e
  | cons d ds =>
    cases vs with
    | nil => exact dq.elim
    | cons v vs =>
      obtain ⟨ρ1, e1, e2⟩ := bind_some_of e
      refine ⟨_, pgs_cons pgW pgsW hs, v, vs, rfl, ?_⟩
      refine h1 d ρ ρ1 e1 Oc B O H σ s v ok dq.1 _ fun σ1 ok1 w1 => ?_
      refine h2 ds ρ1 ρ' e2 Oc B O H σ1 s vs ok1 dq.2 _ fun σ2 ok2 w2 => ?_
      exact q σ2 ok2 fun us hu => (w2 us fun i hi => hu i (List.mem_append_right _ hi)).trans (w1 us fun i hi => hu i (List.mem_append_left _ hi))
theorem g_tup {n k : Nat} (hc : X.calm = true) (hn : (assignEach tgs X.env).length = n) (hst : (assignEach tgs X.env).findIdx? (·.1) = none) (hl : ∀ ds ρ r, h ds ρ = some r → ds.length = n) (h1 : SndGs X sa sl tgs h) : SndG X sa sl (.Tuple tgs k pos) (gT h) := by
  intro d ρ ρ' e Oc B O H σ s v ok dq Q q
  cases d with
  | tup ds =>
    obtain ⟨a, xs, rfl, t, dq⟩ := dq
    refine ⟨_, pg_tup hc pgsW hn hst, a, xs, rfl, t.sq, ?_, h1 ds ρ ρ' e Oc B O H σ s xs ok dq Q q⟩
    rw [dq.length, hl ds ρ ρ' e]
  | _ => cases e
theorem gs0_len {ds : List D} {ρ r : Env} (e : gs0 ds ρ = some r) : ds.length = 0 := by
  cases ds with
  | nil => rfl
  | cons _ _ => cases e
theorem gsC_len {g : FG} {h : List D → Env → Option Env} {n : Nat} (hh : ∀ ds ρ r, h ds ρ = some r → ds.length = n) {ds : List D} {ρ r : Env} (e : gsC g h ds ρ = some r) : ds.length = n + 1 := by
  cases ds with
  | nil => cases e
  | cons d ds =>
    obtain ⟨ρ1, _, e2⟩ := bind_some_of e
    rw [List.length_cons, hh ds ρ1 r e2]
end

/-! ### what is walked -/
structure ItOk (K : PySem.W.Frag) (sa : Addr × Addr) (J : It) (ds : List D) (H1 : Hp) (O : Addr → Prop) (lent : Bool) (St : Hp → Prop) : Prop where
  stab : ∀ H2 : Hp, (∀ a o, (lent = true → a ≠ sa.1) → (lent = false → ¬ O a) → H1 a = some o → H2 a = some o) → St H2
  go : ∀ i H2, i < ds.length → St H2 → J.go i H2
  yl : ∀ i d H2 x H3, ds[i]? = some d → St H2 → J.yld i H2 x H3 → (∀ a o, H2 a = some o → H3 a = some o) ∧ ∀ O2 : Addr → Prop, O2 sa.1 → (∃ o, H2 sa.1 = some o) → (∀ a o, ¬ O a → H1 a = some o → ¬ O2 a ∧ H2 a = some o) → (∀ p, O2 p → ∃ o, H2 p = some o) → Dq K O2 sa H3 x d
  stop : ∀ H2, St H2 → J.stop ds.length H2
section
variable (X : Cx) (sa : Addr × Addr)
def SndI (tg iter : Expr) (fi : FI) : Prop := ∀ ρ s b ds s', fi ρ s = some (b, ds, s') → ∀ Oc B O H σ, Ok X.K sa Oc B O H σ ρ s →
  ∀ R : It → Hp → Prop, (∀ J St H1, Ext sa H H1 → StOk Oc sa H1 s' → ItOk X.K sa J ds H1 O b St → R J H1) → WI X tg iter σ H R
end
def iSeq (f : FE) : FI := fun ρ s => (f ρ s).bind fun a => match a.1 with
  | .sh (.lst ds) => some (false, ds, a.2)
  | .sh (.tup ds) => some (false, ds, a.2)
  | .fr ds => some (false, ds, a.2)
  | .bo ds => some (true, ds, a.2)
  | _ => none
/-! bounds, not to be evaluated -/
theorem sl_of {n : Nat} (h : n ≤ 1000) : n ≤ sizeLine := Nat.le_of_lt (small1000 (by omega))
@[simp] theorem sl_0 : 0 ≤ sizeLine := Nat.zero_le _
@[simp] theorem sl_1 : 1 ≤ sizeLine := sl_of (by omega)
@[simp] theorem sl_2 : 2 ≤ sizeLine := sl_of (by omega)
@[simp] theorem sl_3 : 3 ≤ sizeLine := sl_of (by omega)
@[simp] theorem sl_4 : 4 ≤ sizeLine := sl_of (by omega)
@[simp] theorem sl_5 : 5 ≤ sizeLine := sl_of (by omega)
@[simp] theorem sl_6 : 6 ≤ sizeLine := sl_of (by omega)
def okR (n : Int) : Prop := -(2 ^ 62) ≤ n ∧ n < 2 ^ 62
noncomputable instance (n : Int) : Decidable (okR n) := Classical.propDecidable _
theorem okR_of {n : Int} (h : -1000000000 ≤ n ∧ n ≤ 1000000000) : okR n := by
  unfold okR; omega
def okT (n : Int) : Prop := 0 ≤ n ∧ n ≤ 16777216
noncomputable instance (n : Int) : Decidable (okT n) := Classical.propDecidable _
theorem okT_of {n : Int} (h : 0 ≤ n ∧ n ≤ 1000000) : okT n := by
  unfold okT; omega
def okM (a b : Int) : Prop := (-(2 ^ 64) < a ∧ a < 2 ^ 64) ∨ (-(2 ^ 64) < b ∧ b < 2 ^ 64)
noncomputable instance (a b : Int) : Decidable (okM a b) := Classical.propDecidable _
theorem okM_l {a b : Int} (h : -1000000000 ≤ a ∧ a ≤ 1000000000) : okM a b := by
  unfold okM; omega
theorem okM_r {a b : Int} (h : -1000000000 ≤ b ∧ b ≤ 1000000000) : okM a b := by
  unfold okM; omega
def okML (n : Nat) (k : Int) : Prop := -(2 ^ 63) ≤ k ∧ k < 2 ^ 63 ∧ n * k.toNat ≤ sizeLine
noncomputable instance (n : Nat) (k : Int) : Decidable (okML n k) := Classical.propDecidable _
theorem okML_of {n : Nat} {k : Int} (h : n ≤ 30) (h2 : -1000 ≤ k ∧ k ≤ 30) : okML n k := by
  refine ⟨by omega, by omega, sl_of ?_⟩
  have : n * k.toNat ≤ 30 * 30 := Nat.mul_le_mul h (by omega)
  omega
theorem okML_1 {k : Int} (h2 : -1000 ≤ k ∧ k ≤ 1000) : okML 1 k := by
  refine ⟨by omega, by omega, sl_of ?_⟩
  omega
def okDv (b : Int) : Prop := 0 < b ∧ b < 1073741824
noncomputable instance (b : Int) : Decidable (okDv b) := Classical.propDecidable _
theorem okDv_of {b : Int} (h : 0 < b ∧ b ≤ 1000000000) : okDv b := by
  unfold okDv; omega
def okDr (n c : Int) : Prop := (0 < n ∧ n < 1073741824) ∧ 0 ≤ c ∧ c < 4611686018427387904
noncomputable instance (n c : Int) : Decidable (okDr n c) := Classical.propDecidable _
theorem okDr_of {n c : Int} (h : 0 < n ∧ n ≤ 1000000) (hc : 0 ≤ c ∧ c ≤ 1000000000) : okDr n c := by
  unfold okDr; omega
def rngD (lo hi : Int) : List D := (List.range (hi - lo).toNat).map fun i => D.int (lo + (i : Nat))
noncomputable def iRg1 (f : FE) : FI := fun ρ s => (f ρ s).bind fun a => match a.1.d with
  | .int n => if okR n then some (false, rngD 0 n, a.2) else none
  | _ => none
noncomputable def iRg2 (f g : FE) : FI := fun ρ s => (f ρ s).bind fun a => (g ρ a.2).bind fun b => match a.1.d, b.1.d with
  | .int m, .int n => if okR m ∧ okR n then some (false, rngD m n, b.2) else none
  | _, _ => none
section
variable {X : Cx} {sa : Addr × Addr} {tg iter a b : Expr} {f g : FE} {pos p : Pos}
theorem it_list {K : PySem.W.Frag} {O : Addr → Prop} {H1 : Hp} {q : Addr} {vs : List V} {ds : List D} {lent : Bool} (hq : q ≠ sa.1) (hn : lent = false → ¬ O q) (hl : H1 q = some (.lst vs)) (hd : DqAll K O sa H1 vs ds) :
    ItOk K sa (Itl K q) ds H1 O lent (fun H2 => H2 q = some (.lst vs)) where
  stab := fun H2 h => h q _ (fun _ => hq) hn hl
  go := fun i H2 hi st => by
    obtain ⟨d, e⟩ : ∃ d, ds[i]? = some d := ⟨ds[i], List.getElem?_eq_getElem hi⟩
    obtain ⟨v, e2, _⟩ := hd.get e
    exact ⟨vs, v, SqL.of st, e2⟩
  yl := fun i d H2 x H3 e st y => by
    obtain ⟨y1, y2⟩ := y
    subst y1
    refine ⟨fun _ _ h => h, fun O2 so _ tr _ => ?_⟩
    obtain ⟨v, e2, dq⟩ := hd.get e
    have e3 := y2 vs (SqL.of st)
    rw [e3] at e2
    cases e2
    exact Dq.tr tr dq
  stop := fun H2 st => ⟨vs, SqL.of st, by rw [hd.length]; exact Nat.le_refl _⟩
theorem it_tup {K : PySem.W.Frag} {O : Addr → Prop} {H1 : Hp} {q : Addr} {vs : List V} {ds : List D} (so : O sa.1) (hl : Tp K O H1 q vs) (hd : DqAll K O sa H1 vs ds) :
    ItOk K sa (Itt K q) ds H1 O false (fun H2 => SqT K H2 q vs) where
  stab := fun H2 h => by
    rcases hl with ⟨n, hl⟩ | hl
    · exact SqT.of (h q _ (fun z => nomatch z) (fun _ => n) hl)
    · exact hl H2
  go := fun i H2 hi st => by
    obtain ⟨d, e⟩ : ∃ d, ds[i]? = some d := ⟨ds[i], List.getElem?_eq_getElem hi⟩
    obtain ⟨v, e2, _⟩ := hd.get e
    exact ⟨vs, v, st, e2⟩
  yl := fun i d H2 x H3 e st y => by
    obtain ⟨y1, y2⟩ := y
    subst y1
    refine ⟨fun _ _ h => h, fun O2 so _ tr _ => ?_⟩
    obtain ⟨v, e2, dq⟩ := hd.get e
    have e3 := y2 vs st
    rw [e3] at e2
    cases e2
    exact Dq.tr tr dq
  stop := fun H2 st => ⟨vs, st, by rw [hd.length]; exact Nat.le_refl _⟩
theorem it_rng {K : PySem.W.Frag} {O : Addr → Prop} {H1 : Hp} {lo hi : Int} : ItOk K sa (Itr lo (hi - lo).toNat) (rngD lo hi) H1 O false (fun _ => True) where
  stab := fun _ _ => trivial
  go := fun i H2 h _ => by
    unfold rngD at h
    rw [List.length_map, List.length_range] at h
    exact h
  yl := fun i d H2 x H3 e _ y => by
    obtain ⟨y1, y2⟩ := y
    subst y1
    refine ⟨fun _ _ h => h, fun O2 _ _ _ _ => ?_⟩
    unfold rngD at e
    rw [List.getElem?_map] at e
    cases h : (List.range (hi - lo).toNat)[i]? with
    | none => rw [h] at e; cases e
    | some j =>
      rw [h] at e
      cases e
      have : j = i := by
        rw [List.getElem?_range] at h
        · cases h; rfl
        · by_cases z : i < (hi - lo).toNat
          · exact z
          · rw [List.getElem?_eq_none (by rw [List.length_range]; omega)] at h; cases h
      subst this
      exact y2
  stop := fun H2 _ => by
    show (hi - lo).toNat ≤ _
    unfold rngD
    rw [List.length_map, List.length_range]
    exact Nat.le_refl _
theorem i_seq (ha : SndE X sa a f) : SndI X sa tg a (iSeq f) := by
  intro ρ s bb ds s' e Oc B O H σ ok R q
  obtain ⟨⟨ra, s1⟩, ea, e⟩ := bind_some_of e
  have lst : ∀ (es : List D) (lent : Bool), (∀ x H1, Ext sa H H1 → StOk Oc sa H1 s1 → RVal X.K Oc O sa H H1 x ra → ∃ p vs, x = .ref p ∧ p ≠ sa.1 ∧ (lent = false → ¬ O p) ∧ H1 p = some (.lst vs) ∧ DqAll X.K O sa H1 vs es) →
      (∀ J St H1, Ext sa H H1 → StOk Oc sa H1 s1 → ItOk X.K sa J es H1 O lent St → R J H1) → WI X tg a σ H R := fun es lent hh q => by
    refine ⟨_, pi_list peW, ?_⟩
    refine ha ρ s ra s1 ea Oc B O H σ ok _ fun x H1 x1 st1 v1 => ?_
    obtain ⟨p, vs, rfl, np, nO, hl, hd⟩ := hh x H1 x1 st1 v1
    exact ⟨p, rfl, ⟨vs, SqL.of hl⟩, q _ _ H1 x1 st1 (it_list np nO hl hd)⟩
  cases ra with
  | sh d =>
    cases d with
    | lst es =>
      cases e
      refine lst ds false (fun x H1 x1 st1 v1 => ?_) q
      obtain ⟨p, vs, e1, nO, hl, hd⟩ := v1
      exact ⟨p, vs, e1, fun z => nO (z ▸ ok.osa), fun _ => nO, hl, hd⟩
    | tup es =>
      cases e
      refine ⟨_, pi_tup peW, ?_⟩
      refine ha ρ s _ s1 ea Oc B O H σ ok _ fun x H1 x1 st1 v1 => ?_
      obtain ⟨p, vs, rfl, t, hd⟩ := v1
      exact ⟨p, rfl, ⟨vs, t.sq⟩, q _ _ H1 x1 st1 (it_tup ok.osa t hd)⟩
    | _ => cases e
  | bo es =>
    cases e
    refine lst ds true (fun x H1 x1 st1 v1 => ?_) q
    obtain ⟨p, vs, e1, n, hl, hd⟩ := v1
    exact ⟨p, vs, e1, fun z => n (z ▸ ok.sao), (fun z => Bool.noConfusion z), hl, hd⟩
  | fr es =>
    cases e
    refine lst ds false (fun x H1 x1 st1 v1 => ?_) q
    obtain ⟨p, vs, e1, n, hl, hd⟩ := v1
    exact ⟨p, vs, e1, ok.sa_ne n, fun _ => ok.nO n, hl, hd.unhid⟩
theorem i_rg1 (hg : Gl X "range") (hm : X.mg "range" = none) (hs : starEach [a] X.env = [(false, eval a X.env)]) (ha : SndE X sa a f) : SndI X sa tg (.Call (.Name "range" p) [a] [] pos) (iRg1 f) := by
  intro ρ s bb ds s' e Oc B O H σ ok R q
  obtain ⟨⟨ra, s1⟩, ea, e⟩ := bind_some_of e
  split at e
  · rename_i n hn
    split at e
    · rename_i hz
      have hz : -(2 ^ 62) ≤ n ∧ n < 2 ^ 62 := hz
      cases e
      refine ⟨_, pi_range1 hg hm (pa_cons peW pa_nil hs) hs, ?_⟩
      refine ha ρ s ra _ ea Oc B O H σ ok _ fun x H1 x1 st1 v1 => ?_
      have v2 := v1.vw ok.osa ok.sao ok.has
      rw [hn] at v2
      have v3 : x = .int n := v2
      subst v3
      refine ⟨n, rfl, hz.1, hz.2, ?_⟩
      have := it_rng (K := X.K) (sa := sa) (O := O) (H1 := H1) (lo := 0) (hi := n)
      rw [Int.sub_zero] at this
      exact q _ _ H1 x1 st1 this
    · cases e
  · cases e
theorem i_rg2 (hg : Gl X "range") (hm : X.mg "range" = none) (hs : starEach [a, b] X.env = [(false, eval a X.env), (false, eval b X.env)]) (hs2 : starEach [b] X.env = [(false, eval b X.env)]) (ha : SndE X sa a f) (hb : SndE X sa b g) :
    SndI X sa tg (.Call (.Name "range" p) [a, b] [] pos) (iRg2 f g) := by
  intro ρ s bb ds s' e Oc B O H σ ok R q
  obtain ⟨⟨ra, s1⟩, ea, e⟩ := bind_some_of e
  obtain ⟨⟨rb, s2⟩, eb, e⟩ := bind_some_of e
  split at e
  · rename_i m n hm' hn
    split at e
    · rename_i hz
      have hz : (-(2 ^ 62) ≤ m ∧ m < 2 ^ 62) ∧ -(2 ^ 62) ≤ n ∧ n < 2 ^ 62 := hz
      cases e
      refine ⟨_, pi_range2 hg hm (pa_cons peW (pa_cons peW pa_nil hs2) (by rw [hs, hs2])) hs hs2, ?_⟩
      refine ha ρ s ra s1 ea Oc B O H σ ok _ fun x H1 x1 st1 v1 => ?_
      have ok1 := ok.ext x1 st1
      refine hb ρ s1 rb _ eb Oc B O H1 σ ok1 _ fun y H2 x2 st2 v2 => ?_
      have w1 := v1.vw ok.osa ok.sao ok.has
      have w2 := v2.vw ok.osa ok.sao ok1.has
      rw [show ra.d = .int m from hm'] at w1
      rw [show rb.d = .int n from hn] at w2
      have z1 : x = .int m := w1
      have z2 : y = .int n := w2
      subst z1
      subst z2
      exact ⟨m, n, rfl, ⟨hz.1.1, hz.1.2, hz.2.1, hz.2.2⟩, q _ _ H2 (x1.trans x2) st2 it_rng⟩
    · cases e
  · cases e
end
end PL

set_option Elab.async false
set_option linter.all false
set_option maxRecDepth 100000
set_option maxHeartbeats 4000000
/-! PL5: comprehensions, statements, blocks, loops, defs. -/
namespace PL
open PySem PySem.Spec PyProof.Rows L2

/-! ### list comprehensions -/
section
variable (X : Cx) (sa : Addr × Addr)
def SndC (ifs : List Expr) (f : FT) : Prop := SndTW X sa (WC X ifs) f
/-- the blocks of a comprehension in X -/
def inBlk (X : Cx) (scope : Scope) (P : Cx → Prop) : Prop := ∀ (s : Shared) (H : Hp) (C : Addr) (cl : List (Str × Addr)) (fp : List Addr), P (X.blk s H scope (compEnvC scope cl C X.env) fp)
end
def cNil : FT := fun _ s => some (true, s)
def lcL (g : FG) (c : FT) (f : FE) (ρ0 : Env) : List D → S → Option (List D × S)
  | [], s => some ([], s)
  | d :: ds, s => (g d ρ0).bind fun ρ1 => (c ρ1 s).bind fun b => if b.1 = true then (f ρ1 b.2).bind fun r => r.1.out.bind fun y => (lcL g c f ρ0 ds r.2).bind fun z => some (y :: z.1, z.2) else lcL g c f ρ0 ds b.2
def eLc (vs : List Nat) (g : FG) (fi : FI) (c : FT) (f : FE) : FE := fun ρ s => (fi ρ s).bind fun r => if r.2.1.length ≤ sizeLine then (lcL g c f (wipeR ρ vs) r.2.1 r.2.2).bind fun z => some (.fr z.1, z.2) else none
section
variable {X : Cx} {sa : Addr × Addr} {a : Expr} {t : FT} {pos : Pos}
theorem c_nil : SndC X sa [] cNil := by
  intro ρ s r s' e Oc B O H σ ok Q q
  cases e
  exact ⟨_, pts_nil, q H (Ext.refl _ _) ok.st⟩
theorem c_one (h : SndT X sa a t) : SndC X sa [a] t := by
  intro ρ s r s' e Oc B O H σ ok Q q
  exact ⟨_, pts_one ptW, h ρ s r s' e Oc B O H σ ok Q q⟩

abbrev bG (X : Cx) (scope : Scope) (tg : Expr) : TG := fun v σ H Q => ∀ s H0 C cl fp, WG (X.blk s H0 scope (compEnvC scope cl C X.env) fp) tg v σ H Q
abbrev bC (X : Cx) (scope : Scope) (ifs : List Expr) : TT := fun σ H Q => ∀ s H0 C cl fp, WC (X.blk s H0 scope (compEnvC scope cl C X.env) fp) ifs σ H Q
abbrev bE (X : Cx) (scope : Scope) (elt : Expr) : TE := fun σ H Q => ∀ s H0 C cl fp, WE (X.blk s H0 scope (compEnvC scope cl C X.env) fp) elt σ H Q
theorem bG_ok (scope : Scope) (tg : Expr) (s : Shared) (H : Hp) (C : Addr) (cl : List (Str × Addr)) (fp : List Addr) : PG (X.blk s H scope (compEnvC scope cl C X.env) fp) tg (bG X scope tg) :=
  ⟨fun pins s1 σ H1 v u Q I r h => pgW.run pins s1 σ H1 v u Q I r (h s H C cl fp)⟩
theorem bC_ok (scope : Scope) (ifs : List Expr) (s : Shared) (H : Hp) (C : Addr) (cl : List (Str × Addr)) (fp : List Addr) : PTs (X.blk s H scope (compEnvC scope cl C X.env) fp) ifs (bC X scope ifs) :=
  ⟨fun pins s1 σ H1 Q I h => pcW.run pins s1 σ H1 Q I (h s H C cl fp)⟩
theorem bE_ok (scope : Scope) (elt : Expr) (s : Shared) (H : Hp) (C : Addr) (cl : List (Str × Addr)) (fp : List Addr) : PE (X.blk s H scope (compEnvC scope cl C X.env) fp) elt (bE X scope elt) :=
  ⟨fun pins s1 σ H1 Q I h => peW.run pins s1 σ H1 Q I (h s H C cl fp)⟩
/-- the comprehension's reading holds -/
theorem lc_snd {elt tg iter : Expr} {ifs : List Expr} {scope : Scope} {vs : List Nat} {sl : List Nat} {g : FG} {fi : FI} {c : FT} {f : FE}
    (hi : SndI X sa tg iter fi) (hg : inBlk X scope fun Y => SndG Y sa sl tg g) (hc : inBlk X scope fun Y => SndC Y sa ifs c) (he : inBlk X scope fun Y => SndE Y sa elt f) (hsl : ∀ i ∈ sl, i ∈ vs) :
    ∀ ρ s r s', eLc vs g fi c f ρ s = some (r, s') → ∀ Oc B O H σ, Ok X.K sa Oc B O H σ ρ s →
      ∀ Q : VK, (∀ v H', Ext sa H H' → StOk Oc sa H' s' → RVal X.K Oc O sa H H' v r → Q v H') →
        L2.tLc (WI X tg iter) (bG X scope tg) (bC X scope ifs) (bE X scope elt) vs σ H Q := by
  intro ρ s r s' e Oc B O H σ ok Q q
  obtain ⟨⟨lent, ds, s1⟩, ei, e⟩ := bind_some_of e
  split at e
  case isFalse => cases e
  rename_i hz
  have hz : ds.length ≤ sizeLine := hz
  obtain ⟨⟨total, s2⟩, el, e⟩ := bind_some_of e
  cases e
  refine hi ρ s lent ds s1 ei Oc B O H σ ok _ fun J St H1 x1 st1 itok => ?_
  have ok1 := ok.ext x1 st1
  intro D nD
  have nDsa : D ≠ sa.1 := ok1.sa_ne nD
  have hB : B D = none := by
    cases hb : B D with
    | none => rfl
    | some u =>
      have := (ok1.keep D u hb).2
      rw [nD] at this; cases this
  have nOc : ¬ Oc D := fun z => ok1.nO nD (ok1.sub D z)
  have nD2 : D ≠ sa.2 := fun z => by
    have := ok1.st.2.2.2.2
    rw [← z, nD] at this; cases this
  -- the invariant
  let Inv (i : Nat) (H' : Hp) : Prop := ∃ si acc ws rest, i ≤ ds.length ∧ Ext sa H1 H' ∧ StOk Oc sa H' si ∧ H' D = some (.lst ws) ∧ DqAll X.K (hid O D) sa H' ws acc ∧ acc.length ≤ i ∧
    lcL g c f (wipeR ρ vs) (ds.drop i) si = some (rest, s2) ∧ acc ++ rest = total
  refine ⟨fun i m H' => m = ds.length - i ∧ Inv i H', ⟨ds.length, rfl, s1, [], [], total, Nat.zero_le _, Ext.new nD, new_st st1 nD, upd_same, trivial, Nat.le_refl _, el, rfl⟩, ?_⟩
  rintro i m H' ⟨rfl, si, acc, ws, rest, hile, xH, stH, hD, dq, hacc, hl, htot⟩
  have nO : ¬ O D := ok1.nO nD
  have hst : St H' := itok.stab H' fun a o h1 h2 h3 => by
    refine xH a o ?_ h3
    cases lent with
    | true => exact h1 rfl
    | false => exact fun z => h2 rfl (z ▸ ok.osa)
  by_cases hlt : i < ds.length
  · refine .inr ⟨itok.go i H' hlt hst, Inv (i + 1), fun H2 hI => ⟨ds.length - (i + 1), by omega, rfl, hI⟩, fun x H2 y => ?_⟩
    have ed : ds[i]? = some ds[i] := List.getElem?_eq_getElem hlt
    have edrop : ds.drop i = ds[i] :: ds.drop (i + 1) := List.drop_eq_getElem_cons hlt
    obtain ⟨x2, dqx⟩ := itok.yl i ds[i] H' x H2 ed hst y
    have x2' : Ext sa H' H2 := fun a o _ h => x2 a o h
    have e2 : H2 sa.1 = H' sa.1 := by
      obtain ⟨o, h⟩ := stH.has
      rw [h, x2 _ _ h]
    have st2 := stH.same x2' e2
    have hD2 : H2 D = some (.lst ws) := x2 _ _ hD
    -- the environment in the block
    have okB : ∀ {Hx : Hp} {sx : S}, Ext sa H2 Hx → StOk Oc sa Hx sx → Ok X.K sa Oc B (hid O D) Hx (L2.wipe σ vs) (wipeR ρ vs) sx := fun {Hx sx} xx sx' => by
      have k1 := (ok1.wipe vs).hide (o := .lst []) nD
      have x3 : Ext sa H1 Hx := (xH.trans x2').trans xx
      refine ⟨fun a o h => ⟨(ok1.keep a o h).1, x3 a o (ok1.keep a o h).1 (ok1.keep a o h).2⟩, k1.sub, fun p hp => ?_, k1.new, sx', k1.len, fun j e hj => ?_, k1.inj⟩
      · rcases hp with hp | hp
        · by_cases z : p = sa.1
          · obtain ⟨o, h⟩ := sx'.has
            exact ⟨o, z ▸ h⟩
          · obtain ⟨o, h⟩ := ok1.trk p hp
            exact ⟨o, x3 p o z h⟩
        · exact ⟨_, hp ▸ xx _ _ nDsa hD2⟩
      · obtain ⟨v, h1, h2⟩ := (ok1.wipe vs).slot j e hj
        refine ⟨v, h1, ?_⟩
        cases e with
        | sh d => exact Dq.ext (.inl ok.osa) x3 (Dq.hid nD h2)
        | ow es =>
          obtain ⟨p, us, h3, h4, h5, h6, h7⟩ := h2
          exact ⟨p, us, h3, x3 _ _ (fun z => h6 (z ▸ ok.sao)) h4, .inl h5, h6, (DqAll.hid nD h7).ext (.inl ok.osa) x3⟩
    have okb := okB (Ext.refl sa H2) st2
    have dqx2 : Dq X.K (hid O D) sa H2 x ds[i] := dqx (hid O D) (.inl ok.osa) stH.has (fun a o n h => ⟨fun z => z.elim n (ne_of_none h nD), xH a o (fun z => n (z ▸ ok.osa)) h⟩) fun p hp => by
      rcases hp with hp | hp
      · by_cases z : p = sa.1
        · obtain ⟨o, h⟩ := stH.has
          exact ⟨o, z ▸ h⟩
        · obtain ⟨o, h⟩ := ok1.trk p hp
          exact ⟨o, xH p o z h⟩
      · exact ⟨_, hp ▸ hD⟩
    rw [edrop] at hl
    obtain ⟨ρ1, eg, hl⟩ := bind_some_of hl
    obtain ⟨⟨b, s3⟩, ec, hl⟩ := bind_some_of hl
    intro sX HX CX clX fpX
    refine hg sX HX CX clX fpX ds[i] (wipeR ρ vs) ρ1 eg Oc B (hid O D) H2 (L2.wipe σ vs) si x okb dqx2 _ fun σ2 ok2 w2 => ?_
    refine ⟨(w2 vs hsl).trans wipe_wipe, ?_⟩
    intro sY HY CY clY fpY
    refine hc sY HY CY clY fpY ρ1 si b s3 ec Oc B (hid O D) H2 σ2 ok2 _ fun H3 x3 st3 => ?_
    have hD3 : H3 D = some (.lst ws) := x3 _ _ nDsa hD2
    have dq3 := (dq.ext (.inl ok.osa) x2').ext (.inl ok.osa) x3
    cases b with
    | false =>
      rw [if_neg Bool.false_ne_true] at hl ⊢
      exact ⟨s3, acc, ws, rest, hlt, (xH.trans x2').trans x3, st3, hD3, dq3, Nat.le_succ_of_le hacc, hl, htot⟩
    | true =>
      rw [if_pos rfl] at hl ⊢
      obtain ⟨⟨rr, s4⟩, ef, hl⟩ := bind_some_of hl
      obtain ⟨yd, ey, hl⟩ := bind_some_of hl
      obtain ⟨⟨more, s5⟩, em, hl⟩ := bind_some_of hl
      cases hl
      have ok3 := ok2.ext x3 st3
      intro sZ HZ CZ clZ fpZ
      refine he sZ HZ CZ clZ fpZ ρ1 s3 rr s4 ef Oc B (hid O D) H3 σ2 ok3 _ fun y H4 x4 st4 v4 => ?_
      have hD4 : H4 D = some (.lst ws) := x4 _ _ nDsa hD3
      have dq4 := dq3.ext (.inl ok.osa) x4
      have dqy : Dq X.K (hid O D) sa H4 y yd := v4.out ok3.trk ey
      have hlen : ws.length < sizeLine := by
        have := dq.length
        omega
      refine ⟨ws, hD4, hlen, s4, acc ++ [yd], ws ++ [y], more, hlt, ?_, ?_, upd_same, ?_, ?_, em, ?_⟩
      · intro a o na h
        have ne : a ≠ D := ne_of_none h nD
        exact upd_at ne (((xH.trans x2').trans (x3.trans x4)) a o na h)
      · exact ⟨st4.1, st4.2.1, st4.2.2.1, upd_at nDsa.symm st4.2.2.2.1, upd_at nD2.symm st4.2.2.2.2⟩
      · have tr : ∀ a o, ¬ hid O D a → H4 a = some o → ¬ hid O D a ∧ upd H4 D (.lst (ws ++ [y])) a = some o := fun a o n h => ⟨n, upd_at (fun z => n (.inr z)) h⟩
        exact (dq4.tr tr).append ⟨Dq.tr tr dqy, trivial⟩
      · rw [List.length_append]
        show acc.length + 1 ≤ i + 1
        omega
      · rw [← htot, List.append_assoc]
        rfl
  · have ei : i = ds.length := by omega
    subst ei
    rw [List.drop_length] at hl
    cases hl
    rw [List.append_nil] at htot
    subst htot
    exact .inl ⟨itok.stop H' hst, q (.ref D) H' (x1.trans xH) stH ⟨D, ws, rfl, x1.back nDsa nD, hD, dq⟩⟩
theorem s_lc {elt tg iter : Expr} {ifs : List Expr} {scope : Scope} {own : List (Str × Nat)} {sl : List Nat} {g : FG} {fi : FI} {c : FT} {f : FE} (hcalm : X.calm = true) (hN : X.N.Nodup) (ok : BlkOk X.N X.env.scope scope own) (hs : ∀ x, foldedSetIterable iter X.env x = pure x)
    (hi : SndI X sa tg iter fi) (hg : inBlk X scope fun Y => SndG Y sa sl tg g) (hc : inBlk X scope fun Y => SndC Y sa ifs c) (he : inBlk X scope fun Y => SndE Y sa elt f) (hsl : ∀ i ∈ sl, i ∈ own.map (·.2)) :
    SndE X sa (.ListComp elt [⟨tg, iter, ifs, 0⟩] scope pos) (eLc (own.map (·.2)) g fi c f) := by
  intro ρ s r s' e Oc B O H σ okk Q q
  exact ⟨_, pe_lc hcalm hN piW ok (bG_ok scope tg) (bC_ok scope ifs) (bE_ok scope elt) hs, lc_snd hi hg hc he hsl ρ s r s' e Oc B O H σ okk Q q⟩
end

/-! ### statements -/
section
variable (X : Cx) (sa : Addr × Addr)
def OutOk (Oc : Addr → Prop) (B : Hp) (out : Out) (D : Ends) : Prop := match out with
  | .nx ρ s => ∀ O H σ, Ok X.K sa Oc B O H σ ρ s → D.nx σ H
  | .bk ρ s => ∀ O H σ, Ok X.K sa Oc B O H σ ρ s → D.bk σ H
  | .ct ρ s => ∀ O H σ, Ok X.K sa Oc B O H σ ρ s → D.ct σ H
  | .rt d s => ∀ v H, (∀ a o, B a = some o → a ≠ sa.1 ∧ H a = some o) → StOk Oc sa H s → Dq X.K Oc sa H v d → D.rt v H
def SndSW (Wt : TS) (f : FS) : Prop := ∀ ρ s out, f ρ s = some out → ∀ Oc B O H σ, Ok X.K sa Oc B O H σ ρ s → ∀ D : Ends, OutOk X sa Oc B out D → Wt D σ H
def SndS (st : Stmt) (f : FS) : Prop := SndSW X sa (WS X st) f
def SndB (sts : List Stmt) (f : FS) : Prop := SndSW X sa (WB X sts) f
end
def bNil : FS := fun ρ s => some (.nx ρ s)
def bCons (f g : FS) : FS := fun ρ s => (f ρ s).bind fun o => match o with
  | .nx ρ1 s1 => g ρ1 s1
  | o => some o
def sSet (i : Nat) (f : FE) : FS := fun ρ s => (f ρ s).bind fun a => a.1.ent.bind fun e => some (.nx (ρ.set i (some e)) a.2)
def sTo (g : FG) (f : FE) : FS := fun ρ s => (f ρ s).bind fun a => a.1.out.bind fun d => (g d ρ).bind fun ρ1 => some (.nx ρ1 a.2)
def sDrop (f : FE) : FS := fun ρ s => (f ρ s).bind fun a => some (.nx ρ a.2)
def sRet (f : FE) : FS := fun ρ s => (f ρ s).bind fun a => some (.rt a.1.d a.2)
def sRetN : FS := fun _ s => some (.rt .non s)
def sIf (t : FT) (f g : FS) : FS := fun ρ s => (t ρ s).bind fun b => if b.1 = true then f ρ b.2 else g ρ b.2
def sBad : FS := fun _ _ => none
def sBk : FS := fun ρ s => some (.bk ρ s)
def sCt : FS := fun ρ s => some (.ct ρ s)
def forL (g : FG) (body : FS) : List D → Env → S → Option Out
  | [], ρ, s => some (.nx ρ s)
  | d :: ds, ρ, s => (g d ρ).bind fun ρ1 => (body ρ1 s).bind fun o => match o with
    | .nx ρ2 s2 => forL g body ds ρ2 s2
    | .ct ρ2 s2 => forL g body ds ρ2 s2
    | .bk ρ2 s2 => some (.nx ρ2 s2)
    | .rt d s2 => some (.rt d s2)
def sFor (g : FG) (fi : FI) (body : FS) : FS := fun ρ s => (fi ρ s).bind fun r => if r.1 = true then none else forL g body r.2.1 ρ r.2.2
def whL (t : FT) (body : FS) : Nat → Env → S → Option Out
  | 0, _, _ => none
  | n + 1, ρ, s => (t ρ s).bind fun b => if b.1 = true then (body ρ b.2).bind fun o => match o with
    | .nx ρ2 s2 => whL t body n ρ2 s2
    | .ct ρ2 s2 => whL t body n ρ2 s2
    | .bk ρ2 s2 => some (.nx ρ2 s2)
    | .rt d s2 => some (.rt d s2)
    else some (.nx ρ b.2)
def sApp (i : Nat) (f : FE) : FS := fun ρ s => (f ρ s).bind fun a => a.1.out.bind fun d => match ρ[i]? with
  | some (some (.ow ds)) => if ds.length < sizeLine then some (.nx (ρ.set i (some (.ow (ds ++ [d])))) a.2) else none
  | _ => none
/-- an own list is no longer changed: shared from now on -/
def sFz (i : Nat) : FS := fun ρ s => match ρ[i]? with
  | some (some (.ow ds)) => some (.nx (ρ.set i (some (.sh (.lst ds)))) s)
  | _ => none
section
variable {X : Cx} {sa : Addr × Addr} {a : Expr} {st : Stmt} {sts p1 p2 : List Stmt} {t : FT} {f : FE} {k l : FS} {g : FG} {fi : FI} {pos : Pos}
theorem b_nil : SndB X sa [] bNil := by
  intro ρ s out e Oc B O H σ ok D h
  cases e
  exact ⟨_, pss_nil, h O H σ ok⟩
theorem b_cons (h1 : SndS X sa st k) (h2 : SndB X sa sts l) : SndB X sa (st :: sts) (bCons k l) := by
  intro ρ s out e Oc B O H σ ok D h
  obtain ⟨o, e1, e⟩ := bind_some_of e
  refine ⟨_, pss_cons psW pbW, ?_⟩
  refine h1 ρ s o e1 Oc B O H σ ok _ ?_
  cases o with
  | nx ρ1 s1 => exact fun O1 H1 σ1 ok1 => h2 ρ1 s1 out e Oc B O1 H1 σ1 ok1 D h
  | rt d s1 => cases e; exact h
  | bk ρ1 s1 => cases e; exact h
  | ct ρ1 s1 => cases e; exact h
theorem s_set {i : Nat} {x : Str} {ps : Pos} (hN : X.N.Nodup) (hi : X.N[i]? = some x) (hx : Loc X.env.scope x) (hs : swapsWith a (some (.Name x ps)) pos.line X.env = pure false) (hf : X.fn x = true ∨ X.env.scope.names.lookup x = some .local)
    (h : SndE X sa a f) : SndS X sa (.Assign [.Name x ps] a pos) (sSet i f) := by
  intro ρ s out e Oc B O H σ ok D hD
  obtain ⟨⟨r, s1⟩, e1, e⟩ := bind_some_of e
  obtain ⟨en, e2, e⟩ := bind_some_of e
  cases e
  refine ⟨_, ps_set hN hi hx peW hs hf, ?_⟩
  refine h ρ s r s1 e1 Oc B O H σ ok _ fun v H1 x1 st1 v1 => ?_
  have ok1 := ok.ext x1 st1
  cases r with
  | sh d => cases e2; exact hD O H1 _ (ok1.setSh v1)
  | bo ds => cases e2
  | fr ds =>
    cases e2
    obtain ⟨p, vs, rfl, n, hl, dq⟩ := v1
    have nsa := ok.sa_ne n
    have nO := ok.nO n
    have nOc : ¬ Oc p := fun z => nO (ok.sub p z)
    -- hide p
    have hB : B p = none := by
      cases hb : B p with
      | none => rfl
      | some u =>
        have := (ok.keep p u hb).2
        rw [n] at this; cases this
    have okp : Ok X.K sa Oc B (hid O p) H1 σ ρ s1 := by
      have k1 := ok.hide (o := .lst vs) n
      refine ⟨ok1.keep, k1.sub, fun q hq => ?_, k1.new, st1, ok1.len, fun j e hj => ?_, ok1.inj⟩
      · rcases hq with hq | hq
        · exact ok1.trk q hq
        · exact ⟨_, hq ▸ hl⟩
      · obtain ⟨v, h1, h2⟩ := ok.slot j e hj
        refine ⟨v, h1, ?_⟩
        cases e with
        | sh d => exact Dq.ext (.inl ok.osa) x1 (Dq.hid n h2)
        | ow es =>
          obtain ⟨q, us, h3, h4, h5, h6, h7⟩ := h2
          exact ⟨q, us, h3, x1 _ _ (fun z => h6 (z ▸ ok.sao)) h4, .inl h5, h6, (DqAll.hid n h7).ext (.inl ok.osa) x1⟩
    exact hD (hid O p) H1 _ (okp.setOw hl (.inr rfl) nOc dq fun j es _ hj => ok.noOw n hj)
/-- name = [..] of a comprehension on one line, the name a local -/
theorem s_setLc {i : Nat} {x : Str} {ps : Pos} {elt tg iter : Expr} {ifs : List Expr} {scope : Scope} {own : List (Str × Nat)} {sl : List Nat} {c : FT} {lpos : Pos} (hcalm : X.calm = true) (hN : X.N.Nodup) (hi : X.N[i]? = some x) (hx : X.env.scope.names.lookup x = some .local)
    (hsw : swapsWith (.ListComp elt [⟨tg, iter, ifs, 0⟩] scope lpos) (some (.Name x ps)) pos.line X.env = pure true) (okb : BlkOk X.N X.env.scope scope own) (hs : ∀ x, foldedSetIterable iter X.env x = pure x)
    (hit : SndI X sa tg iter fi) (hg : inBlk X scope fun Y => SndG Y sa sl tg g) (hc : inBlk X scope fun Y => SndC Y sa ifs c) (he : inBlk X scope fun Y => SndE Y sa elt f) (hsl : ∀ i ∈ sl, i ∈ own.map (·.2)) :
    SndS X sa (.Assign [.Name x ps] (.ListComp elt [⟨tg, iter, ifs, 0⟩] scope lpos) pos) (sSet i (eLc (own.map (·.2)) g fi c f)) := by
  intro ρ s out e Oc B O H σ ok D hD
  obtain ⟨⟨r, s1⟩, e1, e⟩ := bind_some_of e
  obtain ⟨en, e2, e⟩ := bind_some_of e
  cases e
  refine ⟨_, ps_setLc hcalm hN hi hx hsw piW okb (bG_ok scope tg) (bC_ok scope ifs) (bE_ok scope elt) hs, ?_⟩
  refine lc_snd hit hg hc he hsl ρ s r s1 e1 Oc B O H σ ok _ fun v H1 x1 st1 v1 => ?_
  have ok1 := ok.ext x1 st1
  cases r with
  | sh d => cases e2; exact hD O H1 _ (ok1.setSh v1)
  | bo ds => cases e2
  | fr ds =>
    cases e2
    obtain ⟨p, vs, rfl, n, hl, dq⟩ := v1
    have nO := ok.nO n
    have nOc : ¬ Oc p := fun z => nO (ok.sub p z)
    have okp : Ok X.K sa Oc B (hid O p) H1 σ ρ s1 := by
      have k1 := ok.hide (o := .lst vs) n
      refine ⟨ok1.keep, k1.sub, fun q hq => ?_, k1.new, st1, ok1.len, fun j e hj => ?_, ok1.inj⟩
      · rcases hq with hq | hq
        · exact ok1.trk q hq
        · exact ⟨_, hq ▸ hl⟩
      · obtain ⟨v, h1, h2⟩ := ok.slot j e hj
        refine ⟨v, h1, ?_⟩
        cases e with
        | sh d => exact Dq.ext (.inl ok.osa) x1 (Dq.hid n h2)
        | ow es =>
          obtain ⟨q, us, h3, h4, h5, h6, h7⟩ := h2
          exact ⟨q, us, h3, x1 _ _ (fun z => h6 (z ▸ ok.sao)) h4, .inl h5, h6, (DqAll.hid n h7).ext (.inl ok.osa) x1⟩
    exact hD (hid O p) H1 _ (okp.setOw hl (.inr rfl) nOc dq fun j es _ hj => ok.noOw n hj)
/-- a tuple of names = e -/
theorem s_to {sl : List Nat} {tg : Expr} (hs : swapsWithSole [tg] a pos.line X.env = pure false) (hw : swappedStores [tg] a X.env = pure none) (h1 : (assignEach [tg] X.env).map (·.2) = [assign tg X.env])
    (hg : SndG X sa sl tg g) (h : SndE X sa a f) : SndS X sa (.Assign [tg] a pos) (sTo g f) := by
  intro ρ s out e Oc B O H σ ok D hD
  obtain ⟨⟨r, s1⟩, e1, e⟩ := bind_some_of e
  obtain ⟨d, e2, e⟩ := bind_some_of e
  obtain ⟨ρ1, e3, e⟩ := bind_some_of e
  cases e
  refine ⟨_, ps_asg peW pgW hs hw h1, ?_⟩
  refine h ρ s r s1 e1 Oc B O H σ ok _ fun v H1 x1 st1 v1 => ?_
  exact hg d ρ ρ1 e3 Oc B O H1 σ s1 v (ok.ext x1 st1) (v1.out ok.trk e2) _ fun σ' ok' _ => hD O H1 σ' ok'
theorem s_drop (hs : swapsWith a none pos.line X.env = pure false) (h : SndE X sa a f) : SndS X sa (.Expr a pos) (sDrop f) := by
  intro ρ s out e Oc B O H σ ok D hD
  obtain ⟨⟨r, s1⟩, e1, e⟩ := bind_some_of e
  cases e
  refine ⟨_, ps_expr peW hs, ?_⟩
  exact h ρ s r s1 e1 Oc B O H σ ok _ fun v H1 x1 st1 v1 => hD O H1 σ (ok.ext x1 st1)
theorem s_ret (h : SndE X sa a f) : SndS X sa (.Return (some a) pos) (sRet f) := by
  intro ρ s out e Oc B O H σ ok D hD
  obtain ⟨⟨r, s1⟩, e1, e⟩ := bind_some_of e
  cases e
  refine ⟨_, ps_ret peW, ?_⟩
  refine h ρ s r s1 e1 Oc B O H σ ok _ fun v H1 x1 st1 v1 => ?_
  have ok1 := ok.ext x1 st1
  refine hD v H1 ok1.keep st1 ?_
  have low : ∀ a o, ¬ O a → H1 a = some o → ¬ Oc a ∧ H1 a = some o := fun a o n e => ⟨fun z => n (ok.sub a z), e⟩
  cases r with
  | sh d => exact Dq.tr low v1
  | bo ds =>
    obtain ⟨p, vs, e1, n, hl, dq⟩ := v1
    exact ⟨p, vs, e1, n, hl, dq.tr low⟩
  | fr ds =>
    obtain ⟨p, vs, e1, n, hl, dq⟩ := v1
    exact ⟨p, vs, e1, fun z => ok.nO n (ok.sub p z), hl, dq.unhid.tr low⟩
theorem s_retN : SndS X sa (.Return none pos) sRetN := by
  intro ρ s out e Oc B O H σ ok D hD
  cases e
  exact ⟨_, ps_retN, hD .non H ok.keep ok.st rfl⟩
theorem s_if (ht : SndT X sa a t) (h1 : SndB X sa p1 k) (h2 : SndB X sa p2 l) : SndS X sa (.If a p1 p2 pos) (sIf t k l) := by
  intro ρ s out e Oc B O H σ ok D hD
  obtain ⟨⟨b, s1⟩, e1, e⟩ := bind_some_of e
  refine ⟨_, ps_if ptW pbW pbW, ?_⟩
  refine ht ρ s b s1 e1 Oc B O H σ ok _ fun H1 x1 st1 => ?_
  cases b with
  | true =>
    rw [if_pos rfl] at e ⊢
    exact h1 ρ s1 out e Oc B O H1 σ (ok.ext x1 st1) D hD
  | false =>
    rw [if_neg Bool.false_ne_true] at e ⊢
    exact h2 ρ s1 out e Oc B O H1 σ (ok.ext x1 st1) D hD
theorem s_bad {st : Stmt} : SndS X sa st sBad := by
  intro ρ s out e
  cases e
theorem s_pass : SndS X sa (.Pass pos) bNil := by
  intro ρ s out e Oc B O H σ ok D hD
  cases e
  exact ⟨_, ps_pass, hD O H σ ok⟩
theorem s_doc {x : Str} {j : Nat} {pos' : Pos} : SndS X sa (.Expr (.Constant (.str x) j pos) pos') bNil := by
  intro ρ s out e Oc B O H σ ok D hD
  cases e
  exact ⟨_, ps_doc, hD O H σ ok⟩
theorem s_bk : SndS X sa (.Break pos) sBk := by
  intro ρ s out e Oc B O H σ ok D hD
  cases e
  exact ⟨_, ps_break, hD O H σ ok⟩
theorem s_ct : SndS X sa (.Continue pos) sCt := by
  intro ρ s out e Oc B O H σ ok D hD
  cases e
  exact ⟨_, ps_continue, hD O H σ ok⟩
theorem s_for {sl : List Nat} {tg iter : Expr} {body : List Stmt} (hp : PassesOwn (model X.prog X.w) X.A X.env X.xe) (hc : X.calm = true) (hs : ∀ x, foldedSetIterable iter X.env x = pure x)
    (hi : SndI X sa tg iter fi) (hg : SndG X sa sl tg g) (hb : SndB X sa body k) : SndS X sa (.For tg iter body [] pos) (sFor g fi k) := by
  intro ρ s out e Oc B O H σ ok D hD
  obtain ⟨⟨lent, ds, s1⟩, ei, e⟩ := bind_some_of e
  cases lent with
  | true => cases e
  | false =>
  rw [if_neg Bool.false_ne_true] at e
  refine ⟨_, ps_for hp hc piW pgW pbW hs, ?_⟩
  refine hi ρ s false ds s1 ei Oc B O H σ ok _ fun J St H1 x1 st1 itok => ?_
  have ok1 := ok.ext x1 st1
  refine ⟨fun i m σ' H' => m = ds.length - i ∧ i ≤ ds.length ∧ ∃ ρ' s' O', Ok X.K sa Oc (gB B O H1) O' H' σ' ρ' s' ∧ forL g k (ds.drop i) ρ' s' = some out, ⟨ds.length, rfl, Nat.zero_le _, ρ, s1, O, ok1.enter, e⟩, ?_⟩
  rintro i m σ' H' ⟨rfl, hi', ρ', s', O', ok', el⟩
  have since := ok1.since ok'
  have hst : St H' := itok.stab H' fun a o _ n h => (since a o (n rfl) h).2
  by_cases hlt : i < ds.length
  · have ed : ds[i]? = some ds[i] := List.getElem?_eq_getElem hlt
    have edrop : ds.drop i = ds[i] :: ds.drop (i + 1) := List.drop_eq_getElem_cons hlt
    rw [edrop] at el
    obtain ⟨ρ1, eg, el⟩ := bind_some_of el
    obtain ⟨o, eb, el⟩ := bind_some_of el
    refine .inr ⟨itok.go i H' hlt hst, fun σ2 H2 => ∃ ρ2 s2 O2, Ok X.K sa Oc (gB B O H1) O2 H2 σ2 ρ2 s2 ∧ forL g k (ds.drop (i + 1)) ρ2 s2 = some out, fun σ2 H2 hN => ⟨ds.length - (i + 1), by omega, rfl, hlt, hN⟩, fun x H2 y => ?_⟩
    obtain ⟨x2, dqx⟩ := itok.yl i ds[i] H' x H2 ed hst y
    have x2' : Ext sa H' H2 := fun a o _ h => x2 a o h
    have e2 : H2 sa.1 = H' sa.1 := by
      obtain ⟨u, h⟩ := ok'.st.has
      rw [h, x2 _ _ h]
    have ok2 := ok'.ext x2' (ok'.st.same x2' e2)
    have dqx2 : Dq X.K O' sa H2 x ds[i] := dqx O' ok'.osa ok'.st.has since ok'.trk
    refine hg ds[i] ρ' ρ1 eg Oc _ O' H2 σ' s' x ok2 dqx2 _ fun σ3 ok3 _ => ?_
    refine hb ρ1 s' o eb Oc _ O' H2 σ3 ok3 _ ?_
    cases o with
    | nx ρ4 s4 => exact fun O4 H4 σ4 ok4 => ⟨ρ4, s4, O4, ok4, el⟩
    | ct ρ4 s4 => exact fun O4 H4 σ4 ok4 => ⟨ρ4, s4, O4, ok4, el⟩
    | bk ρ4 s4 =>
      cases el
      exact fun O4 H4 σ4 ok4 => hD O4 H4 σ4 (ok1.leave ok4)
    | rt d s4 =>
      cases el
      exact fun v H4 kp st4 dq => hD v H4 (fun a o h => kp a o (gB_of ok1 h)) st4 dq
  · have ei : i = ds.length := by omega
    subst ei
    rw [List.drop_length] at el
    cases el
    exact .inl ⟨itok.stop H' hst, hD O' H' σ' (ok1.leave ok')⟩
theorem s_while {body : List Stmt} {n : Nat} (hp : PassesOwn (model X.prog X.w) X.A X.env X.xe) (ht : SndT X sa a t) (hb : SndB X sa body k) : SndS X sa (.While a body [] pos) (whL t k n) := by
  intro ρ s out e Oc B O H σ ok D hD
  refine ⟨_, ps_while hp ptW pbW, ?_⟩
  refine ⟨fun m σ' H' => ∃ ρ' s' O', Ok X.K sa Oc B O' H' σ' ρ' s' ∧ whL t k m ρ' s' = some out, ⟨n, ρ, s, O, ok, e⟩, ?_⟩
  rintro m σ' H' ⟨ρ', s', O', ok', el⟩
  cases m with
  | zero => cases el
  | succ m =>
    obtain ⟨⟨b, s1⟩, e1, el⟩ := bind_some_of el
    refine ht ρ' s' b s1 e1 Oc B O' H' σ' ok' _ fun H1 x1 st1 => ?_
    have ok1 := ok'.ext x1 st1
    cases b with
    | false =>
      rw [if_neg Bool.false_ne_true] at el ⊢
      cases el
      exact hD O' H1 σ' ok1
    | true =>
      rw [if_pos rfl] at el ⊢
      obtain ⟨o, eb, el⟩ := bind_some_of el
      refine ⟨fun σ2 H2 => ∃ ρ2 s2 O2, Ok X.K sa Oc B O2 H2 σ2 ρ2 s2 ∧ whL t k m ρ2 s2 = some out, fun σ2 H2 hN => ⟨m, Nat.lt_succ_self m, hN⟩, ?_⟩
      refine hb ρ' s1 o eb Oc B O' H1 σ' ok1 _ ?_
      cases o with
      | nx ρ4 s4 => exact fun O4 H4 σ4 ok4 => ⟨ρ4, s4, O4, ok4, el⟩
      | ct ρ4 s4 => exact fun O4 H4 σ4 ok4 => ⟨ρ4, s4, O4, ok4, el⟩
      | bk ρ4 s4 =>
        cases el
        exact hD
      | rt d s4 =>
        cases el
        exact hD
/-- name.append(e), an own list -/
theorem s_app {i : Nat} {x : Str} {px pa pc : Pos} (hN : X.N[i]? = some x) (hv : Vis X.env.scope x) (hd : (x == ("__debug__" : Str)) = false) (hcd : (x == ("__classdict__" : Str)) = false)
    (hs : swapsWith (.Call (.Attribute (.Name x px) "append" pa) [a] [] pc) none pos.line X.env = pure false)
    (hpe : ∀ ta : TE, PE X a ta → PE X (.Call (.Attribute (.Name x px) "append" pa) [a] [] pc) (tBM X.K "list" rAppend (tVar i) (tCons ta tNil))) (h : SndE X sa a f) : SndS X sa (.Expr (.Call (.Attribute (.Name x px) "append" pa) [a] [] pc) pos) (sApp i f) := by
  intro ρ s out e Oc B O H σ ok D hD
  obtain ⟨⟨r, s1⟩, e1, e⟩ := bind_some_of e
  obtain ⟨d, e2, e⟩ := bind_some_of e
  split at e
  · rename_i ds hd'
    split at e
    · rename_i hz
      cases e
      refine ⟨_, ps_expr (hpe _ peW) hs, ?_⟩
      obtain ⟨v, h1, p, vs, rfl, h3, h4, h5, h6⟩ := ok.slot i _ hd'
      refine ⟨.ref p, h1, .inl ⟨rfl, _, SqL.of h3⟩, ?_⟩
      refine h ρ s r s1 e1 Oc B O H σ ok _ fun y H1 x1 st1 v1 => ?_
      have ok1 := ok.ext x1 st1
      obtain ⟨v', h1', p', vs', q1, h3', h4', h5', h6'⟩ := ok1.slot i _ hd'
      rw [h1] at h1'
      cases h1'
      cases q1
      refine ⟨p, vs', y, rfl, rfl, h3', by rw [h6'.length]; exact hz, ?_⟩
      have dqy : Dq X.K O sa H1 y d := v1.out ok.trk e2
      -- the slot is set aside, the list written, the slot set again
      have tr : ∀ a u, ¬ O a → H1 a = some u → ¬ O a ∧ upd H1 p (.lst (vs' ++ [y])) a = some u := fun a u n q => ⟨n, upd_at (fun z => n (z.symm ▸ h4)) q⟩
      have il : i < ρ.length := by
        rcases Nat.lt_or_ge i ρ.length with z | z
        · exact z
        · rw [List.getElem?_eq_none z] at hd'; cases hd'
      have okw : Ok X.K sa Oc B O (upd H1 p (.lst (vs' ++ [y]))) (σ.set i (some (.non))) (ρ.set i (some (.sh .non))) s1 :=
        (ok1.setSh (i := i) (d := .non) (v := .non) rfl).write h4 h5 fun j es hj hj2 => by
          rcases set_some hj with ⟨_, z, _⟩ | ⟨ne, hj⟩
          · cases z
          · rw [List.getElem?_set_ne ne] at hj2
            exact ne (ok.inj i j p ds es hd' hj h1 hj2)
      have okz := okw.setOw (i := i) (p := p) (vs := vs' ++ [y]) (ds := ds ++ [d]) upd_same h4 h5 ((h6'.tr tr).append ⟨Dq.tr tr dqy, trivial⟩) fun j es ne hj hj2 => by
        rw [List.getElem?_set_ne (Ne.symm ne)] at hj hj2
        exact ne (ok.inj i j p ds es hd' hj h1 hj2).symm
      rw [List.set_set, List.set_set] at okz
      have eσ : σ.set i (some (V.ref p)) = σ := by
        apply List.ext_getElem?
        intro j
        by_cases z : i = j
        · subst z
          rw [List.getElem?_set_self (by rw [ok.len]; exact il), h1]
        · rw [List.getElem?_set_ne z]
      rw [eσ] at okz
      exact hD O _ σ okz
    · cases e
  · cases e
theorem b_fz {i : Nat} (h : SndB X sa sts k) : SndB X sa sts (bCons (sFz i) k) := by
  intro ρ s out e Oc B O H σ ok D hD
  obtain ⟨o, e1, e⟩ := bind_some_of e
  unfold sFz at e1
  split at e1
  · rename_i ds hd
    cases e1
    obtain ⟨v, h1, p, vs, rfl, h3, h4, h5, h6⟩ := ok.slot i _ hd
    -- p is no longer hidden
    have tr : ∀ a u, ¬ O a → H a = some u → ¬ (O a ∧ a ≠ p) ∧ H a = some u := fun a u n q => ⟨fun z => n z.1, q⟩
    have il : i < ρ.length := by
      rcases Nat.lt_or_ge i ρ.length with z | z
      · exact z
      · rw [List.getElem?_eq_none z] at hd; cases hd
    have ok' : Ok X.K sa Oc B (fun a => O a ∧ a ≠ p) H σ (ρ.set i (some (.sh (.lst ds)))) s := {
      keep := ok.keep
      sub := fun q z => ⟨ok.sub q z, fun e => h5 (e ▸ z)⟩
      trk := fun q z => ok.trk q z.1
      new := fun q z => ok.new q z.1
      st := ok.st
      len := by simpa using ok.len
      slot := fun j e hj => by
        rcases set_some hj with ⟨rfl, e1, hl⟩ | ⟨ne, hj⟩
        · cases e1
          exact ⟨.ref p, h1, p, vs, rfl, fun z => z.2 rfl, h3, h6.tr tr⟩
        · obtain ⟨u, k1, k2⟩ := ok.slot j e hj
          refine ⟨u, k1, ?_⟩
          cases e with
          | sh d => exact Dq.tr tr k2
          | ow es =>
            obtain ⟨q, us, q1, q2, q3, q4, q5⟩ := k2
            subst q1
            exact ⟨q, us, rfl, q2, ⟨q3, fun z => ne (ok.inj i j p ds es hd hj h1 (z ▸ k1))⟩, q4, q5.tr tr⟩
      inj := fun j l a es fs k1 k2 k3 k4 => by
        rcases set_some k1 with ⟨_, z, _⟩ | ⟨n1, k1⟩
        · cases z
        · rcases set_some k2 with ⟨_, z, _⟩ | ⟨n2, k2⟩
          · cases z
          · exact ok.inj j l a es fs k1 k2 k3 k4 }
    exact h _ s out e Oc B _ H σ ok' D hD
  · cases e1
end
end PL

set_option Elab.async false
set_option linter.all false
set_option maxRecDepth 100000
set_option maxHeartbeats 4000000
/-! PL6: operators, comparisons, subscripts, calls of built-ins, on data. -/
namespace PL
open PySem PySem.Spec PyProof.Rows L2

/-! ### operators -/
def addD : D → D → Option Res
  | .int a, .int b => some (.sh (.int (a + b)))
  | .str a, .str b => if a.length + b.length ≤ sizeLine then some (.sh (.str (a ++ b))) else none
  | .lst a, .lst b => if a.length + b.length ≤ sizeLine then some (.fr (a ++ b)) else none
  | .tup (x :: a), .tup b => if (x :: a).length + b.length ≤ sizeLine then some (.sh (.tup (x :: a ++ b))) else none
  | _, _ => none
def subD : D → D → Option Res
  | .int a, .int b => some (.sh (.int (a - b)))
  | _, _ => none
noncomputable def mulD : D → D → Option Res
  | .int a, .int b => if okM a b then some (.sh (.int (a * b))) else none
  | .lst a, .int k => if okML a.length k then some (.fr (List.replicate k.toNat a).flatten) else none
  | _, _ => none
noncomputable def divD : D → D → Option Res
  | .int a, .int b => if okDv b then some (.sh (.int (a / b))) else none
  | _, _ => none
def modD : D → D → Option Res
  | .int a, .int b => if 0 < b then some (.sh (.int (a % b))) else none
  | _, _ => none
def negD : D → Option Res
  | .int a => some (.sh (.int (-a)))
  | _ => none
@[simp] theorem addD_int (a b : Int) : addD (.int a) (.int b) = some (.sh (.int (a + b))) := rfl
@[simp] theorem subD_int (a b : Int) : subD (.int a) (.int b) = some (.sh (.int (a - b))) := rfl
@[simp] theorem negD_int (a : Int) : negD (.int a) = some (.sh (.int (-a))) := rfl
@[simp] theorem divD_int (a b : Int) : divD (.int a) (.int b) = if okDv b then some (.sh (.int (a / b))) else none := rfl
@[simp] theorem modD_int (a b : Int) : modD (.int a) (.int b) = if 0 < b then some (.sh (.int (a % b))) else none := rfl
@[simp] theorem mulD_int (a b : Int) : mulD (.int a) (.int b) = if okM a b then some (.sh (.int (a * b))) else none := rfl
@[simp] theorem mulD_lst (a : List D) (k : Int) : mulD (.lst a) (.int k) = if okML a.length k then some (.fr (List.replicate k.toNat a).flatten) else none := rfl
@[simp] theorem addD_str (a b : Str) : addD (.str a) (.str b) = if a.length + b.length ≤ sizeLine then some (.sh (.str (a ++ b))) else none := rfl
@[simp] theorem addD_lst (a b : List D) : addD (.lst a) (.lst b) = if a.length + b.length ≤ sizeLine then some (.fr (a ++ b)) else none := rfl
section
variable {X : Cx} {sa : Addr × Addr}
theorem new_ext {H : Hp} {p : Addr} {o : HO} (n : H p = none) : Ext sa H (upd H p o) := Ext.new n
theorem new_sa {H : Hp} {p : Addr} {o : HO} (hs : ∃ o, H sa.1 = some o) (n : H p = none) : upd H p o sa.1 = H sa.1 := by
  obtain ⟨u, h⟩ := hs
  rw [upd_ne (ne_of_none h n)]
/-- a new list -/
theorem rv_fr {K : PySem.W.Frag} {Oc O : Addr → Prop} {H : Hp} {p : Addr} {vs : List V} {ds : List D} (so : O sa.1) (n : H p = none) (q : DqAll K O sa H vs ds) : RVal K Oc O sa H (upd H p (.lst vs)) (.ref p) (.fr ds) :=
  ⟨p, vs, rfl, n, upd_same, (DqAll.hid n q).ext (.inl so) (Ext.new n)⟩
theorem op2_add : Op2 X sa (OpR X (binaryOp .Add)) addD := by
  intro d e r h
  unfold addD at h
  split at h
  · cases h
    refine ⟨_, op_add, fun Oc O H x y hd vx vy Q q => ?_⟩
    cases vx; cases vy
    exact ⟨_, _, rfl, rfl, q _ H (Ext.refl _ _) rfl rfl⟩
  · split at h
    · rename_i hz
      cases h
      refine ⟨_, op_add_str, fun Oc O H x y hd vx vy Q q => ?_⟩
      cases vx; cases vy
      exact ⟨_, _, rfl, rfl, hz, q _ H (Ext.refl _ _) rfl rfl⟩
    · cases h
  · split at h
    · rename_i hz
      cases h
      refine ⟨_, op_cat, fun Oc O H x y hd vx vy Q q => ?_⟩
      obtain ⟨a, xs, rfl, na, ha, qa⟩ := vx
      obtain ⟨b, ys, rfl, nb, hb, qb⟩ := vy
      refine ⟨a, b, xs, ys, rfl, rfl, ha, hb, by rw [qa.length, qb.length]; exact hz, fun p np => ?_⟩
      exact q _ _ (new_ext np) (new_sa hd.hs np) (rv_fr hd.so np (qa.append qb))
    · cases h
  · split at h
    · rename_i x0 a0 b0 hz
      cases h
      refine ⟨_, op_catT, fun Oc O H x y hd vx vy Q q => ?_⟩
      obtain ⟨a, xs, rfl, ta, qa⟩ := vx
      obtain ⟨b, ys, rfl, tb, qb⟩ := vy
      have ne : xs ≠ [] := fun z => by
        subst z
        exact qa.elim
      refine ⟨a, b, xs, ys, rfl, rfl, ta.sq, tb.sq, ne, by rw [qa.length, qb.length]; exact hz, fun ey => ?_, fun _ p np => ?_⟩
      · subst ey
        have eb : b0 = [] := by
          cases b0 with
          | nil => rfl
          | cons _ _ => exact qb.elim
        subst eb
        refine q _ H (Ext.refl _ _) rfl ?_
        rw [List.append_nil]
        exact ⟨a, xs, rfl, ta, qa⟩
      · refine q _ _ (new_ext np) (new_sa hd.hs np) ⟨p, xs ++ ys, rfl, .inl ⟨hd.nO np, upd_same⟩, (qa.append qb).ext hd.so (Ext.new np)⟩
    · cases h
  · cases h
theorem op2_int {op : Operator} {C : Int → Int → Prop} [∀ a b, Decidable (C a b)] {g : Int → Int → Int} (ho : OpR X (binaryOp op) (rI C fun i j => .int (g i j))) {c : D → D → Option Res} (hc : ∀ a b r, c a b = some r → ∃ i j, a = .int i ∧ b = .int j ∧ C i j ∧ r = .sh (.int (g i j))) :
    Op2 X sa (OpR X (binaryOp op)) c := by
  intro d e r h
  obtain ⟨i, j, rfl, rfl, hC, rfl⟩ := hc d e r h
  refine ⟨_, ho, fun Oc O H x y hd vx vy Q q => ?_⟩
  cases vx; cases vy
  exact ⟨_, _, rfl, rfl, hC, q _ H (Ext.refl _ _) rfl rfl⟩
theorem op2_sub : Op2 X sa (OpR X (binaryOp .Sub)) subD := by
  intro d e r h
  unfold subD at h
  split at h
  · cases h
    refine ⟨_, op_sub, fun Oc O H x y hd vx vy Q q => ?_⟩
    cases vx; cases vy
    exact ⟨_, _, rfl, rfl, q _ H (Ext.refl _ _) rfl rfl⟩
  · cases h
theorem op2_div : Op2 X sa (OpR X (binaryOp .FloorDiv)) divD := by
  intro d e r h
  unfold divD at h
  split at h
  · split at h
    · rename_i hz
      cases h
      refine ⟨_, op_fdiv, fun Oc O H x y hd vx vy Q q => ?_⟩
      cases vx; cases vy
      exact ⟨_, _, rfl, rfl, hz, q _ H (Ext.refl _ _) rfl rfl⟩
    · cases h
  · cases h
theorem op2_mod : Op2 X sa (OpR X (binaryOp .Mod)) modD := by
  intro d e r h
  unfold modD at h
  split at h
  · split at h
    · rename_i hz
      cases h
      refine ⟨_, op_mod, fun Oc O H x y hd vx vy Q q => ?_⟩
      cases vx; cases vy
      exact ⟨_, _, rfl, rfl, hz, q _ H (Ext.refl _ _) rfl rfl⟩
    · cases h
  · cases h
theorem op2_mul : Op2 X sa (OpR X (binaryOp .Mult)) mulD := by
  intro d e r h
  unfold mulD at h
  split at h
  · split at h
    · rename_i hz
      cases h
      refine ⟨_, op_mul, fun Oc O H x y hd vx vy Q q => ?_⟩
      cases vx; cases vy
      exact ⟨_, _, rfl, rfl, hz, q _ H (Ext.refl _ _) rfl rfl⟩
    · cases h
  · split at h
    · rename_i hz
      unfold okML at hz
      cases h
      refine ⟨_, op_rep, fun Oc O H x y hd vx vy Q q => ?_⟩
      obtain ⟨a, xs, rfl, na, ha, qa⟩ := vx
      cases vy
      refine ⟨a, _, xs, rfl, rfl, ha, hz.1, hz.2.1, by rw [qa.length]; exact hz.2.2, fun p np => ?_⟩
      exact q _ _ (new_ext np) (new_sa hd.hs np) (rv_fr hd.so np (qa.rep _))
    · cases h
  · cases h
theorem op1_neg : Op1 X sa (UnR X (unaryOp .USub)) negD := by
  intro d r h
  unfold negD at h
  split at h
  · cases h
    refine ⟨_, un_neg, fun Oc O H x hd vx Q q => ?_⟩
    cases vx
    exact ⟨_, rfl, q _ H (Ext.refl _ _) rfl rfl⟩
  · cases h
end

/-! ### comparisons -/
def ltD : D → D → Option Bool
  | .int a, .int b => some (decide (a < b))
  | _, _ => none
def leD : D → D → Option Bool
  | .int a, .int b => some (decide (a ≤ b))
  | _, _ => none
def gtD : D → D → Option Bool
  | .int a, .int b => some (decide (b < a))
  | _, _ => none
def geD : D → D → Option Bool
  | .int a, .int b => some (decide (b ≤ a))
  | _, _ => none
def neD (a b : D) : Option Bool := (eqD a b).map fun b => !b
@[simp] theorem ltD_int (a b : Int) : ltD (.int a) (.int b) = some (decide (a < b)) := rfl
@[simp] theorem leD_int (a b : Int) : leD (.int a) (.int b) = some (decide (a ≤ b)) := rfl
@[simp] theorem gtD_int (a b : Int) : gtD (.int a) (.int b) = some (decide (b < a)) := rfl
@[simp] theorem geD_int (a b : Int) : geD (.int a) (.int b) = some (decide (b ≤ a)) := rfl
def isNonD : D → D → Option Bool
  | .non, .non => some true
  | .tup _, .non => some false
  | .lst _, .non => some false
  | .int _, .non => some false
  | .str _, .non => some false
  | .bl _, .non => some false
  | _, _ => none
def notNonD (a b : D) : Option Bool := (isNonD a b).map fun b => !b
section
variable {X : Cx} {sa : Addr × Addr}
theorem cm2_i {op : CmpOp} {g : Int → Int → Bool} (ho : OpR X (compareOp op) (rI0 fun i j => .bl (g i j))) {c : D → D → Option Bool} (hc : ∀ a b r, c a b = some r → ∃ i j, a = .int i ∧ b = .int j ∧ r = g i j) : Cm2 X sa (OpR X (compareOp op)) c := by
  intro d e r h
  obtain ⟨i, j, rfl, rfl, rfl⟩ := hc d e r h
  refine ⟨_, ho, fun O H x y so vx vy Q q => ?_⟩
  cases vx; cases vy
  exact ⟨_, _, rfl, rfl, q⟩
theorem cm2_lt : Cm2 X sa (OpR X (compareOp .Lt)) ltD := cm2_i op_lt fun a b r h => by
  unfold ltD at h
  split at h
  · cases h; exact ⟨_, _, rfl, rfl, rfl⟩
  · cases h
theorem cm2_le : Cm2 X sa (OpR X (compareOp .LtE)) leD := cm2_i op_le fun a b r h => by
  unfold leD at h
  split at h
  · cases h; exact ⟨_, _, rfl, rfl, rfl⟩
  · cases h
theorem cm2_gt : Cm2 X sa (OpR X (compareOp .Gt)) gtD := cm2_i op_gt fun a b r h => by
  unfold gtD at h
  split at h
  · cases h; exact ⟨_, _, rfl, rfl, rfl⟩
  · cases h
theorem cm2_ge : Cm2 X sa (OpR X (compareOp .GtE)) geD := cm2_i op_ge fun a b r h => by
  unfold geD at h
  split at h
  · cases h; exact ⟨_, _, rfl, rfl, rfl⟩
  · cases h
theorem eqD_of {a b : D} {r : Bool} (h : eqD a b = some r) : ∃ p q, a.py = some p ∧ b.py = some q ∧ SeqAt.shaped p = true ∧ SeqAt.shaped q = true ∧ r = PyData.eqv p q := by
  obtain ⟨p, hp, h⟩ := bind_some_of h
  obtain ⟨q, hq, h⟩ := bind_some_of h
  split at h
  · rename_i hz
    cases h
    exact ⟨p, q, hp, hq, hz.1, hz.2, rfl⟩
  · cases h
theorem cm2_eq (hu : X.A.units + 64 < cLine) : Cm2 X sa (OpR X (compareOp .Eq)) eqD := by
  intro d e r h
  obtain ⟨p, q', hp, hq, h1, h2, rfl⟩ := eqD_of h
  exact ⟨_, op_eqD hu, fun O H x y so vx vy Q q => ⟨p, q', vx.dp hp, vy.dp hq, h1, h2, q⟩⟩
theorem cm2_ne (hu : X.A.units + 64 < cLine) : Cm2 X sa (OpR X (compareOp .NotEq)) neD := by
  intro d e r h
  unfold neD at h
  cases he : eqD d e with
  | none => rw [he] at h; cases h
  | some b =>
    rw [he] at h
    cases h
    obtain ⟨p, q', hp, hq, h1, h2, rfl⟩ := eqD_of he
    exact ⟨_, op_neD hu, fun O H x y so vx vy Q q => ⟨p, q', vx.dp hp, vy.dp hq, h1, h2, q⟩⟩
theorem isNon_of {K : PySem.W.Frag} {O : Addr → Prop} {H : Hp} {d e : D} {r : Bool} {x y : V} (h : isNonD d e = some r) (vx : Vw K O sa H x d) (vy : Vw K O sa H y e) : y = .non ∧ decide (x = .non) = r := by
  unfold isNonD at h
  split at h
  · cases h; cases vx; cases vy; exact ⟨rfl, rfl⟩
  · cases h; obtain ⟨a, xs, rfl, _⟩ := vx; cases vy; exact ⟨rfl, rfl⟩
  · cases h; obtain ⟨a, xs, rfl, _⟩ := vx; cases vy; exact ⟨rfl, rfl⟩
  · cases h; cases vx; cases vy; exact ⟨rfl, rfl⟩
  · cases h; cases vx; cases vy; exact ⟨rfl, rfl⟩
  · cases h; cases vx; cases vy; exact ⟨rfl, rfl⟩
  · cases h
theorem cm2_is : Cm2 X sa (OpR X (compareOp .Is)) isNonD := by
  intro d e r h
  refine ⟨_, op_isN, fun O H x y so vx vy Q q => ?_⟩
  obtain ⟨h1, h2⟩ := isNon_of h vx vy
  exact ⟨h1, by rw [h2]; exact q⟩
theorem cm2_isnot : Cm2 X sa (OpR X (compareOp .IsNot)) notNonD := by
  intro d e r h
  unfold notNonD at h
  cases he : isNonD d e with
  | none => rw [he] at h; cases h
  | some b =>
    rw [he] at h
    cases h
    refine ⟨_, op_notN, fun O H x y so vx vy Q q => ?_⟩
    obtain ⟨h1, h2⟩ := isNon_of he vx vy
    exact ⟨h1, by rw [h2]; exact q⟩
end

/-! ### subscripts -/
def ixD : D → D → Option Res
  | .lst xs, .int i => (atI xs i).map .sh
  | .tup xs, .int i => (atI xs i).map .sh
  | .str x, .int i => if x.length ≤ sizeLine then (atI x.cps.toList i).map fun c => .sh (.str ⟨#[c]⟩) else none
  | _, _ => none
def cutD (xs : List D) (lo hi : Option Int) : List D := (xs.drop (HT.sIx xs.length 0 lo)).take (HT.sIx xs.length xs.length hi - HT.sIx xs.length 0 lo)
/-- a slice -/
def slD (d : D) (lo hi : Option Int) : Option Res := match d with
  | .lst xs => some (.fr (cutD xs lo hi))
  | .tup xs => if HT.sIx xs.length 0 lo = 0 ∧ HT.sIx xs.length xs.length hi = xs.length then none else some (.sh (.tup (cutD xs lo hi)))
  | _ => none
abbrev FO := Env → S → Option (Option Int × S)
def oNone : FO := fun _ s => some (none, s)
def oSome (f : FE) : FO := fun ρ s => (f ρ s).bind fun a => match a.1 with
  | .sh (.int i) => some (some i, a.2)
  | _ => none
def eSl (f : FE) (lo hi : FO) : FE := fun ρ s => (f ρ s).bind fun a => (lo ρ a.2).bind fun l => (hi ρ l.2).bind fun h => (slD a.1.d l.1 h.1).bind fun r => some (r, h.2)
section
variable {X : Cx} {sa : Addr × Addr}
theorem atI_rel {K : PySem.W.Frag} {O : Addr → Prop} {H : Hp} {xs : List V} {ds : List D} {i : Int} {d : D} (q : DqAll K O sa H xs ds) (h : atI ds i = some d) : ∃ v, atI xs i = some v ∧ Dq K O sa H v d := by
  unfold atI at h ⊢
  rw [q.length]
  cases hi : ixN ds.length i with
  | none => rw [hi] at h; cases h
  | some j =>
    rw [hi] at h
    exact q.get h
theorem op2_ix : Op2 X sa (IxR X) ixD := by
  intro d e r h
  unfold ixD at h
  split at h
  · rename_i xs i
    cases ha : atI xs i with
    | none => rw [ha] at h; cases h
    | some dd =>
      rw [ha] at h
      cases h
      refine ⟨_, ix_list, fun Oc O H x y hd vx vy Q q => ?_⟩
      obtain ⟨a, vs, rfl, na, hl, qa⟩ := vx
      cases vy
      obtain ⟨v, h1, h2⟩ := atI_rel qa ha
      exact ⟨a, vs, i, v, rfl, rfl, SqL.of hl, h1, q v H (Ext.refl _ _) rfl h2⟩
  · rename_i xs i
    cases ha : atI xs i with
    | none => rw [ha] at h; cases h
    | some dd =>
      rw [ha] at h
      cases h
      refine ⟨_, ix_tup, fun Oc O H x y hd vx vy Q q => ?_⟩
      obtain ⟨a, vs, rfl, hl, qa⟩ := vx
      cases vy
      obtain ⟨v, h1, h2⟩ := atI_rel qa ha
      exact ⟨a, vs, i, v, rfl, rfl, hl.sq, h1, q v H (Ext.refl _ _) rfl h2⟩
  · split at h
    · rename_i xs i hz
      cases ha : atI xs.cps.toList i with
      | none => rw [ha] at h; cases h
      | some dd =>
        rw [ha] at h
        cases h
        refine ⟨_, ix_str, fun Oc O H x y hd vx vy Q q => ?_⟩
        cases vx; cases vy
        exact ⟨xs, i, dd, rfl, rfl, hz, ha, q _ H (Ext.refl _ _) rfl rfl⟩
    · cases h
  · cases h
def SndO (X : Cx) (sa : Addr × Addr) (e : Option Expr) (f : FO) : Prop := ∀ ρ s b s', f ρ s = some (b, s') → ∀ Oc B O H σ, Ok X.K sa Oc B O H σ ρ s →
  ∀ Q : Option Int → Hp → Prop, (∀ H', Ext sa H H' → StOk Oc sa H' s' → Q b H') → WO X e σ H Q
theorem o_none : SndO X sa none oNone := by
  intro ρ s b s' e Oc B O H σ ok Q q
  cases e
  exact ⟨_, po_none, q H (Ext.refl _ _) ok.st⟩
theorem o_some {e : Expr} {f : FE} (h : SndE X sa e f) : SndO X sa (some e) (oSome f) := by
  intro ρ s b s' e Oc B O H σ ok Q q
  obtain ⟨⟨r, s1⟩, e1, e⟩ := bind_some_of e
  split at e
  · rename_i i hr
    cases e
    refine ⟨_, po_some peW, ?_⟩
    refine h ρ s r _ e1 Oc B O H σ ok _ fun v H1 x1 st1 v1 => ?_
    have hr' : r = .sh (.int i) := hr
    subst hr'
    exact ⟨i, v1, q H1 x1 st1⟩
  · cases e
theorem cut_rel {K : PySem.W.Frag} {O : Addr → Prop} {H : Hp} {xs : List V} {ds : List D} (q : DqAll K O sa H xs ds) (lo hi : Option Int) : DqAll K O sa H (cutV xs lo hi) (cutD ds lo hi) := by
  unfold cutV cutD
  rw [q.length]
  exact (q.drop _).take _
theorem s_sl {ex : Expr} {lo hi : Option Expr} {f : FE} {l h : FO} {p2 pos : Pos} (he : SndE X sa ex f) (hl : SndO X sa lo l) (hh : SndO X sa hi h) : SndE X sa (.Subscript ex (.Slice lo hi none p2) pos) (eSl f l h) := by
  intro ρ s r s' e Oc B O H σ ok Q q
  obtain ⟨⟨ra, s1⟩, ea, e⟩ := bind_some_of e
  obtain ⟨⟨il, s2⟩, el, e⟩ := bind_some_of e
  obtain ⟨⟨ih, s3⟩, eh, e⟩ := bind_some_of e
  obtain ⟨r', ec, e⟩ := bind_some_of e
  cases e
  have go : ∀ (sl : V → Option Int → Option Int → Hp → VK → Prop), SlR X sl → (∀ (x : V) (H3 : Hp), Hd Oc O sa H3 → Ext sa H H3 → StOk Oc sa H3 s3 → Vw X.K O sa H3 x ra.d → sl x il ih H3 Q) → WE X (.Subscript ex (.Slice lo hi none p2) pos) σ H Q := fun sl hs hk => by
    refine ⟨_, pe_slice hs peW poW poW, ?_⟩
    refine he ρ s ra s1 ea Oc B O H σ ok _ fun x H1 x1 st1 v1 => ?_
    have ok1 := ok.ext x1 st1
    refine hl ρ s1 il s2 el Oc B O H1 σ ok1 _ fun H2 x2 st2 => ?_
    have ok2 := ok1.ext x2 st2
    refine hh ρ s2 ih s3 eh Oc B O H2 σ ok2 _ fun H3 x3 st3 => ?_
    exact hk x H3 (ok2.ext x3 st3).hd ((x1.trans x2).trans x3) st3 (((v1.vw ok.osa ok.sao ok.has).ext ok.osa x2).ext ok.osa x3)
  unfold slD at ec
  split at ec
  · rename_i ds hd
    cases ec
    refine go _ sl_list fun x H3 hd3 x3 st3 vx => ?_
    rw [hd] at vx
    obtain ⟨a, vs, rfl, na, ha, qa⟩ := vx
    refine ⟨a, vs, rfl, SqL.of ha, fun p np => ?_⟩
    exact q _ _ (x3.trans (Ext.new np)) (new_st st3 np) ((rv_fr hd3.so np (cut_rel qa il ih)).pre hd3.hs x3)
  · rename_i ds hd
    split at ec
    · cases ec
    · rename_i whole
      cases ec
      refine go _ sl_tup fun x H3 hd3 x3 st3 vx => ?_
      rw [hd] at vx
      obtain ⟨a, vs, rfl, ta, qa⟩ := vx
      refine ⟨a, vs, rfl, ta.sq, by rw [qa.length]; exact whole, fun p np => ?_⟩
      exact q _ _ (x3.trans (Ext.new np)) (new_st st3 np) ⟨p, _, rfl, .inl ⟨hd3.nO np, upd_same⟩, (cut_rel qa il ih).ext hd3.so (Ext.new np)⟩
  · cases ec
end
end PL

set_option Elab.async false
set_option linter.all false
set_option maxRecDepth 100000
set_option maxHeartbeats 4000000
/-! PL7: calls of built-ins on data. -/
namespace PL
open PySem PySem.Spec PyProof.Rows L2

def lenD : List D → Option Res
  | [.lst xs] => some (.sh (.int xs.length))
  | [.tup xs] => some (.sh (.int xs.length))
  | [.str x] => if x.length ≤ sizeLine then some (.sh (.int x.length)) else none
  | _ => none
def blsOf : List D → Option (List Bool)
  | [] => some []
  | .bl b :: ds => (blsOf ds).bind fun bs => some (b :: bs)
  | _ => none
def intsOf : List D → Option (List Int)
  | [] => some []
  | .int b :: ds => (intsOf ds).bind fun bs => some (b :: bs)
  | _ => none
def strsOf : List D → Option (List Str)
  | [] => some []
  | .str b :: ds => (strsOf ds).bind fun bs => some (b :: bs)
  | _ => none
def allD : List D → Option Res
  | [.lst xs] => (blsOf xs).bind fun bs => some (.sh (.bl (bs.all id)))
  | _ => none
def anyD : List D → Option Res
  | [.lst xs] => (blsOf xs).bind fun bs => some (.sh (.bl (bs.any id)))
  | _ => none
def sumD : List D → Option Res
  | [.lst xs] => (intsOf xs).bind fun ns => some (.sh (.int ns.sum))
  | _ => none
def maxL : List Int → Option Int
  | [] => none
  | x :: xs => some (xs.foldl max x)
def minL : List Int → Option Int
  | [] => none
  | x :: xs => some (xs.foldl min x)
def maxD : List D → Option Res
  | [.lst xs] => (intsOf xs).bind fun ns => (maxL ns).bind fun m => some (.sh (.int m))
  | [.int a, .int b] => some (.sh (.int (max a b)))
  | _ => none
def minD : List D → Option Res
  | [.lst xs] => (intsOf xs).bind fun ns => (minL ns).bind fun m => some (.sh (.int m))
  | [.int a, .int b] => some (.sh (.int (min a b)))
  | _ => none
def absD : List D → Option Res
  | [.int a] => some (.sh (.int (if a < 0 then -a else a)))
  | _ => none
def intD : List D → Option Res
  | [.int a] => some (.sh (.int a))
  | [.bl b] => some (.sh (.int (if b then 1 else 0)))
  | _ => none
def tupD : List D → Option Res
  | [.lst xs] => some (.sh (.tup xs))
  | [.tup xs] => some (.sh (.tup xs))
  | _ => none
def lstD : List D → Option Res
  | [.lst xs] => some (.fr xs)
  | [.tup xs] => some (.fr xs)
  | _ => none
section
variable {K : PySem.W.Frag} {O : Addr → Prop} {sa : Addr × Addr} {H : Hp}
theorem blsOf_rel : ∀ {ds : List D} {bs : List Bool} {vs : List V}, blsOf ds = some bs → DqAll K O sa H vs ds → vs = bs.map V.bl
  | [], _, [], h, _ => by cases h; rfl
  | .bl b :: ds, _, v :: vs, h, q => by
    obtain ⟨bs, h1, h⟩ := bind_some_of h
    cases h
    have e1 : vs = bs.map V.bl := blsOf_rel h1 q.2
    have e2 : v = .bl b := q.1
    rw [e1, e2]; rfl
  | .bl _ :: _, _, [], _, q => q.elim
  | [], _, _ :: _, _, q => q.elim
theorem intsOf_rel : ∀ {ds : List D} {bs : List Int} {vs : List V}, intsOf ds = some bs → DqAll K O sa H vs ds → vs = bs.map V.int
  | [], _, [], h, _ => by cases h; rfl
  | .int b :: ds, _, v :: vs, h, q => by
    obtain ⟨bs, h1, h⟩ := bind_some_of h
    cases h
    have e1 : vs = bs.map V.int := intsOf_rel h1 q.2
    have e2 : v = .int b := q.1
    rw [e1, e2]; rfl
  | .int _ :: _, _, [], _, q => q.elim
  | [], _, _ :: _, _, q => q.elim
theorem strsOf_rel : ∀ {ds : List D} {bs : List Str} {vs : List V}, strsOf ds = some bs → DqAll K O sa H vs ds → vs = bs.map V.str
  | [], _, [], h, _ => by cases h; rfl
  | .str b :: ds, _, v :: vs, h, q => by
    obtain ⟨bs, h1, h⟩ := bind_some_of h
    cases h
    have e1 : vs = bs.map V.str := strsOf_rel h1 q.2
    have e2 : v = .str b := q.1
    rw [e1, e2]; rfl
  | .str _ :: _, _, [], _, q => q.elim
  | [], _, _ :: _, _, q => q.elim
end
@[simp] theorem blsOf_map (bs : List Bool) : blsOf (bs.map D.bl) = some bs := by
  induction bs with
  | nil => rfl
  | cons b bs ih => show (blsOf (bs.map D.bl)).bind _ = _; rw [ih]; rfl
@[simp] theorem intsOf_map (bs : List Int) : intsOf (bs.map D.int) = some bs := by
  induction bs with
  | nil => rfl
  | cons b bs ih => show (intsOf (bs.map D.int)).bind _ = _; rw [ih]; rfl
@[simp] theorem strsOf_map (bs : List Str) : strsOf (bs.map D.str) = some bs := by
  induction bs with
  | nil => rfl
  | cons b bs ih => show (strsOf (bs.map D.str)).bind _ = _; rw [ih]; rfl
theorem foldl_max_spec : ∀ (xs : List Int) (x : Int), (xs.foldl max x ∈ x :: xs) ∧ ∀ y ∈ x :: xs, y ≤ xs.foldl max x
  | [], x => ⟨by simp, by simp⟩
  | y :: ys, x => by
    obtain ⟨h1, h2⟩ := foldl_max_spec ys (max x y)
    show (ys.foldl max (max x y) ∈ x :: y :: ys) ∧ ∀ z ∈ x :: y :: ys, z ≤ ys.foldl max (max x y)
    have h3 := h2 (max x y) (by simp)
    refine ⟨?_, fun z hz => ?_⟩
    · simp only [List.mem_cons] at h1 ⊢
      rcases h1 with h1 | h1
      · rw [h1]
        rcases Int.le_total x y with k | k
        · right; left; omega
        · left; omega
      · exact .inr (.inr h1)
    · simp only [List.mem_cons] at hz
      rcases hz with hz | hz | hz
      · subst hz; omega
      · subst hz; omega
      · exact h2 z (by simp [hz])
theorem foldl_min_spec : ∀ (xs : List Int) (x : Int), (xs.foldl min x ∈ x :: xs) ∧ ∀ y ∈ x :: xs, xs.foldl min x ≤ y
  | [], x => ⟨by simp, by simp⟩
  | y :: ys, x => by
    obtain ⟨h1, h2⟩ := foldl_min_spec ys (min x y)
    show (ys.foldl min (min x y) ∈ x :: y :: ys) ∧ ∀ z ∈ x :: y :: ys, ys.foldl min (min x y) ≤ z
    have h3 := h2 (min x y) (by simp)
    refine ⟨?_, fun z hz => ?_⟩
    · simp only [List.mem_cons] at h1 ⊢
      rcases h1 with h1 | h1
      · rw [h1]
        rcases Int.le_total x y with k | k
        · left; omega
        · right; left; omega
      · exact .inr (.inr h1)
    · simp only [List.mem_cons] at hz
      rcases hz with hz | hz | hz
      · subst hz; omega
      · subst hz; omega
      · exact h2 z (by simp [hz])

section
variable {X : Cx} {sa : Addr × Addr}
theorem vw1 {K : PySem.W.Frag} {O : Addr → Prop} {H : Hp} {d : D} : ∀ {xs : List V}, VwAll K O sa H xs [d] → ∃ x, xs = [x] ∧ Vw K O sa H x d
  | [x], q => ⟨x, rfl, q.1⟩
  | [], q => q.elim
  | _ :: _ :: _, q => q.2.elim
theorem vw2 {K : PySem.W.Frag} {O : Addr → Prop} {H : Hp} {d e : D} : ∀ {xs : List V}, VwAll K O sa H xs [d, e] → ∃ x y, xs = [x, y] ∧ Vw K O sa H x d ∧ Vw K O sa H y e
  | [x, y], q => ⟨x, y, rfl, q.1, q.2.1⟩
  | [], q => q.elim
  | [_], q => q.2.elim
  | _ :: _ :: _ :: _, q => q.2.2.elim
theorem cd_len : CallD X sa (CallR X (.builtin "len")) lenD := by
  intro ds r h
  unfold lenD at h
  split at h
  · cases h
    refine ⟨_, call_len_seq, fun Oc O H xs hd vx Q q => ?_⟩
    obtain ⟨x, rfl, a, vs, rfl, _, ha, qa⟩ := vw1 vx
    exact ⟨a, vs, rfl, .inl (SqL.of ha), q _ H (Ext.refl _ _) rfl (by show V.int _ = V.int _; rw [qa.length])⟩
  · cases h
    refine ⟨_, call_len_seq, fun Oc O H xs hd vx Q q => ?_⟩
    obtain ⟨x, rfl, a, vs, rfl, ha, qa⟩ := vw1 vx
    exact ⟨a, vs, rfl, .inr ha.sq, q _ H (Ext.refl _ _) rfl (by show V.int _ = V.int _; rw [qa.length])⟩
  · split at h
    · rename_i hz
      cases h
      refine ⟨_, call_len_str, fun Oc O H xs hd vx Q q => ?_⟩
      obtain ⟨x, rfl, wx⟩ := vw1 vx
      obtain rfl : x = .str _ := wx
      exact ⟨_, rfl, hz, q _ H (Ext.refl _ _) rfl rfl⟩
    · cases h
  · cases h
theorem cd_all (hc : X.calm = true) : CallD X sa (CallR X (.builtin "all")) allD := by
  intro ds r h
  unfold allD at h
  split at h
  · obtain ⟨bs, h1, h⟩ := bind_some_of h
    cases h
    refine ⟨_, cr_all hc, fun Oc O H xs hd vx Q q => ?_⟩
    obtain ⟨x, rfl, a, vs, rfl, _, ha, qa⟩ := vw1 vx
    rw [blsOf_rel h1 qa] at ha
    exact ⟨a, bs, rfl, SqL.of ha, q _ H (Ext.refl _ _) rfl rfl⟩
  · cases h
theorem cd_any (hc : X.calm = true) : CallD X sa (CallR X (.builtin "any")) anyD := by
  intro ds r h
  unfold anyD at h
  split at h
  · obtain ⟨bs, h1, h⟩ := bind_some_of h
    cases h
    refine ⟨_, cr_any hc, fun Oc O H xs hd vx Q q => ?_⟩
    obtain ⟨x, rfl, a, vs, rfl, _, ha, qa⟩ := vw1 vx
    rw [blsOf_rel h1 qa] at ha
    exact ⟨a, bs, rfl, SqL.of ha, q _ H (Ext.refl _ _) rfl rfl⟩
  · cases h
theorem cd_sum (hc : X.calm = true) : CallD X sa (CallR X (.builtin "sum")) sumD := by
  intro ds r h
  unfold sumD at h
  split at h
  · obtain ⟨bs, h1, h⟩ := bind_some_of h
    cases h
    refine ⟨_, cr_sum hc, fun Oc O H xs hd vx Q q => ?_⟩
    obtain ⟨x, rfl, a, vs, rfl, _, ha, qa⟩ := vw1 vx
    rw [intsOf_rel h1 qa] at ha
    exact ⟨a, bs, rfl, SqL.of ha, q _ H (Ext.refl _ _) rfl rfl⟩
  · cases h
theorem cd_max (hc : X.calm = true) : CallD X sa (CallR X (.builtin "max")) maxD := by
  intro ds r h
  unfold maxD at h
  split at h
  · obtain ⟨bs, h1, h⟩ := bind_some_of h
    obtain ⟨m, h2, h⟩ := bind_some_of h
    cases h
    refine ⟨_, cr_max hc, fun Oc O H xs hd vx Q q => ?_⟩
    obtain ⟨x, rfl, a, vs, rfl, _, ha, qa⟩ := vw1 vx
    rw [intsOf_rel h1 qa] at ha
    cases bs with
    | nil => cases h2
    | cons y ys =>
      cases h2
      refine ⟨a, _, rfl, SqL.of ha, Nat.succ_pos _, fun m hm hle => ?_⟩
      obtain ⟨k1, k2⟩ := foldl_max_spec ys y
      have e : m = ys.foldl max y := Int.le_antisymm (k2 m hm) (hle _ k1)
      exact q _ H (Ext.refl _ _) rfl (by show V.int _ = V.int _; rw [e])
  · cases h
    refine ⟨_, call_max2 hc, fun Oc O H xs hd vx Q q => ?_⟩
    obtain ⟨x, y, rfl, vx, vy⟩ := vw2 vx
    cases vx; cases vy
    rename_i a b
    refine ⟨_, _, rfl, q _ H (Ext.refl _ _) rfl ?_⟩
    show V.int _ = V.int _
    have : (if b > a then b else a) = max a b := by split <;> omega
    rw [this]
  · cases h
theorem cd_min (hc : X.calm = true) : CallD X sa (CallR X (.builtin "min")) minD := by
  intro ds r h
  unfold minD at h
  split at h
  · obtain ⟨bs, h1, h⟩ := bind_some_of h
    obtain ⟨m, h2, h⟩ := bind_some_of h
    cases h
    refine ⟨_, cr_min hc, fun Oc O H xs hd vx Q q => ?_⟩
    obtain ⟨x, rfl, a, vs, rfl, _, ha, qa⟩ := vw1 vx
    rw [intsOf_rel h1 qa] at ha
    cases bs with
    | nil => cases h2
    | cons y ys =>
      cases h2
      refine ⟨a, _, rfl, SqL.of ha, Nat.succ_pos _, fun m hm hle => ?_⟩
      obtain ⟨k1, k2⟩ := foldl_min_spec ys y
      have e : m = ys.foldl min y := Int.le_antisymm (hle _ k1) (k2 m hm)
      exact q _ H (Ext.refl _ _) rfl (by show V.int _ = V.int _; rw [e])
  · cases h
    refine ⟨_, call_min2 hc, fun Oc O H xs hd vx Q q => ?_⟩
    obtain ⟨x, y, rfl, vx, vy⟩ := vw2 vx
    cases vx; cases vy
    rename_i a b
    refine ⟨_, _, rfl, q _ H (Ext.refl _ _) rfl ?_⟩
    show V.int _ = V.int _
    have : (if b < a then b else a) = min a b := by split <;> omega
    rw [this]
  · cases h
theorem cd_abs : CallD X sa (CallR X (.builtin "abs")) absD := by
  intro ds r h
  unfold absD at h
  split at h
  · cases h
    refine ⟨_, call_abs, fun Oc O H xs hd vx Q q => ?_⟩
    obtain ⟨x, rfl, wx⟩ := vw1 vx
    obtain rfl : x = .int _ := wx
    exact ⟨_, rfl, q _ H (Ext.refl _ _) rfl rfl⟩
  · cases h
theorem cd_int : CallD X sa (CallR X (.type "int")) intD := by
  intro ds r h
  unfold intD at h
  split at h
  · cases h
    refine ⟨_, call_int1, fun Oc O H xs hd vx Q q => ?_⟩
    obtain ⟨x, rfl, wx⟩ := vw1 vx
    obtain rfl : x = .int _ := wx
    exact .inl ⟨_, rfl, q _ H (Ext.refl _ _) rfl rfl⟩
  · cases h
    refine ⟨_, call_int1, fun Oc O H xs hd vx Q q => ?_⟩
    obtain ⟨x, rfl, wx⟩ := vw1 vx
    obtain rfl : x = .bl _ := wx
    exact .inr ⟨_, rfl, q _ H (Ext.refl _ _) rfl rfl⟩
  · cases h
theorem rv_tup {K : PySem.W.Frag} {Oc O : Addr → Prop} {H : Hp} {p : Addr} {vs : List V} {ds : List D} (hd : Hd Oc O sa H) (n : H p = none) (q : DqAll K O sa H vs ds) : RVal K Oc O sa H (upd H p (.tup vs)) (.ref p) (.sh (.tup ds)) :=
  ⟨p, vs, rfl, .inl ⟨hd.nO n, upd_same⟩, q.ext hd.so (Ext.new n)⟩
theorem cd_tup : CallD X sa (CallR X (.type "tuple")) tupD := by
  intro ds r h
  unfold tupD at h
  split at h
  · cases h
    refine ⟨_, call_tuple_of, fun Oc O H xs hd vx Q q => ?_⟩
    obtain ⟨x, rfl, a, vs, rfl, _, ha, qa⟩ := vw1 vx
    exact ⟨a, vs, rfl, .inl ⟨SqL.of ha, fun p np => q _ _ (new_ext np) (new_sa hd.hs np) (rv_tup hd np qa)⟩⟩
  · cases h
    refine ⟨_, call_tuple_of, fun Oc O H xs hd vx Q q => ?_⟩
    obtain ⟨x, rfl, a, vs, rfl, ha, qa⟩ := vw1 vx
    exact ⟨a, vs, rfl, .inr ⟨ha.sq, q _ H (Ext.refl _ _) rfl ⟨a, vs, rfl, ha, qa⟩⟩⟩
  · cases h
theorem cd_lst : CallD X sa (CallR X (.type "list")) lstD := by
  intro ds r h
  unfold lstD at h
  split at h
  · cases h
    refine ⟨_, call_list_of, fun Oc O H xs hd vx Q q => ?_⟩
    obtain ⟨x, rfl, a, vs, rfl, _, ha, qa⟩ := vw1 vx
    exact ⟨a, vs, rfl, .inl (SqL.of ha), fun p np => q _ _ (new_ext np) (new_sa hd.hs np) (rv_fr hd.so np qa)⟩
  · cases h
    refine ⟨_, call_list_of, fun Oc O H xs hd vx Q q => ?_⟩
    obtain ⟨x, rfl, a, vs, rfl, ha, qa⟩ := vw1 vx
    exact ⟨a, vs, rfl, .inr ha.sq, fun p np => q _ _ (new_ext np) (new_sa hd.hs np) (rv_fr hd.so np qa)⟩
  · cases h

/-! ### isinstance(e, T), T a built-in type -/
def tyD : D → Option String
  | .non => some "NoneType"
  | .bl _ => some "bool"
  | .int _ => some "int"
  | .str _ => some "str"
  | .tup _ => some "tuple"
  | .lst _ => some "list"
  | .st => none
def isiT (T : String) (t : String) : Option Bool := if t = T then some true else if t = "bool" ∧ T = "int" then some true else if T = "int" ∨ T = "bool" ∨ T = "str" ∨ T = "tuple" ∨ T = "list" then some false else none
def eIsi (T : String) (f : FE) : FE := fun ρ s => (f ρ s).bind fun a => (tyD a.1.d).bind fun t => (isiT T t).bind fun b => some (.sh (.bl b), a.2)
theorem isi_kit {T t : String} {d : D} {b : Bool} (h : tyD d = some t) (e : isiT T t = some b) : kitB t T = some b := by
  have ht : t = "NoneType" ∨ t = "bool" ∨ t = "int" ∨ t = "str" ∨ t = "tuple" ∨ t = "list" := by
    cases d <;> cases h <;> simp
  unfold isiT at e
  split at e
  · rename_i z
    cases e
    subst z
    rcases ht with h | h | h | h | h | h <;> subst h <;> decide +kernel
  · split at e
    · rename_i z
      cases e
      obtain ⟨z1, z2⟩ := z
      subst z1 z2
      decide +kernel
    · split at e
      · rename_i n1 n2 hT
        cases e
        rcases ht with h | h | h | h | h | h <;> subst h <;> rcases hT with k | k | k | k | k <;> subst k <;> first | decide +kernel | exact absurd rfl n1 | exact absurd ⟨rfl, rfl⟩ n2
      · cases e
theorem ty_of {K : PySem.W.Frag} {O : Addr → Prop} {H : Hp} {d : D} {t : String} {v : V} (h : tyD d = some t) (q : Vw K O sa H v d) : TyX K H v (.type t) := by
  cases d with
  | non => cases h; cases q; exact .base .non
  | bl b => cases h; cases q; exact .base (.bl _)
  | int b => cases h; cases q; exact .base (.int _)
  | str b => cases h; cases q; exact .base (.str _)
  | st => cases h
  | lst ds =>
    cases h
    obtain ⟨a, vs, rfl, _, ha, _⟩ := q
    exact .base (.lst ha)
  | tup ds =>
    cases h
    obtain ⟨a, vs, rfl, ha, _⟩ := q
    rcases ha with ⟨_, ha⟩ | ha
    · exact .base (.tup ha)
    · rcases ha (fun _ => none) with (z | ⟨_, z⟩) | ⟨o, its, n, h1, h2, _⟩
      · cases z
      · cases z
      · exact .kTuple h1 h2
theorem s_isi {a : Expr} {f : FE} {T : String} {x y : Str} {p p2 pos : Pos} (hgx : Gl X x) (hmx : X.mg x = none) (hx : bootBuiltins x = some (.builtin "isinstance")) (hnx : x ≠ "__name__") (hdx : (x == ("__debug__" : Str)) = false)
    (hgy : Gl X y) (hmy : X.mg y = none) (hy : bootBuiltins y = some (.type T)) (hny : y ≠ "__name__") (hdy : (y == ("__debug__" : Str)) = false)
    (he : starEach [a, .Name y p2] X.env = (false, eval a X.env) :: starEach [.Name y p2] X.env) (he2 : starEach [.Name y p2] X.env = (false, eval (.Name y p2) X.env) :: starEach [] X.env)
    (hpl : (backTo pos (starEach [.Name y p2] X.env)).any (·.1) = false) (ha : SndE X sa a f) : SndE X sa (.Call (.Name x p) [a, .Name y p2] [] pos) (eIsi T f) := by
  intro ρ s r s' e Oc B O H σ ok Q q
  obtain ⟨⟨ra, s1⟩, ea, e⟩ := bind_some_of e
  obtain ⟨t, et, e⟩ := bind_some_of e
  obtain ⟨b, eb, e⟩ := bind_some_of e
  cases e
  refine ⟨_, pe_callB call_isi hgx hmx hx (pa_cons peW (pa_cons (pe_bltn (v := .ty T) hgy hmy hy rfl hny hdy) pa_nil he2) he) hnx hdx he hpl, ?_⟩
  refine ha ρ s ra s1 ea Oc B O H σ ok _ fun v H1 x1 st1 v1 => ?_
  exact ⟨v, .ty T, .type t, .type T, b, rfl, .ty T, ty_of et (v1.vw ok.osa ok.sao ok.has), kit_ty (isi_kit et eb), q _ H1 x1 st1 rfl⟩

/-! ### tuple(range(e)), sorted(set(e)) -/
noncomputable def eTupRg (f : FE) : FE := fun ρ s => (f ρ s).bind fun a => match a.1.d with
  | .int n => if okT n then some (.sh (.tup (rngD 0 n)), a.2) else none
  | _ => none
def eLstRg2 (f g : FE) : FE := fun ρ s => (f ρ s).bind fun a => (g ρ a.2).bind fun b => match a.1.d, b.1.d with
  | .int m, .int n => if 0 ≤ m ∧ n ≤ 16777216 ∧ m ≤ 16777216 ∧ 0 ≤ n then some (.fr (rngD m n), b.2) else none
  | _, _ => none
theorem rg_rel {K : PySem.W.Frag} {O : Addr → Prop} {H : Hp} (lo hi : Int) : DqAll K O sa H (rgV lo hi) (rngD lo hi) := by
  unfold rgV rngD
  generalize List.range (hi - lo).toNat = l
  induction l with
  | nil => trivial
  | cons i l ih => exact ⟨rfl, ih⟩
theorem s_tupRg {a : Expr} {f : FE} {p p2 pos pos2 : Pos} (hc : X.calm = true) (hg : Gl X "tuple") (hm : X.mg "tuple" = none) (hg2 : Gl X "range") (hm2 : X.mg "range" = none) (he : starEach [a] X.env = (false, eval a X.env) :: starEach [] X.env)
    (ha : SndE X sa a f) : SndE X sa (.Call (.Name "tuple" p) [.Call (.Name "range" p2) [a] [] pos2] [] pos) (eTupRg f) := by
  intro ρ s r s' e Oc B O H σ ok Q q
  obtain ⟨⟨ra, s1⟩, ea, e⟩ := bind_some_of e
  split at e
  · rename_i n hn
    split at e
    · rename_i hz
      have hz : 0 ≤ n ∧ n ≤ 16777216 := hz
      cases e
      refine ⟨_, pe_tupRg hc hg hm (prg_1 hg2 hm2 peW he), ?_⟩
      refine ha ρ s ra _ ea Oc B O H σ ok _ fun v H1 x1 st1 v1 => ?_
      have vv := v1.vw ok.osa ok.sao ok.has
      rw [show ra.d = .int n from hn] at vv
      cases vv
      refine ⟨n, rfl, RgOk.of_le (by omega) hz.2 (by omega) hz.1, fun p np => ?_⟩
      have ok1 := ok.ext x1 st1
      exact q _ _ (x1.trans (Ext.new np)) (new_st st1 np) (rv_tup ok1.hd np (rg_rel 0 n))
    · cases e
  · cases e
/-- into a strictly rising list -/
def sins (k : Int) : List Int → List Int
  | [] => [k]
  | x :: r => if k < x then k :: x :: r else if k = x then x :: r else x :: sins k r
def sset (ns : List Int) : List Int := ns.foldr sins []
theorem sins_mem {k z : Int} : ∀ {l : List Int}, z ∈ sins k l ↔ z = k ∨ z ∈ l
  | [] => by simp [sins]
  | x :: r => by
    unfold sins
    split
    · simp
    · split
      · rename_i h; subst h; simp
      · rw [List.mem_cons, sins_mem, List.mem_cons]
        constructor
        · rintro (h | h | h)
          · exact .inr (.inl h)
          · exact .inl h
          · exact .inr (.inr h)
        · rintro (h | h | h)
          · exact .inr (.inl h)
          · exact .inl h
          · exact .inr (.inr h)
theorem sins_pw {k : Int} : ∀ {l : List Int}, l.Pairwise (· < ·) → (sins k l).Pairwise (· < ·)
  | [], _ => by simp [sins]
  | x :: r, h => by
    have h1 := List.pairwise_cons.mp h
    unfold sins
    split
    · rename_i hk
      refine List.pairwise_cons.mpr ⟨fun z hz => ?_, h⟩
      rcases List.mem_cons.mp hz with e | e
      · omega
      · have := h1.1 z e; omega
    · split
      · exact h
      · rename_i n1 n2
        refine List.pairwise_cons.mpr ⟨fun z hz => ?_, sins_pw h1.2⟩
        rcases sins_mem.mp hz with e | e
        · omega
        · exact h1.1 z e
theorem sset_pw (ns : List Int) : (sset ns).Pairwise (· < ·) := by
  induction ns with
  | nil => exact List.Pairwise.nil
  | cons n ns ih => exact sins_pw ih
theorem sset_mem {z : Int} (ns : List Int) : z ∈ sset ns ↔ z ∈ ns := by
  induction ns with
  | nil => rfl
  | cons n ns ih => show z ∈ sins n (sset ns) ↔ _; rw [sins_mem, ih, List.mem_cons]
theorem rising_eq : ∀ {l m : List Int}, l.Pairwise (· < ·) → m.Pairwise (· < ·) → (∀ z, z ∈ l ↔ z ∈ m) → l = m
  | [], [], _, _, _ => rfl
  | [], y :: m, _, _, h => absurd ((h y).mpr (by simp)) (by simp)
  | x :: l, [], _, _, h => absurd ((h x).mp (by simp)) (by simp)
  | x :: l, y :: m, h1, h2, h => by
    have a1 := List.pairwise_cons.mp h1
    have a2 := List.pairwise_cons.mp h2
    have e : x = y := by
      have k1 := (h x).mp (by simp)
      have k2 := (h y).mpr (by simp)
      rcases List.mem_cons.mp k1 with k1 | k1
      · exact k1
      · rcases List.mem_cons.mp k2 with k2 | k2
        · exact k2.symm
        · have := a2.1 x k1; have := a1.1 y k2; omega
    subst e
    rw [rising_eq a1.2 a2.2 fun z => ?_]
    constructor
    · intro hz
      have := (h z).mp (by simp [hz])
      rcases List.mem_cons.mp this with k | k
      · have := a1.1 z hz; omega
      · exact k
    · intro hz
      have := (h z).mpr (by simp [hz])
      rcases List.mem_cons.mp this with k | k
      · have := a2.1 z hz; omega
      · exact k
def eSset (f : FE) : FE := fun ρ s => (f ρ s).bind fun a => match a.1 with
  | .sh (.tup xs) => (intsOf xs).bind fun ns => if ns.length < 64 then some (.fr ((sset ns).map D.int), a.2) else none
  | _ => none
theorem cr_setTup (hc : X.calm = true) : CallR X (.type "set") (fun xs H Q => ∃ (a : Addr) (ns : List Int), xs = [.ref a] ∧ SqT X.K H a (ns.map V.int) ∧ ns.length < 64 ∧ ∀ p c, H p = none → c ≤ ns.length → Q (.ref p) (upd H p (SetO X.w p (fun j => decide (j ∈ ns)) c))) := by
  intro pins s σ H xs us Q I r h
  obtain ⟨a, ns, rfl, ht, hl, q⟩ := h
  rw [Vals.ref1 r]
  obtain ⟨its, rv, pt, hz⟩ := I.tuple ht
  refine call_set_tupI ns (I.ok.hd hc) (show s.heap.IsTuple a its.toArray from pt) rv.ints (by unfold scanBound; omega) fun h' tk c R1 hcn k => ?_
  have hf := I.hok.fresh (Nat.le_refl s.heap.objs.size)
  exact ⟨.ref s.heap.objs.size, upd H s.heap.objs.size (SetO X.w s.heap.objs.size _ c), I.laid (t' := tk) k (Nat.le_refl _) (setO_new R1), rfl, q _ c hf hcn⟩
theorem s_sset {a : Expr} {f : FE} {p p2 pos pos2 : Pos} (hc : X.calm = true) (hg : Gl X "sorted") (hm : X.mg "sorted" = none) (hg2 : Gl X "set") (hm2 : X.mg "set" = none) (he : starEach [a] X.env = (false, eval a X.env) :: starEach [] X.env)
    (ha : SndE X sa a f) : SndE X sa (.Call (.Name "sorted" p) [.Call (.Name "set" p2) [a] [] pos2] [] pos) (eSset f) := by
  intro ρ s r s' e Oc B O H σ ok Q q
  obtain ⟨⟨ra, s1⟩, ea, e⟩ := bind_some_of e
  split at e
  · rename_i xs hn
    obtain ⟨ns, en, e⟩ := bind_some_of e
    split at e
    · rename_i hz
      cases e
      refine ⟨_, pe_callB (cr_sortedSet hc) hg hm (by decide +kernel) (pa_cons (pe_callTy (cr_setTup hc) hg2 hm2 PyProof.Rows.boot_set (pa_cons peW pa_nil he) (by decide) (by decide) he rfl) pa_nil rfl) (by decide) (by decide) rfl rfl, ?_⟩
      refine ha ρ s ra _ ea Oc B O H σ ok _ fun v H1 x1 st1 v1 => ?_
      rw [show ra = .sh (.tup xs) from hn] at v1
      obtain ⟨t, vs, rfl, ht, qa⟩ := v1
      rw [intsOf_rel en qa] at ht
      refine ⟨t, ns, rfl, ht.sq, hz, fun u c nu hcl => ?_⟩
      refine ⟨u, _, c, rfl, upd_same, by omega, fun ns' p h1 h2 h3 np => ?_⟩
      have e1 : ns' = sset ns := rising_eq h1 (sset_pw ns) fun z => by rw [h2 z, decide_eq_true_iff, sset_mem]
      subst e1
      have x2 := x1.trans (Ext.new (sa := sa) (o := SetO X.w u (fun j => decide (j ∈ ns)) c) nu)
      have st2 := new_st (o := SetO X.w u (fun j => decide (j ∈ ns)) c) st1 nu
      have hp : H p = none := x2.back ((ok.ext x2 st2).sa_ne np) np
      exact q _ _ (x2.trans (Ext.new np)) (new_st st2 np) ⟨p, _, rfl, hp, upd_same, DqAll.of_ints _⟩
    · cases e
  · cases e
end
end PL

set_option Elab.async false
set_option linter.all false
set_option maxRecDepth 100000
set_option maxHeartbeats 4000000
/-! PL8: the context of a def of the text, short rules over it, defs. -/
namespace PL
open PySem PySem.Spec PyProof.Rows L2

structure G where
  P : Program
  w : World
  K : PySem.W.Frag
  mg : Str → Option Value
  base : Heap
  k : Nat
  N : List Str
  bn : List Str
structure Ctx (Γ : G) (sc : Scope) (top : Bool) (X : Cx) : Prop where
  prog : X.prog = Γ.P
  wld : X.w = Γ.w
  frag : X.K = Γ.K
  mgl : X.mg = Γ.mg
  bs : X.base = Γ.base
  nms : X.N = Γ.N
  nd : Γ.N.Nodup
  blt : ∀ x ∈ Γ.bn, Γ.mg x = none
  calm : X.calm = true
  room : Room Γ.k X.A
  kind : X.env.scope.kind = .function
  lk : ∀ x k, sc.names.lookup x = some k → X.env.scope.names.lookup x = some k ∨ (k = .free ∧ X.env.scope.names.lookup x = some .cell)
  pass : PassesOwn (model X.prog X.w) X.A X.env X.xe
  fnt : top = true → ∀ x, X.fn x = true
  fnc : ∀ x, sc.names.lookup x = some .cell → X.fn x = true

def visC (sc : Scope) (x : Str) : Bool := (match sc.names.lookup x with | some .local => true | some .cell => true | some .free => true | _ => false) && !(x == ("__debug__" : Str)) && !(x == ("__classdict__" : Str))
def glC (sc : Scope) (x : Str) : Bool := (match sc.names.lookup x with | some .globalImplicit => true | _ => false) && !(x == ("__debug__" : Str)) && decide (x ≠ "__name__")
def locC (sc : Scope) (x : Str) : Bool := match sc.names.lookup x with | some .local => true | some .cell => true | _ => false
def isLoc (sc : Scope) (x : Str) : Bool := match sc.names.lookup x with | some .local => true | _ => false
def isCell (sc : Scope) (x : Str) : Bool := match sc.names.lookup x with | some .cell => true | _ => false

section
variable {Γ : G} {sc : Scope} {top : Bool} {X : Cx} {sa : Addr × Addr} {a b c e : Expr} {es : List Expr} {f g h : FE} {fa : FA} {t u : FT} {pos : Pos} {x : Str} {i : Nat}
theorem Ctx.vis (C : Ctx Γ sc top X) (h : visC sc x = true) : Vis X.env.scope x ∧ (x == ("__debug__" : Str)) = false ∧ (x == ("__classdict__" : Str)) = false := by
  unfold visC at h
  simp only [Bool.and_eq_true, Bool.not_eq_true'] at h
  obtain ⟨⟨h1, h2⟩, h3⟩ := h
  refine ⟨?_, h2, h3⟩
  split at h1
  · rename_i e
    rcases C.lk x _ e with k | ⟨z, _⟩
    · exact .inl k
    · cases z
  · rename_i e
    rcases C.lk x _ e with k | ⟨z, _⟩
    · exact .inr (.inl k)
    · cases z
  · rename_i e
    rcases C.lk x _ e with k | ⟨_, k⟩
    · exact .inr (.inr k)
    · exact .inr (.inl k)
  · cases h1
theorem Ctx.gl (C : Ctx Γ sc top X) (h : glC sc x = true) : Gl X x ∧ (x == ("__debug__" : Str)) = false ∧ x ≠ "__name__" := by
  unfold glC at h
  simp only [Bool.and_eq_true, Bool.not_eq_true', decide_eq_true_eq] at h
  obtain ⟨⟨h1, h2⟩, h3⟩ := h
  refine ⟨?_, h2, h3⟩
  split at h1
  · rename_i e
    rcases C.lk x _ e with k | ⟨z, _⟩
    · exact k
    · cases z
  · cases h1
theorem Ctx.mn (C : Ctx Γ sc top X) (h : x ∈ Γ.bn) : X.mg x = none := by rw [C.mgl]; exact C.blt x h
theorem Ctx.loc (C : Ctx Γ sc top X) (h : locC sc x = true) : Loc X.env.scope x := by
  unfold locC at h
  split at h
  · rename_i e
    rcases C.lk x _ e with k | ⟨z, _⟩
    · exact .inl k
    · cases z
  · rename_i e
    rcases C.lk x _ e with k | ⟨z, _⟩
    · exact .inr k
    · cases z
  · cases h
theorem Ctx.isl (C : Ctx Γ sc top X) (h : isLoc sc x = true) : X.env.scope.names.lookup x = some .local := by
  unfold isLoc at h
  split at h
  · rename_i e
    rcases C.lk x _ e with k | ⟨z, _⟩
    · exact k
    · cases z
  · cases h
theorem Ctx.isc (C : Ctx Γ sc top X) (h : isCell sc x = true) : X.env.scope.names.lookup x = some .cell := by
  unfold isCell at h
  split at h
  · rename_i e
    rcases C.lk x _ e with k | ⟨z, _⟩
    · exact k
    · cases z
  · cases h
theorem Ctx.fl (C : Ctx Γ sc top X) (h : locC sc x = true) : X.fn x = true ∨ X.env.scope.names.lookup x = some .local := by
  unfold locC at h
  split at h
  · rename_i e
    exact .inr (C.isl (by unfold isLoc; rw [e]))
  · rename_i e
    exact .inl (C.fnc x e)
  · cases h
theorem Ctx.ix (C : Ctx Γ sc top X) (h : Γ.N[i]? = some x) : X.N[i]? = some x := by rw [C.nms]; exact h
theorem Ctx.ndx (C : Ctx Γ sc top X) : X.N.Nodup := by rw [C.nms]; exact C.nd
theorem Ctx.hu (C : Ctx Γ sc top X) : X.A.units + 64 < cLine := by have := C.room.un; omega
theorem lookup_free {sc : Scope} : ∀ {names : List (Str × NameKind)} {x : Str}, names.lookup x = some .free →
    (names.map fun (n, k) => if (k == NameKind.free && sc.kind == .function && sc.names.lookup n == some .cell) then (n, NameKind.cell) else (n, k)).lookup x = some .free ∨
    (names.map fun (n, k) => if (k == NameKind.free && sc.kind == .function && sc.names.lookup n == some .cell) then (n, NameKind.cell) else (n, k)).lookup x = some .cell
  | [], _, h => by simp at h
  | (n, k₀) :: r, x, h => by
    have ih := @lookup_free sc r x
    show List.lookup x ((if (k₀ == NameKind.free && sc.kind == .function && sc.names.lookup n == some .cell) = true then (n, NameKind.cell) else (n, k₀)) :: (r.map _)) = some .free ∨
      List.lookup x ((if (k₀ == NameKind.free && sc.kind == .function && sc.names.lookup n == some .cell) = true then (n, NameKind.cell) else (n, k₀)) :: (r.map _)) = some .cell
    cases hx : x == n with
    | true =>
      simp only [List.lookup_cons, hx] at h
      cases h
      by_cases hc : (NameKind.free == NameKind.free && sc.kind == .function && sc.names.lookup n == some .cell) = true
      · rw [if_pos hc]; simp [List.lookup_cons, hx]
      · rw [if_neg hc]; simp [List.lookup_cons, hx]
    | false =>
      simp only [List.lookup_cons, hx] at h
      by_cases hc : (k₀ == NameKind.free && sc.kind == .function && sc.names.lookup n == some .cell) = true
      · rw [if_pos hc]; simp only [List.lookup_cons, hx]; exact ih h
      · rw [if_neg hc]; simp only [List.lookup_cons, hx]; exact ih h
/-- a comprehension's blocks -/
theorem Ctx.inn (C : Ctx Γ sc top X) {scope : Scope} (hk : scope.kind = .function) {P : Cx → Prop} (f : ∀ Y, Ctx Γ scope false Y → P Y) : inBlk X scope P := fun s H D cl fp => by
  refine f _ ⟨C.prog, C.wld, C.frag, C.mgl, C.bs, C.nms, C.nd, C.blt, C.calm, C.room, hk, fun x k h => ?_, PassesOwn.never, (fun z => nomatch z), fun x h => by show (scope.names.lookup x == some NameKind.cell) = true; rw [h]; rfl⟩
  by_cases hf : k = .free
  · subst hf
    rcases lookup_free (sc := X.env.scope) h with z | z
    · exact .inl z
    · exact .inr ⟨rfl, z⟩
  · exact .inl (lookup_relS_keep hf h)

theorem k_var (C : Ctx Γ sc top X) (i : Nat) (h1 : Γ.N[i]? = some x) (h2 : visC sc x = true) : SndE X sa (.Name x pos) (eVar i) :=
  let ⟨v, d1, d2⟩ := C.vis h2; s_var (C.ix h1) v d1 d2
/-- a constant of the module -/
theorem k_glob (C : Ctx Γ sc top X) {d : D} {v : V} (h2 : glC sc x = true) (hm : ∃ u, Γ.mg x = some u ∧ RelV v u) (hd : ∀ (O : Addr → Prop) (H : Hp), Dq Γ.K O sa H v d) : SndE X sa (.Name x pos) (eC d) := by
  obtain ⟨g, d1, _⟩ := C.gl h2
  obtain ⟨u, hu, r⟩ := hm
  exact s_c (pe_glob g (by rw [C.mgl]; exact hu) r d1) fun O H => by rw [C.frag]; exact hd O H
theorem k_gint (C : Ctx Γ sc top X) {n : Int} (h2 : glC sc x = true) (hm : ∃ u, Γ.mg x = some u ∧ RelV (.int n) u) : SndE X sa (.Name x pos) (eC (.int n)) := k_glob C h2 hm fun _ _ => rfl
theorem k_eq (C : Ctx Γ sc top X) (hm : behindInMarks .Eq b = false) (ha : SndE X sa a f) (hb : SndE X sa b g) : SndE X sa (.Compare a [.Eq] [b] pos) (eCmp eqD f g) := s_cmp (cm2_eq C.hu) hm ha hb
theorem k_ne (C : Ctx Γ sc top X) (hm : behindInMarks .NotEq b = false) (ha : SndE X sa a f) (hb : SndE X sa b g) : SndE X sa (.Compare a [.NotEq] [b] pos) (eCmp neD f g) := s_cmp (cm2_ne C.hu) hm ha hb
theorem kt_eq (C : Ctx Γ sc top X) (hm : behindInMarks .Eq b = false) (ha : SndE X sa a f) (hb : SndE X sa b g) : SndT X sa (.Compare a [.Eq] [b] pos) (tCmp2 eqD f g) := t_cmp (cm2_eq C.hu) hm ha hb
theorem kt_ne (C : Ctx Γ sc top X) (hm : behindInMarks .NotEq b = false) (ha : SndE X sa a f) (hb : SndE X sa b g) : SndT X sa (.Compare a [.NotEq] [b] pos) (tCmp2 neD f g) := t_cmp (cm2_ne C.hu) hm ha hb
theorem k_blt (C : Ctx Γ sc top X) {id : String} {p : Pos} {c : List D → Option Res} (hop : CallD X sa (CallR X (.builtin id)) c) (h2 : glC sc x = true) (h3 : x ∈ Γ.bn) (hv : bootBuiltins x = some (.builtin id))
    (he : starEach (a :: es) X.env = (false, eval a X.env) :: starEach es X.env) (hpl : (backTo pos (starEach es X.env)).any (·.1) = false) (ha : SndA X sa (a :: es) fa) : SndE X sa (.Call (.Name x p) (a :: es) [] pos) (eCall c fa) :=
  let ⟨g, d1, d2⟩ := C.gl h2; s_callB hop g (C.mn h3) hv d2 d1 he hpl ha
theorem k_typ (C : Ctx Γ sc top X) {T : String} {p : Pos} {c : List D → Option Res} (hop : CallD X sa (CallR X (.type T)) c) (h2 : glC sc x = true) (h3 : x ∈ Γ.bn) (hv : bootBuiltins x = some (.type T))
    (he : starEach (a :: es) X.env = (false, eval a X.env) :: starEach es X.env) (hpl : (backTo pos (starEach es X.env)).any (·.1) = false) (ha : SndA X sa (a :: es) fa) : SndE X sa (.Call (.Name x p) (a :: es) [] pos) (eCall c fa) :=
  let ⟨g, d1, d2⟩ := C.gl h2; s_callTy hop g (C.mn h3) hv d2 d1 he hpl ha
theorem k_fn (C : Ctx Γ sc top X) {k : Nat} {ps : List Str} {φ : List D → S → Option (D × S)} {p : Pos} (F : FnF Γ.P Γ.w Γ.K Γ.mg Γ.base k x ps φ) (hk : k ≤ Γ.k) (h2 : glC sc x = true)
    (he : starEach (a :: es) X.env = (false, eval a X.env) :: starEach es X.env) (hpl : (backTo pos (starEach es X.env)).any (·.1) = false) (ha : SndA X sa (a :: es) fa) : SndE X sa (.Call (.Name x p) (a :: es) [] pos) (eFn φ fa) := by
  obtain ⟨g, d1, _⟩ := C.gl h2
  refine s_fn (k := k) (ps := ps) ?_ (C.room.mono hk) g d1 he hpl ha
  rw [C.prog, C.wld, C.frag, C.mgl, C.bs]
  exact F
theorem k_isi (C : Ctx Γ sc top X) {T : String} {y : Str} {p p2 : Pos} (h1 : glC sc x = true) (h2 : x ∈ Γ.bn) (hx : bootBuiltins x = some (.builtin "isinstance")) (h3 : glC sc y = true) (h4 : y ∈ Γ.bn) (hy : bootBuiltins y = some (.type T))
    (he : starEach [a, .Name y p2] X.env = (false, eval a X.env) :: starEach [.Name y p2] X.env) (ha : SndE X sa a f) : SndE X sa (.Call (.Name x p) [a, .Name y p2] [] pos) (eIsi T f) :=
  let ⟨g1, d1, d2⟩ := C.gl h1; let ⟨g2, d3, d4⟩ := C.gl h3; s_isi g1 (C.mn h2) hx d2 d1 g2 (C.mn h4) hy d4 d3 he rfl rfl ha
theorem k_tupRg (C : Ctx Γ sc top X) {p p2 pos2 : Pos} (h1 : glC sc "tuple" = true) (h2 : ("tuple" : Str) ∈ Γ.bn) (h3 : glC sc "range" = true) (h4 : ("range" : Str) ∈ Γ.bn) (he : starEach [a] X.env = (false, eval a X.env) :: starEach [] X.env) (ha : SndE X sa a f) :
    SndE X sa (.Call (.Name "tuple" p) [.Call (.Name "range" p2) [a] [] pos2] [] pos) (eTupRg f) := s_tupRg C.calm (C.gl h1).1 (C.mn h2) (C.gl h3).1 (C.mn h4) he ha
theorem k_sset (C : Ctx Γ sc top X) {p p2 pos2 : Pos} (h1 : glC sc "sorted" = true) (h2 : ("sorted" : Str) ∈ Γ.bn) (h3 : glC sc "set" = true) (h4 : ("set" : Str) ∈ Γ.bn) (he : starEach [a] X.env = (false, eval a X.env) :: starEach [] X.env) (ha : SndE X sa a f) :
    SndE X sa (.Call (.Name "sorted" p) [.Call (.Name "set" p2) [a] [] pos2] [] pos) (eSset f) := s_sset C.calm (C.gl h1).1 (C.mn h2) (C.gl h3).1 (C.mn h4) he ha
theorem k_rg1 (C : Ctx Γ sc top X) {tg : Expr} {p : Pos} (h1 : glC sc "range" = true) (h2 : ("range" : Str) ∈ Γ.bn) (hs : starEach [a] X.env = [(false, eval a X.env)]) (ha : SndE X sa a f) : SndI X sa tg (.Call (.Name "range" p) [a] [] pos) (iRg1 f) := i_rg1 (C.gl h1).1 (C.mn h2) hs ha
theorem k_rg2 (C : Ctx Γ sc top X) {tg : Expr} {p : Pos} (h1 : glC sc "range" = true) (h2 : ("range" : Str) ∈ Γ.bn) (hs : starEach [a, b] X.env = [(false, eval a X.env), (false, eval b X.env)]) (hs2 : starEach [b] X.env = [(false, eval b X.env)]) (ha : SndE X sa a f) (hb : SndE X sa b g) :
    SndI X sa tg (.Call (.Name "range" p) [a, b] [] pos) (iRg2 f g) := i_rg2 (C.gl h1).1 (C.mn h2) hs hs2 ha hb
theorem kg_nm (C : Ctx Γ sc top X) (i : Nat) (h1 : Γ.N[i]? = some x) (h2 : locC sc x = true) : SndG X sa [i] (.Name x pos) (gN i) :=
  g_nm C.ndx (C.ix h1) (C.loc h2) (C.fl h2)
theorem kg_tup (C : Ctx Γ sc top X) {sl : List Nat} {n k : Nat} {tgs : List Expr} {h : List D → Env → Option Env} (hn : (assignEach tgs X.env).length = n) (hst : (assignEach tgs X.env).findIdx? (·.1) = none) (hl : ∀ ds ρ r, h ds ρ = some r → ds.length = n) (h1 : SndGs X sa sl tgs h) : SndG X sa sl (.Tuple tgs k pos) (gT h) :=
  g_tup C.calm hn hst hl h1
theorem k_lc (C : Ctx Γ sc top X) {elt tg iter : Expr} {ifs : List Expr} {scope : Scope} (own : List (Str × Nat)) {sl : List Nat} {g : FG} {fi : FI} {c : FT} {f : FE} (ok : blkC Γ.N sc scope own = true) (hs : ∀ x, foldedSetIterable iter X.env x = pure x)
    (hi : SndI X sa tg iter fi) (hg : ∀ Y, Ctx Γ scope false Y → SndG Y sa sl tg g) (hc : ∀ Y, Ctx Γ scope false Y → SndC Y sa ifs c) (he : ∀ Y, Ctx Γ scope false Y → SndE Y sa elt f) (hsl : (sl.all fun i => (own.map (·.2)).contains i) = true) :
    SndE X sa (.ListComp elt [⟨tg, iter, ifs, 0⟩] scope pos) (eLc (own.map (·.2)) g fi c f) := by
  have B := blkOk_by ok
  have B2 : BlkOk X.N X.env.scope scope own := by
    rw [C.nms]
    refine ⟨B.kind, B.uniq, B.ix, fun y hy e => ?_, B.own⟩
    rcases B.free y hy e with k | k
    · rcases C.lk _ _ k with z | ⟨z, _⟩
      · exact .inl z
      · cases z
    · rcases C.lk _ _ k with z | ⟨_, z⟩
      · exact .inr z
      · exact .inl z
  refine s_lc C.calm C.ndx B2 hs hi (C.inn B.kind hg) (C.inn B.kind hc) (C.inn B.kind he) fun i hi => ?_
  have := List.all_eq_true.mp hsl i hi
  simpa using this
theorem k_setLc (C : Ctx Γ sc true X) (i : Nat) {elt tg iter : Expr} {ifs : List Expr} {scope : Scope} (own : List (Str × Nat)) {sl : List Nat} {g : FG} {fi : FI} {c : FT} {f : FE} {py spos : Pos} (h1 : Γ.N[i]? = some x) (h2 : isLoc sc x = true) (ok : blkC Γ.N sc scope own = true)
    (hl : (py.line == pos.line) = true) (hn : (scope.names.any fun (n, k) => n == x && (k == .local || k == .cell)) = false) (hs : ∀ x, foldedSetIterable iter X.env x = pure x)
    (hi : SndI X sa tg iter fi) (hg : ∀ Y, Ctx Γ scope false Y → SndG Y sa sl tg g) (hc : ∀ Y, Ctx Γ scope false Y → SndC Y sa ifs c) (he : ∀ Y, Ctx Γ scope false Y → SndE Y sa elt f) (hsl : (sl.all fun i => (own.map (·.2)).contains i) = true) :
    SndS X sa (.Assign [.Name x py] (.ListComp elt [⟨tg, iter, ifs, 0⟩] scope pos) spos) (sSet i (eLc (own.map (·.2)) g fi c f)) := by
  have B := blkOk_by ok
  have B2 : BlkOk X.N X.env.scope scope own := by
    rw [C.nms]
    refine ⟨B.kind, B.uniq, B.ix, fun y hy e => ?_, B.own⟩
    rcases B.free y hy e with k | k
    · rcases C.lk _ _ k with z | ⟨z, _⟩
      · exact .inl z
      · cases z
    · rcases C.lk _ _ k with z | ⟨_, z⟩
      · exact .inr z
      · exact .inl z
  refine s_setLc C.calm C.ndx (C.ix h1) (C.isl h2) (sw_true C.kind (C.isl h2) hl hn) B2 hs hi (C.inn B.kind hg) (C.inn B.kind hc) (C.inn B.kind he) fun i hi => ?_
  have := List.all_eq_true.mp hsl i hi
  simpa using this
theorem k_set (C : Ctx Γ sc true X) (i : Nat) {ps : Pos} (h1 : Γ.N[i]? = some x) (h2 : locC sc x = true) (hs : swapsWith a (some (.Name x ps)) pos.line X.env = pure false) (h : SndE X sa a f) : SndS X sa (.Assign [.Name x ps] a pos) (sSet i f) :=
  s_set C.ndx (C.ix h1) (C.loc h2) hs (.inl (C.fnt rfl x)) h
/-- the same of a comprehension, the name captured -/
theorem sw_cell {elt : Expr} {gs : List Comprehension} {scope : Scope} {pos py : Pos} {y : Str} {l : Nat} {env : PySem.Env} (hy : env.kindOf y = some .cell) : swapsWith (.ListComp elt gs scope pos) (some (.Name y py)) l env = pure false := by
  unfold swapsWith
  simp only [hy]
  have : (some NameKind.cell == some NameKind.local) = false := rfl
  simp only [this, Bool.and_false, Bool.false_and]
theorem k_setLcC (C : Ctx Γ sc true X) (i : Nat) {elt : Expr} {gs : List Comprehension} {scope : Scope} {py spos : Pos} (h1 : Γ.N[i]? = some x) (h2 : isCell sc x = true) (h : SndE X sa (.ListComp elt gs scope pos) f) :
    SndS X sa (.Assign [.Name x py] (.ListComp elt gs scope pos) spos) (sSet i f) :=
  s_set C.ndx (C.ix h1) (.inr (C.isc h2)) (sw_cell (C.isc h2)) (.inl (C.fnt rfl x)) h
theorem k_for (C : Ctx Γ sc top X) {sl : List Nat} {tg iter : Expr} {body : List Stmt} {fi : FI} {g : FG} {k : FS} (hs : ∀ x, foldedSetIterable iter X.env x = pure x) (hi : SndI X sa tg iter fi) (hg : SndG X sa sl tg g) (hb : SndB X sa body k) : SndS X sa (.For tg iter body [] pos) (sFor g fi k) :=
  s_for C.pass C.calm hs hi hg hb
theorem k_while (C : Ctx Γ sc top X) {body : List Stmt} {k : FS} (n : Nat) (ht : SndT X sa a t) (hb : SndB X sa body k) : SndS X sa (.While a body [] pos) (whL t k n) := s_while C.pass ht hb
theorem k_app (C : Ctx Γ sc top X) (i : Nat) {px pa pc : Pos} (h1 : Γ.N[i]? = some x) (h2 : visC sc x = true) (hb : attributeBase (.Name x px) "append" X.env (eval (.Name x px) X.env) = eval (.Name x px) X.env) (hline : (pa.endLine == pc.line) = true)
    (hst : starEach [a] X.env = (false, eval a X.env) :: starEach [] X.env)
    (hs : swapsWith (.Call (.Attribute (.Name x px) "append" pa) [a] [] pc) none pos.line X.env = pure false) (h : SndE X sa a f) : SndS X sa (.Expr (.Call (.Attribute (.Name x px) "append" pa) [a] [] pc) pos) (sApp i f) := by
  obtain ⟨v, d1, d2⟩ := C.vis h2
  refine s_app (C.ix h1) v d1 d2 hs (fun ta hta => ?_) h
  refine pe_bm PySem.F.plainAttrs_list PySem.F.slot_list_append PySem.F.type_list_append mt_append (pe_var (C.ix h1) v d1 d2) (pa_cons hta pa_nil hst) hb ?_ hline hst rfl
  rw [hst]
  rfl
end

/-! ### defs -/
def fnSem (np n : Nat) (body : FS) : List D → S → Option (D × S) := fun ds s => if ds.length = np then match body (ds.map (fun d => some (.sh d)) ++ List.replicate (n - np) none) s with
  | some (.rt d s') => some (d, s')
  | some (.nx _ s') => some (.non, s')
  | _ => none
  else none
section
variable {P : Program} {w : World} {K : PySem.W.Frag} {mg : Str → Option Value} {base : Heap}
theorem start_get {N : List Str} {vs : List V} {i : Nat} {v : V} (h : vs[i]? = some v) : (L2.start N vs)[i]? = some (some v) := by
  unfold L2.start
  have hi : i < vs.length := by
    rcases Nat.lt_or_ge i vs.length with z | z
    · exact z
    · rw [List.getElem?_eq_none z] at h; cases h
  rw [List.getElem?_append_left (by simpa using hi), List.getElem?_map, h]
  rfl
theorem ok_start {sa : Addr × Addr} {O : Addr → Prop} {H : Hp} {N : List Str} {vs : List V} {ds : List D} {s : S} {np : Nat} (hn : np ≤ N.length) (hl : ds.length = np) (tr : ∀ p, O p → ∃ o, H p = some o) (st : StOk O sa H s) (q : DqAll K O sa H vs ds) :
    Ok K sa O (fun a => if a = sa.1 then none else H a) O H (L2.start N vs) (ds.map (fun d => some (.sh d)) ++ List.replicate (N.length - np) none) s := by
  have slot : ∀ (i : Nat) (e : Ent), (ds.map (fun d => some (Ent.sh d)) ++ List.replicate (N.length - np) none)[i]? = some (some e) → ∃ d, ds[i]? = some d ∧ e = .sh d := fun i e h => by
    by_cases hi : i < ds.length
    · rw [List.getElem?_append_left (by simpa using hi), List.getElem?_map, List.getElem?_eq_getElem hi] at h
      cases h
      exact ⟨_, List.getElem?_eq_getElem hi, rfl⟩
    · rw [List.getElem?_append_right (by simpa using hi), List.getElem?_replicate] at h
      split at h <;> cases h
  refine ⟨fun a o h => ?_, fun p z => z, tr, fun p z => .inl z, st, ?_, fun i e h => ?_, fun i j p es fs h _ _ _ => ?_⟩
  · split at h
    · cases h
    · rename_i n
      exact ⟨n, h⟩
  · unfold L2.start
    rw [List.length_append, List.length_append, List.length_map, List.length_map, List.length_replicate, List.length_replicate, q.length, hl]
  · obtain ⟨d, h1, rfl⟩ := slot i e h
    obtain ⟨v, h2, h3⟩ := q.get h1
    exact ⟨v, start_get h2, h3⟩
  · obtain ⟨d, _, e⟩ := slot i _ h
    cases e
/-- THE RULE for a def: its body is sound in every context -/
theorem def_ok {x qual : Str} {st : Stmt} {f : Addr} {fd : FuncData} {N ps bn : List Str} {k : Nat} {body : FS} (F : Fun K x qual st f fd) (hm : mg x = some (.ref f)) (hb : Binds K fd ps []) (hB : ∀ x ∈ bn, mg x = none) (S : FnScope N ps (defScope st))
    (hbody : ∀ (X : Cx) (sa : Addr × Addr), Ctx ⟨P, w, K, mg, base, k, N, bn⟩ (defScope st) true X → SndB X sa (defBody st) body) : FnF P w K mg base (k + 1) x ps (fnSem ps.length N.length body) := by
  refine ⟨fun ds s r h => ?_, f, fd, hm, F.kp, hb, ?_⟩
  · unfold fnSem at h
    split at h
    · assumption
    · cases h
  have hpn : ps.length ≤ N.length := by have := congrArg List.length S.pre; rw [List.length_take] at this; omega
  refine F.ok S (fun vs H Q E h => ?_) (fun cdv A outer s H vs Q E hr h => ?_)
  · obtain ⟨_, _, _, _, _, _, _, h, _⟩ := h
    exact h
  · obtain ⟨sa, O, ds, s0, d, s', hφ, hl, tr, stk, q, k'⟩ := h
    unfold fnSem at hφ
    split at hφ
    case isFalse => cases hφ
    rename_i hdl
    refine ⟨_, pbW, ?_⟩
    have C : Ctx ⟨P, w, K, mg, base, k, N, bn⟩ (defScope st) true (cxOf CX0 P w K mg base N qual (defScope st) f cdv A outer s H E).nox :=
      ⟨rfl, rfl, rfl, rfl, rfl, rfl, S.nd, hB, rfl, hr, S.kind, fun _ _ z => .inl z, PassesOwn.never, fun _ _ => rfl, fun _ _ => rfl⟩
    have ok := ok_start (N := N) hpn hdl tr stk q
    cases ho : body (ds.map (fun d => some (.sh d)) ++ List.replicate (N.length - ps.length) none) s0 with
    | none => rw [ho] at hφ; cases hφ
    | some out =>
      rw [ho] at hφ
      refine hbody _ sa C _ s0 out ho O _ O H _ ok _ ?_
      have ext : ∀ H' : Hp, (∀ a o, (if a = sa.1 then none else H a) = some o → a ≠ sa.1 ∧ H' a = some o) → Ext sa H H' := fun H' kp a o n h => (kp a o (by rw [if_neg n]; exact h)).2
      cases out with
      | rt d' s'' =>
        cases hφ
        exact fun v H' kp st' dq => k' v H' (ext H' kp) st' dq
      | nx ρ s'' =>
        cases hφ
        exact fun O' H' σ' ok' => k' .non H' (ext H' ok'.keep) ok'.st rfl
      | bk ρ s'' => cases hφ
      | ct ρ s'' => cases hφ
end
end PL

set_option Elab.async false
set_option linter.all false
set_option maxRecDepth 100000
set_option maxHeartbeats 4000000
/-! PL9: draws, the law's own begin. -/
namespace PL
open PySem PySem.Spec PyProof.Rows L2

/-! ### draws as data -/
def pre (s : S) : S := if s.left = 0 ∧ s.at_ < s.cells.length then { s with cur := s.cells.getD s.at_ 0, left := 60, at_ := s.at_ + 1 } else s
def drR (n : Int) (s : S) : Int := if 0 < (pre s).left then (pre s).cur % n else
  (((pre s).mix * 48271 + ((pre s).cnt + 1) * ((pre s).cnt + 1) * 69621 + 11) % 2147483647) / 13 % n
def drS (n : Int) (s : S) : S := if 0 < (pre s).left then { pre s with cur := (pre s).cur / n, left := if 0 < (pre s).cur / n then (pre s).left - 1 else 0 } else
  { pre s with cnt := (pre s).cnt + 1, mix := ((pre s).mix * 48271 + ((pre s).cnt + 1) * ((pre s).cnt + 1) * 69621 + 11) % 2147483647 }
noncomputable def drawD : List D → S → Option (D × S)
  | [.st, .int n], s => if okDr n s.cnt then some (.int (drR n s), drS n s) else none
  | _, _ => none
theorem drR_nonneg {n : Int} (h : 0 < n) (s : S) : 0 ≤ drR n s := by
  unfold drR
  split <;> exact Int.emod_nonneg _ (by omega)
theorem drR_lt {n : Int} (h : 0 < n) (s : S) : drR n s < n := by
  unfold drR
  split <;> exact Int.emod_lt_of_pos _ h
theorem pre_cnt (s : S) : (pre s).cnt = s.cnt := by unfold pre; split <;> rfl
theorem drS_cnt (n : Int) (s : S) : s.cnt ≤ (drS n s).cnt ∧ (drS n s).cnt ≤ s.cnt + 1 := by
  unfold drS
  split
  · show s.cnt ≤ (pre s).cnt ∧ (pre s).cnt ≤ s.cnt + 1
    rw [pre_cnt]; omega
  · show s.cnt ≤ (pre s).cnt + 1 ∧ (pre s).cnt + 1 ≤ s.cnt + 1
    rw [pre_cnt]; omega

section
variable {P : Program} {w : World} {K : PySem.W.Frag} {mg : Str → Option Value} {base : Heap}
theorem rd {σ : L2.St} {H : Hp} {Q : VK} {p : Addr} {L : List V} {v : V} {k : Int} (h0 : σ[0]? = some (some (.ref p))) (hH : H p = some (.lst L)) (ha : atI L k = some v) (q : Q v H) : tOp (rIxL K) (tVar 0) (tC (.int k)) σ H Q :=
  ⟨.ref p, h0, p, L, k, v, rfl, rfl, SqL.of hH, ha, q⟩
theorem wr {σ : L2.St} {H : Hp} {Q : L2.St → Hp → Prop} {p : Addr} {L : List V} {v : V} {k : Int} {j : Nat} (h0 : σ[0]? = some (some (.ref p))) (hH : H p = some (.lst L)) (ha : ixN L.length k = some j) (q : Q σ (upd H p (.lst (L.set j v)))) :
    gSub (tVar 0) (tC (.int k)) rSetL v σ H Q := ⟨.ref p, h0, p, L, k, j, rfl, rfl, hH, ha, q⟩

/-- the state list of s -/
def stL (c : Addr) (s : S) : List V := [.ref c, .int s.at_, .int s.cur, .int s.left, .int s.mix, .int s.cnt]
abbrev rLen (K : PySem.W.Frag) : List V → Hp → VK → Prop := fun xs H Q => ∃ p ys, xs = [.ref p] ∧ (SqL K H p ys ∨ SqT K H p ys) ∧ Q (.int ys.length) H
abbrev rInt : List V → Hp → VK → Prop := fun xs H Q => (∃ i, xs = [.int i] ∧ Q (.int i) H) ∨ ∃ k, xs = [.bl k] ∧ Q (.int (if k then 1 else 0)) H
abbrev tGet (K : PySem.W.Frag) (k : Int) : TE := tOp (rIxL K) (tVar 0) (tC (.int k))
abbrev gPut (k : Int) : TG := gSub (tVar 0) (tC (.int k)) rSetL
abbrev rAd : R2 := rI0 fun i j => .int (i + j)
abbrev rSu : R2 := rI0 fun i j => .int (i - j)
abbrev rMu : R2 := rI CMul fun i j => .int (i * j)
abbrev rDi : R2 := rI CDiv fun i j => .int (i / j)
abbrev rMo : R2 := rI (fun _ j => 0 < j) fun i j => .int (i % j)
abbrev rGT : R2 := rI0 fun i j => .bl (decide (j < i))
abbrev rLT : R2 := rI0 fun i j => .bl (decide (i < j))
/-- the body of _law_draw, as a reading -/
def tD1 (K : PySem.W.Frag) : TS :=
  tIfS (tAnd (tTest (tOp rEq (tGet K 3) (tC (.int 0)))) (tTest (tOp rLT (tGet K 1) (tCB (rLen K) (tCons (tGet K 0) tNil)))))
    (tAsg (tTup (tCons (tOp (rIxL K) (tGet K 0) (tGet K 1)) (tCons (tC (.int 60)) (tCons (tOp rAd (tGet K 1) (tC (.int 1))) tNil)))) (gTup K 3 (gCons (gPut 2) (gCons (gPut 3) (gCons (gPut 1) gNil))))) tNext
def tD2 (K : PySem.W.Frag) : TS :=
  tSeq (tIfS (tTest (tOp rGT (tGet K 3) (tC (.int 0))))
    (tSeq (tAsg (tOp rMo (tCB rInt (tCons (tGet K 2) tNil)) (tVar 1)) (gName 2))
    (tSeq (tAsg (tOp rDi (tGet K 2) (tVar 1)) (gPut 2))
    (tSeq (tAsg (tIf (tTest (tOp rGT (tGet K 2) (tC (.int 0)))) (tOp rSu (tGet K 3) (tC (.int 1))) (tC (.int 0))) (gPut 3))
    (tRet (tVar 2))))) tNext)
  (tSeq (tAsg (tOp rAd (tGet K 5) (tC (.int 1))) (gPut 5))
  (tSeq (tAsg (tOp rMo (tCB rInt (tCons (tOp rAd (tOp rAd (tOp rMu (tGet K 4) (tC (.int 48271))) (tOp rMu (tOp rMu (tGet K 5) (tGet K 5)) (tC (.int 69621)))) (tC (.int 11))) tNil)) (tC (.int 2147483647))) (gPut 4))
  (tRet (tOp rMo (tCB rInt (tCons (tOp rDi (tGet K 4) (tC (.int 13))) tNil)) (tVar 1)))))
def tDraw (K : PySem.W.Frag) : TS := tSeq (tD1 K) (tD2 K)

theorem wr' {σ : L2.St} {H : Hp} {Q : L2.St → Hp → Prop} {p : Addr} {L : List V} {v : V} {k : Int} (j : Nat) (h0 : σ[0]? = some (some (.ref p))) (hH : H p = some (.lst L)) (ha : ixN L.length k = some j)
    (q : ∀ H', H' p = some (.lst (L.set j v)) → (∀ a, a ≠ p → H' a = H a) → Q σ H') : gSub (tVar 0) (tC (.int k)) rSetL v σ H Q := ⟨.ref p, h0, p, L, k, j, rfl, rfl, hH, ha, q _ upd_same fun a n => upd_ne n⟩
theorem draw2 {sa : Addr × Addr} {O : Addr → Prop} {H : Hp} {s : S} {n : Int} {D : Ends} {y : Option V} (st : StOk O sa H s) (hn : 0 < n ∧ n < 1073741824) (hc : 0 ≤ s.cnt ∧ s.cnt < 4611686018427387904) (hpre : pre s = s)
    (q : ∀ v H', Ext sa H H' → StOk O sa H' (drS n s) → v = .int (drR n s) → D.rt v H') : tD2 K D [some (.ref sa.1), some (.int n), y] H := by
  obtain ⟨ncp, oc, op, hp, hcell⟩ := st
  refine rd rfl hp rfl ⟨_, _, rfl, rfl, _, rfl, ite2 (fun e => ?_) fun e => ?_⟩
  · have e' : 0 < s.left := of_decide_eq_true e
    refine rd rfl hp rfl (.inl ⟨_, rfl, _, rfl, _, _, rfl, rfl, hn.1, ?_⟩)
    refine rd rfl hp rfl ⟨_, rfl, _, _, rfl, rfl, ⟨hn.1, hn.2⟩, ?_⟩
    refine wr' 2 rfl hp rfl fun H1 h1 k1 => ?_
    have fin : ∀ k : Int, k = (if 0 < s.cur / n then s.left - 1 else 0) → ∀ H2, H2 sa.1 = some (.lst [.ref sa.2, .int s.at_, .int (s.cur / n), .int k, .int s.mix, .int s.cnt]) → (∀ a, a ≠ sa.1 → H2 a = H1 a) → D.rt (.int (s.cur % n)) H2 := by
      rintro k rfl H2 h2 k2
      refine q _ _ (fun a o na h => by rw [k2 a na, k1 a na]; exact h) ⟨ncp, oc, op, ?_, ?_⟩ ?_
      · rw [h2]
        unfold drS
        rw [hpre, if_pos e']
      · unfold drS
        rw [hpre, if_pos e', k2 _ ncp, k1 _ ncp]
        exact hcell
      · unfold drR
        rw [hpre, if_pos e']
    refine rd rfl h1 rfl ⟨_, _, rfl, rfl, _, rfl, ite2 (fun e2 => ?_) fun e2 => ?_⟩
    · have e2' : 0 < s.cur / n := of_decide_eq_true e2
      refine rd rfl h1 rfl ⟨_, _, rfl, rfl, ?_⟩
      refine wr' 3 rfl h1 rfl fun H2 h2 k2 => ?_
      exact ⟨_, rfl, fin (s.left - 1) (by rw [if_pos e2']) H2 h2 k2⟩
    · have e2' : ¬ 0 < s.cur / n := fun z => e2 (decide_eq_true z)
      refine wr' 3 rfl h1 rfl fun H2 h2 k2 => ?_
      exact ⟨_, rfl, fin 0 (by rw [if_neg e2']) H2 h2 k2⟩
  · have e' : ¬ 0 < s.left := fun z => e (decide_eq_true z)
    refine rd rfl hp rfl ⟨_, _, rfl, rfl, ?_⟩
    refine wr' 5 rfl hp rfl fun H1 h1 k1 => ?_
    refine rd rfl h1 rfl ⟨_, _, rfl, rfl, .inr (by decide), ?_⟩
    refine rd rfl h1 rfl (rd rfl h1 rfl ⟨_, _, rfl, rfl, .inl ⟨by omega, by omega⟩, _, _, rfl, rfl, .inr (by decide), _, _, rfl, rfl, _, _, rfl, rfl, .inl ⟨_, rfl, _, _, rfl, rfl, (by show (0 : Int) < 2147483647; decide), ?_⟩⟩)
    refine wr' 4 rfl h1 rfl fun H2 h2 k2 => ?_
    refine rd rfl h2 rfl ⟨_, _, rfl, rfl, ⟨by decide, by decide⟩, .inl ⟨_, rfl, _, rfl, _, _, rfl, rfl, hn.1, ?_⟩⟩
    refine q _ _ (fun a o na h => by rw [k2 a na, k1 a na]; exact h) ⟨ncp, oc, op, ?_, ?_⟩ ?_
    · rw [h2]
      unfold drS
      rw [hpre, if_neg e']
      rfl
    · unfold drS
      rw [hpre, if_neg e', k2 _ ncp, k1 _ ncp]
      exact hcell
    · unfold drR
      rw [hpre, if_neg e']
theorem pre_pre (s : S) : pre (pre s) = pre s := by
  unfold pre
  split
  · rw [if_neg (fun z => absurd z.1 (by show ¬ (60 : Int) = 0; decide))]
  · rfl
theorem draw1 {sa : Addr × Addr} {O : Addr → Prop} {H : Hp} {s : S} {n : Int} {D : Ends} {y : Option V} (st : StOk O sa H s) (hn : 0 < n ∧ n < 1073741824) (hc : 0 ≤ s.cnt ∧ s.cnt < 4611686018427387904)
    (q : ∀ v H', Ext sa H H' → StOk O sa H' (drS n s) → v = .int (drR n s) → D.rt v H') : tDraw K D [some (.ref sa.1), some (.int n), y] H := by
  obtain ⟨ncp, oc, op, hp, hcell⟩ := id st
  have go : ∀ H1, Ext sa H H1 → StOk O sa H1 (pre s) → tD2 K D [some (.ref sa.1), some (.int n), y] H1 := fun H1 x1 st1 => by
    refine draw2 st1 hn (by rw [pre_cnt]; exact hc) (pre_pre s) fun v H' x2 st2 e => q v H' (x1.trans x2) ?_ ?_
    · unfold drS at st2 ⊢
      rw [pre_pre] at st2
      exact st2
    · rw [e]
      unfold drR
      rw [pre_pre]
  refine rd rfl hp rfl ⟨rfl, _, rfl, ite2 (fun e => ?_) fun e => ?_⟩
  · have e' : s.left = 0 := V.int.inj (of_decide_eq_true e)
    refine rd rfl hp rfl (rd rfl hp rfl ⟨_, _, rfl, .inl (SqL.of hcell), _, _, rfl, rfl, _, rfl, ite2 (fun e2 => ?_) fun e2 => ?_⟩)
    · have e2' : (s.at_ : Int) < ((s.cells.map V.int).length : Nat) := of_decide_eq_true e2
      rw [List.length_map] at e2'
      have e3 : s.at_ < s.cells.length := by omega
      have hx : (s.cells.map V.int)[s.at_]? = some (.int (s.cells.getD s.at_ 0)) := by
        rw [List.getElem?_map, List.getElem?_eq_getElem e3, List.getD_eq_getElem?_getD, List.getElem?_eq_getElem e3]
        rfl
      have hpre : pre s = { s with cur := s.cells.getD s.at_ 0, left := 60, at_ := s.at_ + 1 } := by unfold pre; rw [if_pos ⟨e', e3⟩]
      refine rd rfl hp rfl (rd rfl hp rfl ⟨_, _, _, _, rfl, rfl, SqL.of hcell, atI_nat hx, ?_⟩)
      refine rd rfl hp rfl ⟨_, _, rfl, rfl, by show 3 ≤ sizeLine; decide, fun T nT => ?_⟩
      have nTp : T ≠ sa.1 := (ne_of_none hp nT).symm
      have nTc : T ≠ sa.2 := (ne_of_none hcell nT).symm
      have hT : (upd H T (.tup [.int (s.cells.getD s.at_ 0), .int 60, .int ((s.at_ : Int) + 1)])) sa.1 = some (.lst [.ref sa.2, .int s.at_, .int s.cur, .int s.left, .int s.mix, .int s.cnt]) := upd_at nTp.symm hp
      refine ⟨T, _, rfl, SqT.of upd_same, rfl, _, _, rfl, wr rfl hT rfl ?_⟩
      refine ⟨_, _, rfl, wr rfl upd_same rfl ?_⟩
      refine ⟨_, _, rfl, wr rfl upd_same rfl ⟨rfl, ?_⟩⟩
      rw [upd_upd, upd_upd]
      refine go _ (fun a o na h => upd_at na (Ext.new (sa := sa) nT a o na h)) ⟨ncp, oc, op, ?_, ?_⟩
      · rw [upd_same, hpre]
        have : ((s.at_ : Int) + 1) = ((s.at_ + 1 : Nat) : Int) := by omega
        rw [← this]
        rfl
      · rw [hpre]
        exact upd_at ncp (upd_at nTc.symm hcell)
    · refine go H (Ext.refl _ _) ?_
      have : pre s = s := by
        unfold pre
        rw [if_neg]
        rintro ⟨_, z⟩
        exact e2 (decide_eq_true (by rw [List.length_map]; omega))
      rw [this]
      exact st
  · refine go H (Ext.refl _ _) ?_
    have : pre s = s := by
      unfold pre
      rw [if_neg]
      rintro ⟨z, _⟩
      exact e (decide_eq_true (by rw [z]))
    rw [this]
    exact st
/-- _law_draw keeps its promise (the term of its body is given) -/
theorem draw_ok {st : Stmt} {f : Addr} {fd : FuncData} (F : Fun K "_law_draw" "_law_draw" st f fd) (hm : mg "_law_draw" = some (.ref f)) (hb : Binds K fd ["state", "many"] []) (S : FnScope ["state", "many", "found"] ["state", "many"] (defScope st))
    (hbody : ∀ (cdv : Value) (A : Around) (outer : List PySem.Env) (s : Shared) (H : Hp) (E : XK), PSs (cxOf CX0 P w K mg base ["state", "many", "found"] "_law_draw" (defScope st) f cdv A outer s H E).nox (defBody st) (tDraw K)) :
    FnF P w K mg base 1 "_law_draw" ["state", "many"] drawD := by
  refine ⟨fun ds s r h => ?_, f, fd, hm, F.kp, hb, ?_⟩
  · unfold drawD at h
    split at h
    · rfl
    · cases h
  refine F.ok S (fun vs H Q E h => ?_) (fun cdv A outer s H vs Q E hr h => ?_)
  · obtain ⟨_, _, _, _, _, _, _, h, _⟩ := h
    exact h
  · obtain ⟨sa, O, ds, s0, d, s', hφ, hl, tr, stk, q, k'⟩ := h
    refine ⟨_, hbody cdv A outer s H E, ?_⟩
    unfold drawD at hφ
    split at hφ
    case h_2 => cases hφ
    rename_i n
    split at hφ
    case isFalse => cases hφ
    rename_i hz
    have hz : (0 < n ∧ n < 1073741824) ∧ 0 ≤ s0.cnt ∧ s0.cnt < 4611686018427387904 := hz
    cases hφ
    match vs, q with
    | [v1, v2], q =>
      obtain ⟨q1, q2, _⟩ := q
      obtain rfl : v1 = .ref sa.1 := q1
      obtain rfl : v2 = .int n := q2
      refine draw1 stk hz.1 hz.2 fun v H' x st' e => k' v H' x st' e

/-! ### _law_start -/
def spStart (K : PySem.W.Frag) : Sp := fun vs H Q _ => ∃ (a : Addr) (ns : List Int), vs = [.ref a] ∧ SqL K H a (ns.map V.int) ∧ ns.length ≤ 63 ∧
  ∀ (H' : Hp) (p c : Addr) (cells : List Int) (mix : Int), c ≠ p → H' p = some (.lst (stL c ⟨cells, 0, 0, 0, mix, 0⟩)) → H' c = some (.lst (cells.map V.int)) → Q (.ref p) H'
def tStart (K : PySem.W.Frag) : TS :=
  tSeq (tAsg (tC (.int 7)) (gName 1))
  (tSeq (tFor (iList K (tSl (rSlL K) (tVar 0) tNoPart (tPart (tC (.int 63))))) (gName 2)
    (tAsg (tOp rAd (tOp rMo (tCB rInt (tCons (tOp rAd (tOp rMu (tVar 1) (tC (.int 48271))) (tVar 2)) tNil)) (tC (.int 2147483629))) (tC (.int 1))) (gName 1)))
  (tRet (tLst (tCons (tLc (iList K (tSl (rSlL K) (tVar 0) tNoPart (tPart (tC (.int 63))))) (gName 2) tYes (tCB (fun xs H Q => ∃ i, xs = [.int i] ∧ Q (.int (if i < 0 then -i else i)) H) (tCons (tCB rInt (tCons (tVar 2) tNil)) tNil)) [2])
    (tCons (tC (.int 0)) (tCons (tC (.int 0)) (tCons (tC (.int 0)) (tCons (tVar 1) (tCons (tC (.int 0)) tNil)))))))))
theorem cut63 {xs : List V} (h : xs.length ≤ 63) : cutV xs none (some 63) = xs := by
  unfold cutV
  rw [HT.sIx_none, show HT.sIx xs.length xs.length (some 63) = min 63 xs.length from HT.sIx_nat _ _ 63, List.drop_zero, Nat.sub_zero]
  exact List.take_of_length_le (by omega)
theorem start_reads {H : Hp} {a : Addr} {ns : List Int} {D : Ends} (hS : SqL K H a (ns.map V.int)) (hl : ns.length ≤ 63)
    (q : ∀ (H' : Hp) (p c : Addr) (cells : List Int) (mix : Int), c ≠ p → H' p = some (.lst (stL c ⟨cells, 0, 0, 0, mix, 0⟩)) → H' c = some (.lst (cells.map V.int)) → D.rt (.ref p) H') : tStart K D [some (.ref a), none, none] H := by
  have h63 : (ns.map V.int).length ≤ 63 := by rw [List.length_map]; exact hl
  -- script[:63]
  refine ⟨.ref a, rfl, 63, rfl, a, ns.map V.int, rfl, hS, fun b nb => ?_⟩
  have s1 : Same H (upd H b (.lst (cutV (ns.map V.int) none (some 63)))) := fun x o h => by rw [upd_ne (ne_of_none h nb)]; exact h
  have hb : (upd H b (.lst (cutV (ns.map V.int) none (some 63)))) b = some (.lst (ns.map V.int)) := by rw [upd_same, cut63 h63]
  have hS1 := s1.seq hS
  generalize upd H b (.lst (cutV (ns.map V.int) none (some 63))) = H1 at s1 hb hS1
  refine ⟨b, rfl, ⟨_, SqL.of hb⟩, for_list (K := K) (a := b) (xs := ns.map V.int) (fun i σ H' => H' = H1 ∧ ∃ (m : Int) (z : Option V), σ = [some (.ref a), some (.int m), z]) ⟨rfl, 7, none, rfl⟩ (fun i σ H' _ h => by rw [h.1]; exact SqL.of hb)
    (fun i x σ H' hx h => ?_) fun σ H' h => ?_⟩
  · obtain ⟨rfl, m, z, rfl⟩ := h
    obtain ⟨k, hk, rfl⟩ : ∃ k, ns[i]? = some k ∧ V.int k = x := by
      rw [List.getElem?_map] at hx
      cases h : ns[i]? with
      | none => rw [h] at hx; cases hx
      | some k => rw [h] at hx; cases hx; exact ⟨k, rfl, rfl⟩
    refine ⟨_, rfl, _, _, rfl, rfl, .inr (by decide), ?_⟩
    refine ⟨_, rfl, _, _, rfl, rfl, .inl ⟨_, rfl, _, _, rfl, rfl, (by show (0 : Int) < 2147483629; decide), _, _, rfl, rfl, ?_⟩⟩
    exact ⟨rfl, _, _, rfl⟩
  · obtain ⟨rfl, m, z, rfl⟩ := h
    -- the cells
    refine ⟨.ref a, rfl, 63, rfl, a, ns.map V.int, rfl, hS1, fun b2 nb2 => ?_⟩
    have hb2 : (upd H' b2 (.lst (cutV (ns.map V.int) none (some 63)))) b2 = some (.lst (ns.map V.int)) := by rw [upd_same, cut63 h63]
    generalize upd H' b2 (.lst (cutV (ns.map V.int) none (some 63))) = H2 at hb2
    refine ⟨b2, rfl, ⟨_, SqL.of hb2⟩, fun c nc => ?_⟩
    refine lc_list (K := K) (a := b2) (xs := ns.map V.int) (fun i H' => H' b2 = some (.lst (ns.map V.int)) ∧ H' c = some (.lst (((ns.take i).map fun k => if k < 0 then -k else k).map V.int))) ⟨?_, upd_same⟩ (fun i H' _ h => SqL.of h.1) (fun i x H' hx h => ?_) fun H' h => ?_
    · rw [upd_ne (ne_of_none hb2 nc)]; exact hb2
    · obtain ⟨h1, h2⟩ := h
      obtain ⟨k, hk, rfl⟩ : ∃ k, ns[i]? = some k ∧ V.int k = x := by
        rw [List.getElem?_map] at hx
        cases h : ns[i]? with
        | none => rw [h] at hx; cases hx
        | some k => rw [h] at hx; cases hx; exact ⟨k, rfl, rfl⟩
      refine ⟨rfl, ?_⟩
      unfold tYes
      dsimp only
      rw [if_pos rfl]
      refine ⟨_, rfl, .inl ⟨_, rfl, _, rfl, _, h2, ?_, ?_, ?_⟩⟩
      · rw [List.length_map, List.length_map, List.length_take]
        exact Nat.lt_of_le_of_lt (Nat.min_le_right _ _) (small1000 (by omega))
      · rw [upd_ne (ne_of_none hb2 nc)]; exact h1
      · rw [upd_same, List.take_add_one, hk, List.map_append, List.map_append]
        rfl
    · refine ⟨_, rfl, by show 6 ≤ sizeLine; decide, fun p np => ?_⟩
      exact q _ p c ((ns.take (ns.map V.int).length).map fun k => if k < 0 then -k else k) m (ne_of_none h.2 np) upd_same (upd_at (ne_of_none h.2 np) h.2)
theorem start_ok {st : Stmt} {f : Addr} {fd : FuncData} (F : Fun K "_law_start" "_law_start" st f fd) (S : FnScope ["script", "seed", "cell"] ["script"] (defScope st))
    (hbody : ∀ (cdv : Value) (A : Around) (outer : List PySem.Env) (s : Shared) (H : Hp) (E : XK), PSs (cxOf CX0 P w K mg base ["script", "seed", "cell"] "_law_start" (defScope st) f cdv A outer s H E).nox (defBody st) (tStart K)) :
    FnOk P w K mg base CX0 1 f fd ["script"] (spStart K) := by
  refine F.ok S (fun vs H Q E h => ?_) (fun cdv A outer s H vs Q E hr h => ?_)
  · obtain ⟨a, ns, rfl, _⟩ := h
    rfl
  · obtain ⟨a, ns, rfl, hS, hl, q⟩ := h
    exact ⟨_, hbody cdv A outer s H E, start_reads hS hl q⟩

/-! ### the law -/
def spLaw (K : PySem.W.Frag) : Sp := fun vs H Q _ => ∃ (a : Addr) (ns : List Int), vs = [.ref a] ∧ SqL K H a (ns.map V.int) ∧ ns.length ≤ 63 ∧ ∀ H', Q (.bl true) H'
/-- the environment behind the law's first statement -/
def env0 (n : Nat) : Env := none :: some (.sh .st) :: List.replicate (n - 2) none
def s00 (cells : List Int) (mix : Int) : S := ⟨cells, 0, 0, 0, mix, 0⟩
theorem law_ok {st : Stmt} {f f0 : Addr} {fd fd0 : FuncData} {N bn : List Str} {k : Nat} {tl : List Stmt} {body : FS} {p1 p2 p3 p4 p5 : Pos} (F : Fun K "law" "law" st f fd) (S : FnScope ("script" :: "state" :: N) ["script"] (defScope st)) (hB : ∀ x ∈ bn, mg x = none)
    (G0 : FnOk P w K mg base CX0 1 f0 fd0 ["script"] (spStart K)) (m0 : mg "_law_start" = some (.ref f0)) (k0 : PySem.W.keepIn K (.ref f0) = true) (b0 : Binds K fd0 ["script"] [])
    (hst : defBody st = .Assign [.Name "state" p1] (.Call (.Name "_law_start" p2) [.Name "script" p3] [] p4) p5 :: tl) (g0 : glC (defScope st) "_law_start" = true) (v0 : visC (defScope st) "script" = true) (l0 : locC (defScope st) "state" = true)
    (hrest : ∀ (X : Cx) (sa : Addr × Addr), Ctx ⟨P, w, K, mg, base, k + 1, "script" :: "state" :: N, bn⟩ (defScope st) true X → SndB X sa tl body)
    (hmain : ∀ (cells : List Int) (mix : Int), ∃ s', body (env0 (N.length + 2)) (s00 cells mix) = some (.rt (.bl true) s')) : FnOk P w K mg base CX0 (k + 2) f fd ["script"] (spLaw K) := by
  refine F.ok S (fun vs H Q E h => ?_) (fun cdv A outer s H vs Q E hr h => ?_)
  · obtain ⟨a, ns, rfl, _⟩ := h
    rfl
  · obtain ⟨a, ns, rfl, hS, hl, q⟩ := h
    have C : Ctx ⟨P, w, K, mg, base, k + 1, "script" :: "state" :: N, bn⟩ (defScope st) true (cxOf CX0 P w K mg base ("script" :: "state" :: N) "law" (defScope st) f cdv A outer s H E).nox :=
      ⟨rfl, rfl, rfl, rfl, rfl, rfl, S.nd, hB, rfl, hr, S.kind, fun _ _ z => .inl z, PassesOwn.never, fun _ _ => rfl, fun _ _ => rfl⟩
    obtain ⟨vv, d1, d2⟩ := C.vis v0
    obtain ⟨gg, d3, _⟩ := C.gl g0
    rw [hst]
    refine ⟨_, pss_cons (ps_set (i := 1) S.nd rfl (C.loc l0) (pe_call (dvs := []) G0 (hr.mono (by omega)) gg m0 k0 b0 .nil pass0 (pa_cons (pe_var (i := 0) rfl vv d1 d2) pa_nil rfl) d3 rfl rfl) rfl (.inl rfl)) pbW, ?_⟩
    refine ⟨.ref a, rfl, a, ns, rfl, hS, hl, fun H' p c cells mix ncp hp hc => ?_⟩
    obtain ⟨s', hm⟩ := hmain cells mix
    have ok : Ok K (p, c) (fun x => x = p ∨ x = c) (fun _ => none) (fun x => x = p ∨ x = c) H' (List.set (L2.start ("script" :: "state" :: N) [.ref a]) 1 (some (.ref p))) (env0 (N.length + 2)) (s00 cells mix) := by
      refine ⟨(fun a o h => by cases h), fun p z => z, fun x z => ?_, fun p z => .inl z, ⟨ncp, .inr rfl, .inl rfl, hp, hc⟩, ?_, fun i e h => ?_, fun i j r es fs h _ _ _ => ?_⟩
      · rcases z with z | z
        · exact ⟨_, z ▸ hp⟩
        · exact ⟨_, z ▸ hc⟩
      · unfold L2.start env0
        simp
      · have : i = 1 ∧ e = .sh .st := by
          match i, h with
          | 0, h => cases h
          | 1, h => cases h; exact ⟨rfl, rfl⟩
          | i + 2, h =>
            unfold env0 at h
            rw [List.getElem?_cons_succ, List.getElem?_cons_succ, List.getElem?_replicate] at h
            split at h <;> cases h
        obtain ⟨rfl, rfl⟩ := this
        refine ⟨.ref p, ?_, rfl⟩
        rw [List.getElem?_set_self]
        unfold L2.start
        simp
      · match i, h with
        | 0, h => cases h
        | 1, h => cases h
        | i + 2, h =>
          unfold env0 at h
          rw [List.getElem?_cons_succ, List.getElem?_cons_succ, List.getElem?_replicate] at h
          split at h <;> cases h
    refine hrest _ (p, c) C _ _ _ hm _ _ _ H' _ ok _ ?_
    exact fun v H2 _ _ dq => by
      obtain rfl : v = .bl true := dq
      exact q H2
end
end PL

set_option Elab.async false
set_option linter.all false
set_option maxRecDepth 100000
set_option maxHeartbeats 4000000
/-! PL10: enumerate of a tuple, extend, parallel assignment. -/
namespace PySem
open Sem (wp)
open AutoSeq1 (wpAny_loadPart')
theorem pl_meets_enum (l : Addr) (items : Array Value) (n : Nat) (dct : Option Addr) (sl : Array (Option Value)) :
    Meets (Builtin.«enumerate.__new__» ⟨[.type "enumerate", .ref l], []⟩) (fun _ R s => s.heap.get? l = some { cls := .type "tuple", dict := dct, data := .seq items n, slots := sl } ∧
      R (.ok (.ret (.ref (s.heap.push { cls := .type "tuple_iterator", data := .fields #[.ref l, .int 0 0] }).objs.size)))
        { s with heap := (s.heap.push { cls := .type "tuple_iterator", data := .fields #[.ref l, .int 0 0] }).push { cls := .type "enumerate", data := .fields #[.none, .bool false, .ref s.heap.objs.size, rawInt 0, .none, .none] } }) :=
  .of_wp fun prog w A R s h => by
    obtain ⟨hp, g, d, tk, os⟩ := s; obtain ⟨hl, h⟩ := h
    have hsub := sub_enumerate
    have hL : Heap.IsTuple (Shared.heap ⟨hp, g, d, tk, os⟩) l items := ⟨_, hl, rfl, n, rfl⟩
    wp_walk using wpAny_loadPart' hl
    refine wpAny_stack_any fun st => wpAny_pure ?_
    split
    · rename_i c _ _ _ _ _
      cases (c == Value.type "enumerate")
      · wp_walk using wpAny_loadPart' hl, wpAny_pyIter_tuple hL
        exact ⟨_, rfl, h⟩
      · wp_walk using wpAny_loadPart' hl, wpAny_pyIter_tuple hL
        exact ⟨_, rfl, h⟩
    · wp_walk using wpAny_loadPart' hl, wpAny_pyIter_tuple hL
      exact ⟨_, rfl, h⟩
section
variable {prog : Program} {w : World} {A : Around} {E : Value → Shared → Prop} {s : Shared}
theorem pl_call_enum {l : Addr} {items : Array Value} {Q : Value → Shared → Prop} (hL : s.heap.IsTuple l items)
    (h : ∀ h', IsEnum h' (s.heap.objs.size + 1) s.heap.objs.size 0 .none → h'.IsTupleIter s.heap.objs.size l 0 → h'.objs.size = s.heap.objs.size + 2 →
      (∀ b o, s.heap.get? b = some o → h'.get? b = some o) → Q (.ref (s.heap.objs.size + 1)) { s with heap := h' }) :
    wpAny (model prog w) A (call (.type "enumerate") [.ref l]) Q E s := by
  obtain ⟨⟨c, dct, dt, sl⟩, hl, hc, n, hd⟩ := hL
  replace hc : c = .type "tuple" := hc
  replace hd : dt = .seq items n := hd
  subst hc hd
  refine callType_new F.called_enumerate (by decide) (F.typeCall_enumerate_1 _) (F.newCall_enumerate_1 _) (fun obj => F.args_object_init_2 obj _) F.entry_enumerate_new
    (pl_meets_enum l items n dct sl) ⟨hl, ?_⟩
  have hz : (s.heap.push { cls := .type "tuple_iterator", data := .fields #[.ref l, .int 0 0] }).objs.size = s.heap.objs.size + 1 := Heap.size_push ..
  show _ ∧ _
  rw [hz]
  have he : IsEnum ((s.heap.push { cls := .type "tuple_iterator", data := .fields #[.ref l, .int 0 0] }).push
      { cls := .type "enumerate", data := .fields #[.none, .bool false, .ref s.heap.objs.size, rawInt 0, .none, .none] }) (s.heap.objs.size + 1) s.heap.objs.size 0 .none := by
    have := Heap.get?_push_size (s.heap.push { cls := .type "tuple_iterator", data := .fields #[.ref l, .int 0 0] })
      (o := { cls := .type "enumerate", data := .fields #[.none, .bool false, .ref s.heap.objs.size, rawInt 0, .none, .none] }) rfl
    rw [hz] at this; exact this
  refine ⟨⟨_, he, rfl⟩, h _ he ⟨_, Heap.get?_push_of_some _ (Heap.get?_push_size _ rfl), rfl, rfl⟩ (by rw [Heap.size_push, hz]) fun b o x => Heap.get?_push_of_some _ (Heap.get?_push_of_some _ x)⟩
end
end PySem
namespace PL
open PySem PySem.Spec PyProof.Rows L2

/-- the tuple at a, each item in a new pair -/
def IteT (K : PySem.W.Frag) (a : Addr) : It :=
  ⟨fun i H => ∃ (xs : List V) (x : V), SqT K H a xs ∧ xs[i]? = some x, fun i H v H' => ∃ T x, v = .ref T ∧ H T = none ∧ H' = upd H T (.tup [.int (i : Nat), x]) ∧ ∀ xs, SqT K H a xs → xs[i]? = some x, fun i H => ∃ xs : List V, SqT K H a xs ∧ xs.length = i⟩
theorem turn_enumT {P : Program} {w : World} {K : PySem.W.Frag} {elts : List Expr} {kk : Nat} {tpos : Pos} (a e it : Addr) :
    Turn P w K (.Tuple elts kk tpos) (IteT K a) [e, it] e (fun i h => (∃ old, IsEnum h e it ((i : Nat) : Int) old) ∧ h.IsTupleIter it a i ∧ e ≠ it) where
  mem := by simp
  obj := fun i h st b hb => by
    obtain ⟨⟨old, he⟩, ⟨o, ho, hc, hd⟩, _⟩ := st
    have e' : b = e ∨ b = it := by simpa using hb
    rcases e' with z | z
    · rw [z]; exact ⟨_, he, fun v q => nomatch q⟩
    · rw [z]; exact ⟨o, ho, fun v q => by rw [hd] at q; cases q⟩
  keep := fun i h h' st k => let ⟨⟨old, he⟩, hi, hne⟩ := st; ⟨⟨old, k e (by simp) _ he⟩, hi.at fun o q => k it (by simp) o q, hne⟩
  item := by
    intro X hP hw hK hc i pins s σ H E I hf st hg
    subst hP hw hK
    obtain ⟨⟨old, he⟩, hit, hne⟩ := st
    obtain ⟨xs, x, hq, hx⟩ := hg
    obtain ⟨its, rv, p, hz⟩ := I.tuple hq
    obtain ⟨u, hu, ru⟩ := rv.get hx
    have hel : e < s.heap.objs.size := Heap.lt_size he
    have hil : it < s.heap.objs.size := by obtain ⟨_, q, _⟩ := hit; exact Heap.lt_size q
    have pt : s.heap.IsTuple a its.toArray := p
    have hli : i < its.length := by
      rcases Nat.lt_or_ge i its.length with z | z
      · exact z
      · rw [List.getElem?_eq_none z] at hu; cases hu
    have eap : a ≠ it := fun z => by
      obtain ⟨o1, q1, c1, _⟩ := pt
      obtain ⟨o2, q2, c2, _⟩ := hit
      rw [z, q2] at q1
      cases q1
      rw [c2] at c1
      injection c1 with c1
      exact absurd c1 (by decide)
    have eae : a ≠ e := fun z => by
      obtain ⟨o1, q1, c1, _⟩ := pt
      rw [z, he] at q1
      cases q1
      injection c1 with c1
      exact absurd c1 (by decide)
    refine wpAny_pyNext_enum_itemD (Draws.tuple (A := X.A.in1) (show X.A.in1.handled = none from I.ok.hd hc) it a eap its.toArray) he ⟨hit, pt⟩ (by simpa using hli) hne (by simp only [List.mem_cons, List.not_mem_nil, or_false, not_or]; exact ⟨hne, Ne.symm eae⟩) fun x' h' tk hP' ho hit' hT hsz hk => ?_
    have ex' : x' = u := by
      have h1 : its.toArray[i]? = some x' := hP'
      rw [List.getElem?_toArray, hu] at h1
      cases h1; rfl
    subst ex'
    refine ⟨_, rfl, wpAny_letOwnedTupleGo_enum (s := { s with heap := h', toks := tk + 1 }) ho fun h'' he' sb => ?_⟩
    have hT2 : h''.get? s.heap.objs.size = some { cls := .type "tuple", data := .seq #[.int i tk, x'] } := (sb.2 _ (Nat.ne_of_gt hel)).trans hT
    have new : ObjOk X.prog X.w (upd H s.heap.objs.size (.tup [.int (i : Nat), x])) h'' s.heap.objs.size (.tup [.int (i : Nat), x]) :=
      ⟨by show 2 ≤ sizeLine; decide, [.int i tk, x'], .cons ⟨_, rfl⟩ (.cons ru .nil), ⟨_, hT2, rfl, _, rfl⟩⟩
    have I1 : Inv X pins σ (upd H s.heap.objs.size (.tup [.int (i : Nat), x])) { s with heap := h'', toks := tk + 1 } :=
      I.turnedNew (ch := [e, it]) (fun b ob hb q => (sb.2 b (fun z => hb (by simp [z]))).trans (hk b ob (fun z => hb (by simp [z])) (fun z => hb (by simp [z])) q)) hf (Nat.le_refl _) new
    refine ⟨.ref s.heap.objs.size, _, I1, rfl, ⟨_, x, rfl, I.hok.fresh (Nat.le_refl _), rfl, fun ys hy => by rw [I.tuple_inj hy hq]; exact hx⟩, ⟨⟨x', ?_⟩, hit'.1.at fun o q => (sb.2 it (Ne.symm hne)).trans q, hne⟩, fun b hb => ?_⟩
    · have e1 : ((i + 1 : Nat) : Int) = (i : Int) + 1 := by omega
      rw [e1]; exact he'
    · have hb' : b < s.heap.objs.size := by
        have e' : b = e ∨ b = it := by simpa using hb
        rcases e' with z | z
        · rw [z]; exact hel
        · rw [z]; exact hil
      rw [upd_ne (Nat.ne_of_lt hb')]
      exact (hf b hb).1
  done := by
    intro X hP hw hK hc i pins s σ H E I hf st hg
    subst hP hw hK
    obtain ⟨⟨old, he⟩, hit, hne⟩ := st
    obtain ⟨xs, hq, hx⟩ := hg
    obtain ⟨its, rv, p, hz⟩ := I.tuple hq
    obtain ⟨f0, f1, f2, f3, f4, f5⟩ := hf it (by simp)
    have pt : s.heap.IsTuple a its.toArray := p
    have hl := rv.length
    have eap : a ≠ it := fun z => by
      obtain ⟨o1, q1, c1, _⟩ := pt
      obtain ⟨o2, q2, c2, _⟩ := hit
      rw [z, q2] at q1
      cases q1
      rw [c2] at c1
      injection c1 with c1
      exact absurd c1 (by decide)
    have hi : i = its.toArray.size := by rw [List.size_toArray, ← hl, hx]
    subst hi
    exact wpAny_pyNext_enum_endD (Draws.tuple (A := X.A.in1) (show X.A.in1.handled = none from I.ok.hd hc) it a eap its.toArray) he ⟨hit, pt⟩ fun h' eb => ⟨rfl, I.turned (t' := s.toks) (fun b o hb q => eb b o hb q) f0 f1 f3 f4 f5⟩
  self := fun A i s Q E st h => let ⟨⟨_, he⟩, _⟩ := st; wpAny_pyIter_enum he h
def iEnumT (K : PySem.W.Frag) (ta : TA) : TI := fun σ H R => ta σ H fun vs H1 => ∃ a xs, vs = [.ref a] ∧ SqT K H1 a xs ∧ R (IteT K a) H1
theorem pi_enumT {X : Cx} {e : Expr} {ta : TA} {p pos tpos : Pos} {elts : List Expr} {kk : Nat} (hg : Gl X "enumerate") (hm : X.mg "enumerate" = none) (ha : PA X [e] ta) (hs : starEach [e] X.env = [(false, eval e X.env)]) :
    PI X (.Tuple elts kk tpos) (.Call (.Name "enumerate" p) [e] [] pos) (iEnumT X.K ta) := by
  refine ⟨fun pins s σ H R I h => ?_⟩
  refine Call_ (ld_blt I hg hm boot_enumerate (PyProof.Rows.callWith_type1 (thn (ha.run pos pins s σ H _ I h) fun us s1 ⟨vs, H1, I1, r1, q1⟩ => ?_) hs rfl))
  obtain ⟨a, xs, ex, hq, q⟩ := q1
  subst ex
  cases r1 with
  | cons r rr =>
    cases rr
    cases r
    obtain ⟨its, rv, p', hz⟩ := I1.tuple hq
    refine pl_call_enum (show s1.heap.IsTuple a its.toArray from p') fun h' he hit hsz hk => wpAny_pyIter_enum he ?_
    have I2 : Inv X pins σ H1 { s1 with heap := h' } := I1.kept (t' := s1.toks) hk
    refine ⟨s1.heap.objs.size + 1, [s1.heap.objs.size + 1, s1.heap.objs.size], _, _, H1, rfl, I2, turn_enumT a (s1.heap.objs.size + 1) s1.heap.objs.size, ⟨⟨.none, he⟩, hit, Nat.succ_ne_self _⟩, fun b hb => ?_, q⟩
    have e' : b = s1.heap.objs.size + 1 ∨ b = s1.heap.objs.size := by simpa using hb
    have hle : s1.heap.objs.size ≤ b := by
      rcases e' with z | z
      · rw [z]; exact Nat.le_add_right _ _
      · rw [z]; exact Nat.le_refl _
    exact I1.fpOk hle (I1.hok.fresh hle)

/-- the pairs of enumerate -/
def enumF : Nat → List D → List D
  | _, [] => []
  | n, d :: ds => .tup [.int n, d] :: enumF (n + 1) ds
theorem enumF_length : ∀ (n : Nat) (ds : List D), (enumF n ds).length = ds.length
  | _, [] => rfl
  | n, d :: ds => by show (enumF (n + 1) ds).length + 1 = _; rw [enumF_length]; rfl
theorem enumF_get : ∀ (n : Nat) (ds : List D) (i : Nat) (d : D), (enumF n ds)[i]? = some d → ∃ x, ds[i]? = some x ∧ d = .tup [.int (n + i : Nat), x]
  | _, [], _, _, h => by simp [enumF] at h
  | n, x :: ds, 0, d, h => by
    simp [enumF] at h
    exact ⟨x, rfl, h.symm⟩
  | n, x :: ds, i + 1, d, h => by
    have h' : (enumF (n + 1) ds)[i]? = some d := by simpa [enumF] using h
    obtain ⟨y, h1, h2⟩ := enumF_get (n + 1) ds i d h'
    refine ⟨y, by simpa using h1, ?_⟩
    rw [h2]
    have : n + 1 + i = n + (i + 1) := by omega
    rw [this]
def iEnT (f : FE) : FI := fun ρ s => (f ρ s).bind fun a => match a.1 with
  | .sh (.tup ds) => some (false, enumF 0 ds, a.2)
  | _ => none
section
variable {X : Cx} {sa : Addr × Addr} {a : Expr} {f : FE} {p pos tpos : Pos} {elts : List Expr} {kk : Nat}
theorem it_enumT {K : PySem.W.Frag} {O : Addr → Prop} {H1 : Hp} {q : Addr} {vs : List V} {ds : List D} (hl : Tp K O H1 q vs) (hd : DqAll K O sa H1 vs ds) :
    ItOk K sa (IteT K q) (enumF 0 ds) H1 O false (fun H2 => SqT K H2 q vs) where
  stab := fun H2 h => by
    rcases hl with ⟨n, hl⟩ | hl
    · exact SqT.of (h q _ (fun z => nomatch z) (fun _ => n) hl)
    · exact hl H2
  go := fun i H2 hi st => by
    rw [enumF_length] at hi
    obtain ⟨v, e2, _⟩ := hd.get (List.getElem?_eq_getElem hi)
    exact ⟨vs, v, st, e2⟩
  yl := fun i d H2 x H3 e st y => by
    obtain ⟨T, z, rfl, nT, rfl, hz⟩ := y
    refine ⟨fun b o h => by rw [upd_ne (ne_of_none h nT)]; exact h, fun O2 so hs tr trk => ?_⟩
    obtain ⟨u, e1, rfl⟩ := enumF_get 0 ds i d e
    obtain ⟨v, e2, dq⟩ := hd.get e1
    rw [hz vs st] at e2
    cases e2
    have nO : ¬ O2 T := fun zz => by
      obtain ⟨o, q⟩ := trk T zz
      rw [nT] at q; cases q
    refine ⟨T, _, rfl, .inl ⟨nO, upd_same⟩, ?_, ?_, trivial⟩
    · show V.int _ = V.int _
      rw [Nat.zero_add]
    · exact (Dq.tr tr dq).ext so (Ext.new nT)
  stop := fun H2 st => ⟨vs, st, by rw [enumF_length]; exact hd.length⟩
theorem i_enT (hg : Gl X "enumerate") (hm : X.mg "enumerate" = none) (hs : starEach [a] X.env = [(false, eval a X.env)]) (ha : SndE X sa a f) : SndI X sa (.Tuple elts kk tpos) (.Call (.Name "enumerate" p) [a] [] pos) (iEnT f) := by
  intro ρ s bb ds s' e Oc B O H σ ok R q
  obtain ⟨⟨ra, s1⟩, ea, e⟩ := bind_some_of e
  split at e
  · rename_i es hr
    cases e
    refine ⟨_, pi_enumT hg hm (pa_cons peW pa_nil hs) hs, ?_⟩
    refine ha ρ s ra _ ea Oc B O H σ ok _ fun x H1 x1 st1 v1 => ?_
    rw [show ra = .sh (.tup es) from hr] at v1
    obtain ⟨t, vs, rfl, ht, qa⟩ := v1
    exact ⟨t, vs, rfl, ht.sq, q _ _ H1 x1 st1 (it_enumT ht qa)⟩
  · cases e
theorem k_enT {Γ : G} {sc : Scope} {top : Bool} (C : Ctx Γ sc top X) (h1 : glC sc "enumerate" = true) (h2 : ("enumerate" : Str) ∈ Γ.bn) (hs : starEach [a] X.env = [(false, eval a X.env)]) (ha : SndE X sa a f) :
    SndI X sa (.Tuple elts kk tpos) (.Call (.Name "enumerate" p) [a] [] pos) (iEnT f) := i_enT (C.gl h1).1 (C.mn h2) hs ha
end

/-! ### name.extend(e): e a new list -/
def sExt (i : Nat) (f : FE) : FS := fun ρ s => (f ρ s).bind fun a => match a.1, ρ[i]? with
  | .fr es, some (some (.ow ds)) => if ds.length + es.length ≤ sizeLine then some (.nx (ρ.set i (some (.ow (ds ++ es)))) a.2) else none
  | .sh (.lst es), some (some (.ow ds)) => if ds.length + es.length ≤ sizeLine then some (.nx (ρ.set i (some (.ow (ds ++ es)))) a.2) else none
  | _, _ => none
section
variable {X : Cx} {sa : Addr × Addr} {a : Expr} {f : FE} {pos : Pos}
theorem ow_write {K : PySem.W.Frag} {Oc O : Addr → Prop} {B H1 : Hp} {σ : L2.St} {ρ : Env} {s1 : S} {i : Nat} {ds es : List D} {p : Addr} {ws : List V} (ok1 : Ok K sa Oc B O H1 σ ρ s1) (hd' : ρ[i]? = some (some (.ow ds))) (h1 : σ[i]? = some (some (.ref p))) (h4 : O p) (h5 : ¬ Oc p)
    (q : ∀ H2, (∀ a u, ¬ O a → H1 a = some u → ¬ O a ∧ H2 a = some u) → DqAll K O sa H2 ws es) : Ok K sa Oc B O (upd H1 p (.lst ws)) σ (ρ.set i (some (.ow es))) s1 := by
  have tr : ∀ a u, ¬ O a → H1 a = some u → ¬ O a ∧ upd H1 p (.lst ws) a = some u := fun a u n q => ⟨n, upd_at (fun z => n (z.symm ▸ h4)) q⟩
  have il : i < ρ.length := by
    rcases Nat.lt_or_ge i ρ.length with z | z
    · exact z
    · rw [List.getElem?_eq_none z] at hd'; cases hd'
  have okw : Ok K sa Oc B O (upd H1 p (.lst ws)) (σ.set i (some (.non))) (ρ.set i (some (.sh .non))) s1 :=
    (ok1.setSh (i := i) (d := .non) (v := .non) rfl).write h4 h5 fun j es hj hj2 => by
      rcases set_some hj with ⟨_, z, _⟩ | ⟨ne, hj⟩
      · cases z
      · rw [List.getElem?_set_ne ne] at hj2
        exact ne (ok1.inj i j p ds es hd' hj h1 hj2)
  have okz := okw.setOw (i := i) (p := p) (vs := ws) (ds := es) upd_same h4 h5 (q _ tr) fun j es ne hj hj2 => by
    rw [List.getElem?_set_ne (Ne.symm ne)] at hj hj2
    exact ne (ok1.inj i j p ds es hd' hj h1 hj2).symm
  rw [List.set_set, List.set_set] at okz
  have eσ : σ.set i (some (V.ref p)) = σ := by
    apply List.ext_getElem?
    intro j
    by_cases z : i = j
    · subst z
      rw [List.getElem?_set_self (by rw [ok1.len]; exact il), h1]
    · rw [List.getElem?_set_ne z]
  rw [eσ] at okz
  exact okz
theorem s_ext {i : Nat} {x : Str} {px pa pc : Pos} (hs : swapsWith (.Call (.Attribute (.Name x px) "extend" pa) [a] [] pc) none pos.line X.env = pure false)
    (hpe : ∀ ta : TE, PE X a ta → PE X (.Call (.Attribute (.Name x px) "extend" pa) [a] [] pc) (tBM X.K "list" rExtend (tVar i) (tCons ta tNil))) (h : SndE X sa a f) : SndS X sa (.Expr (.Call (.Attribute (.Name x px) "extend" pa) [a] [] pc) pos) (sExt i f) := by
  intro ρ s out e Oc B O H σ ok D hD
  obtain ⟨⟨r, s1⟩, e1, e⟩ := bind_some_of e
  have go : ∀ es ds, r.d = .lst es → ρ[i]? = some (some (.ow ds)) → ds.length + es.length ≤ sizeLine → (∀ v H1, Ext sa H H1 → StOk Oc sa H1 s1 → RVal X.K Oc O sa H H1 v r → ∃ b vs, v = .ref b ∧ H1 b = some (.lst vs) ∧ DqAll X.K O sa H1 vs es) →
      out = .nx (ρ.set i (some (.ow (ds ++ es)))) s1 → WS X (.Expr (.Call (.Attribute (.Name x px) "extend" pa) [a] [] pc) pos) D σ H := fun es ds hr hd' hz hv ho => by
    subst ho
    refine ⟨_, ps_expr (hpe _ peW) hs, ?_⟩
    obtain ⟨v, h1, p, vs, rfl, h3, h4, h5, h6⟩ := ok.slot i _ hd'
    refine ⟨.ref p, h1, .inl ⟨rfl, _, SqL.of h3⟩, ?_⟩
    refine h ρ s r s1 e1 Oc B O H σ ok _ fun y H1 x1 st1 v1 => ?_
    have ok1 := ok.ext x1 st1
    obtain ⟨v', h1', p', vs', q1, h3', h4', h5', h6'⟩ := ok1.slot i _ hd'
    rw [h1] at h1'
    cases h1'
    cases q1
    obtain ⟨b, zs, rfl, hb, qb⟩ := hv y H1 x1 st1 v1
    refine ⟨p, b, vs', zs, rfl, rfl, h3', hb, by rw [h6'.length, qb.length]; exact hz, ?_⟩
    exact hD O _ σ (ow_write ok1 hd' h1 h4 h5 fun H2 tr => (h6'.tr tr).append (qb.tr tr))
  split at e
  · rename_i es ds hr hd'
    split at e
    · rename_i hz
      cases e
      have hr' : r = .fr es := hr
      subst hr'
      exact go es ds rfl hd' hz (fun v H1 x1 st1 v1 => by obtain ⟨b, vs, e1, _, hb, qb⟩ := v1; exact ⟨b, vs, e1, hb, qb.unhid⟩) rfl
    · cases e
  · rename_i es ds hr hd'
    split at e
    · rename_i hz
      cases e
      have hr' : r = .sh (.lst es) := hr
      subst hr'
      exact go es ds rfl hd' hz (fun v H1 x1 st1 v1 => by obtain ⟨b, vs, e1, _, hb, qb⟩ := v1; exact ⟨b, vs, e1, hb, qb⟩) rfl
    · cases e
  · cases e
theorem k_ext {Γ : G} {sc : Scope} {top : Bool} {x : Str} (C : Ctx Γ sc top X) (i : Nat) {px pa pc : Pos} (h1 : Γ.N[i]? = some x) (h2 : visC sc x = true) (hb : attributeBase (.Name x px) "extend" X.env (eval (.Name x px) X.env) = eval (.Name x px) X.env) (hline : (pa.endLine == pc.line) = true)
    (hst : starEach [a] X.env = (false, eval a X.env) :: starEach [] X.env)
    (hs : swapsWith (.Call (.Attribute (.Name x px) "extend" pa) [a] [] pc) none pos.line X.env = pure false) (h : SndE X sa a f) : SndS X sa (.Expr (.Call (.Attribute (.Name x px) "extend" pa) [a] [] pc) pos) (sExt i f) := by
  obtain ⟨v, d1, d2⟩ := C.vis h2
  refine s_ext hs (fun ta hta => ?_) h
  refine pe_bm PySem.F.plainAttrs_list PySem.F.slot_list_extend PySem.F.type_list_extend mt_extend (pe_var (C.ix h1) v d1 d2) (pa_cons hta pa_nil hst) hb ?_ hline hst rfl
  rw [hst]
  rfl

/-! ### a, b = e1, e2 with plain local names -/
def sPar (i j : Nat) (f g : FE) : FS := fun ρ s => (f ρ s).bind fun a => (g ρ a.2).bind fun b => a.1.ent.bind fun e1 => b.1.ent.bind fun e2 => some (.nx ((ρ.set i (some e1)).set j (some e2)) b.2)
/-- a value that came is stored in a slot -/
theorem st_slot {K : PySem.W.Frag} {Oc O : Addr → Prop} {B H H1 : Hp} {σ : L2.St} {ρ : Env} {s s1 : S} {i : Nat} {r : Res} {v : V} {en : Ent} (ok : Ok K sa Oc B O H σ ρ s) (e : r.ent = some en) (x : Ext sa H H1) (st : StOk Oc sa H1 s1) (q : RVal K Oc O sa H H1 v r) :
    ∃ O1, Ok K sa Oc B O1 H1 σ ρ s1 ∧ Ok K sa Oc B O1 H1 (σ.set i (some v)) (ρ.set i (some en)) s1 := by
  have ok1 := ok.ext x st
  cases r with
  | sh d => cases e; exact ⟨O, ok1, ok1.setSh q⟩
  | bo ds => cases e
  | fr ds =>
    cases e
    obtain ⟨p, vs, rfl, n, hl, dq⟩ := q
    have nO := ok.nO n
    have nOc : ¬ Oc p := fun z => nO (ok.sub p z)
    have okp : Ok K sa Oc B (hid O p) H1 σ ρ s1 := by
      have k1 := ok.hide (o := .lst vs) n
      refine ⟨ok1.keep, k1.sub, fun q hq => ?_, k1.new, st, ok1.len, fun j e hj => ?_, ok1.inj⟩
      · rcases hq with hq | hq
        · exact ok1.trk q hq
        · exact ⟨_, hq ▸ hl⟩
      · obtain ⟨v, h1, h2⟩ := ok.slot j e hj
        refine ⟨v, h1, ?_⟩
        cases e with
        | sh d => exact Dq.ext (.inl ok.osa) x (Dq.hid n h2)
        | ow es =>
          obtain ⟨q, us, h3, h4, h5, h6, h7⟩ := h2
          exact ⟨q, us, h3, x _ _ (fun z => h6 (z ▸ ok.sao)) h4, .inl h5, h6, (DqAll.hid n h7).ext (.inl ok.osa) x⟩
    exact ⟨hid O p, okp, okp.setOw hl (.inr rfl) nOc dq fun j es _ hj => ok.noOw n hj⟩
theorem s_par {i j : Nat} {x y : Str} {b : Expr} {g : FE} {px py pt pt2 : Pos} {kt k2 : Nat} (hc : X.calm = true) (hN : X.N.Nodup) (hi : X.N[i]? = some x) (hj : X.N[j]? = some y) (hij : i ≠ j)
    (hx : X.env.scope.names.lookup x = some .local) (hy : X.env.scope.names.lookup y = some .local)
    (hw : swappedStores [.Tuple [.Name x px, .Name y py] kt pt] (.Tuple [a, b] k2 pt2) X.env = pure (some [x, y]))
    (h1 : starEach [a, b] X.env = (false, eval a X.env) :: starEach [b] X.env) (h2 : starEach [b] X.env = (false, eval b X.env) :: starEach [] X.env)
    (ha : SndE X sa a f) (hb : SndE X sa b g) : SndS X sa (.Assign [.Tuple [.Name x px, .Name y py] kt pt] (.Tuple [a, b] k2 pt2) pos) (sPar i j f g) := by
  intro ρ s out e Oc B O H σ ok D hD
  obtain ⟨⟨ra, s1⟩, e1, e⟩ := bind_some_of e
  obtain ⟨⟨rb, s2⟩, e2, e⟩ := bind_some_of e
  obtain ⟨en1, e3, e⟩ := bind_some_of e
  obtain ⟨en2, e4, e⟩ := bind_some_of e
  cases e
  refine ⟨_, ps_par hc hN hi hj hij hx hy (pa_cons peW (pa_cons peW pa_nil h2) h1) hw, ?_⟩
  refine ha ρ s ra s1 e1 Oc B O H σ ok _ fun v H1 x1 st1 v1 => ?_
  obtain ⟨O1, ok1, ok2⟩ := st_slot (i := i) ok e3 x1 st1 v1
  refine hb ρ s1 rb s2 e2 Oc B O1 H1 σ ok1 _ fun w H2 x2 st2 v2 => ?_
  obtain ⟨O2, _, ok3⟩ := st_slot (i := j) ok2 e4 x2 st2 v2
  exact ⟨v, w, rfl, hD O2 H2 _ ok3⟩
theorem swapped2 {env : PySem.Env} {x y : Str} {px py pt pt2 : Pos} {kt k2 : Nat} {a b : Expr} (hx : env.kindOf x = some .local) (hy : env.kindOf y = some .local) (hb : env.blockKind = .function) (hl : (py.line == px.line) = true) (hxy : (y == x) = false)
    (hs : ([a, b].any fun | .Starred .. => true | _ => false) = false) (h1 : ([a, b].all (foldedForSure 8)) = false) (h2 : ([a, b].all (constantsAlone 8)) = false) :
    swappedStores [.Tuple [.Name x px, .Name y py] kt pt] (.Tuple [a, b] k2 pt2) env = pure (some [x, y]) := by
  have hp : ∀ z q, (Expr.Name z q).pos = q := fun _ _ => rfl
  unfold swappedStores
  have el : (px.line == px.line) = true := beq_self_eq_true _
  have en : (some NameKind.local == some NameKind.local) = true := rfl
  have ed : [x, y].eraseDups.length = 2 := by simp [List.eraseDups_cons, hxy]
  simp only [List.length_cons, List.length_nil, hb, h1, h2, List.filterMap_cons, hx, hy, hp, hl, List.head?_cons, Option.map_some, Option.getD_some, List.filterMap_nil, el, en, Bool.and_self, if_true, ed]
  rw [if_neg (by decide)]
  refine (if_neg ?_).trans ?_
  · exact fun h => absurd (hs.symm.trans h) Bool.false_ne_true
  rw [if_neg (by decide), if_neg (by decide), if_neg (by decide)]
theorem k_par {Γ : G} {sc : Scope} {top : Bool} {x y : Str} {b : Expr} {g : FE} {px py pt pt2 : Pos} {kt k2 : Nat} (C : Ctx Γ sc top X) (i j : Nat) (hi : Γ.N[i]? = some x) (hj : Γ.N[j]? = some y) (hij : i ≠ j) (hx : isLoc sc x = true) (hy : isLoc sc y = true) (hl : (py.line == px.line) = true) (hxy : (y == x) = false)
    (hs : ([a, b].any fun | .Starred .. => true | _ => false) = false) (hf1 : ([a, b].all (foldedForSure 8)) = false) (hf2 : ([a, b].all (constantsAlone 8)) = false)
    (h1 : starEach [a, b] X.env = (false, eval a X.env) :: starEach [b] X.env) (h2 : starEach [b] X.env = (false, eval b X.env) :: starEach [] X.env)
    (ha : SndE X sa a f) (hb : SndE X sa b g) : SndS X sa (.Assign [.Tuple [.Name x px, .Name y py] kt pt] (.Tuple [a, b] k2 pt2) pos) (sPar i j f g) :=
  s_par C.calm C.ndx (C.ix hi) (C.ix hj) hij (C.isl hx) (C.isl hy) (swapped2 (C.isl hx) (C.isl hy) (by unfold Env.blockKind; rw [C.kind]; rfl) hl hxy hs hf1 hf2) h1 h2 ha hb
end
end PL

set_option Elab.async false
set_option linter.all false
set_option maxRecDepth 100000
set_option maxHeartbeats 4000000
/-! PL11: name op= e. -/
namespace PL
open PySem PySem.Spec PyProof.Rows L2
def sAug (c : D → D → Option Res) (i : Nat) (f : FE) : FS := fun ρ s => (f ρ s).bind fun a => match ρ[i]? with
  | some (some (.sh d)) => (c d a.1.d).bind fun r => r.ent.bind fun e => some (.nx (ρ.set i (some e)) a.2)
  | _ => none
def addI : D → D → Option Res
  | .int a, .int b => some (.sh (.int (a + b)))
  | _, _ => none
@[simp] theorem addI_i (a b : Int) : addI (.int a) (.int b) = some (.sh (.int (a + b))) := rfl
section
variable {X : Cx} {sa : Addr × Addr} {a : Expr} {f : FE} {pos : Pos}
theorem ip_int {op : Operator} {g : Int → Int → Int} (ho : PIp X op (ipI g)) {c : D → D → Option Res} (hc : ∀ a b r, c a b = some r → ∃ i j, a = .int i ∧ b = .int j ∧ r = .sh (.int (g i j))) : Op2 X sa (PIp X op) c := by
  intro d e r h
  obtain ⟨i, j, rfl, rfl, rfl⟩ := hc d e r h
  refine ⟨_, ho, fun Oc O H x y hd vx vy Q q => ?_⟩
  cases vx
  cases vy
  exact ⟨i, j, rfl, rfl, q _ H (Ext.refl _ _) rfl rfl⟩
theorem ip2_add : Op2 X sa (PIp X .Add) addI := ip_int ip_add fun a b r h => by
  unfold addI at h
  split at h
  · cases h; exact ⟨_, _, rfl, rfl, rfl⟩
  · cases h
theorem ip2_sub : Op2 X sa (PIp X .Sub) subD := ip_int ip_sub fun a b r h => by
  unfold subD at h
  split at h
  · cases h; exact ⟨_, _, rfl, rfl, rfl⟩
  · cases h
theorem s_aug {op : Operator} {c : D → D → Option Res} {i : Nat} {x : Str} {pos' : Pos} (hop : Op2 X sa (PIp X op) c) (hN : X.N.Nodup) (hi : X.N[i]? = some x) (hx : Loc X.env.scope x) (hf : X.fn x = true ∨ X.env.scope.names.lookup x = some .local) (h : SndE X sa a f) : SndS X sa (.AugAssign (.Name x pos') op a pos) (sAug c i f) := by
  intro ρ s out e Oc B O H σ ok D hD
  obtain ⟨⟨r, s1⟩, e1, e⟩ := bind_some_of e
  split at e
  · rename_i d hd'
    obtain ⟨r2, e2, e⟩ := bind_some_of e
    obtain ⟨en, e3, e⟩ := bind_some_of e
    cases e
    obtain ⟨ti, ht, hk⟩ := hop _ _ _ e2
    refine ⟨_, ps_aug hN hi hx peW ht hf, ?_⟩
    obtain ⟨v, h1, h2⟩ := ok.slot i _ hd'
    refine ⟨v, h1, ?_⟩
    refine h ρ s r s1 e1 Oc B O H σ ok _ fun y H1 x1 st1 v1 => ?_
    have ok1 := ok.ext x1 st1
    have h2' : Dq X.K O sa H v d := h2
    refine hk Oc O H1 v y ok1.hd ((Vw.of ok.osa h2').ext ok.osa x1) (v1.vw ok.osa ok.sao ok.has) _ fun z H2 x2 hs2 v2 => ?_
    obtain ⟨O2, _, ok3⟩ := st_slot (i := i) ok1 e3 x2 (st1.same x2 hs2) v2
    exact hD O2 H2 _ ok3
  · cases e
theorem k_aug {Γ : G} {sc : Scope} {top : Bool} {op : Operator} {c : D → D → Option Res} {x : Str} {pos' : Pos} (C : Ctx Γ sc top X) (i : Nat) (hop : Op2 X sa (PIp X op) c) (h1 : Γ.N[i]? = some x) (h2 : locC sc x = true) (h : SndE X sa a f) : SndS X sa (.AugAssign (.Name x pos') op a pos) (sAug c i f) :=
  s_aug hop C.ndx (C.ix h1) (C.loc h2) (C.fl h2) h
end
end PL

set_option Elab.async false
set_option linter.all false
set_option maxRecDepth 100000
set_option maxHeartbeats 4000000
/-! PL12: evaluation of combinator terms by simp; loops; equality of data. -/
namespace PL
open PySem PySem.Spec PyProof.Rows L2

section
variable {ρ : Env} {s : S} {i j : Nat} {f g h : FE} {t u : FT} {fa : FA} {c c' : D → D → Option Res} {k l : FS}
@[simp] theorem eVar_ap : eVar i ρ s = match ρ[i]? with
  | some (some (.sh d)) => some (.sh d, s)
  | some (some (.ow ds)) => some (.bo ds, s)
  | _ => none := rfl
@[simp] theorem eC_ap {d : D} : eC d ρ s = some (.sh d, s) := rfl
@[simp] theorem eOp2_ap : eOp2 c f g ρ s = (f ρ s).bind fun a => (g ρ a.2).bind fun b => (c a.1.d b.1.d).bind fun r => some (r, b.2) := rfl
@[simp] theorem eOp1_ap {c : D → Option Res} : eOp1 c f ρ s = (f ρ s).bind fun a => (c a.1.d).bind fun r => some (r, a.2) := rfl
@[simp] theorem eCmp_ap {c : D → D → Option Bool} : eCmp c f g ρ s = (f ρ s).bind fun a => (g ρ a.2).bind fun b => (c a.1.d b.1.d).bind fun r => some (.sh (.bl r), b.2) := rfl
@[simp] theorem tCmp2_ap {c : D → D → Option Bool} : tCmp2 c f g ρ s = (f ρ s).bind fun a => (g ρ a.2).bind fun b => (c a.1.d b.1.d).bind fun r => some (r, b.2) := rfl
@[simp] theorem tChn_ap {c c' : D → D → Option Bool} : tChn c c' f g h ρ s = (f ρ s).bind fun a => (g ρ a.2).bind fun b => (c a.1.d b.1.d).bind fun r =>
  if r = true then (h ρ b.2).bind fun k => (c' b.1.d k.1.d).bind fun r => some (r, k.2) else some (false, b.2) := rfl
@[simp] theorem eOfT_ap : eOfT t ρ s = (t ρ s).bind fun a => some (.sh (.bl a.1), a.2) := rfl
@[simp] theorem eAnd_ap : eAnd f g ρ s = (f ρ s).bind fun a => (truthD a.1.d).bind fun b => if b = true then g ρ a.2 else some a := rfl
@[simp] theorem eOr_ap : eOr f g ρ s = (f ρ s).bind fun a => (truthD a.1.d).bind fun b => if b = true then some a else g ρ a.2 := rfl
@[simp] theorem eNot_ap : eNot f ρ s = (f ρ s).bind fun a => (truthD a.1.d).bind fun b => some (.sh (.bl (!b)), a.2) := rfl
@[simp] theorem eIte_ap : eIte t f g ρ s = (t ρ s).bind fun a => if a.1 = true then f ρ a.2 else g ρ a.2 := rfl
@[simp] theorem tOf_ap : tOf f ρ s = (f ρ s).bind fun a => (truthD a.1.d).bind fun b => some (b, a.2) := rfl
@[simp] theorem tAn_ap : tAn t u ρ s = (t ρ s).bind fun a => if a.1 = true then u ρ a.2 else some (false, a.2) := rfl
@[simp] theorem tOo_ap : tOo t u ρ s = (t ρ s).bind fun a => if a.1 = true then some (true, a.2) else u ρ a.2 := rfl
@[simp] theorem tNo_ap : tNo t ρ s = (t ρ s).bind fun a => some (!a.1, a.2) := rfl
@[simp] theorem aNil_ap : aNil ρ s = some ([], s) := rfl
@[simp] theorem aCons_ap : aCons f fa ρ s = (f ρ s).bind fun a => (fa ρ a.2).bind fun b => some (a.1 :: b.1, b.2) := rfl
@[simp] theorem eTup_ap : eTup fa ρ s = (fa ρ s).bind fun a => (outs a.1).bind fun ds => if ds.length ≤ sizeLine then some (.sh (.tup ds), a.2) else none := rfl
@[simp] theorem eLst_ap : eLst fa ρ s = (fa ρ s).bind fun a => (outs a.1).bind fun ds => if ds.length ≤ sizeLine then some (.fr ds, a.2) else none := rfl
@[simp] theorem eCall_ap {c : List D → Option Res} : eCall c fa ρ s = (fa ρ s).bind fun a => (c (a.1.map Res.d)).bind fun r => some (r, a.2) := rfl
@[simp] theorem eFn_ap {φ : List D → S → Option (D × S)} : eFn φ fa ρ s = (fa ρ s).bind fun a => (outs a.1).bind fun ds => (φ ds a.2).bind fun r => some (.sh r.1, r.2) := rfl
@[simp] theorem eIsi_ap {T : String} : eIsi T f ρ s = (f ρ s).bind fun a => (tyD a.1.d).bind fun t => (isiT T t).bind fun b => some (.sh (.bl b), a.2) := rfl
@[simp] theorem oNone_ap : oNone ρ s = some (none, s) := rfl
@[simp] theorem oSome_ap : oSome f ρ s = (f ρ s).bind fun a => match a.1 with
  | .sh (.int i) => some (some i, a.2)
  | _ => none := rfl
@[simp] theorem eSl_ap {lo hi : FO} : eSl f lo hi ρ s = (f ρ s).bind fun a => (lo ρ a.2).bind fun l => (hi ρ l.2).bind fun h => (slD a.1.d l.1 h.1).bind fun r => some (r, h.2) := rfl
@[simp] theorem truthD_bl {b : Bool} : truthD (.bl b) = some b := rfl
@[simp] theorem truthD_int {i : Int} : truthD (.int i) = some (i != 0) := rfl
@[simp] theorem truthD_tup {xs : List D} : truthD (.tup xs) = some (!xs.isEmpty) := rfl
@[simp] theorem truthD_lst {xs : List D} : truthD (.lst xs) = some (!xs.isEmpty) := rfl
@[simp] theorem iSeq_ap : iSeq f ρ s = (f ρ s).bind fun a => match a.1 with
  | .sh (.lst ds) => some (false, ds, a.2)
  | .sh (.tup ds) => some (false, ds, a.2)
  | .fr ds => some (false, ds, a.2)
  | .bo ds => some (true, ds, a.2)
  | _ => none := rfl
@[simp] theorem iRg1_ap : iRg1 f ρ s = (f ρ s).bind fun a => match a.1.d with
  | .int n => if okR n then some (false, rngD 0 n, a.2) else none
  | _ => none := rfl
noncomputable def rg2 (a b : D) (s : S) : Option (Bool × List D × S) := match a, b with
  | .int m, .int n => if okR m ∧ okR n then some (false, rngD m n, s) else none
  | _, _ => none
@[simp] theorem rg2_int {m n : Int} : rg2 (.int m) (.int n) s = if okR m ∧ okR n then some (false, rngD m n, s) else none := rfl
@[simp] theorem iRg2_ap : iRg2 f g ρ s = (f ρ s).bind fun a => (g ρ a.2).bind fun b => rg2 a.1.d b.1.d b.2 := rfl
@[simp] theorem iEnT_ap : iEnT f ρ s = (f ρ s).bind fun a => match a.1 with
  | .sh (.tup ds) => some (false, enumF 0 ds, a.2)
  | _ => none := rfl
@[simp] theorem eTupRg_ap : eTupRg f ρ s = (f ρ s).bind fun a => match a.1.d with
  | .int n => if okT n then some (.sh (.tup (rngD 0 n)), a.2) else none
  | _ => none := rfl
@[simp] theorem cNil_ap : cNil ρ s = some (true, s) := rfl
@[simp] theorem gN_ap {d : D} : gN i d ρ = some (ρ.set i (some (.sh d))) := rfl
@[simp] theorem gT_ap {q : List D → Env → Option Env} {ds : List D} : gT q (.tup ds) ρ = q ds ρ := rfl
@[simp] theorem gs0_ap : gs0 [] ρ = some ρ := rfl
@[simp] theorem gsC_ap {g : FG} {h : List D → Env → Option Env} {d : D} {ds : List D} : gsC g h (d :: ds) ρ = (g d ρ).bind fun ρ1 => h ds ρ1 := rfl
@[simp] theorem bNil_ap : bNil ρ s = some (.nx ρ s) := rfl
/-- what follows a statement -/
def nxt (o : Option Out) (l : FS) : Option Out := o.bind fun o => match o with
  | .nx ρ1 s1 => l ρ1 s1
  | o => some o
@[simp] theorem nxt_nx : nxt (some (.nx ρ s)) l = l ρ s := rfl
@[simp] theorem nxt_rt {d : D} : nxt (some (.rt d s)) l = some (.rt d s) := rfl
@[simp] theorem nxt_bk : nxt (some (.bk ρ s)) l = some (.bk ρ s) := rfl
@[simp] theorem nxt_ct : nxt (some (.ct ρ s)) l = some (.ct ρ s) := rfl
@[simp] theorem nxt_none : nxt none l = none := rfl
@[simp] theorem bCons_ap : bCons k l ρ s = nxt (k ρ s) l := rfl
/-- what follows a turn -/
def trn (o : Option Out) (g : FG) (k : FS) (ds : List D) : Option Out := o.bind fun o => match o with
  | .nx ρ2 s2 => forL g k ds ρ2 s2
  | .ct ρ2 s2 => forL g k ds ρ2 s2
  | .bk ρ2 s2 => some (.nx ρ2 s2)
  | .rt d s2 => some (.rt d s2)
@[simp] theorem trn_nx {g : FG} {ds : List D} : trn (some (.nx ρ s)) g k ds = forL g k ds ρ s := rfl
@[simp] theorem trn_ct {g : FG} {ds : List D} : trn (some (.ct ρ s)) g k ds = forL g k ds ρ s := rfl
@[simp] theorem trn_bk {g : FG} {ds : List D} : trn (some (.bk ρ s)) g k ds = some (.nx ρ s) := rfl
@[simp] theorem trn_rt {g : FG} {ds : List D} {d : D} : trn (some (.rt d s)) g k ds = some (.rt d s) := rfl
theorem forL_cons {g : FG} {d : D} {ds : List D} : forL g k (d :: ds) ρ s = (g d ρ).bind fun ρ1 => trn (k ρ1 s) g k ds := rfl
/-- the end of a def -/
def fnR (o : Option Out) : Option (D × S) := match o with
  | some (.rt d s') => some (d, s')
  | some (.nx _ s') => some (.non, s')
  | _ => none
@[simp] theorem fnR_rt {d : D} : fnR (some (.rt d s)) = some (d, s) := rfl
@[simp] theorem fnR_nx : fnR (some (.nx ρ s)) = some (.non, s) := rfl
theorem fnSem_ap {np n : Nat} {ds : List D} : fnSem np n k ds s = if ds.length = np then fnR (k (ds.map (fun d => some (.sh d)) ++ List.replicate (n - np) none) s) else none := rfl
noncomputable def ss1 (a : Res) (s : S) : Option (Res × S) := match a with
  | .sh (.tup xs) => (intsOf xs).bind fun ns => if ns.length < 64 then some (.fr ((sset ns).map D.int), s) else none
  | _ => none
@[simp] theorem eSset_ap : eSset f ρ s = (f ρ s).bind fun a => ss1 a.1 a.2 := rfl
@[simp] theorem sSet_ap : sSet i f ρ s = (f ρ s).bind fun a => a.1.ent.bind fun e => some (.nx (ρ.set i (some e)) a.2) := rfl
@[simp] theorem sTo_ap {g : FG} : sTo g f ρ s = (f ρ s).bind fun a => a.1.out.bind fun d => (g d ρ).bind fun ρ1 => some (.nx ρ1 a.2) := rfl
@[simp] theorem sDrop_ap : sDrop f ρ s = (f ρ s).bind fun a => some (.nx ρ a.2) := rfl
@[simp] theorem sRet_ap : sRet f ρ s = (f ρ s).bind fun a => some (.rt a.1.d a.2) := rfl
@[simp] theorem sRetN_ap : sRetN ρ s = some (.rt .non s) := rfl
@[simp] theorem sIf_ap : sIf t k l ρ s = (t ρ s).bind fun b => if b.1 = true then k ρ b.2 else l ρ b.2 := rfl
@[simp] theorem sBad_ap : sBad ρ s = none := rfl
@[simp] theorem sBk_ap : sBk ρ s = some (.bk ρ s) := rfl
@[simp] theorem sCt_ap : sCt ρ s = some (.ct ρ s) := rfl
@[simp] theorem sFor_ap {g : FG} {fi : FI} : sFor g fi k ρ s = (fi ρ s).bind fun r => if r.1 = true then none else forL g k r.2.1 ρ r.2.2 := rfl
@[simp] theorem sApp_ap : sApp i f ρ s = (f ρ s).bind fun a => a.1.out.bind fun d => match ρ[i]? with
  | some (some (.ow ds)) => if ds.length < sizeLine then some (.nx (ρ.set i (some (.ow (ds ++ [d])))) a.2) else none
  | _ => none := rfl
@[simp] theorem sFz_ap : sFz i ρ s = match ρ[i]? with
  | some (some (.ow ds)) => some (.nx (ρ.set i (some (.sh (.lst ds)))) s)
  | _ => none := rfl
def ext2 (i : Nat) (r : Res) (e : Option (Option Ent)) (ρ : Env) (s : S) : Option Out := match r, e with
  | .fr es, some (some (.ow ds)) => if ds.length + es.length ≤ sizeLine then some (.nx (ρ.set i (some (.ow (ds ++ es)))) s) else none
  | .sh (.lst es), some (some (.ow ds)) => if ds.length + es.length ≤ sizeLine then some (.nx (ρ.set i (some (.ow (ds ++ es)))) s) else none
  | _, _ => none
@[simp] theorem ext2_fr {es ds : List D} : ext2 i (.fr es) (some (some (.ow ds))) ρ s = if ds.length + es.length ≤ sizeLine then some (.nx (ρ.set i (some (.ow (ds ++ es)))) s) else none := rfl
@[simp] theorem ext2_sh {es ds : List D} : ext2 i (.sh (.lst es)) (some (some (.ow ds))) ρ s = if ds.length + es.length ≤ sizeLine then some (.nx (ρ.set i (some (.ow (ds ++ es)))) s) else none := rfl
@[simp] theorem sExt_ap : sExt i f ρ s = (f ρ s).bind fun a => ext2 i a.1 ρ[i]? ρ a.2 := rfl
@[simp] theorem sPar_ap : sPar i j f g ρ s = (f ρ s).bind fun a => (g ρ a.2).bind fun b => a.1.ent.bind fun e1 => b.1.ent.bind fun e2 => some (.nx ((ρ.set i (some e1)).set j (some e2)) b.2) := rfl
@[simp] theorem sAug_ap : sAug c i f ρ s = (f ρ s).bind fun a => match ρ[i]? with
  | some (some (.sh d)) => (c d a.1.d).bind fun r => r.ent.bind fun e => some (.nx (ρ.set i (some e)) a.2)
  | _ => none := rfl
@[simp] theorem forL_nil {g : FG} : forL g k [] ρ s = some (.nx ρ s) := rfl
@[simp] theorem wipeR_nil : wipeR ρ [] = ρ := rfl
@[simp] theorem wipeR_cons {v : Nat} {vs : List Nat} : wipeR ρ (v :: vs) = (wipeR ρ vs).set v none := rfl
@[simp] theorem eLc_ap {vs : List Nat} {g : FG} {fi : FI} {c : FT} : eLc vs g fi c f ρ s = (fi ρ s).bind fun r => if r.2.1.length ≤ sizeLine then (lcL g c f (wipeR ρ vs) r.2.1 r.2.2).bind fun z => some (.fr z.1, z.2) else none := rfl
@[simp] theorem lenD_lst {xs : List D} : lenD [.lst xs] = some (.sh (.int xs.length)) := rfl
@[simp] theorem lenD_tup {xs : List D} : lenD [.tup xs] = some (.sh (.int xs.length)) := rfl
@[simp] theorem tupD_lst {xs : List D} : tupD [.lst xs] = some (.sh (.tup xs)) := rfl
@[simp] theorem tupD_tup {xs : List D} : tupD [.tup xs] = some (.sh (.tup xs)) := rfl
@[simp] theorem maxD_2 {a b : Int} : maxD [.int a, .int b] = some (.sh (.int (max a b))) := rfl
@[simp] theorem minD_2 {a b : Int} : minD [.int a, .int b] = some (.sh (.int (min a b))) := rfl
@[simp] theorem maxD_l2 {a b : Int} : maxD [.lst [.int a, .int b]] = some (.sh (.int (max a b))) := rfl
@[simp] theorem minD_l2 {a b : Int} : minD [.lst [.int a, .int b]] = some (.sh (.int (min a b))) := rfl
@[simp] theorem intD_int {a : Int} : intD [.int a] = some (.sh (.int a)) := rfl
@[simp] theorem ixD_tup {xs : List D} {i : Int} : ixD (.tup xs) (.int i) = (atI xs i).map .sh := rfl
@[simp] theorem ixD_lst {xs : List D} {i : Int} : ixD (.lst xs) (.int i) = (atI xs i).map .sh := rfl
@[simp] theorem tyD_int {i : Int} : tyD (.int i) = some "int" := rfl
@[simp] theorem tyD_tup {i : List D} : tyD (.tup i) = some "tuple" := rfl
@[simp] theorem tyD_str {i : Str} : tyD (.str i) = some "str" := rfl
@[simp] theorem isi_int : isiT "int" "int" = some true := rfl
@[simp] theorem isi_boolint : isiT "bool" "int" = some false := rfl
@[simp] theorem isi_tuptup : isiT "tuple" "tuple" = some true := rfl
end
theorem bCons_nx {k l : FS} {ρ ρ1 : Env} {s s1 : S} {o : Option Out} (h : k ρ s = some (.nx ρ1 s1)) (h2 : l ρ1 s1 = o) : bCons k l ρ s = o := by
  rw [bCons_ap, h]; exact h2
theorem bCons_rt {k l : FS} {ρ : Env} {s s1 : S} {d : D} (h : k ρ s = some (.rt d s1)) : bCons k l ρ s = some (.rt d s1) := by
  rw [bCons_ap, h]; rfl
/-! ### loops -/
theorem lcL_map {g : FG} {c : FT} {f : FE} {ρ0 : Env} {s : S} (h : D → D) : ∀ ds : List D, (∀ d ∈ ds, ∃ ρ1 r, g d ρ0 = some ρ1 ∧ c ρ1 s = some (true, s) ∧ f ρ1 s = some (r, s) ∧ r.out = some (h d)) → lcL g c f ρ0 ds s = some (ds.map h, s)
  | [], _ => rfl
  | d :: ds, H => by
    obtain ⟨ρ1, r, e1, e2, e3, e4⟩ := H d List.mem_cons_self
    have ih := lcL_map (g := g) (c := c) (f := f) (ρ0 := ρ0) (s := s) h ds fun x hx => H x (List.mem_cons_of_mem _ hx)
    rw [lcL, e1, Option.bind_some, e2, Option.bind_some, if_pos rfl, e3, Option.bind_some, e4, Option.bind_some, ih]
    rfl
theorem lcL_filt {g : FG} {c : FT} {f : FE} {ρ0 : Env} {s : S} (p : D → Bool) (h : D → D) : ∀ ds : List D, (∀ d ∈ ds, ∃ ρ1, g d ρ0 = some ρ1 ∧ c ρ1 s = some (p d, s) ∧ (p d = true → ∃ r, f ρ1 s = some (r, s) ∧ r.out = some (h d))) → lcL g c f ρ0 ds s = some ((ds.filter p).map h, s)
  | [], _ => rfl
  | d :: ds, H => by
    obtain ⟨ρ1, e1, e2, e3⟩ := H d List.mem_cons_self
    have ih := lcL_filt (g := g) (c := c) (f := f) (ρ0 := ρ0) (s := s) p h ds fun x hx => H x (List.mem_cons_of_mem _ hx)
    rw [lcL, e1, Option.bind_some, e2, Option.bind_some]
    cases hp : p d with
    | true =>
      obtain ⟨r, e4, e5⟩ := e3 hp
      rw [if_pos (by rfl), e4, Option.bind_some, e5, Option.bind_some, ih, List.filter_cons_of_pos hp]
      rfl
    | false => rw [if_neg (by simp), ih, List.filter_cons_of_neg (by simp [hp])]
theorem forL_fold {α : Type} {g : FG} {body : FS} (I : α → Prop) (E : α → Env) (T : α → S) (step : α → D → α) : ∀ (ds : List D) (a : α), I a → (∀ a d, d ∈ ds → I a → I (step a d) ∧ ∃ ρ1, g d (E a) = some ρ1 ∧ body ρ1 (T a) = some (.nx (E (step a d)) (T (step a d)))) → forL g body ds (E a) (T a) = some (.nx (E (ds.foldl step a)) (T (ds.foldl step a))) ∧ I (ds.foldl step a)
  | [], a, i, _ => ⟨rfl, i⟩
  | d :: ds, a, i, H => by
    obtain ⟨i', ρ1, e1, e2⟩ := H a d List.mem_cons_self i
    have ih := forL_fold (g := g) (body := body) I E T step ds (step a d) i' fun a d hd => H a d (List.mem_cons_of_mem _ hd)
    refine ⟨?_, ih.2⟩
    rw [forL, e1, Option.bind_some, e2, Option.bind_some]
    exact ih.1
/-- a loop that goes on through all, by what holds behind i turns -/
theorem forL_ex {g : FG} {body : FS} (I : Nat → Env → S → Prop) : ∀ (ds : List D) (i : Nat) (ρ : Env) (s : S), I i ρ s → (∀ j d ρ s, ds[j]? = some d → I (i + j) ρ s → ∃ ρ1 ρ2 s2, g d ρ = some ρ1 ∧ body ρ1 s = some (.nx ρ2 s2) ∧ I (i + j + 1) ρ2 s2) → ∃ ρ' s', forL g body ds ρ s = some (.nx ρ' s') ∧ I (i + ds.length) ρ' s'
  | [], i, ρ, s, h, _ => ⟨ρ, s, rfl, h⟩
  | d :: ds, i, ρ, s, h, H => by
    obtain ⟨ρ1, ρ2, s2, e1, e2, h2⟩ := H 0 d ρ s rfl h
    obtain ⟨ρ', s', e3, h3⟩ := forL_ex (g := g) (body := body) I ds (i + 1) ρ2 s2 h2 fun j d ρ s hd hi => by
      have := H (j + 1) d ρ s (by simpa using hd) (by rw [show i + (j + 1) = i + 1 + j by omega]; exact hi)
      rw [show i + (j + 1) + 1 = i + 1 + j + 1 by omega] at this
      exact this
    refine ⟨ρ', s', ?_, by rw [List.length_cons, show i + (ds.length + 1) = i + 1 + ds.length by omega]; exact h3⟩
    rw [forL, e1, Option.bind_some, e2, Option.bind_some]
    exact e3

/-! ### lists of ints -/
def dI (ns : List Int) : List D := ns.map D.int
@[simp] theorem dI_length (ns : List Int) : (dI ns).length = ns.length := List.length_map _
@[simp] theorem dI_nil : dI [] = [] := rfl
@[simp] theorem dI_cons (n : Int) (ns : List Int) : dI (n :: ns) = .int n :: dI ns := rfl
theorem dI_app (a b : List Int) : dI (a ++ b) = dI a ++ dI b := List.map_append
def rgI (n : Nat) : List Int := (List.range n).map Int.ofNat
theorem rngD_zero (n : Nat) : rngD 0 (n : Int) = dI (rgI n) := by
  unfold rngD dI rgI
  rw [List.map_map]
  simp
theorem blsOf_bl : ∀ bs : List Bool, blsOf (bs.map D.bl) = some bs
  | [] => rfl
  | b :: bs => by rw [List.map_cons, blsOf, blsOf_bl bs]; rfl
theorem intsOf_dI : ∀ ns : List Int, intsOf (dI ns) = some ns
  | [] => rfl
  | b :: bs => by rw [dI_cons, intsOf, intsOf_dI bs]; rfl
theorem allD_map {α : Type} (xs : List α) (p : α → Bool) : allD [.lst (xs.map fun x => .bl (p x))] = some (.sh (.bl (xs.all p))) := by
  have : xs.map (fun x => D.bl (p x)) = (xs.map p).map D.bl := by rw [List.map_map]; rfl
  rw [this, allD, blsOf_bl, Option.bind_some, List.all_map]
  rfl
theorem atI_dI {ns : List Int} {i : Int} : atI (dI ns) i = (atI ns i).map D.int := by
  unfold atI dI
  rw [List.length_map]
  cases ixN ns.length i with
  | none => rfl
  | some j => simp

/-! ### equality of data -/
mutual
def okd : D → Bool
  | .non => true
  | .bl _ => false
  | .int _ => true
  | .str x => PyData.strOk x
  | .tup xs => okds xs
  | .lst xs => okds xs
  | .st => false
def okds : List D → Bool
  | [] => true
  | d :: ds => okd d && okds ds
end
mutual
def dep : D → Nat
  | .tup xs => deps xs + 1
  | .lst xs => deps xs + 1
  | _ => 0
def deps : List D → Nat
  | [] => 0
  | d :: ds => max (dep d) (deps ds)
end
mutual
theorem py_ok : ∀ d : D, okd d = true → ∃ p, d.py = some p ∧ p.canLay0 = true ∧ p.depth = dep d
  | .non, _ => ⟨_, rfl, by simp [PyData.canLay0], by simp [PyData.depth, dep]⟩
  | .bl _, h => by simp [okd] at h
  | .int _, _ => ⟨_, rfl, by simp [PyData.canLay0], by simp [PyData.depth, dep]⟩
  | .str x, h => ⟨_, rfl, by simpa [PyData.canLay0, okd] using h, by simp [PyData.depth, dep]⟩
  | .st, h => by simp [okd] at h
  | .tup xs, h => by
    obtain ⟨ps, e1, e2, e3⟩ := pys_ok xs (by simpa [okd] using h)
    exact ⟨.tuple ps, by rw [D.py, e1]; rfl, by simpa [PyData.canLay0] using e2, by rw [PyData.depth, dep, e3]⟩
  | .lst xs, h => by
    obtain ⟨ps, e1, e2, e3⟩ := pys_ok xs (by simpa [okd] using h)
    exact ⟨.list ps, by rw [D.py, e1]; rfl, by simpa [PyData.canLay0] using e2, by rw [PyData.depth, dep, e3]⟩
theorem pys_ok : ∀ ds : List D, okds ds = true → ∃ ps, pyAll ds = some ps ∧ PyData.canLayAll0 ps = true ∧ PyData.depthAll ps = deps ds
  | [], _ => ⟨[], rfl, by simp [PyData.canLayAll0], by simp [PyData.depthAll, deps]⟩
  | d :: ds, h => by
    rw [okds, Bool.and_eq_true] at h
    obtain ⟨p, e1, e2, e3⟩ := py_ok d h.1
    obtain ⟨ps, f1, f2, f3⟩ := pys_ok ds h.2
    exact ⟨p :: ps, by rw [pyAll, e1, f1]; rfl, by rw [PyData.canLayAll0, e2, f2]; rfl, by rw [PyData.depthAll, deps, e3, f3]⟩
end
mutual
theorem eqv_ok : ∀ (a b : D) (p q : PyData), okd a = true → okd b = true → a.py = some p → b.py = some q → (PyData.eqv p q = true ↔ a = b)
  | .non, b, p, q, _, hb, e1, e2 => by
    cases e1
    cases b with
    | non => cases e2; simp [PyData.eqv]
    | bl _ => simp [okd] at hb
    | int _ => cases e2; simp [PyData.eqv]
    | str _ => cases e2; simp [PyData.eqv]
    | st => simp [okd] at hb
    | tup ys => rw [D.py] at e2; obtain ⟨qs, _, rfl⟩ := Option.map_eq_some_iff.mp e2; simp [PyData.eqv]
    | lst ys => rw [D.py] at e2; obtain ⟨qs, _, rfl⟩ := Option.map_eq_some_iff.mp e2; simp [PyData.eqv]
  | .bl _, _, _, _, h, _, _, _ => by simp [okd] at h
  | .st, _, _, _, h, _, _, _ => by simp [okd] at h
  | .int i, b, p, q, _, hb, e1, e2 => by
    cases e1
    cases b with
    | non => cases e2; simp [PyData.eqv]
    | bl _ => simp [okd] at hb
    | int j => cases e2; simp [PyData.eqv]
    | str _ => cases e2; simp [PyData.eqv]
    | st => simp [okd] at hb
    | tup ys => rw [D.py] at e2; obtain ⟨qs, _, rfl⟩ := Option.map_eq_some_iff.mp e2; simp [PyData.eqv]
    | lst ys => rw [D.py] at e2; obtain ⟨qs, _, rfl⟩ := Option.map_eq_some_iff.mp e2; simp [PyData.eqv]
  | .str x, b, p, q, _, hb, e1, e2 => by
    cases e1
    cases b with
    | non => cases e2; simp [PyData.eqv]
    | bl _ => simp [okd] at hb
    | int j => cases e2; simp [PyData.eqv]
    | str y => cases e2; simp [PyData.eqv]
    | st => simp [okd] at hb
    | tup ys => rw [D.py] at e2; obtain ⟨qs, _, rfl⟩ := Option.map_eq_some_iff.mp e2; simp [PyData.eqv]
    | lst ys => rw [D.py] at e2; obtain ⟨qs, _, rfl⟩ := Option.map_eq_some_iff.mp e2; simp [PyData.eqv]
  | .tup xs, b, p, q, ha, hb, e1, e2 => by
    rw [D.py] at e1
    obtain ⟨ps, e3, rfl⟩ := Option.map_eq_some_iff.mp e1
    cases b with
    | non => cases e2; simp [PyData.eqv]
    | bl _ => simp [okd] at hb
    | int j => cases e2; simp [PyData.eqv]
    | str y => cases e2; simp [PyData.eqv]
    | st => simp [okd] at hb
    | lst ys => rw [D.py] at e2; obtain ⟨qs, _, rfl⟩ := Option.map_eq_some_iff.mp e2; simp [PyData.eqv]
    | tup ys =>
      rw [D.py] at e2
      obtain ⟨qs, e4, rfl⟩ := Option.map_eq_some_iff.mp e2
      have := eqvs_ok xs ys ps qs (by simpa [okd] using ha) (by simpa [okd] using hb) e3 e4
      rw [PyData.eqv, this]
      simp
  | .lst xs, b, p, q, ha, hb, e1, e2 => by
    rw [D.py] at e1
    obtain ⟨ps, e3, rfl⟩ := Option.map_eq_some_iff.mp e1
    cases b with
    | non => cases e2; simp [PyData.eqv]
    | bl _ => simp [okd] at hb
    | int j => cases e2; simp [PyData.eqv]
    | str y => cases e2; simp [PyData.eqv]
    | st => simp [okd] at hb
    | tup ys => rw [D.py] at e2; obtain ⟨qs, _, rfl⟩ := Option.map_eq_some_iff.mp e2; simp [PyData.eqv]
    | lst ys =>
      rw [D.py] at e2
      obtain ⟨qs, e4, rfl⟩ := Option.map_eq_some_iff.mp e2
      have := eqvs_ok xs ys ps qs (by simpa [okd] using ha) (by simpa [okd] using hb) e3 e4
      rw [PyData.eqv, this]
      simp
theorem eqvs_ok : ∀ (a b : List D) (p q : List PyData), okds a = true → okds b = true → pyAll a = some p → pyAll b = some q → (PyData.eqvAll p q = true ↔ a = b)
  | [], [], _, _, _, _, e1, e2 => by cases e1; cases e2; simp [PyData.eqvAll]
  | [], y :: ys, _, q, _, _, e1, e2 => by
    cases e1
    rw [pyAll] at e2
    obtain ⟨p1, _, e2⟩ := Option.bind_eq_some_iff.mp e2
    obtain ⟨p2, _, rfl⟩ := Option.map_eq_some_iff.mp e2
    simp [PyData.eqvAll]
  | x :: xs, [], p, _, _, _, e1, e2 => by
    cases e2
    rw [pyAll] at e1
    obtain ⟨p1, _, e1⟩ := Option.bind_eq_some_iff.mp e1
    obtain ⟨p2, _, rfl⟩ := Option.map_eq_some_iff.mp e1
    simp [PyData.eqvAll]
  | x :: xs, y :: ys, p, q, ha, hb, e1, e2 => by
    rw [pyAll] at e1 e2
    obtain ⟨p1, f1, e1⟩ := Option.bind_eq_some_iff.mp e1
    obtain ⟨p2, f2, rfl⟩ := Option.map_eq_some_iff.mp e1
    obtain ⟨q1, g1, e2⟩ := Option.bind_eq_some_iff.mp e2
    obtain ⟨q2, g2, rfl⟩ := Option.map_eq_some_iff.mp e2
    rw [okds, Bool.and_eq_true] at ha hb
    have h1 := eqv_ok x y p1 q1 ha.1 hb.1 f1 g1
    have h2 := eqvs_ok xs ys p2 q2 ha.2 hb.2 f2 g2
    rw [PyData.eqvAll, Bool.and_eq_true, h1, h2]
    simp
end
/-- == of data without truth values -/
theorem eqD_ok {a b : D} (ha : okd a = true) (hb : okd b = true) (da : dep a ≤ 60) (db : dep b ≤ 60) : ∃ r, eqD a b = some r ∧ (r = true ↔ a = b) := by
  obtain ⟨p, e1, e2, e3⟩ := py_ok a ha
  obtain ⟨q, f1, f2, f3⟩ := py_ok b hb
  refine ⟨PyData.eqv p q, ?_, eqv_ok a b p q ha hb e1 f1⟩
  rw [eqD, e1, Option.bind_some, f1, Option.bind_some, if_pos]
  constructor
  · unfold SeqAt.shaped
    rw [e2, e3]
    simp; omega
  · unfold SeqAt.shaped
    rw [f2, f3]
    simp; omega
theorem okds_dI : ∀ ns : List Int, okds (dI ns) = true
  | [] => rfl
  | n :: ns => by rw [dI_cons, okds, okds_dI ns]; rfl
theorem deps_dI : ∀ ns : List Int, deps (dI ns) = 0
  | [] => rfl
  | n :: ns => by rw [dI_cons, deps, deps_dI ns]; rfl
theorem dI_inj {a b : List Int} : dI a = dI b ↔ a = b := by
  constructor
  · intro h
    have := congrArg intsOf h
    rw [intsOf_dI, intsOf_dI] at this
    exact Option.some.inj this
  · rintro rfl; rfl
theorem ss1_dI {ns : List Int} {s : S} (h : ns.length < 64) : ss1 (.sh (.tup (dI ns))) s = some (.fr (dI (sset ns)), s) := by
  show (intsOf (dI ns)).bind _ = _
  rw [intsOf_dI, Option.bind_some, if_pos h]
  rfl
@[simp] theorem eqD_bl (a b : Bool) : eqD (.bl a) (.bl b) = some (a == b) := by
  have e : ∀ a : Bool, SeqAt.shaped (.bool a) = true := fun a => by
    unfold SeqAt.shaped
    simp [PyData.canLay0, PyData.depth]
  show (if SeqAt.shaped (.bool a) = true ∧ SeqAt.shaped (.bool b) = true then some (PyData.eqv (.bool a) (.bool b)) else none) = _
  rw [if_pos ⟨e a, e b⟩]
  simp [PyData.eqv]
@[simp] theorem neD_bl (a b : Bool) : neD (.bl a) (.bl b) = some (a != b) := by
  rw [neD, eqD_bl]; rfl
theorem eqD_tup_dI (a b : List Int) : eqD (.tup (dI a)) (.tup (dI b)) = some (decide (a = b)) := by
  obtain ⟨r, e1, e2⟩ := eqD_ok (a := .tup (dI a)) (b := .tup (dI b)) (by rw [okd, okds_dI]) (by rw [okd, okds_dI]) (by rw [dep, deps_dI]; omega) (by rw [dep, deps_dI]; omega)
  rw [e1]
  congr 1
  rw [Bool.eq_iff_iff, e2, decide_eq_true_eq]
  constructor
  · intro h; injection h with h; exact dI_inj.mp h
  · rintro rfl; rfl
theorem neD_tup_dI (a b : List Int) : neD (.tup (dI a)) (.tup (dI b)) = some (decide (a ≠ b)) := by
  rw [neD, eqD_tup_dI]
  simp
@[simp] theorem eqD_int (a b : Int) : eqD (.int a) (.int b) = some (decide (a = b)) := by
  obtain ⟨r, e1, e2⟩ := eqD_ok (a := .int a) (b := .int b) rfl rfl (by show 0 ≤ 60; omega) (by show 0 ≤ 60; omega)
  rw [e1]
  congr 1
  rw [Bool.eq_iff_iff, e2, decide_eq_true_eq]
  constructor
  · intro h; injection h
  · rintro rfl; rfl
@[simp] theorem neD_int (a b : Int) : neD (.int a) (.int b) = some (decide (a ≠ b)) := by
  rw [neD, eqD_int]
  simp
end PL

set_option Elab.async false
set_option linter.all false
set_option maxRecDepth 100000
set_option maxHeartbeats 4000000
/-! PL13: tuples of the module, in, list(range), sorted ints, tuple.index. -/
namespace PL
open PySem PySem.Spec PyProof.Rows L2
/-- strings as data -/
def dS (ss : List Str) : List D := ss.map D.str
/-- a tuple of the written part, under a name -/
structure GT (K : PySem.W.Frag) (mg : Str → Option Value) (x : Str) (xs : List V) : Prop where
  ex : ∃ a, mg x = some (.ref a) ∧ (∀ H, SqT K H a xs) ∧ ∃ o, K.lookup a = some o ∧ o.cls = .type "tuple" ∧ o.dict = none
theorem GT.of {K : PySem.W.Frag} {mg : Str → Option Value} {x : Str} {xs : List V} {a : Addr} {its : Array Value} {n : Nat} {sl : Array (Option Value)} (hm : mg x = some (.ref a)) (hl : K.lookup a = some ⟨.type "tuple", none, .seq its n, sl⟩) (hz : its.size ≤ sizeLine) (hv : Vals xs its.toList) : GT K mg x xs :=
  ⟨a, hm, fun H => .inr ⟨_, its, n, hl, rfl, rfl, hz, hv⟩, _, hl, rfl, rfl⟩
section
variable {Γ : G} {sc : Scope} {top : Bool} {X : Cx} {sa : Addr × Addr} {a b e : Expr} {f g : FE} {pos : Pos} {x : Str}
theorem k_gtup (C : Ctx Γ sc top X) {xs : List V} {ds : List D} (h2 : glC sc x = true) (hm : GT Γ.K Γ.mg x xs) (hd : ∀ (O : Addr → Prop) (H : Hp), DqAll Γ.K O sa H xs ds) : SndE X sa (.Name x pos) (eC (.tup ds)) := by
  obtain ⟨a, h1, h3, _⟩ := hm.ex
  exact k_glob (v := .ref a) C h2 ⟨_, h1, rfl⟩ fun O H => ⟨a, xs, rfl, .inr h3, hd O H⟩
theorem DqAll.of_strs' {K : PySem.W.Frag} {O : Addr → Prop} {H : Hp} : ∀ ss : List Str, DqAll K O sa H (ss.map V.str) (dS ss)
  | [] => trivial
  | s :: ss => ⟨rfl, DqAll.of_strs' ss⟩
theorem DqAll.of_ints' {K : PySem.W.Frag} {O : Addr → Prop} {H : Hp} : ∀ ss : List Int, DqAll K O sa H (ss.map V.int) (dI ss)
  | [] => trivial
  | s :: ss => ⟨rfl, DqAll.of_ints' ss⟩
theorem k_gtI (C : Ctx Γ sc top X) (ns : List Int) (h2 : glC sc x = true) (hm : GT Γ.K Γ.mg x (ns.map V.int)) : SndE X sa (.Name x pos) (eC (.tup (dI ns))) := k_gtup C h2 hm fun _ _ => DqAll.of_ints' ns
theorem k_gtS (C : Ctx Γ sc top X) (ss : List Str) (h2 : glC sc x = true) (hm : GT Γ.K Γ.mg x (ss.map V.str)) : SndE X sa (.Name x pos) (eC (.tup (dS ss))) := k_gtup C h2 hm fun _ _ => DqAll.of_strs' ss
theorem k_gstr (C : Ctx Γ sc top X) {n : Str} (h2 : glC sc x = true) (hm : ∃ u, Γ.mg x = some u ∧ RelV (.str n) u) : SndE X sa (.Name x pos) (eC (.str n)) := k_glob C h2 hm fun _ _ => rfl
end
/-! ### in -/
def seqD : D → Option (List D)
  | .lst xs => some xs
  | .tup xs => some xs
  | _ => none
def inX (x : D) (xs : List D) : Option Bool := match x with
  | .int i => (intsOf xs).map fun ns => decide (i ∈ ns)
  | .str z => (strsOf xs).map fun ss => decide (z ∈ ss)
  | _ => none
def inD (x ys : D) : Option Bool := (seqD ys).bind fun xs => inX x xs
def niD (x ys : D) : Option Bool := (inD x ys).map fun b => !b
section
variable {X : Cx} {sa : Addr × Addr}
theorem inV_int {i : Int} : ∀ ns : List Int, inV (.int i) (ns.map V.int) = decide (i ∈ ns)
  | [] => rfl
  | n :: ns => by
    have ih := @inV_int i ns
    unfold inV at ih ⊢
    rw [List.map_cons, List.any_cons, ih]
    show (n == i || _) = _
    rw [Bool.eq_iff_iff]
    simp only [Bool.or_eq_true, beq_iff_eq, decide_eq_true_eq, List.mem_cons]
    constructor <;> rintro (h | h) <;> simp_all
theorem inV_str {i : Str} : ∀ ns : List Str, inV (.str i) (ns.map V.str) = decide (i ∈ ns)
  | [] => rfl
  | n :: ns => by
    have ih := @inV_str i ns
    unfold inV at ih ⊢
    rw [List.map_cons, List.any_cons, ih]
    show (n == i || _) = _
    rw [Bool.eq_iff_iff]
    simp only [Bool.or_eq_true, beq_iff_eq, decide_eq_true_eq, List.mem_cons]
    constructor <;> rintro (h | h) <;> simp_all
theorem in_vw {K : PySem.W.Frag} {O : Addr → Prop} {H : Hp} {x y : V} {d ys : D} {b : Bool} (h : inD d ys = some b) (vx : Vw K O sa H x d) (vy : Vw K O sa H y ys) : ∃ p xs, y = .ref p ∧ (SqL K H p xs ∨ SqT K H p xs) ∧ flatV x = true ∧ xs.all flatV = true ∧ inV x xs = b := by
  obtain ⟨ds, h1, h2⟩ := bind_some_of h
  have hs : ∃ p xs, y = .ref p ∧ (SqL K H p xs ∨ SqT K H p xs) ∧ DqAll K O sa H xs ds := by
    cases ys with
    | lst zs => cases h1; obtain ⟨p, vs, rfl, _, t, q⟩ := vy; exact ⟨p, vs, rfl, .inl (SqL.of t), q⟩
    | tup zs => cases h1; obtain ⟨p, vs, rfl, t, q⟩ := vy; exact ⟨p, vs, rfl, .inr t.sq, q⟩
    | _ => cases h1
  obtain ⟨p, xs, rfl, hq, q⟩ := hs
  cases d with
  | int i =>
    cases vx
    obtain ⟨ns, e, rfl⟩ := Option.map_eq_some_iff.mp h2
    have := intsOf_rel e q
    subst this
    exact ⟨p, _, rfl, hq, rfl, by rw [List.all_map]; exact List.all_eq_true.mpr fun _ _ => rfl, inV_int ns⟩
  | str z =>
    cases vx
    obtain ⟨ns, e, rfl⟩ := Option.map_eq_some_iff.mp h2
    have := strsOf_rel e q
    subst this
    exact ⟨p, _, rfl, hq, rfl, by rw [List.all_map]; exact List.all_eq_true.mpr fun _ _ => rfl, inV_str ns⟩
  | _ => cases h2
theorem cm2_in : Cm2 X sa (OpR X (compareOp .In)) inD := fun d ys b h => ⟨_, op_in_seq, fun O H x y so vx vy Q q => by
  obtain ⟨p, xs, rfl, hq, f1, f2, e⟩ := in_vw h vx vy
  exact ⟨p, xs, rfl, hq, f1, f2, by rw [if_neg Bool.false_ne_true, e]; exact q⟩⟩
theorem cm2_notin : Cm2 X sa (OpR X (compareOp .NotIn)) niD := fun d ys b h => by
  obtain ⟨b', h', rfl⟩ := Option.map_eq_some_iff.mp h
  refine ⟨_, op_notIn_seq, fun O H x y so vx vy Q q => ?_⟩
  obtain ⟨p, xs, rfl, hq, f1, f2, e⟩ := in_vw h' vx vy
  exact ⟨p, xs, rfl, hq, f1, f2, by rw [if_pos rfl, e]; exact q⟩
end
@[simp] theorem inD_int_lst {i : Int} {ns : List Int} : inD (.int i) (.lst (dI ns)) = some (decide (i ∈ ns)) := by
  show (intsOf (dI ns)).map _ = _
  rw [intsOf_dI]; rfl
@[simp] theorem inD_int_tup {i : Int} {ns : List Int} : inD (.int i) (.tup (dI ns)) = some (decide (i ∈ ns)) := by
  show (intsOf (dI ns)).map _ = _
  rw [intsOf_dI]; rfl
theorem strsOf_dS : ∀ ns : List Str, strsOf (dS ns) = some ns
  | [] => rfl
  | b :: bs => by show (strsOf (dS bs)).bind _ = _; rw [strsOf_dS bs]; rfl
@[simp] theorem inD_str_tup {i : Str} {ns : List Str} : inD (.str i) (.tup (dS ns)) = some (decide (i ∈ ns)) := by
  show (strsOf (dS ns)).map _ = _
  rw [strsOf_dS]; rfl
@[simp] theorem inD_str_lst {i : Str} {ns : List Str} : inD (.str i) (.lst (dS ns)) = some (decide (i ∈ ns)) := by
  show (strsOf (dS ns)).map _ = _
  rw [strsOf_dS]; rfl
@[simp] theorem niD_ap {x y : D} : niD x y = (inD x y).map fun b => !b := rfl

/-! ### sorted(list of ints) -/
def srt1 (k : Int) : List Int → List Int
  | [] => [k]
  | x :: r => if k ≤ x then k :: x :: r else x :: srt1 k r
def srtI (ns : List Int) : List Int := ns.foldr srt1 []
theorem srt1_perm (k : Int) : ∀ l : List Int, (srt1 k l).Perm (k :: l)
  | [] => .refl _
  | x :: r => by
    rw [srt1]
    split
    · exact .refl _
    · exact ((srt1_perm k r).cons x).trans (.swap k x r)
theorem srtI_perm : ∀ l : List Int, (srtI l).Perm l
  | [] => .refl _
  | x :: r => (srt1_perm x (srtI r)).trans ((srtI_perm r).cons x)
theorem srt1_pw {k : Int} : ∀ {l : List Int}, l.Pairwise (· ≤ ·) → (srt1 k l).Pairwise (· ≤ ·)
  | [], _ => List.pairwise_singleton _ _
  | x :: r, h => by
    rw [List.pairwise_cons] at h
    rw [srt1]
    split
    · rename_i hk
      refine List.pairwise_cons.mpr ⟨fun y hy => ?_, List.pairwise_cons.mpr h⟩
      rcases List.mem_cons.mp hy with rfl | hy
      · exact hk
      · exact Int.le_trans hk (h.1 y hy)
    · rename_i hk
      refine List.pairwise_cons.mpr ⟨fun y hy => ?_, srt1_pw h.2⟩
      rcases List.mem_cons.mp ((srt1_perm k r).mem_iff.mp hy) with rfl | hy
      · omega
      · exact h.1 y hy
theorem srtI_pw : ∀ l : List Int, (srtI l).Pairwise (· ≤ ·)
  | [] => .nil
  | x :: r => srt1_pw (srtI_pw r)
theorem srt_uniq : ∀ {l m : List Int}, l.Perm m → l.Pairwise (· ≤ ·) → m.Pairwise (· ≤ ·) → l = m := fun h h1 h2 => h.eq_of_pairwise (fun a b _ _ x y => Int.le_antisymm x y) h1 h2
def sortedD : List D → Option Res
  | [.lst xs] => (intsOf xs).bind fun ns => some (.fr (dI (srtI ns)))
  | _ => none
section
variable {X : Cx} {sa : Addr × Addr}
theorem cd_sorted : CallD X sa (CallR X (.builtin "sorted")) sortedD := by
  intro ds r h
  unfold sortedD at h
  split at h
  · obtain ⟨bs, h1, h⟩ := bind_some_of h
    cases h
    refine ⟨_, cr_sortedI, fun Oc O H xs hd vx Q q => ?_⟩
    obtain ⟨x, rfl, a, vs, rfl, _, ha, qa⟩ := vw1 vx
    rw [intsOf_rel h1 qa] at ha
    refine ⟨a, bs, rfl, SqL.of ha, fun ns' p h2 h3 np => ?_⟩
    have e : ns' = srtI bs := srt_uniq (h2.trans (srtI_perm bs).symm) h3 (srtI_pw bs)
    subst e
    exact q _ _ (new_ext np) (new_sa hd.hs np) (rv_fr hd.so np (DqAll.of_ints' _))
  · cases h
end
@[simp] theorem sortedD_dI {ns : List Int} : sortedD [.lst (dI ns)] = some (.fr (dI (srtI ns))) := by
  show (intsOf (dI ns)).bind _ = _
  rw [intsOf_dI]; rfl

/-! ### list(range(..)) -/
def okLR (m n : Int) : Prop := (-(2 ^ 62) ≤ m ∧ m < 2 ^ 62 ∧ -(2 ^ 62) ≤ n ∧ n < 2 ^ 62) ∧ (n - m).toNat ≤ 2 ^ 24
noncomputable instance (m n : Int) : Decidable (okLR m n) := Classical.propDecidable _
theorem okLR_of {m n : Int} (h : -1000000000 ≤ m ∧ m ≤ 1000000000) (h2 : -1000000000 ≤ n ∧ n ≤ 1000000000) (h3 : n - m ≤ 10000) : okLR m n := by
  unfold okLR; omega
noncomputable def lrg2 (a b : D) (s : S) : Option (Res × S) := match a, b with
  | .int m, .int n => if okLR m n then some (.fr (rngD m n), s) else none
  | _, _ => none
noncomputable def eLRg1 (f : FE) : FE := fun ρ s => (f ρ s).bind fun a => lrg2 (.int 0) a.1.d a.2
noncomputable def eLRg2 (f g : FE) : FE := fun ρ s => (f ρ s).bind fun a => (g ρ a.2).bind fun b => lrg2 a.1.d b.1.d b.2
@[simp] theorem lrg2_ii {m n : Int} {s : S} : lrg2 (.int m) (.int n) s = if okLR m n then some (.fr (rngD m n), s) else none := rfl
@[simp] theorem eLRg1_ap {f : FE} {ρ : Env} {s : S} : eLRg1 f ρ s = (f ρ s).bind fun a => lrg2 (.int 0) a.1.d a.2 := rfl
@[simp] theorem eLRg2_ap {f g : FE} {ρ : Env} {s : S} : eLRg2 f g ρ s = (f ρ s).bind fun a => (g ρ a.2).bind fun b => lrg2 a.1.d b.1.d b.2 := rfl
section
variable {Γ : G} {sc : Scope} {top : Bool} {X : Cx} {sa : Addr × Addr} {a b e : Expr} {f g : FE} {pos : Pos} {x : Str}
theorem lrg2_of {d e : D} {s : S} {r : Res × S} (h : lrg2 d e s = some r) : ∃ m n, d = .int m ∧ e = .int n ∧ okLR m n ∧ r = (.fr (rngD m n), s) := by
  unfold lrg2 at h
  split at h
  · split at h
    · cases h; exact ⟨_, _, rfl, rfl, by assumption, rfl⟩
    · cases h
  · cases h
theorem k_lrg1 (C : Ctx Γ sc top X) {p p2 pos2 : Pos} (h1 : glC sc "list" = true) (h2 : ("list" : Str) ∈ Γ.bn) (h3 : glC sc "range" = true) (h4 : ("range" : Str) ∈ Γ.bn) (he : starEach [a] X.env = (false, eval a X.env) :: starEach [] X.env) (ha : SndE X sa a f) :
    SndE X sa (.Call (.Name "list" p) [.Call (.Name "range" p2) [a] [] pos2] [] pos) (eLRg1 f) := by
  intro ρ s r s' e Oc B O H σ ok Q q
  obtain ⟨⟨ra, s1⟩, ea, e⟩ := bind_some_of e
  obtain ⟨m, n, hm, hn, hz, e⟩ := lrg2_of e
  cases e; cases hm
  have hz : (-(2 ^ 62) ≤ (0 : Int) ∧ (0 : Int) < 2 ^ 62 ∧ -(2 ^ 62) ≤ n ∧ n < 2 ^ 62) ∧ (n - 0).toNat ≤ 2 ^ 24 := hz
  refine ⟨_, pe_listRg C.calm (C.gl h1).1 (C.mn h2) (prg_1 (C.gl h3).1 (C.mn h4) peW he), ?_⟩
  refine ha ρ s ra _ ea Oc B O H σ ok _ fun v H1 x1 st1 v1 => ?_
  have vv := v1.vw ok.osa ok.sao ok.has
  rw [show ra.d = .int n from hn] at vv
  cases vv
  refine ⟨n, rfl, ⟨hz.1.1, hz.1.2.1, hz.1.2.2.1, hz.1.2.2.2, hz.2⟩, fun p np => ?_⟩
  have ok1 := ok.ext x1 st1
  have hp : H p = none := x1.back (ok1.sa_ne np) np
  exact q _ _ (x1.trans (Ext.new np)) (new_st st1 np) ⟨p, _, rfl, hp, upd_same, rg_rel 0 n⟩
theorem k_lrg2 (C : Ctx Γ sc top X) {p p2 pos2 : Pos} (h1 : glC sc "list" = true) (h2 : ("list" : Str) ∈ Γ.bn) (h3 : glC sc "range" = true) (h4 : ("range" : Str) ∈ Γ.bn) (he : starEach [a, b] X.env = (false, eval a X.env) :: starEach [b] X.env) (he2 : starEach [b] X.env = (false, eval b X.env) :: starEach [] X.env) (ha : SndE X sa a f) (hb : SndE X sa b g) :
    SndE X sa (.Call (.Name "list" p) [.Call (.Name "range" p2) [a, b] [] pos2] [] pos) (eLRg2 f g) := by
  intro ρ s r s' e Oc B O H σ ok Q q
  obtain ⟨⟨ra, s1⟩, ea, e⟩ := bind_some_of e
  obtain ⟨⟨rb, s2⟩, eb, e⟩ := bind_some_of e
  obtain ⟨m, n, hm, hn, hz, e⟩ := lrg2_of e
  cases e
  have hz : (-(2 ^ 62) ≤ m ∧ m < 2 ^ 62 ∧ -(2 ^ 62) ≤ n ∧ n < 2 ^ 62) ∧ (n - m).toNat ≤ 2 ^ 24 := hz
  refine ⟨_, pe_listRg C.calm (C.gl h1).1 (C.mn h2) (prg_2 (C.gl h3).1 (C.mn h4) peW peW he he2 (by rw [he2]; rfl)), ?_⟩
  refine ha ρ s ra s1 ea Oc B O H σ ok _ fun v H1 x1 st1 v1 => ?_
  have ok1 := ok.ext x1 st1
  refine hb ρ s1 rb _ eb Oc B O H1 σ ok1 _ fun w H2 x2 st2 v2 => ?_
  have vv := v1.vw ok.osa ok.sao ok.has
  rw [show ra.d = .int m from hm] at vv
  have ww := v2.vw ok.osa ok.sao ok1.has
  rw [show rb.d = .int n from hn] at ww
  cases vv; cases ww
  refine ⟨m, n, rfl, rfl, ⟨hz.1.1, hz.1.2.1, hz.1.2.2.1, hz.1.2.2.2, hz.2⟩, fun p np => ?_⟩
  have ok2 := ok1.ext x2 st2
  have hp : H p = none := (x1.trans x2).back (ok2.sa_ne np) np
  exact q _ _ ((x1.trans x2).trans (Ext.new np)) (new_st st2 np) ⟨p, _, rfl, hp, upd_same, rg_rel m n⟩
/-! ### NAMES.index(e) -/
def eGIdx (ss : List Str) (f : FE) : FE := fun ρ s => (f ρ s).bind fun a => match a.1.d with
  | .str z => if z ∈ ss then some (.sh (.int (ss.idxOf z : Nat)), a.2) else none
  | _ => none
@[simp] theorem eGIdx_ap {ss : List Str} {ρ : Env} {s : S} : eGIdx ss f ρ s = (f ρ s).bind fun a => match a.1.d with
  | .str z => if z ∈ ss then some (.sh (.int (ss.idxOf z : Nat)), a.2) else none
  | _ => none := rfl
theorem idx_first {z : Str} : ∀ (ss : List Str) (m : Nat) (h : m < ss.length), m < ss.idxOf z → ss[m] ≠ z
  | [], m, h, _ => absurd h (Nat.not_lt_zero _)
  | x :: ss, m, h, hm => by
    rw [List.idxOf_cons] at hm
    by_cases hx : x == z
    · rw [hx] at hm; simp at hm
    · have hx' : (x == z) = false := by simpa using hx
      rw [hx'] at hm
      cases m with
      | zero => intro e; exact hx (by simpa using e)
      | succ m =>
        have hm : m + 1 < ss.idxOf z + 1 := by simpa using hm
        exact idx_first ss m (by simpa using h) (by omega)
theorem k_gidx (C : Ctx Γ sc top X) (ss : List Str) {px pa pc : Pos} (h2 : glC sc x = true) (hm : GT Γ.K Γ.mg x (ss.map V.str)) (hb : attributeBase (.Name x px) "index" X.env (eval (.Name x px) X.env) = eval (.Name x px) X.env) (hline : (pa.endLine == pc.line) = true)
    (hst : starEach [a] X.env = (false, eval a X.env) :: starEach [] X.env) (ha : SndE X sa a f) : SndE X sa (.Call (.Attribute (.Name x px) "index" pa) [a] [] pc) (eGIdx ss f) := by
  intro ρ s r s' e Oc B O H σ ok Q q
  obtain ⟨⟨ra, s1⟩, ea, e⟩ := bind_some_of e
  split at e
  · rename_i z hz
    split at e
    · rename_i hin
      cases e
      obtain ⟨g, d1, _⟩ := C.gl h2
      obtain ⟨t, h1, h3, o, h4, h5, h6⟩ := hm.ex
      refine ⟨_, pe_bm PySem.F.plainAttrs_tuple PySem.F.slot_tuple_index PySem.F.type_tuple_index mt_tup_index (pe_glob (v := .ref t) g (by rw [C.mgl]; exact h1) rfl d1) (pa_cons peW pa_nil hst) hb (by rw [hst]; rfl) hline hst rfl, ?_⟩
      refine ⟨.inr (.inl ⟨rfl, o, by rw [C.frag]; exact h4, h5, h6⟩), ?_⟩
      refine ha ρ s ra _ ea Oc B O H σ ok _ fun v H1 x1 st1 v1 => ?_
      have vv := v1.vw ok.osa ok.sao ok.has
      rw [show ra.d = .str z from hz] at vv
      cases vv
      have hlt := List.idxOf_lt_length_iff.mpr hin
      refine ⟨t, ss, z, ss.idxOf z, rfl, rfl, by rw [C.frag]; exact h3 H1, ?_, fun m hm e => ?_, q _ H1 x1 st1 rfl⟩
      · rw [List.getElem?_eq_getElem hlt, List.getElem_idxOf hlt]
      · have hml : m < ss.length := Nat.lt_trans hm hlt
        rw [List.getElem?_eq_getElem hml] at e
        exact idx_first ss m hml hm (Option.some.inj e)
    · cases e
  · cases e
end

/-! ### two names = two values, a name captured -/
theorem swapped_c {env : PySem.Env} {x y : Str} {px py pt pt2 : Pos} {kt k2 : Nat} {a b : Expr} (h : env.kindOf x = some .cell ∨ env.kindOf y = some .cell) : swappedStores [.Tuple [.Name x px, .Name y py] kt pt] (.Tuple [a, b] k2 pt2) env = pure none := by
  have ec : (some NameKind.cell == some NameKind.local) = false := rfl
  have hl : ([Expr.Name x px, Expr.Name y py].filterMap fun
    | .Name id pos => if env.kindOf id == some .local && pos.line == (([Expr.Name x px, Expr.Name y py].head?.map (·.pos.line)).getD 0) then some id else none
    | _ => none).length ≠ 2 := by
    rcases h with h | h
    · simp only [List.filterMap_cons, h, ec, Bool.false_and, Bool.false_eq_true, if_false, List.filterMap_nil]
      split
      · exact fun z => by simp at z
      · exact fun z => by simp at z
    · simp only [List.filterMap_cons, h, ec, Bool.false_and, Bool.false_eq_true, if_false, List.filterMap_nil]
      split
      · exact fun z => by simp at z
      · exact fun z => by simp at z
  unfold swappedStores
  simp only []
  split
  · rfl
  · split
    · rfl
    · split
      · rfl
      · rename_i hh
        exfalso
        simp only [Bool.or_eq_true, bne_iff_ne, ne_eq, not_or, Decidable.not_not] at hh
        exact hl hh.1
theorem k_toC2 {Γ : G} {sc : Scope} {top : Bool} {X : Cx} {sa : Addr × Addr} {a b : Expr} {f : FE} {g : FG} {pos : Pos} {x y : Str} {px py pt pt2 : Pos} {kt k2 : Nat} {sl : List Nat} (C : Ctx Γ sc top X) (h : (isCell sc x || isCell sc y) = true) (hg : SndG X sa sl (.Tuple [.Name x px, .Name y py] kt pt) g) (hf : SndE X sa (.Tuple [a, b] k2 pt2) f) :
    SndS X sa (.Assign [.Tuple [.Name x px, .Name y py] kt pt] (.Tuple [a, b] k2 pt2) pos) (sTo g f) := by
  rw [Bool.or_eq_true] at h
  exact s_to rfl (swapped_c (h.elim (fun h => .inl (C.isc h)) fun h => .inr (C.isc h))) rfl hg hf
end PL

set_option Elab.async false
set_option linter.all false
set_option maxRecDepth 100000
set_option maxHeartbeats 4000000
namespace K06
open PySem PySem.Spec PyProof.Rows L2 PL
def topS (i : Nat) : Stmt := PySem.Challenge.pw_oncehome_k06_four_hundred_years_of_dates.main.body.getD i (.Pass ⟨0, 0, 0, 0⟩)
abbrev s__law_start : Stmt := topS 25
theorem sc__law_start : FnScope ["script", "seed", "cell"] ["script"] (defScope s__law_start) := ⟨rfl, rfl, rfl, by decide +kernel, rfl, by decide +kernel, by decide +kernel⟩
abbrev s__law_draw : Stmt := topS 26
theorem sc__law_draw : FnScope ["state", "many", "found"] ["state", "many"] (defScope s__law_draw) := ⟨rfl, rfl, rfl, by decide +kernel, rfl, by decide +kernel, by decide +kernel⟩
abbrev s__law_pick : Stmt := topS 27
theorem sc__law_pick : FnScope ["state", "some"] ["state", "some"] (defScope s__law_pick) := ⟨rfl, rfl, rfl, by decide +kernel, rfl, by decide +kernel, by decide +kernel⟩
abbrev s__law_long : Stmt := topS 29
theorem sc__law_long : FnScope ["year", "month", "leap"] ["year", "month"] (defScope s__law_long) := ⟨rfl, rfl, rfl, by decide +kernel, rfl, by decide +kernel, by decide +kernel⟩
abbrev s__law_date : Stmt := topS 30
theorem sc__law_date : FnScope ["state", "year", "month", "day"] ["state"] (defScope s__law_date) := ⟨rfl, rfl, rfl, by decide +kernel, rfl, by decide +kernel, by decide +kernel⟩
abbrev s_years_ahead : Stmt := topS 12
theorem sc_years_ahead : FnScope ["year", "past"] ["year"] (defScope s_years_ahead) := ⟨rfl, rfl, rfl, by decide +kernel, rfl, by decide +kernel, by decide +kernel⟩
abbrev s_is_leap : Stmt := topS 9
theorem sc_is_leap : FnScope ["year"] ["year"] (defScope s_is_leap) := ⟨rfl, rfl, rfl, by decide +kernel, rfl, by decide +kernel, by decide +kernel⟩
abbrev s_length_of : Stmt := topS 10
theorem sc_length_of : FnScope ["year", "month"] ["year", "month"] (defScope s_length_of) := ⟨rfl, rfl, rfl, by decide +kernel, rfl, by decide +kernel, by decide +kernel⟩
abbrev s_count : Stmt := topS 15
theorem sc_count : FnScope ["year", "month", "day", "own"] ["year", "month", "day"] (defScope s_count) := ⟨rfl, rfl, rfl, by decide +kernel, rfl, by decide +kernel, by decide +kernel⟩
abbrev s_is_integer : Stmt := topS 4
theorem sc_is_integer : FnScope ["value"] ["value"] (defScope s_is_integer) := ⟨rfl, rfl, rfl, by decide +kernel, rfl, by decide +kernel, by decide +kernel⟩
abbrev s_is_date : Stmt := topS 11
theorem sc_is_date : FnScope ["year", "month", "day"] ["year", "month", "day"] (defScope s_is_date) := ⟨rfl, rfl, rfl, by decide +kernel, rfl, by decide +kernel, by decide +kernel⟩
abbrev s_days_of : Stmt := topS 16
theorem sc_days_of : FnScope ["year", "month", "day"] ["year", "month", "day"] (defScope s_days_of) := ⟨rfl, rfl, rfl, by decide +kernel, rfl, by decide +kernel, by decide +kernel⟩
abbrev s_check_days : Stmt := topS 17
theorem sc_check_days : FnScope ["days"] ["days"] (defScope s_check_days) := ⟨rfl, rfl, rfl, by decide +kernel, rfl, by decide +kernel, by decide +kernel⟩
abbrev s_date_in : Stmt := topS 18
theorem sc_date_in : FnScope ["days", "number", "low", "high", "middle", "left", "month"] ["days"] (defScope s_date_in) := ⟨rfl, rfl, rfl, by decide +kernel, rfl, by decide +kernel, by decide +kernel⟩
abbrev s_date_of : Stmt := topS 19
theorem sc_date_of : FnScope ["days"] ["days"] (defScope s_date_of) := ⟨rfl, rfl, rfl, by decide +kernel, rfl, by decide +kernel, by decide +kernel⟩
abbrev s_add_months : Stmt := topS 22
theorem sc_add_months : FnScope ["days", "months", "year", "month", "day", "place"] ["days", "months"] (defScope s_add_months) := ⟨rfl, rfl, rfl, by decide +kernel, rfl, by decide +kernel, by decide +kernel⟩
abbrev s_weekday : Stmt := topS 20
theorem sc_weekday : FnScope ["days"] ["days"] (defScope s_weekday) := ⟨rfl, rfl, rfl, by decide +kernel, rfl, by decide +kernel, by decide +kernel⟩
abbrev s__law_cycles_hold : Stmt := topS 32
theorem sc__law_cycles_hold : FnScope ["date", "days", "first", "last", "year", "month"] ["date"] (defScope s__law_cycles_hold) := ⟨rfl, rfl, rfl, by decide +kernel, rfl, by decide +kernel, by decide +kernel⟩
abbrev s_months_between : Stmt := topS 23
theorem sc_months_between : FnScope ["first", "second", "year", "month", "day", "further", "other", "last", "found"] ["first", "second"] (defScope s_months_between) := ⟨rfl, rfl, rfl, by decide +kernel, rfl, by decide +kernel, by decide +kernel⟩
abbrev s__law_on : Stmt := topS 31
theorem sc__law_on : FnScope ["date", "months", "number", "year", "month"] ["date", "months"] (defScope s__law_on) := ⟨rfl, rfl, rfl, by decide +kernel, rfl, by decide +kernel, by decide +kernel⟩
abbrev s__law_months_hold : Stmt := topS 33
theorem sc__law_months_hold : FnScope ["state", "date", "other", "days", "there", "many", "more", "own", "due", "between", "is_behind"] ["state", "date", "other"] (defScope s__law_months_hold) := ⟨rfl, rfl, rfl, by decide +kernel, rfl, by decide +kernel, by decide +kernel⟩
abbrev s_next_weekday : Stmt := topS 21
theorem sc_next_weekday : FnScope ["days", "name", "found"] ["days", "name"] (defScope s_next_weekday) := ⟨rfl, rfl, rfl, by decide +kernel, rfl, by decide +kernel, by decide +kernel⟩
abbrev s__law_weeks_hold : Stmt := topS 34
theorem sc__law_weeks_hold : FnScope ["state", "date", "days", "names", "k", "weeks", "found", "rows", "own"] ["state", "date"] (defScope s__law_weeks_hold) := ⟨rfl, rfl, rfl, by decide +kernel, rfl, by decide +kernel, by decide +kernel⟩
abbrev s_law : Stmt := topS 35
theorem sc_law : FnScope ["script", "state", "turn", "date", "other"] ["script"] (defScope s_law) := ⟨rfl, rfl, rfl, by decide +kernel, rfl, by decide +kernel, by decide +kernel⟩
abbrev bnL : List Str := ["abs", "bool", "int", "isinstance", "len", "list", "min", "range", "sorted", "str", "sum"]
theorem p__law_draw {P : Program} {w : World} {K : PySem.W.Frag} {mg : Str → Option Value} {base : Heap} {f : Addr} (hB : ∀ x ∈ bnL, mg x = none) (cdv : Value) (A : Around) (outer : List PySem.Env) (s : Shared) (H : Hp) (E : XK) :
    PSs (cxOf CX0 P w K mg base ["state", "many", "found"] "_law_draw" (defScope s__law_draw) f cdv A outer s H E).nox (defBody s__law_draw) (tDraw K) := by
  have nd := sc__law_draw.nd
  have hl : mg "len" = none := hB _ (by decide +kernel)
  have hi : mg "int" = none := hB _ (by decide +kernel)
  exact pss_cons (ps_if (PW.pt (pw_and (pt_cmpR op_eq (pe_ix ix_list (pe_var (i := 0) rfl (.inl rfl) rfl rfl) pe_int (fun _ _ => rfl)) pe_int rfl) (pw_and1 (pt_cmpR op_lt (pe_ix ix_list (pe_var (i := 0) rfl (.inl rfl) rfl rfl) pe_int (fun _ _ => rfl)) (pe_callB call_len_seq (by rfl) hl rfl (pa_cons (pe_ix ix_list (pe_var (i := 0) rfl (.inl rfl) rfl rfl) pe_int (fun _ _ => rfl)) pa_nil)) rfl))))
    (pss_one (ps_asg (pe_tup (pa_cons (pe_ix ix_list (pe_ix ix_list (pe_var (i := 0) rfl (.inl rfl) rfl rfl) pe_int (fun _ _ => rfl)) (pe_ix ix_list (pe_var (i := 0) rfl (.inl rfl) rfl rfl) pe_int (fun _ _ => rfl)) (fun _ _ => rfl)) (pa_cons pe_int (pa_cons (pe_op op_add (pe_ix ix_list (pe_var (i := 0) rfl (.inl rfl) rfl rfl) pe_int (fun _ _ => rfl)) pe_int) pa_nil)))) (pg_tup rfl (pgs_cons (pg_sub (pe_var (i := 0) rfl (.inl rfl) rfl rfl) pe_int set_list) (pgs_cons (pg_sub (pe_var (i := 0) rfl (.inl rfl) rfl rfl) pe_int set_list) (pgs_cons (pg_sub (pe_var (i := 0) rfl (.inl rfl) rfl rfl) pe_int set_list) pgs_nil)))))) pss_nil) (pss_cons (ps_if (pt_cmpR op_gt (pe_ix ix_list (pe_var (i := 0) rfl (.inl rfl) rfl rfl) pe_int (fun _ _ => rfl)) pe_int rfl) (pss_cons (ps_set (i := 2) nd rfl (.inl rfl) (pe_op op_mod (pe_callTy call_int1 (by rfl) hi rfl (pa_cons (pe_ix ix_list (pe_var (i := 0) rfl (.inl rfl) rfl rfl) pe_int (fun _ _ => rfl)) pa_nil)) (pe_var (i := 1) rfl (.inl rfl) rfl rfl))) (pss_cons (ps_asg (pe_op op_fdiv (pe_ix ix_list (pe_var (i := 0) rfl (.inl rfl) rfl rfl) pe_int (fun _ _ => rfl)) (pe_var (i := 1) rfl (.inl rfl) rfl rfl)) (pg_sub (pe_var (i := 0) rfl (.inl rfl) rfl rfl) pe_int set_list))
    (pss_cons (ps_asg (pe_ifExp (pt_cmpR op_gt (pe_ix ix_list (pe_var (i := 0) rfl (.inl rfl) rfl rfl) pe_int (fun _ _ => rfl)) pe_int rfl) (pe_op op_sub (pe_ix ix_list (pe_var (i := 0) rfl (.inl rfl) rfl rfl) pe_int (fun _ _ => rfl)) pe_int) pe_int) (pg_sub (pe_var (i := 0) rfl (.inl rfl) rfl rfl) pe_int set_list)) (pss_one (ps_ret (pe_var (i := 2) rfl (.inl rfl) rfl rfl)))))) pss_nil) (pss_cons (ps_asg (pe_op op_add (pe_ix ix_list (pe_var (i := 0) rfl (.inl rfl) rfl rfl) pe_int (fun _ _ => rfl)) pe_int) (pg_sub (pe_var (i := 0) rfl (.inl rfl) rfl rfl) pe_int set_list)) (pss_cons (ps_asg (pe_op op_mod (pe_callTy call_int1 (by rfl) hi rfl (pa_cons (pe_op op_add (pe_op op_add (pe_op op_mul (pe_ix ix_list (pe_var (i := 0) rfl (.inl rfl) rfl rfl) pe_int (fun _ _ => rfl)) pe_int) (pe_op op_mul (pe_op op_mul (pe_ix ix_list (pe_var (i := 0) rfl (.inl rfl) rfl rfl) pe_int (fun _ _ => rfl)) (pe_ix ix_list (pe_var (i := 0) rfl (.inl rfl) rfl rfl) pe_int (fun _ _ => rfl))) pe_int)) pe_int) pa_nil)) pe_int) (pg_sub (pe_var (i := 0) rfl (.inl rfl) rfl rfl) pe_int set_list)) (pss_one (ps_ret (pe_op op_mod (pe_callTy call_int1 (by rfl) hi rfl (pa_cons (pe_op op_fdiv (pe_ix ix_list (pe_var (i := 0) rfl (.inl rfl) rfl rfl) pe_int (fun _ _ => rfl)) pe_int) pa_nil)) (pe_var (i := 1) rfl (.inl rfl) rfl rfl)))))))
theorem p__law_start {P : Program} {w : World} {K : PySem.W.Frag} {mg : Str → Option Value} {base : Heap} {f : Addr} (hB : ∀ x ∈ bnL, mg x = none) (cdv : Value) (A : Around) (outer : List PySem.Env) (s : Shared) (H : Hp) (E : XK) :
    PSs (cxOf CX0 P w K mg base ["script", "seed", "cell"] "_law_start" (defScope s__law_start) f cdv A outer s H E).nox (defBody s__law_start) (tStart K) := by
  have nd := sc__law_start.nd
  have ha : mg "abs" = none := hB _ (by decide +kernel)
  have hi : mg "int" = none := hB _ (by decide +kernel)
  exact pss_cons (ps_set (i := 1) nd rfl (.inl rfl) pe_int) (pss_cons (ps_for PassesOwn.never rfl (pi_list (pe_slice sl_list (pe_var (i := 0) rfl (.inl rfl) rfl rfl) po_none (po_some pe_int))) (pg_name (i := 2) nd rfl (.inl rfl)) (pss_one (ps_set (i := 1) nd rfl (.inl rfl) (pe_op op_add (pe_op op_mod (pe_callTy call_int1 (by rfl) hi rfl (pa_cons (pe_op op_add (pe_op op_mul (pe_var (i := 1) rfl (.inl rfl) rfl rfl) pe_int) (pe_var (i := 2) rfl (.inl rfl) rfl rfl)) pa_nil)) pe_int) pe_int)))) (pss_one (ps_ret (pe_lst (pa_cons (pe_lc (own := [("cell", 2)]) rfl nd (pi_list (pe_slice sl_list (pe_var (i := 0) rfl (.inl rfl) rfl rfl) po_none (po_some pe_int))) (blkOk_by (N := ["script", "seed", "cell"]) (sc := defScope s__law_start) (by decide +kernel)) (fun _ _ _ _ _ => (pg_name (i := 2) nd rfl (.inl rfl))) (fun _ _ _ _ _ => pts_nil) (fun _ _ _ _ _ => pe_callB call_abs (by rfl) ha rfl (pa_cons (pe_callTy call_int1 (by rfl) hi rfl (pa_cons (pe_var (i := 2) rfl (.inl rfl) rfl rfl) pa_nil)) pa_nil))) (pa_cons pe_int (pa_cons pe_int (pa_cons pe_int (pa_cons (pe_var (i := 1) rfl (.inl rfl) rfl rfl) (pa_cons pe_int pa_nil))))))))))

noncomputable def b__law_pick : FS := (bCons (sRet (eOp2 ixD (eVar 1) (eFn drawD (aCons (eVar 0) (aCons (eCall lenD (aCons (eVar 1) aNil)) aNil))))) bNil)
noncomputable def f__law_pick : List D → S → Option (D × S) := fnSem 2 2 b__law_pick
noncomputable def b__law_long : FS := (bCons (sSet 2 (eAnd (eCmp eqD (eOp2 modD (eCall intD (aCons (eVar 0) aNil)) (eC (.int 4))) (eC (.int 0))) (eOr (eCmp neD (eOp2 modD (eCall intD (aCons (eVar 0) aNil)) (eC (.int 100))) (eC (.int 0))) (eCmp eqD (eOp2 modD (eCall intD (aCons (eVar 0) aNil)) (eC (.int 400))) (eC (.int 0)))))) (bCons (sRet (eOp2 ixD (eLst (aCons (eC (.int 31)) (aCons (eIte (tOf (eVar 2)) (eC (.int 29)) (eC (.int 28))) (aCons (eC (.int 31)) (aCons (eC (.int 30)) (aCons (eC (.int 31)) (aCons (eC (.int 30)) (aCons (eC (.int 31)) (aCons (eC (.int 31)) (aCons (eC (.int 30)) (aCons (eC (.int 31)) (aCons (eC (.int 30)) (aCons (eC (.int 31)) aNil))))))))))))) (eOp2 subD (eVar 1) (eC (.int 1))))) bNil))
noncomputable def f__law_long : List D → S → Option (D × S) := fnSem 2 3 b__law_long
noncomputable def b__law_date : FS := (bCons (sPar 1 2 (eFn f__law_pick (aCons (eVar 0) (aCons (eLst (aCons (eOp2 addD (eC (.int 1)) (eFn drawD (aCons (eVar 0) (aCons (eC (.int 9500)) aNil)))) (aCons (eC (.int 2000)) (aCons (eC (.int 1900)) (aCons (eC (.int 2024)) (aCons (eC (.int 1970)) (aCons (eC (.int 1)) (aCons (eC (.int 400)) (aCons (eC (.int 9599)) aNil))))))))) aNil))) (eOp2 addD (eC (.int 1)) (eFn drawD (aCons (eVar 0) (aCons (eC (.int 12)) aNil))))) (bCons (sSet 3 (eFn f__law_pick (aCons (eVar 0) (aCons (eLst (aCons (eC (.int 1)) (aCons (eFn f__law_long (aCons (eVar 1) (aCons (eVar 2) aNil))) (aCons (eC (.int 28)) (aCons (eOp2 addD (eC (.int 1)) (eFn drawD (aCons (eVar 0) (aCons (eFn f__law_long (aCons (eVar 1) (aCons (eVar 2) aNil))) aNil)))) aNil))))) aNil)))) (bCons (sRet (eTup (aCons (eVar 1) (aCons (eVar 2) (aCons (eVar 3) aNil))))) bNil)))
noncomputable def f__law_date : List D → S → Option (D × S) := fnSem 1 4 b__law_date
noncomputable def b_years_ahead : FS := (bCons (sSet 1 (eOp2 subD (eVar 0) (eC (.int 1)))) (bCons (sRet (eOp2 addD (eOp2 subD (eOp2 addD (eOp2 mulD (eC (.int 365)) (eVar 1)) (eOp2 divD (eVar 1) (eC (.int 4)))) (eOp2 divD (eVar 1) (eC (.int 100)))) (eOp2 divD (eVar 1) (eC (.int 400))))) bNil))
noncomputable def f_years_ahead : List D → S → Option (D × S) := fnSem 1 2 b_years_ahead
noncomputable def b_is_leap : FS := (bCons (sRet (eAnd (eCmp eqD (eOp2 modD (eVar 0) (eC (.int 4))) (eC (.int 0))) (eOr (eCmp neD (eOp2 modD (eVar 0) (eC (.int 100))) (eC (.int 0))) (eCmp eqD (eOp2 modD (eVar 0) (eC (.int 400))) (eC (.int 0)))))) bNil)
noncomputable def f_is_leap : List D → S → Option (D × S) := fnSem 1 1 b_is_leap
noncomputable def b_length_of : FS := (bCons (sRet (eOp2 addD (eOp2 ixD (eC (.tup (dI [31, 28, 31, 30, 31, 30, 31, 31, 30, 31, 30, 31]))) (eOp2 subD (eVar 1) (eC (.int 1)))) (eIte (tAn (tCmp2 eqD (eVar 1) (eC (.int 2))) (tOf (eFn f_is_leap (aCons (eVar 0) aNil)))) (eC (.int 1)) (eC (.int 0))))) bNil)
noncomputable def f_length_of : List D → S → Option (D × S) := fnSem 2 2 b_length_of
noncomputable def b_count : FS := (bCons (sRet (eOp2 subD (eOp2 subD (eOp2 addD (eOp2 addD (eFn f_years_ahead (aCons (eVar 0) aNil)) (eCall sumD (aCons (eLc [3] (gN 3) (iRg2 (eC (.int 1)) (eVar 1)) cNil (eFn f_length_of (aCons (eVar 0) (aCons (eVar 3) aNil)))) aNil))) (eVar 2)) (eC (.int 1))) (eC (.int 719162)))) bNil)
noncomputable def f_count : List D → S → Option (D × S) := fnSem 3 4 b_count
noncomputable def b_is_integer : FS := (bCons (sRet (eAnd (eIsi "int" (eVar 0)) (eNot (eIsi "bool" (eVar 0))))) bNil)
noncomputable def f_is_integer : List D → S → Option (D × S) := fnSem 1 1 b_is_integer
noncomputable def b_is_date : FS := (bCons (sIf (tOo (tNo (tOf (eFn f_is_integer (aCons (eVar 0) aNil)))) (tOo (tNo (tChn leD leD (eC (.int 1)) (eVar 0) (eC (.int 9999)))) (tOo (tNo (tOf (eFn f_is_integer (aCons (eVar 1) aNil)))) (tNo (tChn leD leD (eC (.int 1)) (eVar 1) (eC (.int 12))))))) (bCons (sRet (eC (.bl false))) bNil) bNil) (bCons (sRet (eAnd (eFn f_is_integer (aCons (eVar 2) aNil)) (eOfT (tChn leD leD (eC (.int 1)) (eVar 2) (eFn f_length_of (aCons (eVar 0) (aCons (eVar 1) aNil))))))) bNil))
noncomputable def f_is_date : List D → S → Option (D × S) := fnSem 3 3 b_is_date
noncomputable def b_days_of : FS := (bCons (sIf (tNo (tOf (eFn f_is_date (aCons (eVar 0) (aCons (eVar 1) (aCons (eVar 2) aNil)))))) (bCons sBad bNil) bNil) (bCons (sRet (eFn f_count (aCons (eVar 0) (aCons (eVar 1) (aCons (eVar 2) aNil))))) bNil))
noncomputable def f_days_of : List D → S → Option (D × S) := fnSem 3 3 b_days_of
noncomputable def b_check_days : FS := (bCons (sIf (tOo (tNo (tOf (eFn f_is_integer (aCons (eVar 0) aNil)))) (tNo (tChn leD ltD (eOp1 negD (eC (.int 719162))) (eVar 0) (eOp2 subD (eC (.int 3652059)) (eC (.int 719162)))))) (bCons sBad bNil) bNil) bNil)
noncomputable def f_check_days : List D → S → Option (D × S) := fnSem 1 1 b_check_days
noncomputable def b_date_in : FS := (bCons (sSet 1 (eOp2 addD (eVar 0) (eC (.int 719162)))) (bCons (sPar 2 3 (eC (.int 1)) (eC (.int 9999))) (bCons (whL (tCmp2 ltD (eVar 2) (eVar 3)) (bCons (sSet 4 (eOp2 divD (eOp2 addD (eOp2 addD (eVar 2) (eVar 3)) (eC (.int 1))) (eC (.int 2)))) (bCons (sIf (tCmp2 leD (eFn f_years_ahead (aCons (eVar 4) aNil)) (eVar 1)) (bCons (sSet 2 (eVar 4)) bNil) (bCons (sSet 3 (eOp2 subD (eVar 4) (eC (.int 1)))) bNil)) bNil)) 40) (bCons (sSet 5 (eOp2 subD (eVar 1) (eFn f_years_ahead (aCons (eVar 2) aNil)))) (bCons (sSet 6 (eC (.int 1))) (bCons (whL (tCmp2 geD (eVar 5) (eFn f_length_of (aCons (eVar 2) (aCons (eVar 6) aNil)))) (bCons (sAug subD 5 (eFn f_length_of (aCons (eVar 2) (aCons (eVar 6) aNil)))) (bCons (sAug addI 6 (eC (.int 1))) bNil)) 40) (bCons (sRet (eTup (aCons (eVar 2) (aCons (eVar 6) (aCons (eOp2 addD (eVar 5) (eC (.int 1))) aNil))))) bNil)))))))
noncomputable def f_date_in : List D → S → Option (D × S) := fnSem 1 7 b_date_in
noncomputable def b_date_of : FS := (bCons (sDrop (eFn f_check_days (aCons (eVar 0) aNil))) (bCons (sRet (eFn f_date_in (aCons (eVar 0) aNil))) bNil))
noncomputable def f_date_of : List D → S → Option (D × S) := fnSem 1 1 b_date_of
noncomputable def b_add_months : FS := (bCons (sDrop (eFn f_check_days (aCons (eVar 0) aNil))) (bCons (sIf (tOo (tNo (tOf (eFn f_is_integer (aCons (eVar 1) aNil)))) (tCmp2 gtD (eCall absD (aCons (eVar 1) aNil)) (eOp2 mulD (eC (.int 12)) (eC (.int 9999))))) (bCons sBad bNil) bNil) (bCons (sTo (gT (gsC (gN 2) (gsC (gN 3) (gsC (gN 4) gs0)))) (eFn f_date_in (aCons (eVar 0) aNil))) (bCons (sSet 5 (eOp2 addD (eOp2 subD (eOp2 addD (eOp2 mulD (eC (.int 12)) (eVar 2)) (eVar 3)) (eC (.int 1))) (eVar 1))) (bCons (sIf (tNo (tChn leD ltD (eC (.int 12)) (eVar 5) (eOp2 mulD (eC (.int 12)) (eOp2 addD (eC (.int 9999)) (eC (.int 1)))))) (bCons sBad bNil) bNil) (bCons (sPar 2 3 (eOp2 divD (eVar 5) (eC (.int 12))) (eOp2 addD (eOp2 modD (eVar 5) (eC (.int 12))) (eC (.int 1)))) (bCons (sRet (eFn f_count (aCons (eVar 2) (aCons (eVar 3) (aCons (eCall minD (aCons (eVar 4) (aCons (eFn f_length_of (aCons (eVar 2) (aCons (eVar 3) aNil))) aNil))) aNil))))) bNil)))))))
noncomputable def f_add_months : List D → S → Option (D × S) := fnSem 2 6 b_add_months
noncomputable def b_weekday : FS := (bCons (sDrop (eFn f_check_days (aCons (eVar 0) aNil))) (bCons (sRet (eOp2 modD (eOp2 addD (eVar 0) (eC (.int 3))) (eC (.int 7)))) bNil))
noncomputable def f_weekday : List D → S → Option (D × S) := fnSem 1 1 b_weekday
noncomputable def b__law_cycles_hold : FS := (bCons (sSet 1 (eFn f_days_of (aCons (eOp2 ixD (eVar 0) (eC (.int 0))) (aCons (eOp2 ixD (eVar 0) (eC (.int 1))) (aCons (eOp2 ixD (eVar 0) (eC (.int 2))) aNil))))) (bCons (sIf (tOo (tCmp2 neD (eFn f_date_of (aCons (eVar 1) aNil)) (eVar 0)) (tOo (tOf (eFn f_is_date (aCons (eOp2 ixD (eVar 0) (eC (.int 0))) (aCons (eOp2 ixD (eVar 0) (eC (.int 1))) (aCons (eOp2 addD (eFn f__law_long (aCons (eOp2 ixD (eVar 0) (eC (.int 0))) (aCons (eOp2 ixD (eVar 0) (eC (.int 1))) aNil))) (eC (.int 1))) aNil))))) (tOo (tOf (eFn f_is_date (aCons (eOp2 ixD (eVar 0) (eC (.int 0))) (aCons (eC (.int 13)) (aCons (eC (.int 1)) aNil))))) (tOo (tOf (eFn f_is_date (aCons (eC (.int 0)) (aCons (eC (.int 1)) (aCons (eC (.int 1)) aNil))))) (tNo (tOf (eFn f_is_date (aCons (eOp2 ixD (eVar 0) (eC (.int 0))) (aCons (eOp2 ixD (eVar 0) (eC (.int 1))) (aCons (eC (.int 1)) aNil)))))))))) (bCons (sRet (eC (.bl false))) bNil) bNil) (bCons (sIf (tAn (tCmp2 leD (eOp2 ixD (eVar 0) (eC (.int 0))) (eC (.int 9599))) (tOo (tCmp2 neD (eFn f_date_of (aCons (eOp2 addD (eVar 1) (eC (.int 146097))) aNil)) (eTup (aCons (eOp2 addD (eOp2 ixD (eVar 0) (eC (.int 0))) (eC (.int 400))) (aCons (eOp2 ixD (eVar 0) (eC (.int 1))) (aCons (eOp2 ixD (eVar 0) (eC (.int 2))) aNil))))) (tOo (tCmp2 neD (eFn f_weekday (aCons (eOp2 addD (eVar 1) (eC (.int 146097))) aNil)) (eFn f_weekday (aCons (eVar 1) aNil))) (tCmp2 neD (eFn f_add_months (aCons (eVar 1) (aCons (eC (.int 4800)) aNil))) (eOp2 addD (eVar 1) (eC (.int 146097))))))) (bCons (sRet (eC (.bl false))) bNil) bNil) (bCons (sPar 2 3 (eFn f_days_of (aCons (eOp2 ixD (eVar 0) (eC (.int 0))) (aCons (eOp2 ixD (eVar 0) (eC (.int 1))) (aCons (eC (.int 1)) aNil)))) (eFn f_days_of (aCons (eOp2 ixD (eVar 0) (eC (.int 0))) (aCons (eOp2 ixD (eVar 0) (eC (.int 1))) (aCons (eFn f__law_long (aCons (eOp2 ixD (eVar 0) (eC (.int 0))) (aCons (eOp2 ixD (eVar 0) (eC (.int 1))) aNil))) aNil))))) (bCons (sIf (tOo (tCmp2 neD (eOp2 addD (eOp2 subD (eVar 3) (eVar 2)) (eC (.int 1))) (eFn f__law_long (aCons (eOp2 ixD (eVar 0) (eC (.int 0))) (aCons (eOp2 ixD (eVar 0) (eC (.int 1))) aNil)))) (tOo (tCmp2 neD (eFn f_add_months (aCons (eVar 2) (aCons (eC (.int 1)) aNil))) (eOp2 addD (eVar 3) (eC (.int 1)))) (tOo (tCmp2 neD (eVar 1) (eOp2 subD (eOp2 addD (eVar 2) (eOp2 ixD (eVar 0) (eC (.int 2)))) (eC (.int 1)))) (tCmp2 neD (eOp2 ixD (eFn f_date_of (aCons (eOp2 addD (eVar 3) (eC (.int 1))) aNil)) (eC (.int 2))) (eC (.int 1)))))) (bCons (sRet (eC (.bl false))) bNil) bNil) (bCons (sSet 4 (eOp2 subD (eFn f_days_of (aCons (eOp2 addD (eOp2 ixD (eVar 0) (eC (.int 0))) (eC (.int 1))) (aCons (eC (.int 1)) (aCons (eC (.int 1)) aNil)))) (eFn f_days_of (aCons (eOp2 ixD (eVar 0) (eC (.int 0))) (aCons (eC (.int 1)) (aCons (eC (.int 1)) aNil)))))) (bCons (sRet (eAnd (eCmp eqD (eVar 4) (eCall sumD (aCons (eLc [5] (gN 5) (iRg2 (eC (.int 1)) (eC (.int 13))) cNil (eFn f__law_long (aCons (eOp2 ixD (eVar 0) (eC (.int 0))) (aCons (eVar 5) aNil)))) aNil))) (eCmp inD (eVar 4) (eLst (aCons (eC (.int 365)) (aCons (eC (.int 366)) aNil)))))) bNil)))))))
noncomputable def f__law_cycles_hold : List D → S → Option (D × S) := fnSem 1 6 b__law_cycles_hold
noncomputable def b_months_between : FS := (bCons (sDrop (eFn f_check_days (aCons (eVar 0) aNil))) (bCons (sDrop (eFn f_check_days (aCons (eVar 1) aNil))) (bCons (sTo (gT (gsC (gN 2) (gsC (gN 3) (gsC (gN 4) gs0)))) (eFn f_date_in (aCons (eVar 0) aNil))) (bCons (sTo (gT (gsC (gN 5) (gsC (gN 6) (gsC (gN 7) gs0)))) (eFn f_date_in (aCons (eVar 1) aNil))) (bCons (sSet 8 (eOp2 subD (eOp2 addD (eOp2 mulD (eC (.int 12)) (eOp2 subD (eVar 5) (eVar 2))) (eVar 6)) (eVar 3))) (bCons (sRet (eOp2 subD (eVar 8) (eIte (tCmp2 gtD (eCall minD (aCons (eVar 4) (aCons (eFn f_length_of (aCons (eVar 5) (aCons (eVar 6) aNil))) aNil))) (eVar 7)) (eC (.int 1)) (eC (.int 0))))) bNil))))))
noncomputable def f_months_between : List D → S → Option (D × S) := fnSem 2 9 b_months_between
noncomputable def b__law_on : FS := (bCons (sSet 2 (eOp2 addD (eOp2 subD (eOp2 addD (eOp2 mulD (eOp2 ixD (eVar 0) (eC (.int 0))) (eC (.int 12))) (eOp2 ixD (eVar 0) (eC (.int 1)))) (eC (.int 1))) (eVar 1))) (bCons (sPar 3 4 (eOp2 divD (eVar 2) (eC (.int 12))) (eOp2 addD (eOp2 modD (eCall intD (aCons (eVar 2) aNil)) (eC (.int 12))) (eC (.int 1)))) (bCons (sRet (eTup (aCons (eVar 3) (aCons (eVar 4) (aCons (eCall minD (aCons (eLst (aCons (eOp2 ixD (eVar 0) (eC (.int 2))) (aCons (eFn f__law_long (aCons (eVar 3) (aCons (eVar 4) aNil))) aNil))) aNil)) aNil))))) bNil)))
noncomputable def f__law_on : List D → S → Option (D × S) := fnSem 2 5 b__law_on
noncomputable def b__law_months_hold : FS := (bCons (sPar 3 4 (eFn f_days_of (aCons (eOp2 ixD (eVar 1) (eC (.int 0))) (aCons (eOp2 ixD (eVar 1) (eC (.int 1))) (aCons (eOp2 ixD (eVar 1) (eC (.int 2))) aNil)))) (eFn f_days_of (aCons (eOp2 ixD (eVar 2) (eC (.int 0))) (aCons (eOp2 ixD (eVar 2) (eC (.int 1))) (aCons (eOp2 ixD (eVar 2) (eC (.int 2))) aNil))))) (bCons (sPar 5 6 (eOp2 subD (eFn drawD (aCons (eVar 0) (aCons (eC (.int 100)) aNil))) (eC (.int 50))) (eFn drawD (aCons (eVar 0) (aCons (eC (.int 40)) aNil)))) (bCons (sFor (gN 7) (iSeq (eLst (aCons (eVar 5) (aCons (eVar 6) (aCons (eOp2 addD (eVar 6) (eVar 5)) aNil))))) (bCons (sSet 8 (eFn f__law_on (aCons (eVar 1) (aCons (eVar 7) aNil)))) (bCons (sIf (tAn (tChn leD leD (eC (.int 1)) (eOp2 ixD (eVar 8) (eC (.int 0))) (eC (.int 9999))) (tOo (tCmp2 neD (eFn f_date_of (aCons (eFn f_add_months (aCons (eVar 3) (aCons (eVar 7) aNil))) aNil)) (eVar 8)) (tCmp2 ltD (eFn f_months_between (aCons (eVar 3) (aCons (eFn f_add_months (aCons (eVar 3) (aCons (eVar 7) aNil))) aNil))) (eVar 7)))) (bCons (sRet (eC (.bl false))) bNil) bNil) bNil))) (bCons (sIf (tAn (tCmp2 leD (eOp2 ixD (eVar 1) (eC (.int 2))) (eC (.int 28))) (tAn (tCmp2 gtD (eOp2 ixD (eVar 1) (eC (.int 0))) (eC (.int 10))) (tCmp2 ltD (eOp2 ixD (eVar 1) (eC (.int 0))) (eC (.int 9900))))) (bCons (sIf (tOo (tCmp2 neD (eFn f_add_months (aCons (eFn f_add_months (aCons (eVar 3) (aCons (eVar 5) aNil))) (aCons (eVar 6) aNil))) (eFn f_add_months (aCons (eVar 3) (aCons (eOp2 addD (eVar 5) (eVar 6)) aNil)))) (tOo (tCmp2 neD (eFn f_add_months (aCons (eFn f_add_months (aCons (eVar 3) (aCons (eVar 5) aNil))) (aCons (eOp2 subD (eC (.int 0)) (eVar 5)) aNil))) (eVar 3)) (tCmp2 neD (eFn f_months_between (aCons (eVar 3) (aCons (eFn f_add_months (aCons (eVar 3) (aCons (eVar 5) aNil))) aNil))) (eVar 5)))) (bCons (sRet (eC (.bl false))) bNil) bNil) bNil) bNil) (bCons (sSet 9 (eFn f_months_between (aCons (eVar 3) (aCons (eVar 4) aNil)))) (bCons (sFor (gT (gsC (gN 7) (gsC (gN 10) gs0))) (iSeq (eLst (aCons (eTup (aCons (eVar 9) (aCons (eC (.bl false)) aNil))) (aCons (eTup (aCons (eOp2 addD (eVar 9) (eC (.int 1))) (aCons (eC (.bl true)) aNil))) aNil)))) (bCons (sSet 8 (eFn f__law_on (aCons (eVar 1) (aCons (eVar 7) aNil)))) (bCons (sIf (tAn (tChn leD leD (eC (.int 1)) (eOp2 ixD (eVar 8) (eC (.int 0))) (eC (.int 9999))) (tCmp2 neD (eCmp gtD (eFn f_days_of (aCons (eOp2 ixD (eVar 8) (eC (.int 0))) (aCons (eOp2 ixD (eVar 8) (eC (.int 1))) (aCons (eOp2 ixD (eVar 8) (eC (.int 2))) aNil)))) (eVar 4)) (eVar 10))) (bCons (sRet (eC (.bl false))) bNil) bNil) bNil))) (bCons (sRet (eAnd (eCmp eqD (eFn f_months_between (aCons (eVar 3) (aCons (eVar 3) aNil))) (eC (.int 0))) (eAnd (eCmp eqD (eCmp geD (eVar 9) (eC (.int 0))) (eCmp geD (eVar 4) (eVar 3))) (eCmp geD (eFn f_months_between (aCons (eVar 3) (aCons (eOp2 addD (eVar 4) (eC (.int 1))) aNil))) (eVar 9))))) bNil)))))))
noncomputable def f__law_months_hold : List D → S → Option (D × S) := fnSem 3 11 b__law_months_hold
noncomputable def b_next_weekday : FS := (bCons (sDrop (eFn f_check_days (aCons (eVar 0) aNil))) (bCons (sIf (tOo (tNo (tOf (eIsi "str" (eVar 1)))) (tCmp2 niD (eVar 1) (eC (.tup (dS ["Mon", "Tue", "Wed", "Thu", "Fri", "Sat", "Sun"]))))) (bCons sBad bNil) bNil) (bCons (sSet 2 (eOp2 addD (eVar 0) (eOp2 modD (eOp2 subD (eOp2 subD (eGIdx ["Mon", "Tue", "Wed", "Thu", "Fri", "Sat", "Sun"] (eVar 1)) (eVar 0)) (eC (.int 3))) (eC (.int 7))))) (bCons (sDrop (eFn f_check_days (aCons (eVar 2) aNil))) (bCons (sRet (eVar 2)) bNil)))))
noncomputable def f_next_weekday : List D → S → Option (D × S) := fnSem 2 3 b_next_weekday
noncomputable def b__law_weeks_hold : FS := (bCons (sTo (gT (gsC (gN 2) (gsC (gN 3) gs0))) (eTup (aCons (eFn f_days_of (aCons (eOp2 ixD (eVar 1) (eC (.int 0))) (aCons (eOp2 ixD (eVar 1) (eC (.int 1))) (aCons (eOp2 ixD (eVar 1) (eC (.int 2))) aNil)))) (aCons (eLst (aCons (eC (.str "Mon")) (aCons (eC (.str "Tue")) (aCons (eC (.str "Wed")) (aCons (eC (.str "Thu")) (aCons (eC (.str "Fri")) (aCons (eC (.str "Sat")) (aCons (eC (.str "Sun")) aNil)))))))) aNil)))) (bCons (sPar 4 5 (eFn drawD (aCons (eVar 0) (aCons (eC (.int 7)) aNil))) (eFn drawD (aCons (eVar 0) (aCons (eC (.int 60)) aNil)))) (bCons (sSet 6 (eFn f_next_weekday (aCons (eVar 2) (aCons (eOp2 ixD (eVar 3) (eVar 4)) aNil)))) (bCons (sIf (tOo (tCmp2 neD (eFn f_weekday (aCons (eVar 6) aNil)) (eVar 4)) (tOo (tNo (tChn leD ltD (eC (.int 0)) (eOp2 subD (eVar 6) (eVar 2)) (eC (.int 7)))) (tOo (tCmp2 neD (eFn f_next_weekday (aCons (eVar 6) (aCons (eOp2 ixD (eVar 3) (eVar 4)) aNil))) (eVar 6)) (tCmp2 neD (eFn f_next_weekday (aCons (eOp2 addD (eVar 6) (eC (.int 1))) (aCons (eOp2 ixD (eVar 3) (eVar 4)) aNil))) (eOp2 addD (eVar 6) (eC (.int 7))))))) (bCons (sRet (eC (.bl false))) bNil) bNil) (bCons (sIf (tOo (tCmp2 neD (eFn f_weekday (aCons (eOp2 addD (eVar 2) (eOp2 mulD (eC (.int 7)) (eVar 5))) aNil)) (eFn f_weekday (aCons (eVar 2) aNil))) (tOo (tCmp2 neD (eFn f_weekday (aCons (eOp2 addD (eVar 2) (eC (.int 1))) aNil)) (eOp2 modD (eCall intD (aCons (eOp2 addD (eFn f_weekday (aCons (eVar 2) aNil)) (eC (.int 1))) aNil)) (eC (.int 7)))) (tOo (tCmp2 neD (eFn f_weekday (aCons (eC (.int 0)) aNil)) (eC (.int 3))) (tCmp2 neD (eFn f_days_of (aCons (eC (.int 1970)) (aCons (eC (.int 1)) (aCons (eC (.int 1)) aNil)))) (eC (.int 0)))))) (bCons (sRet (eC (.bl false))) bNil) bNil) (bCons (sSet 7 (eLc [8] (gN 8) (iSeq (eVar 3)) cNil (eFn f_next_weekday (aCons (eVar 2) (aCons (eVar 8) aNil))))) (bCons (sRet (eAnd (eCmp eqD (eCall sortedD (aCons (eVar 7) aNil)) (eLRg2 (eVar 2) (eOp2 addD (eVar 2) (eC (.int 7))))) (eCmp eqD (eOp2 ixD (eVar 7) (eFn f_weekday (aCons (eVar 2) aNil))) (eVar 2)))) bNil)))))))
noncomputable def f__law_weeks_hold : List D → S → Option (D × S) := fnSem 2 9 b__law_weeks_hold
noncomputable def b_law : FS := (bCons (sFor (gN 2) (iRg1 (eC (.int 4))) (bCons (sPar 3 4 (eFn f__law_date (aCons (eVar 1) aNil)) (eFn f__law_date (aCons (eVar 1) aNil))) (bCons (sIf (tOo (tNo (tOf (eFn f__law_cycles_hold (aCons (eVar 3) aNil)))) (tOo (tNo (tOf (eFn f__law_months_hold (aCons (eVar 1) (aCons (eVar 3) (aCons (eVar 4) aNil)))))) (tNo (tOf (eFn f__law_weeks_hold (aCons (eVar 1) (aCons (eVar 3) aNil))))))) (bCons (sRet (eC (.bl false))) bNil) bNil) bNil))) (bCons (sRet (eC (.bl true))) bNil))
section
variable {P : Program} {w : World} {K : PySem.W.Frag} {mg : Str → Option Value} {base : Heap}
theorem o__law_pick {f : Addr} {fd : FuncData} (F : Fun K "_law_pick" "_law_pick" s__law_pick f fd) (hm : mg "_law_pick" = some (.ref f)) (hb : Binds K fd ["state", "some"] []) (hB : ∀ x ∈ bnL, mg x = none) (F__law_draw : FnF P w K mg base 1 "_law_draw" ["state", "many"] drawD) : FnF P w K mg base 2 "_law_pick" ["state", "some"] f__law_pick :=
  def_ok (bn := bnL) F hm hb hB sc__law_pick fun X sa C =>
  (b_cons (s_ret (s_ix op2_ix (fun _ _ => rfl) (k_var C 1 rfl (by decide +kernel)) (k_fn C F__law_draw (by dsimp only; decide) (by decide +kernel) rfl rfl (a_cons rfl (k_var C 0 rfl (by decide +kernel)) (a_cons rfl (k_blt C cd_len (by decide +kernel) (by dsimp only; decide +kernel) rfl rfl rfl (a_cons rfl (k_var C 1 rfl (by decide +kernel)) a_nil)) a_nil))))) b_nil)
theorem o__law_long {f : Addr} {fd : FuncData} (F : Fun K "_law_long" "_law_long" s__law_long f fd) (hm : mg "_law_long" = some (.ref f)) (hb : Binds K fd ["year", "month"] []) (hB : ∀ x ∈ bnL, mg x = none) : FnF P w K mg base 1 "_law_long" ["year", "month"] f__law_long :=
  def_ok (bn := bnL) F hm hb hB sc__law_long fun X sa C =>
  (b_cons (k_set C 2 rfl (by decide +kernel) rfl (s_and (s_cmp (cm2_eq C.hu) rfl (s_bin op2_mod (k_typ C cd_int (by decide +kernel) (by dsimp only; decide +kernel) rfl rfl rfl (a_cons rfl (k_var C 0 rfl (by decide +kernel)) a_nil)) s_int) s_int) (s_one (s_or (s_cmp (cm2_ne C.hu) rfl (s_bin op2_mod (k_typ C cd_int (by decide +kernel) (by dsimp only; decide +kernel) rfl rfl rfl (a_cons rfl (k_var C 0 rfl (by decide +kernel)) a_nil)) s_int) s_int) (s_one (s_cmp (cm2_eq C.hu) rfl (s_bin op2_mod (k_typ C cd_int (by decide +kernel) (by dsimp only; decide +kernel) rfl rfl rfl (a_cons rfl (k_var C 0 rfl (by decide +kernel)) a_nil)) s_int) s_int)))))) (b_cons (s_ret (s_ix op2_ix (fun _ _ => rfl) (s_lst (a_cons rfl s_int (a_cons rfl (s_ite (t_of (fun _ => rfl) (k_var C 2 rfl (by decide +kernel))) s_int s_int) (a_cons rfl s_int (a_cons rfl s_int (a_cons rfl s_int (a_cons rfl s_int (a_cons rfl s_int (a_cons rfl s_int (a_cons rfl s_int (a_cons rfl s_int (a_cons rfl s_int (a_cons rfl s_int a_nil))))))))))))) (s_bin op2_sub (k_var C 1 rfl (by decide +kernel)) s_int))) b_nil))
theorem o__law_date {f : Addr} {fd : FuncData} (F : Fun K "_law_date" "_law_date" s__law_date f fd) (hm : mg "_law_date" = some (.ref f)) (hb : Binds K fd ["state"] []) (hB : ∀ x ∈ bnL, mg x = none) (F__law_pick : FnF P w K mg base 2 "_law_pick" ["state", "some"] f__law_pick) (F__law_draw : FnF P w K mg base 1 "_law_draw" ["state", "many"] drawD) (F__law_long : FnF P w K mg base 1 "_law_long" ["year", "month"] f__law_long) : FnF P w K mg base 3 "_law_date" ["state"] f__law_date :=
  def_ok (bn := bnL) F hm hb hB sc__law_date fun X sa C =>
  (b_cons (k_par C 1 2 rfl rfl (by decide) (by decide +kernel) (by decide +kernel) (by decide +kernel) (by decide +kernel) rfl rfl rfl rfl rfl (k_fn C F__law_pick (by dsimp only; decide) (by decide +kernel) rfl rfl (a_cons rfl (k_var C 0 rfl (by decide +kernel)) (a_cons rfl (s_lst (a_cons rfl (s_bin op2_add s_int (k_fn C F__law_draw (by dsimp only; decide) (by decide +kernel) rfl rfl (a_cons rfl (k_var C 0 rfl (by decide +kernel)) (a_cons rfl s_int a_nil)))) (a_cons rfl s_int (a_cons rfl s_int (a_cons rfl s_int (a_cons rfl s_int (a_cons rfl s_int (a_cons rfl s_int (a_cons rfl s_int a_nil))))))))) a_nil))) (s_bin op2_add s_int (k_fn C F__law_draw (by dsimp only; decide) (by decide +kernel) rfl rfl (a_cons rfl (k_var C 0 rfl (by decide +kernel)) (a_cons rfl s_int a_nil))))) (b_cons (k_set C 3 rfl (by decide +kernel) rfl (k_fn C F__law_pick (by dsimp only; decide) (by decide +kernel) rfl rfl (a_cons rfl (k_var C 0 rfl (by decide +kernel)) (a_cons rfl (s_lst (a_cons rfl s_int (a_cons rfl (k_fn C F__law_long (by dsimp only; decide) (by decide +kernel) rfl rfl (a_cons rfl (k_var C 1 rfl (by decide +kernel)) (a_cons rfl (k_var C 2 rfl (by decide +kernel)) a_nil))) (a_cons rfl s_int (a_cons rfl (s_bin op2_add s_int (k_fn C F__law_draw (by dsimp only; decide) (by decide +kernel) rfl rfl (a_cons rfl (k_var C 0 rfl (by decide +kernel)) (a_cons rfl (k_fn C F__law_long (by dsimp only; decide) (by decide +kernel) rfl rfl (a_cons rfl (k_var C 1 rfl (by decide +kernel)) (a_cons rfl (k_var C 2 rfl (by decide +kernel)) a_nil))) a_nil)))) a_nil))))) a_nil)))) (b_cons (s_ret (s_tup (a_cons rfl (k_var C 1 rfl (by decide +kernel)) (a_cons rfl (k_var C 2 rfl (by decide +kernel)) (a_cons rfl (k_var C 3 rfl (by decide +kernel)) a_nil))))) b_nil)))
theorem o_years_ahead {f : Addr} {fd : FuncData} (F : Fun K "years_ahead" "years_ahead" s_years_ahead f fd) (hm : mg "years_ahead" = some (.ref f)) (hb : Binds K fd ["year"] []) (hB : ∀ x ∈ bnL, mg x = none) : FnF P w K mg base 1 "years_ahead" ["year"] f_years_ahead :=
  def_ok (bn := bnL) F hm hb hB sc_years_ahead fun X sa C =>
  (b_cons (k_set C 1 rfl (by decide +kernel) rfl (s_bin op2_sub (k_var C 0 rfl (by decide +kernel)) s_int)) (b_cons (s_ret (s_bin op2_add (s_bin op2_sub (s_bin op2_add (s_bin op2_mul s_int (k_var C 1 rfl (by decide +kernel))) (s_bin op2_div (k_var C 1 rfl (by decide +kernel)) s_int)) (s_bin op2_div (k_var C 1 rfl (by decide +kernel)) s_int)) (s_bin op2_div (k_var C 1 rfl (by decide +kernel)) s_int))) b_nil))
theorem o_is_leap {f : Addr} {fd : FuncData} (F : Fun K "is_leap" "is_leap" s_is_leap f fd) (hm : mg "is_leap" = some (.ref f)) (hb : Binds K fd ["year"] []) (hB : ∀ x ∈ bnL, mg x = none) : FnF P w K mg base 1 "is_leap" ["year"] f_is_leap :=
  def_ok (bn := bnL) F hm hb hB sc_is_leap fun X sa C =>
  (b_cons (s_ret (s_and (s_cmp (cm2_eq C.hu) rfl (s_bin op2_mod (k_var C 0 rfl (by decide +kernel)) s_int) s_int) (s_one (s_or (s_cmp (cm2_ne C.hu) rfl (s_bin op2_mod (k_var C 0 rfl (by decide +kernel)) s_int) s_int) (s_one (s_cmp (cm2_eq C.hu) rfl (s_bin op2_mod (k_var C 0 rfl (by decide +kernel)) s_int) s_int)))))) b_nil)
theorem o_length_of {f : Addr} {fd : FuncData} (F : Fun K "length_of" "length_of" s_length_of f fd) (hm : mg "length_of" = some (.ref f)) (hb : Binds K fd ["year", "month"] []) (hB : ∀ x ∈ bnL, mg x = none) (h_LENGTHS : GT K mg "LENGTHS" (([31, 28, 31, 30, 31, 30, 31, 31, 30, 31, 30, 31] : List Int).map V.int)) (F_is_leap : FnF P w K mg base 1 "is_leap" ["year"] f_is_leap) : FnF P w K mg base 2 "length_of" ["year", "month"] f_length_of :=
  def_ok (bn := bnL) F hm hb hB sc_length_of fun X sa C =>
  (b_cons (s_ret (s_bin op2_add (s_ix op2_ix (fun _ _ => rfl) (k_gtI C [31, 28, 31, 30, 31, 30, 31, 31, 30, 31, 30, 31] (by decide +kernel) h_LENGTHS) (s_bin op2_sub (k_var C 1 rfl (by decide +kernel)) s_int)) (s_ite (t_w (w_and (t_cmp (cm2_eq C.hu) rfl (k_var C 1 rfl (by decide +kernel)) s_int) (w_and1 (t_of (fun _ => rfl) (k_fn C F_is_leap (by dsimp only; decide) (by decide +kernel) rfl rfl (a_cons rfl (k_var C 0 rfl (by decide +kernel)) a_nil)))))) s_int s_int))) b_nil)
theorem o_count {f : Addr} {fd : FuncData} (F : Fun K "count" "count" s_count f fd) (hm : mg "count" = some (.ref f)) (hb : Binds K fd ["year", "month", "day"] []) (hB : ∀ x ∈ bnL, mg x = none) (F_years_ahead : FnF P w K mg base 1 "years_ahead" ["year"] f_years_ahead) (F_length_of : FnF P w K mg base 2 "length_of" ["year", "month"] f_length_of) (h_EPOCH : ∃ u, mg "EPOCH" = some u ∧ RelV (.int 719162) u) : FnF P w K mg base 3 "count" ["year", "month", "day"] f_count :=
  def_ok (bn := bnL) F hm hb hB sc_count fun X sa C =>
  (b_cons (s_ret (s_bin op2_sub (s_bin op2_sub (s_bin op2_add (s_bin op2_add (k_fn C F_years_ahead (by dsimp only; decide) (by decide +kernel) rfl rfl (a_cons rfl (k_var C 0 rfl (by decide +kernel)) a_nil)) (k_blt C (cd_sum C.calm) (by decide +kernel) (by dsimp only; decide +kernel) rfl rfl rfl (a_cons rfl (k_lc C [("own", 3)] (by dsimp only; decide +kernel) (fun _ => rfl) (k_rg2 C (by decide +kernel) (by dsimp only; decide +kernel) rfl rfl s_int (k_var C 1 rfl (by decide +kernel))) (fun Y C => (kg_nm C 3 rfl (by decide +kernel))) (fun Y C => c_nil) (fun Y C => (k_fn C F_length_of (by dsimp only; decide) (by decide +kernel) rfl rfl (a_cons rfl (k_var C 0 rfl (by decide +kernel)) (a_cons rfl (k_var C 3 rfl (by decide +kernel)) a_nil)))) (by decide)) a_nil))) (k_var C 2 rfl (by decide +kernel))) s_int) (k_gint C (by decide +kernel) h_EPOCH))) b_nil)
theorem o_is_integer {f : Addr} {fd : FuncData} (F : Fun K "is_integer" "is_integer" s_is_integer f fd) (hm : mg "is_integer" = some (.ref f)) (hb : Binds K fd ["value"] []) (hB : ∀ x ∈ bnL, mg x = none) : FnF P w K mg base 1 "is_integer" ["value"] f_is_integer :=
  def_ok (bn := bnL) F hm hb hB sc_is_integer fun X sa C =>
  (b_cons (s_ret (s_and (k_isi C (by decide +kernel) (by dsimp only; decide +kernel) rfl (by decide +kernel) (by dsimp only; decide +kernel) rfl rfl (k_var C 0 rfl (by decide +kernel))) (s_one (s_not (k_isi C (by decide +kernel) (by dsimp only; decide +kernel) rfl (by decide +kernel) (by dsimp only; decide +kernel) rfl rfl (k_var C 0 rfl (by decide +kernel))))))) b_nil)
theorem o_is_date {f : Addr} {fd : FuncData} (F : Fun K "is_date" "is_date" s_is_date f fd) (hm : mg "is_date" = some (.ref f)) (hb : Binds K fd ["year", "month", "day"] []) (hB : ∀ x ∈ bnL, mg x = none) (F_is_integer : FnF P w K mg base 1 "is_integer" ["value"] f_is_integer) (h_MAX_YEAR : ∃ u, mg "MAX_YEAR" = some u ∧ RelV (.int 9999) u) (F_length_of : FnF P w K mg base 2 "length_of" ["year", "month"] f_length_of) : FnF P w K mg base 3 "is_date" ["year", "month", "day"] f_is_date :=
  def_ok (bn := bnL) F hm hb hB sc_is_date fun X sa C =>
  (b_cons (s_if (t_w (w_or (t_not (t_of (fun _ => rfl) (k_fn C F_is_integer (by dsimp only; decide) (by decide +kernel) rfl rfl (a_cons rfl (k_var C 0 rfl (by decide +kernel)) a_nil)))) (w_or (t_not (t_chn cm2_le cm2_le rfl s_int (k_var C 0 rfl (by decide +kernel)) (k_gint C (by decide +kernel) h_MAX_YEAR))) (w_or (t_not (t_of (fun _ => rfl) (k_fn C F_is_integer (by dsimp only; decide) (by decide +kernel) rfl rfl (a_cons rfl (k_var C 1 rfl (by decide +kernel)) a_nil)))) (w_or1 (t_not (t_chn cm2_le cm2_le rfl s_int (k_var C 1 rfl (by decide +kernel)) s_int))))))) (b_cons (s_ret s_bl) b_nil) b_nil) (b_cons (s_ret (s_and (k_fn C F_is_integer (by dsimp only; decide) (by decide +kernel) rfl rfl (a_cons rfl (k_var C 2 rfl (by decide +kernel)) a_nil)) (s_one (s_chn cm2_le cm2_le rfl s_int (k_var C 2 rfl (by decide +kernel)) (k_fn C F_length_of (by dsimp only; decide) (by decide +kernel) rfl rfl (a_cons rfl (k_var C 0 rfl (by decide +kernel)) (a_cons rfl (k_var C 1 rfl (by decide +kernel)) a_nil))))))) b_nil))
theorem o_days_of {f : Addr} {fd : FuncData} (F : Fun K "days_of" "days_of" s_days_of f fd) (hm : mg "days_of" = some (.ref f)) (hb : Binds K fd ["year", "month", "day"] []) (hB : ∀ x ∈ bnL, mg x = none) (F_is_date : FnF P w K mg base 3 "is_date" ["year", "month", "day"] f_is_date) (F_count : FnF P w K mg base 3 "count" ["year", "month", "day"] f_count) : FnF P w K mg base 4 "days_of" ["year", "month", "day"] f_days_of :=
  def_ok (bn := bnL) F hm hb hB sc_days_of fun X sa C =>
  (b_cons (s_if (t_not (t_of (fun _ => rfl) (k_fn C F_is_date (by dsimp only; decide) (by decide +kernel) rfl rfl (a_cons rfl (k_var C 0 rfl (by decide +kernel)) (a_cons rfl (k_var C 1 rfl (by decide +kernel)) (a_cons rfl (k_var C 2 rfl (by decide +kernel)) a_nil)))))) (b_cons s_bad b_nil) b_nil) (b_cons (s_ret (k_fn C F_count (by dsimp only; decide) (by decide +kernel) rfl rfl (a_cons rfl (k_var C 0 rfl (by decide +kernel)) (a_cons rfl (k_var C 1 rfl (by decide +kernel)) (a_cons rfl (k_var C 2 rfl (by decide +kernel)) a_nil))))) b_nil))
theorem o_check_days {f : Addr} {fd : FuncData} (F : Fun K "check_days" "check_days" s_check_days f fd) (hm : mg "check_days" = some (.ref f)) (hb : Binds K fd ["days"] []) (hB : ∀ x ∈ bnL, mg x = none) (F_is_integer : FnF P w K mg base 1 "is_integer" ["value"] f_is_integer) (h_EPOCH : ∃ u, mg "EPOCH" = some u ∧ RelV (.int 719162) u) (h_LAST : ∃ u, mg "LAST" = some u ∧ RelV (.int 3652059) u) : FnF P w K mg base 2 "check_days" ["days"] f_check_days :=
  def_ok (bn := bnL) F hm hb hB sc_check_days fun X sa C =>
  (b_cons (s_if (t_w (w_or (t_not (t_of (fun _ => rfl) (k_fn C F_is_integer (by dsimp only; decide) (by decide +kernel) rfl rfl (a_cons rfl (k_var C 0 rfl (by decide +kernel)) a_nil)))) (w_or1 (t_not (t_chn cm2_le cm2_lt rfl (s_un op1_neg (k_gint C (by decide +kernel) h_EPOCH)) (k_var C 0 rfl (by decide +kernel)) (s_bin op2_sub (k_gint C (by decide +kernel) h_LAST) (k_gint C (by decide +kernel) h_EPOCH))))))) (b_cons s_bad b_nil) b_nil) b_nil)
theorem o_date_in {f : Addr} {fd : FuncData} (F : Fun K "date_in" "date_in" s_date_in f fd) (hm : mg "date_in" = some (.ref f)) (hb : Binds K fd ["days"] []) (hB : ∀ x ∈ bnL, mg x = none) (h_EPOCH : ∃ u, mg "EPOCH" = some u ∧ RelV (.int 719162) u) (h_MAX_YEAR : ∃ u, mg "MAX_YEAR" = some u ∧ RelV (.int 9999) u) (F_years_ahead : FnF P w K mg base 1 "years_ahead" ["year"] f_years_ahead) (F_length_of : FnF P w K mg base 2 "length_of" ["year", "month"] f_length_of) : FnF P w K mg base 3 "date_in" ["days"] f_date_in :=
  def_ok (bn := bnL) F hm hb hB sc_date_in fun X sa C =>
  (b_cons (k_set C 1 rfl (by decide +kernel) rfl (s_bin op2_add (k_var C 0 rfl (by decide +kernel)) (k_gint C (by decide +kernel) h_EPOCH))) (b_cons (k_par C 2 3 rfl rfl (by decide) (by decide +kernel) (by decide +kernel) (by decide +kernel) (by decide +kernel) rfl rfl rfl rfl rfl s_int (k_gint C (by decide +kernel) h_MAX_YEAR)) (b_cons (k_while C 40 (t_cmp cm2_lt rfl (k_var C 2 rfl (by decide +kernel)) (k_var C 3 rfl (by decide +kernel))) (b_cons (k_set C 4 rfl (by decide +kernel) rfl (s_bin op2_div (s_bin op2_add (s_bin op2_add (k_var C 2 rfl (by decide +kernel)) (k_var C 3 rfl (by decide +kernel))) s_int) s_int)) (b_cons (s_if (t_cmp cm2_le rfl (k_fn C F_years_ahead (by dsimp only; decide) (by decide +kernel) rfl rfl (a_cons rfl (k_var C 4 rfl (by decide +kernel)) a_nil)) (k_var C 1 rfl (by decide +kernel))) (b_cons (k_set C 2 rfl (by decide +kernel) rfl (k_var C 4 rfl (by decide +kernel))) b_nil) (b_cons (k_set C 3 rfl (by decide +kernel) rfl (s_bin op2_sub (k_var C 4 rfl (by decide +kernel)) s_int)) b_nil)) b_nil))) (b_cons (k_set C 5 rfl (by decide +kernel) rfl (s_bin op2_sub (k_var C 1 rfl (by decide +kernel)) (k_fn C F_years_ahead (by dsimp only; decide) (by decide +kernel) rfl rfl (a_cons rfl (k_var C 2 rfl (by decide +kernel)) a_nil)))) (b_cons (k_set C 6 rfl (by decide +kernel) rfl s_int) (b_cons (k_while C 40 (t_cmp cm2_ge rfl (k_var C 5 rfl (by decide +kernel)) (k_fn C F_length_of (by dsimp only; decide) (by decide +kernel) rfl rfl (a_cons rfl (k_var C 2 rfl (by decide +kernel)) (a_cons rfl (k_var C 6 rfl (by decide +kernel)) a_nil)))) (b_cons (k_aug C 5 ip2_sub rfl (by decide +kernel) (k_fn C F_length_of (by dsimp only; decide) (by decide +kernel) rfl rfl (a_cons rfl (k_var C 2 rfl (by decide +kernel)) (a_cons rfl (k_var C 6 rfl (by decide +kernel)) a_nil)))) (b_cons (k_aug C 6 ip2_add rfl (by decide +kernel) s_int) b_nil))) (b_cons (s_ret (s_tup (a_cons rfl (k_var C 2 rfl (by decide +kernel)) (a_cons rfl (k_var C 6 rfl (by decide +kernel)) (a_cons rfl (s_bin op2_add (k_var C 5 rfl (by decide +kernel)) s_int) a_nil))))) b_nil)))))))
theorem o_date_of {f : Addr} {fd : FuncData} (F : Fun K "date_of" "date_of" s_date_of f fd) (hm : mg "date_of" = some (.ref f)) (hb : Binds K fd ["days"] []) (hB : ∀ x ∈ bnL, mg x = none) (F_check_days : FnF P w K mg base 2 "check_days" ["days"] f_check_days) (F_date_in : FnF P w K mg base 3 "date_in" ["days"] f_date_in) : FnF P w K mg base 4 "date_of" ["days"] f_date_of :=
  def_ok (bn := bnL) F hm hb hB sc_date_of fun X sa C =>
  (b_cons (s_drop rfl (k_fn C F_check_days (by dsimp only; decide) (by decide +kernel) rfl rfl (a_cons rfl (k_var C 0 rfl (by decide +kernel)) a_nil))) (b_cons (s_ret (k_fn C F_date_in (by dsimp only; decide) (by decide +kernel) rfl rfl (a_cons rfl (k_var C 0 rfl (by decide +kernel)) a_nil))) b_nil))
theorem o_add_months {f : Addr} {fd : FuncData} (F : Fun K "add_months" "add_months" s_add_months f fd) (hm : mg "add_months" = some (.ref f)) (hb : Binds K fd ["days", "months"] []) (hB : ∀ x ∈ bnL, mg x = none) (F_check_days : FnF P w K mg base 2 "check_days" ["days"] f_check_days) (F_is_integer : FnF P w K mg base 1 "is_integer" ["value"] f_is_integer) (h_MAX_YEAR : ∃ u, mg "MAX_YEAR" = some u ∧ RelV (.int 9999) u) (F_date_in : FnF P w K mg base 3 "date_in" ["days"] f_date_in) (F_count : FnF P w K mg base 3 "count" ["year", "month", "day"] f_count) (F_length_of : FnF P w K mg base 2 "length_of" ["year", "month"] f_length_of) : FnF P w K mg base 4 "add_months" ["days", "months"] f_add_months :=
  def_ok (bn := bnL) F hm hb hB sc_add_months fun X sa C =>
  (b_cons (s_drop rfl (k_fn C F_check_days (by dsimp only; decide) (by decide +kernel) rfl rfl (a_cons rfl (k_var C 0 rfl (by decide +kernel)) a_nil))) (b_cons (s_if (t_w (w_or (t_not (t_of (fun _ => rfl) (k_fn C F_is_integer (by dsimp only; decide) (by decide +kernel) rfl rfl (a_cons rfl (k_var C 1 rfl (by decide +kernel)) a_nil)))) (w_or1 (t_cmp cm2_gt rfl (k_blt C cd_abs (by decide +kernel) (by dsimp only; decide +kernel) rfl rfl rfl (a_cons rfl (k_var C 1 rfl (by decide +kernel)) a_nil)) (s_bin op2_mul s_int (k_gint C (by decide +kernel) h_MAX_YEAR)))))) (b_cons s_bad b_nil) b_nil) (b_cons (s_to rfl rfl rfl (kg_tup C rfl rfl (fun _ _ _ e => gsC_len (fun _ _ _ e => gsC_len (fun _ _ _ e => gsC_len (fun _ _ _ e => gs0_len e) e) e) e) (gs_cons rfl (kg_nm C 2 rfl (by decide +kernel)) (gs_cons rfl (kg_nm C 3 rfl (by decide +kernel)) (gs_cons rfl (kg_nm C 4 rfl (by decide +kernel)) gs_nil)))) (k_fn C F_date_in (by dsimp only; decide) (by decide +kernel) rfl rfl (a_cons rfl (k_var C 0 rfl (by decide +kernel)) a_nil))) (b_cons (k_set C 5 rfl (by decide +kernel) rfl (s_bin op2_add (s_bin op2_sub (s_bin op2_add (s_bin op2_mul s_int (k_var C 2 rfl (by decide +kernel))) (k_var C 3 rfl (by decide +kernel))) s_int) (k_var C 1 rfl (by decide +kernel)))) (b_cons (s_if (t_not (t_chn cm2_le cm2_lt rfl s_int (k_var C 5 rfl (by decide +kernel)) (s_bin op2_mul s_int (s_bin op2_add (k_gint C (by decide +kernel) h_MAX_YEAR) s_int)))) (b_cons s_bad b_nil) b_nil) (b_cons (k_par C 2 3 rfl rfl (by decide) (by decide +kernel) (by decide +kernel) (by decide +kernel) (by decide +kernel) rfl rfl rfl rfl rfl (s_bin op2_div (k_var C 5 rfl (by decide +kernel)) s_int) (s_bin op2_add (s_bin op2_mod (k_var C 5 rfl (by decide +kernel)) s_int) s_int)) (b_cons (s_ret (k_fn C F_count (by dsimp only; decide) (by decide +kernel) rfl rfl (a_cons rfl (k_var C 2 rfl (by decide +kernel)) (a_cons rfl (k_var C 3 rfl (by decide +kernel)) (a_cons rfl (k_blt C (cd_min C.calm) (by decide +kernel) (by dsimp only; decide +kernel) rfl rfl rfl (a_cons rfl (k_var C 4 rfl (by decide +kernel)) (a_cons rfl (k_fn C F_length_of (by dsimp only; decide) (by decide +kernel) rfl rfl (a_cons rfl (k_var C 2 rfl (by decide +kernel)) (a_cons rfl (k_var C 3 rfl (by decide +kernel)) a_nil))) a_nil))) a_nil))))) b_nil)))))))
theorem o_weekday {f : Addr} {fd : FuncData} (F : Fun K "weekday" "weekday" s_weekday f fd) (hm : mg "weekday" = some (.ref f)) (hb : Binds K fd ["days"] []) (hB : ∀ x ∈ bnL, mg x = none) (F_check_days : FnF P w K mg base 2 "check_days" ["days"] f_check_days) : FnF P w K mg base 3 "weekday" ["days"] f_weekday :=
  def_ok (bn := bnL) F hm hb hB sc_weekday fun X sa C =>
  (b_cons (s_drop rfl (k_fn C F_check_days (by dsimp only; decide) (by decide +kernel) rfl rfl (a_cons rfl (k_var C 0 rfl (by decide +kernel)) a_nil))) (b_cons (s_ret (s_bin op2_mod (s_bin op2_add (k_var C 0 rfl (by decide +kernel)) s_int) s_int)) b_nil))
theorem o__law_cycles_hold {f : Addr} {fd : FuncData} (F : Fun K "_law_cycles_hold" "_law_cycles_hold" s__law_cycles_hold f fd) (hm : mg "_law_cycles_hold" = some (.ref f)) (hb : Binds K fd ["date"] []) (hB : ∀ x ∈ bnL, mg x = none) (F_days_of : FnF P w K mg base 4 "days_of" ["year", "month", "day"] f_days_of) (F_date_of : FnF P w K mg base 4 "date_of" ["days"] f_date_of) (F_is_date : FnF P w K mg base 3 "is_date" ["year", "month", "day"] f_is_date) (F__law_long : FnF P w K mg base 1 "_law_long" ["year", "month"] f__law_long) (F_weekday : FnF P w K mg base 3 "weekday" ["days"] f_weekday) (F_add_months : FnF P w K mg base 4 "add_months" ["days", "months"] f_add_months) : FnF P w K mg base 5 "_law_cycles_hold" ["date"] f__law_cycles_hold :=
  def_ok (bn := bnL) F hm hb hB sc__law_cycles_hold fun X sa C =>
  (b_cons (k_set C 1 rfl (by decide +kernel) rfl (k_fn C F_days_of (by dsimp only; decide) (by decide +kernel) rfl rfl (a_cons rfl (s_ix op2_ix (fun _ _ => rfl) (k_var C 0 rfl (by decide +kernel)) s_int) (a_cons rfl (s_ix op2_ix (fun _ _ => rfl) (k_var C 0 rfl (by decide +kernel)) s_int) (a_cons rfl (s_ix op2_ix (fun _ _ => rfl) (k_var C 0 rfl (by decide +kernel)) s_int) a_nil))))) (b_cons (s_if (t_w (w_or (t_cmp (cm2_ne C.hu) rfl (k_fn C F_date_of (by dsimp only; decide) (by decide +kernel) rfl rfl (a_cons rfl (k_var C 1 rfl (by decide +kernel)) a_nil)) (k_var C 0 rfl (by decide +kernel))) (w_or (t_of (fun _ => rfl) (k_fn C F_is_date (by dsimp only; decide) (by decide +kernel) rfl rfl (a_cons rfl (s_ix op2_ix (fun _ _ => rfl) (k_var C 0 rfl (by decide +kernel)) s_int) (a_cons rfl (s_ix op2_ix (fun _ _ => rfl) (k_var C 0 rfl (by decide +kernel)) s_int) (a_cons rfl (s_bin op2_add (k_fn C F__law_long (by dsimp only; decide) (by decide +kernel) rfl rfl (a_cons rfl (s_ix op2_ix (fun _ _ => rfl) (k_var C 0 rfl (by decide +kernel)) s_int) (a_cons rfl (s_ix op2_ix (fun _ _ => rfl) (k_var C 0 rfl (by decide +kernel)) s_int) a_nil))) s_int) a_nil))))) (w_or (t_of (fun _ => rfl) (k_fn C F_is_date (by dsimp only; decide) (by decide +kernel) rfl rfl (a_cons rfl (s_ix op2_ix (fun _ _ => rfl) (k_var C 0 rfl (by decide +kernel)) s_int) (a_cons rfl s_int (a_cons rfl s_int a_nil))))) (w_or (t_of (fun _ => rfl) (k_fn C F_is_date (by dsimp only; decide) (by decide +kernel) rfl rfl (a_cons rfl s_int (a_cons rfl s_int (a_cons rfl s_int a_nil))))) (w_or1 (t_not (t_of (fun _ => rfl) (k_fn C F_is_date (by dsimp only; decide) (by decide +kernel) rfl rfl (a_cons rfl (s_ix op2_ix (fun _ _ => rfl) (k_var C 0 rfl (by decide +kernel)) s_int) (a_cons rfl (s_ix op2_ix (fun _ _ => rfl) (k_var C 0 rfl (by decide +kernel)) s_int) (a_cons rfl s_int a_nil)))))))))))) (b_cons (s_ret s_bl) b_nil) b_nil) (b_cons (s_if (t_w (w_and (t_cmp cm2_le rfl (s_ix op2_ix (fun _ _ => rfl) (k_var C 0 rfl (by decide +kernel)) s_int) s_int) (w_and1 (t_w (w_or (t_cmp (cm2_ne C.hu) rfl (k_fn C F_date_of (by dsimp only; decide) (by decide +kernel) rfl rfl (a_cons rfl (s_bin op2_add (k_var C 1 rfl (by decide +kernel)) s_int) a_nil)) (s_tup (a_cons rfl (s_bin op2_add (s_ix op2_ix (fun _ _ => rfl) (k_var C 0 rfl (by decide +kernel)) s_int) s_int) (a_cons rfl (s_ix op2_ix (fun _ _ => rfl) (k_var C 0 rfl (by decide +kernel)) s_int) (a_cons rfl (s_ix op2_ix (fun _ _ => rfl) (k_var C 0 rfl (by decide +kernel)) s_int) a_nil))))) (w_or (t_cmp (cm2_ne C.hu) rfl (k_fn C F_weekday (by dsimp only; decide) (by decide +kernel) rfl rfl (a_cons rfl (s_bin op2_add (k_var C 1 rfl (by decide +kernel)) s_int) a_nil)) (k_fn C F_weekday (by dsimp only; decide) (by decide +kernel) rfl rfl (a_cons rfl (k_var C 1 rfl (by decide +kernel)) a_nil))) (w_or1 (t_cmp (cm2_ne C.hu) rfl (k_fn C F_add_months (by dsimp only; decide) (by decide +kernel) rfl rfl (a_cons rfl (k_var C 1 rfl (by decide +kernel)) (a_cons rfl s_int a_nil))) (s_bin op2_add (k_var C 1 rfl (by decide +kernel)) s_int))))))))) (b_cons (s_ret s_bl) b_nil) b_nil) (b_cons (k_par C 2 3 rfl rfl (by decide) (by decide +kernel) (by decide +kernel) (by decide +kernel) (by decide +kernel) rfl rfl rfl rfl rfl (k_fn C F_days_of (by dsimp only; decide) (by decide +kernel) rfl rfl (a_cons rfl (s_ix op2_ix (fun _ _ => rfl) (k_var C 0 rfl (by decide +kernel)) s_int) (a_cons rfl (s_ix op2_ix (fun _ _ => rfl) (k_var C 0 rfl (by decide +kernel)) s_int) (a_cons rfl s_int a_nil)))) (k_fn C F_days_of (by dsimp only; decide) (by decide +kernel) rfl rfl (a_cons rfl (s_ix op2_ix (fun _ _ => rfl) (k_var C 0 rfl (by decide +kernel)) s_int) (a_cons rfl (s_ix op2_ix (fun _ _ => rfl) (k_var C 0 rfl (by decide +kernel)) s_int) (a_cons rfl (k_fn C F__law_long (by dsimp only; decide) (by decide +kernel) rfl rfl (a_cons rfl (s_ix op2_ix (fun _ _ => rfl) (k_var C 0 rfl (by decide +kernel)) s_int) (a_cons rfl (s_ix op2_ix (fun _ _ => rfl) (k_var C 0 rfl (by decide +kernel)) s_int) a_nil))) a_nil))))) (b_cons (s_if (t_w (w_or (t_cmp (cm2_ne C.hu) rfl (s_bin op2_add (s_bin op2_sub (k_var C 3 rfl (by decide +kernel)) (k_var C 2 rfl (by decide +kernel))) s_int) (k_fn C F__law_long (by dsimp only; decide) (by decide +kernel) rfl rfl (a_cons rfl (s_ix op2_ix (fun _ _ => rfl) (k_var C 0 rfl (by decide +kernel)) s_int) (a_cons rfl (s_ix op2_ix (fun _ _ => rfl) (k_var C 0 rfl (by decide +kernel)) s_int) a_nil)))) (w_or (t_cmp (cm2_ne C.hu) rfl (k_fn C F_add_months (by dsimp only; decide) (by decide +kernel) rfl rfl (a_cons rfl (k_var C 2 rfl (by decide +kernel)) (a_cons rfl s_int a_nil))) (s_bin op2_add (k_var C 3 rfl (by decide +kernel)) s_int)) (w_or (t_cmp (cm2_ne C.hu) rfl (k_var C 1 rfl (by decide +kernel)) (s_bin op2_sub (s_bin op2_add (k_var C 2 rfl (by decide +kernel)) (s_ix op2_ix (fun _ _ => rfl) (k_var C 0 rfl (by decide +kernel)) s_int)) s_int)) (w_or1 (t_cmp (cm2_ne C.hu) rfl (s_ix op2_ix (fun _ _ => rfl) (k_fn C F_date_of (by dsimp only; decide) (by decide +kernel) rfl rfl (a_cons rfl (s_bin op2_add (k_var C 3 rfl (by decide +kernel)) s_int) a_nil)) s_int) s_int)))))) (b_cons (s_ret s_bl) b_nil) b_nil) (b_cons (k_set C 4 rfl (by decide +kernel) rfl (s_bin op2_sub (k_fn C F_days_of (by dsimp only; decide) (by decide +kernel) rfl rfl (a_cons rfl (s_bin op2_add (s_ix op2_ix (fun _ _ => rfl) (k_var C 0 rfl (by decide +kernel)) s_int) s_int) (a_cons rfl s_int (a_cons rfl s_int a_nil)))) (k_fn C F_days_of (by dsimp only; decide) (by decide +kernel) rfl rfl (a_cons rfl (s_ix op2_ix (fun _ _ => rfl) (k_var C 0 rfl (by decide +kernel)) s_int) (a_cons rfl s_int (a_cons rfl s_int a_nil)))))) (b_cons (s_ret (s_and (s_cmp (cm2_eq C.hu) rfl (k_var C 4 rfl (by decide +kernel)) (k_blt C (cd_sum C.calm) (by decide +kernel) (by dsimp only; decide +kernel) rfl rfl rfl (a_cons rfl (k_lc C [("month", 5)] (by dsimp only; decide +kernel) (fun _ => rfl) (k_rg2 C (by decide +kernel) (by dsimp only; decide +kernel) rfl rfl s_int s_int) (fun Y C => (kg_nm C 5 rfl (by decide +kernel))) (fun Y C => c_nil) (fun Y C => (k_fn C F__law_long (by dsimp only; decide) (by decide +kernel) rfl rfl (a_cons rfl (s_ix op2_ix (fun _ _ => rfl) (k_var C 0 rfl (by decide +kernel)) s_int) (a_cons rfl (k_var C 5 rfl (by decide +kernel)) a_nil)))) (by decide)) a_nil))) (s_one (s_cmp cm2_in rfl (k_var C 4 rfl (by decide +kernel)) (s_lst (a_cons rfl s_int (a_cons rfl s_int a_nil))))))) b_nil)))))))
theorem o_months_between {f : Addr} {fd : FuncData} (F : Fun K "months_between" "months_between" s_months_between f fd) (hm : mg "months_between" = some (.ref f)) (hb : Binds K fd ["first", "second"] []) (hB : ∀ x ∈ bnL, mg x = none) (F_check_days : FnF P w K mg base 2 "check_days" ["days"] f_check_days) (F_date_in : FnF P w K mg base 3 "date_in" ["days"] f_date_in) (F_length_of : FnF P w K mg base 2 "length_of" ["year", "month"] f_length_of) : FnF P w K mg base 4 "months_between" ["first", "second"] f_months_between :=
  def_ok (bn := bnL) F hm hb hB sc_months_between fun X sa C =>
  (b_cons (s_drop rfl (k_fn C F_check_days (by dsimp only; decide) (by decide +kernel) rfl rfl (a_cons rfl (k_var C 0 rfl (by decide +kernel)) a_nil))) (b_cons (s_drop rfl (k_fn C F_check_days (by dsimp only; decide) (by decide +kernel) rfl rfl (a_cons rfl (k_var C 1 rfl (by decide +kernel)) a_nil))) (b_cons (s_to rfl rfl rfl (kg_tup C rfl rfl (fun _ _ _ e => gsC_len (fun _ _ _ e => gsC_len (fun _ _ _ e => gsC_len (fun _ _ _ e => gs0_len e) e) e) e) (gs_cons rfl (kg_nm C 2 rfl (by decide +kernel)) (gs_cons rfl (kg_nm C 3 rfl (by decide +kernel)) (gs_cons rfl (kg_nm C 4 rfl (by decide +kernel)) gs_nil)))) (k_fn C F_date_in (by dsimp only; decide) (by decide +kernel) rfl rfl (a_cons rfl (k_var C 0 rfl (by decide +kernel)) a_nil))) (b_cons (s_to rfl rfl rfl (kg_tup C rfl rfl (fun _ _ _ e => gsC_len (fun _ _ _ e => gsC_len (fun _ _ _ e => gsC_len (fun _ _ _ e => gs0_len e) e) e) e) (gs_cons rfl (kg_nm C 5 rfl (by decide +kernel)) (gs_cons rfl (kg_nm C 6 rfl (by decide +kernel)) (gs_cons rfl (kg_nm C 7 rfl (by decide +kernel)) gs_nil)))) (k_fn C F_date_in (by dsimp only; decide) (by decide +kernel) rfl rfl (a_cons rfl (k_var C 1 rfl (by decide +kernel)) a_nil))) (b_cons (k_set C 8 rfl (by decide +kernel) rfl (s_bin op2_sub (s_bin op2_add (s_bin op2_mul s_int (s_bin op2_sub (k_var C 5 rfl (by decide +kernel)) (k_var C 2 rfl (by decide +kernel)))) (k_var C 6 rfl (by decide +kernel))) (k_var C 3 rfl (by decide +kernel)))) (b_cons (s_ret (s_bin op2_sub (k_var C 8 rfl (by decide +kernel)) (s_ite (t_cmp cm2_gt rfl (k_blt C (cd_min C.calm) (by decide +kernel) (by dsimp only; decide +kernel) rfl rfl rfl (a_cons rfl (k_var C 4 rfl (by decide +kernel)) (a_cons rfl (k_fn C F_length_of (by dsimp only; decide) (by decide +kernel) rfl rfl (a_cons rfl (k_var C 5 rfl (by decide +kernel)) (a_cons rfl (k_var C 6 rfl (by decide +kernel)) a_nil))) a_nil))) (k_var C 7 rfl (by decide +kernel))) s_int s_int))) b_nil))))))
theorem o__law_on {f : Addr} {fd : FuncData} (F : Fun K "_law_on" "_law_on" s__law_on f fd) (hm : mg "_law_on" = some (.ref f)) (hb : Binds K fd ["date", "months"] []) (hB : ∀ x ∈ bnL, mg x = none) (F__law_long : FnF P w K mg base 1 "_law_long" ["year", "month"] f__law_long) : FnF P w K mg base 2 "_law_on" ["date", "months"] f__law_on :=
  def_ok (bn := bnL) F hm hb hB sc__law_on fun X sa C =>
  (b_cons (k_set C 2 rfl (by decide +kernel) rfl (s_bin op2_add (s_bin op2_sub (s_bin op2_add (s_bin op2_mul (s_ix op2_ix (fun _ _ => rfl) (k_var C 0 rfl (by decide +kernel)) s_int) s_int) (s_ix op2_ix (fun _ _ => rfl) (k_var C 0 rfl (by decide +kernel)) s_int)) s_int) (k_var C 1 rfl (by decide +kernel)))) (b_cons (k_par C 3 4 rfl rfl (by decide) (by decide +kernel) (by decide +kernel) (by decide +kernel) (by decide +kernel) rfl rfl rfl rfl rfl (s_bin op2_div (k_var C 2 rfl (by decide +kernel)) s_int) (s_bin op2_add (s_bin op2_mod (k_typ C cd_int (by decide +kernel) (by dsimp only; decide +kernel) rfl rfl rfl (a_cons rfl (k_var C 2 rfl (by decide +kernel)) a_nil)) s_int) s_int)) (b_cons (s_ret (s_tup (a_cons rfl (k_var C 3 rfl (by decide +kernel)) (a_cons rfl (k_var C 4 rfl (by decide +kernel)) (a_cons rfl (k_blt C (cd_min C.calm) (by decide +kernel) (by dsimp only; decide +kernel) rfl rfl rfl (a_cons rfl (s_lst (a_cons rfl (s_ix op2_ix (fun _ _ => rfl) (k_var C 0 rfl (by decide +kernel)) s_int) (a_cons rfl (k_fn C F__law_long (by dsimp only; decide) (by decide +kernel) rfl rfl (a_cons rfl (k_var C 3 rfl (by decide +kernel)) (a_cons rfl (k_var C 4 rfl (by decide +kernel)) a_nil))) a_nil))) a_nil)) a_nil))))) b_nil)))
theorem o__law_months_hold {f : Addr} {fd : FuncData} (F : Fun K "_law_months_hold" "_law_months_hold" s__law_months_hold f fd) (hm : mg "_law_months_hold" = some (.ref f)) (hb : Binds K fd ["state", "date", "other"] []) (hB : ∀ x ∈ bnL, mg x = none) (F_days_of : FnF P w K mg base 4 "days_of" ["year", "month", "day"] f_days_of) (F__law_draw : FnF P w K mg base 1 "_law_draw" ["state", "many"] drawD) (F__law_on : FnF P w K mg base 2 "_law_on" ["date", "months"] f__law_on) (F_date_of : FnF P w K mg base 4 "date_of" ["days"] f_date_of) (F_add_months : FnF P w K mg base 4 "add_months" ["days", "months"] f_add_months) (F_months_between : FnF P w K mg base 4 "months_between" ["first", "second"] f_months_between) : FnF P w K mg base 5 "_law_months_hold" ["state", "date", "other"] f__law_months_hold :=
  def_ok (bn := bnL) F hm hb hB sc__law_months_hold fun X sa C =>
  (b_cons (k_par C 3 4 rfl rfl (by decide) (by decide +kernel) (by decide +kernel) (by decide +kernel) (by decide +kernel) rfl rfl rfl rfl rfl (k_fn C F_days_of (by dsimp only; decide) (by decide +kernel) rfl rfl (a_cons rfl (s_ix op2_ix (fun _ _ => rfl) (k_var C 1 rfl (by decide +kernel)) s_int) (a_cons rfl (s_ix op2_ix (fun _ _ => rfl) (k_var C 1 rfl (by decide +kernel)) s_int) (a_cons rfl (s_ix op2_ix (fun _ _ => rfl) (k_var C 1 rfl (by decide +kernel)) s_int) a_nil)))) (k_fn C F_days_of (by dsimp only; decide) (by decide +kernel) rfl rfl (a_cons rfl (s_ix op2_ix (fun _ _ => rfl) (k_var C 2 rfl (by decide +kernel)) s_int) (a_cons rfl (s_ix op2_ix (fun _ _ => rfl) (k_var C 2 rfl (by decide +kernel)) s_int) (a_cons rfl (s_ix op2_ix (fun _ _ => rfl) (k_var C 2 rfl (by decide +kernel)) s_int) a_nil))))) (b_cons (k_par C 5 6 rfl rfl (by decide) (by decide +kernel) (by decide +kernel) (by decide +kernel) (by decide +kernel) rfl rfl rfl rfl rfl (s_bin op2_sub (k_fn C F__law_draw (by dsimp only; decide) (by decide +kernel) rfl rfl (a_cons rfl (k_var C 0 rfl (by decide +kernel)) (a_cons rfl s_int a_nil))) s_int) (k_fn C F__law_draw (by dsimp only; decide) (by decide +kernel) rfl rfl (a_cons rfl (k_var C 0 rfl (by decide +kernel)) (a_cons rfl s_int a_nil)))) (b_cons (k_for C (fun _ => rfl) (i_seq (s_lst (a_cons rfl (k_var C 5 rfl (by decide +kernel)) (a_cons rfl (k_var C 6 rfl (by decide +kernel)) (a_cons rfl (s_bin op2_add (k_var C 6 rfl (by decide +kernel)) (k_var C 5 rfl (by decide +kernel))) a_nil))))) (kg_nm C 7 rfl (by decide +kernel)) (b_cons (k_set C 8 rfl (by decide +kernel) rfl (k_fn C F__law_on (by dsimp only; decide) (by decide +kernel) rfl rfl (a_cons rfl (k_var C 1 rfl (by decide +kernel)) (a_cons rfl (k_var C 7 rfl (by decide +kernel)) a_nil)))) (b_cons (s_if (t_w (w_and (t_chn cm2_le cm2_le rfl s_int (s_ix op2_ix (fun _ _ => rfl) (k_var C 8 rfl (by decide +kernel)) s_int) s_int) (w_and1 (t_w (w_or (t_cmp (cm2_ne C.hu) rfl (k_fn C F_date_of (by dsimp only; decide) (by decide +kernel) rfl rfl (a_cons rfl (k_fn C F_add_months (by dsimp only; decide) (by decide +kernel) rfl rfl (a_cons rfl (k_var C 3 rfl (by decide +kernel)) (a_cons rfl (k_var C 7 rfl (by decide +kernel)) a_nil))) a_nil)) (k_var C 8 rfl (by decide +kernel))) (w_or1 (t_cmp cm2_lt rfl (k_fn C F_months_between (by dsimp only; decide) (by decide +kernel) rfl rfl (a_cons rfl (k_var C 3 rfl (by decide +kernel)) (a_cons rfl (k_fn C F_add_months (by dsimp only; decide) (by decide +kernel) rfl rfl (a_cons rfl (k_var C 3 rfl (by decide +kernel)) (a_cons rfl (k_var C 7 rfl (by decide +kernel)) a_nil))) a_nil))) (k_var C 7 rfl (by decide +kernel))))))))) (b_cons (s_ret s_bl) b_nil) b_nil) b_nil))) (b_cons (s_if (t_w (w_and (t_cmp cm2_le rfl (s_ix op2_ix (fun _ _ => rfl) (k_var C 1 rfl (by decide +kernel)) s_int) s_int) (w_and (t_cmp cm2_gt rfl (s_ix op2_ix (fun _ _ => rfl) (k_var C 1 rfl (by decide +kernel)) s_int) s_int) (w_and1 (t_cmp cm2_lt rfl (s_ix op2_ix (fun _ _ => rfl) (k_var C 1 rfl (by decide +kernel)) s_int) s_int))))) (b_cons (s_if (t_w (w_or (t_cmp (cm2_ne C.hu) rfl (k_fn C F_add_months (by dsimp only; decide) (by decide +kernel) rfl rfl (a_cons rfl (k_fn C F_add_months (by dsimp only; decide) (by decide +kernel) rfl rfl (a_cons rfl (k_var C 3 rfl (by decide +kernel)) (a_cons rfl (k_var C 5 rfl (by decide +kernel)) a_nil))) (a_cons rfl (k_var C 6 rfl (by decide +kernel)) a_nil))) (k_fn C F_add_months (by dsimp only; decide) (by decide +kernel) rfl rfl (a_cons rfl (k_var C 3 rfl (by decide +kernel)) (a_cons rfl (s_bin op2_add (k_var C 5 rfl (by decide +kernel)) (k_var C 6 rfl (by decide +kernel))) a_nil)))) (w_or (t_cmp (cm2_ne C.hu) rfl (k_fn C F_add_months (by dsimp only; decide) (by decide +kernel) rfl rfl (a_cons rfl (k_fn C F_add_months (by dsimp only; decide) (by decide +kernel) rfl rfl (a_cons rfl (k_var C 3 rfl (by decide +kernel)) (a_cons rfl (k_var C 5 rfl (by decide +kernel)) a_nil))) (a_cons rfl (s_bin op2_sub s_int (k_var C 5 rfl (by decide +kernel))) a_nil))) (k_var C 3 rfl (by decide +kernel))) (w_or1 (t_cmp (cm2_ne C.hu) rfl (k_fn C F_months_between (by dsimp only; decide) (by decide +kernel) rfl rfl (a_cons rfl (k_var C 3 rfl (by decide +kernel)) (a_cons rfl (k_fn C F_add_months (by dsimp only; decide) (by decide +kernel) rfl rfl (a_cons rfl (k_var C 3 rfl (by decide +kernel)) (a_cons rfl (k_var C 5 rfl (by decide +kernel)) a_nil))) a_nil))) (k_var C 5 rfl (by decide +kernel))))))) (b_cons (s_ret s_bl) b_nil) b_nil) b_nil) b_nil) (b_cons (k_set C 9 rfl (by decide +kernel) rfl (k_fn C F_months_between (by dsimp only; decide) (by decide +kernel) rfl rfl (a_cons rfl (k_var C 3 rfl (by decide +kernel)) (a_cons rfl (k_var C 4 rfl (by decide +kernel)) a_nil)))) (b_cons (k_for C (fun _ => rfl) (i_seq (s_lst (a_cons rfl (s_tup (a_cons rfl (k_var C 9 rfl (by decide +kernel)) (a_cons rfl s_bl a_nil))) (a_cons rfl (s_tup (a_cons rfl (s_bin op2_add (k_var C 9 rfl (by decide +kernel)) s_int) (a_cons rfl s_bl a_nil))) a_nil)))) (kg_tup C rfl rfl (fun _ _ _ e => gsC_len (fun _ _ _ e => gsC_len (fun _ _ _ e => gs0_len e) e) e) (gs_cons rfl (kg_nm C 7 rfl (by decide +kernel)) (gs_cons rfl (kg_nm C 10 rfl (by decide +kernel)) gs_nil))) (b_cons (k_set C 8 rfl (by decide +kernel) rfl (k_fn C F__law_on (by dsimp only; decide) (by decide +kernel) rfl rfl (a_cons rfl (k_var C 1 rfl (by decide +kernel)) (a_cons rfl (k_var C 7 rfl (by decide +kernel)) a_nil)))) (b_cons (s_if (t_w (w_and (t_chn cm2_le cm2_le rfl s_int (s_ix op2_ix (fun _ _ => rfl) (k_var C 8 rfl (by decide +kernel)) s_int) s_int) (w_and1 (t_cmp (cm2_ne C.hu) rfl (s_cmp cm2_gt rfl (k_fn C F_days_of (by dsimp only; decide) (by decide +kernel) rfl rfl (a_cons rfl (s_ix op2_ix (fun _ _ => rfl) (k_var C 8 rfl (by decide +kernel)) s_int) (a_cons rfl (s_ix op2_ix (fun _ _ => rfl) (k_var C 8 rfl (by decide +kernel)) s_int) (a_cons rfl (s_ix op2_ix (fun _ _ => rfl) (k_var C 8 rfl (by decide +kernel)) s_int) a_nil)))) (k_var C 4 rfl (by decide +kernel))) (k_var C 10 rfl (by decide +kernel)))))) (b_cons (s_ret s_bl) b_nil) b_nil) b_nil))) (b_cons (s_ret (s_and (s_cmp (cm2_eq C.hu) rfl (k_fn C F_months_between (by dsimp only; decide) (by decide +kernel) rfl rfl (a_cons rfl (k_var C 3 rfl (by decide +kernel)) (a_cons rfl (k_var C 3 rfl (by decide +kernel)) a_nil))) s_int) (s_and (s_cmp (cm2_eq C.hu) rfl (s_cmp cm2_ge rfl (k_var C 9 rfl (by decide +kernel)) s_int) (s_cmp cm2_ge rfl (k_var C 4 rfl (by decide +kernel)) (k_var C 3 rfl (by decide +kernel)))) (s_one (s_cmp cm2_ge rfl (k_fn C F_months_between (by dsimp only; decide) (by decide +kernel) rfl rfl (a_cons rfl (k_var C 3 rfl (by decide +kernel)) (a_cons rfl (s_bin op2_add (k_var C 4 rfl (by decide +kernel)) s_int) a_nil))) (k_var C 9 rfl (by decide +kernel))))))) b_nil)))))))
theorem o_next_weekday {f : Addr} {fd : FuncData} (F : Fun K "next_weekday" "next_weekday" s_next_weekday f fd) (hm : mg "next_weekday" = some (.ref f)) (hb : Binds K fd ["days", "name"] []) (hB : ∀ x ∈ bnL, mg x = none) (F_check_days : FnF P w K mg base 2 "check_days" ["days"] f_check_days) (h_NAMES : GT K mg "NAMES" ((["Mon", "Tue", "Wed", "Thu", "Fri", "Sat", "Sun"] : List Str).map V.str)) : FnF P w K mg base 3 "next_weekday" ["days", "name"] f_next_weekday :=
  def_ok (bn := bnL) F hm hb hB sc_next_weekday fun X sa C =>
  (b_cons (s_drop rfl (k_fn C F_check_days (by dsimp only; decide) (by decide +kernel) rfl rfl (a_cons rfl (k_var C 0 rfl (by decide +kernel)) a_nil))) (b_cons (s_if (t_w (w_or (t_not (t_of (fun _ => rfl) (k_isi C (by decide +kernel) (by dsimp only; decide +kernel) rfl (by decide +kernel) (by dsimp only; decide +kernel) rfl rfl (k_var C 1 rfl (by decide +kernel))))) (w_or1 (t_cmp cm2_notin rfl (k_var C 1 rfl (by decide +kernel)) (k_gtS C ["Mon", "Tue", "Wed", "Thu", "Fri", "Sat", "Sun"] (by decide +kernel) h_NAMES))))) (b_cons s_bad b_nil) b_nil) (b_cons (k_set C 2 rfl (by decide +kernel) rfl (s_bin op2_add (k_var C 0 rfl (by decide +kernel)) (s_bin op2_mod (s_bin op2_sub (s_bin op2_sub (k_gidx C ["Mon", "Tue", "Wed", "Thu", "Fri", "Sat", "Sun"] (by decide +kernel) h_NAMES rfl rfl rfl (k_var C 1 rfl (by decide +kernel))) (k_var C 0 rfl (by decide +kernel))) s_int) s_int))) (b_cons (s_drop rfl (k_fn C F_check_days (by dsimp only; decide) (by decide +kernel) rfl rfl (a_cons rfl (k_var C 2 rfl (by decide +kernel)) a_nil))) (b_cons (s_ret (k_var C 2 rfl (by decide +kernel))) b_nil)))))
theorem o__law_weeks_hold {f : Addr} {fd : FuncData} (F : Fun K "_law_weeks_hold" "_law_weeks_hold" s__law_weeks_hold f fd) (hm : mg "_law_weeks_hold" = some (.ref f)) (hb : Binds K fd ["state", "date"] []) (hB : ∀ x ∈ bnL, mg x = none) (F_days_of : FnF P w K mg base 4 "days_of" ["year", "month", "day"] f_days_of) (F__law_draw : FnF P w K mg base 1 "_law_draw" ["state", "many"] drawD) (F_next_weekday : FnF P w K mg base 3 "next_weekday" ["days", "name"] f_next_weekday) (F_weekday : FnF P w K mg base 3 "weekday" ["days"] f_weekday) : FnF P w K mg base 5 "_law_weeks_hold" ["state", "date"] f__law_weeks_hold :=
  def_ok (bn := bnL) F hm hb hB sc__law_weeks_hold fun X sa C =>
  (b_cons (k_toC2 C (by decide +kernel) (kg_tup C rfl rfl (fun _ _ _ e => gsC_len (fun _ _ _ e => gsC_len (fun _ _ _ e => gs0_len e) e) e) (gs_cons rfl (kg_nm C 2 rfl (by decide +kernel)) (gs_cons rfl (kg_nm C 3 rfl (by decide +kernel)) gs_nil))) (s_tup (a_cons rfl (k_fn C F_days_of (by dsimp only; decide) (by decide +kernel) rfl rfl (a_cons rfl (s_ix op2_ix (fun _ _ => rfl) (k_var C 1 rfl (by decide +kernel)) s_int) (a_cons rfl (s_ix op2_ix (fun _ _ => rfl) (k_var C 1 rfl (by decide +kernel)) s_int) (a_cons rfl (s_ix op2_ix (fun _ _ => rfl) (k_var C 1 rfl (by decide +kernel)) s_int) a_nil)))) (a_cons rfl (s_lst (a_cons rfl s_str (a_cons rfl s_str (a_cons rfl s_str (a_cons rfl s_str (a_cons rfl s_str (a_cons rfl s_str (a_cons rfl s_str a_nil)))))))) a_nil)))) (b_cons (k_par C 4 5 rfl rfl (by decide) (by decide +kernel) (by decide +kernel) (by decide +kernel) (by decide +kernel) rfl rfl rfl rfl rfl (k_fn C F__law_draw (by dsimp only; decide) (by decide +kernel) rfl rfl (a_cons rfl (k_var C 0 rfl (by decide +kernel)) (a_cons rfl s_int a_nil))) (k_fn C F__law_draw (by dsimp only; decide) (by decide +kernel) rfl rfl (a_cons rfl (k_var C 0 rfl (by decide +kernel)) (a_cons rfl s_int a_nil)))) (b_cons (k_set C 6 rfl (by decide +kernel) rfl (k_fn C F_next_weekday (by dsimp only; decide) (by decide +kernel) rfl rfl (a_cons rfl (k_var C 2 rfl (by decide +kernel)) (a_cons rfl (s_ix op2_ix (fun _ _ => rfl) (k_var C 3 rfl (by decide +kernel)) (k_var C 4 rfl (by decide +kernel))) a_nil)))) (b_cons (s_if (t_w (w_or (t_cmp (cm2_ne C.hu) rfl (k_fn C F_weekday (by dsimp only; decide) (by decide +kernel) rfl rfl (a_cons rfl (k_var C 6 rfl (by decide +kernel)) a_nil)) (k_var C 4 rfl (by decide +kernel))) (w_or (t_not (t_chn cm2_le cm2_lt rfl s_int (s_bin op2_sub (k_var C 6 rfl (by decide +kernel)) (k_var C 2 rfl (by decide +kernel))) s_int)) (w_or (t_cmp (cm2_ne C.hu) rfl (k_fn C F_next_weekday (by dsimp only; decide) (by decide +kernel) rfl rfl (a_cons rfl (k_var C 6 rfl (by decide +kernel)) (a_cons rfl (s_ix op2_ix (fun _ _ => rfl) (k_var C 3 rfl (by decide +kernel)) (k_var C 4 rfl (by decide +kernel))) a_nil))) (k_var C 6 rfl (by decide +kernel))) (w_or1 (t_cmp (cm2_ne C.hu) rfl (k_fn C F_next_weekday (by dsimp only; decide) (by decide +kernel) rfl rfl (a_cons rfl (s_bin op2_add (k_var C 6 rfl (by decide +kernel)) s_int) (a_cons rfl (s_ix op2_ix (fun _ _ => rfl) (k_var C 3 rfl (by decide +kernel)) (k_var C 4 rfl (by decide +kernel))) a_nil))) (s_bin op2_add (k_var C 6 rfl (by decide +kernel)) s_int))))))) (b_cons (s_ret s_bl) b_nil) b_nil) (b_cons (s_if (t_w (w_or (t_cmp (cm2_ne C.hu) rfl (k_fn C F_weekday (by dsimp only; decide) (by decide +kernel) rfl rfl (a_cons rfl (s_bin op2_add (k_var C 2 rfl (by decide +kernel)) (s_bin op2_mul s_int (k_var C 5 rfl (by decide +kernel)))) a_nil)) (k_fn C F_weekday (by dsimp only; decide) (by decide +kernel) rfl rfl (a_cons rfl (k_var C 2 rfl (by decide +kernel)) a_nil))) (w_or (t_cmp (cm2_ne C.hu) rfl (k_fn C F_weekday (by dsimp only; decide) (by decide +kernel) rfl rfl (a_cons rfl (s_bin op2_add (k_var C 2 rfl (by decide +kernel)) s_int) a_nil)) (s_bin op2_mod (k_typ C cd_int (by decide +kernel) (by dsimp only; decide +kernel) rfl rfl rfl (a_cons rfl (s_bin op2_add (k_fn C F_weekday (by dsimp only; decide) (by decide +kernel) rfl rfl (a_cons rfl (k_var C 2 rfl (by decide +kernel)) a_nil)) s_int) a_nil)) s_int)) (w_or (t_cmp (cm2_ne C.hu) rfl (k_fn C F_weekday (by dsimp only; decide) (by decide +kernel) rfl rfl (a_cons rfl s_int a_nil)) s_int) (w_or1 (t_cmp (cm2_ne C.hu) rfl (k_fn C F_days_of (by dsimp only; decide) (by decide +kernel) rfl rfl (a_cons rfl s_int (a_cons rfl s_int (a_cons rfl s_int a_nil)))) s_int)))))) (b_cons (s_ret s_bl) b_nil) b_nil) (b_cons (k_setLc C 7 [("own", 8)]  rfl (by decide +kernel) (by dsimp only; decide +kernel) (by decide +kernel) (by decide +kernel)  (fun _ => rfl) (i_seq (k_var C 3 rfl (by decide +kernel))) (fun Y C => (kg_nm C 8 rfl (by decide +kernel))) (fun Y C => c_nil) (fun Y C => (k_fn C F_next_weekday (by dsimp only; decide) (by decide +kernel) rfl rfl (a_cons rfl (k_var C 2 rfl (by decide +kernel)) (a_cons rfl (k_var C 8 rfl (by decide +kernel)) a_nil)))) (by decide)) (b_cons (s_ret (s_and (s_cmp (cm2_eq C.hu) rfl (k_blt C cd_sorted (by decide +kernel) (by dsimp only; decide +kernel) rfl rfl rfl (a_cons rfl (k_var C 7 rfl (by decide +kernel)) a_nil)) (k_lrg2 C (by decide +kernel) (by dsimp only; decide +kernel) (by decide +kernel) (by dsimp only; decide +kernel) rfl rfl (k_var C 2 rfl (by decide +kernel)) (s_bin op2_add (k_var C 2 rfl (by decide +kernel)) s_int))) (s_one (s_cmp (cm2_eq C.hu) rfl (s_ix op2_ix (fun _ _ => rfl) (k_var C 7 rfl (by decide +kernel)) (k_fn C F_weekday (by dsimp only; decide) (by decide +kernel) rfl rfl (a_cons rfl (k_var C 2 rfl (by decide +kernel)) a_nil))) (k_var C 2 rfl (by decide +kernel)))))) b_nil)))))))
theorem d_law (F__law_date : FnF P w K mg base 3 "_law_date" ["state"] f__law_date) (F__law_cycles_hold : FnF P w K mg base 5 "_law_cycles_hold" ["date"] f__law_cycles_hold) (F__law_months_hold : FnF P w K mg base 5 "_law_months_hold" ["state", "date", "other"] f__law_months_hold) (F__law_weeks_hold : FnF P w K mg base 5 "_law_weeks_hold" ["state", "date"] f__law_weeks_hold) (X : Cx) (sa : Addr × Addr) (C : Ctx ⟨P, w, K, mg, base, 5, ["script", "state", "turn", "date", "other"], bnL⟩ (defScope s_law) true X) : SndB X sa ((defBody s_law).drop 1) b_law :=
  (b_cons (k_for C (fun _ => rfl) (k_rg1 C (by decide +kernel) (by dsimp only; decide +kernel) rfl s_int) (kg_nm C 2 rfl (by decide +kernel)) (b_cons (k_par C 3 4 rfl rfl (by decide) (by decide +kernel) (by decide +kernel) (by decide +kernel) (by decide +kernel) rfl rfl rfl rfl rfl (k_fn C F__law_date (by dsimp only; decide) (by decide +kernel) rfl rfl (a_cons rfl (k_var C 1 rfl (by decide +kernel)) a_nil)) (k_fn C F__law_date (by dsimp only; decide) (by decide +kernel) rfl rfl (a_cons rfl (k_var C 1 rfl (by decide +kernel)) a_nil))) (b_cons (s_if (t_w (w_or (t_not (t_of (fun _ => rfl) (k_fn C F__law_cycles_hold (by dsimp only; decide) (by decide +kernel) rfl rfl (a_cons rfl (k_var C 3 rfl (by decide +kernel)) a_nil)))) (w_or (t_not (t_of (fun _ => rfl) (k_fn C F__law_months_hold (by dsimp only; decide) (by decide +kernel) rfl rfl (a_cons rfl (k_var C 1 rfl (by decide +kernel)) (a_cons rfl (k_var C 3 rfl (by decide +kernel)) (a_cons rfl (k_var C 4 rfl (by decide +kernel)) a_nil)))))) (w_or1 (t_not (t_of (fun _ => rfl) (k_fn C F__law_weeks_hold (by dsimp only; decide) (by decide +kernel) rfl rfl (a_cons rfl (k_var C 1 rfl (by decide +kernel)) (a_cons rfl (k_var C 3 rfl (by decide +kernel)) a_nil))))))))) (b_cons (s_ret s_bl) b_nil) b_nil) b_nil))) (b_cons (s_ret s_bl) b_nil))
end
end K06

set_option Elab.async false
set_option linter.all false
set_option maxRecDepth 100000
set_option maxHeartbeats 4000000
/-! The plain law of k06: months by place, days by number. -/
namespace K06
open PL
def lp (y : Int) : Int := if y % 4 = 0 ∧ (y % 100 ≠ 0 ∨ y % 400 = 0) then 1 else 0
def ya (y : Int) : Int := 365 * (y - 1) + (y - 1) / 4 - (y - 1) / 100 + (y - 1) / 400
theorem lp_b (y : Int) : 0 ≤ lp y ∧ lp y ≤ 1 := by unfold lp; split <;> omega
theorem ya_succ (y : Int) : ya (y + 1) = ya y + 365 + lp y := by
  unfold ya lp
  split <;> omega
theorem ya_400 (y : Int) : ya (y + 400) = ya y + 146097 := by unfold ya; omega
theorem lp_400 (y : Int) : lp (y + 400) = lp y := by
  unfold lp
  have h1 : (y + 400) % 4 = y % 4 := by omega
  have h2 : (y + 400) % 100 = y % 100 := by omega
  have h3 : (y + 400) % 400 = y % 400 := by omega
  rw [h1, h2, h3]
theorem ya_le : ∀ (n : Nat) (y : Int), ya y + 365 * n ≤ ya (y + n)
  | 0, y => by simp
  | n + 1, y => by
    have := ya_le n y
    have h := ya_succ (y + n)
    have := lp_b (y + n)
    rw [show y + ((n + 1 : Nat) : Int) = y + n + 1 by omega, h]
    omega
theorem ya_mono {y z : Int} (h : y ≤ z) : ya y ≤ ya z := by
  have := ya_le (z - y).toNat y
  rw [show y + ((z - y).toNat : Int) = z by omega] at this
  omega
def lnm (y m : Int) : Int := if m = 2 then 28 + lp y else if m = 4 ∨ m = 6 ∨ m = 9 ∨ m = 11 then 30 else 31
def cum (y m : Int) : Int := if m ≤ 1 then 0 else if m = 2 then 31 else lp y + (if m = 3 then 59 else if m = 4 then 90 else if m = 5 then 120 else if m = 6 then 151 else if m = 7 then 181 else if m = 8 then 212 else if m = 9 then 243 else
  if m = 10 then 273 else if m = 11 then 304 else if m = 12 then 334 else 365)
theorem m_cases {m : Int} (h : 1 ≤ m ∧ m ≤ 12) : m = 1 ∨ m = 2 ∨ m = 3 ∨ m = 4 ∨ m = 5 ∨ m = 6 ∨ m = 7 ∨ m = 8 ∨ m = 9 ∨ m = 10 ∨ m = 11 ∨ m = 12 := by omega
theorem cum_succ {y m : Int} (h : 1 ≤ m ∧ m ≤ 12) : cum y (m + 1) = cum y m + lnm y m := by
  rcases m_cases h with rfl | rfl | rfl | rfl | rfl | rfl | rfl | rfl | rfl | rfl | rfl | rfl <;> simp [cum, lnm] <;> omega
theorem cum_1 (y : Int) : cum y 1 = 0 := rfl
theorem cum_13 (y : Int) : cum y 13 = 365 + lp y := by simp [cum]; omega
theorem lnm_b (y m : Int) : 28 ≤ lnm y m ∧ lnm y m ≤ 31 := by
  have := lp_b y
  unfold lnm
  split
  · omega
  · split <;> omega
def M (p : Int) : Int := ya (p / 12) + cum (p / 12) (p % 12 + 1)
def ln (p : Int) : Int := lnm (p / 12) (p % 12 + 1)
theorem ln_b (p : Int) : 28 ≤ ln p ∧ ln p ≤ 31 := lnm_b _ _
theorem M_succ (p : Int) : M (p + 1) = M p + ln p := by
  have h := cum_succ (y := p / 12) (m := p % 12 + 1) (by omega)
  unfold M ln
  by_cases hp : p % 12 = 11
  · rw [hp] at h ⊢
    rw [show (p + 1) / 12 = p / 12 + 1 by omega, show (p + 1) % 12 = 0 by omega, ya_succ]
    rw [show (11 : Int) + 1 + 1 = 13 from rfl, cum_13] at h
    rw [show (0 : Int) + 1 = 1 from rfl, cum_1]
    omega
  · rw [show (p + 1) / 12 = p / 12 by omega, show (p + 1) % 12 = p % 12 + 1 by omega, h]
    omega
theorem M_add : ∀ (n : Nat) (p : Int), M p + 28 * n ≤ M (p + n)
  | 0, p => by simp
  | n + 1, p => by
    have := M_add n p
    have h := M_succ (p + n)
    have := ln_b (p + n)
    rw [show p + ((n + 1 : Nat) : Int) = p + n + 1 by omega, h]
    omega
theorem M_lt {p q : Int} (h : p < q) : M p + ln p ≤ M q := by
  have h1 := M_succ p
  have := M_add (q - (p + 1)).toNat (p + 1)
  rw [show p + 1 + ((q - (p + 1)).toNat : Int) = q by omega] at this
  omega
theorem M_4800 (p : Int) : M (p + 4800) = M p + 146097 := by
  unfold M
  rw [show (p + 4800) / 12 = p / 12 + 400 by omega, show (p + 4800) % 12 = p % 12 by omega, ya_400]
  unfold cum
  rw [lp_400]
  omega
theorem ln_4800 (p : Int) : ln (p + 4800) = ln p := by
  unfold ln
  rw [show (p + 4800) / 12 = p / 12 + 400 by omega, show (p + 4800) % 12 = p % 12 by omega]
  unfold lnm
  rw [lp_400]
/-- the number of the day d of the month at place p -/
def num (p d : Int) : Int := M p + d - 1
theorem num_lt {p q d e : Int} (h : p < q) (hd : d ≤ ln p) (he : 1 ≤ e) : num p d < num q e := by
  have := M_lt h
  unfold num; omega
theorem num_inj {p q d e : Int} (hd : 1 ≤ d ∧ d ≤ ln p) (he : 1 ≤ e ∧ e ≤ ln q) (h : num p d = num q e) : p = q ∧ d = e := by
  rcases Int.lt_trichotomy p q with z | z | z
  · have := num_lt z hd.2 he.1; omega
  · subst z; unfold num at h; exact ⟨rfl, by omega⟩
  · have := num_lt z he.2 hd.1; omega
theorem num_ex : ∀ n : Nat, ∃ p d, 12 ≤ p ∧ (1 ≤ d ∧ d ≤ ln p) ∧ (n : Int) = num p d
  | 0 => ⟨12, 1, by omega, ⟨by omega, by have := ln_b 12; omega⟩, by decide⟩
  | n + 1 => by
    obtain ⟨p, d, h1, h2, h3⟩ := num_ex n
    by_cases h : d < ln p
    · exact ⟨p, d + 1, h1, by omega, by unfold num at h3 ⊢; omega⟩
    · refine ⟨p + 1, 1, by omega, ⟨by omega, by have := ln_b (p + 1); omega⟩, ?_⟩
      have := M_succ p
      unfold num at h3 ⊢; omega
theorem M_end : M 120000 = 3652059 := by decide
theorem num_top {p d : Int} (hd : 1 ≤ d) (h : num p d < 3652059) : p < 120000 := by
  rcases Int.lt_or_le p 120000 with z | z
  · exact z
  · have h1 : M 120000 ≤ M p := by
      rcases Int.lt_or_eq_of_le z with k | k
      · have := M_lt k; have := ln_b 120000; omega
      · rw [k]; exact Int.le_refl _
    rw [M_end] at h1
    unfold num at h; omega
theorem num_bot {p d : Int} (hp : 12 ≤ p) (hd : 1 ≤ d) : 0 ≤ num p d := by
  have h0 : M 12 = 0 := by decide
  have h1 : M 12 ≤ M p := by
    rcases Int.lt_or_eq_of_le hp with k | k
    · have := M_lt k; have := ln_b 12; omega
    · rw [k]; exact Int.le_refl _
  unfold num; omega
theorem num_up {p d : Int} (hp : p < 120000) (hd : d ≤ ln p) : num p d < 3652059 := by
  have := M_lt hp
  rw [M_end] at this
  unfold num; omega
end K06

set_option Elab.async false
set_option linter.all false
set_option maxRecDepth 100000
set_option maxHeartbeats 4000000
namespace K06
open PySem PySem.Spec PyProof.Rows L2 PL
@[simp] theorem ev_is_integer (i : Int) (s : S) : f_is_integer [.int i] s = some (.bl true, s) := by
  simp [f_is_integer, fnSem_ap, b_is_integer]
theorem ev_is_leap (y : Int) (s : S) : f_is_leap [.int y] s = some (.bl (decide (lp y = 1)), s) := by
  unfold lp
  by_cases h1 : y % 4 = 0 <;> by_cases h2 : y % 100 = 0 <;> by_cases h3 : y % 400 = 0 <;> simp [f_is_leap, fnSem_ap, b_is_leap, h1, h2, h3]
def LN : List Int := [31, 28, 31, 30, 31, 30, 31, 31, 30, 31, 30, 31]
theorem ev_length_of {y m : Int} {s : S} (h : 1 ≤ m ∧ m ≤ 12) : f_length_of [.int y, .int m] s = some (.int (lnm y m), s) := by
  have hl := lp_b y
  have e := ev_is_leap y s
  have hat : ∀ (k : Nat) (v : Int), k < 12 → LN[k]? = some v → atI [D.int 31, .int 28, .int 31, .int 30, .int 31, .int 30, .int 31, .int 31, .int 30, .int 31, .int 30, .int 31] (k : Int) = some (.int v) := fun k v _ hv => by
    have : atI (dI LN) (k : Int) = some (.int v) := by
      rw [atI_dI, atI_nat hv]; rfl
    exact this
  rcases m_cases h with rfl | rfl | rfl | rfl | rfl | rfl | rfl | rfl | rfl | rfl | rfl | rfl
  · have := hat 0 31 (by omega) rfl
    simp at this; simp [f_length_of, fnSem_ap, b_length_of, this, lnm]
  · have := hat 1 28 (by omega) rfl
    simp at this
    by_cases hq : lp y = 1
    · simp [f_length_of, fnSem_ap, b_length_of, this, lnm, e, hq]
    · have : lp y = 0 := by omega
      simp [f_length_of, fnSem_ap, b_length_of, *, lnm]
  · have := hat 2 31 (by omega) rfl
    simp at this; simp [f_length_of, fnSem_ap, b_length_of, this, lnm]
  · have := hat 3 30 (by omega) rfl
    simp at this; simp [f_length_of, fnSem_ap, b_length_of, this, lnm]
  · have := hat 4 31 (by omega) rfl
    simp at this; simp [f_length_of, fnSem_ap, b_length_of, this, lnm]
  · have := hat 5 30 (by omega) rfl
    simp at this; simp [f_length_of, fnSem_ap, b_length_of, this, lnm]
  · have := hat 6 31 (by omega) rfl
    simp at this; simp [f_length_of, fnSem_ap, b_length_of, this, lnm]
  · have := hat 7 31 (by omega) rfl
    simp at this; simp [f_length_of, fnSem_ap, b_length_of, this, lnm]
  · have := hat 8 30 (by omega) rfl
    simp at this; simp [f_length_of, fnSem_ap, b_length_of, this, lnm]
  · have := hat 9 31 (by omega) rfl
    simp at this; simp [f_length_of, fnSem_ap, b_length_of, this, lnm]
  · have := hat 10 30 (by omega) rfl
    simp at this; simp [f_length_of, fnSem_ap, b_length_of, this, lnm]
  · have := hat 11 31 (by omega) rfl
    simp at this; simp [f_length_of, fnSem_ap, b_length_of, this, lnm]
theorem ev_long {y m : Int} {s : S} (h : 1 ≤ m ∧ m ≤ 12) : f__law_long [.int y, .int m] s = some (.int (lnm y m), s) := by
  have hat : ∀ (k : Nat) (v w : Int), k < 12 → [31, w, 31, 30, 31, 30, 31, 31, 30, 31, 30, 31][k]? = some v → atI [D.int 31, .int w, .int 31, .int 30, .int 31, .int 30, .int 31, .int 31, .int 30, .int 31, .int 30, .int 31] (k : Int) = some (.int v) := fun k v w _ hv => by
    have : atI (dI [31, w, 31, 30, 31, 30, 31, 31, 30, 31, 30, 31]) (k : Int) = some (.int v) := by
      rw [atI_dI, atI_nat hv]; rfl
    exact this
  have s12 : 12 ≤ sizeLine := sl_of (by omega)
  have e : ∀ w, lnm y m = (if m = 2 then w else lnm y m) → atI [D.int 31, .int w, .int 31, .int 30, .int 31, .int 30, .int 31, .int 31, .int 30, .int 31, .int 30, .int 31] (m - 1) = some (.int (lnm y m)) := fun w hw => by
    have := hat (m - 1).toNat (lnm y m) w (by omega) (by
      rcases m_cases h with rfl | rfl | rfl | rfl | rfl | rfl | rfl | rfl | rfl | rfl | rfl | rfl <;> simp [lnm] at hw ⊢ <;> omega)
    rw [show ((m - 1).toNat : Int) = m - 1 by omega] at this
    exact this
  have e1 := e (28 + lp y) (by
    by_cases hm : m = 2
    · rw [if_pos hm, hm]; simp [lnm]
    · rw [if_neg hm])
  have hl := lp_b y
  have hd : lp y = 1 ∧ (y % 4 = 0 ∧ (y % 100 ≠ 0 ∨ y % 400 = 0)) ∨ lp y = 0 ∧ ¬ (y % 4 = 0 ∧ (y % 100 ≠ 0 ∨ y % 400 = 0)) := by
    unfold lp
    split
    · rename_i h; exact .inl ⟨rfl, h⟩
    · rename_i h; exact .inr ⟨rfl, h⟩
  rcases hd with ⟨q, k1, k2⟩ | ⟨q, k⟩
  · rw [q] at e1
    rcases k2 with k2 | k2
    · simp [f__law_long, fnSem_ap, b__law_long, k1, k2, s12] at e1 ⊢
      simp [e1]
    · by_cases k3 : y % 100 = 0
      · simp [f__law_long, fnSem_ap, b__law_long, k1, k2, k3, s12] at e1 ⊢
        simp [e1]
      · simp [f__law_long, fnSem_ap, b__law_long, k1, k3, s12] at e1 ⊢
        simp [e1]
  · rw [q] at e1
    by_cases k1 : y % 4 = 0
    · have k2 : y % 100 = 0 := by
        by_cases z : y % 100 = 0
        · exact z
        · exact absurd ⟨k1, .inl z⟩ k
      have k3 : ¬ y % 400 = 0 := fun z => k ⟨k1, .inr z⟩
      simp [f__law_long, fnSem_ap, b__law_long, k1, k2, k3, s12] at e1 ⊢
      simp [e1]
    · simp [f__law_long, fnSem_ap, b__law_long, k1, s12] at e1 ⊢
      simp [e1]
/-! dates -/
structure Dt (p d : Int) : Prop where
  hp : 12 ≤ p ∧ p < 120000
  hd : 1 ≤ d ∧ d ≤ ln p
theorem mk_p {y m : Int} (h : 1 ≤ m ∧ m ≤ 12) : (12 * y + m - 1) / 12 = y ∧ (12 * y + m - 1) % 12 + 1 = m := by omega
theorem ev_is_date {y m d : Int} {s : S} : f_is_date [.int y, .int m, .int d] s = some (.bl (decide ((1 ≤ y ∧ y ≤ 9999) ∧ (1 ≤ m ∧ m ≤ 12) ∧ 1 ≤ d ∧ d ≤ lnm y m)), s) := by
  by_cases h1 : 1 ≤ y <;> by_cases h2 : y ≤ 9999 <;> by_cases h3 : 1 ≤ m <;> by_cases h4 : m ≤ 12 <;> try (simp [f_is_date, fnSem_ap, b_is_date, h1, h2, h3, h4]; done)
  have e := ev_length_of (y := y) (m := m) (s := s) ⟨h3, h4⟩
  by_cases h5 : 1 ≤ d
  · simp [f_is_date, fnSem_ap, b_is_date, h1, h2, h3, h4, h5, e]
  · simp [f_is_date, fnSem_ap, b_is_date, h1, h2, h3, h4, h5]
theorem ev_years (y : Int) (s : S) : f_years_ahead [.int y] s = some (.int (ya y), s) := by
  have k1 : okDv 4 := okDv_of (by omega)
  have k2 : okDv 100 := okDv_of (by omega)
  have k3 : okDv 400 := okDv_of (by omega)
  have k4 : okM 365 (y - 1) := okM_l (by omega)
  simp [f_years_ahead, fnSem_ap, b_years_ahead, k1, k2, k3, k4, ya]
theorem sum_len (y : Int) : ∀ k : Nat, k ≤ 12 → ((List.range k).map fun i : Nat => lnm y (1 + (i : Int))).sum = cum y (k + 1)
  | 0, _ => rfl
  | k + 1, h => by
    have ih := sum_len y k (by omega)
    have := cum_succ (y := y) (m := (k : Int) + 1) (by omega)
    rw [List.range_succ, List.map_append, List.sum_append, ih]
    simp only [List.map_cons, List.map_nil, List.sum_cons, List.sum_nil, Int.add_zero]
    rw [show ((k + 1 : Nat) : Int) + 1 = (k : Int) + 1 + 1 by omega, this, Int.add_comm 1 (k : Int)]
theorem lcL_sum {y m d : Int} {s : S} {x3 : Option Ent} (h : 1 ≤ m ∧ m ≤ 13) : lcL (gN 3) cNil (eFn f_length_of (aCons (eVar 0) (aCons (eVar 3) aNil))) [some (.sh (.int y)), some (.sh (.int m)), some (.sh (.int d)), x3] (rngD 1 m) s = some (dI ((List.range (m - 1).toNat).map fun i : Nat => lnm y (1 + (i : Int))), s) := by
  have e := lcL_map (g := gN 3) (c := cNil) (f := eFn f_length_of (aCons (eVar 0) (aCons (eVar 3) aNil))) (ρ0 := [some (.sh (.int y)), some (.sh (.int m)), some (.sh (.int d)), x3]) (s := s) (fun d => match d with | .int i => .int (lnm y i) | d => d) (rngD 1 m) (fun d hd => by
    obtain ⟨i, hi, rfl⟩ := List.mem_map.mp hd
    have := List.mem_range.mp hi
    have e := ev_length_of (y := y) (m := 1 + (i : Int)) (s := s) (by omega)
    refine ⟨_, .sh (.int (lnm y (1 + (i : Int)))), rfl, rfl, ?_, rfl⟩
    simp [e])
  rw [e]
  unfold rngD dI
  rw [List.map_map, List.map_map]
  rfl
theorem sumD_dI (ns : List Int) : sumD [.lst (dI ns)] = some (.sh (.int ns.sum)) := by
  show (intsOf (dI ns)).bind _ = _
  rw [intsOf_dI]; rfl
theorem ev_count {y m d : Int} {s : S} (h : 1 ≤ m ∧ m ≤ 12) : f_count [.int y, .int m, .int d] s = some (.int (ya y + cum y m + d - 1 - 719162), s) := by
  have e1 := ev_years y s
  have e2 := lcL_sum (y := y) (m := m) (d := d) (s := s) (x3 := none) (by omega)
  have k1 : okR 1 := okR_of (by omega)
  have k2 : okR m := okR_of (by omega)
  have e3 := sum_len y (m - 1).toNat (by omega)
  rw [show (((m - 1).toNat : Nat) : Int) + 1 = m by omega] at e3
  have e4 := sumD_dI ((List.range (m - 1).toNat).map fun i : Nat => lnm y (1 + (i : Int)))
  rw [e3] at e4
  have k3 : (rngD 1 m).length ≤ sizeLine := sl_of (by unfold rngD; simp; omega)
  generalize ((List.range (m - 1).toNat).map fun i : Nat => lnm y (1 + (i : Int))) = L at e2 e4
  simp [f_count, fnSem_ap, b_count, e1, e2, k1, k2, e4, k3]
theorem ev_days {p d : Int} {s : S} (h : Dt p d) : f_days_of [.int (p / 12), .int (p % 12 + 1), .int d] s = some (.int (num p d - 719162), s) := by
  have h1 := h.hp
  have h2 := h.hd
  have e1 := ev_is_date (y := p / 12) (m := p % 12 + 1) (d := d) (s := s)
  rw [decide_eq_true (by refine ⟨by omega, by omega, h2.1, ?_⟩; exact h2.2)] at e1
  have e2 := ev_count (y := p / 12) (m := p % 12 + 1) (d := d) (s := s) (by omega)
  simp [f_days_of, fnSem_ap, b_days_of, e1, e2]
  unfold num M
  omega
theorem ev_check_days {n : Int} {s : S} (h : -719162 ≤ n ∧ n < 3652059 - 719162) : f_check_days [.int n] s = some (.non, s) := by
  have h2 : n < 2932897 := by omega
  simp [f_check_days, fnSem_ap, b_check_days, h.1, h2]
theorem ev_weekday {n : Int} {s : S} (h : -719162 ≤ n ∧ n < 3652059 - 719162) : f_weekday [.int n] s = some (.int ((n + 3) % 7), s) := by
  simp [f_weekday, fnSem_ap, b_weekday, ev_check_days h]
theorem Dt.ok {p d : Int} (h : Dt p d) : -719162 ≤ num p d - 719162 ∧ num p d - 719162 < 3652059 - 719162 := by
  have h1 := num_bot h.hp.1 h.hd.1
  have h2 := num_up h.hp.2 h.hd.2
  omega
end K06

set_option Elab.async false
set_option linter.all false
set_option maxRecDepth 100000
set_option maxHeartbeats 4000000
namespace K06
open PySem PySem.Spec PyProof.Rows L2 PL
theorem fnSem_rt {np n : Nat} {body : FS} {ds : List D} {d : D} {s s' : S} (hl : ds.length = np) (h : body (ds.map (fun d => some (Ent.sh d)) ++ List.replicate (n - np) none) s = some (.rt d s')) : fnSem np n body ds s = some (d, s') := by
  rw [fnSem_ap, if_pos hl, h]; rfl
theorem fnSem_nx {np n : Nat} {body : FS} {ds : List D} {ρ : PL.Env} {s s' : S} (hl : ds.length = np) (h : body (ds.map (fun d => some (Ent.sh d)) ++ List.replicate (n - np) none) s = some (.nx ρ s')) : fnSem np n body ds s = some (.non, s') := by
  rw [fnSem_ap, if_pos hl, h]; rfl
theorem whL_go {t : FT} {k : FS} {n : Nat} {ρ ρ2 : PL.Env} {s s1 s2 : S} (ht : t ρ s = some (true, s1)) (hb : k ρ s1 = some (.nx ρ2 s2)) : whL t k (n + 1) ρ s = whL t k n ρ2 s2 := by
  rw [whL, ht, Option.bind_some, if_pos rfl, hb]; rfl
theorem whL_end {t : FT} {k : FS} {n : Nat} {ρ : PL.Env} {s s1 : S} (ht : t ρ s = some (false, s1)) : whL t k (n + 1) ρ s = some (.nx ρ s1) := by
  rw [whL, ht, Option.bind_some, if_neg Bool.false_ne_true]
theorem bis {n N Y : Int} {x5 x6 : Option Ent} {s : S} (h1 : ya Y ≤ N) (h2 : N < ya (Y + 1)) : ∀ (k fuel : Nat) (low high : Int) (x4 : Option Ent), high - low < 2 ^ k → k < fuel → 1 ≤ low ∧ low ≤ Y ∧ Y ≤ high ∧ high ≤ 9999 → ∃ x4',
    whL (tCmp2 ltD (eVar 2) (eVar 3)) (bCons (sSet 4 (eOp2 divD (eOp2 addD (eOp2 addD (eVar 2) (eVar 3)) (eC (.int 1))) (eC (.int 2)))) (bCons (sIf (tCmp2 leD (eFn f_years_ahead (aCons (eVar 4) aNil)) (eVar 1)) (bCons (sSet 2 (eVar 4)) bNil) (bCons (sSet 3 (eOp2 subD (eVar 4) (eC (.int 1)))) bNil)) bNil)) fuel
      [some (.sh (.int n)), some (.sh (.int N)), some (.sh (.int low)), some (.sh (.int high)), x4, x5, x6] s = some (.nx [some (.sh (.int n)), some (.sh (.int N)), some (.sh (.int Y)), some (.sh (.int Y)), x4', x5, x6] s)
  | 0, 0, _, _, _, _, hf, _ => by omega
  | 0, fuel + 1, low, high, x4, hk, hf, h => by
    have e1 : low = Y := by have : (2 : Int) ^ 0 = 1 := rfl; omega
    have e2 : high = Y := by have : (2 : Int) ^ 0 = 1 := rfl; omega
    subst e1
    subst e2
    refine ⟨x4, whL_end ?_⟩
    simp
  | k + 1, 0, _, _, _, _, hf, _ => by omega
  | k + 1, fuel + 1, low, high, x4, hk, hf, h => by
    have hp : (2 : Int) ^ (k + 1) = 2 * 2 ^ k := by rw [Int.pow_succ, Int.mul_comm]
    by_cases hlt : low < high
    · have e3 := ev_years ((low + high + 1) / 2) s
      have k2 : okDv 2 := okDv_of (by omega)
      by_cases hy : ya ((low + high + 1) / 2) ≤ N
      · have hY : (low + high + 1) / 2 ≤ Y := by
          rcases Int.lt_or_le Y ((low + high + 1) / 2) with z | z
          · have := ya_mono (show Y + 1 ≤ (low + high + 1) / 2 by omega); omega
          · exact z
        obtain ⟨x, ih⟩ := bis h1 h2 k fuel ((low + high + 1) / 2) high (some (.sh (.int ((low + high + 1) / 2)))) (by omega) (by omega) (by omega)
        refine ⟨x, (whL_go (s1 := s) (ρ2 := _) (s2 := s) ?_ ?_).trans ih⟩
        · simp [hlt]
        · simp [k2, e3, hy]
      · have hY : Y ≤ (low + high + 1) / 2 - 1 := by
          rcases Int.lt_or_le Y ((low + high + 1) / 2) with z | z
          · omega
          · have := ya_mono z; omega
        obtain ⟨x, ih⟩ := bis h1 h2 k fuel low ((low + high + 1) / 2 - 1) (some (.sh (.int ((low + high + 1) / 2)))) (by omega) (by omega) (by omega)
        refine ⟨x, (whL_go (s1 := s) (ρ2 := _) (s2 := s) ?_ ?_).trans ih⟩
        · simp [hlt]
        · simp [k2, e3, hy]
    · have e1 : low = Y := by omega
      have e2 : high = Y := by omega
      subst e1
      subst e2
      refine ⟨x4, whL_end ?_⟩
      simp
theorem cum_up (y : Int) : ∀ (k : Nat) (m : Int), 1 ≤ m → m + k ≤ 13 → cum y m ≤ cum y (m + k)
  | 0, m, _, _ => by simp
  | k + 1, m, h, h2 => by
    have ih := cum_up y k m h (by omega)
    have := cum_succ (y := y) (m := m + k) (by omega)
    have := lnm_b y (m + k)
    rw [show m + ((k + 1 : Nat) : Int) = m + k + 1 by omega]
    omega
theorem mon {n N Y Y2 m d : Int} {x4 : Option Ent} {s : S} (hm : 1 ≤ m ∧ m ≤ 12) (hd : 1 ≤ d ∧ d ≤ lnm Y m) : ∀ (k fuel : Nat) (month : Int), month + k = m → k < fuel → 1 ≤ month →
    whL (tCmp2 geD (eVar 5) (eFn f_length_of (aCons (eVar 2) (aCons (eVar 6) aNil)))) (bCons (sAug subD 5 (eFn f_length_of (aCons (eVar 2) (aCons (eVar 6) aNil)))) (bCons (sAug addI 6 (eC (.int 1))) bNil)) fuel
      [some (.sh (.int n)), some (.sh (.int N)), some (.sh (.int Y)), some (.sh (.int Y2)), x4, some (.sh (.int (cum Y m - cum Y month + d - 1))), some (.sh (.int month))] s =
      some (.nx [some (.sh (.int n)), some (.sh (.int N)), some (.sh (.int Y)), some (.sh (.int Y2)), x4, some (.sh (.int (d - 1))), some (.sh (.int m))] s)
  | 0, 0, _, _, hf, _ => by omega
  | 0, fuel + 1, month, hk, hf, h => by
    obtain rfl : month = m := by omega
    have e := ev_length_of (y := Y) (m := month) (s := s) hm
    rw [show cum Y month - cum Y month + d - 1 = d - 1 by omega]
    refine whL_end ?_
    have : ¬ lnm Y month ≤ d - 1 := by omega
    simp [e]
    omega
  | k + 1, 0, _, _, hf, _ => by omega
  | k + 1, fuel + 1, month, hk, hf, h => by
    have e := ev_length_of (y := Y) (m := month) (s := s) (by omega)
    have c1 := cum_succ (y := Y) (m := month) (by omega)
    have c2 := cum_up Y k (month + 1) (by omega) (by omega)
    rw [show month + 1 + (k : Int) = m by omega] at c2
    have ih := mon (n := n) (N := N) (Y2 := Y2) (x4 := x4) (s := s) hm hd k fuel (month + 1) (by omega) (by omega) (by omega)
    rw [c1, show cum Y m - (cum Y month + lnm Y month) + d - 1 = cum Y m - cum Y month + d - 1 - lnm Y month by omega] at ih
    refine (whL_go (s1 := s) (s2 := s) ?_ ?_).trans ih
    · have : lnm Y month ≤ cum Y m - cum Y month + d - 1 := by omega
      simp [e, this]
    · simp [e]
theorem ev_date_in {p d : Int} {s : S} (h : Dt p d) : f_date_in [.int (num p d - 719162)] s = some (.tup [.int (p / 12), .int (p % 12 + 1), .int d], s) := by
  have h1 := h.hp
  have h2 := h.hd
  have hm : 1 ≤ p % 12 + 1 ∧ p % 12 + 1 ≤ 12 := by omega
  have hN : num p d = ya (p / 12) + cum (p / 12) (p % 12 + 1) + d - 1 := rfl
  have c1 := cum_up (p / 12) (p % 12).toNat 1 (by omega) (by omega)
  rw [show 1 + ((p % 12).toNat : Int) = p % 12 + 1 by omega, cum_1] at c1
  have c2 := cum_succ (y := p / 12) hm
  have c3 := cum_up (p / 12) (12 - (p % 12 + 1)).toNat (p % 12 + 1 + 1) (by omega) (by omega)
  rw [show p % 12 + 1 + 1 + ((12 - (p % 12 + 1)).toNat : Int) = 13 by omega, cum_13] at c3
  have h3 : d ≤ lnm (p / 12) (p % 12 + 1) := h2.2
  have y1 := ya_succ (p / 12)
  obtain ⟨x4, b1⟩ := bis (n := num p d - 719162) (N := num p d) (Y := p / 12) (x5 := none) (x6 := none) (s := s) (by omega) (by omega) 14 40 1 9999 none (by decide) (by omega) (by omega)
  have b2 := mon (n := num p d - 719162) (N := num p d) (Y := p / 12) (Y2 := p / 12) (m := p % 12 + 1) (d := d) (x4 := x4) (s := s) hm ⟨h2.1, h3⟩ (p % 12).toNat 40 1 (by omega) (by omega) (by omega)
  rw [cum_1] at b2
  have e1 := ev_years (p / 12) s
  have e2 : num p d - ya (p / 12) = cum (p / 12) (p % 12 + 1) - 0 + d - 1 := by omega
  have e3 : num p d - 719162 + 719162 = num p d := by omega
  have e4 : d - 1 + 1 = d := by omega
  refine fnSem_rt rfl ?_
  show b_date_in [some (.sh (.int (num p d - 719162))), none, none, none, none, none, none] s = _
  unfold b_date_in
  rw [bCons_nx (ρ1 := [some (.sh (.int (num p d - 719162))), some (.sh (.int (num p d))), none, none, none, none, none]) (s1 := s) (by simp [e3]) rfl]
  rw [bCons_nx (ρ1 := [some (.sh (.int (num p d - 719162))), some (.sh (.int (num p d))), some (.sh (.int 1)), some (.sh (.int 9999)), none, none, none]) (s1 := s) (by simp) rfl]
  rw [bCons_nx b1 rfl]
  rw [bCons_nx (ρ1 := [some (.sh (.int (num p d - 719162))), some (.sh (.int (num p d))), some (.sh (.int (p / 12))), some (.sh (.int (p / 12))), x4, some (.sh (.int (cum (p / 12) (p % 12 + 1) - 0 + d - 1))), none]) (s1 := s) (by simp [e1, e2]) rfl]
  rw [bCons_nx (ρ1 := [some (.sh (.int (num p d - 719162))), some (.sh (.int (num p d))), some (.sh (.int (p / 12))), some (.sh (.int (p / 12))), x4, some (.sh (.int (cum (p / 12) (p % 12 + 1) - 0 + d - 1))), some (.sh (.int 1))]) (s1 := s) (by simp) rfl]
  rw [bCons_nx b2 rfl]
  simp [e4]
end K06

set_option Elab.async false
set_option linter.all false
set_option maxRecDepth 100000
set_option maxHeartbeats 4000000
namespace K06
open PySem PySem.Spec PyProof.Rows L2 PL
def D0 (p d : Int) : D := .tup [.int (p / 12), .int (p % 12 + 1), .int d]
def nm (p d : Int) : Int := num p d - 719162
theorem ev_date_of {p d : Int} {s : S} (h : Dt p d) : f_date_of [.int (nm p d)] s = some (D0 p d, s) := by
  have e1 := ev_check_days (s := s) h.ok
  have e2 := ev_date_in (s := s) h
  unfold nm D0
  simp [f_date_of, fnSem_ap, b_date_of, e1, e2]
theorem atI3 {a b c : D} : atI [a, b, c] 0 = some a ∧ atI [a, b, c] 1 = some b ∧ atI [a, b, c] 2 = some c := ⟨atI_nat (j := 0) rfl, atI_nat (j := 1) rfl, atI_nat (j := 2) rfl⟩
theorem ln_eq (p : Int) : lnm (p / 12) (p % 12 + 1) = ln p := rfl
theorem Dt.add {p d k : Int} (h : Dt p d) (h3 : 12 ≤ p + k ∧ p + k < 120000) : Dt (p + k) (min d (ln (p + k))) := ⟨h3, by have := h.hd; have := ln_b (p + k); omega⟩
theorem ev_add {p d k : Int} {s : S} (h : Dt p d) (h3 : 12 ≤ p + k ∧ p + k < 120000) : f_add_months [.int (nm p d), .int k] s = some (.int (nm (p + k) (min d (ln (p + k)))), s) := by
  have hp := h.hp
  have e1 := ev_check_days (s := s) h.ok
  have e2 := ev_date_in (s := s) h
  have e3 := ev_length_of (y := (p + k) / 12) (m := (p + k) % 12 + 1) (s := s) (by omega)
  rw [ln_eq] at e3
  have e4 := ev_count (y := (p + k) / 12) (m := (p + k) % 12 + 1) (d := min d (ln (p + k))) (s := s) (by omega)
  have k1 : okM 12 9999 := okM_l (by omega)
  have k2 : okM 12 (p / 12) := okM_l (by omega)
  have k3 : okM 12 10000 := okM_l (by omega)
  have k4 : okDv 12 := okDv_of (by omega)
  have a1 : 12 * (p / 12) + (p % 12 + 1) - 1 + k = p + k := by omega
  have a2 : ¬ (119988 : Int) < (if k < 0 then -k else k) := by split <;> omega
  have e5 : absD [D.int k] = some (.sh (.int (if k < 0 then -k else k))) := rfl
  refine fnSem_rt rfl ?_
  show b_add_months [some (.sh (.int (nm p d))), some (.sh (.int k)), none, none, none, none] s = _
  unfold b_add_months nm
  refine bCons_nx (ρ1 := [some (.sh (.int (num p d - 719162))), some (.sh (.int k)), none, none, none, none]) (s1 := s) (by simp [e1]) ?_
  refine bCons_nx (ρ1 := [some (.sh (.int (num p d - 719162))), some (.sh (.int k)), none, none, none, none]) (s1 := s) (by simp [k1, a2, e5]) ?_
  refine bCons_nx (ρ1 := [some (.sh (.int (num p d - 719162))), some (.sh (.int k)), some (.sh (.int (p / 12))), some (.sh (.int (p % 12 + 1))), some (.sh (.int d)), none]) (s1 := s) (by simp [e2]) ?_
  refine bCons_nx (ρ1 := [some (.sh (.int (num p d - 719162))), some (.sh (.int k)), some (.sh (.int (p / 12))), some (.sh (.int (p % 12 + 1))), some (.sh (.int d)), some (.sh (.int (p + k)))]) (s1 := s) (by simp [k2, a1]) ?_
  refine bCons_nx (ρ1 := [some (.sh (.int (num p d - 719162))), some (.sh (.int k)), some (.sh (.int (p / 12))), some (.sh (.int (p % 12 + 1))), some (.sh (.int d)), some (.sh (.int (p + k)))]) (s1 := s) (by simp [k3, h3]) ?_
  refine bCons_nx (ρ1 := [some (.sh (.int (num p d - 719162))), some (.sh (.int k)), some (.sh (.int ((p + k) / 12))), some (.sh (.int ((p + k) % 12 + 1))), some (.sh (.int d)), some (.sh (.int (p + k)))]) (s1 := s) (by simp [k4]) ?_
  simp [e3, e4]
  rfl
theorem ev_between {p d q e : Int} {s : S} (h : Dt p d) (h2 : Dt q e) : f_months_between [.int (nm p d), .int (nm q e)] s = some (.int (q - p - if e < min d (ln q) then 1 else 0), s) := by
  have hp := h.hp
  have hq := h2.hp
  have e1 := ev_check_days (s := s) h.ok
  have e1' := ev_check_days (s := s) h2.ok
  have e2 := ev_date_in (s := s) h
  have e2' := ev_date_in (s := s) h2
  have e3 := ev_length_of (y := q / 12) (m := q % 12 + 1) (s := s) (by omega)
  rw [ln_eq] at e3
  have k1 : okM 12 (q / 12 - p / 12) := okM_l (by omega)
  have a1 : 12 * (q / 12 - p / 12) + (q % 12 + 1) - (p % 12 + 1) = q - p := by omega
  refine fnSem_rt rfl ?_
  show b_months_between [some (.sh (.int (nm p d))), some (.sh (.int (nm q e))), none, none, none, none, none, none, none] s = _
  unfold b_months_between nm
  refine bCons_nx (ρ1 := [some (.sh (.int (num p d - 719162))), some (.sh (.int (num q e - 719162))), none, none, none, none, none, none, none]) (s1 := s) (by simp [e1]) ?_
  refine bCons_nx (ρ1 := [some (.sh (.int (num p d - 719162))), some (.sh (.int (num q e - 719162))), none, none, none, none, none, none, none]) (s1 := s) (by simp [e1']) ?_
  refine bCons_nx (ρ1 := [some (.sh (.int (num p d - 719162))), some (.sh (.int (num q e - 719162))), some (.sh (.int (p / 12))), some (.sh (.int (p % 12 + 1))), some (.sh (.int d)), none, none, none, none]) (s1 := s) (by simp [e2]) ?_
  refine bCons_nx (ρ1 := [some (.sh (.int (num p d - 719162))), some (.sh (.int (num q e - 719162))), some (.sh (.int (p / 12))), some (.sh (.int (p % 12 + 1))), some (.sh (.int d)), some (.sh (.int (q / 12))), some (.sh (.int (q % 12 + 1))), some (.sh (.int e)), none]) (s1 := s) (by simp [e2']) ?_
  refine bCons_nx (ρ1 := [some (.sh (.int (num p d - 719162))), some (.sh (.int (num q e - 719162))), some (.sh (.int (p / 12))), some (.sh (.int (p % 12 + 1))), some (.sh (.int d)), some (.sh (.int (q / 12))), some (.sh (.int (q % 12 + 1))), some (.sh (.int e)), some (.sh (.int (q - p)))]) (s1 := s) (by simp [k1, a1]) ?_
  by_cases hlt : e < min d (ln q)
  · rw [if_pos hlt]
    simp [e3, hlt]
  · rw [if_neg hlt]
    simp [e3, hlt]
theorem ev_on {p d k : Int} {s : S} : f__law_on [D0 p d, .int k] s = some (D0 (p + k) (min d (ln (p + k))), s) := by
  have k0 : okM (p / 12) 12 := okM_r (by omega)
  have k1 : okDv 12 := okDv_of (by omega)
  have e3 := ev_long (y := (p + k) / 12) (m := (p + k) % 12 + 1) (s := s) (by omega)
  rw [ln_eq] at e3
  have a1 : p / 12 * 12 + (p % 12 + 1) - 1 + k = p + k := by omega
  obtain ⟨q0, q1, q2⟩ := @atI3 (.int (p / 12)) (.int (p % 12 + 1)) (.int d)
  refine fnSem_rt rfl ?_
  show b__law_on [some (.sh (D0 p d)), some (.sh (.int k)), none, none, none] s = _
  unfold b__law_on
  refine bCons_nx (ρ1 := [some (.sh (D0 p d)), some (.sh (.int k)), some (.sh (.int (p + k))), none, none]) (s1 := s) (by simp [D0, q0, q1, k0, a1]) ?_
  refine bCons_nx (ρ1 := [some (.sh (D0 p d)), some (.sh (.int k)), some (.sh (.int (p + k))), some (.sh (.int ((p + k) / 12))), some (.sh (.int ((p + k) % 12 + 1)))]) (s1 := s) (by simp [k1]) ?_
  simp [D0, q2, e3]
def NM : List Str := ["Mon", "Tue", "Wed", "Thu", "Fri", "Sat", "Sun"]
theorem nm_idx (k : Nat) (x : Str) (h : NM[k]? = some x) : x ∈ NM ∧ NM.idxOf x = k := by
  have hk : k < 7 := by
    rcases Nat.lt_or_ge k 7 with z | z
    · exact z
    · rw [List.getElem?_eq_none (by show 7 ≤ k; exact z)] at h; cases h
  refine ⟨List.mem_of_getElem? h, ?_⟩
  rcases (show k = 0 ∨ k = 1 ∨ k = 2 ∨ k = 3 ∨ k = 4 ∨ k = 5 ∨ k = 6 by omega) with rfl | rfl | rfl | rfl | rfl | rfl | rfl <;> (cases h; decide +kernel)
theorem ev_next {n : Int} {k : Nat} {x : Str} {s : S} (hx : NM[k]? = some x) (h : -719162 ≤ n ∧ n + 6 < 3652059 - 719162) : f_next_weekday [.int n, .str x] s = some (.int (n + ((k : Int) - n - 3) % 7), s) := by
  obtain ⟨i1, i2⟩ := nm_idx k x hx
  have e1 := ev_check_days (n := n) (s := s) (by omega)
  have e2 := ev_check_days (n := n + ((k : Int) - n - 3) % 7) (s := s) (by omega)
  refine fnSem_rt rfl ?_
  show b_next_weekday [some (.sh (.int n)), some (.sh (.str x)), none] s = _
  unfold b_next_weekday
  refine bCons_nx (ρ1 := [some (.sh (.int n)), some (.sh (.str x)), none]) (s1 := s) (by simp [e1]) ?_
  have i3 : inD (.str x) (.tup (dS NM)) = some true := by rw [inD_str_tup, decide_eq_true i1]
  refine bCons_nx (ρ1 := [some (.sh (.int n)), some (.sh (.str x)), none]) (s1 := s) ?_ ?_
  · have i4 : isiT "str" "str" = some true := rfl
    have := i3
    unfold NM at this
    simp [i4, this, -inD_str_tup]
  refine bCons_nx (ρ1 := [some (.sh (.int n)), some (.sh (.str x)), some (.sh (.int (n + ((k : Int) - n - 3) % 7)))]) (s1 := s) ?_ ?_
  · unfold NM at i1 i2
    simp only [sSet_ap, eOp2_ap, eVar_ap, eGIdx_ap, eC_ap, List.getElem?_cons_zero, List.getElem?_cons_succ, Option.bind_some, if_pos i1, i2, Res.d_sh, subD_int, modD_int, addD_int]
    simp
  simp [e2]
end K06

set_option Elab.async false
set_option linter.all false
set_option maxRecDepth 100000
set_option maxHeartbeats 4000000
namespace K06
open PySem PySem.Spec PyProof.Rows L2 PL
theorem drawD_ok {n : Int} {s : S} (h : 0 < n ∧ n ≤ 10000) (hc : 0 ≤ s.cnt ∧ s.cnt ≤ 100000) : drawD [.st, .int n] s = some (.int (drR n s), drS n s) := by
  show (if okDr n s.cnt then _ else _) = _
  exact if_pos (okDr_of (by omega) (by omega))
theorem ev_pick {ds : List D} {s : S} (h : 0 < ds.length ∧ ds.length ≤ 1000) (hc : 0 ≤ s.cnt ∧ s.cnt ≤ 100000) : ∃ v, v ∈ ds ∧ f__law_pick [.st, .lst ds] s = some (v, drS ds.length s) := by
  have h1 := drR_nonneg (n := (ds.length : Int)) (by omega) s
  have h2 := drR_lt (n := (ds.length : Int)) (by omega) s
  have e := drawD_ok (n := (ds.length : Int)) (s := s) (by omega) hc
  obtain ⟨k, hk⟩ : ∃ k : Nat, drR ds.length s = k := ⟨(drR ds.length s).toNat, by omega⟩
  have hk2 : k < ds.length := by omega
  have g : atI ds (drR ds.length s) = some ds[k] := by rw [hk]; exact atI_nat (List.getElem?_eq_getElem hk2)
  refine ⟨ds[k], List.getElem_mem hk2, ?_⟩
  simp [f__law_pick, fnSem_ap, b__law_pick, e, g]
@[simp] theorem D0_0 (p d : Int) : ixD (D0 p d) (.int 0) = some (.sh (.int (p / 12))) := by
  have := (@atI3 (.int (p / 12)) (.int (p % 12 + 1)) (.int d)).1
  simp [D0, this]
@[simp] theorem D0_1 (p d : Int) : ixD (D0 p d) (.int 1) = some (.sh (.int (p % 12 + 1))) := by
  have := (@atI3 (.int (p / 12)) (.int (p % 12 + 1)) (.int d)).2.1
  simp [D0, this]
@[simp] theorem D0_2 (p d : Int) : ixD (D0 p d) (.int 2) = some (.sh (.int d)) := by
  have := (@atI3 (.int (p / 12)) (.int (p % 12 + 1)) (.int d)).2.2
  simp [D0, this]
@[simp] theorem neD_D0 (p d q e : Int) : neD (D0 p d) (D0 q e) = some (decide (¬ (p = q ∧ d = e))) := by
  show neD (.tup (dI [p / 12, p % 12 + 1, d])) (.tup (dI [q / 12, q % 12 + 1, e])) = _
  rw [neD_tup_dI]
  congr 1
  rw [Bool.eq_iff_iff, decide_eq_true_eq, decide_eq_true_eq]
  simp only [ne_eq, List.cons.injEq, and_true]
  constructor
  · intro h k; apply h; obtain ⟨rfl, rfl⟩ := k; exact ⟨rfl, rfl, rfl⟩
  · intro h k; apply h; obtain ⟨a, b, c⟩ := k; exact ⟨by omega, c⟩
theorem ev_law_date {s : S} (hc : 0 ≤ s.cnt ∧ s.cnt ≤ 50000) : ∃ p d s', f__law_date [.st] s = some (D0 p d, s') ∧ Dt p d ∧ p < 115200 ∧ 0 ≤ s'.cnt ∧ s'.cnt ≤ s.cnt + 6 := by
  have e1 := drawD_ok (n := 9500) (s := s) (by omega) (by omega)
  have c1 := drS_cnt 9500 s
  have a1 := drR_nonneg (n := 9500) (by omega) s
  have a2 := drR_lt (n := 9500) (by omega) s
  obtain ⟨v, hv, e2⟩ := ev_pick (ds := [.int (1 + drR 9500 s), .int 2000, .int 1900, .int 2024, .int 1970, .int 1, .int 400, .int 9599]) (s := drS 9500 s) (by simp) (by omega)
  have e2 : f__law_pick [.st, .lst [.int (1 + drR 9500 s), .int 2000, .int 1900, .int 2024, .int 1970, .int 1, .int 400, .int 9599]] (drS 9500 s) = some (v, drS 8 (drS 9500 s)) := e2
  obtain ⟨y, rfl, hy⟩ : ∃ y, v = .int y ∧ 1 ≤ y ∧ y ≤ 9599 := by
    simp only [List.mem_cons, List.not_mem_nil, or_false] at hv
    rcases hv with rfl | rfl | rfl | rfl | rfl | rfl | rfl | rfl
    · exact ⟨_, rfl, by omega⟩
    all_goals exact ⟨_, rfl, by omega, by omega⟩
  generalize hs2 : drS 8 (drS 9500 s) = s2 at e2
  have c2 := drS_cnt 8 (drS 9500 s)
  rw [hs2] at c2
  have e3 := drawD_ok (n := 12) (s := s2) (by omega) (by omega)
  have c3 := drS_cnt 12 s2
  have b1 := drR_nonneg (n := 12) (by omega) s2
  have b2 := drR_lt (n := 12) (by omega) s2
  generalize hm : 1 + drR 12 s2 = m
  generalize hs3 : drS 12 s2 = s3 at e3 c3
  have hm' : 1 ≤ m ∧ m ≤ 12 := by omega
  have e4 := ev_long (y := y) (m := m) (s := s3) hm'
  have lb := lnm_b y m
  have e5 := drawD_ok (n := lnm y m) (s := s3) (by omega) (by omega)
  have c5 := drS_cnt (lnm y m) s3
  have d1 := drR_nonneg (n := lnm y m) (by omega) s3
  have d2 := drR_lt (n := lnm y m) (by omega) s3
  generalize hs4 : drS (lnm y m) s3 = s4 at e5 c5
  obtain ⟨w, hw, e6⟩ := ev_pick (ds := [.int 1, .int (lnm y m), .int 28, .int (1 + drR (lnm y m) s3)]) (s := s4) (by simp) (by omega)
  have e6 : f__law_pick [.st, .lst [.int 1, .int (lnm y m), .int 28, .int (1 + drR (lnm y m) s3)]] s4 = some (w, drS 4 s4) := e6
  obtain ⟨d, rfl, hd⟩ : ∃ d, w = .int d ∧ 1 ≤ d ∧ d ≤ lnm y m := by
    simp only [List.mem_cons, List.not_mem_nil, or_false] at hw
    rcases hw with rfl | rfl | rfl | rfl
    all_goals exact ⟨_, rfl, by omega, by omega⟩
  have c6 := drS_cnt 4 s4
  obtain ⟨q1, q2⟩ := mk_p (y := y) hm'
  refine ⟨12 * y + m - 1, d, drS 4 s4, ?_, ⟨by omega, by unfold ln; rw [q1, q2]; exact hd⟩, by omega, by omega, by omega⟩
  have s8 : 8 ≤ sizeLine := sl_of (by omega)
  rw [D0, q1, q2]
  refine fnSem_rt rfl ?_
  show b__law_date [some (.sh .st), none, none, none] s = _
  unfold b__law_date
  refine bCons_nx (ρ1 := [some (.sh .st), some (.sh (.int y)), some (.sh (.int m)), none]) (s1 := s3) (by simp [e1, e2, e3, hm, s8]) ?_
  refine bCons_nx (ρ1 := [some (.sh .st), some (.sh (.int y)), some (.sh (.int m)), some (.sh (.int d))]) (s1 := drS 4 s4) (by simp [e4, e5, e6]) ?_
  simp
theorem sIf_no {t : FT} {k : FS} {ρ : PL.Env} {s : S} (h : t ρ s = some (false, s)) : sIf t k bNil ρ s = some (.nx ρ s) := by
  rw [sIf_ap, h]; rfl
theorem Dt.one {p d : Int} (h : Dt p d) : Dt p 1 := ⟨h.hp, by have := ln_b p; omega⟩
theorem Dt.last {p d : Int} (h : Dt p d) : Dt p (ln p) := ⟨h.hp, by have := ln_b p; omega⟩
theorem ev_daysn {p d : Int} {s : S} (h : Dt p d) : f_days_of [.int (p / 12), .int (p % 12 + 1), .int d] s = some (.int (nm p d), s) := ev_days h
theorem ev_cycles {p d : Int} {s : S} (h : Dt p d) (hp : p < 115200) : f__law_cycles_hold [D0 p d] s = some (.bl true, s) := by
  have hq := h.hp
  have hd := h.hd
  have lb := ln_b p
  have e1 := ev_daysn (s := s) h
  have e2 := ev_date_of (s := s) h
  have e3 := ev_long (y := p / 12) (m := p % 12 + 1) (s := s) (by omega)
  rw [ln_eq] at e3
  have e4 := ev_is_date (y := p / 12) (m := p % 12 + 1) (d := ln p + 1) (s := s)
  rw [decide_eq_false (by rintro ⟨_, _, _, z⟩; rw [ln_eq] at z; omega)] at e4
  have e5 := ev_is_date (y := p / 12) (m := 13) (d := 1) (s := s)
  rw [decide_eq_false (by rintro ⟨_, ⟨_, z⟩, _⟩; omega)] at e5
  have e6 := ev_is_date (y := 0) (m := 1) (d := 1) (s := s)
  rw [decide_eq_false (by rintro ⟨⟨z, _⟩, _⟩; omega)] at e6
  have e7 := ev_is_date (y := p / 12) (m := p % 12 + 1) (d := 1) (s := s)
  rw [decide_eq_true (by refine ⟨by omega, by omega, by omega, ?_⟩; rw [ln_eq]; omega)] at e7
  have h48 : Dt (p + 4800) d := ⟨by omega, by rw [ln_4800]; exact hd⟩
  have n48 : nm (p + 4800) d = nm p d + 146097 := by unfold nm num; rw [M_4800]; omega
  have e8 := ev_date_of (s := s) h48
  rw [n48] at e8
  have t8 : D.tup [.int (p / 12 + 400), .int (p % 12 + 1), .int d] = D0 (p + 4800) d := by
    unfold D0
    rw [show (p + 4800) / 12 = p / 12 + 400 by omega, show (p + 4800) % 12 = p % 12 by omega]
  have e9 := ev_weekday (s := s) h.ok
  have e10 := ev_weekday (s := s) h48.ok
  have n48' : num (p + 4800) d - 719162 = nm p d + 146097 := n48
  rw [n48'] at e10
  have e9 : f_weekday [.int (nm p d)] s = some (.int ((nm p d + 3) % 7), s) := e9
  have w48 : (nm p d + 146097 + 3) % 7 = (nm p d + 3) % 7 := by omega
  have e11 := ev_add (k := 4800) (s := s) h (by omega)
  rw [ln_4800, show min d (ln p) = d by omega, n48] at e11
  have e12 := ev_daysn (s := s) h.one
  have e13 := ev_daysn (s := s) h.last
  have e14 := ev_add (k := 1) (s := s) h.one (by omega)
  have lb1 := ln_b (p + 1)
  rw [show min 1 (ln (p + 1)) = 1 by omega] at e14
  have n1 : nm (p + 1) 1 = nm p (ln p) + 1 := by unfold nm num; rw [M_succ]; omega
  rw [n1] at e14
  have n2 : nm p (ln p) - nm p 1 + 1 = ln p := by unfold nm num; omega
  have n3 : nm p 1 + d - 1 = nm p d := by unfold nm num; omega
  have h1 : Dt (p + 1) 1 := ⟨by omega, by omega⟩
  have e15 := ev_date_of (s := s) h1
  rw [n1] at e15
  have dA : Dt (12 * (p / 12)) 1 := ⟨by omega, by have := ln_b (12 * (p / 12)); omega⟩
  have dB : Dt (12 * (p / 12) + 12) 1 := ⟨by omega, by have := ln_b (12 * (p / 12) + 12); omega⟩
  have e16 := ev_daysn (s := s) dA
  rw [show 12 * (p / 12) / 12 = p / 12 by omega, show 12 * (p / 12) % 12 + 1 = 1 by omega] at e16
  have e17 := ev_daysn (s := s) dB
  rw [show (12 * (p / 12) + 12) / 12 = p / 12 + 1 by omega, show (12 * (p / 12) + 12) % 12 + 1 = 1 by omega] at e17
  have nY : nm (12 * (p / 12) + 12) 1 - nm (12 * (p / 12)) 1 = 365 + lp (p / 12) := by
    unfold nm num M
    rw [show 12 * (p / 12) / 12 = p / 12 by omega, show 12 * (p / 12) % 12 + 1 = 1 by omega, show (12 * (p / 12) + 12) / 12 = p / 12 + 1 by omega, show (12 * (p / 12) + 12) % 12 + 1 = 1 by omega, ya_succ, cum_1, cum_1]
    omega
  have lpb := lp_b (p / 12)
  refine fnSem_rt rfl ?_
  show b__law_cycles_hold [some (.sh (D0 p d)), none, none, none, none, none] s = _
  unfold b__law_cycles_hold
  refine bCons_nx (ρ1 := [some (.sh (D0 p d)), some (.sh (.int (nm p d))), none, none, none, none]) (s1 := s) (by simp [e1]) ?_
  refine bCons_nx (ρ1 := [some (.sh (D0 p d)), some (.sh (.int (nm p d))), none, none, none, none]) (s1 := s) (sIf_no (by simp [e2, e3, e4, e5, e6, e7])) ?_
  refine bCons_nx (ρ1 := [some (.sh (D0 p d)), some (.sh (.int (nm p d))), none, none, none, none]) (s1 := s) (sIf_no ?_) ?_
  · have : p / 12 ≤ 9599 := by omega
    simp [this, e8, t8, e9, e10, w48, e11]
  refine bCons_nx (ρ1 := [some (.sh (D0 p d)), some (.sh (.int (nm p d))), some (.sh (.int (nm p 1))), some (.sh (.int (nm p (ln p)))), none, none]) (s1 := s) (by simp [e12, e3, e13]) ?_
  refine bCons_nx (ρ1 := [some (.sh (D0 p d)), some (.sh (.int (nm p d))), some (.sh (.int (nm p 1))), some (.sh (.int (nm p (ln p)))), none, none]) (s1 := s) (sIf_no ?_) ?_
  · simp [n2, e3, e14, n3, e15]
  refine bCons_nx (ρ1 := [some (.sh (D0 p d)), some (.sh (.int (nm p d))), some (.sh (.int (nm p 1))), some (.sh (.int (nm p (ln p)))), some (.sh (.int (365 + lp (p / 12)))), none]) (s1 := s) (by simp [e16, e17, nY]) ?_
  have k1 : okR 1 := okR_of (by omega)
  have k13 : okR 13 := okR_of (by omega)
  have eL : lcL (gN 5) cNil (eFn f__law_long (aCons (eOp2 ixD (eVar 0) (eC (.int 0))) (aCons (eVar 5) aNil))) [some (.sh (D0 p d)), some (.sh (.int (nm p d))), some (.sh (.int (nm p 1))), some (.sh (.int (nm p (ln p)))), some (.sh (.int (365 + lp (p / 12)))), none] (rngD 1 13) s = some (dI ((List.range 12).map fun i : Nat => lnm (p / 12) (1 + (i : Int))), s) := by
    rw [lcL_map (fun d => match d with | .int i => .int (lnm (p / 12) i) | d => d) (rngD 1 13) (fun d hd => ?_)]
    · unfold rngD dI
      rw [List.map_map, List.map_map]
      rfl
    · obtain ⟨i, hi, rfl⟩ := List.mem_map.mp hd
      have := List.mem_range.mp hi
      have e := ev_long (y := p / 12) (m := 1 + (i : Int)) (s := s) (by omega)
      refine ⟨_, .sh (.int (lnm (p / 12) (1 + (i : Int)))), rfl, rfl, ?_, rfl⟩
      simp [e]
  have eS := sum_len (p / 12) 12 (by omega)
  rw [show ((12 : Nat) : Int) + 1 = 13 from rfl, cum_13] at eS
  have eS2 := sumD_dI ((List.range 12).map fun i : Nat => lnm (p / 12) (1 + (i : Int)))
  rw [eS] at eS2
  generalize ((List.range 12).map fun i : Nat => lnm (p / 12) (1 + (i : Int))) = L at eL eS2
  have kz : (rngD 1 13).length ≤ sizeLine := sl_of (by unfold rngD; simp)
  have hin : inD (.int (365 + lp (p / 12))) (.lst [.int 365, .int 366]) = some true := by
    have := @inD_int_lst (365 + lp (p / 12)) [365, 366]
    rw [decide_eq_true (by simp; omega)] at this
    exact this
  simp [k1, k13, eL, eS2, kz, hin]
end K06

set_option Elab.async false
set_option linter.all false
set_option maxRecDepth 100000
set_option maxHeartbeats 4000000
namespace K06
open PySem PySem.Spec PyProof.Rows L2 PL
noncomputable def bodyA : FS := (bCons (sSet 8 (eFn f__law_on (aCons (eVar 1) (aCons (eVar 7) aNil)))) (bCons (sIf (tAn (tChn leD leD (eC (.int 1)) (eOp2 ixD (eVar 8) (eC (.int 0))) (eC (.int 9999))) (tOo (tCmp2 neD (eFn f_date_of (aCons (eFn f_add_months (aCons (eVar 3) (aCons (eVar 7) aNil))) aNil)) (eVar 8)) (tCmp2 ltD (eFn f_months_between (aCons (eVar 3) (aCons (eFn f_add_months (aCons (eVar 3) (aCons (eVar 7) aNil))) aNil))) (eVar 7)))) (bCons (sRet (eC (.bl false))) bNil) bNil) bNil))
noncomputable def bodyB : FS := (bCons (sSet 8 (eFn f__law_on (aCons (eVar 1) (aCons (eVar 7) aNil)))) (bCons (sIf (tAn (tChn leD leD (eC (.int 1)) (eOp2 ixD (eVar 8) (eC (.int 0))) (eC (.int 9999))) (tCmp2 neD (eCmp gtD (eFn f_days_of (aCons (eOp2 ixD (eVar 8) (eC (.int 0))) (aCons (eOp2 ixD (eVar 8) (eC (.int 1))) (aCons (eOp2 ixD (eVar 8) (eC (.int 2))) aNil)))) (eVar 4)) (eVar 10))) (bCons (sRet (eC (.bl false))) bNil) bNil) bNil))
section
variable {p d q e : Int} (h : Dt p d) {x0 x2 x4 x5 x6 x8 x9 x10 : Option Ent} {s : S}
include h
theorem bodyA_ok (k : Int) : bodyA [x0, some (.sh (D0 p d)), x2, some (.sh (.int (nm p d))), x4, x5, x6, some (.sh (.int k)), x8, x9, x10] s =
    some (.nx [x0, some (.sh (D0 p d)), x2, some (.sh (.int (nm p d))), x4, x5, x6, some (.sh (.int k)), some (.sh (D0 (p + k) (min d (ln (p + k))))), x9, x10] s) := by
  have e1 := ev_on (p := p) (d := d) (k := k) (s := s)
  unfold bodyA
  refine bCons_nx (ρ1 := [x0, some (.sh (D0 p d)), x2, some (.sh (.int (nm p d))), x4, x5, x6, some (.sh (.int k)), some (.sh (D0 (p + k) (min d (ln (p + k))))), x9, x10]) (s1 := s) (by simp [e1]) ?_
  refine bCons_nx (sIf_no ?_) rfl
  by_cases h1 : 1 ≤ (p + k) / 12
  · by_cases h2 : (p + k) / 12 ≤ 9999
    · have hk : 12 ≤ p + k ∧ p + k < 120000 := by omega
      have e2 := ev_add (s := s) h hk
      have e3 := ev_date_of (s := s) (h.add hk)
      have e4 := ev_between (s := s) h (h.add hk)
      rw [if_neg (by omega), show p + k - p - 0 = k by omega] at e4
      simp [h1, h2, e2, e3, e4]
    · simp [h1, h2]
  · simp [h1]
theorem bodyB_ok (h2 : Dt q e) (k : Int) (b : Bool) (hb : 12 ≤ p + k ∧ p + k < 120000 → (nm q e < nm (p + k) (min d (ln (p + k))) ↔ b = true)) : bodyB [x0, some (.sh (D0 p d)), x2, some (.sh (.int (nm p d))), some (.sh (.int (nm q e))), x5, x6, some (.sh (.int k)), x8, x9, some (.sh (.bl b))] s =
    some (.nx [x0, some (.sh (D0 p d)), x2, some (.sh (.int (nm p d))), some (.sh (.int (nm q e))), x5, x6, some (.sh (.int k)), some (.sh (D0 (p + k) (min d (ln (p + k))))), x9, some (.sh (.bl b))] s) := by
  have e1 := ev_on (p := p) (d := d) (k := k) (s := s)
  unfold bodyB
  refine bCons_nx (ρ1 := [x0, some (.sh (D0 p d)), x2, some (.sh (.int (nm p d))), some (.sh (.int (nm q e))), x5, x6, some (.sh (.int k)), some (.sh (D0 (p + k) (min d (ln (p + k))))), x9, some (.sh (.bl b))]) (s1 := s) (by simp [e1]) ?_
  refine bCons_nx (sIf_no ?_) rfl
  by_cases h1 : 1 ≤ (p + k) / 12
  · by_cases h2 : (p + k) / 12 ≤ 9999
    · have hk : 12 ≤ p + k ∧ p + k < 120000 := by omega
      have e2 := ev_daysn (s := s) (h.add hk)
      have hb := hb hk
      have : decide (nm q e < nm (p + k) (min d (ln (p + k)))) = b := by rw [Bool.eq_iff_iff, decide_eq_true_eq]; exact hb
      simp [h1, h2, e2, this]
    · simp [h1, h2]
  · simp [h1]
end
theorem Dt.next {q e : Int} (h : Dt q e) (hq : q < 115200) : ∃ q' e', Dt q' e' ∧ nm q' e' = nm q e + 1 ∧ ((q' = q ∧ e' = e + 1) ∨ (q' = q + 1 ∧ e' = 1 ∧ e = ln q)) := by
  have h1 := h.hp
  have h2 := h.hd
  by_cases he : e < ln q
  · exact ⟨q, e + 1, ⟨h1, by omega⟩, by unfold nm num; omega, .inl ⟨rfl, rfl⟩⟩
  · refine ⟨q + 1, 1, ⟨by omega, by have := ln_b (q + 1); omega⟩, ?_, .inr ⟨rfl, rfl, by omega⟩⟩
    unfold nm num
    rw [M_succ]; omega
theorem ev_months {p d q e : Int} {s : S} (h : Dt p d) (h2 : Dt q e) (hq : q < 115200) (hc : 0 ≤ s.cnt ∧ s.cnt ≤ 50000) : ∃ s', f__law_months_hold [.st, D0 p d, D0 q e] s = some (.bl true, s') ∧ 0 ≤ s'.cnt ∧ s'.cnt ≤ s.cnt + 2 := by
  have hp := h.hp
  have hd := h.hd
  have hq1 := h2.hp
  have he := h2.hd
  have e1 := ev_daysn (s := s) h
  have e2 := ev_daysn (s := s) h2
  have e3 := drawD_ok (n := 100) (s := s) (by omega) (by omega)
  have c1 := drS_cnt 100 s
  have a1 := drR_nonneg (n := 100) (by omega) s
  have a2 := drR_lt (n := 100) (by omega) s
  have e4 := drawD_ok (n := 40) (s := drS 100 s) (by omega) (by omega)
  have c2 := drS_cnt 40 (drS 100 s)
  have a3 := drR_nonneg (n := 40) (by omega) (drS 100 s)
  have a4 := drR_lt (n := 40) (by omega) (drS 100 s)
  generalize hmany : drR 100 s - 50 = many
  generalize hmore : drR 40 (drS 100 s) = more at e4 a3 a4
  generalize hs1 : drS 40 (drS 100 s) = s1 at e4 c2
  have e5 := ev_between (s := s1) h h2
  generalize hb : q - p - (if e < min d (ln q) then 1 else 0) = b at e5
  have hb' : (¬ e < min d (ln q) ∧ b = q - p) ∨ (e < min d (ln q) ∧ b = q - p - 1) := by
    by_cases z : e < min d (ln q)
    · right; rw [if_pos z] at hb; exact ⟨z, hb.symm⟩
    · left; rw [if_neg z] at hb; exact ⟨z, by omega⟩
  have nl : ∀ k, 12 ≤ p + k ∧ p + k < 120000 → min d (ln (p + k)) ≤ ln (p + k) ∧ 1 ≤ min d (ln (p + k)) := fun k hk => by have := ln_b (p + k); omega
  have f1 : 12 ≤ p + b ∧ p + b < 120000 → (nm q e < nm (p + b) (min d (ln (p + b))) ↔ false = true) := fun hk => by
    have z := nl b hk
    constructor
    · intro g
      exfalso
      rcases hb' with ⟨k1, k2⟩ | ⟨k1, k2⟩
      · rw [show p + b = q by omega] at g
        unfold nm num at g; omega
      · have := num_lt (show p + b < q by omega) z.1 he.1
        unfold nm at g; omega
    · intro g; cases g
  have f2 : 12 ≤ p + (b + 1) ∧ p + (b + 1) < 120000 → (nm q e < nm (p + (b + 1)) (min d (ln (p + (b + 1)))) ↔ true = true) := fun hk => by
    have z := nl (b + 1) hk
    refine ⟨fun _ => rfl, fun _ => ?_⟩
    rcases hb' with ⟨k1, k2⟩ | ⟨k1, k2⟩
    · have := num_lt (show q < p + (b + 1) by omega) he.2 z.2
      unfold nm; omega
    · rw [show p + (b + 1) = q by omega]
      unfold nm num; omega
  have e6 := ev_between (s := s1) h h
  rw [if_neg (by omega), show p - p - 0 = 0 by omega] at e6
  obtain ⟨q', e', h3, n3, r3⟩ := h2.next hq
  have e7 := ev_between (s := s1) h h3
  rw [n3] at e7
  have g1 : b ≤ q' - p - (if e' < min d (ln q') then 1 else 0) := by
    rcases r3 with ⟨rfl, rfl⟩ | ⟨rfl, rfl, r⟩
    · split <;> omega
    · split <;> omega
  generalize q' - p - (if e' < min d (ln q') then 1 else 0) = b' at e7 g1
  have g2 : decide (0 ≤ b) = decide (nm p d ≤ nm q e) := by
    rw [Bool.eq_iff_iff, decide_eq_true_eq, decide_eq_true_eq]
    rcases Int.lt_trichotomy p q with z | z | z
    · have := num_lt z hd.2 he.1
      unfold nm; omega
    · subst z
      unfold nm num; omega
    · have := num_lt z he.2 hd.1
      unfold nm; omega
  refine ⟨s1, ?_, by omega, by omega⟩
  refine fnSem_rt rfl ?_
  show b__law_months_hold [some (.sh .st), some (.sh (D0 p d)), some (.sh (D0 q e)), none, none, none, none, none, none, none, none] s = _
  unfold b__law_months_hold
  refine bCons_nx (ρ1 := [some (.sh .st), some (.sh (D0 p d)), some (.sh (D0 q e)), some (.sh (.int (nm p d))), some (.sh (.int (nm q e))), none, none, none, none, none, none]) (s1 := s) (by simp [e1, e2]) ?_
  refine bCons_nx (ρ1 := [some (.sh .st), some (.sh (D0 p d)), some (.sh (D0 q e)), some (.sh (.int (nm p d))), some (.sh (.int (nm q e))), some (.sh (.int many)), some (.sh (.int more)), none, none, none, none]) (s1 := s1) (by simp [e3, e4, hmany]) ?_
  refine bCons_nx (ρ1 := [some (.sh .st), some (.sh (D0 p d)), some (.sh (D0 q e)), some (.sh (.int (nm p d))), some (.sh (.int (nm q e))), some (.sh (.int many)), some (.sh (.int more)), some (.sh (.int (more + many))), some (.sh (D0 (p + (more + many)) (min d (ln (p + (more + many)))))), none, none]) (s1 := s1) ?_ ?_
  · show sFor _ _ bodyA _ _ = _
    simp [forL_cons, bodyA_ok h]
  refine bCons_nx (ρ1 := [some (.sh .st), some (.sh (D0 p d)), some (.sh (D0 q e)), some (.sh (.int (nm p d))), some (.sh (.int (nm q e))), some (.sh (.int many)), some (.sh (.int more)), some (.sh (.int (more + many))), some (.sh (D0 (p + (more + many)) (min d (ln (p + (more + many)))))), none, none]) (s1 := s1) ?_ ?_
  · by_cases k1 : d ≤ 28
    · by_cases k2 : 10 < p / 12
      · by_cases k3 : p / 12 < 9900
        · have hm : ∀ k, d ≤ ln (p + k) := fun k => by have := ln_b (p + k); omega
          have m1 : min d (ln (p + many)) = d := by have := hm many; omega
          have w1 : Dt (p + many) d := ⟨by omega, by have := hm many; omega⟩
          have r1 := ev_add (k := many) (s := s1) h (by omega)
          rw [m1] at r1
          have r2 := ev_add (k := more) (s := s1) w1 (by omega)
          have m2 : min d (ln (p + many + more)) = d := by have := hm (many + more); rw [show p + many + more = p + (many + more) by omega]; omega
          rw [m2] at r2
          have r3 := ev_add (k := many + more) (s := s1) h (by omega)
          have m3 : min d (ln (p + (many + more))) = d := by have := hm (many + more); omega
          rw [m3, show p + (many + more) = p + many + more by omega] at r3
          have r4 := ev_add (k := 0 - many) (s := s1) w1 (by omega)
          rw [show p + many + (0 - many) = p by omega, show min d (ln p) = d by omega] at r4
          have r5 := ev_between (s := s1) h w1
          rw [m1, if_neg (by omega), show p + many - p - 0 = many by omega] at r5
          rw [Int.zero_sub] at r4
          simp [k1, k2, k3, r1, r2, r3, r4, r5]
        · simp [k1, k2, k3]
      · simp [k1, k2]
    · simp [k1]
  refine bCons_nx (ρ1 := [some (.sh .st), some (.sh (D0 p d)), some (.sh (D0 q e)), some (.sh (.int (nm p d))), some (.sh (.int (nm q e))), some (.sh (.int many)), some (.sh (.int more)), some (.sh (.int (more + many))), some (.sh (D0 (p + (more + many)) (min d (ln (p + (more + many)))))), some (.sh (.int b)), none]) (s1 := s1) (by simp [e5]) ?_
  refine bCons_nx (ρ1 := [some (.sh .st), some (.sh (D0 p d)), some (.sh (D0 q e)), some (.sh (.int (nm p d))), some (.sh (.int (nm q e))), some (.sh (.int many)), some (.sh (.int more)), some (.sh (.int (b + 1))), some (.sh (D0 (p + (b + 1)) (min d (ln (p + (b + 1)))))), some (.sh (.int b)), some (.sh (.bl true))]) (s1 := s1) ?_ ?_
  · show sFor _ _ bodyB _ _ = _
    have q1 := fun x5 x6 x8 x9 => bodyB_ok h (x0 := some (.sh .st)) (x2 := some (.sh (D0 q e))) (x5 := x5) (x6 := x6) (x8 := x8) (x9 := x9) (s := s1) h2 b false f1
    have q2 := fun x5 x6 x8 x9 => bodyB_ok h (x0 := some (.sh .st)) (x2 := some (.sh (D0 q e))) (x5 := x5) (x6 := x6) (x8 := x8) (x9 := x9) (s := s1) h2 (b + 1) true f2
    simp [forL_cons, q1, q2]
  simp [e6, g2, e7, g1]
end K06

set_option Elab.async false
set_option linter.all false
set_option maxRecDepth 100000
set_option maxHeartbeats 4000000
namespace K06
open PySem PySem.Spec PyProof.Rows L2 PL
theorem M_9600 : M 115200 = 3505962 := by decide
theorem nm_b {p d : Int} (h : Dt p d) (hp : p < 115200) : -719162 ≤ nm p d ∧ nm p d + 1000 < 3652059 - 719162 := by
  have h1 := num_bot h.hp.1 h.hd.1
  have h2 := M_lt hp
  have := h.hd
  rw [M_9600] at h2
  have e : num p d = M p + d - 1 := rfl
  unfold nm
  omega
theorem rows_sorted (n : Int) : srtI [n + (0 - n - 3) % 7, n + (1 - n - 3) % 7, n + (2 - n - 3) % 7, n + (3 - n - 3) % 7, n + (4 - n - 3) % 7, n + (5 - n - 3) % 7, n + (6 - n - 3) % 7] = [n, n + 1, n + 2, n + 3, n + 4, n + 5, n + 6] := by
  have hA : ∀ k : Int, 0 ≤ k → n ≤ n + k := fun k h => by omega
  have hB : ∀ k : Int, 0 < k → ¬ n + k ≤ n := fun k h => by omega
  have hw : (n + 3) % 7 = 0 ∨ (n + 3) % 7 = 1 ∨ (n + 3) % 7 = 2 ∨ (n + 3) % 7 = 3 ∨ (n + 3) % 7 = 4 ∨ (n + 3) % 7 = 5 ∨ (n + 3) % 7 = 6 := by omega
  rcases hw with w | w | w | w | w | w | w
  · rw [show (0 - n - 3) % 7 = 0 by omega, show (1 - n - 3) % 7 = 1 by omega, show (2 - n - 3) % 7 = 2 by omega, show (3 - n - 3) % 7 = 3 by omega, show (4 - n - 3) % 7 = 4 by omega, show (5 - n - 3) % 7 = 5 by omega, show (6 - n - 3) % 7 = 6 by omega]
    simp [srtI, srt1, hA, hB]
  · rw [show (0 - n - 3) % 7 = 6 by omega, show (1 - n - 3) % 7 = 0 by omega, show (2 - n - 3) % 7 = 1 by omega, show (3 - n - 3) % 7 = 2 by omega, show (4 - n - 3) % 7 = 3 by omega, show (5 - n - 3) % 7 = 4 by omega, show (6 - n - 3) % 7 = 5 by omega]
    simp [srtI, srt1, hA, hB]
  · rw [show (0 - n - 3) % 7 = 5 by omega, show (1 - n - 3) % 7 = 6 by omega, show (2 - n - 3) % 7 = 0 by omega, show (3 - n - 3) % 7 = 1 by omega, show (4 - n - 3) % 7 = 2 by omega, show (5 - n - 3) % 7 = 3 by omega, show (6 - n - 3) % 7 = 4 by omega]
    simp [srtI, srt1, hA, hB]
  · rw [show (0 - n - 3) % 7 = 4 by omega, show (1 - n - 3) % 7 = 5 by omega, show (2 - n - 3) % 7 = 6 by omega, show (3 - n - 3) % 7 = 0 by omega, show (4 - n - 3) % 7 = 1 by omega, show (5 - n - 3) % 7 = 2 by omega, show (6 - n - 3) % 7 = 3 by omega]
    simp [srtI, srt1, hA, hB]
  · rw [show (0 - n - 3) % 7 = 3 by omega, show (1 - n - 3) % 7 = 4 by omega, show (2 - n - 3) % 7 = 5 by omega, show (3 - n - 3) % 7 = 6 by omega, show (4 - n - 3) % 7 = 0 by omega, show (5 - n - 3) % 7 = 1 by omega, show (6 - n - 3) % 7 = 2 by omega]
    simp [srtI, srt1, hA, hB]
  · rw [show (0 - n - 3) % 7 = 2 by omega, show (1 - n - 3) % 7 = 3 by omega, show (2 - n - 3) % 7 = 4 by omega, show (3 - n - 3) % 7 = 5 by omega, show (4 - n - 3) % 7 = 6 by omega, show (5 - n - 3) % 7 = 0 by omega, show (6 - n - 3) % 7 = 1 by omega]
    simp [srtI, srt1, hA, hB]
  · rw [show (0 - n - 3) % 7 = 1 by omega, show (1 - n - 3) % 7 = 2 by omega, show (2 - n - 3) % 7 = 3 by omega, show (3 - n - 3) % 7 = 4 by omega, show (4 - n - 3) % 7 = 5 by omega, show (5 - n - 3) % 7 = 6 by omega, show (6 - n - 3) % 7 = 0 by omega]
    simp [srtI, srt1, hA, hB]
theorem rngD_7 (n : Int) : rngD n (n + 7) = dI [n, n + 1, n + 2, n + 3, n + 4, n + 5, n + 6] := by
  unfold rngD
  rw [show (n + 7 - n).toNat = 7 by omega]
  simp [dI, List.range_succ]
theorem eqD_lst_dI (a b : List Int) : eqD (.lst (dI a)) (.lst (dI b)) = some (decide (a = b)) := by
  obtain ⟨r, e1, e2⟩ := eqD_ok (a := .lst (dI a)) (b := .lst (dI b)) (by rw [okd, okds_dI]) (by rw [okd, okds_dI]) (by rw [dep, deps_dI]; omega) (by rw [dep, deps_dI]; omega)
  rw [e1]
  congr 1
  rw [Bool.eq_iff_iff, e2, decide_eq_true_eq]
  constructor
  · intro h; injection h with h; exact dI_inj.mp h
  · rintro rfl; rfl
theorem days_1970 {s : S} : f_days_of [.int 1970, .int 1, .int 1] s = some (.int 0, s) := by
  have h : Dt 23640 1 := ⟨by omega, by have := ln_b 23640; omega⟩
  have e := ev_daysn (s := s) h
  have k : nm 23640 1 = 0 := by decide
  rw [k] at e
  exact e
theorem ev_weeks {p d : Int} {s : S} (h : Dt p d) (hp : p < 115200) (hc : 0 ≤ s.cnt ∧ s.cnt ≤ 50000) : ∃ s', f__law_weeks_hold [.st, D0 p d] s = some (.bl true, s') ∧ 0 ≤ s'.cnt ∧ s'.cnt ≤ s.cnt + 2 := by
  have hb := nm_b h hp
  have e1 := ev_daysn (s := s) h
  have e3 := drawD_ok (n := 7) (s := s) (by omega) (by omega)
  have c1 := drS_cnt 7 s
  have a1 := drR_nonneg (n := 7) (by omega) s
  have a2 := drR_lt (n := 7) (by omega) s
  have e4 := drawD_ok (n := 60) (s := drS 7 s) (by omega) (by omega)
  have c2 := drS_cnt 60 (drS 7 s)
  have a3 := drR_nonneg (n := 60) (by omega) (drS 7 s)
  have a4 := drR_lt (n := 60) (by omega) (drS 7 s)
  obtain ⟨k, hk⟩ : ∃ k : Nat, drR 7 s = k := ⟨(drR 7 s).toNat, by omega⟩
  rw [hk] at e3 a2
  generalize hweeks : drR 60 (drS 7 s) = weeks at e4 a3 a4
  generalize hs1 : drS 60 (drS 7 s) = s1 at e4 c2
  generalize nm p d = n at hb e1
  have hk7 : k < 7 := by omega
  have hx : NM[k]? = some (NM[k]'hk7) := List.getElem?_eq_getElem _
  generalize NM[k]'hk7 = x at hx
  have g : atI (dS NM) (k : Int) = some (.str x) := atI_nat (by unfold dS; rw [List.getElem?_map, hx]; rfl)
  have e5 := ev_next (n := n) (s := s1) hx (by omega)
  generalize hf : n + ((k : Int) - n - 3) % 7 = f at e5
  have e6 := ev_weekday (n := f) (s := s1) (by omega)
  have w6 : (f + 3) % 7 = k := by omega
  rw [w6] at e6
  have w7 : 0 ≤ f - n ∧ f - n < 7 := by omega
  have e7 := ev_next (n := f) (s := s1) hx (by omega)
  rw [show f + ((k : Int) - f - 3) % 7 = f by omega] at e7
  have e8 := ev_next (n := f + 1) (s := s1) hx (by omega)
  rw [show f + 1 + ((k : Int) - (f + 1) - 3) % 7 = f + 7 by omega] at e8
  have e9 := ev_weekday (n := n + 7 * weeks) (s := s1) (by omega)
  rw [show (n + 7 * weeks + 3) % 7 = (n + 3) % 7 by omega] at e9
  have e10 := ev_weekday (n := n) (s := s1) (by omega)
  have e11 := ev_weekday (n := n + 1) (s := s1) (by omega)
  rw [show (n + 1 + 3) % 7 = ((n + 3) % 7 + 1) % 7 by omega] at e11
  have e12 := ev_weekday (n := 0) (s := s1) (by omega)
  have e13 := days_1970 (s := s1)
  have k7 : okM 7 weeks := okM_l (by omega)
  obtain ⟨y0, y1, y2, y3, y4, y5, y6, hN⟩ : ∃ y0 y1 y2 y3 y4 y5 y6 : Str, NM = [y0, y1, y2, y3, y4, y5, y6] := ⟨_, _, _, _, _, _, _, rfl⟩
  have r0 := ev_next (n := n) (k := 0) (x := y0) (s := s1) (by rw [hN]; rfl) (by omega)
  have r1 := ev_next (n := n) (k := 1) (x := y1) (s := s1) (by rw [hN]; rfl) (by omega)
  have r2 := ev_next (n := n) (k := 2) (x := y2) (s := s1) (by rw [hN]; rfl) (by omega)
  have r3 := ev_next (n := n) (k := 3) (x := y3) (s := s1) (by rw [hN]; rfl) (by omega)
  have r4 := ev_next (n := n) (k := 4) (x := y4) (s := s1) (by rw [hN]; rfl) (by omega)
  have r5 := ev_next (n := n) (k := 5) (x := y5) (s := s1) (by rw [hN]; rfl) (by omega)
  have r6 := ev_next (n := n) (k := 6) (x := y6) (s := s1) (by rw [hN]; rfl) (by omega)
  refine ⟨s1, ?_, by omega, by omega⟩
  refine fnSem_rt rfl ?_
  show b__law_weeks_hold [some (.sh .st), some (.sh (D0 p d)), none, none, none, none, none, none, none] s = _
  unfold b__law_weeks_hold
  have s7 : 7 ≤ sizeLine := sl_of (by omega)
  refine bCons_nx (ρ1 := [some (.sh .st), some (.sh (D0 p d)), some (.sh (.int n)), some (.sh (.lst (dS NM))), none, none, none, none, none]) (s1 := s) (by simp [e1, s7, dS, NM]) ?_
  refine bCons_nx (ρ1 := [some (.sh .st), some (.sh (D0 p d)), some (.sh (.int n)), some (.sh (.lst (dS NM))), some (.sh (.int k)), some (.sh (.int weeks)), none, none, none]) (s1 := s1) (by simp [e3, e4]) ?_
  refine bCons_nx (ρ1 := [some (.sh .st), some (.sh (D0 p d)), some (.sh (.int n)), some (.sh (.lst (dS NM))), some (.sh (.int k)), some (.sh (.int weeks)), some (.sh (.int f)), none, none]) (s1 := s1) (by simp [g, e5]) ?_
  refine bCons_nx (ρ1 := [some (.sh .st), some (.sh (D0 p d)), some (.sh (.int n)), some (.sh (.lst (dS NM))), some (.sh (.int k)), some (.sh (.int weeks)), some (.sh (.int f)), none, none]) (s1 := s1) (sIf_no ?_) ?_
  · have w8 : 0 ≤ f - n := w7.1
    have w9 : f - n < 7 := w7.2
    simp only [tOo_ap, tCmp2_ap, tNo_ap, tChn_ap, eFn_ap, eOp2_ap, aCons_ap, aNil_ap, eVar_ap, eC_ap, List.getElem?_cons_zero, List.getElem?_cons_succ, Option.bind_some, outs_cons, outs_nil, Res.out_sh, Option.map_some, e6, e7, e8, Res.d_sh, neD_int, subD_int, addD_int, leD_int, ltD_int, ixD_lst, g, decide_eq_true w8, decide_eq_true w9]
    simp [e7, e8, g]
  refine bCons_nx (ρ1 := [some (.sh .st), some (.sh (D0 p d)), some (.sh (.int n)), some (.sh (.lst (dS NM))), some (.sh (.int k)), some (.sh (.int weeks)), some (.sh (.int f)), none, none]) (s1 := s1) (sIf_no ?_) ?_
  · simp [e9, e10, e11, e12, e13, k7]
  refine bCons_nx (ρ1 := [some (.sh .st), some (.sh (D0 p d)), some (.sh (.int n)), some (.sh (.lst (dS NM))), some (.sh (.int k)), some (.sh (.int weeks)), some (.sh (.int f)), some (.ow (dI [n + (0 - n - 3) % 7, n + (1 - n - 3) % 7, n + (2 - n - 3) % 7, n + (3 - n - 3) % 7, n + (4 - n - 3) % 7, n + (5 - n - 3) % 7, n + (6 - n - 3) % 7])), none]) (s1 := s1) ?_ ?_
  · have z : ((0 : Nat) : Int) = 0 := rfl
    rw [hN]
    simp only [dS, List.map_cons, List.map_nil]
    simp [s7, lcL, r0, r1, r2, r3, r4, r5, r6]
  have kL : okLR n (n + 7) := okLR_of (by omega) (by omega) (by omega)
  have g9 : atI (dI [n + (0 - n - 3) % 7, n + (1 - n - 3) % 7, n + (2 - n - 3) % 7, n + (3 - n - 3) % 7, n + (4 - n - 3) % 7, n + (5 - n - 3) % 7, n + (6 - n - 3) % 7]) ((n + 3) % 7) = some (.int n) := by
    have hw : (n + 3) % 7 = ((0 : Nat) : Int) ∨ (n + 3) % 7 = ((1 : Nat) : Int) ∨ (n + 3) % 7 = ((2 : Nat) : Int) ∨ (n + 3) % 7 = ((3 : Nat) : Int) ∨ (n + 3) % 7 = ((4 : Nat) : Int) ∨ (n + 3) % 7 = ((5 : Nat) : Int) ∨ (n + 3) % 7 = ((6 : Nat) : Int) := by omega
    rcases hw with w | w | w | w | w | w | w
    · rw [w]
      have e : n + (0 - n - 3) % 7 = n := by omega
      refine (atI_nat (j := 0) (v := D.int (n + (0 - n - 3) % 7)) rfl).trans ?_
      rw [e]
    · rw [w]
      have e : n + (1 - n - 3) % 7 = n := by omega
      refine (atI_nat (j := 1) (v := D.int (n + (1 - n - 3) % 7)) rfl).trans ?_
      rw [e]
    · rw [w]
      have e : n + (2 - n - 3) % 7 = n := by omega
      refine (atI_nat (j := 2) (v := D.int (n + (2 - n - 3) % 7)) rfl).trans ?_
      rw [e]
    · rw [w]
      have e : n + (3 - n - 3) % 7 = n := by omega
      refine (atI_nat (j := 3) (v := D.int (n + (3 - n - 3) % 7)) rfl).trans ?_
      rw [e]
    · rw [w]
      have e : n + (4 - n - 3) % 7 = n := by omega
      refine (atI_nat (j := 4) (v := D.int (n + (4 - n - 3) % 7)) rfl).trans ?_
      rw [e]
    · rw [w]
      have e : n + (5 - n - 3) % 7 = n := by omega
      refine (atI_nat (j := 5) (v := D.int (n + (5 - n - 3) % 7)) rfl).trans ?_
      rw [e]
    · rw [w]
      have e : n + (6 - n - 3) % 7 = n := by omega
      refine (atI_nat (j := 6) (v := D.int (n + (6 - n - 3) % 7)) rfl).trans ?_
      rw [e]
  have eS := rows_sorted n
  have eQ := eqD_lst_dI [n, n + 1, n + 2, n + 3, n + 4, n + 5, n + 6] [n, n + 1, n + 2, n + 3, n + 4, n + 5, n + 6]
  generalize [n + (0 - n - 3) % 7, n + (1 - n - 3) % 7, n + (2 - n - 3) % 7, n + (3 - n - 3) % 7, n + (4 - n - 3) % 7, n + (5 - n - 3) % 7, n + (6 - n - 3) % 7] = L at g9 eS
  have r7 := rngD_7 n
  generalize [n, n + 1, n + 2, n + 3, n + 4, n + 5, n + 6] = L2 at eS eQ r7
  simp [eS, kL, r7, eQ, e10, g9]
theorem main_ok (cells : List Int) (mix : Int) : ∃ s', b_law (env0 5) (s00 cells mix) = some (.rt (.bl true) s') := by
  have e4 : rngD 0 4 = [.int 0, .int 1, .int 2, .int 3] := by rfl
  have k4 : okR 4 := okR_of (by omega)
  obtain ⟨ρ', s', el, h⟩ := forL_ex (g := gN 2) (body := (bCons (sPar 3 4 (eFn f__law_date (aCons (eVar 1) aNil)) (eFn f__law_date (aCons (eVar 1) aNil))) (bCons (sIf (tOo (tNo (tOf (eFn f__law_cycles_hold (aCons (eVar 3) aNil)))) (tOo (tNo (tOf (eFn f__law_months_hold (aCons (eVar 1) (aCons (eVar 3) (aCons (eVar 4) aNil)))))) (tNo (tOf (eFn f__law_weeks_hold (aCons (eVar 1) (aCons (eVar 3) aNil))))))) (bCons (sRet (eC (.bl false))) bNil) bNil) bNil)))
    (fun j ρ t => (∃ x0 x2 x3 x4, ρ = [x0, some (.sh .st), x2, x3, x4]) ∧ 0 ≤ t.cnt ∧ t.cnt ≤ 20 * j) [.int 0, .int 1, .int 2, .int 3] 0 (env0 5) (s00 cells mix)
    ⟨⟨_, _, _, _, rfl⟩, by show (0 : Int) ≤ 0; omega, by show (0 : Int) ≤ 20 * ((0 : Nat) : Int); omega⟩ (fun j d ρ t hd hi => by
      obtain ⟨⟨x0, x2, x3, x4, rfl⟩, i3, i4⟩ := hi
      have hj : j < 4 := by
        rcases Nat.lt_or_ge j 4 with z | z
        · exact z
        · rw [List.getElem?_eq_none (by simpa using z)] at hd; cases hd
      obtain ⟨p, a, s1, q1, q2, q3, q4, q5⟩ := ev_law_date (s := t) (by omega)
      obtain ⟨p', a', s2, r1, r2, r3, r4, r5⟩ := ev_law_date (s := s1) (by omega)
      have v1 := ev_cycles (s := s2) q2 q3
      obtain ⟨s3, v2, v3, v4⟩ := ev_months (s := s2) q2 r2 r3 (by omega)
      obtain ⟨s4, v5, v6, v7⟩ := ev_weeks (s := s3) q2 q3 (by omega)
      refine ⟨_, [x0, some (.sh .st), some (.sh d), some (.sh (D0 p a)), some (.sh (D0 p' a'))], s4, rfl, ?_, ⟨_, _, _, _, rfl⟩, by omega, by omega⟩
      refine bCons_nx (ρ1 := [x0, some (.sh .st), some (.sh d), some (.sh (D0 p a)), some (.sh (D0 p' a'))]) (s1 := s2) (by simp [q1, r1]) ?_
      simp [v1, v2, v5])
  refine ⟨s', ?_⟩
  unfold b_law
  refine bCons_nx (ρ1 := ρ') (s1 := s') ?_ rfl
  simp [e4, k4, el]
end K06

set_option Elab.async false
set_option linter.all false
set_option maxRecDepth 100000
set_option maxHeartbeats 8000000
namespace K06
open PySem PySem.Spec PyProof.Rows L2 PL
theorem all_mk {l : PySem.W.OpenLaw} {w : World} {K : PySem.W.Frag} {h : Heap} {mg : Str → Option Value} {fa q_law q__law_start q__law_draw q__law_pick q__law_long q__law_date q_years_ahead q_is_leap q_length_of q_count q_is_integer q_is_date q_days_of q_check_days q_date_in q_date_of q_add_months q_weekday q__law_cycles_hold q_months_between q__law_on q__law_months_hold q_next_weekday q__law_weeks_hold : Addr} (X : K.In h) (G : h.Ns mainGlobals mg) (hfa : mg "law" = some (.ref fa))
    {od__law_start an__law_start od__law_draw an__law_draw od__law_pick an__law_pick od__law_long an__law_long od__law_date an__law_date od_years_ahead an_years_ahead od_is_leap an_is_leap od_length_of an_length_of od_count an_count od_is_integer an_is_integer od_is_date an_is_date od_days_of an_days_of od_check_days an_check_days od_date_in an_date_in od_date_of an_date_of od_add_months an_add_months od_weekday an_weekday od__law_cycles_hold an__law_cycles_hold od_months_between an_months_between od__law_on an__law_on od__law_months_hold an__law_months_hold od_next_weekday an_next_weekday od__law_weeks_hold an__law_weeks_hold od_law an_law : Option Addr} {sl__law_start sl__law_draw sl__law_pick sl__law_long sl__law_date sl_years_ahead sl_is_leap sl_length_of sl_count sl_is_integer sl_is_date sl_days_of sl_check_days sl_date_in sl_date_of sl_add_months sl_weekday sl__law_cycles_hold sl_months_between sl__law_on sl__law_months_hold sl_next_weekday sl__law_weeks_hold sl_law : Array (Option Value)} {oc__law_start kV__law_start dc__law_start pm__law_start cd__law_start ct__law_start oc__law_draw kV__law_draw dc__law_draw pm__law_draw cd__law_draw ct__law_draw oc__law_pick kV__law_pick dc__law_pick pm__law_pick cd__law_pick ct__law_pick oc__law_long kV__law_long dc__law_long pm__law_long cd__law_long ct__law_long oc__law_date kV__law_date dc__law_date pm__law_date cd__law_date ct__law_date oc_years_ahead kV_years_ahead dc_years_ahead pm_years_ahead cd_years_ahead ct_years_ahead oc_is_leap kV_is_leap dc_is_leap pm_is_leap cd_is_leap ct_is_leap oc_length_of kV_length_of dc_length_of pm_length_of cd_length_of ct_length_of oc_count kV_count dc_count pm_count cd_count ct_count oc_is_integer kV_is_integer dc_is_integer pm_is_integer cd_is_integer ct_is_integer oc_is_date kV_is_date dc_is_date pm_is_date cd_is_date ct_is_date oc_days_of kV_days_of dc_days_of pm_days_of cd_days_of ct_days_of oc_check_days kV_check_days dc_check_days pm_check_days cd_check_days ct_check_days oc_date_in kV_date_in dc_date_in pm_date_in cd_date_in ct_date_in oc_date_of kV_date_of dc_date_of pm_date_of cd_date_of ct_date_of oc_add_months kV_add_months dc_add_months pm_add_months cd_add_months ct_add_months oc_weekday kV_weekday dc_weekday pm_weekday cd_weekday ct_weekday oc__law_cycles_hold kV__law_cycles_hold dc__law_cycles_hold pm__law_cycles_hold cd__law_cycles_hold ct__law_cycles_hold oc_months_between kV_months_between dc_months_between pm_months_between cd_months_between ct_months_between oc__law_on kV__law_on dc__law_on pm__law_on cd__law_on ct__law_on oc__law_months_hold kV__law_months_hold dc__law_months_hold pm__law_months_hold cd__law_months_hold ct__law_months_hold oc_next_weekday kV_next_weekday dc_next_weekday pm_next_weekday cd_next_weekday ct_next_weekday oc__law_weeks_hold kV__law_weeks_hold dc__law_weeks_hold pm__law_weeks_hold cd__law_weeks_hold ct__law_weeks_hold oc_law kV_law dc_law pm_law cd_law ct_law : Value} {t_LENGTHS_0 t_LENGTHS_1 t_LENGTHS_2 t_LENGTHS_3 t_LENGTHS_4 t_LENGTHS_5 t_LENGTHS_6 t_LENGTHS_7 t_LENGTHS_8 t_LENGTHS_9 t_LENGTHS_10 t_LENGTHS_11 t_EPOCH t_MAX_YEAR t_LAST t_NAMES_0 t_NAMES_1 t_NAMES_2 t_NAMES_3 t_NAMES_4 t_NAMES_5 t_NAMES_6 n_LENGTHS n_NAMES : Nat} {q_LENGTHS q_NAMES : Addr} {sl_LENGTHS sl_NAMES : Array (Option Value)}
    (a__law_start : PySem.W.nsIn K mainGlobals "_law_start" = some (some (.ref q__law_start))) (l__law_start : K.lookup q__law_start = some ⟨oc__law_start, od__law_start, .func (PySem.W.fnOf "_law_start" "_law_start" (defArgs s__law_start) (defBody s__law_start) (defScope s__law_start) .none kV__law_start dc__law_start pm__law_start an__law_start cd__law_start ct__law_start), sl__law_start⟩) (c__law_start : PySem.W.codeIn K cd__law_start "_law_start" = true) (k__law_start : PySem.W.keepIn K (.ref q__law_start) = true)
    (a__law_draw : PySem.W.nsIn K mainGlobals "_law_draw" = some (some (.ref q__law_draw))) (l__law_draw : K.lookup q__law_draw = some ⟨oc__law_draw, od__law_draw, .func (PySem.W.fnOf "_law_draw" "_law_draw" (defArgs s__law_draw) (defBody s__law_draw) (defScope s__law_draw) .none kV__law_draw dc__law_draw pm__law_draw an__law_draw cd__law_draw ct__law_draw), sl__law_draw⟩) (c__law_draw : PySem.W.codeIn K cd__law_draw "_law_draw" = true) (k__law_draw : PySem.W.keepIn K (.ref q__law_draw) = true)
    (a__law_pick : PySem.W.nsIn K mainGlobals "_law_pick" = some (some (.ref q__law_pick))) (l__law_pick : K.lookup q__law_pick = some ⟨oc__law_pick, od__law_pick, .func (PySem.W.fnOf "_law_pick" "_law_pick" (defArgs s__law_pick) (defBody s__law_pick) (defScope s__law_pick) .none kV__law_pick dc__law_pick pm__law_pick an__law_pick cd__law_pick ct__law_pick), sl__law_pick⟩) (c__law_pick : PySem.W.codeIn K cd__law_pick "_law_pick" = true) (k__law_pick : PySem.W.keepIn K (.ref q__law_pick) = true)
    (a__law_long : PySem.W.nsIn K mainGlobals "_law_long" = some (some (.ref q__law_long))) (l__law_long : K.lookup q__law_long = some ⟨oc__law_long, od__law_long, .func (PySem.W.fnOf "_law_long" "_law_long" (defArgs s__law_long) (defBody s__law_long) (defScope s__law_long) .none kV__law_long dc__law_long pm__law_long an__law_long cd__law_long ct__law_long), sl__law_long⟩) (c__law_long : PySem.W.codeIn K cd__law_long "_law_long" = true) (k__law_long : PySem.W.keepIn K (.ref q__law_long) = true)
    (a__law_date : PySem.W.nsIn K mainGlobals "_law_date" = some (some (.ref q__law_date))) (l__law_date : K.lookup q__law_date = some ⟨oc__law_date, od__law_date, .func (PySem.W.fnOf "_law_date" "_law_date" (defArgs s__law_date) (defBody s__law_date) (defScope s__law_date) .none kV__law_date dc__law_date pm__law_date an__law_date cd__law_date ct__law_date), sl__law_date⟩) (c__law_date : PySem.W.codeIn K cd__law_date "_law_date" = true) (k__law_date : PySem.W.keepIn K (.ref q__law_date) = true)
    (a_years_ahead : PySem.W.nsIn K mainGlobals "years_ahead" = some (some (.ref q_years_ahead))) (l_years_ahead : K.lookup q_years_ahead = some ⟨oc_years_ahead, od_years_ahead, .func (PySem.W.fnOf "years_ahead" "years_ahead" (defArgs s_years_ahead) (defBody s_years_ahead) (defScope s_years_ahead) .none kV_years_ahead dc_years_ahead pm_years_ahead an_years_ahead cd_years_ahead ct_years_ahead), sl_years_ahead⟩) (c_years_ahead : PySem.W.codeIn K cd_years_ahead "years_ahead" = true) (k_years_ahead : PySem.W.keepIn K (.ref q_years_ahead) = true)
    (a_is_leap : PySem.W.nsIn K mainGlobals "is_leap" = some (some (.ref q_is_leap))) (l_is_leap : K.lookup q_is_leap = some ⟨oc_is_leap, od_is_leap, .func (PySem.W.fnOf "is_leap" "is_leap" (defArgs s_is_leap) (defBody s_is_leap) (defScope s_is_leap) .none kV_is_leap dc_is_leap pm_is_leap an_is_leap cd_is_leap ct_is_leap), sl_is_leap⟩) (c_is_leap : PySem.W.codeIn K cd_is_leap "is_leap" = true) (k_is_leap : PySem.W.keepIn K (.ref q_is_leap) = true)
    (a_length_of : PySem.W.nsIn K mainGlobals "length_of" = some (some (.ref q_length_of))) (l_length_of : K.lookup q_length_of = some ⟨oc_length_of, od_length_of, .func (PySem.W.fnOf "length_of" "length_of" (defArgs s_length_of) (defBody s_length_of) (defScope s_length_of) .none kV_length_of dc_length_of pm_length_of an_length_of cd_length_of ct_length_of), sl_length_of⟩) (c_length_of : PySem.W.codeIn K cd_length_of "length_of" = true) (k_length_of : PySem.W.keepIn K (.ref q_length_of) = true)
    (a_count : PySem.W.nsIn K mainGlobals "count" = some (some (.ref q_count))) (l_count : K.lookup q_count = some ⟨oc_count, od_count, .func (PySem.W.fnOf "count" "count" (defArgs s_count) (defBody s_count) (defScope s_count) .none kV_count dc_count pm_count an_count cd_count ct_count), sl_count⟩) (c_count : PySem.W.codeIn K cd_count "count" = true) (k_count : PySem.W.keepIn K (.ref q_count) = true)
    (a_is_integer : PySem.W.nsIn K mainGlobals "is_integer" = some (some (.ref q_is_integer))) (l_is_integer : K.lookup q_is_integer = some ⟨oc_is_integer, od_is_integer, .func (PySem.W.fnOf "is_integer" "is_integer" (defArgs s_is_integer) (defBody s_is_integer) (defScope s_is_integer) .none kV_is_integer dc_is_integer pm_is_integer an_is_integer cd_is_integer ct_is_integer), sl_is_integer⟩) (c_is_integer : PySem.W.codeIn K cd_is_integer "is_integer" = true) (k_is_integer : PySem.W.keepIn K (.ref q_is_integer) = true)
    (a_is_date : PySem.W.nsIn K mainGlobals "is_date" = some (some (.ref q_is_date))) (l_is_date : K.lookup q_is_date = some ⟨oc_is_date, od_is_date, .func (PySem.W.fnOf "is_date" "is_date" (defArgs s_is_date) (defBody s_is_date) (defScope s_is_date) .none kV_is_date dc_is_date pm_is_date an_is_date cd_is_date ct_is_date), sl_is_date⟩) (c_is_date : PySem.W.codeIn K cd_is_date "is_date" = true) (k_is_date : PySem.W.keepIn K (.ref q_is_date) = true)
    (a_days_of : PySem.W.nsIn K mainGlobals "days_of" = some (some (.ref q_days_of))) (l_days_of : K.lookup q_days_of = some ⟨oc_days_of, od_days_of, .func (PySem.W.fnOf "days_of" "days_of" (defArgs s_days_of) (defBody s_days_of) (defScope s_days_of) .none kV_days_of dc_days_of pm_days_of an_days_of cd_days_of ct_days_of), sl_days_of⟩) (c_days_of : PySem.W.codeIn K cd_days_of "days_of" = true) (k_days_of : PySem.W.keepIn K (.ref q_days_of) = true)
    (a_check_days : PySem.W.nsIn K mainGlobals "check_days" = some (some (.ref q_check_days))) (l_check_days : K.lookup q_check_days = some ⟨oc_check_days, od_check_days, .func (PySem.W.fnOf "check_days" "check_days" (defArgs s_check_days) (defBody s_check_days) (defScope s_check_days) .none kV_check_days dc_check_days pm_check_days an_check_days cd_check_days ct_check_days), sl_check_days⟩) (c_check_days : PySem.W.codeIn K cd_check_days "check_days" = true) (k_check_days : PySem.W.keepIn K (.ref q_check_days) = true)
    (a_date_in : PySem.W.nsIn K mainGlobals "date_in" = some (some (.ref q_date_in))) (l_date_in : K.lookup q_date_in = some ⟨oc_date_in, od_date_in, .func (PySem.W.fnOf "date_in" "date_in" (defArgs s_date_in) (defBody s_date_in) (defScope s_date_in) .none kV_date_in dc_date_in pm_date_in an_date_in cd_date_in ct_date_in), sl_date_in⟩) (c_date_in : PySem.W.codeIn K cd_date_in "date_in" = true) (k_date_in : PySem.W.keepIn K (.ref q_date_in) = true)
    (a_date_of : PySem.W.nsIn K mainGlobals "date_of" = some (some (.ref q_date_of))) (l_date_of : K.lookup q_date_of = some ⟨oc_date_of, od_date_of, .func (PySem.W.fnOf "date_of" "date_of" (defArgs s_date_of) (defBody s_date_of) (defScope s_date_of) .none kV_date_of dc_date_of pm_date_of an_date_of cd_date_of ct_date_of), sl_date_of⟩) (c_date_of : PySem.W.codeIn K cd_date_of "date_of" = true) (k_date_of : PySem.W.keepIn K (.ref q_date_of) = true)
    (a_add_months : PySem.W.nsIn K mainGlobals "add_months" = some (some (.ref q_add_months))) (l_add_months : K.lookup q_add_months = some ⟨oc_add_months, od_add_months, .func (PySem.W.fnOf "add_months" "add_months" (defArgs s_add_months) (defBody s_add_months) (defScope s_add_months) .none kV_add_months dc_add_months pm_add_months an_add_months cd_add_months ct_add_months), sl_add_months⟩) (c_add_months : PySem.W.codeIn K cd_add_months "add_months" = true) (k_add_months : PySem.W.keepIn K (.ref q_add_months) = true)
    (a_weekday : PySem.W.nsIn K mainGlobals "weekday" = some (some (.ref q_weekday))) (l_weekday : K.lookup q_weekday = some ⟨oc_weekday, od_weekday, .func (PySem.W.fnOf "weekday" "weekday" (defArgs s_weekday) (defBody s_weekday) (defScope s_weekday) .none kV_weekday dc_weekday pm_weekday an_weekday cd_weekday ct_weekday), sl_weekday⟩) (c_weekday : PySem.W.codeIn K cd_weekday "weekday" = true) (k_weekday : PySem.W.keepIn K (.ref q_weekday) = true)
    (a__law_cycles_hold : PySem.W.nsIn K mainGlobals "_law_cycles_hold" = some (some (.ref q__law_cycles_hold))) (l__law_cycles_hold : K.lookup q__law_cycles_hold = some ⟨oc__law_cycles_hold, od__law_cycles_hold, .func (PySem.W.fnOf "_law_cycles_hold" "_law_cycles_hold" (defArgs s__law_cycles_hold) (defBody s__law_cycles_hold) (defScope s__law_cycles_hold) .none kV__law_cycles_hold dc__law_cycles_hold pm__law_cycles_hold an__law_cycles_hold cd__law_cycles_hold ct__law_cycles_hold), sl__law_cycles_hold⟩) (c__law_cycles_hold : PySem.W.codeIn K cd__law_cycles_hold "_law_cycles_hold" = true) (k__law_cycles_hold : PySem.W.keepIn K (.ref q__law_cycles_hold) = true)
    (a_months_between : PySem.W.nsIn K mainGlobals "months_between" = some (some (.ref q_months_between))) (l_months_between : K.lookup q_months_between = some ⟨oc_months_between, od_months_between, .func (PySem.W.fnOf "months_between" "months_between" (defArgs s_months_between) (defBody s_months_between) (defScope s_months_between) .none kV_months_between dc_months_between pm_months_between an_months_between cd_months_between ct_months_between), sl_months_between⟩) (c_months_between : PySem.W.codeIn K cd_months_between "months_between" = true) (k_months_between : PySem.W.keepIn K (.ref q_months_between) = true)
    (a__law_on : PySem.W.nsIn K mainGlobals "_law_on" = some (some (.ref q__law_on))) (l__law_on : K.lookup q__law_on = some ⟨oc__law_on, od__law_on, .func (PySem.W.fnOf "_law_on" "_law_on" (defArgs s__law_on) (defBody s__law_on) (defScope s__law_on) .none kV__law_on dc__law_on pm__law_on an__law_on cd__law_on ct__law_on), sl__law_on⟩) (c__law_on : PySem.W.codeIn K cd__law_on "_law_on" = true) (k__law_on : PySem.W.keepIn K (.ref q__law_on) = true)
    (a__law_months_hold : PySem.W.nsIn K mainGlobals "_law_months_hold" = some (some (.ref q__law_months_hold))) (l__law_months_hold : K.lookup q__law_months_hold = some ⟨oc__law_months_hold, od__law_months_hold, .func (PySem.W.fnOf "_law_months_hold" "_law_months_hold" (defArgs s__law_months_hold) (defBody s__law_months_hold) (defScope s__law_months_hold) .none kV__law_months_hold dc__law_months_hold pm__law_months_hold an__law_months_hold cd__law_months_hold ct__law_months_hold), sl__law_months_hold⟩) (c__law_months_hold : PySem.W.codeIn K cd__law_months_hold "_law_months_hold" = true) (k__law_months_hold : PySem.W.keepIn K (.ref q__law_months_hold) = true)
    (a_next_weekday : PySem.W.nsIn K mainGlobals "next_weekday" = some (some (.ref q_next_weekday))) (l_next_weekday : K.lookup q_next_weekday = some ⟨oc_next_weekday, od_next_weekday, .func (PySem.W.fnOf "next_weekday" "next_weekday" (defArgs s_next_weekday) (defBody s_next_weekday) (defScope s_next_weekday) .none kV_next_weekday dc_next_weekday pm_next_weekday an_next_weekday cd_next_weekday ct_next_weekday), sl_next_weekday⟩) (c_next_weekday : PySem.W.codeIn K cd_next_weekday "next_weekday" = true) (k_next_weekday : PySem.W.keepIn K (.ref q_next_weekday) = true)
    (a__law_weeks_hold : PySem.W.nsIn K mainGlobals "_law_weeks_hold" = some (some (.ref q__law_weeks_hold))) (l__law_weeks_hold : K.lookup q__law_weeks_hold = some ⟨oc__law_weeks_hold, od__law_weeks_hold, .func (PySem.W.fnOf "_law_weeks_hold" "_law_weeks_hold" (defArgs s__law_weeks_hold) (defBody s__law_weeks_hold) (defScope s__law_weeks_hold) .none kV__law_weeks_hold dc__law_weeks_hold pm__law_weeks_hold an__law_weeks_hold cd__law_weeks_hold ct__law_weeks_hold), sl__law_weeks_hold⟩) (c__law_weeks_hold : PySem.W.codeIn K cd__law_weeks_hold "_law_weeks_hold" = true) (k__law_weeks_hold : PySem.W.keepIn K (.ref q__law_weeks_hold) = true)
    (a_law : PySem.W.nsIn K mainGlobals "law" = some (some (.ref q_law))) (l_law : K.lookup q_law = some ⟨oc_law, od_law, .func (PySem.W.fnOf "law" "law" (defArgs s_law) (defBody s_law) (defScope s_law) .none kV_law dc_law pm_law an_law cd_law ct_law), sl_law⟩) (c_law : PySem.W.codeIn K cd_law "law" = true) (k_law : PySem.W.keepIn K (.ref q_law) = true)
    (m_LENGTHS : PySem.W.nsIn K mainGlobals "LENGTHS" = some (some (.ref q_LENGTHS))) (l_LENGTHS : K.lookup q_LENGTHS = some ⟨.type "tuple", none, .seq #[.int 31 t_LENGTHS_0, .int 28 t_LENGTHS_1, .int 31 t_LENGTHS_2, .int 30 t_LENGTHS_3, .int 31 t_LENGTHS_4, .int 30 t_LENGTHS_5, .int 31 t_LENGTHS_6, .int 31 t_LENGTHS_7, .int 30 t_LENGTHS_8, .int 31 t_LENGTHS_9, .int 30 t_LENGTHS_10, .int 31 t_LENGTHS_11] n_LENGTHS, sl_LENGTHS⟩)
    (m_EPOCH : PySem.W.nsIn K mainGlobals "EPOCH" = some (some (.int 719162 t_EPOCH)))
    (m_MAX_YEAR : PySem.W.nsIn K mainGlobals "MAX_YEAR" = some (some (.int 9999 t_MAX_YEAR)))
    (m_LAST : PySem.W.nsIn K mainGlobals "LAST" = some (some (.int 3652059 t_LAST)))
    (m_NAMES : PySem.W.nsIn K mainGlobals "NAMES" = some (some (.ref q_NAMES))) (l_NAMES : K.lookup q_NAMES = some ⟨.type "tuple", none, .seq #[.str "Mon" t_NAMES_0, .str "Tue" t_NAMES_1, .str "Wed" t_NAMES_2, .str "Thu" t_NAMES_3, .str "Fri" t_NAMES_4, .str "Sat" t_NAMES_5, .str "Sun" t_NAMES_6] n_NAMES, sl_NAMES⟩)
    (z_abs : PySem.W.nsIn K mainGlobals "abs" = some none)
    (z_bool : PySem.W.nsIn K mainGlobals "bool" = some none)
    (z_int : PySem.W.nsIn K mainGlobals "int" = some none)
    (z_isinstance : PySem.W.nsIn K mainGlobals "isinstance" = some none)
    (z_len : PySem.W.nsIn K mainGlobals "len" = some none)
    (z_list : PySem.W.nsIn K mainGlobals "list" = some none)
    (z_min : PySem.W.nsIn K mainGlobals "min" = some none)
    (z_range : PySem.W.nsIn K mainGlobals "range" = some none)
    (z_sorted : PySem.W.nsIn K mainGlobals "sorted" = some none)
    (z_str : PySem.W.nsIn K mainGlobals "str" = some none)
    (z_sum : PySem.W.nsIn K mainGlobals "sum" = some none)
    : ∃ fd : FuncData, (∀ (s : Shared) (v : Value), BindsTo s fd ⟨[v], []⟩ [("script", v)]) ∧ ∀ base : Heap, K.In base → base.Ns mainGlobals mg → FnOk l.prog w K mg base CX0 6 fa fd ["script"] (spLaw K) := by
  have e := hfa.symm.trans (PySem.W.mg_of X G a_law)
  cases e
  have R__law_start := fun_mk (st := s__law_start) l__law_start c__law_start k__law_start
  have B__law_start := R__law_start.binds (ps := ["script"]) fun _ _ _ _ _ _ us hl => match us, hl with | [_], _ => rfl
  have R__law_draw := fun_mk (st := s__law_draw) l__law_draw c__law_draw k__law_draw
  have B__law_draw := R__law_draw.binds (ps := ["state", "many"]) fun _ _ _ _ _ _ us hl => match us, hl with | [_, _], _ => rfl
  have R__law_pick := fun_mk (st := s__law_pick) l__law_pick c__law_pick k__law_pick
  have B__law_pick := R__law_pick.binds (ps := ["state", "some"]) fun _ _ _ _ _ _ us hl => match us, hl with | [_, _], _ => rfl
  have R__law_long := fun_mk (st := s__law_long) l__law_long c__law_long k__law_long
  have B__law_long := R__law_long.binds (ps := ["year", "month"]) fun _ _ _ _ _ _ us hl => match us, hl with | [_, _], _ => rfl
  have R__law_date := fun_mk (st := s__law_date) l__law_date c__law_date k__law_date
  have B__law_date := R__law_date.binds (ps := ["state"]) fun _ _ _ _ _ _ us hl => match us, hl with | [_], _ => rfl
  have R_years_ahead := fun_mk (st := s_years_ahead) l_years_ahead c_years_ahead k_years_ahead
  have B_years_ahead := R_years_ahead.binds (ps := ["year"]) fun _ _ _ _ _ _ us hl => match us, hl with | [_], _ => rfl
  have R_is_leap := fun_mk (st := s_is_leap) l_is_leap c_is_leap k_is_leap
  have B_is_leap := R_is_leap.binds (ps := ["year"]) fun _ _ _ _ _ _ us hl => match us, hl with | [_], _ => rfl
  have R_length_of := fun_mk (st := s_length_of) l_length_of c_length_of k_length_of
  have B_length_of := R_length_of.binds (ps := ["year", "month"]) fun _ _ _ _ _ _ us hl => match us, hl with | [_, _], _ => rfl
  have R_count := fun_mk (st := s_count) l_count c_count k_count
  have B_count := R_count.binds (ps := ["year", "month", "day"]) fun _ _ _ _ _ _ us hl => match us, hl with | [_, _, _], _ => rfl
  have R_is_integer := fun_mk (st := s_is_integer) l_is_integer c_is_integer k_is_integer
  have B_is_integer := R_is_integer.binds (ps := ["value"]) fun _ _ _ _ _ _ us hl => match us, hl with | [_], _ => rfl
  have R_is_date := fun_mk (st := s_is_date) l_is_date c_is_date k_is_date
  have B_is_date := R_is_date.binds (ps := ["year", "month", "day"]) fun _ _ _ _ _ _ us hl => match us, hl with | [_, _, _], _ => rfl
  have R_days_of := fun_mk (st := s_days_of) l_days_of c_days_of k_days_of
  have B_days_of := R_days_of.binds (ps := ["year", "month", "day"]) fun _ _ _ _ _ _ us hl => match us, hl with | [_, _, _], _ => rfl
  have R_check_days := fun_mk (st := s_check_days) l_check_days c_check_days k_check_days
  have B_check_days := R_check_days.binds (ps := ["days"]) fun _ _ _ _ _ _ us hl => match us, hl with | [_], _ => rfl
  have R_date_in := fun_mk (st := s_date_in) l_date_in c_date_in k_date_in
  have B_date_in := R_date_in.binds (ps := ["days"]) fun _ _ _ _ _ _ us hl => match us, hl with | [_], _ => rfl
  have R_date_of := fun_mk (st := s_date_of) l_date_of c_date_of k_date_of
  have B_date_of := R_date_of.binds (ps := ["days"]) fun _ _ _ _ _ _ us hl => match us, hl with | [_], _ => rfl
  have R_add_months := fun_mk (st := s_add_months) l_add_months c_add_months k_add_months
  have B_add_months := R_add_months.binds (ps := ["days", "months"]) fun _ _ _ _ _ _ us hl => match us, hl with | [_, _], _ => rfl
  have R_weekday := fun_mk (st := s_weekday) l_weekday c_weekday k_weekday
  have B_weekday := R_weekday.binds (ps := ["days"]) fun _ _ _ _ _ _ us hl => match us, hl with | [_], _ => rfl
  have R__law_cycles_hold := fun_mk (st := s__law_cycles_hold) l__law_cycles_hold c__law_cycles_hold k__law_cycles_hold
  have B__law_cycles_hold := R__law_cycles_hold.binds (ps := ["date"]) fun _ _ _ _ _ _ us hl => match us, hl with | [_], _ => rfl
  have R_months_between := fun_mk (st := s_months_between) l_months_between c_months_between k_months_between
  have B_months_between := R_months_between.binds (ps := ["first", "second"]) fun _ _ _ _ _ _ us hl => match us, hl with | [_, _], _ => rfl
  have R__law_on := fun_mk (st := s__law_on) l__law_on c__law_on k__law_on
  have B__law_on := R__law_on.binds (ps := ["date", "months"]) fun _ _ _ _ _ _ us hl => match us, hl with | [_, _], _ => rfl
  have R__law_months_hold := fun_mk (st := s__law_months_hold) l__law_months_hold c__law_months_hold k__law_months_hold
  have B__law_months_hold := R__law_months_hold.binds (ps := ["state", "date", "other"]) fun _ _ _ _ _ _ us hl => match us, hl with | [_, _, _], _ => rfl
  have R_next_weekday := fun_mk (st := s_next_weekday) l_next_weekday c_next_weekday k_next_weekday
  have B_next_weekday := R_next_weekday.binds (ps := ["days", "name"]) fun _ _ _ _ _ _ us hl => match us, hl with | [_, _], _ => rfl
  have R__law_weeks_hold := fun_mk (st := s__law_weeks_hold) l__law_weeks_hold c__law_weeks_hold k__law_weeks_hold
  have B__law_weeks_hold := R__law_weeks_hold.binds (ps := ["state", "date"]) fun _ _ _ _ _ _ us hl => match us, hl with | [_, _], _ => rfl
  have R_law := fun_mk (st := s_law) l_law c_law k_law
  have hB : ∀ x ∈ bnL, mg x = none := (List.forall_mem_cons.mpr ⟨PySem.W.mg_none_of X G z_abs, (List.forall_mem_cons.mpr ⟨PySem.W.mg_none_of X G z_bool, (List.forall_mem_cons.mpr ⟨PySem.W.mg_none_of X G z_int, (List.forall_mem_cons.mpr ⟨PySem.W.mg_none_of X G z_isinstance, (List.forall_mem_cons.mpr ⟨PySem.W.mg_none_of X G z_len, (List.forall_mem_cons.mpr ⟨PySem.W.mg_none_of X G z_list, (List.forall_mem_cons.mpr ⟨PySem.W.mg_none_of X G z_min, (List.forall_mem_cons.mpr ⟨PySem.W.mg_none_of X G z_range, (List.forall_mem_cons.mpr ⟨PySem.W.mg_none_of X G z_sorted, (List.forall_mem_cons.mpr ⟨PySem.W.mg_none_of X G z_str, (List.forall_mem_cons.mpr ⟨PySem.W.mg_none_of X G z_sum, (fun _ h => nomatch h)⟩)⟩)⟩)⟩)⟩)⟩)⟩)⟩)⟩)⟩)⟩)
  have h_LENGTHS : GT K mg "LENGTHS" (([31, 28, 31, 30, 31, 30, 31, 31, 30, 31, 30, 31] : List Int).map V.int) := GT.of (PySem.W.mg_of X G m_LENGTHS) l_LENGTHS (sl_of (by simp)) (.cons ⟨_, rfl⟩ (.cons ⟨_, rfl⟩ (.cons ⟨_, rfl⟩ (.cons ⟨_, rfl⟩ (.cons ⟨_, rfl⟩ (.cons ⟨_, rfl⟩ (.cons ⟨_, rfl⟩ (.cons ⟨_, rfl⟩ (.cons ⟨_, rfl⟩ (.cons ⟨_, rfl⟩ (.cons ⟨_, rfl⟩ (.cons ⟨_, rfl⟩ .nil))))))))))))
  have h_EPOCH : ∃ u, mg "EPOCH" = some u ∧ RelV (.int 719162) u := ⟨_, PySem.W.mg_of X G m_EPOCH, ⟨t_EPOCH, rfl⟩⟩
  have h_MAX_YEAR : ∃ u, mg "MAX_YEAR" = some u ∧ RelV (.int 9999) u := ⟨_, PySem.W.mg_of X G m_MAX_YEAR, ⟨t_MAX_YEAR, rfl⟩⟩
  have h_LAST : ∃ u, mg "LAST" = some u ∧ RelV (.int 3652059) u := ⟨_, PySem.W.mg_of X G m_LAST, ⟨t_LAST, rfl⟩⟩
  have h_NAMES : GT K mg "NAMES" ((["Mon", "Tue", "Wed", "Thu", "Fri", "Sat", "Sun"] : List Str).map V.str) := GT.of (PySem.W.mg_of X G m_NAMES) l_NAMES (sl_of (by simp)) (.cons ⟨_, rfl⟩ (.cons ⟨_, rfl⟩ (.cons ⟨_, rfl⟩ (.cons ⟨_, rfl⟩ (.cons ⟨_, rfl⟩ (.cons ⟨_, rfl⟩ (.cons ⟨_, rfl⟩ .nil)))))))
  refine ⟨PySem.W.fnOf "law" "law" (defArgs s_law) (defBody s_law) (defScope s_law) .none kV_law dc_law pm_law an_law cd_law ct_law, fun s v => .of_eq rfl, fun base _ _ => ?_⟩
  have Q__law_start := start_ok (P := l.prog) (w := w) (base := base) (mg := mg) R__law_start sc__law_start (p__law_start hB)
  have Q__law_draw := draw_ok (P := l.prog) (w := w) (base := base) R__law_draw (PySem.W.mg_of X G a__law_draw) B__law_draw sc__law_draw (p__law_draw hB)
  have Q__law_pick := o__law_pick (P := l.prog) (w := w) (base := base) R__law_pick (PySem.W.mg_of X G a__law_pick) B__law_pick hB Q__law_draw
  have Q__law_long := o__law_long (P := l.prog) (w := w) (base := base) R__law_long (PySem.W.mg_of X G a__law_long) B__law_long hB 
  have Q__law_date := o__law_date (P := l.prog) (w := w) (base := base) R__law_date (PySem.W.mg_of X G a__law_date) B__law_date hB Q__law_pick Q__law_draw Q__law_long
  have Q_years_ahead := o_years_ahead (P := l.prog) (w := w) (base := base) R_years_ahead (PySem.W.mg_of X G a_years_ahead) B_years_ahead hB 
  have Q_is_leap := o_is_leap (P := l.prog) (w := w) (base := base) R_is_leap (PySem.W.mg_of X G a_is_leap) B_is_leap hB 
  have Q_length_of := o_length_of (P := l.prog) (w := w) (base := base) R_length_of (PySem.W.mg_of X G a_length_of) B_length_of hB h_LENGTHS Q_is_leap
  have Q_count := o_count (P := l.prog) (w := w) (base := base) R_count (PySem.W.mg_of X G a_count) B_count hB Q_years_ahead Q_length_of h_EPOCH
  have Q_is_integer := o_is_integer (P := l.prog) (w := w) (base := base) R_is_integer (PySem.W.mg_of X G a_is_integer) B_is_integer hB 
  have Q_is_date := o_is_date (P := l.prog) (w := w) (base := base) R_is_date (PySem.W.mg_of X G a_is_date) B_is_date hB Q_is_integer h_MAX_YEAR Q_length_of
  have Q_days_of := o_days_of (P := l.prog) (w := w) (base := base) R_days_of (PySem.W.mg_of X G a_days_of) B_days_of hB Q_is_date Q_count
  have Q_check_days := o_check_days (P := l.prog) (w := w) (base := base) R_check_days (PySem.W.mg_of X G a_check_days) B_check_days hB Q_is_integer h_EPOCH h_LAST
  have Q_date_in := o_date_in (P := l.prog) (w := w) (base := base) R_date_in (PySem.W.mg_of X G a_date_in) B_date_in hB h_EPOCH h_MAX_YEAR Q_years_ahead Q_length_of
  have Q_date_of := o_date_of (P := l.prog) (w := w) (base := base) R_date_of (PySem.W.mg_of X G a_date_of) B_date_of hB Q_check_days Q_date_in
  have Q_add_months := o_add_months (P := l.prog) (w := w) (base := base) R_add_months (PySem.W.mg_of X G a_add_months) B_add_months hB Q_check_days Q_is_integer h_MAX_YEAR Q_date_in Q_count Q_length_of
  have Q_weekday := o_weekday (P := l.prog) (w := w) (base := base) R_weekday (PySem.W.mg_of X G a_weekday) B_weekday hB Q_check_days
  have Q__law_cycles_hold := o__law_cycles_hold (P := l.prog) (w := w) (base := base) R__law_cycles_hold (PySem.W.mg_of X G a__law_cycles_hold) B__law_cycles_hold hB Q_days_of Q_date_of Q_is_date Q__law_long Q_weekday Q_add_months
  have Q_months_between := o_months_between (P := l.prog) (w := w) (base := base) R_months_between (PySem.W.mg_of X G a_months_between) B_months_between hB Q_check_days Q_date_in Q_length_of
  have Q__law_on := o__law_on (P := l.prog) (w := w) (base := base) R__law_on (PySem.W.mg_of X G a__law_on) B__law_on hB Q__law_long
  have Q__law_months_hold := o__law_months_hold (P := l.prog) (w := w) (base := base) R__law_months_hold (PySem.W.mg_of X G a__law_months_hold) B__law_months_hold hB Q_days_of Q__law_draw Q__law_on Q_date_of Q_add_months Q_months_between
  have Q_next_weekday := o_next_weekday (P := l.prog) (w := w) (base := base) R_next_weekday (PySem.W.mg_of X G a_next_weekday) B_next_weekday hB Q_check_days h_NAMES
  have Q__law_weeks_hold := o__law_weeks_hold (P := l.prog) (w := w) (base := base) R__law_weeks_hold (PySem.W.mg_of X G a__law_weeks_hold) B__law_weeks_hold hB Q_days_of Q__law_draw Q_next_weekday Q_weekday
  exact law_ok (k := 4) (tl := (defBody s_law).drop 1) R_law sc_law hB Q__law_start (PySem.W.mg_of X G a__law_start) k__law_start B__law_start rfl (by decide +kernel) (by decide +kernel) (by decide +kernel) (fun X sa C => d_law Q__law_date Q__law_cycles_hold Q__law_months_hold Q__law_weeks_hold X sa C) main_ok
end K06
open PySem PySem.W PyProof.Rows
set_option maxHeartbeats 0 in
theorem PySem.Challenge.cw_oncehome_k06_four_hundred_years_of_dates_holds : PySem.Challenge.rw_oncehome_k06_four_hundred_years_of_dates.Holds := by
  w_on; o_law; k_head; (case hw => w_witness2)
  k_fill
  refine L2.walk_of (l := PySem.Challenge.rw_oncehome_k06_four_hundred_years_of_dates) (n := 63) (k := 6) (x := "script") (CX := fun _ => L2.CX0) (sp := fun w => PL.spLaw _) rfl (by decide) rfl ⟨rfl, by decide, by decide⟩ (fun w h Y => PySem.W.kIn_of Y) ?F (fun _ _ a ns hl _ hS => ⟨a, ns, rfl, hS, hl, fun _ => rfl⟩) (fun _ _ _ _ _ h => h)
  case F =>
    intro w mg fa h KX G hmg
    refine' K06.all_mk KX G hmg ?a__law_start ?l__law_start ?c__law_start ?k__law_start ?a__law_draw ?l__law_draw ?c__law_draw ?k__law_draw ?a__law_pick ?l__law_pick ?c__law_pick ?k__law_pick ?a__law_long ?l__law_long ?c__law_long ?k__law_long ?a__law_date ?l__law_date ?c__law_date ?k__law_date ?a_years_ahead ?l_years_ahead ?c_years_ahead ?k_years_ahead ?a_is_leap ?l_is_leap ?c_is_leap ?k_is_leap ?a_length_of ?l_length_of ?c_length_of ?k_length_of ?a_count ?l_count ?c_count ?k_count ?a_is_integer ?l_is_integer ?c_is_integer ?k_is_integer ?a_is_date ?l_is_date ?c_is_date ?k_is_date ?a_days_of ?l_days_of ?c_days_of ?k_days_of ?a_check_days ?l_check_days ?c_check_days ?k_check_days ?a_date_in ?l_date_in ?c_date_in ?k_date_in ?a_date_of ?l_date_of ?c_date_of ?k_date_of ?a_add_months ?l_add_months ?c_add_months ?k_add_months ?a_weekday ?l_weekday ?c_weekday ?k_weekday ?a__law_cycles_hold ?l__law_cycles_hold ?c__law_cycles_hold ?k__law_cycles_hold ?a_months_between ?l_months_between ?c_months_between ?k_months_between ?a__law_on ?l__law_on ?c__law_on ?k__law_on ?a__law_months_hold ?l__law_months_hold ?c__law_months_hold ?k__law_months_hold ?a_next_weekday ?l_next_weekday ?c_next_weekday ?k_next_weekday ?a__law_weeks_hold ?l__law_weeks_hold ?c__law_weeks_hold ?k__law_weeks_hold ?a_law ?l_law ?c_law ?k_law ?m_LENGTHS ?l_LENGTHS ?m_EPOCH ?m_MAX_YEAR ?m_LAST ?m_NAMES ?l_NAMES ?z_abs ?z_bool ?z_int ?z_isinstance ?z_len ?z_list ?z_min ?z_range ?z_sorted ?z_str ?z_sum
    (case a__law_start => k_is)
    (case l__law_start => k_is)
    (case c__law_start => k_is)
    (case k__law_start => k_is)
    (case a__law_draw => k_is)
    (case l__law_draw => k_is)
    (case c__law_draw => k_is)
    (case k__law_draw => k_is)
    (case a__law_pick => k_is)
    (case l__law_pick => k_is)
    (case c__law_pick => k_is)
    (case k__law_pick => k_is)
    (case a__law_long => k_is)
    (case l__law_long => k_is)
    (case c__law_long => k_is)
    (case k__law_long => k_is)
    (case a__law_date => k_is)
    (case l__law_date => k_is)
    (case c__law_date => k_is)
    (case k__law_date => k_is)
    (case a_years_ahead => k_is)
    (case l_years_ahead => k_is)
    (case c_years_ahead => k_is)
    (case k_years_ahead => k_is)
    (case a_is_leap => k_is)
    (case l_is_leap => k_is)
    (case c_is_leap => k_is)
    (case k_is_leap => k_is)
    (case a_length_of => k_is)
    (case l_length_of => k_is)
    (case c_length_of => k_is)
    (case k_length_of => k_is)
    (case a_count => k_is)
    (case l_count => k_is)
    (case c_count => k_is)
    (case k_count => k_is)
    (case a_is_integer => k_is)
    (case l_is_integer => k_is)
    (case c_is_integer => k_is)
    (case k_is_integer => k_is)
    (case a_is_date => k_is)
    (case l_is_date => k_is)
    (case c_is_date => k_is)
    (case k_is_date => k_is)
    (case a_days_of => k_is)
    (case l_days_of => k_is)
    (case c_days_of => k_is)
    (case k_days_of => k_is)
    (case a_check_days => k_is)
    (case l_check_days => k_is)
    (case c_check_days => k_is)
    (case k_check_days => k_is)
    (case a_date_in => k_is)
    (case l_date_in => k_is)
    (case c_date_in => k_is)
    (case k_date_in => k_is)
    (case a_date_of => k_is)
    (case l_date_of => k_is)
    (case c_date_of => k_is)
    (case k_date_of => k_is)
    (case a_add_months => k_is)
    (case l_add_months => k_is)
    (case c_add_months => k_is)
    (case k_add_months => k_is)
    (case a_weekday => k_is)
    (case l_weekday => k_is)
    (case c_weekday => k_is)
    (case k_weekday => k_is)
    (case a__law_cycles_hold => k_is)
    (case l__law_cycles_hold => k_is)
    (case c__law_cycles_hold => k_is)
    (case k__law_cycles_hold => k_is)
    (case a_months_between => k_is)
    (case l_months_between => k_is)
    (case c_months_between => k_is)
    (case k_months_between => k_is)
    (case a__law_on => k_is)
    (case l__law_on => k_is)
    (case c__law_on => k_is)
    (case k__law_on => k_is)
    (case a__law_months_hold => k_is)
    (case l__law_months_hold => k_is)
    (case c__law_months_hold => k_is)
    (case k__law_months_hold => k_is)
    (case a_next_weekday => k_is)
    (case l_next_weekday => k_is)
    (case c_next_weekday => k_is)
    (case k_next_weekday => k_is)
    (case a__law_weeks_hold => k_is)
    (case l__law_weeks_hold => k_is)
    (case c__law_weeks_hold => k_is)
    (case k__law_weeks_hold => k_is)
    (case a_law => k_is)
    (case l_law => k_is)
    (case c_law => k_is)
    (case k_law => k_is)
    (case m_LENGTHS => k_is)
    (case l_LENGTHS => k_is)
    (case m_EPOCH => k_is)
    (case m_MAX_YEAR => k_is)
    (case m_LAST => k_is)
    (case m_NAMES => k_is)
    (case l_NAMES => k_is)
    (case z_abs => k_is)
    (case z_bool => k_is)
    (case z_int => k_is)
    (case z_isinstance => k_is)
    (case z_len => k_is)
    (case z_list => k_is)
    (case z_min => k_is)
    (case z_range => k_is)
    (case z_sorted => k_is)
    (case z_str => k_is)
    (case z_sum => k_is)
