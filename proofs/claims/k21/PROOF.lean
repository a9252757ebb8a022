import PyProof.Rows.All
import Wide.All
import OpenK.AllK
import Wide.FinOn
import HandS.ForMost
import HandS.ForExc
import HandS.CallSlots
import HandS.Lambda
import HandS.TupAny
import HandS.Flow
import HandS.Wide
import HandS.IsInst
import HandS.Zip
import HandS.More
import HandS.Style
import KE.GoesEnum
import KE.GoesMore
import HandS.ExcInit
import HandS.ExcIs
import HandS.ExcField
import HandS.MakeKwOnly
import HandS.Small
import HandS.TryMany
import KE.KExcIs
import HandS.Words
import PySem.Challenge.RW_dialbands_k21_refusals_made
set_option Elab.async false
set_option linter.all false
set_option maxRecDepth 100000
set_option maxHeartbeats 4000000
namespace DB
open PySem PySem.Spec PyProof.Rows L2

/-! data without addresses -/
inductive D where
  | non | bl (b : Bool) | int (i : Int) | str (x : Str)
  | tup (ds : List D) | lst (ds : List D)
  | dic (ks : List Key) (vs : List D)
  | obj (c : Str) (ks : List Str) (vs : List D)
  | cell (n : Nat) | scr (ds : List D)

inductive Cell where
  | lst (ds : List D) | dic (ks : List Key) (vs : List D) | ins (c : Str) (ks : List Str) (vs : List D)

structure Exc where
  cls : Str
  ks : List Str
  vs : List D

/-- what a slot, or a result, is: data; a list or dict of its own; functions made here; a caught exception -/
inductive RV where
  | un | d (x : D) | own (ds : List D) | odic (ks : List Key) (vs : List D) | fn (n : Nat) | fns (ns : List Nat) | xc (x : Exc)

structure Wd where
  Z : Hp
  sas : List Addr

structure Lm where
  fn : Nat → HO → Prop
  xa : Option (Addr × Value × Option Addr)

structure RC where
  K : PySem.W.Frag
  mg : Str → Option Value
  T : List (Addr × Str)
  lm : Lm

structure W where
  env : List RV
  S : List Cell

mutual
inductive Rp (R : RC) (G : Wd) : D → V → Prop
  | non : Rp R G .non .non
  | bl {b} : Rp R G (.bl b) (.bl b)
  | int {i} : Rp R G (.int i) (.int i)
  | str {x} : Rp R G (.str x) (.str x)
  | tup {a ds xs} : SqT R.K G.Z a xs → Rps R G ds xs → Rp R G (.tup ds) (.ref a)
  | lst {a ds xs} : G.Z a = some (.lst xs) → Rps R G ds xs → Rp R G (.lst ds) (.ref a)
  | scr {a ds xs} : SqL R.K G.Z a xs → Rps R G ds xs → Rp R G (.scr ds) (.ref a)
  | dic {a ks vs xs} : Rd G.Z a (.dK (ks.zip xs)) → ks.length = xs.length → Rps R G vs xs → Rp R G (.dic ks vs) (.ref a)
  | obj {c C a dx ks vs xs} : R.mg c = some (.ref C) → G.Z a = some (.ins C dx (ks.zip xs)) → ks.length = xs.length → Rps R G vs xs → Rp R G (.obj c ks vs) (.ref a)
  | cell {n a} : G.sas[n]? = some a → Rp R G (.cell n) (.ref a)
inductive Rps (R : RC) (G : Wd) : List D → List V → Prop
  | nil : Rps R G [] []
  | cons {d ds v vs} : Rp R G d v → Rps R G ds vs → Rps R G (d :: ds) (v :: vs)
end

structure Wle (G G' : Wd) : Prop where
  z : Same G.Z G'.Z
  s : G.sas <+: G'.sas
theorem Wle.refl (G : Wd) : Wle G G := ⟨Same.refl _, List.prefix_refl _⟩
theorem Wle.trans {G G1 G2 : Wd} (a : Wle G G1) (b : Wle G1 G2) : Wle G G2 := ⟨a.z.trans b.z, a.s.trans b.s⟩

theorem Same.seqT {K : PySem.W.Frag} {H H' : Hp} {a : Addr} {xs : List V} (e : Same H H') (h : SqT K H a xs) : SqT K H' a xs := by
  rcases h with (h | ⟨o, h⟩) | h
  · exact .inl (.inl (e _ _ h))
  · exact .inl (.inr ⟨o, e _ _ h⟩)
  · exact .inr h
theorem Same.rd {H H' : Hp} {a : Addr} {u : HO} (e : Same H H') (h : Rd H a u) : Rd H' a u := by
  rcases h with h | ⟨o, h⟩
  · exact .inl (e _ _ h)
  · exact .inr ⟨o, e _ _ h⟩
theorem pre_get {α : Type} {l l' : List α} (p : l <+: l') {n : Nat} {a : α} (h : l[n]? = some a) : l'[n]? = some a := by
  obtain ⟨r, rfl⟩ := p
  rw [List.getElem?_append_left]
  · exact h
  · exact (List.getElem?_eq_some_iff.mp h).1

section
variable {R : RC} {G G' : Wd}
mutual
theorem Rp.mono (e : Wle G G') : ∀ {d : D} {v : V}, Rp R G d v → Rp R G' d v
  | _, _, .non => .non
  | _, _, .bl => .bl
  | _, _, .int => .int
  | _, _, .str => .str
  | _, _, .tup h r => .tup (Same.seqT e.z h) (Rps.mono e r)
  | _, _, .lst h r => .lst (e.z _ _ h) (Rps.mono e r)
  | _, _, .scr h r => .scr (Same.seq e.z h) (Rps.mono e r)
  | _, _, .dic h l r => .dic (Same.rd e.z h) l (Rps.mono e r)
  | _, _, .obj h z l r => .obj h (e.z _ _ z) l (Rps.mono e r)
  | _, _, .cell h => .cell (pre_get e.s h)
theorem Rps.mono (e : Wle G G') : ∀ {ds : List D} {vs : List V}, Rps R G ds vs → Rps R G' ds vs
  | _, _, .nil => .nil
  | _, _, .cons h r => .cons (Rp.mono e h) (Rps.mono e r)
end
theorem Rps.length : ∀ {ds : List D} {vs : List V}, Rps R G ds vs → ds.length = vs.length
  | _, _, .nil => rfl
  | _, _, .cons _ r => congrArg (· + 1) r.length
theorem Rps.get : ∀ {ds : List D} {vs : List V} {i : Nat} {d : D}, Rps R G ds vs → ds[i]? = some d → ∃ v, vs[i]? = some v ∧ Rp R G d v
  | _, _, _, _, .nil, e => by simp at e
  | _, _, 0, _, .cons r _, e => by simp at e; subst e; exact ⟨_, rfl, r⟩
  | _, _, i + 1, x, .cons _ t, e => by
    obtain ⟨u, h1, h2⟩ := Rps.get (i := i) (d := x) t (by simpa using e)
    exact ⟨u, by simpa using h1, h2⟩
theorem Rps.getV : ∀ {ds : List D} {vs : List V} {i : Nat} {v : V}, Rps R G ds vs → vs[i]? = some v → ∃ d, ds[i]? = some d ∧ Rp R G d v
  | _, _, _, _, .nil, e => by simp at e
  | _, _, 0, _, .cons r _, e => by simp at e; subst e; exact ⟨_, rfl, r⟩
  | _, _, i + 1, x, .cons _ t, e => by
    obtain ⟨u, h1, h2⟩ := Rps.getV (i := i) (v := x) t (by simpa using e)
    exact ⟨u, by simpa using h1, h2⟩
theorem Rps.append : ∀ {xs ys : List D} {us ws : List V}, Rps R G xs us → Rps R G ys ws → Rps R G (xs ++ ys) (us ++ ws)
  | _, _, _, _, .nil, s => s
  | _, _, _, _, .cons r t, s => .cons r (Rps.append t s)
theorem Rps.take : ∀ {xs : List D} {us : List V} (n : Nat), Rps R G xs us → Rps R G (xs.take n) (us.take n)
  | _, _, 0, _ => .nil
  | _, _, _ + 1, .nil => .nil
  | _, _, n + 1, .cons r t => .cons r (Rps.take n t)
theorem Rps.drop : ∀ {xs : List D} {us : List V} (n : Nat), Rps R G xs us → Rps R G (xs.drop n) (us.drop n)
  | _, _, 0, r => r
  | _, _, _ + 1, .nil => .nil
  | _, _, n + 1, .cons _ t => Rps.drop n t
theorem Rps.set {x : D} {u : V} (r : Rp R G x u) : ∀ {xs : List D} {us : List V} (i : Nat), Rps R G xs us → Rps R G (xs.set i x) (us.set i u)
  | _, _, _, .nil => .nil
  | _, _, 0, .cons _ t => .cons r t
  | _, _, i + 1, .cons q t => .cons q (Rps.set r i t)
theorem Rps.rev {xs : List D} {us : List V} (h : Rps R G xs us) : Rps R G xs.reverse us.reverse := by
  match h with
  | .nil => exact .nil
  | .cons r t => rw [List.reverse_cons, List.reverse_cons]; exact Rps.append (Rps.rev t) (.cons r .nil)
theorem Rps.rep {x : D} {u : V} (r : Rp R G x u) : ∀ n, Rps R G (List.replicate n x) (List.replicate n u)
  | 0 => .nil
  | n + 1 => .cons r (Rps.rep r n)
end

/-! a cell's content -/
def RCell (R : RC) (G : Wd) (H : Hp) (a : Addr) : Cell → Prop
  | .lst ds => ∃ xs, H a = some (.lst xs) ∧ Rps R G ds xs
  | .dic ks vs => ∃ xs, H a = some (.dK (ks.zip xs)) ∧ ks.length = xs.length ∧ Rps R G vs xs
  | .ins c ks vs => ∃ C dx xs, R.mg c = some (.ref C) ∧ H a = some (.ins C dx (ks.zip xs)) ∧ ks.length = xs.length ∧ Rps R G vs xs
def RCells (R : RC) (G : Wd) (H : Hp) (S : List Cell) (sas : List Addr) : Prop :=
  S.length = sas.length ∧ ∀ (n : Nat) (c : Cell) (a : Addr), S[n]? = some c → sas[n]? = some a → RCell R G H a c
theorem RCell.mono {R : RC} {G G' : Wd} {H H' : Hp} {a : Addr} {c : Cell} (e : Wle G G') (h : H' a = H a) (r : RCell R G H a c) : RCell R G' H' a c := by
  cases c with
  | lst ds => obtain ⟨xs, h1, h2⟩ := r; exact ⟨xs, h.trans h1, h2.mono e⟩
  | dic ks vs => obtain ⟨xs, h1, h2, h3⟩ := r; exact ⟨xs, h.trans h1, h2, h3.mono e⟩
  | ins c ks vs => obtain ⟨C, dx, xs, h0, h1, h2, h3⟩ := r; exact ⟨C, dx, xs, h0, h.trans h1, h2, h3.mono e⟩

def ExcR (R : RC) (G : Wd) (_ : Hp) (x : Exc) (cls : Value) (d : Option Addr) : Prop :=
  ∃ C, R.mg x.cls = some (.ref C) ∧ cls = .ref C ∧ ((x.ks = [] ∧ x.vs = [] ∧ d = none) ∨ ∃ dx vs, d = some dx ∧ G.Z dx = some (.xd (x.ks.zip vs)) ∧ x.ks.length = vs.length ∧ Rps R G x.vs vs)
theorem ExcR.mono {R : RC} {G G' : Wd} {H H' : Hp} {x : Exc} {cls : Value} {d : Option Addr} (e : Wle G G') (h : ExcR R G H x cls d) : ExcR R G' H' x cls d := by
  obtain ⟨C, h1, h2, h3⟩ := h
  refine ⟨C, h1, h2, h3.imp id ?_⟩
  rintro ⟨dx, vs, a1, a2, a3, a4⟩
  exact ⟨dx, vs, a1, e.z _ _ a2, a3, a4.mono e⟩

/-! slots -/
inductive RSlot (R : RC) (G : Wd) (H : Hp) : RV → Option V → List Addr → Prop
  | un {o} : RSlot R G H .un o []
  | d {x v} : Rp R G x v → RSlot R G H (.d x) (some v) []
  | own {a ds xs} : H a = some (.lst xs) → Rps R G ds xs → RSlot R G H (.own ds) (some (.ref a)) [a]
  | odic {a ks vs xs} : H a = some (.dK (ks.zip xs)) → ks.length = xs.length → Rps R G vs xs → RSlot R G H (.odic ks vs) (some (.ref a)) [a]
  | fn {n f o} : H f = some o → R.lm.fn n o → (∀ ps, o ≠ .tbl ps) → RSlot R G H (.fn n) (some (.ref f)) [f]
  | xc {x a cls d} : R.lm.xa = some (a, cls, d) → ExcR R G H x cls d → RSlot R G H (.xc x) (some (.ref a)) []
inductive REnv (R : RC) (G : Wd) (H : Hp) : List RV → L2.St → List Addr → Prop
  | nil : REnv R G H [] [] []
  | cons {r o as rs os bs} : RSlot R G H r o as → REnv R G H rs os bs → REnv R G H (r :: rs) (o :: os) (as ++ bs)

structure Ext (as : List Addr) (G : Wd) (H : Hp) (G' : Wd) (H' : Hp) : Prop where
  le : Wle G G'
  keep : ∀ a o, H a = some o → (∀ ps, o ≠ .tbl ps) → a ∉ G.sas → H' a = some o
  newZ : ∀ a o, G'.Z a = some o → G.Z a = some o ∨ H a = none ∨ a ∈ as
  newS : ∀ a ∈ G'.sas, a ∈ G.sas ∨ H a = none
  dom : ∀ a, H' a = none → H a = none
theorem Ext.refl (as : List Addr) (G : Wd) (H : Hp) : Ext as G H G H := ⟨.refl _, fun _ _ h _ _ => h, fun _ _ h => .inl h, fun _ h => .inl h, fun _ h => h⟩
theorem Ext.trans {as as1 : List Addr} {G G1 G2 : Wd} {H H1 H2 : Hp} (x : Ext as G H G1 H1) (s : ∀ a ∈ as1, a ∈ as ∨ H a = none) (y : Ext as1 G1 H1 G2 H2) : Ext as G H G2 H2 where
  le := x.le.trans y.le
  keep := fun a o h t h1 => by
    refine y.keep a o (x.keep a o h t h1) t (fun z => ?_)
    rcases x.newS a z with z | z
    · exact h1 z
    · rw [h] at z; cases z
  newZ := fun a o h => by
    rcases y.newZ a o h with h | h | h
    · exact x.newZ a o h
    · exact .inr (.inl (x.dom a h))
    · rcases s a h with z | z
      · exact .inr (.inr z)
      · exact .inr (.inl z)
  newS := fun a h => by
    rcases y.newS a h with h | h
    · exact x.newS a h
    · exact .inr (x.dom a h)
  dom := fun a h => x.dom a (y.dom a h)
theorem Ext.mono {as as' : List Addr} {G G1 : Wd} {H H1 : Hp} (x : Ext as G H G1 H1) (s : ∀ a ∈ as, a ∈ as' ∨ H a = none) : Ext as' G H G1 H1 := (Ext.refl as' G H).trans s x

/-- what holds at every place of a def's body: the cells, what is known, what was there at the entry -/
structure Bas (R : RC) (H0 : Hp) (G0 G : Wd) (S : List Cell) (H : Hp) : Prop where
  cells : RCells R G H S G.sas
  nd : G.sas.Nodup
  free : ∀ a ∈ G.sas, G.Z a = none
  sub : Same G.Z H
  tabs : LamX.Tabs R.T H
  ext : Ext [] G0 H0 G H
structure Rel (R : RC) (H0 : Hp) (G0 G : Wd) (w : W) (σ : L2.St) (H : Hp) (as : List Addr) : Prop where
  env : REnv R G H w.env σ as
  bas : Bas R H0 G0 G w.S H
  nd : (as ++ G.sas).Nodup
  free : ∀ a ∈ as, G.Z a = none
  fresh : ∀ a ∈ as, H0 a = none

/-! results -/
inductive Res where
  | ok (v : RV) (w : W) | ex (x : Exc) (w : W) | bad
inductive RS where
  | nx (w : W) | rt (v : RV) (S : List Cell) | bk (w : W) | ct (w : W) | ex (x : Exc) (w : W) | bad
inductive RF where
  | ok (v : RV) (S : List Cell) | ex (x : Exc) (S : List Cell) | bad
abbrev ME := W → Res
abbrev MS := W → RS
abbrev MF := List D → List Cell → RF

/-- a fresh result's addresses -/
def Loose (H0 : Hp) (G : Wd) (as bs : List Addr) : Prop := ∀ b ∈ bs, G.Z b = none ∧ b ∉ G.sas ∧ b ∉ as ∧ H0 b = none

abbrev WXx := WX
def PostE (R : RC) (H0 : Hp) (G0 : Wd) (Wx : WX) (σ : L2.St) (G : Wd) (H : Hp) (as : List Addr) (r : Res) (Q : VK) : Prop :=
  match r with
  | .ok rv w' => ∀ v G' H' as' bs, Rel R H0 G0 G' w' σ H' as' → Ext as G H G' H' → (∀ a ∈ as', a ∈ as) → RSlot R G' H' rv (some v) bs → Loose H0 G' as' bs → (∀ b ∈ bs, b ∈ as ∨ H b = none) → Q v H'
  | .ex x w' => ∀ cls d G' H' as', Rel R H0 G0 G' w' σ H' as' → ExcR R G' H' x cls d → Wx cls d σ H'
  | .bad => False
def PostS (R : RC) (H0 : Hp) (G0 : Wd) (Wx : WX) (G : Wd) (r : RS) (D : Ends) : Prop :=
  match r with
  | .nx w' => ∀ σ' G' H' as', Rel R H0 G0 G' w' σ' H' as' → Wle G G' → D.nx σ' H'
  | .bk w' => ∀ σ' G' H' as', Rel R H0 G0 G' w' σ' H' as' → Wle G G' → D.bk σ' H'
  | .ct w' => ∀ σ' G' H' as', Rel R H0 G0 G' w' σ' H' as' → Wle G G' → D.ct σ' H'
  | .rt rv S' => ∀ v G' H' bs, Bas R H0 G0 G' S' H' → RSlot R G' H' rv (some v) bs → Loose H0 G' [] bs → D.rt v H'
  | .ex x w' => ∀ σ' cls d G' H' as', Rel R H0 G0 G' w' σ' H' as' → ExcR R G' H' x cls d → Wx cls d σ' H'
  | .bad => False
def PostF (R : RC) (H0 : Hp) (G0 : Wd) (r : RF) (Q : VK) (E : XK) : Prop :=
  match r with
  | .ok rv S' => ∀ v G' H' bs, Bas R H0 G0 G' S' H' → RSlot R G' H' rv (some v) bs → Loose H0 G' [] bs → Q v H'
  | .ex x S' => ∀ cls d G' H', Bas R H0 G0 G' S' H' → ExcR R G' H' x cls d → E cls d H'
  | .bad => False

def liftE (R : RC) (Wx : WX) (H0 : Hp) (G0 : Wd) (m : ME) : TE := fun σ H Q => ∃ G w as, Rel R H0 G0 G w σ H as ∧ PostE R H0 G0 Wx σ G H as (m w) Q
def liftS (R : RC) (Wx : WX) (H0 : Hp) (G0 : Wd) (m : MS) : TS := fun D σ H => ∃ G w as, Rel R H0 G0 G w σ H as ∧ PostS R H0 G0 Wx G (m w) D

structure PEm (X : Cx) (R : RC) (Wx : WX) (e : Expr) (m : ME) : Prop where
  pe : ∀ H0 G0, PE X e (liftE R Wx H0 G0 m)
structure PSm (X : Cx) (R : RC) (Wx : WX) (st : Stmt) (m : MS) : Prop where
  ps : ∀ H0 G0, PS X st (liftS R Wx H0 G0 m)
structure PBm (X : Cx) (R : RC) (Wx : WX) (st : List Stmt) (m : MS) : Prop where
  ps : ∀ H0 G0, PSs X st (liftS R Wx H0 G0 m)

/-- strengthening what is asked -/
theorem PE.cons {X : Cx} {e : Expr} {t t' : TE} (h : PE X e t) (c : ∀ σ H Q, t' σ H Q → t σ H Q) : PE X e t' := ⟨fun pins s σ H Q I q => h.run pins s σ H Q I (c σ H Q q)⟩
theorem PS.cons {X : Cx} {e : Stmt} {t t' : TS} (h : PS X e t) (c : ∀ D σ H, t' D σ H → t D σ H) : PS X e t' := ⟨fun pins s σ H D I q => h.run pins s σ H D I (c D σ H q)⟩
theorem PSs.cons {X : Cx} {e : List Stmt} {t t' : TS} (h : PSs X e t) (c : ∀ D σ H, t' D σ H → t D σ H) : PSs X e t' := ⟨fun pins s σ H D I q => h.run pins s σ H D I (c D σ H q)⟩
theorem PT.cons {X : Cx} {e : Expr} {t t' : TT} (h : PT X e t) (c : ∀ σ H Q, t' σ H Q → t σ H Q) : PT X e t' := ⟨fun pins s σ H Q I q => h.run pins s σ H Q I (c σ H Q q)⟩
theorem PA.cons {X : Cx} {e : List Expr} {t t' : TA} (h : PA X e t) (c : ∀ σ H Q, t' σ H Q → t σ H Q) : PA X e t' := ⟨fun pos pins s σ H Q I q => h.run pos pins s σ H Q I (c σ H Q q)⟩

/-! the mirror's own words -/
def Res.bind (r : Res) (k : RV → W → Res) : Res := match r with
  | .ok v w => k v w
  | .ex x w => .ex x w
  | .bad => .bad
/-- a value as data: what was a list of its own is nobody's from now on -/
def RV.frz : RV → Option D
  | .d x => some x
  | .own ds => some (.lst ds)
  | .odic ks vs => some (.dic ks vs)
  | _ => none
def Res.bd (r : Res) (k : D → W → Res) : Res := r.bind fun v w => match v.frz with
  | some x => k x w
  | none => .bad
end DB

set_option Elab.async false
set_option linter.all false
set_option maxRecDepth 100000
set_option maxHeartbeats 4000000
namespace DB
open PySem PySem.Spec PyProof.Rows L2

section
variable {R : RC} {H0 H H' H1 : Hp} {G0 G G' G1 : Wd} {w w' w1 : W} {σ : L2.St} {as as' as1 bs : List Addr} {Wx : WX}

theorem RSlot.mono {r : RV} {o : Option V} (s : RSlot R G H r o as) (e : Wle G G') (k : ∀ a ∈ as, ∀ u, H a = some u → H' a = some u) : RSlot R G' H' r o as := by
  cases s with
  | un => exact .un
  | d h => exact .d (h.mono e)
  | own h r => exact .own (k _ (List.mem_singleton.mpr rfl) _ h) (r.mono e)
  | odic h l r => exact .odic (k _ (List.mem_singleton.mpr rfl) _ h) l (r.mono e)
  | fn h l t => exact .fn (k _ (List.mem_singleton.mpr rfl) _ h) l t
  | xc h x => exact .xc h (x.mono e)
theorem REnv.mono {l : List RV} (s : REnv R G H l σ as) (e : Wle G G') (k : ∀ a ∈ as, ∀ u, H a = some u → H' a = some u) : REnv R G' H' l σ as := by
  induction s with
  | nil => exact .nil
  | cons h r ih => exact .cons (h.mono e fun a ha => k a (List.mem_append_left _ ha)) (ih fun a ha => k a (List.mem_append_right _ ha))
theorem RSlot.has {r : RV} {o : Option V} (s : RSlot R G H r o as) : ∀ a ∈ as, ∃ u, H a = some u := by
  cases s with
  | un => simp
  | d h => simp
  | own h r => intro a ha; rw [List.mem_singleton.mp ha]; exact ⟨_, h⟩
  | odic h l r => intro a ha; rw [List.mem_singleton.mp ha]; exact ⟨_, h⟩
  | fn h l _ => intro a ha; rw [List.mem_singleton.mp ha]; exact ⟨_, h⟩
  | xc h x => simp
theorem REnv.has {l : List RV} (s : REnv R G H l σ as) : ∀ a ∈ as, ∃ u, H a = some u := by
  induction s with
  | nil => simp
  | cons h r ih => intro a ha; exact (List.mem_append.mp ha).elim (h.has a) (ih a)
theorem RSlot.notbl {r : RV} {o : Option V} (s : RSlot R G H r o as) : ∀ a ∈ as, ∀ u, H a = some u → ∀ ps, u ≠ .tbl ps := by
  cases s with
  | un => simp
  | d h => simp
  | own h r => intro a ha u e ps z; rw [List.mem_singleton.mp ha, h] at e; cases e; cases z
  | odic h l r => intro a ha u e ps z; rw [List.mem_singleton.mp ha, h] at e; cases e; cases z
  | fn h l t => intro a ha u e ps z; rw [List.mem_singleton.mp ha, h] at e; cases e; exact t _ z
  | xc h x => simp
theorem REnv.notbl {l : List RV} (s : REnv R G H l σ as) : ∀ a ∈ as, ∀ u, H a = some u → ∀ ps, u ≠ .tbl ps := by
  induction s with
  | nil => simp
  | cons h r ih => intro a ha; exact (List.mem_append.mp ha).elim (h.notbl a) (ih a)
theorem RCell.has {a : Addr} {c : Cell} (r : RCell R G H a c) : ∃ u, H a = some u := by
  cases c with
  | lst ds => obtain ⟨xs, h, _⟩ := r; exact ⟨_, h⟩
  | dic ks vs => obtain ⟨xs, h, _⟩ := r; exact ⟨_, h⟩
  | ins c ks vs => obtain ⟨C, dx, xs, _, h, _⟩ := r; exact ⟨_, h⟩
theorem RCells.has {S : List Cell} {sas : List Addr} (r : RCells R G H S sas) : ∀ a ∈ sas, ∃ u, H a = some u := by
  intro a ha
  obtain ⟨n, hn, e⟩ := List.getElem_of_mem ha
  have hs : n < S.length := by rw [r.1]; exact hn
  exact (r.2 n S[n] a (List.getElem?_eq_getElem hs) (by rw [List.getElem?_eq_getElem hn, e])).has

/-- only new things have come -/
structure PExt (G : Wd) (H : Hp) (G' : Wd) (H' : Hp) : Prop where
  z : Same G.Z G'.Z
  s : G'.sas = G.sas
  keep : Same H H'
  sub : Same G'.Z H'
  newZ : ∀ a o, G'.Z a = some o → G.Z a = some o ∨ H a = none
theorem PExt.le (p : PExt G H G' H') : Wle G G' := ⟨p.z, by rw [p.s]; exact List.prefix_refl _⟩
theorem PExt.refl (h : Same G.Z H) : PExt G H G H := ⟨.refl _, rfl, .refl _, h, fun _ _ h => .inl h⟩
theorem PExt.ext (p : PExt G H G' H') (as : List Addr) : Ext as G H G' H' :=
  ⟨p.le, fun a o h _ _ => p.keep a o h, fun a o h => (p.newZ a o h).elim .inl fun z => .inr (.inl z), fun a h => .inl (by rw [← p.s]; exact h), fun a h => by
    cases e : H a with
    | none => rfl
    | some o => rw [p.keep a o e] at h; cases h⟩
theorem PExt.trans {G2 : Wd} {H2 : Hp} (p : PExt G H G1 H1) (q : PExt G1 H1 G2 H2) : PExt G H G2 H2 :=
  ⟨p.z.trans q.z, q.s.trans p.s, p.keep.trans q.keep, q.sub, fun a o h => by
    rcases q.newZ a o h with h | h
    · exact p.newZ a o h
    · exact .inr ((p.ext []).dom a h)⟩
theorem Bas.pext {S : List Cell} (b : Bas R H0 G0 G S H) (p : PExt G H G' H') : Bas R H0 G0 G' S H' where
  cells := by
    rw [p.s]
    refine ⟨b.cells.1, fun n c a h1 h2 => ?_⟩
    have r := b.cells.2 n c a h1 h2
    obtain ⟨u, hu⟩ := r.has
    exact r.mono p.le (by rw [hu]; exact p.keep _ _ hu)
  nd := by rw [p.s]; exact b.nd
  free := fun a ha => by
    rw [p.s] at ha
    cases e : G'.Z a with
    | none => rfl
    | some o =>
      rcases p.newZ a o e with h | h
      · rw [b.free a ha] at h; cases h
      · obtain ⟨u, hu⟩ := b.cells.has a ha
        rw [hu] at h; cases h
  sub := p.sub
  tabs := b.tabs.ext p.keep
  ext := b.ext.trans (fun _ h => .inl h) (p.ext [])
theorem Rel.pext (r : Rel R H0 G0 G w σ H as) (p : PExt G H G' H') : Rel R H0 G0 G' w σ H' as where
  env := r.env.mono p.le fun a _ u h => p.keep a u h
  bas := r.bas.pext p
  nd := by rw [p.s]; exact r.nd
  free := fun a ha => by
    cases e : G'.Z a with
    | none => rfl
    | some o =>
      rcases p.newZ a o e with h | h
      · rw [r.free a ha] at h; cases h
      · obtain ⟨u, hu⟩ := r.env.has a ha
        rw [hu] at h; cases h
  fresh := r.fresh

theorem upd_new {p : Addr} {o : HO} (h : H p = none) : Same H (upd H p o) := fun b u e => by rw [upd_ne (ne_of_none e h)]; exact e
def Wd.put (G : Wd) (a : Addr) (o : HO) : Wd := { G with Z := upd G.Z a o }
theorem put_at {a : Addr} {o : HO} : (G.put a o).Z a = some o := upd_same
theorem put_ne {a b : Addr} {o : HO} (h : b ≠ a) : (G.put a o).Z b = G.Z b := upd_ne h
theorem PExt.own {p : Addr} {o : HO} (s : Same G.Z H) (h : H p = none) : PExt G H G (upd H p o) := ⟨.refl _, rfl, upd_new h, s.trans (upd_new h), fun _ _ h => .inl h⟩
theorem PExt.new {p : Addr} {o : HO} (s : Same G.Z H) (h : H p = none) : PExt G H (G.put p o) (upd H p o) :=
  ⟨upd_new (s.free h), rfl, upd_new h, fun b u e => by
    by_cases hb : b = p
    · rw [hb] at e ⊢; rw [put_at] at e; rw [upd_same]; exact e
    · rw [put_ne hb] at e
      rw [upd_ne hb]; exact s b u e, fun b u e => by
    by_cases hb : b = p
    · subst hb; exact .inr h
    · rw [put_ne hb] at e
      exact .inl e⟩

/-! what was one's own is let go -/
theorem put_le {a : Addr} {o : HO} (h : G.Z a = none) : Wle G (G.put a o) := ⟨upd_new h, List.prefix_refl _⟩
theorem put_ext {a : Addr} {o : HO} (h : G.Z a = none) : Ext [a] G H (G.put a o) H :=
  ⟨put_le h, fun _ _ h _ _ => h, fun b u e => by
    by_cases hb : b = a
    · exact .inr (.inr (by rw [hb]; exact List.mem_singleton.mpr rfl))
    · rw [put_ne hb] at e; exact .inl e, fun _ h => .inl h, fun _ h => h⟩
theorem Rel.put {a : Addr} {o : HO} (r : Rel R H0 G0 G w σ H as) (e : H a = some o) (h : G.Z a = none) (hs : a ∉ G.sas) (ha : a ∉ as) (h0 : H0 a = none) : Rel R H0 G0 (G.put a o) w σ H as where
  env := r.env.mono (put_le h) fun _ _ _ h => h
  bas := {
    cells := ⟨r.bas.cells.1, fun n c b h1 h2 => (r.bas.cells.2 n c b h1 h2).mono (put_le h) rfl⟩
    nd := r.bas.nd
    free := fun b hb => (put_ne (fun z => hs (by rw [← z]; exact hb))).trans (r.bas.free b hb)
    sub := fun b u hb => by
      by_cases hz : b = a
      · rw [hz] at hb ⊢
        rw [put_at] at hb
        rw [← hb]; exact e
      · rw [put_ne hz] at hb; exact r.bas.sub b u hb
    tabs := r.bas.tabs
    ext := r.bas.ext.trans (fun b hb => .inr (by rw [List.mem_singleton.mp hb]; exact h0)) (put_ext h) }
  nd := r.nd
  free := fun b hb => (put_ne (fun z => ha (by rw [← z]; exact hb))).trans (r.free b hb)
  fresh := r.fresh

theorem PostE.shift {r : Res} {Q : VK} (h : PostE R H0 G0 Wx σ G H as r Q) (x : Ext as G H G1 H1) (s : ∀ a ∈ as1, a ∈ as) : PostE R H0 G0 Wx σ G1 H1 as1 r Q := by
  cases r with
  | ok rv w' =>
    intro v G' H' as' bs rel ext sub sl lo fr
    refine h v G' H' as' bs rel (x.trans (fun a ha => .inl (s a ha)) ext) (fun a ha => s a (sub a ha)) sl lo fun b hb => ?_
    rcases fr b hb with z | z
    · exact .inl (s b z)
    · exact .inr (x.dom b z)
  | ex x w' => exact h
  | bad => exact h

/-- a temporary is let go -/
theorem frz_tmp {rv : RV} {v : V} {x : D} (r : Rel R H0 G0 G w σ H as) (sl : RSlot R G H rv (some v) bs) (lo : Loose H0 G as bs) (e : rv.frz = some x) :
    ∃ G', Rel R H0 G0 G' w σ H as ∧ Ext bs G H G' H ∧ Rp R G' x v := by
  cases sl with
  | un => cases e
  | d h => cases e; exact ⟨G, r, .refl _ _ _, h⟩
  | @own a ds xs h q =>
    cases e
    obtain ⟨l1, l2, l3, l4⟩ := lo a (List.mem_singleton.mpr rfl)
    exact ⟨G.put a (.lst xs), r.put h l1 l2 l3 l4, put_ext l1, .lst upd_same (q.mono (put_le l1))⟩
  | @odic a ks vs xs h l q =>
    cases e
    obtain ⟨l1, l2, l3, l4⟩ := lo a (List.mem_singleton.mpr rfl)
    exact ⟨G.put a (.dK (ks.zip xs)), r.put h l1 l2 l3 l4, put_ext l1, .dic (.inl upd_same) l (q.mono (put_le l1))⟩
  | fn h l _ => cases e
  | xc h x => cases e

/-- an expression's value as data, and what is done with it -/
theorem lift_bd {m1 : ME} {k : D → W → Res} {Q1 Q : VK} (rel : Rel R H0 G0 G w σ H as) (h : PostE R H0 G0 Wx σ G H as ((m1 w).bd k) Q)
    (c : ∀ v x G1 H1 as1 w1, Rel R H0 G0 G1 w1 σ H1 as1 → Wle G G1 → Rp R G1 x v → PostE R H0 G0 Wx σ G1 H1 as1 (k x w1) Q → Q1 v H1) : liftE R Wx H0 G0 m1 σ H Q1 := by
  refine ⟨G, w, as, rel, ?_⟩
  cases e : m1 w with
  | bad => rw [e] at h; exact h
  | ex x w1 => rw [e] at h; exact h
  | ok rv w1 =>
    rw [e] at h
    intro v G' H' as' bs rel' ext sub sl lo fr
    cases ef : rv.frz with
    | none =>
      have h2 : PostE R H0 G0 Wx σ G H as .bad Q := by
        have : (Res.ok rv w1).bd k = .bad := by unfold Res.bd Res.bind; simp only [ef]
        rw [this] at h; exact h
      exact h2.elim
    | some x =>
      have h2 : PostE R H0 G0 Wx σ G H as (k x w1) Q := by
        have : (Res.ok rv w1).bd k = k x w1 := by unfold Res.bd Res.bind; simp only [ef]
        rw [this] at h; exact h
      obtain ⟨G2, rel2, ext2, rp⟩ := frz_tmp rel' sl lo ef
      have ext3 : Ext as G H G2 H' := ext.trans fr ext2
      exact c v x G2 H' as' w1 rel2 ext3.le rp (h2.shift ext3 sub)

/-- what may be read: data, or a live list or dict -/
inductive Live (R : RC) (G : Wd) (H : Hp) : D → V → Prop
  | rp {x v} : Rp R G x v → Live R G H x v
  | own {p ds xs} : H p = some (.lst xs) → p ∉ G.sas → Rps R G ds xs → Live R G H (.lst ds) (.ref p)
  | odic {p ks ds xs} : H p = some (.dK (ks.zip xs)) → p ∉ G.sas → ks.length = xs.length → Rps R G ds xs → Live R G H (.dic ks ds) (.ref p)
inductive Lives (R : RC) (G : Wd) (H : Hp) : List D → List V → Prop
  | nil : Lives R G H [] []
  | cons {d ds v vs} : Live R G H d v → Lives R G H ds vs → Lives R G H (d :: ds) (v :: vs)
theorem Ext.nosas {as : List Addr} (x : Ext as G H G' H') {p : Addr} {o : HO} (h : H p = some o) (hs : p ∉ G.sas) : p ∉ G'.sas := fun z => by
  rcases x.newS p z with z | z
  · exact hs z
  · rw [h] at z; cases z
theorem Live.ext {x : D} {v : V} (l : Live R G H x v) (e : Ext as G H G' H') : Live R G' H' x v := by
  cases l with
  | rp r => exact .rp (r.mono e.le)
  | own h s r => exact .own (e.keep _ _ h (fun _ z => by cases z) s) (e.nosas h s) (r.mono e.le)
  | odic h s l r => exact .odic (e.keep _ _ h (fun _ z => by cases z) s) (e.nosas h s) l (r.mono e.le)
theorem Lives.ext {xs : List D} {vs : List V} (l : Lives R G H xs vs) (e : Ext as G H G' H') : Lives R G' H' xs vs := by
  induction l with
  | nil => exact .nil
  | cons h _ ih => exact .cons (h.ext e) ih
/-- a list that may be read stands in the heap -/
theorem Live.lst {ds : List D} {v : V} (l : Live R G H (.lst ds) v) (s : Same G.Z H) : ∃ p xs, v = .ref p ∧ H p = some (.lst xs) ∧ Rps R G ds xs := by
  cases l with
  | rp r => cases r with
    | lst h r => exact ⟨_, _, rfl, s _ _ h, r⟩
  | own h _ r => exact ⟨_, _, rfl, h, r⟩
theorem Live.dic {ks : List Key} {ds : List D} {v : V} (l : Live R G H (.dic ks ds) v) (s : Same G.Z H) : ∃ p xs, v = .ref p ∧ Rd H p (.dK (ks.zip xs)) ∧ ks.length = xs.length ∧ Rps R G ds xs := by
  cases l with
  | rp r => cases r with
    | dic h l r => exact ⟨_, _, rfl, Same.rd s h, l, r⟩
  | odic h _ l r => exact ⟨_, _, rfl, .inl h, l, r⟩
theorem Live.tup {ds : List D} {v : V} (l : Live R G H (.tup ds) v) (s : Same G.Z H) : ∃ p xs, v = .ref p ∧ SqT R.K H p xs ∧ Rps R G ds xs ∧ Rp R G (.tup ds) (.ref p) := by
  cases l with
  | rp r => cases r with
    | tup h r => exact ⟨_, _, rfl, Same.seqT s h, r, .tup h r⟩
theorem Live.int {i : Int} {v : V} (l : Live R G H (.int i) v) : v = .int i := by
  cases l with
  | rp r => cases r; rfl
theorem Live.str {i : Str} {v : V} (l : Live R G H (.str i) v) : v = .str i := by
  cases l with
  | rp r => cases r; rfl
theorem Live.bl {i : Bool} {v : V} (l : Live R G H (.bl i) v) : v = .bl i := by
  cases l with
  | rp r => cases r; rfl
theorem Live.non {v : V} (l : Live R G H .non v) : v = .non := by
  cases l with
  | rp r => cases r; rfl
theorem RSlot.live {rv : RV} {v : V} {x : D} (sl : RSlot R G H rv (some v) bs) (lo : ∀ b ∈ bs, b ∉ G.sas) (e : rv.frz = some x) : Live R G H x v := by
  cases sl with
  | un => cases e
  | d h => cases e; exact .rp h
  | own h r => cases e; exact .own h (lo _ (List.mem_singleton.mpr rfl)) r
  | odic h l r => cases e; exact .odic h (lo _ (List.mem_singleton.mpr rfl)) l r
  | fn h l _ => cases e
  | xc h x => cases e

/-- an operand: what it is may be read -/
def PostO (R : RC) (H0 : Hp) (G0 : Wd) (Wx : WX) (σ : L2.St) (G : Wd) (H : Hp) (as : List Addr) (r : Res) (Q : VK) : Prop :=
  match r with
  | .ok rv w' => match rv.frz with
    | some x => ∀ v G' H' as', Rel R H0 G0 G' w' σ H' as' → Ext as G H G' H' → (∀ a ∈ as', a ∈ as) → Live R G' H' x v → Q v H'
    | none => False
  | .ex x w' => ∀ cls d G' H' as', Rel R H0 G0 G' w' σ H' as' → ExcR R G' H' x cls d → Wx cls d σ H'
  | .bad => False
def liftO (R : RC) (Wx : WX) (H0 : Hp) (G0 : Wd) (m : ME) : TE := fun σ H Q => ∃ G w as, Rel R H0 G0 G w σ H as ∧ PostO R H0 G0 Wx σ G H as (m w) Q
theorem lift_bo {m1 : ME} {k : D → W → Res} {Q1 Q : VK} (rel : Rel R H0 G0 G w σ H as) (h : PostE R H0 G0 Wx σ G H as ((m1 w).bd k) Q)
    (c : ∀ v x G1 H1 as1 w1, Rel R H0 G0 G1 w1 σ H1 as1 → Ext as G H G1 H1 → Live R G1 H1 x v → PostE R H0 G0 Wx σ G1 H1 as1 (k x w1) Q → Q1 v H1) : liftO R Wx H0 G0 m1 σ H Q1 := by
  refine ⟨G, w, as, rel, ?_⟩
  cases e : m1 w with
  | bad => rw [e] at h; exact h
  | ex x w1 => rw [e] at h; exact h
  | ok rv w1 =>
    rw [e] at h
    cases ef : rv.frz with
    | none =>
      have : (Res.ok rv w1).bd k = .bad := by unfold Res.bd Res.bind; simp only [ef]
      rw [this] at h; exact h.elim
    | some x =>
      have : (Res.ok rv w1).bd k = k x w1 := by unfold Res.bd Res.bind; simp only [ef]
      rw [this] at h
      show match rv.frz with | some x => _ | none => False
      rw [ef]
      exact fun v G' H' as' rel' ext sub lv => c v x G' H' as' w1 rel' ext lv (h.shift ext sub)
structure POm (X : Cx) (R : RC) (Wx : WX) (e : Expr) (m : ME) : Prop where
  pe : ∀ H0 G0, PE X e (liftO R Wx H0 G0 m)
theorem om {X : Cx} {e : Expr} {m : ME} (h : PEm X R Wx e m) : POm X R Wx e m := ⟨fun H0 G0 => PE.cons (h.pe H0 G0) fun σ H Q ⟨G, w, as, rel, h⟩ => by
  refine ⟨G, w, as, rel, ?_⟩
  cases e : m w with
  | bad => rw [e] at h; exact h
  | ex x w1 => rw [e] at h; exact h
  | ok rv w1 =>
    rw [e] at h
    intro v G' H' as' bs rel' ext sub sl lo _
    have h' : match rv.frz with
      | some x => ∀ v G' H' as', Rel R H0 G0 G' w1 σ H' as' → Ext as G H G' H' → (∀ a ∈ as', a ∈ as) → Live R G' H' x v → Q v H'
      | none => False := h
    cases ef : rv.frz with
    | none => rw [ef] at h'; exact h'.elim
    | some x => rw [ef] at h'; exact h' v G' H' as' rel' ext sub (sl.live (fun b hb => (lo b hb).2.1) ef)⟩
end
end DB

set_option Elab.async false
set_option linter.all false
set_option maxRecDepth 100000
set_option maxHeartbeats 4000000
namespace DB
open PySem PySem.Spec PyProof.Rows L2

structure Ag (X : Cx) (R : RC) : Prop where
  K : X.K = R.K
  mg : X.mg = R.mg

section
variable {R : RC} {H0 H H' H1 : Hp} {G0 G G' G1 : Wd} {w w' w1 : W} {σ : L2.St} {as as' as1 bs : List Addr} {Wx : WX} {X : Cx}

/-- a value that is new or was there, over a heap that has grown -/
def NewP (R : RC) (G : Wd) (H : Hp) (rv : RV) (Q : VK) : Prop := ∀ v G' H' bs, PExt G H G' H' → RSlot R G' H' rv (some v) bs → (∀ b ∈ bs, H b = none ∧ G'.Z b = none) → Q v H'
theorem PostE.new {rv : RV} {Q : VK} (rel : Rel R H0 G0 G w σ H as) (h : PostE R H0 G0 Wx σ G H as (.ok rv w) Q) : NewP R G H rv Q := fun v G' H' bs p sl lo =>
  h v G' H' as bs (rel.pext p) (p.ext as) (fun _ h => h) sl (fun b hb => by
    obtain ⟨h1, h2⟩ := lo b hb
    refine ⟨h2, fun z => ?_, fun z => ?_, rel.bas.ext.dom b h1⟩
    · rw [p.s] at z
      obtain ⟨u, hu⟩ := rel.bas.cells.has b z
      rw [hu] at h1; cases h1
    · obtain ⟨u, hu⟩ := rel.env.has b z
      rw [hu] at h1; cases h1) fun b hb => .inr (lo b hb).1
theorem NewP.sc {x : D} {v : V} {Q : VK} (h : NewP R G H (.d x) Q) (s : Same G.Z H) (r : Rp R G x v) : Q v H := h v G H [] (.refl s) (.d r) (by simp)
theorem NewP.tup {ds : List D} {xs : List V} {Q : VK} (h : NewP R G H (.d (.tup ds)) Q) (s : Same G.Z H) (r : Rps R G ds xs) : ∀ p, H p = none → Q (.ref p) (upd H p (.tup xs)) := fun p hp =>
  h (.ref p) (G.put p (.tup xs)) _ [] (.new s hp) (.d (.tup (.inl (.inl put_at)) (r.mono (PExt.new s hp).le))) (by simp)
theorem NewP.own {ds : List D} {xs : List V} {Q : VK} (h : NewP R G H (.own ds) Q) (s : Same G.Z H) (r : Rps R G ds xs) : ∀ p, H p = none → Q (.ref p) (upd H p (.lst xs)) := fun p hp =>
  h (.ref p) G _ [p] (.own s hp) (.own upd_same r) fun b hb => by rw [List.mem_singleton.mp hb]; exact ⟨hp, s.free hp⟩
theorem NewP.odic {ks : List Key} {ds : List D} {xs : List V} {Q : VK} (h : NewP R G H (.odic ks ds) Q) (s : Same G.Z H) (l : ks.length = xs.length) (r : Rps R G ds xs) : ∀ p, H p = none → Q (.ref p) (upd H p (.dK (ks.zip xs))) := fun p hp =>
  h (.ref p) G _ [p] (.own s hp) (.odic upd_same l r) fun b hb => by rw [List.mem_singleton.mp hb]; exact ⟨hp, s.free hp⟩

/-! operations by values -/
def V2 (R : RC) (r : R2) (g : D → D → Option RV) : Prop := ∀ {G : Wd} {H : Hp} {x y : D} {vx vy : V} {rv : RV} {Q : VK}, Same G.Z H → Live R G H x vx → Live R G H y vy → g x y = some rv → NewP R G H rv Q → r vx vy H Q
structure OpM (X : Cx) (R : RC) (f : Value → Value → Sem Value) (g : D → D → Option RV) : Prop where
  ex : ∃ r, OpR X f r ∧ V2 R r g
def V1 (R : RC) (r : V → Hp → VK → Prop) (g : D → Option RV) : Prop := ∀ {G : Wd} {H : Hp} {x : D} {vx : V} {rv : RV} {Q : VK}, Same G.Z H → Live R G H x vx → g x = some rv → NewP R G H rv Q → r vx H Q
def VL (R : RC) (r : List V → Hp → VK → Prop) (g : List D → Option RV) : Prop := ∀ {G : Wd} {H : Hp} {xs : List D} {vs : List V} {rv : RV} {Q : VK}, Same G.Z H → Lives R G H xs vs → g xs = some rv → NewP R G H rv Q → r vs H Q
/-- a built-in function or class, called by values -/
structure CalM (X : Cx) (R : RC) (f : Value) (g : List D → Option RV) : Prop where
  ex : ∃ r, CallR X f r ∧ VL R r g

def ofO (o : Option RV) (w : W) : Res := match o with
  | some rv => .ok rv w
  | none => .bad
def mBin (g : D → D → Option RV) (m1 m2 : ME) : ME := fun w => (m1 w).bd fun x w1 => (m2 w1).bd fun y w2 => ofO (g x y) w2
theorem PostE.ofO {o : Option RV} {Q : VK} (h : PostE R H0 G0 Wx σ G H as (ofO o w) Q) : ∃ rv, o = some rv ∧ PostE R H0 G0 Wx σ G H as (.ok rv w) Q := by
  cases o with
  | none => exact h.elim
  | some rv => exact ⟨rv, rfl, h⟩

variable {a b c : Expr} {ma mb mc : ME} {pos : Pos}
theorem run2 {r : R2} {g : D → D → Option RV} (hv : V2 R r g) {Q : VK} (h : liftE R Wx H0 G0 (mBin g ma mb) σ H Q) : liftO R Wx H0 G0 ma σ H fun x H1 => liftO R Wx H0 G0 mb σ H1 fun y H2 => r x y H2 Q := by
  obtain ⟨G, w, as, rel, h⟩ := h
  refine lift_bo rel h fun v x G1 H1 as1 w1 rel1 le1 lv1 h1 => ?_
  refine lift_bo rel1 h1 fun u y G2 H2 as2 w2 rel2 le2 lv2 h2 => ?_
  obtain ⟨rv, e, h3⟩ := h2.ofO
  exact hv rel2.bas.sub (lv1.ext le2) lv2 e (h3.new rel2)
theorem em_bin {op : Operator} {g : D → D → Option RV} (o : OpM X R (binaryOp op) g) (ha : POm X R Wx a ma) (hb : POm X R Wx b mb) : PEm X R Wx (.BinOp a op b pos) (mBin g ma mb) := by
  obtain ⟨r, ho, hv⟩ := o.ex
  exact ⟨fun H0 G0 => PE.cons (pe_op ho (ha.pe H0 G0) (hb.pe H0 G0)) fun σ H Q h => run2 hv h⟩

/-! names and constants -/
def mVar (i : Nat) : ME := fun w => match w.env[i]? with
  | some (.d x) => .ok (.d x) w
  | some (.own ds) => .ok (.d (.lst ds)) { w with env := w.env.set i (.d (.lst ds)) }
  | some (.odic ks vs) => .ok (.d (.dic ks vs)) { w with env := w.env.set i (.d (.dic ks vs)) }
  | _ => .bad
def mC (x : D) : ME := fun w => .ok (.d x) w

theorem REnv.len {l : List RV} (s : REnv R G H l σ as) : l.length = σ.length := by
  induction s with
  | nil => rfl
  | cons _ _ ih => simp [ih]
/-- the slot at i, and the rest of them -/
theorem REnv.at {l : List RV} {i : Nat} {r : RV} (s : REnv R G H l σ as) (e : l[i]? = some r) :
    ∃ (o : Option V) (bs : List Addr) (cs : List Addr), σ[i]? = some o ∧ RSlot R G H r o bs ∧ (∀ a, a ∈ as ↔ a ∈ bs ∨ a ∈ cs) ∧ (as.Nodup → bs.Nodup ∧ cs.Nodup ∧ ∀ a ∈ bs, a ∉ cs) ∧
      ∀ {G' : Wd} {H' : Hp} {r' : RV} {o' : Option V} {bs' : List Addr}, Wle G G' → (∀ a ∈ cs, ∀ u, H a = some u → H' a = some u) → RSlot R G' H' r' o' bs' → (∀ a ∈ bs', a ∉ cs) → bs'.Nodup → ∃ as', REnv R G' H' (l.set i r') (σ.set i o') as' ∧ (∀ a, a ∈ as' ↔ a ∈ bs' ∨ a ∈ cs) ∧ (as.Nodup → as'.Nodup) := by
  induction s generalizing i with
  | nil => simp at e
  | @cons r0 o0 as0 rs os bs0 h0 t ih =>
    cases i with
    | zero =>
      simp at e
      subst e
      refine ⟨o0, as0, bs0, rfl, h0, fun a => List.mem_append, fun nd => ?_, fun {G' H' r' o' bs'} le k sl dj nd' => ⟨bs' ++ bs0, .cons sl (t.mono le k), fun a => List.mem_append, fun nd => ?_⟩⟩
      · obtain ⟨n1, n2, n3⟩ := List.nodup_append.mp nd
        exact ⟨n1, n2, fun a ha hb => n3 a ha a hb rfl⟩
      · obtain ⟨n1, n2, n3⟩ := List.nodup_append.mp nd
        refine List.nodup_append.mpr ⟨nd', n2, fun a ha b hb z => ?_⟩
        subst z
        exact dj a ha hb
    | succ j =>
      obtain ⟨o, bs, cs, e1, e2, e3, e4, e5⟩ := ih (i := j) (by simpa using e)
      refine ⟨o, bs, as0 ++ cs, by simpa using e1, e2, fun a => ?_, fun nd => ?_, fun {G' H' r' o' bs'} le k sl dj nd' => ?_⟩
      · rw [List.mem_append, e3, List.mem_append]
        constructor
        · rintro (z | z | z)
          · exact .inr (.inl z)
          · exact .inl z
          · exact .inr (.inr z)
        · rintro (z | z | z)
          · exact .inr (.inl z)
          · exact .inl z
          · exact .inr (.inr z)
      · obtain ⟨n1, n2, n3⟩ := List.nodup_append.mp nd
        obtain ⟨m1, m2, m3⟩ := e4 n2
        refine ⟨m1, List.nodup_append.mpr ⟨n1, m2, fun a ha b hb z => n3 a ha b ((e3 b).mpr (.inr hb)) z⟩, fun a ha hb => ?_⟩
        rcases List.mem_append.mp hb with z | z
        · exact n3 a z a ((e3 a).mpr (.inl ha)) rfl
        · exact m3 a ha z
      · obtain ⟨as', q1, q2, q3⟩ := e5 le (fun a ha => k a (List.mem_append_right _ ha)) sl (fun a ha hb => dj a ha (List.mem_append_right _ hb)) nd'
        refine ⟨as0 ++ as', .cons (h0.mono le fun a ha => k a (List.mem_append_left _ ha)) q1, fun a => ?_, fun nd => ?_⟩
        · rw [List.mem_append, q2, List.mem_append]
          constructor
          · rintro (z | z | z)
            · exact .inr (.inl z)
            · exact .inl z
            · exact .inr (.inr z)
          · rintro (z | z | z)
            · exact .inr (.inl z)
            · exact .inl z
            · exact .inr (.inr z)
        · obtain ⟨n1, n2, n3⟩ := List.nodup_append.mp nd
          refine List.nodup_append.mpr ⟨n1, q3 n2, fun a ha b hb z => ?_⟩
          subst z
          rcases (q2 a).mp hb with y | y
          · exact dj a y (List.mem_append_left _ ha)
          · exact n3 a ha a ((e3 a).mpr (.inr y)) rfl
theorem set_same {α : Type} : ∀ {l : List α} {i : Nat} {x : α}, l[i]? = some x → l.set i x = l
  | [], _, _, h => by simp at h
  | a :: l, 0, x, h => by simp at h; subst h; rfl
  | a :: l, i + 1, x, h => by
    show a :: l.set i x = a :: l
    rw [set_same (l := l) (i := i) (by simpa using h)]

/-- one's own slot is let go -/
theorem Rel.letgo {i : Nat} {r r' : RV} {p : Addr} {o : HO} (rel : Rel R H0 G0 G w σ H as) (e : w.env[i]? = some r) (es : σ[i]? = some (some (.ref p))) (ep : H p = some o)
    (hsl : ∀ {o' bs}, RSlot R G H r o' bs → o' = some (.ref p) → bs = [p]) (h' : RSlot R (G.put p o) H r' (some (.ref p)) []) :
    ∃ as', Rel R H0 G0 (G.put p o) { w with env := w.env.set i r' } σ H as' ∧ (∀ a ∈ as', a ∈ as) ∧ Ext as G H (G.put p o) H ∧ G.Z p = none := by
  obtain ⟨o1, bs, cs, e1, e2, e3, e4, e5⟩ := rel.env.at e
  rw [es] at e1
  cases e1
  have hb := hsl e2 rfl
  subst hb
  have hp : p ∈ as := (e3 p).mpr (.inl (List.mem_singleton.mpr rfl))
  obtain ⟨n1, n2, n3⟩ := List.nodup_append.mp rel.nd
  have hz : G.Z p = none := rel.free p hp
  have hs : p ∉ G.sas := fun z => n3 p hp p z rfl
  obtain ⟨_, _, dj⟩ := e4 n1
  have hc : p ∉ cs := dj p (List.mem_singleton.mpr rfl)
  obtain ⟨as', q1, q2, q3⟩ := e5 (put_le (o := o) hz) (fun _ _ _ h => h) h' (by simp) List.nodup_nil
  have q2' : ∀ a, a ∈ as' → a ∈ cs := fun a ha => by
    rcases (q2 a).mp ha with z | z
    · simp at z
    · exact z
  have sub : ∀ a ∈ as', a ∈ as := fun a ha => (e3 a).mpr (.inr (q2' a ha))
  refine ⟨as', ?_, sub, (put_ext hz).mono fun a ha => .inl (by rw [List.mem_singleton.mp ha]; exact hp), hz⟩
  have hσ : σ.set i (some (.ref p)) = σ := set_same es
  rw [hσ] at q1
  exact {
    env := q1
    bas := {
      cells := ⟨rel.bas.cells.1, fun n c b h1 h2 => (rel.bas.cells.2 n c b h1 h2).mono (put_le hz) rfl⟩
      nd := rel.bas.nd
      free := fun b hb => (put_ne (fun z => hs (by rw [← z]; exact hb))).trans (rel.bas.free b hb)
      sub := fun b u hb => by
        by_cases hz2 : b = p
        · rw [hz2] at hb ⊢
          rw [put_at] at hb
          rw [← hb]; exact ep
        · rw [put_ne hz2] at hb; exact rel.bas.sub b u hb
      tabs := rel.bas.tabs
      ext := rel.bas.ext.trans (fun b hb => .inr (by rw [List.mem_singleton.mp hb]; exact rel.fresh p hp)) (put_ext hz) }
    nd := List.nodup_append.mpr ⟨q3 n1, n2, fun a ha b hb z => n3 a (sub a ha) b hb z⟩
    free := fun b hb => (put_ne (fun z => hc (by rw [← z]; exact q2' b hb))).trans (rel.free b (sub b hb))
    fresh := fun b hb => rel.fresh b (sub b hb) }

theorem em_var (i : Nat) {x : Str} {pos : Pos} (hN : X.N[i]? = some x := by rfl) (hv : Vis X.env.scope x := by first | exact Or.inl rfl | exact Or.inr (Or.inl rfl) | exact Or.inr (Or.inr rfl)) (hd : (x == ("__debug__" : Str)) = false := by decide)
    (hcd : (x == ("__classdict__" : Str)) = false := by decide) : PEm X R Wx (.Name x pos) (mVar i) := by
  refine ⟨fun H0 G0 => PE.cons (pe_var hN hv hd hcd) fun σ H Q ⟨G, w, as, rel, h⟩ => ?_⟩
  show ∃ v, σ[i]? = some (some v) ∧ Q v H
  unfold mVar at h
  cases e : w.env[i]? with
  | none => rw [e] at h; exact h.elim
  | some r =>
    rw [e] at h
    obtain ⟨o, bs, cs, e1, e2, e3, e4, e5⟩ := rel.env.at e
    cases e2 with
    | un => exact h.elim
    | fn _ _ _ => exact h.elim
    | xc _ _ => exact h.elim
    | @d x v rp => exact ⟨v, e1, h v G H as [] rel (.refl _ _ _) (fun _ h => h) (.d rp) (by intro b hb; simp at hb) (by simp)⟩
    | @own p ds xs hp rs =>
      have hz : G.Z p = none := rel.free p ((e3 p).mpr (.inl (List.mem_singleton.mpr rfl)))
      have rp : Rp R (G.put p (.lst xs)) (.lst ds) (.ref p) := .lst put_at (rs.mono (put_le hz))
      obtain ⟨as', rel', sub, ext, _⟩ := rel.letgo (r' := .d (.lst ds)) e e1 hp (fun {o' bs'} s z => by cases s; cases z; rfl) (.d rp)
      exact ⟨_, e1, h (.ref p) _ H as' [] rel' ext sub (.d rp) (by intro b hb; simp at hb) (by simp)⟩
    | @odic p ks ds xs hp hl rs =>
      have hz : G.Z p = none := rel.free p ((e3 p).mpr (.inl (List.mem_singleton.mpr rfl)))
      have rp : Rp R (G.put p (.dK (ks.zip xs))) (.dic ks ds) (.ref p) := .dic (.inl put_at) hl (rs.mono (put_le hz))
      obtain ⟨as', rel', sub, ext, _⟩ := rel.letgo (r' := .d (.dic ks ds)) e e1 hp (fun {o' bs'} s z => by cases s; cases z; rfl) (.d rp)
      exact ⟨_, e1, h (.ref p) _ H as' [] rel' ext sub (.d rp) (by intro b hb; simp at hb) (by simp)⟩
/-- the slot's list or dict is only looked at -/
def mPk (i : Nat) : ME := fun w => match w.env[i]? with
  | some (.d x) => .ok (.d x) w
  | some (.own ds) => .ok (.own ds) w
  | some (.odic ks vs) => .ok (.odic ks vs) w
  | _ => .bad
theorem om_var (i : Nat) {x : Str} {pos : Pos} (hN : X.N[i]? = some x := by rfl) (hv : Vis X.env.scope x := by first | exact Or.inl rfl | exact Or.inr (Or.inl rfl) | exact Or.inr (Or.inr rfl)) (hd : (x == ("__debug__" : Str)) = false := by decide)
    (hcd : (x == ("__classdict__" : Str)) = false := by decide) : POm X R Wx (.Name x pos) (mPk i) := by
  refine ⟨fun H0 G0 => PE.cons (pe_var hN hv hd hcd) fun σ H Q ⟨G, w, as, rel, h⟩ => ?_⟩
  show ∃ v, σ[i]? = some (some v) ∧ Q v H
  unfold mPk at h
  cases e : w.env[i]? with
  | none => rw [e] at h; exact h.elim
  | some r =>
    rw [e] at h
    obtain ⟨o, bs, cs, e1, e2, e3, e4, e5⟩ := rel.env.at e
    have nos : ∀ p ∈ bs, p ∉ G.sas := fun p hp z => (List.nodup_append.mp rel.nd).2.2 p ((e3 p).mpr (.inl hp)) p z rfl
    cases e2 with
    | un => exact h.elim
    | fn _ _ _ => exact h.elim
    | xc _ _ => exact h.elim
    | @d x v rp => exact ⟨v, e1, h v G H as rel (.refl _ _ _) (fun _ h => h) (.rp rp)⟩
    | @own p ds xs hp rs => exact ⟨_, e1, h (.ref p) G H as rel (.refl _ _ _) (fun _ h => h) (.own hp (nos p (List.mem_singleton.mpr rfl)) rs)⟩
    | @odic p ks ds xs hp hl rs => exact ⟨_, e1, h (.ref p) G H as rel (.refl _ _ _) (fun _ h => h) (.odic hp (nos p (List.mem_singleton.mpr rfl)) hl rs)⟩
theorem em_c {e : Expr} {v : V} {x : D} (h : PE X e (tC v)) (r : ∀ G, Rp R G x v) : PEm X R Wx e (mC x) :=
  ⟨fun H0 G0 => PE.cons h fun σ H Q ⟨G, w, as, rel, h⟩ => (PostE.new rel h).sc rel.bas.sub (r G)⟩
theorem em_int {i : Int} {j} : PEm X R Wx (.Constant (.int i) j pos) (mC (.int i)) := em_c pe_int fun _ => .int
theorem em_bl {b : Bool} {j} : PEm X R Wx (.Constant (.bool b) j pos) (mC (.bl b)) := em_c pe_bl fun _ => .bl
theorem em_non {j} : PEm X R Wx (.Constant .none j pos) (mC .non) := em_c pe_non fun _ => .non
theorem em_str {x : Str} {j} : PEm X R Wx (.Constant (.str x) j pos) (mC (.str x)) := em_c pe_str fun _ => .str
/-- a constant of the module -/
theorem em_gint {x : Str} {i : Int} {t : Tok} (hg : Gl X x) (hm : X.mg x = some (.int i t)) (hd : (x == ("__debug__" : Str)) = false := by decide) : PEm X R Wx (.Name x pos) (mC (.int i)) := em_c (pe_glob hg hm (v := .int i) ⟨t, rfl⟩ hd) fun _ => .int
theorem em_gstr {x y : Str} {t : Tok} (hg : Gl X x) (hm : X.mg x = some (.str y t)) (hd : (x == ("__debug__" : Str)) = false := by decide) : PEm X R Wx (.Name x pos) (mC (.str y)) := em_c (pe_glob hg hm (v := .str y) ⟨t, rfl⟩ hd) fun _ => .str
end
end DB

set_option Elab.async false
set_option linter.all false
set_option maxRecDepth 100000
set_option maxHeartbeats 4000000
namespace DB
open PySem PySem.Spec PyProof.Rows L2

/-! equality -/
mutual
def toPy : D → PyData
  | .non => .none
  | .bl b => .bool b
  | .int i => .int i
  | .str x => .str x
  | .tup ds => .tuple (toPys ds)
  | .lst ds => .list (toPys ds)
  | .scr ds => .list (toPys ds)
  | _ => .dict []
def toPys : List D → List PyData
  | [] => []
  | d :: ds => toPy d :: toPys ds
end
mutual
def okD : D → Bool
  | .non => true
  | .bl _ => true
  | .int _ => true
  | .str _ => true
  | .tup ds => okDs ds
  | .lst ds => okDs ds
  | .scr ds => okDs ds
  | _ => false
def okDs : List D → Bool
  | [] => true
  | d :: ds => okD d && okDs ds
end
section
variable {R : RC} {G : Wd} {H : Hp}
mutual
theorem Rp.dp (s : Same G.Z H) : ∀ {d : D} {v : V}, Rp R G d v → okD d = true → Dp R.K H v (toPy d)
  | _, _, .non, _ => .non
  | _, _, .bl, _ => .bl _
  | _, _, .int, _ => .int _
  | _, _, .str, _ => .str _
  | .tup ds, _, .tup h r, o => .tup (Same.seqT s h) (Rps.dp s r (by simpa [okD] using o))
  | .lst ds, _, .lst h r, o => .lst (.inl (.inl (s _ _ h))) (Rps.dp s r (by simpa [okD] using o))
  | .scr ds, _, .scr h r, o => .lst (Same.seq s h) (Rps.dp s r (by simpa [okD] using o))
  | _, _, .dic h l r, o => by simp [okD] at o
  | _, _, .obj h z l r, o => by simp [okD] at o
  | _, _, .cell h, o => by simp [okD] at o
theorem Rps.dp (s : Same G.Z H) : ∀ {ds : List D} {vs : List V}, Rps R G ds vs → okDs ds = true → DpAll R.K H vs (toPys ds)
  | _, _, .nil, _ => .nil
  | d :: ds, _, .cons h r, o => by
    have o' : okD d = true ∧ okDs ds = true := by simpa [okDs] using o
    exact .cons (Rp.dp s h o'.1) (Rps.dp s r o'.2)
end
end
def okE (x : D) : Bool := okD x && SeqAt.shaped (toPy x)
def eqB (x y : D) : Bool := PyData.eqv (toPy x) (toPy y)
def bO (b : Bool) : Option RV := some (.d (.bl b))
def gEq (x y : D) : Option RV := match x, y with
  | .int i, .int j => bO (decide (i = j))
  | .str i, .str j => bO (decide (i = j))
  | x, y => if okE x && okE y then bO (eqB x y) else none
def gNe (x y : D) : Option RV := match x, y with
  | .int i, .int j => bO (!decide (i = j))
  | .str i, .str j => bO (!decide (i = j))
  | x, y => if okE x && okE y then bO (!eqB x y) else none

section
variable {R : RC} {H0 H H' H1 : Hp} {G0 G G' G1 : Wd} {w w' w1 : W} {σ : L2.St} {as as' as1 bs : List Addr} {Wx : WX} {X : Cx}
theorem dec_vi {i j : Int} : decide (V.int i = V.int j) = decide (i = j) := by simp
theorem dec_vs {i j : Str} : decide (V.str i = V.str j) = decide (i = j) := by simp

theorem Live.dp (s : Same G.Z H) {d : D} {v : V} (l : Live R G H d v) (o : okD d = true) : Dp R.K H v (toPy d) := by
  cases l with
  | rp r => exact r.dp s o
  | own h _ r => exact .lst (.inl (.inl h)) (r.dp s (by simpa [okD] using o))
  | odic h _ _ r => simp [okD] at o
theorem om_eq (ag : Ag X R) (hu : X.A.units + 64 < cLine) : OpM X R (compareOp .Eq) gEq := by
  refine ⟨_, op_eq.or (op_eqD hu), fun {G H x y vx vy rv Q} s rx ry e h => ?_⟩
  have deep : ∀ {x y : D}, Live R G H x vx → Live R G H y vy → (if okE x && okE y then bO (eqB x y) else none) = some rv → rEqD X.K vx vy H Q := fun {x y} rx ry e => by
    split at e
    · rename_i c
      obtain ⟨c1, c2⟩ := Bool.and_eq_true_iff.mp c
      obtain ⟨d1, d2⟩ := Bool.and_eq_true_iff.mp c1
      obtain ⟨d3, d4⟩ := Bool.and_eq_true_iff.mp c2
      cases e
      refine ⟨_, _, ?_, ?_, d2, d4, h.sc s .bl⟩
      · rw [ag.K]; exact rx.dp s d1
      · rw [ag.K]; exact ry.dp s d3
    · cases e
  unfold gEq at e
  split at e
  · cases rx.int; cases ry.int; cases e
    exact .inl ⟨rfl, by rw [dec_vi]; exact h.sc s .bl⟩
  · cases rx.str; cases ry.str; cases e
    exact .inl ⟨rfl, by rw [dec_vs]; exact h.sc s .bl⟩
  · exact .inr (deep rx ry e)
theorem om_ne (ag : Ag X R) (hu : X.A.units + 64 < cLine) : OpM X R (compareOp .NotEq) gNe := by
  refine ⟨_, op_ne.or (op_neD hu), fun {G H x y vx vy rv Q} s rx ry e h => ?_⟩
  have deep : ∀ {x y : D}, Live R G H x vx → Live R G H y vy → (if okE x && okE y then bO (!eqB x y) else none) = some rv → rNeD X.K vx vy H Q := fun {x y} rx ry e => by
    split at e
    · rename_i c
      obtain ⟨c1, c2⟩ := Bool.and_eq_true_iff.mp c
      obtain ⟨d1, d2⟩ := Bool.and_eq_true_iff.mp c1
      obtain ⟨d3, d4⟩ := Bool.and_eq_true_iff.mp c2
      cases e
      refine ⟨_, _, ?_, ?_, d2, d4, h.sc s .bl⟩
      · rw [ag.K]; exact rx.dp s d1
      · rw [ag.K]; exact ry.dp s d3
    · cases e
  unfold gNe at e
  split at e
  · cases rx.int; cases ry.int; cases e
    exact .inl ⟨rfl, by rw [dec_vi]; exact h.sc s .bl⟩
  · cases rx.str; cases ry.str; cases e
    exact .inl ⟨rfl, by rw [dec_vs]; exact h.sc s .bl⟩
  · exact .inr (deep rx ry e)

/-! arithmetic -/
def iO (i : Int) : Option RV := some (.d (.int i))
def gAdd (x y : D) : Option RV := match x, y with
  | .int i, .int j => iO (i + j)
  | .str i, .str j => if i.length + j.length ≤ sizeLine then some (.d (.str (i ++ j))) else none
  | .tup i, .tup j => if i.length + j.length ≤ sizeLine then some (.d (.tup (i ++ j))) else none
  | .lst i, .lst j => if i.length + j.length ≤ sizeLine then some (.own (i ++ j)) else none
  | _, _ => none
def gSub (x y : D) : Option RV := match x, y with
  | .int i, .int j => iO (i - j)
  | _, _ => none
instance (i j : Int) : Decidable (CMul i j) := inferInstanceAs (Decidable ((-(2 ^ 64) < i ∧ i < 2 ^ 64) ∨ (-(2 ^ 64) < j ∧ j < 2 ^ 64)))
instance (i j : Int) : Decidable (CDiv i j) := inferInstanceAs (Decidable (0 < j ∧ j < 1073741824))
instance (i j : Int) : Decidable (CPow i j) := inferInstanceAs (Decidable (0 ≤ j ∧ j ≤ 1000000 ∧ i.natAbs < 2 ^ 64))
def repD (k : Int) (ds : List D) : List D := (List.replicate k.toNat ds).flatten
def gMul (x y : D) : Option RV := match x, y with
  | .int i, .int j => if CMul i j then iO (i * j) else none
  | .lst i, .int k => if -(2 ^ 63) ≤ k ∧ k < 2 ^ 63 ∧ i.length * k.toNat ≤ sizeLine then some (.own (repD k i)) else none
  | _, _ => none
def gMod (x y : D) : Option RV := match x, y with
  | .int i, .int j => if 0 < j then iO (i % j) else none
  | _, _ => none
def gDiv (x y : D) : Option RV := match x, y with
  | .int i, .int j => if CDiv i j then iO (i / j) else none
  | _, _ => none
def gPow (x y : D) : Option RV := match x, y with
  | .int i, .int j => if CPow i j then iO (i ^ j.toNat) else none
  | _, _ => none
theorem iO_inv {i : Int} {rv : RV} (e : iO i = some rv) : rv = .d (.int i) := (Option.some.inj e).symm
theorem rep_flat {ds : List D} {xs : List V} (r : Rps R G ds xs) : ∀ n, Rps R G (List.replicate n ds).flatten (List.replicate n xs).flatten
  | 0 => .nil
  | n + 1 => by
    rw [List.replicate_succ, List.replicate_succ, List.flatten_cons, List.flatten_cons]
    exact r.append (rep_flat r n)
theorem om_add (ag : Ag X R) : OpM X R (binaryOp .Add) gAdd := by
  refine ⟨_, op_add.or (op_add_str.or (op_catA.or op_cat)), fun {G H x y vx vy rv Q} s rx ry e h => ?_⟩
  unfold gAdd at e
  split at e
  · cases rx.int; cases ry.int; cases e
    exact .inl ⟨_, _, rfl, rfl, h.sc s .int⟩
  · cases rx.str; cases ry.str
    split at e
    · rename_i c; cases e
      exact .inr (.inl ⟨_, _, rfl, rfl, c, h.sc s .str⟩)
    · cases e
  · obtain ⟨a, xs, rfl, hx, rx, px⟩ := rx.tup s
    obtain ⟨b, ys, rfl, hy, ry, py⟩ := ry.tup s
    split at e
    · rename_i c; cases e
      refine .inr (.inr (.inl ⟨_, _, xs, ys, rfl, rfl, by rw [ag.K]; exact hx, by rw [ag.K]; exact hy, by rw [← rx.length, ← ry.length]; exact c, fun z => ?_, fun _ z => ?_, fun _ _ => h.tup s (rx.append ry)⟩))
      · subst z
        cases rx
        exact h.sc s py
      · subst z
        cases ry
        rw [List.append_nil] at h
        exact h.sc s px
    · cases e
  · obtain ⟨a, xs, rfl, hx, rx⟩ := rx.lst s
    obtain ⟨b, ys, rfl, hy, ry⟩ := ry.lst s
    split at e
    · rename_i c; cases e
      exact .inr (.inr (.inr ⟨_, _, xs, ys, rfl, rfl, hx, hy, by rw [← rx.length, ← ry.length]; exact c, h.own s (rx.append ry)⟩))
    · cases e
  · cases e
theorem om_sub : OpM X R (binaryOp .Sub) gSub := by
  refine ⟨_, op_sub, fun {G H x y vx vy rv Q} s rx ry e h => ?_⟩
  unfold gSub at e
  split at e
  · cases rx.int; cases ry.int; cases e
    exact ⟨_, _, rfl, rfl, h.sc s .int⟩
  · cases e
theorem om_mul : OpM X R (binaryOp .Mult) gMul := by
  refine ⟨_, op_mul.or op_rep, fun {G H x y vx vy rv Q} s rx ry e h => ?_⟩
  unfold gMul at e
  split at e
  · cases rx.int; cases ry.int
    split at e
    · rename_i c; cases e
      exact .inl ⟨_, _, rfl, rfl, c, h.sc s .int⟩
    · cases e
  · obtain ⟨a, xs, rfl, hx, rx⟩ := rx.lst s
    cases ry.int
    split at e
    · rename_i c; cases e
      exact .inr ⟨_, _, xs, rfl, rfl, hx, c.1, c.2.1, by rw [← rx.length]; exact c.2.2, h.own s (rep_flat rx _)⟩
    · cases e
  · cases e
theorem om_mod : OpM X R (binaryOp .Mod) gMod := by
  refine ⟨_, op_mod, fun {G H x y vx vy rv Q} s rx ry e h => ?_⟩
  unfold gMod at e
  split at e
  · cases rx.int; cases ry.int
    split at e
    · rename_i c; cases e
      exact ⟨_, _, rfl, rfl, c, h.sc s .int⟩
    · cases e
  · cases e
theorem om_div : OpM X R (binaryOp .FloorDiv) gDiv := by
  refine ⟨_, op_fdiv, fun {G H x y vx vy rv Q} s rx ry e h => ?_⟩
  unfold gDiv at e
  split at e
  · cases rx.int; cases ry.int
    split at e
    · rename_i c; cases e
      exact ⟨_, _, rfl, rfl, c, h.sc s .int⟩
    · cases e
  · cases e
theorem om_pow : OpM X R (binaryOp .Pow) gPow := by
  refine ⟨_, op_pow, fun {G H x y vx vy rv Q} s rx ry e h => ?_⟩
  unfold gPow at e
  split at e
  · cases rx.int; cases ry.int
    split at e
    · rename_i c; cases e
      exact ⟨_, _, rfl, rfl, c, h.sc s .int⟩
    · cases e
  · cases e

/-! comparisons -/
def gCmpI (p : Int → Int → Bool) (x y : D) : Option RV := match x, y with
  | .int i, .int j => bO (p i j)
  | _, _ => none
theorem om_cmpI {op : CmpOp} {p : Int → Int → Bool} (ho : OpR X (compareOp op) (rI0 fun i j => .bl (p i j))) : OpM X R (compareOp op) (gCmpI p) := by
  refine ⟨_, ho, fun {G H x y vx vy rv Q} s rx ry e h => ?_⟩
  unfold gCmpI at e
  split at e
  · cases rx.int; cases ry.int; cases e
    exact ⟨_, _, rfl, rfl, h.sc s .bl⟩
  · cases e
abbrev gLt := gCmpI fun i j => decide (i < j)
abbrev gLe := gCmpI fun i j => decide (i ≤ j)
abbrev gGt := gCmpI fun i j => decide (j < i)
abbrev gGe := gCmpI fun i j => decide (j ≤ i)
theorem om_lt : OpM X R (compareOp .Lt) gLt := om_cmpI op_lt
theorem om_le : OpM X R (compareOp .LtE) gLe := om_cmpI op_le
theorem om_gt : OpM X R (compareOp .Gt) gGt := om_cmpI op_gt
theorem om_ge : OpM X R (compareOp .GtE) gGe := om_cmpI op_ge
def isNon : D → Bool
  | .non => true
  | _ => false
def gIs (x y : D) : Option RV := match y with
  | .non => bO (isNon x)
  | _ => none
def gIsNot (x y : D) : Option RV := match y with
  | .non => bO (!isNon x)
  | _ => none
theorem isNon_rp {x : D} {v : V} (r : Live R G H x v) : decide (v = .non) = isNon x := by
  cases r with
  | rp r => cases r <;> simp [isNon]
  | own _ _ _ => simp [isNon]
  | odic _ _ _ _ => simp [isNon]
theorem om_is : OpM X R (compareOp .Is) gIs := by
  refine ⟨_, op_isN, fun {G H x y vx vy rv Q} s rx ry e h => ?_⟩
  unfold gIs at e
  split at e
  · cases ry.non; cases e
    exact ⟨rfl, by rw [isNon_rp rx]; exact h.sc s .bl⟩
  · cases e
theorem om_isNot : OpM X R (compareOp .IsNot) gIsNot := by
  refine ⟨_, op_notN, fun {G H x y vx vy rv Q} s rx ry e h => ?_⟩
  unfold gIsNot at e
  split at e
  · cases ry.non; cases e
    exact ⟨rfl, by rw [isNon_rp rx]; exact h.sc s .bl⟩
  · cases e
end
end DB

set_option Elab.async false
set_option linter.all false
set_option maxRecDepth 100000
set_option maxHeartbeats 4000000
namespace DB
open PySem PySem.Spec PyProof.Rows L2
section
variable {R : RC} {H0 H H' H1 : Hp} {G0 G G' G1 : Wd} {w w' w1 : W} {σ : L2.St} {as as' as1 bs : List Addr} {Wx : WX} {X : Cx}
  {a b c e : Expr} {ma mb mc m : ME} {pos : Pos}

/-! comparisons, tests -/
theorem em_cmp {op : CmpOp} {g : D → D → Option RV} (o : OpM X R (compareOp op) g) (ha : POm X R Wx a ma) (hb : POm X R Wx b mb) (hm : behindInMarks op b = false) : PEm X R Wx (.Compare a [op] [b] pos) (mBin g ma mb) := by
  obtain ⟨r, ho, hv⟩ := o.ex
  exact ⟨fun H0 G0 => PE.cons (pe_cmpR ho (ha.pe H0 G0) (hb.pe H0 G0) hm) fun σ H Q h => run2 hv h⟩
def PostT (R : RC) (H0 : Hp) (G0 : Wd) (Wx : WX) (σ : L2.St) (G : Wd) (H : Hp) (as : List Addr) (r : Res) (Q : Bool → Hp → Prop) : Prop :=
  match r with
  | .ok (.d (.bl b)) w' => ∀ G' H' as', Rel R H0 G0 G' w' σ H' as' → Ext as G H G' H' → (∀ a ∈ as', a ∈ as) → Q b H'
  | .ex x w' => ∀ cls d G' H' as', Rel R H0 G0 G' w' σ H' as' → ExcR R G' H' x cls d → Wx cls d σ H'
  | _ => False
def liftT (R : RC) (Wx : WX) (H0 : Hp) (G0 : Wd) (m : ME) : TT := fun σ H Q => ∃ G w as, Rel R H0 G0 G w σ H as ∧ PostT R H0 G0 Wx σ G H as (m w) Q
structure PTm (X : Cx) (R : RC) (Wx : WX) (e : Expr) (m : ME) : Prop where
  pe : ∀ H0 G0, PT X e (liftT R Wx H0 G0 m)
structure PWm (X : Cx) (R : RC) (Wx : WX) (e : Expr) (m : ME) : Prop where
  pe : ∀ H0 G0, PW X e (liftT R Wx H0 G0 m)
theorem PostT.toE {r : Res} {Q : Bool → Hp → Prop} (h : PostT R H0 G0 Wx σ G H as r Q) : PostE R H0 G0 Wx σ G H as r (fun x H' => ∃ k, x = .bl k ∧ Q k H') := by
  cases r with
  | bad => exact h
  | ex x w' => exact h
  | ok rv w' =>
    cases rv with
    | d x =>
      cases x with
      | bl b =>
        intro v G' H' as' bs rel ext sub sl _ _
        cases sl with
        | d r => cases r; exact ⟨b, rfl, h G' H' as' rel ext sub⟩
      | _ => exact h.elim
    | _ => exact h.elim
theorem lift_te {Q : Bool → Hp → Prop} (h : liftT R Wx H0 G0 m σ H Q) : liftE R Wx H0 G0 m σ H (fun x H' => ∃ k, x = .bl k ∧ Q k H') := by
  obtain ⟨G, w, as, rel, h⟩ := h
  exact ⟨G, w, as, rel, PostT.toE h⟩
theorem tm_val (h : PEm X R Wx e m) (he : ∀ whole, isTrue e X.env whole = (do let v ← whole; standAt e.pos; holding [v] (truthy v)) := by intro _; rfl) : PTm X R Wx e m :=
  ⟨fun H0 G0 => PT.cons (pt_val (h.pe H0 G0) he) fun σ H Q h => lift_te h⟩
theorem tm_cmp {op : CmpOp} {g : D → D → Option RV} (o : OpM X R (compareOp op) g) (ha : POm X R Wx a ma) (hb : POm X R Wx b mb) (hm : behindInMarks op b = false) : PTm X R Wx (.Compare a [op] [b] pos) (mBin g ma mb) := by
  obtain ⟨r, ho, hv⟩ := o.ex
  exact ⟨fun H0 G0 => PT.cons (pt_cmpR ho (ha.pe H0 G0) (hb.pe H0 G0) hm) fun σ H Q h => run2 hv (lift_te h)⟩

/-- a op1 b op2 c -/
def mChain (g g' : D → D → Option RV) (m1 m2 m3 : ME) : ME := fun w => (m1 w).bd fun x w1 => (m2 w1).bd fun y w2 => match g x y with
  | some (.d (.bl true)) => (m3 w2).bd fun z w3 => ofO (g' y z) w3
  | some (.d (.bl false)) => .ok (.d (.bl false)) w2
  | _ => .bad
theorem NewP.any {rv : RV} {Q : VK} (s : Same G.Z H) (k : ∀ v G' H' bs, PExt G H G' H' → RSlot R G' H' rv (some v) bs → Q v H') : NewP R G H rv Q := fun v G' H' bs p sl _ => k v G' H' bs p sl
theorem run3 {r r' : R2} {g g' : D → D → Option RV} (hv : V2 R r g) (hv' : V2 R r' g') {Q : VK} (h : liftE R Wx H0 G0 (mChain g g' ma mb mc) σ H Q) : tChain r r' (liftO R Wx H0 G0 ma) (liftO R Wx H0 G0 mb) (liftO R Wx H0 G0 mc) σ H Q := by
  obtain ⟨G, w, as, rel, h⟩ := h
  refine lift_bo rel h fun v x G1 H1 as1 w1 rel1 le1 lv1 h1 => ?_
  refine lift_bo rel1 h1 fun u y G2 H2 as2 w2 rel2 le2 lv2 h2 => ?_
  cases e : g x y with
  | none => rw [e] at h2; exact h2.elim
  | some rv =>
    rw [e] at h2
    refine hv rel2.bas.sub (lv1.ext le2) lv2 e (NewP.any rel2.bas.sub fun vz G3 H3 bs p sl => ?_)
    have rel3 := rel2.pext p
    have ex3 := p.ext as2
    cases rv with
    | d z =>
      cases z with
      | bl k =>
        cases sl with
        | d r => 
          cases r
          refine ⟨k, rfl, ?_⟩
          cases k with
          | true =>
            refine iteT ?_
            have h3 := PostE.shift h2 ex3 (fun _ h => h)
            refine lift_bo rel3 h3 fun t z G4 H4 as4 w4 rel4 le4 lv4 h4 => ?_
            obtain ⟨rv, e', h5⟩ := h4.ofO
            exact hv' rel4.bas.sub ((lv2.ext ex3).ext le4) lv4 e' (h5.new rel4)
          | false =>
            refine iteF ?_
            exact h2 (.bl false) G3 H3 as2 [] rel3 ex3 (fun _ h => h) (.d .bl) (by intro b hb; simp at hb) (by simp)
      | _ => exact h2.elim
    | _ => exact h2.elim
theorem em_chain {op op' : CmpOp} {g g' : D → D → Option RV} (o : OpM X R (compareOp op) g) (o' : OpM X R (compareOp op') g') (ha : POm X R Wx a ma) (hb : POm X R Wx b mb) (hc : POm X R Wx c mc)
    (hm : lastMarks [op, op'] [b, c] = false := by with_unfolding_all rfl) : PEm X R Wx (.Compare a [op, op'] [b, c] pos) (mChain g g' ma mb mc) := by
  obtain ⟨r, ho, hv⟩ := o.ex
  obtain ⟨r', ho', hv'⟩ := o'.ex
  exact ⟨fun H0 G0 => PE.cons (pe_chain ho ho' (ha.pe H0 G0) (hb.pe H0 G0) (hc.pe H0 G0) hm) fun σ H Q h => run3 hv hv' h⟩
theorem tm_chain {op op' : CmpOp} {g g' : D → D → Option RV} (o : OpM X R (compareOp op) g) (o' : OpM X R (compareOp op') g') (ha : POm X R Wx a ma) (hb : POm X R Wx b mb) (hc : POm X R Wx c mc)
    (hm : lastMarks [op, op'] [b, c] = false := by with_unfolding_all rfl) : PTm X R Wx (.Compare a [op, op'] [b, c] pos) (mChain g g' ma mb mc) := by
  obtain ⟨r, ho, hv⟩ := o.ex
  obtain ⟨r', ho', hv'⟩ := o'.ex
  exact ⟨fun H0 G0 => PT.cons (pt_chain ho ho' (ha.pe H0 G0) (hb.pe H0 G0) (hc.pe H0 G0) hm) fun σ H Q h => run3 hv hv' (lift_te h)⟩

/-! and, or, not, if else -/
def Res.bb (r : Res) (t f : W → Res) : Res := match r with
  | .ok (.d (.bl true)) w => t w
  | .ok (.d (.bl false)) w => f w
  | .ok _ _ => .bad
  | .ex x w => .ex x w
  | .bad => .bad
def mF : W → Res := fun w => .ok (.d (.bl false)) w
def mT : W → Res := fun w => .ok (.d (.bl true)) w
def mAnd (m1 m2 : ME) : ME := fun w => (m1 w).bb m2 mF
def mOr (m1 m2 : ME) : ME := fun w => (m1 w).bb mT m2
def mNot (m : ME) : ME := fun w => (m w).bb mF mT
def mIfE (c a b : ME) : ME := fun w => (c w).bb a b
theorem PostT.shift {r : Res} {Q : Bool → Hp → Prop} (h : PostT R H0 G0 Wx σ G H as r Q) (x : Ext as G H G1 H1) (s : ∀ a ∈ as1, a ∈ as) : PostT R H0 G0 Wx σ G1 H1 as1 r Q := by
  cases r with
  | ok rv w' =>
    cases rv with
    | d y =>
      cases y with
      | bl b => exact fun G' H' as' rel ext sub => h G' H' as' rel (x.trans (fun a ha => .inl (s a ha)) ext) fun a ha => s a (sub a ha)
      | _ => exact h.elim
    | _ => exact h.elim
  | ex x w' => exact h
  | bad => exact h
/-- a test, then one way or the other -/
theorem lift_bb {t f : W → Res} {Q : VK} {Qb : Bool → Hp → Prop} (rel : Rel R H0 G0 G w σ H as) (h : PostE R H0 G0 Wx σ G H as ((m w).bb t f) Q)
    (c : ∀ b G1 H1 as1 w1, Rel R H0 G0 G1 w1 σ H1 as1 → Ext as G H G1 H1 → PostE R H0 G0 Wx σ G1 H1 as1 (if b = true then t w1 else f w1) Q → Qb b H1) : liftT R Wx H0 G0 m σ H Qb := by
  refine ⟨G, w, as, rel, ?_⟩
  cases e : m w with
  | bad => rw [e] at h; exact h
  | ex x w1 => rw [e] at h; exact h
  | ok rv w1 =>
    rw [e] at h
    cases rv with
    | d y =>
      cases y with
      | bl b =>
        intro G' H' as' rel' ext sub
        refine c b G' H' as' w1 rel' ext (PostE.shift ?_ ext sub)
        cases b with
        | true => exact h
        | false => exact h
      | _ => exact h.elim
    | _ => exact h.elim
theorem lift_bbT {t f : W → Res} {Q : Bool → Hp → Prop} {Qb : Bool → Hp → Prop} (rel : Rel R H0 G0 G w σ H as) (h : PostT R H0 G0 Wx σ G H as ((m w).bb t f) Q)
    (c : ∀ b G1 H1 as1 w1, Rel R H0 G0 G1 w1 σ H1 as1 → Ext as G H G1 H1 → PostT R H0 G0 Wx σ G1 H1 as1 (if b = true then t w1 else f w1) Q → Qb b H1) : liftT R Wx H0 G0 m σ H Qb := by
  refine ⟨G, w, as, rel, ?_⟩
  cases e : m w with
  | bad => rw [e] at h; exact h
  | ex x w1 => rw [e] at h; exact h
  | ok rv w1 =>
    rw [e] at h
    cases rv with
    | d y =>
      cases y with
      | bl b =>
        intro G' H' as' rel' ext sub
        refine c b G' H' as' w1 rel' ext (PostT.shift ?_ ext sub)
        cases b with
        | true => exact h
        | false => exact h
      | _ => exact h.elim
    | _ => exact h.elim
theorem PostE.bl {k : Bool} {Q : VK} (rel : Rel R H0 G0 G w σ H as) (h : PostE R H0 G0 Wx σ G H as (.ok (.d (.bl k)) w) Q) : Q (.bl k) H := (h.new rel).sc rel.bas.sub .bl
theorem PostT.bl {k : Bool} {Q : Bool → Hp → Prop} (rel : Rel R H0 G0 G w σ H as) (h : PostT R H0 G0 Wx σ G H as (.ok (.d (.bl k)) w) Q) : Q k H := h G H as rel (.refl _ _ _) fun _ h => h
variable {rest : List Expr}
theorem em_one {op} (h : PEm X R Wx a m) : PEm X R Wx (.BoolOp op [a] pos) m := ⟨fun H0 G0 => pe_one (h.pe H0 G0)⟩
theorem em_and (ha : PEm X R Wx a ma) (hb : PEm X R Wx (.BoolOp .And (b :: rest) pos) mb) : PEm X R Wx (.BoolOp .And (a :: b :: rest) pos) (mAnd ma mb) :=
  ⟨fun H0 G0 => PE.cons (pe_and (ha.pe H0 G0) (hb.pe H0 G0)) fun σ H Q ⟨G, w, as, rel, h⟩ => by
    refine lift_te (Q := fun c H1 => if c = true then liftE R Wx H0 G0 mb σ H1 Q else Q (.bl false) H1) (lift_bb rel h fun k G1 H1 as1 w1 rel1 x h1 => ?_)
    cases k with
    | true => exact iteT ⟨G1, w1, as1, rel1, h1⟩
    | false => exact iteF (PostE.bl rel1 h1)⟩
theorem em_or (ha : PEm X R Wx a ma) (hb : PEm X R Wx (.BoolOp .Or (b :: rest) pos) mb) : PEm X R Wx (.BoolOp .Or (a :: b :: rest) pos) (mOr ma mb) :=
  ⟨fun H0 G0 => PE.cons (pe_or (ha.pe H0 G0) (hb.pe H0 G0)) fun σ H Q ⟨G, w, as, rel, h⟩ => by
    refine lift_te (Q := fun c H1 => if c = true then Q (.bl true) H1 else liftE R Wx H0 G0 mb σ H1 Q) (lift_bb rel h fun k G1 H1 as1 w1 rel1 x h1 => ?_)
    cases k with
    | true => exact iteT (PostE.bl rel1 h1)
    | false => exact iteF ⟨G1, w1, as1, rel1, h1⟩⟩
theorem em_not (ha : PEm X R Wx a ma) : PEm X R Wx (.UnaryOp .Not a pos) (mNot ma) :=
  ⟨fun H0 G0 => PE.cons (pe_not (ha.pe H0 G0)) fun σ H Q ⟨G, w, as, rel, h⟩ => by
    refine lift_te (Q := fun c H1 => Q (.bl (!c)) H1) (lift_bb rel h fun k G1 H1 as1 w1 rel1 x h1 => ?_)
    cases k with
    | true => exact PostE.bl rel1 h1
    | false => exact PostE.bl rel1 h1⟩
theorem wm_and1 (ha : PTm X R Wx a ma) : PWm X R Wx (.BoolOp .And [a] pos) ma := ⟨fun H0 G0 => pw_and1 (ha.pe H0 G0)⟩
theorem wm_or1 (ha : PTm X R Wx a ma) : PWm X R Wx (.BoolOp .Or [a] pos) ma := ⟨fun H0 G0 => pw_or1 (ha.pe H0 G0)⟩
theorem PW.cons {X : Cx} {e : Expr} {t t' : TT} (h : PW X e t) (c : ∀ σ H Q, t' σ H Q → t σ H Q) : PW X e t' := ⟨fun wh pins s σ H Q I q => h.run wh pins s σ H Q I (c σ H Q q)⟩
theorem wm_and (ha : PTm X R Wx a ma) (hb : PWm X R Wx (.BoolOp .And (b :: rest) pos) mb) : PWm X R Wx (.BoolOp .And (a :: b :: rest) pos) (mAnd ma mb) :=
  ⟨fun H0 G0 => PW.cons (pw_and (ha.pe H0 G0) (hb.pe H0 G0)) fun σ H Q ⟨G, w, as, rel, h⟩ => by
    refine lift_bbT rel h fun k G1 H1 as1 w1 rel1 x h1 => ?_
    cases k with
    | true => exact iteT ⟨G1, w1, as1, rel1, h1⟩
    | false => exact iteF (PostT.bl rel1 h1)⟩
theorem wm_or (ha : PTm X R Wx a ma) (hb : PWm X R Wx (.BoolOp .Or (b :: rest) pos) mb) : PWm X R Wx (.BoolOp .Or (a :: b :: rest) pos) (mOr ma mb) :=
  ⟨fun H0 G0 => PW.cons (pw_or (ha.pe H0 G0) (hb.pe H0 G0)) fun σ H Q ⟨G, w, as, rel, h⟩ => by
    refine lift_bbT rel h fun k G1 H1 as1 w1 rel1 x h1 => ?_
    cases k with
    | true => exact iteT (PostT.bl rel1 h1)
    | false => exact iteF ⟨G1, w1, as1, rel1, h1⟩⟩
theorem tm_w (h : PWm X R Wx e m) : PTm X R Wx e m := ⟨fun H0 G0 => (h.pe H0 G0).pt⟩
theorem tm_not (ha : PTm X R Wx a ma) : PTm X R Wx (.UnaryOp .Not a pos) (mNot ma) :=
  ⟨fun H0 G0 => PT.cons (pt_not (ha.pe H0 G0)) fun σ H Q ⟨G, w, as, rel, h⟩ => by
    refine lift_bbT rel h fun k G1 H1 as1 w1 rel1 x h1 => ?_
    cases k with
    | true => exact PostT.bl rel1 h1
    | false => exact PostT.bl rel1 h1⟩
theorem em_if (hc : PTm X R Wx c mc) (ha : PEm X R Wx a ma) (hb : PEm X R Wx b mb) : PEm X R Wx (.IfExp c a b pos) (mIfE mc ma mb) :=
  ⟨fun H0 G0 => PE.cons (pe_ifExp (hc.pe H0 G0) (ha.pe H0 G0) (hb.pe H0 G0)) fun σ H Q ⟨G, w, as, rel, h⟩ => by
    refine lift_bb rel h fun k G1 H1 as1 w1 rel1 x h1 => ?_
    cases k with
    | true => exact iteT ⟨G1, w1, as1, rel1, h1⟩
    | false => exact iteF ⟨G1, w1, as1, rel1, h1⟩⟩
end
end DB

set_option Elab.async false
set_option linter.all false
set_option maxRecDepth 100000
set_option maxHeartbeats 4000000
namespace DB
open PySem PySem.Spec PyProof.Rows L2
section
variable {R : RC} {H0 H H' H1 : Hp} {G0 G G' G1 : Wd} {w w' w1 : W} {σ : L2.St} {as as' as1 bs : List Addr} {Wx : WX} {X : Cx}
  {a b c e : Expr} {ma mb mc m : ME} {pos : Pos} {es : List Expr}

/-! argument lists: of data, of what may be read -/
inductive RL where
  | ok (ds : List D) (w : W) | ex (x : Exc) (w : W) | bad
abbrev MA := W → RL
def RL.bd (r : RL) (k : List D → W → Res) : Res := match r with
  | .ok ds w => k ds w
  | .ex x w => .ex x w
  | .bad => .bad
def Res.bl (r : Res) (k : D → W → RL) : RL := match r with
  | .ok v w => match v.frz with
    | some x => k x w
    | none => .bad
  | .ex x w => .ex x w
  | .bad => .bad
def RL.cons (x : D) (r : RL) : RL := match r with
  | .ok ds w => .ok (x :: ds) w
  | r => r
def mNil : MA := fun w => .ok [] w
def mCons (m : ME) (r : MA) : MA := fun w => (m w).bl fun x w1 => (r w1).cons x
def PostA (R : RC) (H0 : Hp) (G0 : Wd) (Wx : WX) (σ : L2.St) (G : Wd) (H : Hp) (as : List Addr) (r : RL) (Q : List V → Hp → Prop) : Prop :=
  match r with
  | .ok ds w' => ∀ vs G' H' as', Rel R H0 G0 G' w' σ H' as' → Ext as G H G' H' → (∀ a ∈ as', a ∈ as) → Rps R G' ds vs → Q vs H'
  | .ex x w' => ∀ cls d G' H' as', Rel R H0 G0 G' w' σ H' as' → ExcR R G' H' x cls d → Wx cls d σ H'
  | .bad => False
def PostB (R : RC) (H0 : Hp) (G0 : Wd) (Wx : WX) (σ : L2.St) (G : Wd) (H : Hp) (as : List Addr) (r : RL) (Q : List V → Hp → Prop) : Prop :=
  match r with
  | .ok ds w' => ∀ vs G' H' as', Rel R H0 G0 G' w' σ H' as' → Ext as G H G' H' → (∀ a ∈ as', a ∈ as) → Lives R G' H' ds vs → Q vs H'
  | .ex x w' => ∀ cls d G' H' as', Rel R H0 G0 G' w' σ H' as' → ExcR R G' H' x cls d → Wx cls d σ H'
  | .bad => False
def liftA (R : RC) (Wx : WX) (H0 : Hp) (G0 : Wd) (m : MA) : TA := fun σ H Q => ∃ G w as, Rel R H0 G0 G w σ H as ∧ PostA R H0 G0 Wx σ G H as (m w) Q
def liftB (R : RC) (Wx : WX) (H0 : Hp) (G0 : Wd) (m : MA) : TA := fun σ H Q => ∃ G w as, Rel R H0 G0 G w σ H as ∧ PostB R H0 G0 Wx σ G H as (m w) Q
/-- written items as data -/
structure PAm (X : Cx) (R : RC) (Wx : WX) (es : List Expr) (m : MA) : Prop where
  pe : ∀ H0 G0, PA X es (liftA R Wx H0 G0 m)
/-- written items as operands -/
structure PLm (X : Cx) (R : RC) (Wx : WX) (es : List Expr) (m : MA) : Prop where
  pe : ∀ H0 G0, PA X es (liftB R Wx H0 G0 m)
theorem PostA.shift {r : RL} {Q : List V → Hp → Prop} (h : PostA R H0 G0 Wx σ G H as r Q) (x : Ext as G H G1 H1) (s : ∀ a ∈ as1, a ∈ as) : PostA R H0 G0 Wx σ G1 H1 as1 r Q := by
  cases r with
  | ok rv w' => exact fun vs G' H' as' rel ext sub => h vs G' H' as' rel (x.trans (fun a ha => .inl (s a ha)) ext) fun a ha => s a (sub a ha)
  | ex x w' => exact h
  | bad => exact h
theorem PostB.shift {r : RL} {Q : List V → Hp → Prop} (h : PostB R H0 G0 Wx σ G H as r Q) (x : Ext as G H G1 H1) (s : ∀ a ∈ as1, a ∈ as) : PostB R H0 G0 Wx σ G1 H1 as1 r Q := by
  cases r with
  | ok rv w' => exact fun vs G' H' as' rel ext sub => h vs G' H' as' rel (x.trans (fun a ha => .inl (s a ha)) ext) fun a ha => s a (sub a ha)
  | ex x w' => exact h
  | bad => exact h
/-- general: a value as data, then whatever -/
theorem lift_bdG {m1 : ME} {Q1 : VK} {P : Res → Prop} (rel : Rel R H0 G0 G w σ H as)
    (hx : ∀ x w1, m1 w = .ex x w1 → ∀ cls d G' H' as', Rel R H0 G0 G' w1 σ H' as' → ExcR R G' H' x cls d → Wx cls d σ H')
    (hb : m1 w ≠ .bad) (hn : ∀ rv w1, m1 w = .ok rv w1 → rv.frz ≠ none)
    (c : ∀ rv w1, m1 w = .ok rv w1 → ∀ v x G1 H1 as1, rv.frz = some x → Rel R H0 G0 G1 w1 σ H1 as1 → Ext as G H G1 H1 → (∀ a ∈ as1, a ∈ as) → Rp R G1 x v → Q1 v H1) : liftE R Wx H0 G0 m1 σ H Q1 := by
  refine ⟨G, w, as, rel, ?_⟩
  cases e : m1 w with
  | bad => exact hb e
  | ex x w1 => exact hx x w1 e
  | ok rv w1 =>
    intro v G' H' as' bs rel' ext sub sl lo fr
    cases ef : rv.frz with
    | none => exact (hn rv w1 e ef).elim
    | some x =>
      obtain ⟨G2, rel2, ext2, rp⟩ := frz_tmp rel' sl lo ef
      exact c rv w1 e v x G2 H' as' ef rel2 (ext.trans fr ext2) sub rp
theorem am_nil : PAm X R Wx [] mNil := ⟨fun H0 G0 => PA.cons pa_nil fun σ H Q ⟨G, w, as, rel, h⟩ => h [] G H as rel (.refl _ _ _) (fun _ h => h) .nil⟩
theorem bm_nil : PLm X R Wx [] mNil := ⟨fun H0 G0 => PA.cons pa_nil fun σ H Q ⟨G, w, as, rel, h⟩ => h [] G H as rel (.refl _ _ _) (fun _ h => h) .nil⟩
theorem am_cons {r : MA} (ha : PEm X R Wx a m) (hr : PAm X R Wx es r) (hs : starEach (a :: es) X.env = (false, eval a X.env) :: starEach es X.env := by rfl) : PAm X R Wx (a :: es) (mCons m r) :=
  ⟨fun H0 G0 => PA.cons (pa_cons (ha.pe H0 G0) (hr.pe H0 G0) hs) fun σ H Q ⟨G, w, as, rel, h⟩ => by
    have h' : PostA R H0 G0 Wx σ G H as ((m w).bl fun x w1 => (r w1).cons x) Q := h
    refine lift_bdG (P := fun _ => True) rel (fun x w1 e => ?_) (fun e => ?_) (fun rv w1 e ef => ?_) (fun rv w1 e v x G1 H1 as1 ef rel1 ext sub rp => ?_)
    · rw [e] at h'; exact h'
    · rw [e] at h'; exact h'
    · rw [e] at h'
      have : (Res.ok rv w1).bl (fun x w1 => (r w1).cons x) = .bad := by unfold Res.bl; simp only [ef]
      rw [this] at h'; exact h'
    · rw [e] at h'
      have : (Res.ok rv w1).bl (fun x w1 => (r w1).cons x) = (r w1).cons x := by unfold Res.bl; simp only [ef]
      rw [this] at h'
      have h2 := PostA.shift h' ext sub
      refine ⟨G1, w1, as1, rel1, ?_⟩
      cases er : r w1 with
      | bad => rw [er] at h2; exact h2
      | ex x w2 => rw [er] at h2; exact h2
      | ok ds w2 =>
        rw [er] at h2
        exact fun vs G' H' as' rel' ext' sub' rs => h2 (v :: vs) G' H' as' rel' ext' sub' (.cons (rp.mono ext'.le) rs)⟩
theorem bm_cons {r : MA} (ha : POm X R Wx a m) (hr : PLm X R Wx es r) (hs : starEach (a :: es) X.env = (false, eval a X.env) :: starEach es X.env := by rfl) : PLm X R Wx (a :: es) (mCons m r) :=
  ⟨fun H0 G0 => PA.cons (pa_cons (ha.pe H0 G0) (hr.pe H0 G0) hs) fun σ H Q ⟨G, w, as, rel, h⟩ => by
    have h' : PostB R H0 G0 Wx σ G H as ((m w).bl fun x w1 => (r w1).cons x) Q := h
    refine ⟨G, w, as, rel, ?_⟩
    cases e : m w with
    | bad => rw [e] at h'; exact h'
    | ex x w1 => rw [e] at h'; exact h'
    | ok rv w1 =>
      rw [e] at h'
      show match rv.frz with | some x => _ | none => False
      cases ef : rv.frz with
      | none =>
        have : (Res.ok rv w1).bl (fun x w1 => (r w1).cons x) = .bad := by unfold Res.bl; simp only [ef]
        rw [this] at h'; exact h'
      | some x =>
        have : (Res.ok rv w1).bl (fun x w1 => (r w1).cons x) = (r w1).cons x := by unfold Res.bl; simp only [ef]
        rw [this] at h'
        intro v G1 H1 as1 rel1 ext sub lv
        have h2 := PostB.shift h' ext sub
        refine ⟨G1, w1, as1, rel1, ?_⟩
        cases er : r w1 with
        | bad => rw [er] at h2; exact h2
        | ex x w2 => rw [er] at h2; exact h2
        | ok ds w2 =>
          rw [er] at h2
          exact fun vs G' H' as' rel' ext' sub' rs => h2 (v :: vs) G' H' as' rel' ext' sub' (.cons (lv.ext ext') rs)⟩
/-- an argument list's end -/
theorem lift_ab {r : MA} {k : List D → W → Res} {Q : VK} {Q1 : List V → Hp → Prop} (rel : Rel R H0 G0 G w σ H as) (h : PostE R H0 G0 Wx σ G H as ((r w).bd k) Q)
    (c : ∀ vs ds G1 H1 as1 w1, Rel R H0 G0 G1 w1 σ H1 as1 → Ext as G H G1 H1 → Rps R G1 ds vs → PostE R H0 G0 Wx σ G1 H1 as1 (k ds w1) Q → Q1 vs H1) : liftA R Wx H0 G0 r σ H Q1 := by
  refine ⟨G, w, as, rel, ?_⟩
  cases e : r w with
  | bad => rw [e] at h; exact h
  | ex x w1 => rw [e] at h; exact h
  | ok ds w1 =>
    rw [e] at h
    exact fun vs G' H' as' rel' ext sub rs => c vs ds G' H' as' w1 rel' ext rs (PostE.shift h ext sub)
theorem lift_bb2 {r : MA} {k : List D → W → Res} {Q : VK} {Q1 : List V → Hp → Prop} (rel : Rel R H0 G0 G w σ H as) (h : PostE R H0 G0 Wx σ G H as ((r w).bd k) Q)
    (c : ∀ vs ds G1 H1 as1 w1, Rel R H0 G0 G1 w1 σ H1 as1 → Ext as G H G1 H1 → Lives R G1 H1 ds vs → PostE R H0 G0 Wx σ G1 H1 as1 (k ds w1) Q → Q1 vs H1) : liftB R Wx H0 G0 r σ H Q1 := by
  refine ⟨G, w, as, rel, ?_⟩
  cases e : r w with
  | bad => rw [e] at h; exact h
  | ex x w1 => rw [e] at h; exact h
  | ok ds w1 =>
    rw [e] at h
    exact fun vs G' H' as' rel' ext sub rs => c vs ds G' H' as' w1 rel' ext rs (PostE.shift h ext sub)

/-! displays -/
def mTup (r : MA) : ME := fun w => (r w).bd fun ds w => if ds.length ≤ sizeLine then .ok (.d (.tup ds)) w else .bad
def mLst (r : MA) : ME := fun w => (r w).bd fun ds w => if ds.length ≤ sizeLine then .ok (.own ds) w else .bad
theorem em_tup {x1} {r : MA} (h : PAm X R Wx es r) : PEm X R Wx (.Tuple es x1 pos) (mTup r) :=
  ⟨fun H0 G0 => PE.cons (pe_tup (h.pe H0 G0)) fun σ H Q ⟨G, w, as, rel, h⟩ => by
    refine lift_ab rel h fun vs ds G1 H1 as1 w1 rel1 ext rs h1 => ?_
    by_cases c : ds.length ≤ sizeLine
    · rw [if_pos c] at h1
      exact ⟨by rw [← rs.length]; exact c, (h1.new rel1).tup rel1.bas.sub rs⟩
    · rw [if_neg c] at h1; exact h1.elim⟩
theorem em_lst {r : MA} (h : PAm X R Wx es r) : PEm X R Wx (.List es pos) (mLst r) :=
  ⟨fun H0 G0 => PE.cons (pe_lst (h.pe H0 G0)) fun σ H Q ⟨G, w, as, rel, h⟩ => by
    refine lift_ab rel h fun vs ds G1 H1 as1 w1 rel1 ext rs h1 => ?_
    by_cases c : ds.length ≤ sizeLine
    · rw [if_pos c] at h1
      exact ⟨by rw [← rs.length]; exact c, (h1.new rel1).own rel1.bas.sub rs⟩
    · rw [if_neg c] at h1; exact h1.elim⟩

/-! subscripts, slices -/
def gIx (x y : D) : Option RV := match x, y with
  | .lst ds, .int i => (atI ds i).map .d
  | .scr ds, .int i => (atI ds i).map .d
  | .tup ds, .int i => (atI ds i).map .d
  | .str z, .int i => if z.length ≤ sizeLine then (atI z.cps.toList i).map fun c => .d (.str ⟨#[c]⟩) else none
  | _, _ => none
theorem Rps.atI {ds : List D} {vs : List V} {i : Int} {x : D} (r : Rps R G ds vs) (h : atI ds i = some x) : ∃ v, L2.atI vs i = some v ∧ Rp R G x v := by
  unfold L2.atI at h ⊢
  rw [← r.length]
  cases e : ixN ds.length i with
  | none => rw [e] at h; cases h
  | some j =>
    rw [e] at h
    exact r.get h
theorem v_ix (ag : Ag X R) : V2 R (rIx X.K) gIx := fun {G H x y vx vy rv Q} s rx ry e h => by
  unfold gIx at e
  split at e
  · obtain ⟨p, xs, rfl, hx, rs⟩ := rx.lst s
    cases ry.int
    obtain ⟨d, e1, rfl⟩ := Option.map_eq_some_iff.mp e
    obtain ⟨v, e2, rp⟩ := rs.atI e1
    exact .inl ⟨p, xs, _, v, rfl, rfl, .inl (.inl hx), e2, h.sc s rp⟩
  · cases ry.int
    obtain ⟨d, e1, rfl⟩ := Option.map_eq_some_iff.mp e
    cases rx with
    | rp r =>
      cases r with
      | scr hx rs =>
        obtain ⟨v, e2, rp⟩ := rs.atI e1
        exact .inl ⟨_, _, _, v, rfl, rfl, by rw [ag.K]; exact Same.seq s hx, e2, h.sc s rp⟩
  · obtain ⟨p, xs, rfl, hx, rs, _⟩ := rx.tup s
    cases ry.int
    obtain ⟨d, e1, rfl⟩ := Option.map_eq_some_iff.mp e
    obtain ⟨v, e2, rp⟩ := rs.atI e1
    exact .inr (.inl ⟨p, xs, _, v, rfl, rfl, by rw [ag.K]; exact hx, e2, h.sc s rp⟩)
  · cases rx.str
    cases ry.int
    split at e
    · rename_i c
      obtain ⟨d, e1, rfl⟩ := Option.map_eq_some_iff.mp e
      exact .inr (.inr ⟨_, _, d, rfl, rfl, c, e1, h.sc s .str⟩)
    · cases e
  · cases e
theorem em_ix (ag : Ag X R) (ha : POm X R Wx a ma) (hb : POm X R Wx b mb) (hs : PlainIx b) : PEm X R Wx (.Subscript a b pos) (mBin gIx ma mb) :=
  ⟨fun H0 G0 => PE.cons (pe_ix ix_seq (ha.pe H0 G0) (hb.pe H0 G0) hs) fun σ H Q h => run2 (v_ix ag) h⟩

def cutD (xs : List D) (lo hi : Option Int) : List D := (xs.drop (HT.sIx xs.length 0 lo)).take (HT.sIx xs.length xs.length hi - HT.sIx xs.length 0 lo)
def gSl (x : D) (lo hi : Option Int) : Option RV := match x with
  | .lst ds => some (.own (cutD ds lo hi))
  | .tup ds => some (.d (.tup (cutD ds lo hi)))
  | .str z => if z.length ≤ sizeLine then some (.d (.str (cutS z lo hi))) else none
  | _ => none
theorem Rps.cut {ds : List D} {vs : List V} (r : Rps R G ds vs) (lo hi : Option Int) : Rps R G (cutD ds lo hi) (cutV vs lo hi) := by
  unfold cutD cutV
  rw [r.length]
  exact (r.drop _).take _
theorem cutV_whole {vs : List V} {lo hi : Option Int} (h : HT.sIx vs.length 0 lo = 0 ∧ HT.sIx vs.length vs.length hi = vs.length) : cutV vs lo hi = vs := by
  unfold cutV
  rw [h.1, h.2]
  simp
theorem cutD_whole {vs : List D} {lo hi : Option Int} (h : HT.sIx vs.length 0 lo = 0 ∧ HT.sIx vs.length vs.length hi = vs.length) : cutD vs lo hi = vs := by
  unfold cutD
  rw [h.1, h.2]
  simp
/-- a slice's part -/
inductive RO where
  | ok (o : Option Int) (w : W) | ex (x : Exc) (w : W) | bad
abbrev MO := W → RO
def mNo : MO := fun w => .ok none w
def mPt (m : ME) : MO := fun w => match m w with
  | .ok (.d (.int i)) w => .ok (some i) w
  | .ok _ _ => .bad
  | .ex x w => .ex x w
  | .bad => .bad
def PostP (R : RC) (H0 : Hp) (G0 : Wd) (Wx : WX) (σ : L2.St) (G : Wd) (H : Hp) (as : List Addr) (r : RO) (Q : Option Int → Hp → Prop) : Prop :=
  match r with
  | .ok o w' => ∀ G' H' as', Rel R H0 G0 G' w' σ H' as' → Ext as G H G' H' → (∀ a ∈ as', a ∈ as) → Q o H'
  | .ex x w' => ∀ cls d G' H' as', Rel R H0 G0 G' w' σ H' as' → ExcR R G' H' x cls d → Wx cls d σ H'
  | .bad => False
def liftP (R : RC) (Wx : WX) (H0 : Hp) (G0 : Wd) (m : MO) : TO := fun σ H Q => ∃ G w as, Rel R H0 G0 G w σ H as ∧ PostP R H0 G0 Wx σ G H as (m w) Q
structure PPm (X : Cx) (R : RC) (Wx : WX) (e : Option Expr) (m : MO) : Prop where
  pe : ∀ H0 G0, PO X e (liftP R Wx H0 G0 m)
theorem PO.cons {X : Cx} {e : Option Expr} {t t' : TO} (h : PO X e t) (c : ∀ σ H Q, t' σ H Q → t σ H Q) : PO X e t' := ⟨fun pins s σ H Q I q => h.run pins s σ H Q I (c σ H Q q)⟩
theorem pm_no : PPm X R Wx none mNo := ⟨fun H0 G0 => PO.cons po_none fun σ H Q ⟨G, w, as, rel, h⟩ => h G H as rel (.refl _ _ _) fun _ h => h⟩
theorem pm_some (ha : PEm X R Wx a m) : PPm X R Wx (some a) (mPt m) := ⟨fun H0 G0 => PO.cons (po_some (ha.pe H0 G0)) fun σ H Q ⟨G, w, as, rel, h⟩ => by
  refine ⟨G, w, as, rel, ?_⟩
  have h' : PostP R H0 G0 Wx σ G H as (mPt m w) Q := h
  unfold mPt at h'
  cases e : m w with
  | bad => rw [e] at h'; exact h'
  | ex x w1 => rw [e] at h'; exact h'
  | ok rv w1 =>
    rw [e] at h'
    cases rv with
    | d x =>
      cases x with
      | int i =>
        intro v G' H' as' bs rel' ext sub sl lo fr
        cases sl with
        | d r => cases r; exact ⟨i, rfl, h' G' H' as' rel' ext sub⟩
      | _ => exact h'.elim
    | _ => exact h'.elim⟩
def RO.bd (r : RO) (k : Option Int → W → Res) : Res := match r with
  | .ok o w => k o w
  | .ex x w => .ex x w
  | .bad => .bad
theorem lift_pb {r : MO} {k : Option Int → W → Res} {Q : VK} {Q1 : Option Int → Hp → Prop} (rel : Rel R H0 G0 G w σ H as) (h : PostE R H0 G0 Wx σ G H as ((r w).bd k) Q)
    (c : ∀ o G1 H1 as1 w1, Rel R H0 G0 G1 w1 σ H1 as1 → Ext as G H G1 H1 → PostE R H0 G0 Wx σ G1 H1 as1 (k o w1) Q → Q1 o H1) : liftP R Wx H0 G0 r σ H Q1 := by
  refine ⟨G, w, as, rel, ?_⟩
  cases e : r w with
  | bad => rw [e] at h; exact h
  | ex x w1 => rw [e] at h; exact h
  | ok ds w1 =>
    rw [e] at h
    exact fun G' H' as' rel' ext sub => c ds G' H' as' w1 rel' ext (PostE.shift h ext sub)
def mSl (m : ME) (lo hi : MO) : ME := fun w => (m w).bd fun x w1 => (lo w1).bd fun l w2 => (hi w2).bd fun u w3 => ofO (gSl x l u) w3
theorem em_sl (ag : Ag X R) {lo hi : Option Expr} {ml mh : MO} {p2} (ha : POm X R Wx a m) (hl : PPm X R Wx lo ml) (hh : PPm X R Wx hi mh) : PEm X R Wx (.Subscript a (.Slice lo hi none p2) pos) (mSl m ml mh) :=
  ⟨fun H0 G0 => PE.cons (pe_slice (sl_list.or (sl_tupA.or sl_str)) (ha.pe H0 G0) (hl.pe H0 G0) (hh.pe H0 G0)) fun σ H Q ⟨G, w, as, rel, h⟩ => by
    refine lift_bo rel h fun v x G1 H1 as1 w1 rel1 x1 lv h1 => ?_
    refine lift_pb rel1 h1 fun l G2 H2 as2 w2 rel2 x2 h2 => ?_
    refine lift_pb rel2 h2 fun u G3 H3 as3 w3 rel3 x3 h3 => ?_
    obtain ⟨rv, e, h4⟩ := h3.ofO
    have lv3 := (lv.ext x2).ext x3
    have s := rel3.bas.sub
    have np := h4.new rel3
    unfold gSl at e
    split at e
    · cases e
      obtain ⟨p, xs, rfl, hx, rs⟩ := lv3.lst s
      exact .inl ⟨p, xs, rfl, .inl (.inl hx), np.own s (rs.cut l u)⟩
    · cases e
      obtain ⟨p, xs, rfl, hx, rs, rp⟩ := lv3.tup s
      refine .inr (.inl ⟨p, xs, rfl, by rw [ag.K]; exact hx, fun z => ?_, fun _ => np.tup s (rs.cut l u)⟩)
      have z' := z
      rw [← rs.length] at z'
      rw [cutD_whole z'] at np
      exact np.sc s rp
    · cases lv3.str
      split at e
      · rename_i c
        cases e
        exact .inr (.inr ⟨_, rfl, c, np.sc s .str⟩)
      · cases e
    · cases e⟩
end
end DB

set_option Elab.async false
set_option linter.all false
set_option maxRecDepth 100000
set_option maxHeartbeats 4000000
namespace DB
open PySem PySem.Spec PyProof.Rows L2

/-! the same of two contexts -/
structure Sim (R R' : RC) : Prop where
  K : R.K = R'.K
  mg : R.mg = R'.mg
  T : R.T = R'.T
theorem Sim.refl (R : RC) : Sim R R := ⟨rfl, rfl, rfl⟩
theorem Sim.symm {R R' : RC} (h : Sim R R') : Sim R' R := ⟨h.K.symm, h.mg.symm, h.T.symm⟩
section
variable {R R' : RC} {G : Wd}
mutual
theorem Rp.conv (s : Sim R R') : ∀ {d : D} {v : V}, Rp R G d v → Rp R' G d v
  | _, _, .non => .non
  | _, _, .bl => .bl
  | _, _, .int => .int
  | _, _, .str => .str
  | _, _, .tup h r => .tup (by rw [← s.K]; exact h) (Rps.conv s r)
  | _, _, .lst h r => .lst h (Rps.conv s r)
  | _, _, .scr h r => .scr (by rw [← s.K]; exact h) (Rps.conv s r)
  | _, _, .dic h l r => .dic h l (Rps.conv s r)
  | _, _, .obj h z l r => .obj (by rw [← s.mg]; exact h) z l (Rps.conv s r)
  | _, _, .cell h => .cell h
theorem Rps.conv (s : Sim R R') : ∀ {ds : List D} {vs : List V}, Rps R G ds vs → Rps R' G ds vs
  | _, _, .nil => .nil
  | _, _, .cons h r => .cons (Rp.conv s h) (Rps.conv s r)
end
theorem RCell.conv (s : Sim R R') {H : Hp} {a : Addr} {c : Cell} (r : RCell R G H a c) : RCell R' G H a c := by
  cases c with
  | lst ds => obtain ⟨xs, h1, h2⟩ := r; exact ⟨xs, h1, h2.conv s⟩
  | dic ks vs => obtain ⟨xs, h1, h2, h3⟩ := r; exact ⟨xs, h1, h2, h3.conv s⟩
  | ins c ks vs => obtain ⟨C, dx, xs, h0, h1, h2, h3⟩ := r; exact ⟨C, dx, xs, by rw [← s.mg]; exact h0, h1, h2, h3.conv s⟩
theorem Bas.conv (s : Sim R R') {H0 H : Hp} {G0 : Wd} {S : List Cell} (b : Bas R H0 G0 G S H) : Bas R' H0 G0 G S H :=
  ⟨⟨b.cells.1, fun n c a h1 h2 => (b.cells.2 n c a h1 h2).conv s⟩, b.nd, b.free, b.sub, by rw [← s.T]; exact b.tabs, b.ext⟩
theorem ExcR.conv (s : Sim R R') {H : Hp} {x : Exc} {cls : Value} {d : Option Addr} (r : ExcR R G H x cls d) : ExcR R' G H x cls d := by
  obtain ⟨C, h1, h2, h3⟩ := r
  refine ⟨C, by rw [← s.mg]; exact h1, h2, ?_⟩
  rcases h3 with h3 | ⟨dx, vs, e1, e2, e3, e4⟩
  · exact .inl h3
  · exact .inr ⟨dx, vs, e1, e2, e3, e4.conv s⟩
/-- a result that may be told to others -/
def RV.plain : RV → Bool
  | .d _ => true
  | .own _ => true
  | .odic _ _ => true
  | _ => false
theorem RSlot.conv (s : Sim R R') {H : Hp} {rv : RV} {o : Option V} {bs : List Addr} (r : RSlot R G H rv o bs) (p : rv.plain = true) : RSlot R' G H rv o bs := by
  cases r with
  | un => cases p
  | d h => exact .d (h.conv s)
  | own h r => exact .own h (r.conv s)
  | odic h l r => exact .odic h l (r.conv s)
  | fn _ _ _ => cases p
  | xc _ _ => cases p
end

section
variable {R R' : RC} {H0 H H' H1 : Hp} {G0 G G' G1 : Wd} {w w' w1 : W} {σ : L2.St} {as as' as1 bs : List Addr} {Wx : WX} {X : Cx}
  {a b c e : Expr} {ma mb mc m : ME} {pos : Pos} {es : List Expr}

/-- a def's promise: it is what F tells -/
def spF (R : RC) (F : MF) : Sp := fun vs H Q E => ∃ G S ds, Rps R G ds vs ∧ Bas R H G G S H ∧ (match F ds S with
  | .ok rv S' => rv.plain = true ∧ ∀ v G' H' bs, Bas R H G G' S' H' → RSlot R G' H' rv (some v) bs → Loose H G' [] bs → Q v H'
  | .ex x S' => ∀ cls d G' H', Bas R H G G' S' H' → ExcR R G' H' x cls d → E cls d H'
  | .bad => False)
def mCall (F : MF) (r : MA) : ME := fun w => (r w).bd fun ds w1 => match F ds w1.S with
  | .ok rv S' => if rv.plain = true then .ok rv { w1 with S := S' } else .bad
  | .ex x S' => .ex x { w1 with S := S' }
  | .bad => .bad
theorem Rel.call {S' : List Cell} (rel : Rel R H0 G0 G w σ H as) (b : Bas R H G G' S' H') : Rel R H0 G0 G' { w with S := S' } σ H' as := by
  have nos : ∀ a ∈ as, a ∉ G.sas := fun a ha z => (List.nodup_append.mp rel.nd).2.2 a ha a z rfl
  have kp : ∀ a ∈ as, ∀ u, H a = some u → H' a = some u := fun a ha u hu => b.ext.keep a u hu (rel.env.notbl a ha u hu) (nos a ha)
  have nos' : ∀ a ∈ as, a ∉ G'.sas := fun a ha z => by
    rcases b.ext.newS a z with q | q
    · exact nos a ha q
    · obtain ⟨u, hu⟩ := rel.env.has a ha
      rw [hu] at q; cases q
  exact {
    env := rel.env.mono b.ext.le kp
    bas := ⟨b.cells, b.nd, b.free, b.sub, b.tabs, rel.bas.ext.trans (fun _ h => .inl h) b.ext⟩
    nd := List.nodup_append.mpr ⟨(List.nodup_append.mp rel.nd).1, b.nd, fun a ha c hc z => nos' a ha (by rw [z]; exact hc)⟩
    free := fun a ha => by
      cases e : G'.Z a with
      | none => rfl
      | some o =>
        rcases b.ext.newZ a o e with q | q | q
        · rw [rel.free a ha] at q; cases q
        · obtain ⟨u, hu⟩ := rel.env.has a ha
          rw [hu] at q; cases q
        · simp at q
    fresh := rel.fresh }
/-- behind a call, by values -/
theorem call_post {F : MF} {ds : List D} {vs : List V} {Q : VK} (sm : Sim R R') (rel : Rel R H0 G0 G w σ H as) (rs : Rps R G ds vs)
    (h : PostE R H0 G0 Wx σ G H as (match F ds w.S with
      | .ok rv S' => if rv.plain = true then .ok rv { w with S := S' } else .bad
      | .ex x S' => .ex x { w with S := S' }
      | .bad => .bad) Q) : spF R' F vs H Q (WE Wx σ) := by
  have bas0 : Bas R H G G w.S H := ⟨rel.bas.cells, rel.bas.nd, rel.bas.free, rel.bas.sub, rel.bas.tabs, .refl _ _ _⟩
  refine ⟨G, w.S, ds, rs.conv sm, bas0.conv sm, ?_⟩
  cases e : F ds w.S with
  | bad => rw [e] at h; exact h
  | ex x S' =>
    rw [e] at h
    exact fun cls d G' H' b x => h cls d G' H' as (rel.call (b.conv sm.symm)) (x.conv sm.symm)
  | ok rv S' =>
    rw [e] at h
    cases p : rv.plain with
    | false =>
      have h2 : PostE R H0 G0 Wx σ G H as (if rv.plain = true then .ok rv { w with S := S' } else .bad) Q := h
      rw [p, if_neg Bool.false_ne_true] at h2
      exact h2.elim
    | true =>
      have h2 : PostE R H0 G0 Wx σ G H as (if rv.plain = true then .ok rv { w with S := S' } else .bad) Q := h
      rw [p, if_pos rfl] at h2
      refine ⟨p, fun v G' H' bs b sl lo => ?_⟩
      have b' := b.conv sm.symm
      refine h2 v G' H' as bs (rel.call b') (b'.ext.mono (by simp)) (fun _ h => h) (sl.conv sm.symm p) (fun c hc => ?_) (fun c hc => .inr (lo c hc).2.2.2)
      obtain ⟨l1, l2, l3, l4⟩ := lo c hc
      refine ⟨l1, l2, fun z => ?_, rel.bas.ext.dom c l4⟩
      obtain ⟨u, hu⟩ := rel.env.has c z
      rw [hu] at l4; cases l4
theorem em_call {k : Nat} {f : Addr} {fd : FuncData} {ps : List Str} {F : MF} {x : Str} {p : Pos} {r : MA} (Fn : FnOk X.prog X.w X.K X.mg X.base (L2.CX X.prog X.w) k f fd ps (spF R' F)) (sm : Sim R R') (tk : Takes X Wx) (hr : Room k X.A) (hg : Gl X x) (hm : X.mg x = some (.ref f)) (hk : PySem.W.keepIn X.K (.ref f) = true) (hb : Binds X.K fd ps [])
    (ha : PAm X R Wx (a :: es) r) (hdb : (x == ("__debug__" : Str)) = false := by decide) (he : starEach (a :: es) X.env = (false, eval a X.env) :: starEach es X.env := by rfl) (hpl : (backTo pos (starEach es X.env)).any (·.1) = false := by rfl) :
    PEm X R Wx (.Call (.Name x p) (a :: es) [] pos) (mCall F r) :=
  ⟨fun H0 G0 => PE.cons (pe_callS Fn hr hg hm hk hb (fun σ => passAt tk σ) (ha.pe H0 G0) hdb he hpl) fun σ H Q ⟨G, w, as, rel, h⟩ => by
    refine lift_ab rel h fun vs ds G1 H1 as1 w1 rel1 ext rs h1 => ?_
    exact call_post sm rel1 rs h1⟩

/-! built-in functions and classes -/
def mCB (g : List D → Option RV) (r : MA) : ME := fun w => (r w).bd fun ds w1 => ofO (g ds) w1
theorem em_callB {id : String} {x : Str} {p : Pos} {g : List D → Option RV} {r : MA} (c : CalM X R (.builtin id) g) (hg : Gl X x) (hm : X.mg x = none) (hv : bootBuiltins x = some (.builtin id)) (ha : PLm X R Wx (a :: es) r) (hn : x ≠ "__name__" := by decide) (hdb : (x == ("__debug__" : Str)) = false := by decide)
    (he : starEach (a :: es) X.env = (false, eval a X.env) :: starEach es X.env := by rfl) (hpl : (backTo pos (starEach es X.env)).any (·.1) = false := by rfl) : PEm X R Wx (.Call (.Name x p) (a :: es) [] pos) (mCB g r) := by
  obtain ⟨rd, hc, hvl⟩ := c.ex
  exact ⟨fun H0 G0 => PE.cons (pe_callB hc hg hm hv (ha.pe H0 G0) hn hdb he hpl) fun σ H Q ⟨G, w, as, rel, h⟩ => by
    refine lift_bb2 rel h fun vs ds G1 H1 as1 w1 rel1 ext rs h1 => ?_
    obtain ⟨rv, e, h2⟩ := h1.ofO
    exact hvl rel1.bas.sub rs e (h2.new rel1)⟩
theorem em_callT {T : String} {x : Str} {p : Pos} {g : List D → Option RV} {r : MA} (c : CalM X R (.type T) g) (hg : Gl X x) (hm : X.mg x = none) (hv : bootBuiltins x = some (.type T)) (ha : PLm X R Wx (a :: es) r) (hn : x ≠ "__name__" := by decide) (hdb : (x == ("__debug__" : Str)) = false := by decide)
    (he : starEach (a :: es) X.env = (false, eval a X.env) :: starEach es X.env := by rfl) (hpl : (backTo pos (starEach es X.env)).any (·.1) = false := by rfl) : PEm X R Wx (.Call (.Name x p) (a :: es) [] pos) (mCB g r) := by
  obtain ⟨rd, hc, hvl⟩ := c.ex
  exact ⟨fun H0 G0 => PE.cons (pe_callTy hc hg hm hv (ha.pe H0 G0) hn hdb he hpl) fun σ H Q ⟨G, w, as, rel, h⟩ => by
    refine lift_bb2 rel h fun vs ds G1 H1 as1 w1 rel1 ext rs h1 => ?_
    obtain ⟨rv, e, h2⟩ := h1.ofO
    exact hvl rel1.bas.sub rs e (h2.new rel1)⟩
end
end DB

set_option Elab.async false
set_option linter.all false
set_option maxRecDepth 100000
set_option maxHeartbeats 4000000
namespace DB
open PySem PySem.Spec PyProof.Rows L2
section
variable {R R' : RC} {H0 H H' H1 : Hp} {G0 G G' G1 : Wd} {w w' w1 : W} {σ : L2.St} {as as' as1 bs : List Addr} {Wx : WX} {X : Cx}
  {a b c e : Expr} {ma mb mc m : ME} {pos : Pos} {es : List Expr} {st : Stmt} {rest body orelse : List Stmt} {m1 m2 ms : MS}

/-! blocks -/
def mNext : MS := fun w => .nx w
def mSeq (m1 m2 : MS) : MS := fun w => match m1 w with
  | .nx w1 => m2 w1
  | r => r
theorem PostS.up {r : RS} {D : Ends} (h : PostS R H0 G0 Wx G r D) (l : Wle G G') : PostS R H0 G0 Wx G' r D := by
  cases r with
  | nx w => exact fun σ' G2 H' as' rel le => h σ' G2 H' as' rel (l.trans le)
  | bk w => exact fun σ' G2 H' as' rel le => h σ' G2 H' as' rel (l.trans le)
  | ct w => exact fun σ' G2 H' as' rel le => h σ' G2 H' as' rel (l.trans le)
  | rt _ _ => exact h
  | ex _ _ => exact h
  | bad => exact h
theorem bm_nl : PBm X R Wx [] mNext := ⟨fun H0 G0 => PSs.cons pss_nil fun D σ H ⟨G, w, as, rel, h⟩ => h σ G H as rel (.refl _)⟩
theorem bm_cs (h1 : PSm X R Wx st m1) (h2 : PBm X R Wx rest m2) : PBm X R Wx (st :: rest) (mSeq m1 m2) :=
  ⟨fun H0 G0 => PSs.cons (pss_cons (h1.ps H0 G0) (h2.ps H0 G0)) fun D σ H ⟨G, w, as, rel, h⟩ => by
    refine ⟨G, w, as, rel, ?_⟩
    have h' : PostS R H0 G0 Wx G (mSeq m1 m2 w) D := h
    unfold mSeq at h'
    cases e : m1 w with
    | nx w1 => rw [e] at h'; exact fun σ' G' H' as' rel' le => ⟨G', w1, as', rel', h'.up le⟩
    | rt _ _ => rw [e] at h'; exact h'
    | bk _ => rw [e] at h'; exact h'
    | ct _ => rw [e] at h'; exact h'
    | ex _ _ => rw [e] at h'; exact h'
    | bad => rw [e] at h'; exact h'⟩
theorem bm_on (h1 : PSm X R Wx st m1) : PBm X R Wx [st] m1 := ⟨fun H0 G0 => pss_one (h1.ps H0 G0)⟩
def mBrk : MS := fun w => .bk w
def mCnt : MS := fun w => .ct w
theorem sm_pass : PSm X R Wx (.Pass pos) mNext := ⟨fun H0 G0 => PS.cons ps_pass fun D σ H ⟨G, w, as, rel, h⟩ => h σ G H as rel (.refl _)⟩
theorem sm_brk : PSm X R Wx (.Break pos) mBrk := ⟨fun H0 G0 => PS.cons ps_break fun D σ H ⟨G, w, as, rel, h⟩ => h σ G H as rel (.refl _)⟩
theorem sm_cnt : PSm X R Wx (.Continue pos) mCnt := ⟨fun H0 G0 => PS.cons ps_continue fun D σ H ⟨G, w, as, rel, h⟩ => h σ G H as rel (.refl _)⟩

/-! an expression ahead of a statement's end -/
def Res.sd (r : Res) (k : RV → W → RS) : RS := match r with
  | .ok v w => k v w
  | .ex x w => .ex x w
  | .bad => .bad
/-- what may be asked behind an expression in a statement -/
theorem lift_sd {k : RV → W → RS} {D : Ends} {Q : VK} (rel : Rel R H0 G0 G w σ H as) (h : PostS R H0 G0 Wx G ((m w).sd k) D)
    (c : ∀ rv v G1 H1 as1 bs w1, Rel R H0 G0 G1 w1 σ H1 as1 → Ext as G H G1 H1 → (∀ a ∈ as1, a ∈ as) → RSlot R G1 H1 rv (some v) bs → Loose H0 G1 as1 bs → (∀ b ∈ bs, b ∈ as ∨ H b = none) → PostS R H0 G0 Wx G1 (k rv w1) D → Q v H1) : liftE R Wx H0 G0 m σ H Q := by
  refine ⟨G, w, as, rel, ?_⟩
  cases e : m w with
  | bad => rw [e] at h; exact h
  | ex x w1 => rw [e] at h; exact fun cls d G' H' as' rel' x => h σ cls d G' H' as' rel' x
  | ok rv w1 => rw [e] at h; exact fun v G' H' as' bs rel' ext sub sl lo fr => c rv v G' H' as' bs w1 rel' ext sub sl lo fr (PostS.up h ext.le)
theorem RSlot.nd {rv : RV} {o : Option V} (s : RSlot R G H rv o bs) : bs.Nodup := by
  cases s <;> simp
/-- a slot is given a new value -/
theorem Rel.setS {i : Nat} {rv : RV} {v : V} (rel : Rel R H0 G0 G w σ H as) (hi : i < w.env.length) (sl : RSlot R G H rv (some v) bs) (lo : Loose H0 G as bs) :
    ∃ as', Rel R H0 G0 G { w with env := w.env.set i rv } (σ.set i (some v)) H as' ∧ ∀ a ∈ as', a ∈ bs ∨ a ∈ as := by
  obtain ⟨o, bs0, cs, e1, e2, e3, e4, e5⟩ := rel.env.at (List.getElem?_eq_getElem hi)
  have ncs : ∀ a ∈ bs, a ∉ cs := fun a ha z => (lo a ha).2.2.1 ((e3 a).mpr (.inr z))
  obtain ⟨as', q1, q2, q3⟩ := e5 (.refl G) (fun _ _ _ h => h) sl ncs sl.nd
  obtain ⟨n1, n2, n3⟩ := List.nodup_append.mp rel.nd
  refine ⟨as', ⟨q1, rel.bas, List.nodup_append.mpr ⟨q3 n1, n2, fun a ha b hb z => ?_⟩, fun a ha => ?_, fun a ha => ?_⟩, fun a ha => ((q2 a).mp ha).imp id fun z => (e3 a).mpr (.inr z)⟩
  · rcases (q2 a).mp ha with y | y
    · exact (lo a y).2.1 (by rw [z]; exact hb)
    · exact n3 a ((e3 a).mpr (.inr y)) b hb z
  · rcases (q2 a).mp ha with y | y
    · exact (lo a y).1
    · exact rel.free a ((e3 a).mpr (.inr y))
  · rcases (q2 a).mp ha with y | y
    · exact (lo a y).2.2.2
    · exact rel.fresh a ((e3 a).mpr (.inr y))
theorem Rel.set {i : Nat} {rv : RV} {v : V} (rel : Rel R H0 G0 G w σ H as) (hi : i < w.env.length) (sl : RSlot R G H rv (some v) bs) (lo : Loose H0 G as bs) :
    ∃ as', Rel R H0 G0 G { w with env := w.env.set i rv } (σ.set i (some v)) H as' := let ⟨as', h, _⟩ := Rel.setS rel hi sl lo; ⟨as', h⟩
def W.put (w : W) (i : Nat) (rv : RV) : W := { w with env := w.env.set i rv }
def setRV (i : Nat) (rv : RV) (w : W) : RS := if i < w.env.length then .nx (w.put i rv) else .bad
def mSet (i : Nat) (m : ME) : MS := fun w => (m w).sd (setRV i)
theorem set_post {i : Nat} {rv : RV} {v : V} {D : Ends} (rel : Rel R H0 G0 G w σ H as) (sl : RSlot R G H rv (some v) bs) (lo : Loose H0 G as bs) (h : PostS R H0 G0 Wx G (setRV i rv w) D) : D.nx (σ.set i (some v)) H := by
  unfold setRV at h
  by_cases c : i < w.env.length
  · rw [if_pos c] at h
    obtain ⟨as', rel'⟩ := rel.set c sl lo
    exact h _ G H as' rel' (.refl _)
  · rw [if_neg c] at h; exact h.elim
theorem sm_set {i : Nat} {x : Str} {pos' : Pos} (hN : X.N.Nodup) (hi : X.N[i]? = some x) (hx : Loc X.env.scope x) (he : PEm X R Wx e m) (hs : swapsWith e (some (.Name x pos')) pos.line X.env = pure false := by rfl) (hf : X.fn x = true ∨ X.env.scope.names.lookup x = some .local := by first | exact .inl rfl | exact .inr rfl | assumption) :
    PSm X R Wx (.Assign [.Name x pos'] e pos) (mSet i m) :=
  ⟨fun H0 G0 => PS.cons (ps_set hN hi hx (he.pe H0 G0) hs hf) fun D σ H ⟨G, w, as, rel, h⟩ => by
    refine lift_sd rel h fun rv v G1 H1 as1 bs w1 rel1 _ _ sl lo _ h1 => ?_
    exact set_post rel1 sl lo h1⟩
/-! return -/
def mRet (m : ME) : MS := fun w => (m w).sd fun rv w => .rt rv w.S
theorem Loose.none {H0 : Hp} {G : Wd} (h : Loose H0 G as bs) : Loose H0 G [] bs := fun b hb => let ⟨h1, h2, _, h4⟩ := h b hb; ⟨h1, h2, by simp, h4⟩
theorem sm_ret (he : PEm X R Wx e m) : PSm X R Wx (.Return (some e) pos) (mRet m) :=
  ⟨fun H0 G0 => PS.cons (ps_ret (he.pe H0 G0)) fun D σ H ⟨G, w, as, rel, h⟩ => by
    refine lift_sd rel h fun rv v G1 H1 as1 bs w1 rel1 _ _ sl lo _ h1 => ?_
    exact h1 v G1 H1 bs rel1.bas sl lo.none⟩
def mRetN : MS := fun w => .rt (.d .non) w.S
theorem sm_retN : PSm X R Wx (.Return none pos) mRetN := ⟨fun H0 G0 => PS.cons ps_retN fun D σ H ⟨G, w, as, rel, h⟩ => h .non G H [] rel.bas (.d .non) (by intro b hb; simp at hb)⟩
/-- a variable that is told out: its list goes with it -/
def mMv (i : Nat) : MS := fun w => match w.env[i]? with
  | some rv => if rv.plain = true then .rt rv w.S else .bad
  | none => .bad
theorem sm_retV (i : Nat) {x : Str} {p : Pos} (hN : X.N[i]? = some x := by rfl) (hv : Vis X.env.scope x := by first | exact Or.inl rfl | exact Or.inr (Or.inl rfl) | exact Or.inr (Or.inr rfl)) (hd : (x == ("__debug__" : Str)) = false := by decide)
    (hcd : (x == ("__classdict__" : Str)) = false := by decide) : PSm X R Wx (.Return (some (.Name x p)) pos) (mMv i) :=
  ⟨fun H0 G0 => PS.cons (ps_ret (pe_var hN hv hd hcd)) fun D σ H ⟨G, w, as, rel, h⟩ => by
    show ∃ v, σ[i]? = some (some v) ∧ D.rt v H
    have h' : PostS R H0 G0 Wx G (mMv i w) D := h
    unfold mMv at h'
    cases e : w.env[i]? with
    | none => rw [e] at h'; exact h'.elim
    | some r =>
      rw [e] at h'
      have h2 : PostS R H0 G0 Wx G (if r.plain = true then .rt r w.S else .bad) D := h'
      cases pl : r.plain with
      | false => rw [pl, if_neg Bool.false_ne_true] at h2; exact h2.elim
      | true =>
        rw [pl, if_pos rfl] at h2
        obtain ⟨o, bs, cs, e1, e2, e3, e4, e5⟩ := rel.env.at e
        have lo : Loose H0 G [] bs := fun b hb => by
          have hb' : b ∈ as := (e3 b).mpr (.inl hb)
          exact ⟨rel.free b hb', fun z => (List.nodup_append.mp rel.nd).2.2 b hb' b z rfl, by simp, rel.fresh b hb'⟩
        cases o with
        | some v => exact ⟨v, e1, h2 v G H bs rel.bas e2 lo⟩
        | none => cases e2; cases pl⟩
/-! if -/
def Res.sb (r : Res) (t f : W → RS) : RS := match r with
  | .ok (.d (.bl true)) w => t w
  | .ok (.d (.bl false)) w => f w
  | .ok _ _ => .bad
  | .ex x w => .ex x w
  | .bad => .bad
theorem lift_sb {t f : W → RS} {D : Ends} {Qb : Bool → Hp → Prop} (rel : Rel R H0 G0 G w σ H as) (h : PostS R H0 G0 Wx G ((m w).sb t f) D)
    (c : ∀ b G1 H1 as1 w1, Rel R H0 G0 G1 w1 σ H1 as1 → PostS R H0 G0 Wx G1 (if b = true then t w1 else f w1) D → Qb b H1) : liftT R Wx H0 G0 m σ H Qb := by
  refine ⟨G, w, as, rel, ?_⟩
  cases e : m w with
  | bad => rw [e] at h; exact h
  | ex x w1 => rw [e] at h; exact fun cls d G' H' as' rel' x => h σ cls d G' H' as' rel' x
  | ok rv w1 =>
    rw [e] at h
    cases rv with
    | d y =>
      cases y with
      | bl b =>
        intro G' H' as' rel' ext sub
        refine c b G' H' as' w1 rel' (PostS.up ?_ ext.le)
        cases b with
        | true => exact h
        | false => exact h
      | _ => exact h.elim
    | _ => exact h.elim
def mIf (c : ME) (t f : MS) : MS := fun w => (c w).sb t f
theorem sm_if (hc : PTm X R Wx c mc) (ha : PBm X R Wx body m1) (hb : PBm X R Wx orelse m2) : PSm X R Wx (.If c body orelse pos) (mIf mc m1 m2) :=
  ⟨fun H0 G0 => PS.cons (ps_if (hc.pe H0 G0) (ha.ps H0 G0) (hb.ps H0 G0)) fun D σ H ⟨G, w, as, rel, h⟩ => by
    refine lift_sb rel h fun k G1 H1 as1 w1 rel1 h1 => ?_
    cases k with
    | true => exact iteT ⟨G1, w1, as1, rel1, h1⟩
    | false => exact iteF ⟨G1, w1, as1, rel1, h1⟩⟩
/-! an expression whose value is dropped -/
def mEx (m : ME) : MS := fun w => (m w).sd fun _ w => .nx w
theorem sm_expr (he : PEm X R Wx e m) (hs : swapsWith e none pos.line X.env = pure false := by rfl) : PSm X R Wx (.Expr e pos) (mEx m) :=
  ⟨fun H0 G0 => PS.cons (ps_expr (he.pe H0 G0) hs) fun D σ H ⟨G, w, as, rel, h⟩ => by
    refine lift_sd rel h fun rv v G1 H1 as1 bs w1 rel1 _ _ sl lo _ h1 => ?_
    exact h1 σ G1 H1 as1 rel1 (.refl _)⟩

/-! while -/
/-- the loop's turns, as far as they go -/
def whN (c : ME) (b : MS) : Nat → W → Option RS
  | 0, _ => none
  | n + 1, w => match c w with
    | .ok (.d (.bl true)) w1 => match b w1 with
      | .nx w2 => whN c b n w2
      | .ct w2 => whN c b n w2
      | .bk w2 => some (.nx w2)
      | r => some r
    | .ok (.d (.bl false)) w1 => some (.nx w1)
    | .ok _ _ => some .bad
    | .ex x w1 => some (.ex x w1)
    | .bad => some .bad
open Classical in
noncomputable def mWhile (c : ME) (b : MS) : MS := fun w => if h : ∃ n r, whN c b n w = some r then Classical.choose (Classical.choose_spec h) else .bad
theorem whN_mono {c : ME} {b : MS} : ∀ {n : Nat} {w : W} {r : RS}, whN c b n w = some r → ∀ k, whN c b (n + k) w = some r
  | 0, _, _, h, _ => by cases h
  | n + 1, w, r, h, k => by
    rw [show n + 1 + k = (n + k) + 1 by omega]
    unfold whN at h ⊢
    cases e : c w with
    | bad => rw [e] at h; exact h
    | ex x w1 => rw [e] at h; exact h
    | ok rv w1 =>
      rw [e] at h
      cases rv with
      | d y =>
        cases y with
        | bl q =>
          cases q with
          | true =>
            simp only at h ⊢
            cases e2 : b w1 with
            | nx w2 => rw [e2] at h; exact whN_mono h k
            | ct w2 => rw [e2] at h; exact whN_mono h k
            | bk w2 => rw [e2] at h; exact h
            | rt _ _ => rw [e2] at h; exact h
            | ex _ _ => rw [e2] at h; exact h
            | bad => rw [e2] at h; exact h
          | false => exact h
        | _ => exact h
      | _ => exact h
theorem mWhile_of {c : ME} {b : MS} {n : Nat} {w : W} {r : RS} (h : whN c b n w = some r) : mWhile c b w = r := by
  have hx : ∃ n r, whN c b n w = some r := ⟨n, r, h⟩
  unfold mWhile
  rw [dif_pos hx]
  have h2 := Classical.choose_spec (Classical.choose_spec hx)
  have h3 := whN_mono h2 n
  have h4 := whN_mono h (Classical.choose hx)
  rw [Nat.add_comm] at h4
  rw [h4] at h3
  exact (Option.some.inj h3).symm
theorem sm_while (hp : PassesOwn (model X.prog X.w) X.A X.env X.xe) (hc : PTm X R Wx c mc) (hb : PBm X R Wx body ms) : PSm X R Wx (.While c body [] pos) (mWhile mc ms) :=
  ⟨fun H0 G0 => PS.cons (ps_while hp (hc.pe H0 G0) (hb.ps H0 G0)) fun D σ H ⟨G, w, as, rel, h⟩ => by
    by_cases hx : ∃ n r, whN mc ms n w = some r
    · obtain ⟨n, r, hn⟩ := hx
      have hr : PostS R H0 G0 Wx G r D := by rw [mWhile_of hn] at h; exact h
      refine ⟨fun k σ H => ∃ G w as r, Rel R H0 G0 G w σ H as ∧ whN mc ms k w = some r ∧ PostS R H0 G0 Wx G r D, ⟨n, G, w, as, r, rel, hn, hr⟩, ?_⟩
      rintro k σ H ⟨G, w, as, r, rel, hk, hr⟩
      cases k with
      | zero => cases hk
      | succ k =>
        refine ⟨G, w, as, rel, ?_⟩
        unfold whN at hk
        cases e : mc w with
        | bad => rw [e] at hk; cases hk; exact hr
        | ex x w1 => rw [e] at hk; cases hk; exact fun cls d G' H' as' rel' x => hr σ cls d G' H' as' rel' x
        | ok rv w1 =>
          rw [e] at hk
          cases rv with
          | d y =>
            cases y with
            | bl q =>
              intro G' H' as' rel' ext sub
              cases q with
              | true =>
                refine iteT ⟨fun σ' H' => ∃ G w as r, Rel R H0 G0 G w σ' H' as ∧ whN mc ms k w = some r ∧ PostS R H0 G0 Wx G r D, fun σ' H' ⟨G, w, as, r, x1, x2, x3⟩ => ⟨k, Nat.lt_succ_self _, G, w, as, r, x1, x2, x3⟩, G', w1, as', rel', ?_⟩
                simp only at hk
                cases e2 : ms w1 with
                | nx w2 => rw [e2] at hk; exact fun σ' G2 H' as' rel2 le => ⟨G2, w2, as', r, rel2, hk, (PostS.up hr ext.le).up le⟩
                | ct w2 => rw [e2] at hk; exact fun σ' G2 H' as' rel2 le => ⟨G2, w2, as', r, rel2, hk, (PostS.up hr ext.le).up le⟩
                | bk w2 => rw [e2] at hk; cases hk; exact PostS.up (G := G) hr ext.le
                | rt _ _ => rw [e2] at hk; cases hk; exact hr
                | ex _ _ => rw [e2] at hk; cases hk; exact hr
                | bad => rw [e2] at hk; cases hk; exact hr
              | false =>
                cases hk
                exact iteF (hr σ G' H' as' rel' ext.le)
            | _ => cases hk; exact hr.elim
          | _ => cases hk; exact hr.elim
    · have : mWhile mc ms w = .bad := by unfold mWhile; rw [dif_neg hx]
      rw [this] at h
      exact h.elim⟩
end
end DB

set_option Elab.async false
set_option linter.all false
set_option maxRecDepth 100000
set_option maxHeartbeats 4000000
namespace DB
open PySem PySem.Spec PyProof.Rows L2
section
variable {R R' : RC} {H0 H H' H1 : Hp} {G0 G G' G1 : Wd} {w w' w1 : W} {σ : L2.St} {as as' as1 bs : List Addr} {Wx : WX} {X : Cx}
  {a b c e tg iter : Expr} {ma mb mc m : ME} {pos : Pos} {es : List Expr} {st : Stmt} {rest body orelse : List Stmt} {m1 m2 ms : MS}

/-! a def -/
def bodyF (n k : Nat) (m : MS) : MF := fun ds S => if ds.length = k then match m ⟨ds.map .d ++ List.replicate (n - k) .un, S⟩ with
  | .nx w => .ok (.d .non) w.S
  | .rt rv S' => if rv.plain = true then .ok rv S' else .bad
  | .ex x w => .ex x w.S
  | _ => .bad else .bad
theorem REnv.ds : ∀ {ds : List D} {vs : List V}, Rps R G ds vs → ∀ k, REnv R G H (ds.map .d ++ List.replicate k .un) (vs.map some ++ List.replicate k none) []
  | _, _, .nil, 0 => .nil
  | _, _, .nil, k + 1 => REnv.cons (as := []) (bs := []) .un (REnv.ds (ds := []) (vs := []) .nil k)
  | _, _, .cons r rs, k => REnv.cons (as := []) (bs := []) (.d r) (REnv.ds rs k)
theorem fn_M {P : Program} {w : World} {K : PySem.W.Frag} {mg : Str → Option Value} {base : Heap} {x qual : Str} {st : Stmt} {f : Addr} {fd : FuncData} {N ps : List Str} {k : Nat} {m : MS} {T : List (Addr × Str)} {lm : Lm}
    (Fu : Fun K x qual st f fd) (S : FnScope N ps (defScope st))
    (body : ∀ (cdv : Value) (A : Around) (outer : List Env) (s : Shared) (H : Hp) (E : XK), Room k (A.deeper (envOfC qual (defScope st) s.heap.objs.size f cdv)) →
      PBm (cxOf (L2.CX P w) P w K mg base N qual (defScope st) f cdv A outer s H E) ⟨K, mg, T, lm⟩ (fun cls d _ H => E cls d H) (defBody st) m) :
    FnOk P w K mg base (L2.CX P w) (k + 1) f fd ps (spF ⟨K, mg, T, lm⟩ (bodyF N.length ps.length m)) := by
  have hpl : ps.length ≤ N.length := by have := congrArg List.length S.pre; rw [List.length_take] at this; omega
  refine Fu.okX S (fun vs H Q E h => ?_) (fun cdv A outer s H vs Q E hr h => ?_)
  · obtain ⟨G, S, ds, rs, b, h⟩ := h
    unfold bodyF at h
    by_cases c : ds.length = ps.length
    · rw [← rs.length]; exact c
    · rw [if_neg c] at h; exact h.elim
  · obtain ⟨G, Sc, ds, rs, b, h⟩ := h
    refine ⟨_, (body cdv A outer s H E hr).ps H G, ?_⟩
    unfold bodyF at h
    by_cases c : ds.length = ps.length
    · rw [if_pos c] at h
      have hv : vs.length = ps.length := by rw [← rs.length]; exact c
      have env : REnv ⟨K, mg, T, lm⟩ G H (ds.map .d ++ List.replicate (N.length - ps.length) .un) (L2.start N vs) [] := by
        unfold L2.start
        rw [hv]
        exact REnv.ds rs _
      refine ⟨G, ⟨ds.map .d ++ List.replicate (N.length - ps.length) .un, Sc⟩, [], ⟨env, b, by simpa using b.nd, by simp, by simp⟩, ?_⟩
      cases e : m ⟨ds.map .d ++ List.replicate (N.length - ps.length) .un, Sc⟩ with
      | bad => rw [e] at h; exact h
      | bk _ => rw [e] at h; exact h.elim
      | ct _ => rw [e] at h; exact h.elim
      | nx w' =>
        rw [e] at h
        exact fun σ' G' H' as' rel _ => h.2 .non G' H' [] rel.bas (.d .non) (by intro b hb; simp at hb)
      | ex x w' =>
        rw [e] at h
        exact fun σ' cls d G' H' as' rel x => h cls d G' H' rel.bas x
      | rt rv S' =>
        rw [e] at h
        have h2 : (match (if rv.plain = true then RF.ok rv S' else RF.bad) with
          | .ok rv S' => rv.plain = true ∧ ∀ v G' H' bs, Bas ⟨K, mg, T, lm⟩ H G G' S' H' → RSlot ⟨K, mg, T, lm⟩ G' H' rv (some v) bs → Loose H G' [] bs → Q v H'
          | .ex x S' => ∀ cls d G' H', Bas ⟨K, mg, T, lm⟩ H G G' S' H' → ExcR ⟨K, mg, T, lm⟩ G' H' x cls d → E cls d H'
          | .bad => False) := h
        cases pl : rv.plain with
        | false => rw [pl, if_neg Bool.false_ne_true] at h2; exact h2.elim
        | true => rw [pl, if_pos rfl] at h2; exact h2.2
    · rw [if_neg c] at h; exact h.elim

/-! targets -/
abbrev MG := D → W → Option W
/-- the slots but is are as they were -/
def But (is : List Nat) (σ σ' : L2.St) : Prop := σ'.length = σ.length ∧ ∀ j, j ∉ is → σ'[j]? = σ[j]?
theorem But.refl (is : List Nat) (σ : L2.St) : But is σ σ := ⟨rfl, fun _ _ => rfl⟩
theorem But.set {is : List Nat} {i : Nat} (σ : L2.St) (o : Option V) (h : i ∈ is) : But is σ (σ.set i o) := ⟨List.length_set .., fun j hj => List.getElem?_set_ne (fun z => hj (by rw [← z]; exact h))⟩
theorem But.trans {is js : List Nat} {σ σ1 σ2 : L2.St} (a : But is σ σ1) (b : But js σ1 σ2) : But (is ++ js) σ σ2 := ⟨b.1.trans a.1, fun j hj => (b.2 j fun z => hj (List.mem_append_right _ z)).trans (a.2 j fun z => hj (List.mem_append_left _ z))⟩
def liftG (R : RC) (H0 : Hp) (G0 : Wd) (is : List Nat) (g : MG) : TG := fun v σ H Q => ∃ G w as x, Rel R H0 G0 G w σ H as ∧ Rp R G x v ∧ (match g x w with
  | some w' => ∀ σ' as', Rel R H0 G0 G w' σ' H as' → But is σ σ' → (∀ a, a ∈ as' → a ∈ as) → Q σ' H
  | none => False)
structure PGm (X : Cx) (R : RC) (tg : Expr) (is : List Nat) (g : MG) : Prop where
  pg : ∀ H0 G0, PG X tg (liftG R H0 G0 is g)
theorem PG.cons {X : Cx} {e : Expr} {t t' : TG} (h : PG X e t) (c : ∀ v σ H Q, t' v σ H Q → t v σ H Q) : PG X e t' := ⟨fun pins s σ H v u Q I r q => h.run pins s σ H v u Q I r (c v σ H Q q)⟩
def gNm (i : Nat) : MG := fun x w => if i < w.env.length then some (w.put i (.d x)) else none
theorem gm_name {i : Nat} {x : Str} (hN : X.N.Nodup) (hi : X.N[i]? = some x) (hx : Loc X.env.scope x) (hf : X.fn x = true ∨ X.env.scope.names.lookup x = some .local := by first | exact .inl rfl | exact .inr rfl | assumption) : PGm X R (.Name x pos) [i] (gNm i) :=
  ⟨fun H0 G0 => PG.cons (pg_name hN hi hx hf) fun v σ H Q ⟨G, w, as, y, rel, rp, h⟩ => by
    show Q (σ.set i (some v)) H
    have h' : (match gNm i y w with
      | some w' => ∀ σ' as', Rel R H0 G0 G w' σ' H as' → But [i] σ σ' → (∀ a, a ∈ as' → a ∈ as) → Q σ' H
      | none => False) := h
    unfold gNm at h'
    by_cases c : i < w.env.length
    · rw [if_pos c] at h'
      obtain ⟨as', rel', sub⟩ := rel.setS c (.d rp) (by intro b hb; simp at hb)
      exact h' _ as' rel' (But.set σ _ (List.mem_singleton.mpr rfl)) fun a ha => (sub a ha).elim (fun z => by simp at z) id
    · rw [if_neg c] at h'; exact h'.elim⟩
abbrev MGs := List D → W → Option W
def liftGs (R : RC) (H0 : Hp) (G0 : Wd) (is : List Nat) (g : MGs) : TGs := fun vs σ H Q => ∃ G w as xs, Rel R H0 G0 G w σ H as ∧ Rps R G xs vs ∧ (match g xs w with
  | some w' => ∀ σ' as', Rel R H0 G0 G w' σ' H as' → But is σ σ' → (∀ a, a ∈ as' → a ∈ as) → Q σ' H
  | none => False)
structure PGsm (X : Cx) (R : RC) (ts : List Expr) (is : List Nat) (g : MGs) : Prop where
  pg : ∀ H0 G0, PGs X ts (liftGs R H0 G0 is g)
theorem PGs.cons {X : Cx} {e : List Expr} {t t' : TGs} (h : PGs X e t) (c : ∀ v σ H Q, t' v σ H Q → t v σ H Q) : PGs X e t' := ⟨fun pins s σ H v u Q I r q => h.run pins s σ H v u Q I r (c v σ H Q q)⟩
def gsNil : MGs := fun xs w => match xs with
  | [] => some w
  | _ => none
def gsCons (g : MG) (gs : MGs) : MGs := fun xs w => match xs with
  | x :: xs => match g x w with
    | some w1 => gs xs w1
    | none => none
  | [] => none
theorem gms_nil : PGsm X R [] [] gsNil := ⟨fun H0 G0 => PGs.cons pgs_nil fun vs σ H Q ⟨G, w, as, xs, rel, rs, h⟩ => by
  cases rs with
  | nil => exact ⟨rfl, h σ as rel (.refl _ _) fun _ h => h⟩
  | cons _ _ => exact h.elim⟩
theorem gms_cons {g : MG} {gs : MGs} {is js : List Nat} (h1 : PGm X R e is g) (h2 : PGsm X R es js gs) (hs : (assignEach (e :: es) X.env).map (·.2) = assign e X.env :: (assignEach es X.env).map (·.2) := by rfl) : PGsm X R (e :: es) (is ++ js) (gsCons g gs) :=
  ⟨fun H0 G0 => PGs.cons (pgs_cons (h1.pg H0 G0) (h2.pg H0 G0) hs) fun vs σ H Q ⟨G, w, as, xs, rel, rs, h⟩ => by
    cases rs with
    | nil => exact h.elim
    | @cons x xs v vs r rs =>
      refine ⟨v, vs, rfl, G, w, as, x, rel, r, ?_⟩
      have h' : (match gsCons g gs (x :: xs) w with
        | some w' => ∀ σ' as', Rel R H0 G0 G w' σ' H as' → But (is ++ js) σ σ' → (∀ a, a ∈ as' → a ∈ as) → Q σ' H
        | none => False) := h
      unfold gsCons at h'
      cases eg : g x w with
      | none => simp only [eg] at h'
      | some w1 =>
        simp only [eg] at h'
        intro σ' as' rel' bt sub
        refine ⟨G, w1, as', xs, rel', rs, ?_⟩
        cases egs : gs xs w1 with
        | none => rw [egs] at h'; exact h'.elim
        | some w2 => rw [egs] at h'; exact fun σ2 as2 rel2 bt2 sub2 => h' σ2 as2 rel2 (bt.trans bt2) fun a ha => sub a (sub2 a ha)⟩
def gTp (n : Nat) (gs : MGs) : MG := fun x w => match x with
  | .tup xs => if xs.length = n then gs xs w else none
  | _ => none
theorem gm_tup {gs : MGs} {is : List Nat} {k n : Nat} (ag : Ag X R) (hc : X.calm = true) (h : PGsm X R es is gs) (hn : (assignEach es X.env).length = n := by rfl) (hst : (assignEach es X.env).findIdx? (·.1) = none := by rfl) : PGm X R (.Tuple es k pos) is (gTp n gs) :=
  ⟨fun H0 G0 => PG.cons (pg_tup hc (h.pg H0 G0) hn hst) fun v σ H Q ⟨G, w, as, y, rel, rp, h⟩ => by
    cases rp with
    | @tup p ds xs hx rs =>
      have h' : (match (if ds.length = n then gs ds w else none) with
        | some w' => ∀ σ' as', Rel R H0 G0 G w' σ' H as' → But is σ σ' → (∀ a, a ∈ as' → a ∈ as) → Q σ' H
        | none => False) := h
      by_cases c : ds.length = n
      · rw [if_pos c] at h'
        exact ⟨p, xs, rfl, by rw [ag.K]; exact Same.seqT rel.bas.sub hx, by rw [← rs.length]; exact c, G, w, as, ds, rel, rs, h'⟩
      · rw [if_neg c] at h'; exact h'.elim
    | _ => exact h.elim⟩
/-- target = value -/
def mAsg (g : MG) (m : ME) : MS := fun w => (m w).sd fun rv w1 => match rv.frz with
  | some x => match g x w1 with
    | some w2 => .nx w2
    | none => .bad
  | none => .bad
theorem sm_asg {g : MG} {is : List Nat} (he : PEm X R Wx e m) (hg : PGm X R tg is g) (hs : swapsWithSole [tg] e pos.line X.env = pure false := by rfl) (hw : swappedStores [tg] e X.env = pure none := by rfl)
    (h1 : (assignEach [tg] X.env).map (·.2) = [assign tg X.env] := by rfl) : PSm X R Wx (.Assign [tg] e pos) (mAsg g m) :=
  ⟨fun H0 G0 => PS.cons (ps_asg (he.pe H0 G0) (hg.pg H0 G0) hs hw h1) fun D σ H ⟨G, w, as, rel, h⟩ => by
    refine lift_sd rel h fun rv v G1 H1 as1 bs w1 rel1 ext _ sl lo _ h1 => ?_
    have h' : PostS R H0 G0 Wx G1 (match rv.frz with
      | some x => match g x w1 with
        | some w2 => .nx w2
        | none => .bad
      | none => .bad) D := h1
    cases ef : rv.frz with
    | none => rw [ef] at h'; exact h'.elim
    | some x =>
      rw [ef] at h'
      obtain ⟨G2, rel2, ext2, rp⟩ := frz_tmp rel1 sl lo ef
      have h2 : PostS R H0 G0 Wx G1 (match g x w1 with
        | some w2 => .nx w2
        | none => .bad) D := h'
      refine ⟨G2, w1, as1, x, rel2, rp, ?_⟩
      cases eg : g x w1 with
      | none => rw [eg] at h2; exact h2.elim
      | some w2 => rw [eg] at h2; exact fun σ' as' rel' _ _ => h2 σ' G2 H1 as' rel' ext2.le⟩

/-! what a loop walks -/
/-- J yields ds, wherever what is known stands -/
def Walks (R : RC) (J : It) (ds : List D) (G : Wd) : Prop := ∀ G2 H2, Wle G G2 → Same G2.Z H2 →
  (∀ i d, ds[i]? = some d → J.go i H2 ∧ ∀ x H3, J.yld i H2 x H3 → ∃ G3, PExt G2 H2 G3 H3 ∧ Rp R G3 d x) ∧ J.stop ds.length H2
def liftI (R : RC) (Wx : WX) (H0 : Hp) (G0 : Wd) (m : MA) : TI := fun σ H Q => ∃ G w as, Rel R H0 G0 G w σ H as ∧ (match m w with
  | .ok ds w' => ∀ J G' H' as', Rel R H0 G0 G' w' σ H' as' → Ext as G H G' H' → (∀ a ∈ as', a ∈ as) → Walks R J ds G' → Q J H'
  | .ex x w' => ∀ cls d G' H' as', Rel R H0 G0 G' w' σ H' as' → ExcR R G' H' x cls d → Wx cls d σ H'
  | .bad => False)
/-- .. where the heap may be changed otherwise -/
def liftJ (R : RC) (Wx : WX) (H0 : Hp) (G0 : Wd) (m : MA) : TI := fun σ H Q => ∃ G w as, Rel R H0 G0 G w σ H as ∧ (match m w with
  | .ok ds w' => ∀ J G' H' as', Rel R H0 G0 G' w' σ H' as' → Wle G G' → Walks R J ds G' → Q J H'
  | .ex x w' => ∀ cls d G' H' as', Rel R H0 G0 G' w' σ H' as' → ExcR R G' H' x cls d → Wx cls d σ H'
  | .bad => False)
structure PIm (X : Cx) (R : RC) (Wx : WX) (tg iter : Expr) (m : MA) : Prop where
  pi : ∀ H0 G0, PI X tg iter (liftI R Wx H0 G0 m)
structure PJm (X : Cx) (R : RC) (Wx : WX) (tg iter : Expr) (m : MA) : Prop where
  pi : ∀ H0 G0, PI X tg iter (liftJ R Wx H0 G0 m)
theorem PI.cons {X : Cx} {tg e : Expr} {t t' : TI} (h : PI X tg e t) (c : ∀ σ H Q, t' σ H Q → t σ H Q) : PI X tg e t' := ⟨fun pins s σ H Q I q => h.run pins s σ H Q I (c σ H Q q)⟩
theorem jm {mi : MA} (h : PIm X R Wx tg iter mi) : PJm X R Wx tg iter mi := ⟨fun H0 G0 => PI.cons (h.pi H0 G0) fun σ H Q ⟨G, w, as, rel, h⟩ => by
  refine ⟨G, w, as, rel, ?_⟩
  cases e : mi w with
  | bad => rw [e] at h; exact h
  | ex x w1 => rw [e] at h; exact h
  | ok ds w1 => rw [e] at h; exact fun J G' H' as' rel' ext _ wk => h J G' H' as' rel' ext.le wk⟩
theorem walks_list {K : PySem.W.Frag} {p : Addr} {ds : List D} {xs : List V} (hx : SqL K G.Z p xs) (rs : Rps R G ds xs) : Walks R (Itl K p) ds G := fun G2 H2 le s => by
  have hx2 : SqL K H2 p xs := Same.seq s (Same.seq le.z hx)
  refine ⟨fun i d e => ?_, ⟨xs, hx2, by rw [← rs.length]; exact Nat.le_refl _⟩⟩
  obtain ⟨v, ev, rp⟩ := rs.get e
  refine ⟨⟨xs, v, hx2, ev⟩, fun x H3 ⟨e3, q⟩ => ?_⟩
  rw [e3]
  have e4 := q xs hx2
  rw [ev] at e4
  cases e4
  exact ⟨G2, .refl s, rp.mono le⟩
/-- the loop's turns over what it walks -/
def forL (g : MG) (b : MS) : List D → W → RS
  | [], w => .nx w
  | d :: ds, w => match g d w with
    | none => .bad
    | some w1 => match b w1 with
      | .nx w2 => forL g b ds w2
      | .ct w2 => forL g b ds w2
      | .bk w2 => .nx w2
      | r => r
def mFor (mi : MA) (g : MG) (b : MS) : MS := fun w => match mi w with
  | .ok ds w1 => forL g b ds w1
  | .ex x w1 => .ex x w1
  | .bad => .bad
theorem sm_for {mi : MA} {g : MG} (hp : PassesOwn (model X.prog X.w) X.A X.env X.xe) (hc : X.calm = true) {is : List Nat} (hi : PJm X R Wx tg iter mi) (hg : PGm X R tg is g) (hb : PBm X R Wx body ms)
    (hs : ∀ x, foldedSetIterable iter X.env x = pure x := by intro _; rfl) : PSm X R Wx (.For tg iter body [] pos) (mFor mi g ms) :=
  ⟨fun H0 G0 => PS.cons (ps_for hp hc (hi.pi H0 G0) (hg.pg H0 G0) (hb.ps H0 G0) hs) fun D σ H ⟨G, w, as, rel, h⟩ => by
    have h' : PostS R H0 G0 Wx G (mFor mi g ms w) D := h
    unfold mFor at h'
    refine ⟨G, w, as, rel, ?_⟩
    cases e : mi w with
    | bad => rw [e] at h'; exact h'
    | ex x w1 => rw [e] at h'; exact fun cls d G' H' as' rel' x => h' σ cls d G' H' as' rel' x
    | ok ds w1 =>
      rw [e] at h'
      intro J G1 H1 as1 rel1 le1 wk
      refine ⟨fun i n σ H => (n = ds.length - i ∧ i ≤ ds.length) ∧ ∃ G2 w as, Rel R H0 G0 G2 w σ H as ∧ Wle G1 G2 ∧ PostS R H0 G0 Wx G2 (forL g ms (ds.drop i) w) D, ⟨ds.length, ⟨by simp, Nat.zero_le _⟩, G1, w1, as1, rel1, .refl _, by rw [List.drop_zero]; exact PostS.up h' le1⟩, ?_⟩
      rintro i n σ H ⟨⟨rfl, hle⟩, G2, w2, as2, rel2, le2, h2⟩
      obtain ⟨q1, q2⟩ := wk G2 H le2 rel2.bas.sub
      by_cases hi : i < ds.length
      · have ed : ds.drop i = ds[i] :: ds.drop (i + 1) := List.drop_eq_getElem_cons hi
        obtain ⟨go, yl⟩ := q1 i ds[i] (List.getElem?_eq_getElem hi)
        rw [ed] at h2
        refine .inr ⟨go, fun σ' H' => ∃ G2 w as, Rel R H0 G0 G2 w σ' H' as ∧ Wle G1 G2 ∧ PostS R H0 G0 Wx G2 (forL g ms (ds.drop (i + 1)) w) D, fun σ' H' ⟨G2, w, as, x1, x2, x3⟩ => ⟨ds.length - (i + 1), by omega, ⟨rfl, hi⟩, G2, w, as, x1, x2, x3⟩, fun x H' y => ?_⟩
        obtain ⟨G3, p3, rp3⟩ := yl x H' y
        have rel3 := rel2.pext p3
        have h3 := PostS.up h2 p3.le
        unfold forL at h3
        refine ⟨G3, w2, as2, ds[i], rel3, rp3, ?_⟩
        cases eg : g ds[i] w2 with
        | none => rw [eg] at h3; exact h3.elim
        | some w4 =>
          rw [eg] at h3
          intro σ4 as4 rel4 _ _
          refine ⟨G3, w4, as4, rel4, ?_⟩
          simp only at h3
          cases eb : ms w4 with
          | nx w5 => rw [eb] at h3; exact fun σ' G' H' as' rel' le => ⟨G', w5, as', rel', (le2.trans p3.le).trans le, PostS.up h3 le⟩
          | ct w5 => rw [eb] at h3; exact fun σ' G' H' as' rel' le => ⟨G', w5, as', rel', (le2.trans p3.le).trans le, PostS.up h3 le⟩
          | bk w5 => rw [eb] at h3; exact h3
          | rt _ _ => rw [eb] at h3; exact h3
          | ex _ _ => rw [eb] at h3; exact h3
          | bad => rw [eb] at h3; exact h3
      · have ed : ds.drop i = [] := List.drop_eq_nil_of_le (by omega)
        rw [ed] at h2
        have ei : i = ds.length := by omega
        exact .inl ⟨by rw [ei]; exact q2, h2 σ G2 H as2 rel2 (.refl _)⟩⟩
end
end DB

set_option Elab.async false
set_option linter.all false
set_option maxRecDepth 100000
set_option maxHeartbeats 4000000
namespace DB
open PySem PySem.Spec PyProof.Rows L2
section
variable {R R' : RC} {H0 H H' H1 : Hp} {G0 G G' G1 : Wd} {w w' w1 : W} {σ : L2.St} {as as' as1 bs : List Addr} {Wx : WX} {X : Cx}
  {a b c e tg iter : Expr} {ma mb mc m : ME} {pos : Pos} {es : List Expr} {st : Stmt} {rest body orelse : List Stmt} {m1 m2 ms : MS} {mr : MA}

/-! iterables -/
def seqItems (x : D) : Option (List D) := match x with
  | .lst ds => some ds
  | .scr ds => some ds
  | .tup ds => some ds
  | .str z => some (z.cps.toList.map fun c => .str ⟨#[c]⟩)
  | _ => none
def mSeqI (m : ME) : MA := fun w => match (m w).bd fun x w1 => .ok (.d x) w1 with
  | .ok (.d x) w1 => match seqItems x with
    | some ds => .ok ds w1
    | none => .bad
  | .ok _ _ => .bad
  | .ex x w1 => .ex x w1
  | .bad => .bad
theorem walks_tup {K : PySem.W.Frag} {p : Addr} {ds : List D} {xs : List V} (hx : SqT K G.Z p xs) (rs : Rps R G ds xs) : Walks R (Itt K p) ds G := fun G2 H2 le s => by
  have hx2 : SqT K H2 p xs := Same.seqT s (Same.seqT le.z hx)
  refine ⟨fun i d e => ?_, ⟨xs, hx2, by rw [← rs.length]; exact Nat.le_refl _⟩⟩
  obtain ⟨v, ev, rp⟩ := rs.get e
  refine ⟨⟨xs, v, hx2, ev⟩, fun x H3 ⟨e3, q⟩ => ?_⟩
  rw [e3]
  have e4 := q xs hx2
  rw [ev] at e4
  cases e4
  exact ⟨G2, .refl s, rp.mono le⟩
theorem walks_str {z : Str} : Walks R (Its z) (z.cps.toList.map fun c => .str ⟨#[c]⟩) G := fun G2 H2 le s => by
  refine ⟨fun i d e => ?_, ?_⟩
  · rw [List.getElem?_map] at e
    obtain ⟨c, e1, rfl⟩ := Option.map_eq_some_iff.mp e
    have hi : i < z.cps.size := by
      have := (List.getElem?_eq_some_iff.mp e1).1
      simpa using this
    refine ⟨hi, fun x H3 ⟨e3, c', q, ex⟩ => ?_⟩
    rw [e3, ex]
    have : z.cps[i]? = some c := by simpa using e1
    rw [this] at q
    cases q
    exact ⟨G2, .refl s, .str⟩
  · show z.cps.size ≤ _
    simp
theorem im_seq (ag : Ag X R) (he : PEm X R Wx iter m) : PIm X R Wx tg iter (mSeqI m) :=
  ⟨fun H0 G0 => ⟨fun pins s σ H Rj I ⟨G, w, as, rel, h⟩ => by
    have h' : (match (match (m w).bd fun x w1 => .ok (.d x) w1 with
      | .ok (.d x) w1 => match seqItems x with
        | some ds => RL.ok ds w1
        | none => .bad
      | .ok _ _ => .bad
      | .ex x w1 => .ex x w1
      | .bad => .bad) with
      | .ok ds w' => ∀ J G' H' as', Rel R H0 G0 G' w' σ H' as' → Ext as G H G' H' → (∀ a ∈ as', a ∈ as) → Walks R J ds G' → Rj J H'
      | .ex x w' => ∀ cls d G' H' as', Rel R H0 G0 G' w' σ H' as' → ExcR R G' H' x cls d → Wx cls d σ H'
      | .bad => False) := h
    -- what is asked of a continuation
    have go : ∀ {Q : VK}, (∀ x, ∀ w1, (∀ ds, seqItems x = some ds → ∀ J G' H' as', Rel R H0 G0 G' w1 σ H' as' → Ext as G H G' H' → (∀ a ∈ as', a ∈ as) → Walks R J ds G' → Rj J H') → seqItems x ≠ none → ((m w).bd fun x w1 => .ok (.d x) w1) = .ok (.d x) w1 → ∀ v G1 H1 as1, Rel R H0 G0 G1 w1 σ H1 as1 → Ext as G H G1 H1 → (∀ a ∈ as1, a ∈ as) → Rp R G1 x v → Q v H1) → liftE R Wx H0 G0 m σ H Q := by
      intro Q k
      cases e : m w with
      | bad => rw [e] at h'; exact h'.elim
      | ex x w1 => rw [e] at h'; exact ⟨G, w, as, rel, by rw [e]; exact h'⟩
      | ok rv w1 =>
        have e2 : (m w).bd (fun x w1 => .ok (.d x) w1) = (match rv.frz with | some x => .ok (.d x) w1 | none => .bad) := by
          rw [e] <;> rfl
        rw [e2] at h'
        cases ef : rv.frz with
        | none => rw [ef] at h'; exact h'.elim
        | some x =>
          rw [ef] at h' e2
          refine ⟨G, w, as, rel, ?_⟩
          rw [e]
          intro v G' H' as' bs rel' ext sub sl lo fr
          obtain ⟨G2, rel2, ext2, rp⟩ := frz_tmp rel' sl lo ef
          refine k x w1 (fun ds eds => ?_) (fun z => ?_) e2 v G2 H' as' rel2 (ext.trans fr ext2) sub rp
          · simp only [eds] at h'
            exact h'
          · simp only [z] at h'
    cases e : (m w).bd fun x w1 => .ok (.d x) w1 with
    | bad => rw [e] at h'; exact h'.elim
    | ex x w1 =>
      refine (pi_list (he.pe H0 G0)).run pins s σ H Rj I (go fun x w1 k hn e1 v G1 H1 as1 rel1 le1 sub1 rp => ?_)
      rw [e] at e1; cases e1
    | ok rv w1 =>
      cases rv with
      | d x =>
        have same : ∀ {x' : D} {w1' : W}, ((m w).bd fun x w1 => .ok (.d x) w1) = .ok (.d x') w1' → x' = x := fun e1 => by
          rw [e] at e1; cases e1; rfl
        cases x with
        | lst ds =>
          refine (pi_list (he.pe H0 G0)).run pins s σ H Rj I (go fun x w1 k hn e1 v G1 H1 as1 rel1 le1 sub1 rp => ?_)
          cases same e1
          cases rp with
          | lst hx rs => exact ⟨_, rfl, ⟨_, .inl (.inl (rel1.bas.sub _ _ hx))⟩, k _ rfl _ G1 H1 as1 rel1 le1 sub1 (walks_list (.inl (.inl hx)) rs)⟩
        | scr ds =>
          refine (pi_list (he.pe H0 G0)).run pins s σ H Rj I (go fun x w1 k hn e1 v G1 H1 as1 rel1 le1 sub1 rp => ?_)
          cases same e1
          cases rp with
          | scr hx rs => exact ⟨_, rfl, ⟨_, by rw [ag.K]; exact Same.seq rel1.bas.sub hx⟩, k _ rfl _ G1 H1 as1 rel1 le1 sub1 (by rw [ag.K]; exact walks_list hx rs)⟩
        | tup ds =>
          refine (pi_tup (he.pe H0 G0)).run pins s σ H Rj I (go fun x w1 k hn e1 v G1 H1 as1 rel1 le1 sub1 rp => ?_)
          cases same e1
          cases rp with
          | tup hx rs => exact ⟨_, rfl, ⟨_, by rw [ag.K]; exact Same.seqT rel1.bas.sub hx⟩, k _ rfl _ G1 H1 as1 rel1 le1 sub1 (by rw [ag.K]; exact walks_tup hx rs)⟩
        | str z =>
          refine (pi_str (he.pe H0 G0)).run pins s σ H Rj I (go fun x w1 k hn e1 v G1 H1 as1 rel1 le1 sub1 rp => ?_)
          cases same e1
          cases rp
          exact ⟨_, rfl, k _ rfl _ G1 H1 as1 rel1 le1 sub1 walks_str⟩
        | _ =>
          refine (pi_list (he.pe H0 G0)).run pins s σ H Rj I (go fun x w1 k hn e1 v G1 H1 as1 rel1 le1 sub1 rp => ?_)
          cases same e1
          exact (hn rfl).elim
      | _ =>
        refine (pi_list (he.pe H0 G0)).run pins s σ H Rj I (go fun x w1 k hn e1 v G1 H1 as1 rel1 le1 sub1 rp => ?_)
        rw [e] at e1; cases e1⟩⟩

/-! range -/
theorem walks_range {lo : Int} {n : Nat} : Walks R (Itr lo n) ((List.range n).map fun i => .int (lo + (i : Nat))) G := fun G2 H2 le s => by
  refine ⟨fun i d e => ?_, ?_⟩
  · rw [List.getElem?_map] at e
    obtain ⟨c, e1, rfl⟩ := Option.map_eq_some_iff.mp e
    obtain ⟨hi, e2⟩ := List.getElem?_eq_some_iff.mp e1
    rw [List.getElem_range] at e2
    subst e2
    refine ⟨(by simpa using hi : i < n), fun x H3 ⟨e3, q⟩ => ?_⟩
    rw [e3, q]
    exact ⟨G2, .refl s, .int⟩
  · show n ≤ _
    simp
def rngD (lo hi : Int) : List D := (List.range (hi - lo).toNat).map fun i => .int (lo + (i : Nat))
def mRng1 (r : MA) : MA := fun w => match r w with
  | .ok [.int j] w1 => if -(2 ^ 62) ≤ j ∧ j < 2 ^ 62 then .ok (rngD 0 j) w1 else .bad
  | .ok _ _ => .bad
  | r => r
def mRng2 (r : MA) : MA := fun w => match r w with
  | .ok [.int i, .int j] w1 => if -(2 ^ 62) ≤ i ∧ i < 2 ^ 62 ∧ -(2 ^ 62) ≤ j ∧ j < 2 ^ 62 then .ok (rngD i j) w1 else .bad
  | .ok _ _ => .bad
  | r => r
theorem im_range1 {p : Pos} (hg : Gl X "range") (hm : X.mg "range" = none) (ha : PLm X R Wx [a] mr) (hs : starEach [a] X.env = [(false, eval a X.env)] := by rfl) : PIm X R Wx tg (.Call (.Name "range" p) [a] [] pos) (mRng1 mr) :=
  ⟨fun H0 G0 => PI.cons (pi_range1 hg hm (ha.pe H0 G0) hs) fun σ H Q ⟨G, w, as, rel, h⟩ => by
    refine ⟨G, w, as, rel, ?_⟩
    have h' : (match mRng1 mr w with
      | .ok ds w' => ∀ J G' H' as', Rel R H0 G0 G' w' σ H' as' → Ext as G H G' H' → (∀ a ∈ as', a ∈ as) → Walks R J ds G' → Q J H'
      | .ex x w' => ∀ cls d G' H' as', Rel R H0 G0 G' w' σ H' as' → ExcR R G' H' x cls d → Wx cls d σ H'
      | .bad => False) := h
    unfold mRng1 at h'
    cases e : mr w with
    | bad => rw [e] at h'; exact h'
    | ex x w1 => rw [e] at h'; exact h'
    | ok ds w1 =>
      rw [e] at h'
      intro vs G' H' as' rel' ext sub ls
      cases ls with
      | nil => exact h'.elim
      | @cons d ds v vs l ls =>
        cases ls with
        | cons _ _ => cases d <;> exact h'.elim
        | nil =>
          cases d with
          | int j =>
            cases l.int
            by_cases c : -(2 ^ 62) ≤ j ∧ j < 2 ^ 62
            · simp only [c, and_self, if_true] at h'
              refine ⟨j, rfl, c.1, c.2, h' _ G' H' as' rel' ext sub ?_⟩
              have := walks_range (R := R) (G := G') (lo := 0) (n := j.toNat)
              unfold rngD
              rw [Int.sub_zero]
              exact this
            · have h2 : (match (if -(2 ^ 62) ≤ j ∧ j < 2 ^ 62 then RL.ok (rngD 0 j) w1 else .bad) with
                | .ok ds w' => ∀ J G' H' as', Rel R H0 G0 G' w' σ H' as' → Ext as G H G' H' → (∀ a ∈ as', a ∈ as) → Walks R J ds G' → Q J H'
                | .ex x w' => ∀ cls d G' H' as', Rel R H0 G0 G' w' σ H' as' → ExcR R G' H' x cls d → Wx cls d σ H'
                | .bad => False) := h'
              rw [if_neg c] at h2; exact h2.elim
          | _ => exact h'.elim⟩
theorem im_range2 {p : Pos} (hg : Gl X "range") (hm : X.mg "range" = none) (ha : PLm X R Wx [a, b] mr) (hs : starEach [a, b] X.env = [(false, eval a X.env), (false, eval b X.env)] := by rfl) (hs2 : starEach [b] X.env = [(false, eval b X.env)] := by rfl) : PIm X R Wx tg (.Call (.Name "range" p) [a, b] [] pos) (mRng2 mr) :=
  ⟨fun H0 G0 => PI.cons (pi_range2 hg hm (ha.pe H0 G0) hs hs2) fun σ H Q ⟨G, w, as, rel, h⟩ => by
    refine ⟨G, w, as, rel, ?_⟩
    have h' : (match mRng2 mr w with
      | .ok ds w' => ∀ J G' H' as', Rel R H0 G0 G' w' σ H' as' → Ext as G H G' H' → (∀ a ∈ as', a ∈ as) → Walks R J ds G' → Q J H'
      | .ex x w' => ∀ cls d G' H' as', Rel R H0 G0 G' w' σ H' as' → ExcR R G' H' x cls d → Wx cls d σ H'
      | .bad => False) := h
    unfold mRng2 at h'
    cases e : mr w with
    | bad => rw [e] at h'; exact h'
    | ex x w1 => rw [e] at h'; exact h'
    | ok ds w1 =>
      rw [e] at h'
      intro vs G' H' as' rel' ext sub ls
      cases ls with
      | nil => exact h'.elim
      | @cons d ds v vs l ls =>
        cases ls with
        | nil => cases d <;> exact h'.elim
        | @cons d2 ds2 v2 vs2 l2 ls =>
          cases ls with
          | cons _ _ => cases d <;> cases d2 <;> exact h'.elim
          | nil =>
            cases d with
            | int i =>
              cases d2 with
              | int j =>
                cases l.int
                cases l2.int
                by_cases c : -(2 ^ 62) ≤ i ∧ i < 2 ^ 62 ∧ -(2 ^ 62) ≤ j ∧ j < 2 ^ 62
                · simp only [c, and_self, if_true] at h'
                  exact ⟨i, j, rfl, c, h' _ G' H' as' rel' ext sub walks_range⟩
                · have h2 : (match (if -(2 ^ 62) ≤ i ∧ i < 2 ^ 62 ∧ -(2 ^ 62) ≤ j ∧ j < 2 ^ 62 then RL.ok (rngD i j) w1 else .bad) with
                    | .ok ds w' => ∀ J G' H' as', Rel R H0 G0 G' w' σ H' as' → Ext as G H G' H' → (∀ a ∈ as', a ∈ as) → Walks R J ds G' → Q J H'
                    | .ex x w' => ∀ cls d G' H' as', Rel R H0 G0 G' w' σ H' as' → ExcR R G' H' x cls d → Wx cls d σ H'
                    | .bad => False) := h'
                  rw [if_neg c] at h2; exact h2.elim
              | _ => exact h'.elim
            | _ => cases d2 <;> exact h'.elim⟩
end
end DB

set_option Elab.async false
set_option linter.all false
set_option maxRecDepth 100000
set_option maxHeartbeats 4000000
namespace DB
open PySem PySem.Spec PyProof.Rows L2
section
variable {R R' : RC} {H0 H H' H1 : Hp} {G0 G G' G1 : Wd} {w w' w1 : W} {σ : L2.St} {as as' as1 bs : List Addr} {Wx : WX} {X : Cx}
  {a b c e tg iter : Expr} {ma mb mc m : ME} {pos : Pos} {es : List Expr} {st : Stmt} {rest body orelse : List Stmt} {m1 m2 ms : MS} {mr : MA}

/-! a list outside of all that is known is changed -/
theorem tabs_upd {T : List (Addr × Str)} {p : Addr} {xs : List V} {o : HO} (t : LamX.Tabs T H) (h : H p = some (.lst xs)) : LamX.Tabs T (upd H p o) := fun q hq => by
  obtain ⟨ps, h1, h2, h3⟩ := t q hq
  refine ⟨ps, by rw [upd_ne (ne_of h1 h (by intro z; cases z))]; exact h1, h2, fun pos cv hc => ?_⟩
  obtain ⟨c, e1, e2⟩ := h3 pos cv hc
  exact ⟨c, e1, by rw [upd_ne (ne_of e2 h (by intro z; unfold LamX.CodeO at z; cases z))]; exact e2⟩
theorem Bas.out {S : List Cell} {p : Addr} {xs : List V} {o : HO} (b : Bas R H0 G0 G S H) (h : H p = some (.lst xs)) (hz : G.Z p = none) (hs : p ∉ G.sas) (h0 : H0 p = none) : Bas R H0 G0 G S (upd H p o) where
  cells := ⟨b.cells.1, fun n c q h1 h2 => (b.cells.2 n c q h1 h2).mono (.refl _) (upd_ne fun z => hs (by rw [← z]; exact List.mem_of_getElem? h2))⟩
  nd := b.nd
  free := b.free
  sub := fun q u e => by
    rw [upd_ne (fun z => by rw [z, hz] at e; cases e)]
    exact b.sub q u e
  tabs := tabs_upd b.tabs h
  ext := ⟨b.ext.le, fun q u e t hq => by rw [upd_ne (ne_of_none e h0)]; exact b.ext.keep q u e t hq, b.ext.newZ, b.ext.newS, fun q e => by
    by_cases z : q = p
    · rw [z]; exact h0
    · rw [upd_ne z] at e; exact b.ext.dom q e⟩
theorem Rel.out {p : Addr} {xs : List V} {o : HO} (r : Rel R H0 G0 G w σ H as) (h : H p = some (.lst xs)) (hz : G.Z p = none) (hs : p ∉ G.sas) (ha : p ∉ as) (h0 : H0 p = none) : Rel R H0 G0 G w σ (upd H p o) as where
  env := r.env.mono (.refl _) fun q hq u e => by rw [upd_ne (fun z => ha (by rw [← z]; exact hq))]; exact e
  bas := r.bas.out h hz hs h0
  nd := r.nd
  free := r.free
  fresh := r.fresh

/-! one's own list in a slot is changed -/
theorem Rel.mut {i : Nat} {ds ds' : List D} {p : Addr} {xs xs' : List V} (r : Rel R H0 G0 G w σ H as) (e : w.env[i]? = some (.own ds)) (es : σ[i]? = some (some (.ref p))) (hp : H p = some (.lst xs)) (rs' : Rps R G ds' xs') :
    ∃ as', Rel R H0 G0 G (w.put i (.own ds')) σ (upd H p (.lst xs')) as' := by
  obtain ⟨o, bs, cs, e1, e2, e3, e4, e5⟩ := r.env.at e
  rw [es] at e1
  cases e1
  cases e2 with
  | own hp' rs0 =>
    have hpa : p ∈ as := (e3 p).mpr (.inl (List.mem_singleton.mpr rfl))
    obtain ⟨n1, n2, n3⟩ := List.nodup_append.mp r.nd
    have hz := r.free p hpa
    have hs : p ∉ G.sas := fun z => n3 p hpa p z rfl
    obtain ⟨_, _, dj⟩ := e4 n1
    have hc : p ∉ cs := dj p (List.mem_singleton.mpr rfl)
    have h0 := r.fresh p hpa
    obtain ⟨as', q1, q2, q3⟩ := e5 (G' := G) (H' := upd H p (.lst xs')) (r' := .own ds') (o' := some (.ref p)) (bs' := [p]) (.refl G) (fun a ha u hu => by rw [upd_ne (fun z => hc (by rw [← z]; exact ha))]; exact hu) (.own upd_same rs') (fun a ha => by rw [List.mem_singleton.mp ha]; exact hc) (by simp)
    rw [set_same es] at q1
    have sub : ∀ a ∈ as', a ∈ as := fun a ha => (e3 a).mpr ((q2 a).mp ha)
    exact ⟨as', q1, r.bas.out hp hz hs h0, List.nodup_append.mpr ⟨q3 n1, n2, fun a ha b hb z => n3 a (sub a ha) b hb z⟩, fun a ha => r.free a (sub a ha), fun a ha => r.fresh a (sub a ha)⟩
/-- the slot's list, as it stands -/
theorem Rel.ownAt {i : Nat} {ds : List D} (r : Rel R H0 G0 G w σ H as) (e : w.env[i]? = some (.own ds)) : ∃ p xs, σ[i]? = some (some (.ref p)) ∧ H p = some (.lst xs) ∧ Rps R G ds xs := by
  obtain ⟨o, bs, cs, e1, e2, e3, e4, e5⟩ := r.env.at e
  cases e2 with
  | own hp rs => exact ⟨_, _, e1, hp, rs⟩

/-- a value as data in a statement -/
def Res.sdd (r : Res) (k : D → W → RS) : RS := r.sd fun v w => match v.frz with
  | some x => k x w
  | none => .bad
theorem lift_sdd {k : D → W → RS} {D' : Ends} {Q : VK} (rel : Rel R H0 G0 G w σ H as) (h : PostS R H0 G0 Wx G ((m w).sdd k) D')
    (c : ∀ x v G1 H1 as1 w1, Rel R H0 G0 G1 w1 σ H1 as1 → Ext as G H G1 H1 → (∀ a ∈ as1, a ∈ as) → Rp R G1 x v → PostS R H0 G0 Wx G1 (k x w1) D' → Q v H1) : liftE R Wx H0 G0 m σ H Q := by
  refine lift_sd rel h fun rv v G1 H1 as1 bs w1 rel1 ext sub sl lo fr h1 => ?_
  have h' : PostS R H0 G0 Wx G1 (match rv.frz with
    | some x => k x w1
    | none => .bad) D' := h1
  cases ef : rv.frz with
  | none => rw [ef] at h'; exact h'.elim
  | some x =>
    rw [ef] at h'
    obtain ⟨G2, rel2, ext2, rp⟩ := frz_tmp rel1 sl lo ef
    exact c x v G2 H1 as1 w1 rel2 (ext.trans fr ext2) sub rp (PostS.up h' ext2.le)

/-! xs.append(e), xs[k] = e, xs[k] op= e -/
def appRS (i : Nat) (y : D) (w : W) : RS := match w.env[i]? with
  | some (.own ds) => if ds.length < sizeLine then .nx (w.put i (.own (ds ++ [y]))) else .bad
  | _ => .bad
def hasOwn (w : W) (i : Nat) : Bool := match w.env[i]? with
  | some (.own _) => true
  | _ => false
def mApp (i : Nat) (m : ME) : MS := fun w => if hasOwn w i = true then (m w).sdd (appRS i) else .bad
theorem hasOwn_at {i : Nat} (h : hasOwn w i = true) : ∃ ds, w.env[i]? = some (.own ds) := by
  unfold hasOwn at h
  cases e : w.env[i]? with
  | none => rw [e] at h; cases h
  | some r => rw [e] at h; cases r <;> first | exact ⟨_, rfl⟩ | cases h
theorem sm_app (i : Nat) {x : Str} {p apos epos : Pos} (hN : X.N[i]? = some x := by rfl) (hv : Vis X.env.scope x := by first | exact Or.inl rfl | exact Or.inr (Or.inl rfl) | exact Or.inr (Or.inr rfl)) (he : PEm X R Wx e m) (hd : (x == ("__debug__" : Str)) = false := by decide)
    (hcd : (x == ("__classdict__" : Str)) = false := by decide) (hbase : attributeBase (.Name x p) "append" X.env (eval (.Name x p) X.env) = eval (.Name x p) X.env := by rfl)
    (hfew : ((backTo pos (starEach [e] X.env)).all (fun x => !x.1) && (backToKw pos (keywordEach [] X.env)).all (fun x => x.1.isSome)
      && decide (([e] : List Expr).length + ([] : List Keyword).length + (if ([] : List Keyword).isEmpty then 0 else 1) < 30)) = true := by rfl)
    (hline : (apos.endLine == pos.line) = true := by rfl) (hs : starEach [e] X.env = (false, eval e X.env) :: starEach [] X.env := by rfl) (hplain : (backTo pos (starEach [] X.env)).any (·.1) = false := by rfl)
    (hsw : swapsWith (.Call (.Attribute (.Name x p) "append" apos) [e] [] pos) none epos.line X.env = pure false := by rfl) :
    PSm X R Wx (.Expr (.Call (.Attribute (.Name x p) "append" apos) [e] [] pos) epos) (mApp i m) :=
  ⟨fun H0 G0 => PS.cons (ps_expr (pe_bm PySem.F.plainAttrs_list PySem.F.slot_list_append PySem.F.type_list_append mt_append (pe_var hN hv hd hcd) (pa_cons (he.pe H0 G0) pa_nil hs) hbase hfew hline hs hplain) hsw) fun D' σ H ⟨G, w, as, rel, h⟩ => by
    have h' : PostS R H0 G0 Wx G (mApp i m w) D' := h
    unfold mApp at h'
    by_cases ho : hasOwn w i = true
    · rw [if_pos ho] at h'
      obtain ⟨ds0, e0⟩ := hasOwn_at ho
      obtain ⟨p0, xs0, es0, hp0, _⟩ := rel.ownAt e0
      refine ⟨_, es0, .inl ⟨rfl, _, .inl (.inl hp0)⟩, ?_⟩
      show liftE R Wx H0 G0 m σ H _
      refine lift_sdd rel h' fun y v G1 H1 as1 w1 rel1 ext sub rp h1 => ?_
      unfold appRS at h1
      cases e1 : w1.env[i]? with
      | none => rw [e1] at h1; exact h1.elim
      | some r =>
        rw [e1] at h1
        cases r with
        | own ds =>
          obtain ⟨p1, xs, es1, hp1, rs⟩ := rel1.ownAt e1
          rw [es0] at es1
          cases es1
          by_cases c : ds.length < sizeLine
          · simp only [c, if_true] at h1
            obtain ⟨as2, rel2⟩ := rel1.mut e1 es0 hp1 (rs.append (.cons rp .nil))
            exact ⟨_, xs, v, rfl, rfl, hp1, by rw [← rs.length]; exact c, h1 σ G1 _ as2 rel2 (.refl _)⟩
          · have h2 : PostS R H0 G0 Wx G1 (if ds.length < sizeLine then .nx (w1.put i (.own (ds ++ [y]))) else .bad) D' := h1
            rw [if_neg c] at h2; exact h2.elim
        | _ => exact h1.elim
    · rw [if_neg ho] at h'; exact h'.elim⟩
def setIx (i : Nat) (y k : D) (w : W) : RS := match k, w.env[i]? with
  | .int j, some (.own ds) => match ixN ds.length j with
    | some n => .nx (w.put i (.own (ds.set n y)))
    | none => .bad
  | _, _ => .bad
def mSetIx (i : Nat) (mk m : ME) : MS := fun w => (m w).sdd fun y w1 => if hasOwn w1 i = true then (mk w1).sdd fun k w2 => setIx i y k w2 else .bad
theorem sm_setIx (i : Nat) {x : Str} {k : Expr} {mk : ME} {p spos : Pos} (hN : X.N[i]? = some x := by rfl) (hv : Vis X.env.scope x := by first | exact Or.inl rfl | exact Or.inr (Or.inl rfl) | exact Or.inr (Or.inr rfl)) (hk : PEm X R Wx k mk) (he : PEm X R Wx e m) (hd : (x == ("__debug__" : Str)) = false := by decide)
    (hcd : (x == ("__classdict__" : Str)) = false := by decide) (hs : swapsWithSole [.Subscript (.Name x p) k spos] e pos.line X.env = pure false := by rfl) (hw : swappedStores [.Subscript (.Name x p) k spos] e X.env = pure none := by rfl)
    (h1 : (assignEach [.Subscript (.Name x p) k spos] X.env).map (·.2) = [assign (.Subscript (.Name x p) k spos) X.env] := by rfl)
    (hasg : ∀ v, assign (.Subscript (.Name x p) k spos) X.env v = (do
      let ov ← holding [v] (eval (.Name x p) X.env)
      let iv ← holding [v, ov] (eval k X.env)
      standAt spos
      holding [v, ov, iv] (setItem ov iv v)
      release [v, ov, iv] []) := by intro _; rfl) :
    PSm X R Wx (.Assign [.Subscript (.Name x p) k spos] e pos) (mSetIx i mk m) :=
  ⟨fun H0 G0 => PS.cons (ps_asg (he.pe H0 G0) (pg_sub (pe_var hN hv hd hcd) (hk.pe H0 G0) set_list hasg) hs hw h1) fun D' σ H ⟨G, w, as, rel, h⟩ => by
    refine lift_sdd rel h fun y v G1 H1 as1 w1 rel1 ext sub rp h1 => ?_
    by_cases ho : hasOwn w1 i = true
    · rw [if_pos ho] at h1
      obtain ⟨ds0, e0⟩ := hasOwn_at ho
      obtain ⟨p0, xs0, es0, hp0, _⟩ := rel1.ownAt e0
      refine ⟨_, es0, ?_⟩
      refine lift_sdd rel1 h1 fun kk vk G2 H2 as2 w2 rel2 ext2 sub2 rpk h2 => ?_
      unfold setIx at h2
      cases e1 : w2.env[i]? with
      | none => rw [e1] at h2; cases kk <;> exact h2.elim
      | some r =>
        rw [e1] at h2
        cases kk with
        | int j =>
          cases rpk
          cases r with
          | own ds =>
            obtain ⟨p1, xs, es1, hp1, rs⟩ := rel2.ownAt e1
            rw [es0] at es1
            cases es1
            cases en : ixN ds.length j with
            | none => simp only [en] at h2; exact h2.elim
            | some n =>
              simp only [en] at h2
              obtain ⟨as3, rel3⟩ := rel2.mut e1 es0 hp1 (rs.set (rp.mono ext2.le) n)
              exact ⟨_, xs, j, n, rfl, rfl, hp1, by rw [← rs.length]; exact en, h2 σ G2 _ as3 rel3 (.refl _)⟩
          | _ => exact h2.elim
        | _ => exact h2.elim
    · rw [if_neg ho] at h1; exact h1.elim⟩

/-! name op= e -/
def augRS (i : Nat) (g : D → D → Option RV) (x y : D) (w : W) : RS := match g x y with
  | some rv => setRV i rv w
  | none => .bad
def mAug (i : Nat) (g : D → D → Option RV) (m : ME) : MS := fun w => match w.env[i]? with
  | some (.d x) => (m w).sdd fun y w1 => augRS i g x y w1
  | _ => .bad
theorem sm_aug {i : Nat} {x : Str} {op : Operator} {g : D → D → Option RV} {pos' : Pos} (o : OpM X R (inplaceOp op) g) (hN : X.N.Nodup) (hi : X.N[i]? = some x) (hx : Loc X.env.scope x) (he : PEm X R Wx e m) (hf : X.fn x = true ∨ X.env.scope.names.lookup x = some .local := by first | exact .inl rfl | exact .inr rfl | assumption) :
    PSm X R Wx (.AugAssign (.Name x pos') op e pos) (mAug i g m) := by
  obtain ⟨r, ho, hv⟩ := o.ex
  refine ⟨fun H0 G0 => PS.cons (ps_aug hN hi hx (he.pe H0 G0) (ti := r) ho hf) fun D' σ H ⟨G, w, as, rel, h⟩ => ?_⟩
  have h' : PostS R H0 G0 Wx G (mAug i g m w) D' := h
  unfold mAug at h'
  cases e1 : w.env[i]? with
  | none => rw [e1] at h'; exact h'.elim
  | some rv =>
    rw [e1] at h'
    cases rv with
    | d x =>
      obtain ⟨o, bs, cs, e2, e3, _⟩ := rel.env.at e1
      cases e3 with
      | @d x v rx =>
        refine ⟨v, e2, ?_⟩
        refine lift_sdd rel h' fun y u G1 H1 as1 w1 rel1 ext sub ry h1 => ?_
        unfold augRS at h1
        cases eg : g x y with
        | none => rw [eg] at h1; exact h1.elim
        | some rv =>
          rw [eg] at h1
          refine hv rel1.bas.sub (.rp (rx.mono ext.le)) (.rp ry) eg fun z G2 H2 bs2 p sl lo => ?_
          have rel2 := rel1.pext p
          refine set_post rel2 sl (fun b hb => ?_) (PostS.up h1 p.le)
          obtain ⟨l1, l2⟩ := lo b hb
          refine ⟨l2, fun z => ?_, fun z => ?_, rel1.bas.ext.dom b l1⟩
          · rw [p.s] at z
            obtain ⟨u, hu⟩ := rel1.bas.cells.has b z
            rw [hu] at l1; cases l1
          · obtain ⟨u, hu⟩ := rel1.env.has b z
            rw [hu] at l1; cases l1
    | _ => exact h'.elim
def gIMul (x y : D) : Option RV := match x, y with
  | .int i, .int j => if CMul i j then iO (i * j) else none
  | _, _ => none
def gIAdd (x y : D) : Option RV := match x, y with
  | .int i, .int j => iO (i + j)
  | _, _ => none
theorem oi_add : OpM X R (inplaceOp .Add) gIAdd := by
  refine ⟨_, iop_add, fun {G H x y vx vy rv Q} s rx ry e h => ?_⟩
  unfold gIAdd at e
  split at e
  · cases rx.int; cases ry.int; cases e
    exact ⟨_, _, rfl, rfl, h.sc s .int⟩
  · cases e
theorem oi_sub : OpM X R (inplaceOp .Sub) gSub := by
  refine ⟨_, iop_sub, fun {G H x y vx vy rv Q} s rx ry e h => ?_⟩
  unfold gSub at e
  split at e
  · cases rx.int; cases ry.int; cases e
    exact ⟨_, _, rfl, rfl, h.sc s .int⟩
  · cases e
theorem oi_mul : OpM X R (inplaceOp .Mult) gIMul := by
  refine ⟨_, iop_mul, fun {G H x y vx vy rv Q} s rx ry e h => ?_⟩
  unfold gIMul at e
  split at e
  · cases rx.int; cases ry.int
    split at e
    · rename_i c; cases e
      exact ⟨_, _, rfl, rfl, c, h.sc s .int⟩
    · cases e
  · cases e
end
end DB

set_option Elab.async false
set_option linter.all false
set_option maxRecDepth 100000
set_option maxHeartbeats 4000000
namespace DB
open PySem PySem.Spec PyProof.Rows L2
section
variable {R R' : RC} {H0 H H' H1 : Hp} {G0 G G' G1 : Wd} {w w' w1 : W} {σ : L2.St} {as as' as1 bs : List Addr} {Wx : WX} {X : Cx}
  {a b c e tg iter : Expr} {ma mb mc m : ME} {pos : Pos} {es : List Expr} {st : Stmt} {rest body orelse : List Stmt} {m1 m2 ms : MS} {mr : MA}

/-! xs[k] op= e -/
theorem get_list : PGet X (rIxL X.K) := by
  intro pins s σ H x y v u Q I rx ry h
  obtain ⟨p, xs, i, z, rfl, rfl, hq, he, q⟩ := h
  cases rx
  obtain ⟨t, rfl⟩ := ry
  obtain ⟨its, r, pl, hz⟩ := I.list hq
  obtain ⟨j, h1, h2, h3, h4, h5⟩ := atI_get he
  obtain ⟨w, ew, rw'⟩ := r.get h2
  have hl := r.length
  have hn := line63
  have fin : EP X pins σ Q w s := ⟨z, H, I, rw', q⟩
  by_cases h0 : 0 ≤ i
  · have hj : i.toNat = j := by
      rw [seqIndex_of h0 h5] at h1
      exact Option.some.inj h1
    exact wpAny_getItem_list pl.isList h0 (by omega) (by rw [hj]; simpa using ew) fin
  · have hj : (i + (its.toArray.size : Int)).toNat = j := by
      rw [seqIndex_neg (by omega) h4] at h1
      rw [List.size_toArray, ← hl]
      exact Option.some.inj h1
    exact wpAny_getItem_list_neg pl.isList (by omega) (by rw [List.size_toArray] <;> omega) (by omega) (by rw [hj]; simpa using ew) fin
def augIx (i : Nat) (g : D → D → Option RV) (k x y : D) (w : W) : RS := match g x y with
  | some (.d z) => setIx i z k w
  | _ => .bad
def mAugIx (i : Nat) (g : D → D → Option RV) (mk m : ME) : MS := fun w => if hasOwn w i = true then (mk w).sdd fun k w1 => match k, w1.env[i]? with
    | .int j, some (.own ds) => match L2.atI ds j with
      | some x => (m w1).sdd fun y w2 => augIx i g k x y w2
      | none => .bad
    | _, _ => .bad
  else .bad
theorem setIx_post {i : Nat} {y k : D} {vy vk : V} {p : Addr} {D' : Ends} (rel : Rel R H0 G0 G w σ H as) (es : σ[i]? = some (some (.ref p))) (ry : Rp R G y vy) (rk : Rp R G k vk) (h : PostS R H0 G0 Wx G (setIx i y k w) D') :
    rSetL (.ref p) vk vy H fun H' => D'.nx σ H' := by
  unfold setIx at h
  cases e1 : w.env[i]? with
  | none => rw [e1] at h; cases k <;> exact h.elim
  | some r =>
    rw [e1] at h
    cases k with
    | int j =>
      cases rk
      cases r with
      | own ds =>
        obtain ⟨p1, xs, es1, hp1, rs⟩ := rel.ownAt e1
        rw [es] at es1
        cases es1
        cases en : ixN ds.length j with
        | none => simp only [en] at h; exact h.elim
        | some n =>
          simp only [en] at h
          obtain ⟨as3, rel3⟩ := rel.mut e1 es hp1 (rs.set ry n)
          exact ⟨_, xs, j, n, rfl, rfl, hp1, by rw [← rs.length]; exact en, h σ G _ as3 rel3 (.refl _)⟩
      | _ => exact h.elim
    | _ => exact h.elim
theorem sm_augIx (i : Nat) {x : Str} {k : Expr} {mk : ME} {p spos : Pos} {op : Operator} {g : D → D → Option RV} (o : OpM X R (inplaceOp op) g) (ag : Ag X R) (hN : X.N[i]? = some x := by rfl) (hv : Vis X.env.scope x := by first | exact Or.inl rfl | exact Or.inr (Or.inl rfl) | exact Or.inr (Or.inr rfl)) (hk : PEm X R Wx k mk) (he : PEm X R Wx e m) (hd : (x == ("__debug__" : Str)) = false := by decide)
    (hcd : (x == ("__classdict__" : Str)) = false := by decide) (ha : ∀ ov iv new, augStore k ov iv new = (do holding [new, ov, iv] (setItem ov iv new); release [new, ov, iv] []; pure .next) := by intros; rfl) :
    PSm X R Wx (.AugAssign (.Subscript (.Name x p) k spos) op e pos) (mAugIx i g mk m) := by
  obtain ⟨r, ho, hv2⟩ := o.ex
  refine ⟨fun H0 G0 => PS.cons (ps_augS (pe_var hN hv hd hcd) (hk.pe H0 G0) get_list (he.pe H0 G0) (tip := r) ho set_list ha) fun D' σ H ⟨G, w, as, rel, h⟩ => ?_⟩
  have h' : PostS R H0 G0 Wx G (mAugIx i g mk m w) D' := h
  unfold mAugIx at h'
  by_cases hw : hasOwn w i = true
  · rw [if_pos hw] at h'
    obtain ⟨ds0, e0⟩ := hasOwn_at hw
    obtain ⟨p0, xs0, es0, hp0, _⟩ := rel.ownAt e0
    refine ⟨_, es0, ?_⟩
    refine lift_sdd rel h' fun kk vk G1 H1 as1 w1 rel1 ext sub rpk h1 => ?_
    cases e1 : w1.env[i]? with
    | none => rw [e1] at h1; cases kk <;> exact h1.elim
    | some rv =>
      rw [e1] at h1
      cases kk with
      | int j =>
        cases rpk
        cases rv with
        | own ds =>
          obtain ⟨p1, xs, es1, hp1, rs⟩ := rel1.ownAt e1
          rw [es0] at es1
          cases es1
          cases ea : L2.atI ds j with
          | none => simp only [ea] at h1; exact h1.elim
          | some x =>
            simp only [ea] at h1
            obtain ⟨v, ev, rx⟩ := rs.atI ea
            refine ⟨_, xs, j, v, rfl, rfl, .inl (.inl hp1), ev, ?_⟩
            refine lift_sdd rel1 h1 fun y u G2 H2 as2 w2 rel2 ext2 sub2 ry h2 => ?_
            unfold augIx at h2
            cases eg : g x y with
            | none => rw [eg] at h2; exact h2.elim
            | some rz =>
              rw [eg] at h2
              cases rz with
              | d z =>
                refine hv2 rel2.bas.sub (.rp (rx.mono ext2.le)) (.rp ry) eg fun vz G3 H3 bs2 p sl lo => ?_
                cases sl with
                | d rz => exact setIx_post (rel2.pext p) es0 rz .int (PostS.up h2 p.le)
              | _ => exact h2.elim
        | _ => exact h1.elim
      | _ => exact h1.elim
  · rw [if_neg hw] at h'; exact h'.elim

/-! built-in functions -/
theorem Lives.one {x : D} {vs : List V} (l : Lives R G H [x] vs) : ∃ v, vs = [v] ∧ Live R G H x v := by
  cases l with
  | cons h t => cases t; exact ⟨_, rfl, h⟩
theorem Lives.two {x y : D} {vs : List V} (l : Lives R G H [x, y] vs) : ∃ v u, vs = [v, u] ∧ Live R G H x v ∧ Live R G H y u := by
  cases l with
  | cons h t => obtain ⟨u, rfl, h2⟩ := t.one; exact ⟨_, u, rfl, h, h2⟩
/-- a function of one value -/
def g1 (g : D → Option RV) (xs : List D) : Option RV := match xs with
  | [x] => g x
  | _ => none
def g2 (g : D → D → Option RV) (xs : List D) : Option RV := match xs with
  | [x, y] => g x y
  | _ => none
theorem Live.seq {ds : List D} {v : V} {x : D} (l : Live R G H x v) (s : Same G.Z H) (h : (x = .lst ds ∨ x = .scr ds) ∨ x = .tup ds) : ∃ p xs, v = .ref p ∧ (SqL R.K H p xs ∨ SqT R.K H p xs) ∧ Rps R G ds xs := by
  rcases h with (rfl | rfl) | rfl
  · obtain ⟨p, xs, e, h, r⟩ := l.lst s; exact ⟨p, xs, e, .inl (.inl (.inl h)), r⟩
  · cases l with
    | rp r => cases r with
      | scr h r => exact ⟨_, _, rfl, .inl (Same.seq s h), r⟩
  · obtain ⟨p, xs, e, h, r, _⟩ := l.tup s; exact ⟨p, xs, e, .inr h, r⟩
def gLen (x : D) : Option RV := match x with
  | .lst ds => iO ds.length
  | .scr ds => iO ds.length
  | .tup ds => iO ds.length
  | .str z => if z.length ≤ sizeLine then iO z.length else none
  | _ => none
theorem CallR.or {f : Value} {r r' : List V → Hp → VK → Prop} (h : CallR X f r) (h' : CallR X f r') : CallR X f (fun xs H Q => r xs H Q ∨ r' xs H Q) := by
  intro pins s σ H xs us Q I rx q
  rcases q with q | q
  · exact h pins s σ H xs us Q I rx q
  · exact h' pins s σ H xs us Q I rx q
theorem g1_inv {g : D → Option RV} {xs : List D} {rv : RV} (e : g1 g xs = some rv) : ∃ x, xs = [x] ∧ g x = some rv := by
  unfold g1 at e
  split at e
  · exact ⟨_, rfl, e⟩
  · cases e
theorem g2_inv {g : D → D → Option RV} {xs : List D} {rv : RV} (e : g2 g xs = some rv) : ∃ x y, xs = [x, y] ∧ g x y = some rv := by
  unfold g2 at e
  split at e
  · exact ⟨_, _, rfl, e⟩
  · cases e
theorem cm_len (ag : Ag X R) : CalM X R (.builtin "len") (g1 gLen) := by
  refine ⟨_, call_len_seq.or call_len_str, fun {G H xs vs rv Q} s ls e h => ?_⟩
  obtain ⟨x, rfl, e2⟩ := g1_inv e
  clear e
  have e := e2
  clear e2
  obtain ⟨v, rfl, l⟩ := ls.one
  have go : ∀ ds, ((x = .lst ds ∨ x = .scr ds) ∨ x = .tup ds) → iO ds.length = some rv → ∃ p ys, [v] = [V.ref p] ∧ (SqL X.K H p ys ∨ SqT X.K H p ys) ∧ Q (.int ys.length) H := fun ds hd e => by
    obtain ⟨p, ys, rfl, hs, rs⟩ := l.seq s hd
    cases e
    exact ⟨p, ys, rfl, by rw [ag.K]; exact hs, by rw [← rs.length]; exact h.sc s .int⟩
  unfold gLen at e
  split at e
  · exact .inl (go _ (.inl (.inl rfl)) e)
  · exact .inl (go _ (.inl (.inr rfl)) e)
  · exact .inl (go _ (.inr rfl) e)
  · split at e
    · rename_i c
      cases l.str
      cases e
      exact .inr ⟨_, rfl, c, h.sc s .int⟩
    · cases e
  · cases e
def gList (x : D) : Option RV := match x with
  | .lst ds => some (.own ds)
  | .scr ds => some (.own ds)
  | .tup ds => some (.own ds)
  | _ => none
def gTuple (x : D) : Option RV := match x with
  | .lst ds => some (.d (.tup ds))
  | .tup ds => some (.d (.tup ds))
  | _ => none
theorem cm_list (ag : Ag X R) : CalM X R (.type "list") (g1 gList) := by
  refine ⟨_, call_list_of, fun {G H xs vs rv Q} s ls e h => ?_⟩
  obtain ⟨x, rfl, e2⟩ := g1_inv e
  clear e
  have e := e2
  clear e2
  obtain ⟨v, rfl, l⟩ := ls.one
  have go : ∀ ds, ((x = .lst ds ∨ x = .scr ds) ∨ x = .tup ds) → some (RV.own ds) = some rv → ∃ p ys, [v] = [V.ref p] ∧ (SqL X.K H p ys ∨ SqT X.K H p ys) ∧ ∀ l, H l = none → Q (.ref l) (upd H l (.lst ys)) := fun ds hd e => by
    obtain ⟨p, ys, rfl, hs, rs⟩ := l.seq s hd
    cases e
    exact ⟨p, ys, rfl, by rw [ag.K]; exact hs, h.own s rs⟩
  unfold gList at e
  split at e
  · exact go _ (.inl (.inl rfl)) e
  · exact go _ (.inl (.inr rfl)) e
  · exact go _ (.inr rfl) e
  · cases e
theorem cm_tuple (ag : Ag X R) : CalM X R (.type "tuple") (g1 gTuple) := by
  refine ⟨_, call_tuple_of, fun {G H xs vs rv Q} s ls e h => ?_⟩
  obtain ⟨x, rfl, e2⟩ := g1_inv e
  clear e
  have e := e2
  clear e2
  obtain ⟨v, rfl, l⟩ := ls.one
  unfold gTuple at e
  split at e
  · obtain ⟨p, ys, rfl, hs, rs⟩ := l.lst s
    cases e
    exact ⟨p, ys, rfl, .inl ⟨.inl (.inl hs), h.tup s rs⟩⟩
  · obtain ⟨p, ys, rfl, hs, rs, rp⟩ := l.tup s
    cases e
    exact ⟨p, ys, rfl, .inr ⟨by rw [ag.K]; exact hs, h.sc s rp⟩⟩
  · cases e
def intsD : List D → Option (List Int)
  | [] => some []
  | .int i :: ds => (intsD ds).map (i :: ·)
  | _ :: _ => none
def blsD : List D → Option (List Bool)
  | [] => some []
  | .bl i :: ds => (blsD ds).map (i :: ·)
  | _ :: _ => none
theorem intsD_rp : ∀ {ds : List D} {ns : List Int} {vs : List V}, intsD ds = some ns → Rps R G ds vs → vs = ns.map V.int
  | [], ns, _, e, .nil => by cases e; rfl
  | .int i :: ds, ns, _, e, .cons r rs => by
    obtain ⟨ms, e1, rfl⟩ := Option.map_eq_some_iff.mp (show (intsD ds).map (i :: ·) = some ns from e)
    cases r
    rw [intsD_rp e1 rs] <;> rfl
theorem blsD_rp : ∀ {ds : List D} {ns : List Bool} {vs : List V}, blsD ds = some ns → Rps R G ds vs → vs = ns.map V.bl
  | [], ns, _, e, .nil => by cases e; rfl
  | .bl i :: ds, ns, _, e, .cons r rs => by
    obtain ⟨ms, e1, rfl⟩ := Option.map_eq_some_iff.mp (show (blsD ds).map (i :: ·) = some ns from e)
    cases r
    rw [blsD_rp e1 rs] <;> rfl
def gSum (x : D) : Option RV := match x with
  | .lst ds => (intsD ds).map fun ns => .d (.int ns.sum)
  | _ => none
def gAny (x : D) : Option RV := match x with
  | .lst ds => (blsD ds).map fun ns => .d (.bl (ns.any id))
  | _ => none
def gAll (x : D) : Option RV := match x with
  | .lst ds => (blsD ds).map fun ns => .d (.bl (ns.all id))
  | _ => none
theorem cm_sum (hc : X.calm = true) : CalM X R (.builtin "sum") (g1 gSum) := by
  refine ⟨_, cr_sum hc, fun {G H xs vs rv Q} s ls e h => ?_⟩
  obtain ⟨x, rfl, e2⟩ := g1_inv e
  clear e
  have e := e2
  clear e2
  obtain ⟨v, rfl, l⟩ := ls.one
  unfold gSum at e
  split at e
  · obtain ⟨p, ys, rfl, hs, rs⟩ := l.lst s
    obtain ⟨ns, e1, rfl⟩ := Option.map_eq_some_iff.mp e
    cases intsD_rp e1 rs
    exact ⟨p, ns, rfl, .inl (.inl hs), h.sc s .int⟩
  · cases e
theorem cm_any (hc : X.calm = true) : CalM X R (.builtin "any") (g1 gAny) := by
  refine ⟨_, cr_any hc, fun {G H xs vs rv Q} s ls e h => ?_⟩
  obtain ⟨x, rfl, e2⟩ := g1_inv e
  clear e
  have e := e2
  clear e2
  obtain ⟨v, rfl, l⟩ := ls.one
  unfold gAny at e
  split at e
  · obtain ⟨p, ys, rfl, hs, rs⟩ := l.lst s
    obtain ⟨ns, e1, rfl⟩ := Option.map_eq_some_iff.mp e
    cases blsD_rp e1 rs
    exact ⟨p, ns, rfl, .inl (.inl hs), h.sc s .bl⟩
  · cases e
theorem cm_all (hc : X.calm = true) : CalM X R (.builtin "all") (g1 gAll) := by
  refine ⟨_, cr_all hc, fun {G H xs vs rv Q} s ls e h => ?_⟩
  obtain ⟨x, rfl, e2⟩ := g1_inv e
  clear e
  have e := e2
  clear e2
  obtain ⟨v, rfl, l⟩ := ls.one
  unfold gAll at e
  split at e
  · obtain ⟨p, ys, rfl, hs, rs⟩ := l.lst s
    obtain ⟨ns, e1, rfl⟩ := Option.map_eq_some_iff.mp e
    cases blsD_rp e1 rs
    exact ⟨p, ns, rfl, .inl (.inl hs), h.sc s .bl⟩
  · cases e
def gMin2 (x y : D) : Option RV := match x, y with
  | .int i, .int j => iO (if j < i then j else i)
  | _, _ => none
def gMax2 (x y : D) : Option RV := match x, y with
  | .int i, .int j => iO (if j > i then j else i)
  | _, _ => none
theorem cm_min2 (hc : X.calm = true) : CalM X R (.builtin "min") (g2 gMin2) := by
  refine ⟨_, call_min2 hc, fun {G H xs vs rv Q} s ls e h => ?_⟩
  obtain ⟨x, y, rfl, e2⟩ := g2_inv e
  clear e
  have e := e2
  clear e2
  obtain ⟨v, u, rfl, l1, l2⟩ := ls.two
  unfold gMin2 at e
  split at e
  · cases l1.int; cases l2.int; cases e
    exact ⟨_, _, rfl, h.sc s .int⟩
  · cases e
theorem cm_max2 (hc : X.calm = true) : CalM X R (.builtin "max") (g2 gMax2) := by
  refine ⟨_, call_max2 hc, fun {G H xs vs rv Q} s ls e h => ?_⟩
  obtain ⟨x, y, rfl, e2⟩ := g2_inv e
  clear e
  have e := e2
  clear e2
  obtain ⟨v, u, rfl, l1, l2⟩ := ls.two
  unfold gMax2 at e
  split at e
  · cases l1.int; cases l2.int; cases e
    exact ⟨_, _, rfl, h.sc s .int⟩
  · cases e
def gInt (x : D) : Option RV := match x with
  | .int i => iO i
  | .bl k => iO (if k then 1 else 0)
  | _ => none
theorem cm_int : CalM X R (.type "int") (g1 gInt) := by
  refine ⟨_, call_int1, fun {G H xs vs rv Q} s ls e h => ?_⟩
  obtain ⟨x, rfl, e2⟩ := g1_inv e
  clear e
  have e := e2
  clear e2
  obtain ⟨v, rfl, l⟩ := ls.one
  unfold gInt at e
  split at e
  · cases l.int; cases e
    exact .inl ⟨_, rfl, h.sc s .int⟩
  · cases l.bl; cases e
    exact .inr ⟨_, rfl, h.sc s .int⟩
  · cases e
/-! isinstance -/
def tyN : D → String
  | .non => "NoneType"
  | .bl _ => "bool"
  | .int _ => "int"
  | .str _ => "str"
  | .tup _ => "tuple"
  | .lst _ => "list"
  | .scr _ => "list"
  | _ => ""
def isTyN (T n : String) : Bool := n == T || (n == "bool" && T == "int")
def isTy (T : String) (x : D) : Bool := isTyN T (tyN x)
def hasTy (x : D) : Bool := tyN x != ""
theorem Live.ty {x : D} {v : V} (l : Live R G H x v) (s : Same G.Z H) (hy : hasTy x = true) : TyX R.K H v (.type (tyN x)) := by
  have t : ∀ {p xs}, SqT R.K H p xs → TyX R.K H (.ref p) (.type "tuple") := fun {p xs} q => by
    rcases q with (q | ⟨o, q⟩) | ⟨o, its, n, q, hc, _⟩
    · exact .base (.tup q)
    · exact .fTuple q
    · exact .kTuple q hc
  have t2 : ∀ {p xs}, SqL R.K H p xs → TyX R.K H (.ref p) (.type "list") := fun {p xs} q => by
    rcases q with (q | ⟨o, q⟩) | ⟨o, its, n, q, hc, _⟩
    · exact .base (.lst q)
    · exact .base (.frz q)
    · exact .kList q hc
  cases l with
  | own h _ _ => exact .base (.lst h)
  | odic _ _ _ _ => cases hy
  | rp r =>
    cases r with
    | non => exact .base .non
    | bl => exact .base (.bl _)
    | int => exact .base (.int _)
    | str => exact .base (.str _)
    | tup h _ => exact t (Same.seqT s h)
    | lst h _ => exact .base (.lst (s _ _ h))
    | scr h _ => exact t2 (Same.seq s h)
    | dic _ _ _ => cases hy
    | obj _ _ _ _ => cases hy
    | cell _ => cases hy
def mIsi (T : String) (m : ME) : ME := fun w => (m w).bd fun x w1 => if hasTy x = true then .ok (.d (.bl (isTy T x))) w1 else .bad
theorem kit_all : ∀ T ∈ ["int", "bool", "str", "tuple", "list"], ∀ n ∈ ["NoneType", "bool", "int", "str", "tuple", "list"], kitB n T = some (isTyN T n) := by decide +kernel
theorem tyN_mem {x : D} (h : hasTy x = true) : tyN x ∈ ["NoneType", "bool", "int", "str", "tuple", "list"] := by
  cases x <;> first | (cases h; done) | simp [tyN]
theorem kit_D {K : PySem.W.Frag} {T : String} (hT : T ∈ ["int", "bool", "str", "tuple", "list"]) (x : D) (h : hasTy x = true) : PySem.W.kitOne K (.type (tyN x)) (.type T) = some (isTy T x) := kit_ty (kit_all T hT _ (tyN_mem h))
theorem em_isi {T : String} {t : Str} {p p2 : Pos} (ag : Ag X R) (hT : T ∈ ["int", "bool", "str", "tuple", "list"]) (hg : Gl X "isinstance") (hm : X.mg "isinstance" = none) (hg2 : Gl X t) (hm2 : X.mg t = none) (hv2 : bootBuiltins t = some (.type T)) (ha : POm X R Wx a m)
    (hn2 : t ≠ "__name__" := by decide) (hd2 : (t == ("__debug__" : Str)) = false := by decide)
    (h1 : starEach [a, .Name t p2] X.env = (false, eval a X.env) :: starEach [.Name t p2] X.env := by rfl) (hpl : (backTo pos (starEach [.Name t p2] X.env)).any (·.1) = false := by rfl) :
    PEm X R Wx (.Call (.Name "isinstance" p) [a, .Name t p2] [] pos) (mIsi T m) :=
  ⟨fun H0 G0 => PE.cons (pe_callB call_isi hg hm (by decide +kernel) (pa_cons (ha.pe H0 G0) (pa_cons (pe_bltn hg2 hm2 hv2 (v := .ty T) rfl hn2 hd2) pa_nil) h1) (by decide) (by decide) h1 hpl) fun σ H Q ⟨G, w, as, rel, h⟩ => by
    refine lift_bo rel h fun v x G1 H1 as1 w1 rel1 ext lv h1 => ?_
    by_cases c : hasTy x = true
    · rw [if_pos c] at h1
      exact ⟨v, .ty T, .type (tyN x), .type T, isTy T x, rfl, .ty T, by rw [ag.K]; exact lv.ty rel1.bas.sub c, kit_D hT x c, PostE.bl rel1 h1⟩
    · rw [if_neg c] at h1; exact h1.elim⟩
end
end DB

set_option Elab.async false
set_option linter.all false
set_option maxRecDepth 100000
set_option maxHeartbeats 4000000
namespace DB
open PySem PySem.Spec PyProof.Rows L2
section
variable {R R' : RC} {H0 H H' H1 : Hp} {G0 G G' G1 : Wd} {w w' w1 : W} {σ σ' : L2.St} {as as' as1 bs : List Addr} {Wx : WX} {X : Cx}
  {a b c e elt tg iter : Expr} {ma mb mc m : ME} {pos : Pos} {es ifs : List Expr} {st : Stmt} {rest body orelse : List Stmt} {m1 m2 ms : MS} {mr : MA}

/-! a comprehension's own slots -/
def plainRV : RV → Bool
  | .un => true
  | .d _ => true
  | _ => false
def okVs (env : List RV) (vs : List Nat) : Bool := vs.all fun v => match env[v]? with
  | some r => plainRV r
  | none => true
def wipeE (env : List RV) : List Nat → List RV
  | [] => env
  | v :: vs => (wipeE env vs).set v .un
def mixE (env env' : List RV) : List Nat → List RV
  | [] => env'
  | v :: vs => match env[v]? with
    | some r => (mixE env env' vs).set v r
    | none => mixE env env' vs
theorem RSlot.plain {r : RV} {o : Option V} (s : RSlot R G H r o bs) (h : plainRV r = true) : bs = [] := by
  cases s <;> first | rfl | cases h
/-- setting a plain slot to a plain one -/
theorem REnv.setP {l : List RV} {v : Nat} {r : RV} {o : Option V} (s : REnv R G H l σ as) (hp : ∀ r0, l[v]? = some r0 → plainRV r0 = true) (sl : RSlot R G H r o []) :
    ∃ as', REnv R G H (l.set v r) (σ.set v o) as' ∧ (∀ a, a ∈ as' ↔ a ∈ as) ∧ (as.Nodup → as'.Nodup) := by
  cases e : l[v]? with
  | none =>
    have h1 : l.length ≤ v := List.getElem?_eq_none_iff.mp e
    have h2 : σ.length ≤ v := by rw [← s.len]; exact h1
    rw [List.set_eq_of_length_le h1, List.set_eq_of_length_le h2]
    exact ⟨as, s, fun _ => .rfl, id⟩
  | some r0 =>
    obtain ⟨o1, bs1, cs, e1, e2, e3, e4, e5⟩ := s.at e
    have hb := e2.plain (hp r0 e)
    subst hb
    obtain ⟨as', q1, q2, q3⟩ := e5 (.refl G) (fun _ _ _ h => h) sl (by simp) List.nodup_nil
    exact ⟨as', q1, fun a => (q2 a).trans (e3 a).symm, q3⟩
/-- dropping an own slot's list, setting a plain one -/
theorem REnv.setD {l : List RV} {v : Nat} {r : RV} {o : Option V} (s : REnv R G H l σ as) (sl : RSlot R G H r o []) :
    ∃ as', REnv R G H (l.set v r) (σ.set v o) as' ∧ (∀ a, a ∈ as' → a ∈ as) ∧ (as.Nodup → as'.Nodup) := by
  cases e : l[v]? with
  | none =>
    have h1 : l.length ≤ v := List.getElem?_eq_none_iff.mp e
    have h2 : σ.length ≤ v := by rw [← s.len]; exact h1
    rw [List.set_eq_of_length_le h1, List.set_eq_of_length_le h2]
    exact ⟨as, s, fun _ h => h, id⟩
  | some r0 =>
    obtain ⟨o1, bs1, cs, e1, e2, e3, e4, e5⟩ := s.at e
    obtain ⟨as', q1, q2, q3⟩ := e5 (.refl G) (fun _ _ _ h => h) sl (by simp) List.nodup_nil
    exact ⟨as', q1, fun a ha => ((q2 a).mp ha).elim (fun z => by simp at z) fun z => (e3 a).mpr (.inr z), q3⟩
theorem wipeE_get {l : List RV} {v : Nat} {r0 : RV} (hv : ∀ r, l[v]? = some r → plainRV r = true) : ∀ {vs : List Nat}, (wipeE l vs)[v]? = some r0 → plainRV r0 = true
  | [], h => hv _ h
  | u :: vs, h => by
    unfold wipeE at h
    rw [List.getElem?_set] at h
    split at h
    · split at h
      · cases h; rfl
      · cases h
    · exact wipeE_get hv h
theorem REnv.wipe {l : List RV} (s : REnv R G H l σ as) : ∀ {vs : List Nat}, okVs l vs = true → ∃ as', REnv R G H (wipeE l vs) (L2.wipe σ vs) as' ∧ (∀ a, a ∈ as' ↔ a ∈ as) ∧ (as.Nodup → as'.Nodup)
  | [], _ => ⟨as, s, fun _ => .rfl, id⟩
  | v :: vs, h => by
    have h' : (match l[v]? with | some r => plainRV r | none => true) = true ∧ okVs l vs = true := by
      unfold okVs at h ⊢
      rw [List.all_cons, Bool.and_eq_true] at h
      exact h
    obtain ⟨as1, q1, q2, q3⟩ := REnv.wipe s h'.2
    obtain ⟨as2, p1, p2, p3⟩ := q1.setP (v := v) (r := .un) (o := none) (fun r0 e => wipeE_get (fun r er => by rw [er] at h'; exact h'.1) e) .un
    exact ⟨as2, p1, fun a => (p2 a).trans (q2 a), fun n => p3 (q3 n)⟩
def mixS (σ σ' : L2.St) : List Nat → L2.St
  | [] => σ'
  | v :: vs => match σ[v]? with
    | some o => (mixS σ σ' vs).set v o
    | none => mixS σ σ' vs
theorem REnv.mix {l l' : List RV} (s0 : REnv R G H l σ as) (le : Wle G G') (s : REnv R G' H' l' σ' as') : ∀ {vs : List Nat}, okVs l vs = true → ∃ as2, REnv R G' H' (mixE l l' vs) (mixS σ σ' vs) as2 ∧ (∀ a, a ∈ as2 → a ∈ as') ∧ (as'.Nodup → as2.Nodup)
  | [], _ => ⟨as', s, fun _ h => h, id⟩
  | v :: vs, h => by
    have h' : (match l[v]? with | some r => plainRV r | none => true) = true ∧ okVs l vs = true := by
      unfold okVs at h ⊢
      rw [List.all_cons, Bool.and_eq_true] at h
      exact h
    obtain ⟨as1, q1, q2, q3⟩ := REnv.mix s0 le s h'.2
    cases e : l[v]? with
    | none =>
      have h1 : l.length ≤ v := List.getElem?_eq_none_iff.mp e
      have e2 : σ[v]? = none := List.getElem?_eq_none_iff.mpr (by rw [← s0.len]; exact h1)
      refine ⟨as1, ?_, q2, q3⟩
      show REnv R G' H' (match l[v]? with | some r => (mixE l l' vs).set v r | none => mixE l l' vs) (match σ[v]? with | some o => (mixS σ σ' vs).set v o | none => mixS σ σ' vs) as1
      rw [e, e2]
      exact q1
    | some r =>
      rw [e] at h'
      obtain ⟨o, bs, cs, e1, e2, _⟩ := s0.at e
      have hb := e2.plain h'.1
      subst hb
      have sl : RSlot R G' H' r o [] := e2.mono le (by simp)
      obtain ⟨as2, p1, p2, p3⟩ := q1.setD (v := v) sl
      refine ⟨as2, ?_, fun a ha => q2 a (p2 a ha), fun n => p3 (q3 n)⟩
      show REnv R G' H' (match l[v]? with | some r => (mixE l l' vs).set v r | none => mixE l l' vs) (match σ[v]? with | some o => (mixS σ σ' vs).set v o | none => mixS σ σ' vs) as2
      rw [e, e1]
      exact p1
theorem wipe_get {σ : L2.St} : ∀ {vs : List Nat} {j : Nat}, (L2.wipe σ vs)[j]? = if j ∈ vs then σ[j]?.map (fun _ => none) else σ[j]?
  | [], j => by simp [L2.wipe]
  | v :: vs, j => by
    unfold L2.wipe
    rw [List.getElem?_set, wipe_get (vs := vs) (j := j), L2.wipe_length]
    by_cases h : v = j
    · subst h
      simp only [List.mem_cons, true_or, if_true]
      by_cases h2 : v < σ.length
      · rw [if_pos h2, List.getElem?_eq_getElem h2] <;> rfl
      · rw [if_neg h2, List.getElem?_eq_none_iff.mpr (Nat.le_of_not_lt h2)] <;> rfl
    · have hj : (j ∈ v :: vs) = (j ∈ vs) := by
        simp only [List.mem_cons, eq_iff_iff]
        exact ⟨fun z => z.elim (fun z => absurd z.symm h) id, .inr⟩
      rw [if_neg h]
      simp only [hj]
theorem wipe_but {vs : List Nat} (h : But vs (L2.wipe σ vs) σ') : L2.wipe σ' vs = L2.wipe σ vs := by
  refine List.ext_getElem? fun j => ?_
  rw [wipe_get, wipe_get]
  have hl : σ'.length = σ.length := by rw [h.1, L2.wipe_length]
  by_cases hj : j ∈ vs
  · rw [if_pos hj, if_pos hj]
    by_cases h2 : j < σ.length
    · rw [List.getElem?_eq_getElem h2, List.getElem?_eq_getElem (by rw [hl]; exact h2)] <;> rfl
    · rw [List.getElem?_eq_none_iff.mpr (Nat.le_of_not_lt h2), List.getElem?_eq_none_iff.mpr (by rw [hl]; exact Nat.le_of_not_lt h2)]
  · rw [if_neg hj, if_neg hj, h.2 j hj, wipe_get, if_neg hj]
theorem mixS_get {σ σ' : L2.St} (hl : σ'.length = σ.length) : ∀ {vs : List Nat} {j : Nat}, (mixS σ σ' vs)[j]? = if j ∈ vs then σ[j]? else σ'[j]?
  | [], j => by simp [mixS]
  | v :: vs, j => by
    have ll : ∀ us : List Nat, (mixS σ σ' us).length = σ.length := fun us => by
      induction us with
      | nil => exact hl
      | cons u us ih =>
        unfold mixS
        split
        · rw [List.length_set]; exact ih
        · exact ih
    unfold mixS
    by_cases h : v = j
    · subst h
      rw [if_pos List.mem_cons_self]
      split
      · rename_i o e
        have hv := (List.getElem?_eq_some_iff.mp e).1
        rw [List.getElem?_set_self (by rw [ll]; exact hv), e]
      · rename_i e
        have hv := List.getElem?_eq_none_iff.mp e
        rw [e, List.getElem?_eq_none_iff.mpr (by rw [ll]; exact hv)]
    · have hj : (j ∈ v :: vs) = (j ∈ vs) := by
        simp only [List.mem_cons, eq_iff_iff]
        exact ⟨fun z => z.elim (fun z => absurd z.symm h) id, .inr⟩
      simp only [hj]
      split
      · rw [List.getElem?_set_ne h, mixS_get hl]
      · rw [mixS_get hl]
theorem mixS_but {vs : List Nat} (h : But vs (L2.wipe σ vs) σ') : mixS σ σ' vs = σ := by
  refine List.ext_getElem? fun j => ?_
  rw [mixS_get (by rw [h.1, L2.wipe_length])]
  by_cases hj : j ∈ vs
  · rw [if_pos hj]
  · rw [if_neg hj, h.2 j hj, wipe_get, if_neg hj]

/-! the comprehension -/
def WN : WX := fun _ _ _ _ => False
/-- its turns -/
def lcL (vs : List Nat) (g : MG) (t e : ME) : List D → List D → W → Res
  | [], acc, w => .ok (.own acc) w
  | d :: ds, acc, w => if okVs w.env vs = true then match g d { w with env := wipeE w.env vs } with
      | none => .bad
      | some w1 => match t w1 with
        | .ok (.d (.bl true)) w2 => match (e w2).bd fun x w3 => .ok (.d x) w3 with
          | .ok (.d x) w3 => if acc.length < sizeLine then lcL vs g t e ds (acc ++ [x]) { w3 with env := mixE w.env w3.env vs } else .bad
          | _ => .bad
        | .ok (.d (.bl false)) w2 => lcL vs g t e ds acc { w2 with env := mixE w.env w2.env vs }
        | _ => .bad
    else .bad
def mLc (vs : List Nat) (mi : MA) (g : MG) (t e : ME) : ME := fun w => match mi w with
  | .ok ds w1 => lcL vs g t e ds [] w1
  | .ex x w1 => .ex x w1
  | .bad => .bad
/-- a clause's tests -/
structure PTsm (X : Cx) (R : RC) (Wx : WX) (ifs : List Expr) (m : ME) : Prop where
  pe : ∀ H0 G0, PTs X ifs (liftT R Wx H0 G0 m)
theorem PTs.cons {X : Cx} {e : List Expr} {t t' : TT} (h : PTs X e t) (c : ∀ σ H Q, t' σ H Q → t σ H Q) : PTs X e t' := ⟨fun pins s σ H Q I q => h.run pins s σ H Q I (c σ H Q q)⟩
theorem tsm_nil : PTsm X R Wx [] mT := ⟨fun H0 G0 => PTs.cons pts_nil fun σ H Q ⟨G, w, as, rel, h⟩ => h G H as rel (.refl _ _ _) fun _ h => h⟩
theorem tsm_one (h : PTm X R Wx c m) : PTsm X R Wx [c] m := ⟨fun H0 G0 => pts_one (h.pe H0 G0)⟩

/-- behind a turn: the def's slots again -/
theorem Rel.turn {vs : List Nat} {w2 : W} (r0 : Rel R H0 G0 G w σ H as) (ok : okVs w.env vs = true) (le : Wle G G') (bt : But vs (L2.wipe σ vs) σ') (r : Rel R H0 G0 G' w2 σ' H' as') :
    ∃ as2, Rel R H0 G0 G' { w2 with env := mixE w.env w2.env vs } σ H' as2 ∧ ∀ a ∈ as2, a ∈ as' := by
  obtain ⟨as2, q1, q2, q3⟩ := r0.env.mix le r.env ok
  rw [mixS_but bt] at q1
  obtain ⟨n1, n2, n3⟩ := List.nodup_append.mp r.nd
  exact ⟨as2, ⟨q1, r.bas, List.nodup_append.mpr ⟨q3 n1, n2, fun a ha b hb => n3 a (q2 a ha) b hb⟩, fun a ha => r.free a (q2 a ha), fun a ha => r.fresh a (q2 a ha)⟩, q2⟩
theorem bd_ok {r : Res} {x : D} {w3 : W} (h : (r.bd fun x w3 => .ok (.d x) w3) = .ok (.d x) w3) : ∃ rv, r = .ok rv w3 ∧ rv.frz = some x := by
  cases r with
  | bad => cases h
  | ex _ _ => cases h
  | ok rv w =>
    cases e : rv.frz with
    | none =>
      have : (Res.ok rv w).bd (fun x w3 => .ok (.d x) w3) = .bad := by unfold Res.bd Res.bind; simp only [e]
      rw [this] at h; cases h
    | some y =>
      have : (Res.ok rv w).bd (fun x w3 => .ok (.d x) w3) = .ok (.d y) w := by unfold Res.bd Res.bind; simp only [e]
      rw [this] at h; cases h
      exact ⟨rv, rfl, e⟩
theorem lc_run {mi : MA} {g : MG} {vs : List Nat} {mt me : ME} {Q : VK} {is : List Nat} (his : ∀ i ∈ is, i ∈ vs)
    (h : liftE R Wx H0 G0 (mLc vs mi g mt me) σ H Q) : tLc (liftI R Wx H0 G0 mi) (liftG R H0 G0 is g) (liftT R WN H0 G0 mt) (liftE R WN H0 G0 me) vs σ H Q := by
  obtain ⟨G, w, as, rel, h⟩ := h
  refine ⟨G, w, as, rel, ?_⟩
  have h' : PostE R H0 G0 Wx σ G H as (mLc vs mi g mt me w) Q := h
  unfold mLc at h'
  cases e : mi w with
  | bad => rw [e] at h'; exact h'
  | ex x w1 => rw [e] at h'; exact h'
  | ok ds w1 =>
    rw [e] at h'
    intro J G1 H1 as1 rel1 ext1 sub1 wk D hD
    have hHD : H D = none := ext1.dom D hD
    have h0D : H0 D = none := rel1.bas.ext.dom D hD
    have p1 : PExt G1 H1 G1 (upd H1 D (.lst [])) := PExt.own rel1.bas.sub hD
    refine ⟨fun i n H2 => (n = ds.length - i ∧ i ≤ ds.length) ∧ ∃ G2 w2 as2 acc xs, Rel R H0 G0 G2 w2 σ H2 as2 ∧ Ext as G H G2 H2 ∧ (∀ a ∈ as2, a ∈ as) ∧ Wle G1 G2 ∧ H2 D = some (.lst xs) ∧ Rps R G2 acc xs ∧ G2.Z D = none ∧ D ∉ G2.sas ∧ D ∉ as2 ∧ PostE R H0 G0 Wx σ G H as (lcL vs g mt me (ds.drop i) acc w2) Q,
      ⟨ds.length, ⟨by simp, Nat.zero_le _⟩, G1, w1, as1, [], [], rel1.pext p1, ext1.trans (fun a ha => .inl (sub1 a ha)) (p1.ext as1), sub1, .refl _, upd_same, .nil, rel1.bas.sub.free hD, fun z => ?_, fun z => ?_, by rw [List.drop_zero]; exact h'⟩, ?_⟩
    · obtain ⟨u, hu⟩ := rel1.bas.cells.has D z
      rw [hD] at hu; cases hu
    · obtain ⟨u, hu⟩ := rel1.env.has D z
      rw [hD] at hu; cases hu
    rintro i n H2 ⟨⟨rfl, hle⟩, G2, w2, as2, acc, xs, rel2, ext2, sub2, le2, hDx, rxs, hzD, hsD, haD, h2⟩
    obtain ⟨q1, q2⟩ := wk G2 H2 le2 rel2.bas.sub
    by_cases hi : i < ds.length
    · have ed : ds.drop i = ds[i] :: ds.drop (i + 1) := List.drop_eq_getElem_cons hi
      obtain ⟨go, yl⟩ := q1 i ds[i] (List.getElem?_eq_getElem hi)
      rw [ed] at h2
      unfold lcL at h2
      by_cases ok : okVs w2.env vs = true
      · rw [if_pos ok] at h2
        refine .inr ⟨go, fun H' => ∃ G2 w2 as2 acc xs, Rel R H0 G0 G2 w2 σ H' as2 ∧ Ext as G H G2 H' ∧ (∀ a ∈ as2, a ∈ as) ∧ Wle G1 G2 ∧ H' D = some (.lst xs) ∧ Rps R G2 acc xs ∧ G2.Z D = none ∧ D ∉ G2.sas ∧ D ∉ as2 ∧ PostE R H0 G0 Wx σ G H as (lcL vs g mt me (ds.drop (i + 1)) acc w2) Q, fun H' x => ⟨ds.length - (i + 1), by omega, ⟨rfl, hi⟩, x⟩, fun x H' y => ?_⟩
        obtain ⟨G3, p3, rp3⟩ := yl x H' y
        have rel3 := rel2.pext p3
        obtain ⟨asw, ew1, ew2, ew3⟩ := rel3.env.wipe ok
        obtain ⟨n1, n2, n3⟩ := List.nodup_append.mp rel3.nd
        have relw : Rel R H0 G0 G3 { w2 with env := wipeE w2.env vs } (L2.wipe σ vs) H' asw := ⟨ew1, rel3.bas, List.nodup_append.mpr ⟨ew3 n1, n2, fun a ha b hb => n3 a ((ew2 a).mp ha) b hb⟩, fun a ha => rel3.free a ((ew2 a).mp ha), fun a ha => rel3.fresh a ((ew2 a).mp ha)⟩
        refine ⟨G3, _, asw, ds[i], relw, rp3, ?_⟩
        cases eg : g ds[i] { w2 with env := wipeE w2.env vs } with
        | none => rw [eg] at h2; exact h2.elim
        | some w4 =>
          rw [eg] at h2
          intro σ4 as4 rel4 bt sub4
          have bt' : But vs (L2.wipe σ vs) σ4 := ⟨bt.1, fun j hj => bt.2 j fun z => hj (his j z)⟩
          refine ⟨wipe_but bt', G3, w4, as4, rel4, ?_⟩
          have sub4' : ∀ a ∈ as4, a ∈ as2 := fun a ha => (ew2 a).mp (sub4 a ha)
          have hD3 : H' D = some (.lst xs) := p3.keep _ _ hDx
          have haD4 : D ∉ as4 := fun z => haD (sub4' D z)
          have hsD3 : D ∉ G3.sas := by rw [p3.s]; exact hsD
          have hzD3 : G3.Z D = none := by
            cases ez : G3.Z D with
            | none => rfl
            | some o =>
              rcases p3.newZ D o ez with z | z
              · rw [hzD] at z; cases z
              · rw [hDx] at z; cases z
          -- what is behind an expression's step from here
          have far : ∀ {G5 : Wd} {H5 : Hp} {w5 : W} {as5 : List Addr}, Rel R H0 G0 G5 w5 σ4 H5 as5 → Ext as4 G3 H' G5 H5 → (∀ a ∈ as5, a ∈ as4) →
              H5 D = some (.lst xs) ∧ G5.Z D = none ∧ D ∉ G5.sas ∧ D ∉ as5 ∧ Ext as G H G5 H5 ∧ (∀ a ∈ as5, a ∈ as) ∧ Wle G1 G5 ∧ Wle G2 G5 := fun {G5 H5 w5 as5} rel5 ext5 sub5 => by
            refine ⟨ext5.keep D _ hD3 (fun _ z => by cases z) hsD3, ?_, ext5.nosas hD3 hsD3, fun z => haD4 (sub5 D z), (ext2.trans (fun a ha => .inl (sub2 a ha)) (p3.ext as2)).trans (fun a ha => .inl (sub2 a (sub4' a ha))) ext5, fun a ha => sub2 a (sub4' a (sub5 a ha)), (le2.trans p3.le).trans ext5.le, p3.le.trans ext5.le⟩
            cases ez : G5.Z D with
            | none => rfl
            | some o =>
              rcases ext5.newZ D o ez with z | z | z
              · rw [hzD3] at z; cases z
              · rw [hD3] at z; cases z
              · exact (haD4 z).elim
          simp only at h2
          cases et : mt w4 with
          | bad => rw [et] at h2; exact h2.elim
          | ex x w5 => rw [et] at h2; exact h2.elim
          | ok rv w5 =>
            rw [et] at h2
            cases rv with
            | d z =>
              cases z with
              | bl k =>
                intro G5 H5 as5 rel5 ext5 sub5
                obtain ⟨f1, f2, f3, f4, f5, f6, f7, f8⟩ := far rel5 ext5 sub5
                cases k with
                | false =>
                  refine iteF ?_
                  obtain ⟨as7, rel7, sub7⟩ := rel2.turn ok f8 bt' rel5
                  exact ⟨G5, _, as7, acc, xs, rel7, f5, fun a ha => f6 a (sub7 a ha), f7, f1, rxs.mono f8, f2, f3, fun z => f4 (sub7 D z), h2⟩
                | true =>
                  refine iteT ?_
                  simp only at h2
                  refine lift_bdG (P := fun _ => True) rel5 (fun x w6 ee => ?_) (fun ee => ?_) (fun rv w6 ee ef => ?_) (fun rv w6 ee v x G6 H6 as6 ef rel6 ext6 sub6 rp6 => ?_)
                  · rw [ee] at h2; exact h2.elim
                  · rw [ee] at h2; exact h2.elim
                  · rw [ee] at h2
                    have : (Res.ok rv w6).bd (fun x w3 => .ok (.d x) w3) = .bad := by unfold Res.bd Res.bind; simp only [ef]
                    rw [this] at h2; exact h2.elim
                  · rw [ee] at h2
                    have : (Res.ok rv w6).bd (fun x w3 => .ok (.d x) w3) = .ok (.d x) w6 := by unfold Res.bd Res.bind; simp only [ef]
                    rw [this] at h2
                    obtain ⟨k1, k2, k3, k4, k5, k6, k7, k8⟩ := far rel6 (ext5.trans (fun a ha => .inl (sub5 a ha)) ext6) fun a ha => sub5 a (sub6 a ha)
                    have h3 : PostE R H0 G0 Wx σ G H as (if acc.length < sizeLine then lcL vs g mt me (ds.drop (i + 1)) (acc ++ [x]) { w6 with env := mixE w2.env w6.env vs } else .bad) Q := h2
                    by_cases hc : acc.length < sizeLine
                    · rw [if_pos hc] at h3
                      obtain ⟨as7, rel7, sub7⟩ := rel2.turn ok k8 bt' rel6
                      have haD7 : D ∉ as7 := fun z => k4 (sub7 D z)
                      refine ⟨xs, k1, by rw [← rxs.length]; exact hc, G6, _, as7, acc ++ [x], xs ++ [v], rel7.out k1 k2 k3 haD7 h0D, ?_, fun a ha => k6 a (sub7 a ha), k7, upd_same, (rxs.mono k8).append (.cons rp6 .nil), k2, k3, haD7, h3⟩
                      exact ⟨k5.le, fun q u e t hq => by rw [upd_ne (ne_of_none e hHD)]; exact k5.keep q u e t hq, k5.newZ, k5.newS, fun q e => by
                        by_cases z : q = D
                        · rw [z]; exact hHD
                        · rw [upd_ne z] at e; exact k5.dom q e⟩
                    · rw [if_neg hc] at h3; exact h3.elim
              | _ => exact h2.elim
            | _ => exact h2.elim
      · rw [if_neg ok] at h2; exact h2.elim
    · have ed : ds.drop i = [] := List.drop_eq_nil_of_le (by omega)
      rw [ed] at h2
      have ei : i = ds.length := by omega
      refine .inl ⟨by rw [ei]; exact q2, h2 (.ref D) G2 H2 as2 [D] rel2 ext2 sub2 (.own hDx rxs) (fun b hb => ?_) fun b hb => ?_⟩
      · rw [List.mem_singleton.mp hb]
        exact ⟨hzD, hsD, haD, h0D⟩
      · rw [List.mem_singleton.mp hb]
        exact .inr hHD
variable {scope : Scope} {own : List (Str × Nat)} {mi : MA} {g : MG} {mt me : ME} {is : List Nat}
theorem em_lc (hc : X.calm = true) (hN : X.N.Nodup) (hi : PIm X R Wx tg iter mi) (ok : BlkOk X.N X.env.scope scope own)
    (hg : ∀ (s : Shared) (H : Hp) (C : Addr) (cl : List (Str × Addr)) (fp : List Addr), PGm (X.blk s H scope (compEnvC scope cl C X.env) fp) R tg is g) (ht : ∀ (s : Shared) (H : Hp) (C : Addr) (cl : List (Str × Addr)) (fp : List Addr), PTsm (X.blk s H scope (compEnvC scope cl C X.env) fp) R WN ifs mt)
    (he : ∀ (s : Shared) (H : Hp) (C : Addr) (cl : List (Str × Addr)) (fp : List Addr), PEm (X.blk s H scope (compEnvC scope cl C X.env) fp) R WN elt me) {vs : List Nat} (hvs : own.map (·.2) = vs) (his : ∀ i ∈ is, i ∈ vs) (hs : ∀ x, foldedSetIterable iter X.env x = pure x := by intro _; rfl) :
    PEm X R Wx (.ListComp elt [⟨tg, iter, ifs, 0⟩] scope pos) (mLc vs mi g mt me) := by
  subst hvs
  exact
  ⟨fun H0 G0 => PE.cons (pe_lc hc hN (hi.pi H0 G0) ok (fun s H C cl fp => (hg s H C cl fp).pg H0 G0) (fun s H C cl fp => (ht s H C cl fp).pe H0 G0) (fun s H C cl fp => (he s H C cl fp).pe H0 G0) hs) fun σ H Q h => lc_run his h⟩
/-- name = [..] -/
theorem sm_setLc {i : Nat} {y : Str} {py spos : Pos} (hc : X.calm = true) (hN : X.N.Nodup) (hy : X.N[i]? = some y) (hyl : X.env.scope.names.lookup y = some .local)
    (hsw : swapsWith (.ListComp elt [⟨tg, iter, ifs, 0⟩] scope pos) (some (.Name y py)) spos.line X.env = pure true) (hi : PIm X R Wx tg iter mi) (ok : BlkOk X.N X.env.scope scope own)
    (hg : ∀ (s : Shared) (H : Hp) (C : Addr) (cl : List (Str × Addr)) (fp : List Addr), PGm (X.blk s H scope (compEnvC scope cl C X.env) fp) R tg is g) (ht : ∀ (s : Shared) (H : Hp) (C : Addr) (cl : List (Str × Addr)) (fp : List Addr), PTsm (X.blk s H scope (compEnvC scope cl C X.env) fp) R WN ifs mt)
    (he : ∀ (s : Shared) (H : Hp) (C : Addr) (cl : List (Str × Addr)) (fp : List Addr), PEm (X.blk s H scope (compEnvC scope cl C X.env) fp) R WN elt me) {vs : List Nat} (hvs : own.map (·.2) = vs) (his : ∀ i ∈ is, i ∈ vs) (hs : ∀ x, foldedSetIterable iter X.env x = pure x := by intro _; rfl) :
    PSm X R Wx (.Assign [.Name y py] (.ListComp elt [⟨tg, iter, ifs, 0⟩] scope pos) spos) (mSet i (mLc vs mi g mt me)) := by
  subst hvs
  exact
  ⟨fun H0 G0 => PS.cons (ps_setLc hc hN hy hyl hsw (hi.pi H0 G0) ok (fun s H C cl fp => (hg s H C cl fp).pg H0 G0) (fun s H C cl fp => (ht s H C cl fp).pe H0 G0) (fun s H C cl fp => (he s H C cl fp).pe H0 G0) hs) fun D σ H ⟨G, w, as, rel, h⟩ => by
    refine lc_run (Wx := Wx) (R := R) (Q := fun x H1 => gName i x σ H1 D.nx) his ?_
    refine lift_sd rel h fun rv v G1 H1 as1 bs w1 rel1 _ _ sl lo _ h1 => ?_
    exact set_post rel1 sl lo h1⟩
end
end DB

set_option Elab.async false
set_option linter.all false
set_option maxRecDepth 100000
set_option maxHeartbeats 4000000
namespace DB
open PySem PySem.Spec PyProof.Rows L2
def noL : Lm := ⟨fun _ _ => False, none⟩
/-- a def of the text: it is what F tells -/
structure HasF (P : Program) (w : World) (K : PySem.W.Frag) (mg : Str → Option Value) (base : Heap) (T : List (Addr × Str)) (x : Str) (k : Nat) (ps : List Str) (F : MF) : Prop where
  ex : ∃ f fd, FnOk P w K mg base (L2.CX P w) k f fd ps (spF ⟨K, mg, T, noL⟩ F) ∧ mg x = some (.ref f) ∧ PySem.W.keepIn K (.ref f) = true ∧ Binds K fd ps []
theorem HasF.mk' {P : Program} {w : World} {K : PySem.W.Frag} {mg : Str → Option Value} {base : Heap} {T : List (Addr × Str)} {x : Str} {k : Nat} {ps : List Str} {F : MF} {f : Addr} {fd : FuncData}
    (h : FnOk P w K mg base (L2.CX P w) k f fd ps (spF ⟨K, mg, T, noL⟩ F)) (g : mg x = some (.ref f)) (kp : PySem.W.keepIn K (.ref f) = true) (b : Binds K fd ps []) : HasF P w K mg base T x k ps F := ⟨⟨f, fd, h, g, kp, b⟩⟩
section
variable {R R' : RC} {H0 H H' H1 H2 : Hp} {G0 G G' G1 G2 : Wd} {w w' w1 : W} {σ σ' : L2.St} {as as' as1 as2 bs : List Addr} {Wx : WX} {X : Cx}
  {a b c e elt tg iter : Expr} {ma mb mc m : ME} {pos : Pos} {es ifs : List Expr} {st : Stmt} {rest body orelse : List Stmt} {m1 m2 ms : MS} {mr : MA}
theorem em_callD {k : Nat} {ps : List Str} {F : MF} {x : Str} {p : Pos} {r : MA} {T : List (Addr × Str)} (D : HasF X.prog X.w X.K X.mg X.base T x k ps F) (tk : Takes X Wx) (hr : Room k X.A) (sm : Sim R ⟨X.K, X.mg, T, noL⟩) (hg : Gl X x)
    (ha : PAm X R Wx (a :: es) r) (hdb : (x == ("__debug__" : Str)) = false := by decide) (he : starEach (a :: es) X.env = (false, eval a X.env) :: starEach es X.env := by rfl) (hpl : (backTo pos (starEach es X.env)).any (·.1) = false := by rfl) :
    PEm X R Wx (.Call (.Name x p) (a :: es) [] pos) (mCall F r) := by
  obtain ⟨f, fd, Fn, hm, hk, hb⟩ := D.ex
  exact em_call Fn sm tk hr hg hm hk hb ha hdb he hpl

/-! a, b = x, y -/
theorem tmp_ext {rv : RV} {o : Option V} (s : RSlot R G1 H1 rv o bs) (lo : Loose H0 G1 as1 bs) (x : Ext as1 G1 H1 G2 H2) (sub : ∀ a ∈ as2, a ∈ as1) : RSlot R G2 H2 rv o bs ∧ Loose H0 G2 as2 bs := by
  have has := s.has
  have nt := s.notbl
  refine ⟨s.mono x.le fun a ha u hu => x.keep a u hu (nt a ha u hu) (lo a ha).2.1, fun b hb => ?_⟩
  obtain ⟨l1, l2, l3, l4⟩ := lo b hb
  obtain ⟨u, hu⟩ := has b hb
  refine ⟨?_, x.nosas hu l2, fun z => l3 (sub b z), l4⟩
  cases e : G2.Z b with
  | none => rfl
  | some o =>
    rcases x.newZ b o e with z | z | z
    · rw [l1] at z; cases z
    · rw [hu] at z; cases z
    · exact (l3 z).elim
/-- values of their own, one behind another -/
def mPar2 (i j : Nat) (m1 m2 : ME) : MS := fun w => (m1 w).sd fun u w1 => (m2 w1).sd fun v w2 => match setRV i u w2 with
  | .nx w3 => setRV j v w3
  | r => r
theorem setRV_nx {i : Nat} {u : RV} {w3 : W} (h : setRV i u w = .nx w3) : i < w.env.length ∧ w3 = w.put i u := by
  unfold setRV at h
  split at h
  · cases h; exact ⟨by assumption, rfl⟩
  · cases h
theorem sm_par2 {i j : Nat} {x y : Str} {px py pt : Pos} {kt k2 pt2} (hc : X.calm = true) (hN : X.N.Nodup) (hi : X.N[i]? = some x) (hj : X.N[j]? = some y) (hij : i ≠ j)
    (hx : X.env.scope.names.lookup x = some .local) (hy : X.env.scope.names.lookup y = some .local) (ha : PEm X R Wx a ma) (hb : PEm X R Wx b mb)
    (hw : swappedStores [.Tuple [.Name x px, .Name y py] kt pt] (.Tuple [a, b] k2 pt2) X.env = pure (some [x, y]))
    (hs : swapsWithSole [.Tuple [.Name x px, .Name y py] kt pt] (.Tuple [a, b] k2 pt2) pos.line X.env = pure false := by rfl) (h1 : starEach [a, b] X.env = (false, eval a X.env) :: starEach [b] X.env := by rfl) (h2 : starEach [b] X.env = (false, eval b X.env) :: starEach [] X.env := by rfl) :
    PSm X R Wx (.Assign [.Tuple [.Name x px, .Name y py] kt pt] (.Tuple [a, b] k2 pt2) pos) (mPar2 i j ma mb) :=
  ⟨fun H0 G0 => PS.cons (ps_par hc hN hi hj hij hx hy (pa_cons (ha.pe H0 G0) (pa_cons (hb.pe H0 G0) pa_nil h2) h1) hw hs) fun D σ H ⟨G, w, as, rel, h⟩ => by
    refine lift_sd rel h fun u v G1 H1 as1 bs1 w1 rel1 ext1 sub1 sl1 lo1 fr1 h1 => ?_
    refine lift_sd rel1 h1 fun u2 v2 G2 H2 as2 bs2 w2 rel2 ext2 sub2 sl2 lo2 fr2 h2 => ?_
    obtain ⟨sl1', lo1'⟩ := tmp_ext sl1 lo1 ext2 sub2
    refine ⟨v, v2, rfl, ?_⟩
    cases e : setRV i u w2 with
    | nx w3 =>
      rw [e] at h2
      obtain ⟨hi2, rfl⟩ := setRV_nx e
      obtain ⟨as3, rel3, sub3⟩ := rel2.setS hi2 sl1' lo1'
      refine set_post rel3 sl2 (fun b hb => ?_) h2
      obtain ⟨l1, l2, l3, l4⟩ := lo2 b hb
      refine ⟨l1, l2, fun z => ?_, l4⟩
      rcases sub3 b z with q | q
      · rcases fr2 b hb with y | y
        · exact (lo1 b q).2.2.1 y
        · obtain ⟨u, hu⟩ := sl1.has b q
          rw [hu] at y; cases y
      · exact l3 q
    | bad => rw [e] at h2; exact h2.elim
    | _ => unfold setRV at e; split at e <;> cases e⟩
def mPar3 (i j l : Nat) (m1 m2 m3 : ME) : MS := fun w => (m1 w).sd fun u w1 => (m2 w1).sd fun v w2 => (m3 w2).sd fun t w3 => match setRV i u w3 with
  | .nx w4 => match setRV j v w4 with
    | .nx w5 => setRV l t w5
    | r => r
  | r => r
theorem sm_par3 {i j l : Nat} {x y z : Str} {px py pz pt : Pos} {kt k2 pt2} (hc : X.calm = true) (hN : X.N.Nodup) (hi : X.N[i]? = some x) (hj : X.N[j]? = some y) (hl : X.N[l]? = some z) (hij : i ≠ j) (hil : i ≠ l) (hjl : j ≠ l)
    (hx : X.env.scope.names.lookup x = some .local) (hy : X.env.scope.names.lookup y = some .local) (hz : X.env.scope.names.lookup z = some .local) (ha : PEm X R Wx a ma) (hb : PEm X R Wx b mb) (hc2 : PEm X R Wx c mc)
    (hw : swappedStores [.Tuple [.Name x px, .Name y py, .Name z pz] kt pt] (.Tuple [a, b, c] k2 pt2) X.env = pure (some [x, y, z]))
    (hs : swapsWithSole [.Tuple [.Name x px, .Name y py, .Name z pz] kt pt] (.Tuple [a, b, c] k2 pt2) pos.line X.env = pure false := by rfl) (h1 : starEach [a, b, c] X.env = (false, eval a X.env) :: starEach [b, c] X.env := by rfl) (h2 : starEach [b, c] X.env = (false, eval b X.env) :: starEach [c] X.env := by rfl) (h3 : starEach [c] X.env = (false, eval c X.env) :: starEach [] X.env := by rfl) :
    PSm X R Wx (.Assign [.Tuple [.Name x px, .Name y py, .Name z pz] kt pt] (.Tuple [a, b, c] k2 pt2) pos) (mPar3 i j l ma mb mc) :=
  ⟨fun H0 G0 => PS.cons (ps_par3 hc hN hi hj hl hij hil hjl hx hy hz (pa_cons (ha.pe H0 G0) (pa_cons (hb.pe H0 G0) (pa_cons (hc2.pe H0 G0) pa_nil h3) h2) h1) hw hs) fun D σ H ⟨G, w, as, rel, h⟩ => by
    refine lift_sd rel h fun u v G1 H1 as1 bs1 w1 rel1 ext1 sub1 sl1 lo1 fr1 h1 => ?_
    refine lift_sd rel1 h1 fun u2 v2 G2 H2 as2 bs2 w2 rel2 ext2 sub2 sl2 lo2 fr2 h2 => ?_
    refine lift_sd rel2 h2 fun u3 v3 G3 H3 as3 bs3 w3 rel3 ext3 sub3 sl3 lo3 fr3 h3 => ?_
    obtain ⟨sl1a, lo1a⟩ := tmp_ext sl1 lo1 ext2 sub2
    obtain ⟨sl1b, lo1b⟩ := tmp_ext sl1a lo1a ext3 sub3
    obtain ⟨sl2b, lo2b⟩ := tmp_ext sl2 lo2 ext3 sub3
    refine ⟨v, v2, v3, rfl, ?_⟩
    have dj12 : ∀ b ∈ bs2, b ∉ bs1 := fun b hb q => by
      rcases fr2 b hb with y | y
      · exact (lo1 b q).2.2.1 y
      · obtain ⟨u, hu⟩ := sl1.has b q
        rw [hu] at y; cases y
    have dj13 : ∀ b ∈ bs3, b ∉ bs1 := fun b hb q => by
      rcases fr3 b hb with y | y
      · exact (lo1a b q).2.2.1 y
      · obtain ⟨u, hu⟩ := sl1a.has b q
        rw [hu] at y; cases y
    have dj23 : ∀ b ∈ bs3, b ∉ bs2 := fun b hb q => by
      rcases fr3 b hb with y | y
      · exact (lo2 b q).2.2.1 y
      · obtain ⟨u, hu⟩ := sl2.has b q
        rw [hu] at y; cases y
    cases e : setRV i u w3 with
    | nx w4 =>
      rw [e] at h3
      obtain ⟨hi2, rfl⟩ := setRV_nx e
      obtain ⟨as4, rel4, sub4⟩ := rel3.setS hi2 sl1b lo1b
      have lo2c : Loose H0 G3 as4 bs2 := fun b hb => by
        obtain ⟨l1, l2, l3, l4⟩ := lo2b b hb
        exact ⟨l1, l2, fun z => (sub4 b z).elim (dj12 b hb) l3, l4⟩
      have h4 : PostS R H0 G0 Wx G3 (match setRV j u2 (w3.put i u) with
        | .nx w5 => setRV l u3 w5
        | r => r) D := h3
      cases e2 : setRV j u2 (w3.put i u) with
      | nx w5 =>
        rw [e2] at h4
        obtain ⟨hj2, rfl⟩ := setRV_nx e2
        obtain ⟨as5, rel5, sub5⟩ := rel4.setS hj2 sl2b lo2c
        refine set_post rel5 sl3 (fun b hb => ?_) h4
        obtain ⟨l1, l2, l3, l4⟩ := lo3 b hb
        exact ⟨l1, l2, fun z => (sub5 b z).elim (dj23 b hb) fun z => (sub4 b z).elim (dj13 b hb) l3, l4⟩
      | bad => rw [e2] at h4; exact h4.elim
      | _ => unfold setRV at e2; split at e2 <;> cases e2
    | bad => rw [e] at h3; exact h3.elim
    | _ => unfold setRV at e; split at e <;> cases e⟩

/-! - x -/
def gNeg (x : D) : Option RV := match x with
  | .int i => iO (-i)
  | _ => none
def mNeg (m : ME) : ME := fun w => (m w).bd fun x w1 => ofO (gNeg x) w1
theorem em_neg (ha : POm X R Wx a m) : PEm X R Wx (.UnaryOp .USub a pos) (mNeg m) :=
  ⟨fun H0 G0 => PE.cons (pe_un un_neg (ha.pe H0 G0)) fun σ H Q ⟨G, w, as, rel, h⟩ => by
    refine lift_bo rel h fun v x G1 H1 as1 w1 rel1 ext lv h1 => ?_
    obtain ⟨rv, e, h2⟩ := h1.ofO
    cases x with
    | int i => cases lv.int; cases e; exact ⟨i, rfl, PostE.new rel1 h2 |>.sc rel1.bas.sub .int⟩
    | _ => cases e⟩

/-! in -/
def gIn (x y : D) : Option RV := match y with
  | .lst ds => if okE x && okE (.lst ds) then bO (ds.any fun z => eqB z x) else none
  | .tup ds => if okE x && okE (.tup ds) then bO (ds.any fun z => eqB z x) else none
  | _ => none
def gNotIn (x y : D) : Option RV := match y with
  | .lst ds => if okE x && okE (.lst ds) then bO (!ds.any fun z => eqB z x) else none
  | .tup ds => if okE x && okE (.tup ds) then bO (!ds.any fun z => eqB z x) else none
  | _ => none
def rInT (K : PySem.W.Frag) : R2 := fun x y H Q => ∃ d ds, Dp K H x d ∧ Dp K H y (.tuple ds) ∧ SeqAt.shaped d = true ∧ SeqAt.shaped (.tuple ds) = true ∧ Q (.bl (ds.any fun z => PyData.eqv z d)) H
def rInL (K : PySem.W.Frag) : R2 := fun x y H Q => ∃ d ds, Dp K H x d ∧ Dp K H y (.list ds) ∧ SeqAt.shaped d = true ∧ SeqAt.shaped (.list ds) = true ∧ Q (.bl (ds.any fun z => PyData.eqv z d)) H
def rNotInT (K : PySem.W.Frag) : R2 := fun x y H Q => ∃ d ds, Dp K H x d ∧ Dp K H y (.tuple ds) ∧ SeqAt.shaped d = true ∧ SeqAt.shaped (.tuple ds) = true ∧ Q (.bl (!ds.any fun z => PyData.eqv z d)) H
def rNotInL (K : PySem.W.Frag) : R2 := fun x y H Q => ∃ d ds, Dp K H x d ∧ Dp K H y (.list ds) ∧ SeqAt.shaped d = true ∧ SeqAt.shaped (.list ds) = true ∧ Q (.bl (!ds.any fun z => PyData.eqv z d)) H
theorem in_room {A : Around} {d e : PyData} (h : SeqAt.shaped d = true) (hu : A.units + 66 < cLine) : A.units + 1 + min e.depth d.depth < cLine := by
  have h1 := SeqAt.depth_of_shaped h
  have h2 : min e.depth d.depth ≤ d.depth := Nat.min_le_right _ _
  omega
theorem in_room2 {A : Around} {d : PyData} {n : Nat} (h : SeqAt.shaped d = true) (hu : A.units + 66 < cLine) : A.units + 1 + min n d.depth < cLine := by
  have h1 := SeqAt.depth_of_shaped h
  have h2 : min n d.depth ≤ d.depth := Nat.min_le_right _ _
  omega
theorem can_t {ds : List PyData} (h : SeqAt.shaped (.tuple ds) = true) : PyData.canLayAll0 ds = true := SeqAt.canLay_of_shaped h
theorem can_l {ds : List PyData} (h : SeqAt.shaped (.list ds) = true) : PyData.canLayAll0 ds = true := SeqAt.canLay_of_shaped h
theorem op_inT (hu : X.A.units + 66 < cLine) : OpR X (compareOp .In) (rInT X.K) := by
  intro pins s σ H x y v u Q I rx ry h
  obtain ⟨d, ds, hd, he, sd, se, q⟩ := h
  obtain ⟨as, r1⟩ := Dp.reads I d x v hd rx
  obtain ⟨bs, r2⟩ := Dp.reads I (.tuple ds) y u he ry
  exact SeqAt.in_tuple_reads r2 r1 (can_t se) (SeqAt.canLay_of_shaped sd) (in_room2 sd hu) ⟨.bl _, H, I, rfl, q⟩
theorem op_inL (hu : X.A.units + 66 < cLine) : OpR X (compareOp .In) (rInL X.K) := by
  intro pins s σ H x y v u Q I rx ry h
  obtain ⟨d, ds, hd, he, sd, se, q⟩ := h
  obtain ⟨as, r1⟩ := Dp.reads I d x v hd rx
  obtain ⟨bs, r2⟩ := Dp.reads I (.list ds) y u he ry
  exact SeqAt.in_list_reads r2 r1 (can_l se) (SeqAt.canLay_of_shaped sd) (in_room2 sd hu) ⟨.bl _, H, I, rfl, q⟩
theorem op_notInT (hu : X.A.units + 66 < cLine) : OpR X (compareOp .NotIn) (rNotInT X.K) := by
  intro pins s σ H x y v u Q I rx ry h
  obtain ⟨d, ds, hd, he, sd, se, q⟩ := h
  obtain ⟨as, r1⟩ := Dp.reads I d x v hd rx
  obtain ⟨bs, r2⟩ := Dp.reads I (.tuple ds) y u he ry
  exact SeqAt.notIn_tuple_reads r2 r1 (can_t se) (SeqAt.canLay_of_shaped sd) (in_room2 sd hu) ⟨.bl _, H, I, rfl, q⟩
theorem op_notInL (hu : X.A.units + 66 < cLine) : OpR X (compareOp .NotIn) (rNotInL X.K) := by
  intro pins s σ H x y v u Q I rx ry h
  obtain ⟨d, ds, hd, he, sd, se, q⟩ := h
  obtain ⟨as, r1⟩ := Dp.reads I d x v hd rx
  obtain ⟨bs, r2⟩ := Dp.reads I (.list ds) y u he ry
  exact SeqAt.notIn_list_reads r2 r1 (can_l se) (SeqAt.canLay_of_shaped sd) (in_room2 sd hu) ⟨.bl _, H, I, rfl, q⟩
theorem toPys_any (x : D) : ∀ ds : List D, (toPys ds).any (fun z => PyData.eqv z (toPy x)) = ds.any fun z => eqB z x
  | [] => rfl
  | d :: ds => by
    show (PyData.eqv (toPy d) (toPy x) || (toPys ds).any (fun z => PyData.eqv z (toPy x))) = (eqB d x || ds.any fun z => eqB z x)
    rw [toPys_any x ds] <;> rfl
theorem okE_lst {ds : List D} (h : okE (.lst ds) = true) : okD (.lst ds) = true ∧ SeqAt.shaped (.list (toPys ds)) = true := by
  have := Bool.and_eq_true_iff.mp h
  simpa [toPy] using this
theorem okE_tup {ds : List D} (h : okE (.tup ds) = true) : okD (.tup ds) = true ∧ SeqAt.shaped (.tuple (toPys ds)) = true := by
  have := Bool.and_eq_true_iff.mp h
  simpa [toPy] using this
theorem om_in (ag : Ag X R) (hu : X.A.units + 66 < cLine) : OpM X R (compareOp .In) gIn := by
  refine ⟨_, (op_inL hu).or (op_inT hu), fun {G H x y vx vy rv Q} s rx ry e h => ?_⟩
  unfold gIn at e
  split at e
  · split at e
    · rename_i ds c
      obtain ⟨c1, c2⟩ := Bool.and_eq_true_iff.mp c
      obtain ⟨d1, d2⟩ := Bool.and_eq_true_iff.mp c1
      obtain ⟨d3, d4⟩ := okE_lst c2
      cases e
      have dy := ry.dp s d3
      have ey : toPy (.lst ds) = .list (toPys ds) := by simp [toPy]
      rw [ey] at dy
      exact .inl ⟨_, _, by rw [ag.K]; exact rx.dp s d1, by rw [ag.K]; exact dy, d2, d4, by rw [toPys_any]; exact h.sc s .bl⟩
    · cases e
  · split at e
    · rename_i ds c
      obtain ⟨c1, c2⟩ := Bool.and_eq_true_iff.mp c
      obtain ⟨d1, d2⟩ := Bool.and_eq_true_iff.mp c1
      obtain ⟨d3, d4⟩ := okE_tup c2
      cases e
      have dy := ry.dp s d3
      have ey : toPy (.tup ds) = .tuple (toPys ds) := by simp [toPy]
      rw [ey] at dy
      exact .inr ⟨_, _, by rw [ag.K]; exact rx.dp s d1, by rw [ag.K]; exact dy, d2, d4, by rw [toPys_any]; exact h.sc s .bl⟩
    · cases e
  · cases e
theorem om_notIn (ag : Ag X R) (hu : X.A.units + 66 < cLine) : OpM X R (compareOp .NotIn) gNotIn := by
  refine ⟨_, (op_notInL hu).or (op_notInT hu), fun {G H x y vx vy rv Q} s rx ry e h => ?_⟩
  unfold gNotIn at e
  split at e
  · split at e
    · rename_i ds c
      obtain ⟨c1, c2⟩ := Bool.and_eq_true_iff.mp c
      obtain ⟨d1, d2⟩ := Bool.and_eq_true_iff.mp c1
      obtain ⟨d3, d4⟩ := okE_lst c2
      cases e
      have dy := ry.dp s d3
      have ey : toPy (.lst ds) = .list (toPys ds) := by simp [toPy]
      rw [ey] at dy
      exact .inl ⟨_, _, by rw [ag.K]; exact rx.dp s d1, by rw [ag.K]; exact dy, d2, d4, by rw [toPys_any]; exact h.sc s .bl⟩
    · cases e
  · split at e
    · rename_i ds c
      obtain ⟨c1, c2⟩ := Bool.and_eq_true_iff.mp c
      obtain ⟨d1, d2⟩ := Bool.and_eq_true_iff.mp c1
      obtain ⟨d3, d4⟩ := okE_tup c2
      cases e
      have dy := ry.dp s d3
      have ey : toPy (.tup ds) = .tuple (toPys ds) := by simp [toPy]
      rw [ey] at dy
      exact .inr ⟨_, _, by rw [ag.K]; exact rx.dp s d1, by rw [ag.K]; exact dy, d2, d4, by rw [toPys_any]; exact h.sc s .bl⟩
    · cases e
  · cases e
end
end DB

set_option Elab.async false
set_option linter.all false
set_option maxRecDepth 100000
set_option maxHeartbeats 4000000
namespace DB
open PySem PySem.Spec PyProof.Rows L2
theorem hr66 {k : Nat} {A : Around} (r : Room k A) : A.units + 66 < cLine := by have := r.un; omega
section
variable {R R' : RC} {H0 H H' H1 H2 : Hp} {G0 G G' G1 G2 : Wd} {w w' w1 : W} {σ σ' : L2.St} {as as' as1 as2 bs : List Addr} {Wx : WX} {X : Cx}
  {a b c e elt tg iter : Expr} {ma mb mc m : ME} {pos : Pos} {es ifs : List Expr} {st : Stmt} {rest body orelse : List Stmt} {m1 m2 ms : MS} {mr : MA}

/-! enumerate -/
def enumD (i : Nat) : List D → List D
  | [] => []
  | d :: ds => .tup [.int (i : Nat), d] :: enumD (i + 1) ds
theorem enumD_get : ∀ {ds : List D} {k i : Nat}, (enumD k ds)[i]? = ds[i]?.map fun d => .tup [.int ((k + i : Nat) : Int), d]
  | [], _, _ => by simp [enumD]
  | d :: ds, k, 0 => by simp [enumD]
  | d :: ds, k, i + 1 => by
    unfold enumD
    rw [List.getElem?_cons_succ, enumD_get (ds := ds), List.getElem?_cons_succ, show k + 1 + i = k + (i + 1) by omega]
theorem enumD_len : ∀ {ds : List D} {k : Nat}, (enumD k ds).length = ds.length
  | [], _ => rfl
  | d :: ds, k => by unfold enumD; rw [List.length_cons, enumD_len, List.length_cons]
def enItems (x : D) : Option (List D) := match x with
  | .str _ => none
  | x => seqItems x
def mEnum (m : ME) : MA := fun w => match (m w).bd fun x w1 => .ok (.d x) w1 with
  | .ok (.d x) w1 => match enItems x with
    | some ds => .ok (enumD 0 ds) w1
    | none => .bad
  | .ok _ _ => .bad
  | .ex x w1 => .ex x w1
  | .bad => .bad
theorem rp_pair {x y : D} {v u : V} {T : Addr} (s : Same G.Z H) (nT : H T = none) (r1 : Rp R G x v) (r2 : Rp R G y u) : ∃ G3, PExt G H G3 (upd H T (.tup [v, u])) ∧ Rp R G3 (.tup [x, y]) (.ref T) :=
  ⟨_, .new s nT, .tup (.inl (.inl put_at)) (.cons (r1.mono (PExt.new s nT).le) (.cons (r2.mono (PExt.new s nT).le) .nil))⟩
theorem walks_enum {K : PySem.W.Frag} {p : Addr} {ds : List D} {xs : List V} (hx : SqL K G.Z p xs) (rs : Rps R G ds xs) : Walks R (Ite K p) (enumD 0 ds) G := fun G2 H2 le s => by
  have hx2 : SqL K H2 p xs := Same.seq s (Same.seq le.z hx)
  refine ⟨fun i d e => ?_, ⟨xs, hx2, by rw [enumD_len, rs.length]; exact Nat.le_refl _⟩⟩
  rw [enumD_get] at e
  obtain ⟨y, e1, rfl⟩ := Option.map_eq_some_iff.mp e
  obtain ⟨v, ev, rp⟩ := rs.get e1
  refine ⟨⟨xs, v, hx2, ev⟩, fun x H3 ⟨T, x', ex, nT, e3, q⟩ => ?_⟩
  have e4 := q xs hx2
  rw [ev] at e4
  cases e4
  subst ex e3
  rw [Nat.zero_add]
  exact rp_pair s nT .int (rp.mono le)
/-- the tuple at a, each item in a new pair -/
def IteT (K : PySem.W.Frag) (a : Addr) : It :=
  ⟨fun i H => ∃ (xs : List V) (x : V), SqT K H a xs ∧ xs[i]? = some x, fun i H v H' => ∃ T x, v = .ref T ∧ H T = none ∧ H' = upd H T (.tup [.int (i : Nat), x]) ∧ ∀ xs, SqT K H a xs → xs[i]? = some x, fun i H => ∃ xs : List V, SqT K H a xs ∧ xs.length = i⟩
theorem walks_enumT {K : PySem.W.Frag} {p : Addr} {ds : List D} {xs : List V} (hx : SqT K G.Z p xs) (rs : Rps R G ds xs) : Walks R (IteT K p) (enumD 0 ds) G := fun G2 H2 le s => by
  have hx2 : SqT K H2 p xs := Same.seqT s (Same.seqT le.z hx)
  refine ⟨fun i d e => ?_, ⟨xs, hx2, by rw [enumD_len, rs.length]⟩⟩
  rw [enumD_get] at e
  obtain ⟨y, e1, rfl⟩ := Option.map_eq_some_iff.mp e
  obtain ⟨v, ev, rp⟩ := rs.get e1
  refine ⟨⟨xs, v, hx2, ev⟩, fun x H3 ⟨T, x', ex, nT, e3, q⟩ => ?_⟩
  have e4 := q xs hx2
  rw [ev] at e4
  cases e4
  subst ex e3
  rw [Nat.zero_add]
  exact rp_pair s nT .int (rp.mono le)
theorem turn_enumT {P : Program} {w : World} {K : PySem.W.Frag} {elts : List Expr} {kk : Nat} {tpos : Pos} (a e it : Addr) :
    Turn P w K (.Tuple elts kk tpos) (IteT K a) [e, it] e (fun i h => (∃ old, IsEnum h e it ((i : Nat) : Int) old) ∧ h.IsTupleIter it a i ∧ e ≠ it) where
  mem := by simp
  obj := fun i h st b hb => by
    obtain ⟨⟨old, he⟩, ⟨o, ho, hc, hd⟩, _⟩ := st
    have e' : b = e ∨ b = it := by simpa using hb
    rcases e' with z | z
    · rw [z]; exact ⟨_, he, fun v q => nomatch q⟩
    · rw [z]; exact ⟨o, ho, fun v q => by rw [hd] at q; cases q⟩
  keep := fun i h h' st k => let ⟨⟨old, he⟩, hi, hne⟩ := st; ⟨⟨old, k e (by simp) _ he⟩, hi.at fun o q => k it (by simp) o q, hne⟩
  item := by
    intro X hP hw hK hc i pins s σ H E I hf st hg
    subst hP hw hK
    obtain ⟨⟨old, he⟩, hit, hne⟩ := st
    obtain ⟨xs, x, hq, hx⟩ := hg
    obtain ⟨its, rv, p, hz⟩ := I.tuple hq
    obtain ⟨u, hu, ru⟩ := rv.get hx
    have hel : e < s.heap.objs.size := Heap.lt_size he
    have hil : it < s.heap.objs.size := by obtain ⟨_, q, _⟩ := hit; exact Heap.lt_size q
    have hai : a ≠ it := fun z => by
      obtain ⟨o1, q1, c1, _⟩ := hit
      obtain ⟨o2, q2, c2, _⟩ := p
      rw [z, q1] at q2
      cases q2
      rw [c1] at c2
      exact absurd c2 (by simp)
    have hae : e ≠ a := fun z => by
      obtain ⟨o2, q2, c2, _⟩ := p
      rw [← z, he] at q2
      cases q2
      exact absurd c2 (by simp)
    have D := Draws.tuple (prog := X.prog) (w := X.w) (A := X.A.in1) (I.ok.hd hc) it a hai its.toArray
    have hlt : i < its.toArray.size := by
      have := (List.getElem?_eq_some_iff.mp hu).1
      simpa using this
    refine wpAny_pyNext_enum_itemC D he ⟨hit, p⟩ hlt hne (by simp [hne, hae]) fun x2 h' tk hP2 ho hSt hT hsz hk => ?_
    have ex2 : x2 = u := by
      have h1 : its.toArray[i]? = some x2 := hP2
      have h2 : its.toArray[i]? = some u := by simpa using hu
      rw [h1] at h2
      exact Option.some.inj h2
    subst ex2
    refine ⟨_, rfl, wpAny_letOwnedTupleGo_enum (s := { s with heap := h', toks := tk + 1 }) ho fun h'' he' sb => ?_⟩
    have hT2 : h''.get? s.heap.objs.size = some { cls := .type "tuple", data := .seq #[.int i tk, x2] } := (sb.2 _ (Nat.ne_of_gt hel)).trans hT
    have new : ObjOk X.prog X.w (upd H s.heap.objs.size (.tup [.int (i : Nat), x])) h'' s.heap.objs.size (.tup [.int (i : Nat), x]) :=
      ⟨by show 2 ≤ sizeLine; decide, [.int i tk, x2], .cons ⟨_, rfl⟩ (.cons ru .nil), ⟨_, hT2, rfl, _, rfl⟩⟩
    have I1 : Inv X pins σ (upd H s.heap.objs.size (.tup [.int (i : Nat), x])) { s with heap := h'', toks := tk + 1 } :=
      I.turnedNew (ch := [e, it]) (fun b ob hb q => (sb.2 b (fun z => hb (by simp [z]))).trans (hk b ob (fun z => hb (by simp [z])) (fun z => hb (by simp [z])) q)) hf (Nat.le_refl _) new
    refine ⟨.ref s.heap.objs.size, _, I1, rfl, ⟨_, x, rfl, I.hok.fresh (Nat.le_refl _), rfl, fun ys hy => by rw [I.tuple_inj hy hq]; exact hx⟩, ⟨⟨x2, ?_⟩, hSt.1.at fun o q => (sb.2 it (Ne.symm hne)).trans q, hne⟩, fun b hb => ?_⟩
    · have e1 : ((i + 1 : Nat) : Int) = (i : Int) + 1 := by omega
      rw [e1]; exact he'
    · have hb' : b < s.heap.objs.size := by
        have e' : b = e ∨ b = it := by simpa using hb
        rcases e' with z | z
        · rw [z]; exact hel
        · rw [z]; exact hil
      rw [upd_ne (Nat.ne_of_lt hb')]
      exact (hf b hb).1
  done := by
    intro X hP hw hK hc i pins s σ H E I hf st hg
    subst hP hw hK
    obtain ⟨⟨old, he⟩, hit, hne⟩ := st
    obtain ⟨xs, hq, hx⟩ := hg
    obtain ⟨its, rv, p, hz⟩ := I.tuple hq
    obtain ⟨f0, f1, f2, f3, f4, f5⟩ := hf it (by simp)
    have hl := rv.length
    have hai : a ≠ it := fun z => by
      obtain ⟨o1, q1, c1, _⟩ := hit
      obtain ⟨o2, q2, c2, _⟩ := p
      rw [z, q1] at q2
      cases q2
      rw [c1] at c2
      exact absurd c2 (by simp)
    have D := Draws.tuple (prog := X.prog) (w := X.w) (A := X.A.in1) (I.ok.hd hc) it a hai its.toArray
    have en : i = its.toArray.size := by rw [List.size_toArray, ← hl, hx]
    rw [en] at hit
    exact wpAny_pyNext_enum_endD D he ⟨hit, p⟩ fun h' eb => ⟨rfl, I.turned (t' := s.toks) (fun b o hb q => eb b o hb q) f0 f1 f3 f4 f5⟩
  self := fun A i s Q E st h => let ⟨⟨_, he⟩, _⟩ := st; wpAny_pyIter_enum he h
end
/-- enumerate(v): its two new cells -/
theorem meets_enumB {v : Value} {o : Obj} {H : Heap → Prop} (B : Begins v o H) :
    Meets (Builtin.«enumerate.__new__» ⟨[.type "enumerate", v], []⟩) (fun _ R s => H s.heap ∧
      R (.ok (.ret (.ref (s.heap.push o).objs.size))) { s with heap := (s.heap.push o).push { cls := .type "enumerate", data := .fields #[.none, .bool false, .ref s.heap.objs.size, rawInt 0, .none, .none] } }) :=
  .of_wp fun prog w A R s h => by
    obtain ⟨hp, g, d, tk, os⟩ := s
    obtain ⟨h1, h⟩ := h
    have hsub := sub_enumerate
    have q1 : ∀ {A' : Around} {E : Value → Shared → Prop} {Q : Value → Shared → Prop}, Q (.ref hp.objs.size) ⟨hp.push o, g, d, tk, os⟩ → wpAny (model prog w) A' (pyIter v) Q E ⟨hp, g, d, tk, os⟩ :=
      fun q => B.iter prog w _ _ ⟨hp, g, d, tk, os⟩ _ h1 q
    wp_walk using q1
    refine wpAny_stack_any fun st => wpAny_pure ?_
    split
    · rename_i c _ _ _ _ _
      cases (c == Value.type "enumerate")
      · wp_walk using q1
        exact ⟨_, rfl, h⟩
      · wp_walk using q1
        exact ⟨_, rfl, h⟩
    · wp_walk using q1
      exact ⟨_, rfl, h⟩
theorem call_enumT {prog : Program} {w : World} {A : Around} {E : Value → Shared → Prop} {s : Shared} {v : Value} {o : Obj} {H : Heap → Prop} {Q : Value → Shared → Prop} (B : Begins v o H) (h1 : H s.heap)
    (h : ∀ h', IsEnum h' (s.heap.objs.size + 1) s.heap.objs.size 0 .none → h'.get? s.heap.objs.size = some o → (∀ b o, s.heap.get? b = some o → h'.get? b = some o) → Q (.ref (s.heap.objs.size + 1)) { s with heap := h' }) :
    wpAny (model prog w) A (call (.type "enumerate") [v]) Q E s := by
  refine callType_new F.called_enumerate (by decide) (F.typeCall_enumerate_1 _) (F.newCall_enumerate_1 _) (fun obj => F.args_object_init_2 obj _) F.entry_enumerate_new (meets_enumB B) ⟨h1, ?_⟩
  have hz : (s.heap.push o).objs.size = s.heap.objs.size + 1 := Heap.size_push ..
  show _ ∧ _
  rw [hz]
  have he : IsEnum ((s.heap.push o).push { cls := .type "enumerate", data := .fields #[.none, .bool false, .ref s.heap.objs.size, rawInt 0, .none, .none] }) (s.heap.objs.size + 1) s.heap.objs.size 0 .none := by
    have := Heap.get?_push_size (s.heap.push o) (o := { cls := .type "enumerate", data := .fields #[.none, .bool false, .ref s.heap.objs.size, rawInt 0, .none, .none] }) rfl
    rw [hz] at this
    exact this
  exact ⟨⟨_, he, rfl⟩, h _ he (Heap.get?_push_of_some _ (Heap.get?_push_size _ B.free)) fun b o x => Heap.get?_push_of_some _ (Heap.get?_push_of_some _ x)⟩
section
variable {R R' : RC} {H0 H H' H1 H2 : Hp} {G0 G G' G1 G2 : Wd} {w w' w1 : W} {σ σ' : L2.St} {as as' as1 as2 bs : List Addr} {Wx : WX} {X : Cx}
  {a b c e elt tg iter : Expr} {ma mb mc m : ME} {pos : Pos} {es ifs : List Expr} {st : Stmt} {rest body orelse : List Stmt} {m1 m2 ms : MS} {mr : MA}

def iEnumT (K : PySem.W.Frag) (ta : TA) : TI := fun σ H R => ta σ H fun vs H1 => ∃ a xs, vs = [.ref a] ∧ SqT K H1 a xs ∧ R (IteT K a) H1
theorem pi_enumT {p tpos : Pos} {elts : List Expr} {kk : Nat} {ta : TA} (hg : Gl X "enumerate") (hm : X.mg "enumerate" = none) (ha : PA X [e] ta) (hs : starEach [e] X.env = [(false, eval e X.env)] := by rfl) :
    PI X (.Tuple elts kk tpos) (.Call (.Name "enumerate" p) [e] [] pos) (iEnumT X.K ta) := by
  refine ⟨fun pins s σ H R I h => ?_⟩
  refine Call_ (ld_blt I hg hm boot_enumerate (PyProof.Rows.callWith_type1 (thn (ha.run pos pins s σ H _ I h) fun us s1 ⟨vs, H1, I1, r1, q1⟩ => ?_) hs rfl))
  obtain ⟨a, xs, ex, hq, q⟩ := q1
  subst ex
  cases r1 with
  | cons r rr =>
    cases rr
    cases r
    obtain ⟨its, rv, p', hz⟩ := I1.tuple hq
    refine call_enumT (begins_tuple a its.toArray) p' fun h' he hit hk => wpAny_pyIter_enum he ?_
    have I2 : Inv X pins σ H1 { s1 with heap := h' } := I1.kept (t' := s1.toks) hk
    refine ⟨s1.heap.objs.size + 1, [s1.heap.objs.size + 1, s1.heap.objs.size], _, _, H1, rfl, I2, turn_enumT a (s1.heap.objs.size + 1) s1.heap.objs.size, ⟨⟨.none, he⟩, ⟨_, hit, rfl, rfl⟩, Nat.succ_ne_self _⟩, fun b hb => ?_, q⟩
    have e' : b = s1.heap.objs.size + 1 ∨ b = s1.heap.objs.size := by simpa using hb
    have hle : s1.heap.objs.size ≤ b := by
      rcases e' with z | z
      · rw [z]; exact Nat.le_add_right _ _
      · rw [z]; exact Nat.le_refl _
    exact I1.fpOk hle (I1.hok.fresh hle)
theorem im_enum {p tpos : Pos} {elts : List Expr} {kk : Nat} (ag : Ag X R) (hg : Gl X "enumerate") (hm : X.mg "enumerate" = none) (he : PEm X R Wx a m) (hs : starEach [a] X.env = [(false, eval a X.env)] := by rfl) :
    PIm X R Wx (.Tuple elts kk tpos) (.Call (.Name "enumerate" p) [a] [] pos) (mEnum m) :=
  ⟨fun H0 G0 => ⟨fun pins s σ H Rj I ⟨G, w, as, rel, h⟩ => by
    have h1 : starEach [a] X.env = (false, eval a X.env) :: starEach [] X.env := hs
    have go : ∀ {Q : List V → Hp → Prop}, (∀ x w1 ds, enItems x = some ds → (∀ J G' H' as', Rel R H0 G0 G' w1 σ H' as' → Ext as G H G' H' → (∀ a ∈ as', a ∈ as) → Walks R J (enumD 0 ds) G' → Rj J H') → (∃ rv, m w = .ok rv w1 ∧ rv.frz = some x) → ∀ v G1 H1 as1, Rel R H0 G0 G1 w1 σ H1 as1 → Ext as G H G1 H1 → (∀ a ∈ as1, a ∈ as) → Rp R G1 x v → Q [v] H1) → liftE R Wx H0 G0 m σ H (fun x H1 => tNil σ H1 fun xs H2 => Q (x :: xs) H2) := by
      intro Q k
      have h' : (match mEnum m w with
        | .ok ds w' => ∀ J G' H' as', Rel R H0 G0 G' w' σ H' as' → Ext as G H G' H' → (∀ a ∈ as', a ∈ as) → Walks R J ds G' → Rj J H'
        | .ex x w' => ∀ cls d G' H' as', Rel R H0 G0 G' w' σ H' as' → ExcR R G' H' x cls d → Wx cls d σ H'
        | .bad => False) := h
      unfold mEnum at h'
      refine ⟨G, w, as, rel, ?_⟩
      cases e : m w with
      | bad => rw [e] at h'; exact h'.elim
      | ex x w1 => rw [e] at h'; exact h'
      | ok rv w1 =>
        rw [e] at h'
        intro v G' H' as' bs rel' ext sub sl lo fr
        cases ef : rv.frz with
        | none =>
          have e2 : (Res.ok rv w1).bd (fun x w1 => .ok (.d x) w1) = .bad := by unfold Res.bd Res.bind; simp only [ef]
          rw [e2] at h'; exact h'.elim
        | some x =>
          have e2 : (Res.ok rv w1).bd (fun x w1 => .ok (.d x) w1) = .ok (.d x) w1 := by unfold Res.bd Res.bind; simp only [ef]
          rw [e2] at h'
          obtain ⟨G2, rel2, ext2, rp⟩ := frz_tmp rel' sl lo ef
          cases es : enItems x with
          | none => simp only [es] at h'
          | some ds =>
            simp only [es] at h'
            exact k x w1 ds es h' ⟨rv, e, ef⟩ v G2 H' as' rel2 (ext.trans fr ext2) sub rp
    -- which kind
    have same : ∀ {x x' : D} {w1 w1' : W}, (∃ rv, m w = .ok rv w1 ∧ rv.frz = some x) → (∃ rv, m w = .ok rv w1' ∧ rv.frz = some x') → x = x' := fun ⟨r1, e1, f1⟩ ⟨r2, e2, f2⟩ => by
      rw [e1] at e2; cases e2; rw [f1] at f2; exact Option.some.inj f2
    by_cases hk : ∃ ds w1, ∃ rv, m w = .ok rv w1 ∧ rv.frz = some (.tup ds)
    · obtain ⟨ds0, w0, hk⟩ := hk
      refine (pi_enumT hg hm (pa_cons (he.pe H0 G0) pa_nil h1) hs).run pins s σ H Rj I (go (Q := fun vs H1 => ∃ a xs, vs = [.ref a] ∧ SqT X.K H1 a xs ∧ Rj (IteT X.K a) H1) fun x w1 ds es k hx v G1 H1 as1 rel1 ext1 sub1 rp => ?_)
      cases same hx hk
      cases rp with
      | tup hx2 rs =>
        cases es
        exact ⟨_, _, rfl, by rw [ag.K]; exact Same.seqT rel1.bas.sub hx2, k _ G1 H1 as1 rel1 ext1 sub1 (by rw [ag.K]; exact walks_enumT hx2 rs)⟩
    · refine (pi_enum hg hm (pa_cons (he.pe H0 G0) pa_nil h1) hs).run pins s σ H Rj I (go (Q := fun vs H1 => ∃ a xs, vs = [.ref a] ∧ SqL X.K H1 a xs ∧ Rj (Ite X.K a) H1) fun x w1 ds es k hx v G1 H1 as1 rel1 ext1 sub1 rp => ?_)
      cases x with
      | lst ds' =>
        cases rp with
        | lst hx2 rs =>
          cases es
          exact ⟨_, _, rfl, .inl (.inl (rel1.bas.sub _ _ hx2)), k _ G1 H1 as1 rel1 ext1 sub1 (walks_enum (.inl (.inl hx2)) rs)⟩
      | scr ds' =>
        cases rp with
        | scr hx2 rs =>
          cases es
          exact ⟨_, _, rfl, by rw [ag.K]; exact Same.seq rel1.bas.sub hx2, k _ G1 H1 as1 rel1 ext1 sub1 (by rw [ag.K]; exact walks_enum hx2 rs)⟩
      | tup ds' => exact (hk ⟨_, _, hx⟩).elim
      | str z => cases es
      | _ => cases es⟩⟩
end
end DB

set_option Elab.async false
set_option linter.all false
set_option maxRecDepth 100000
set_option maxHeartbeats 4000000
namespace DB
open PySem PySem.Spec PyProof.Rows L2
section
variable {R R' : RC} {H0 H H' H1 H2 : Hp} {G0 G G' G1 G2 : Wd} {w w' w1 : W} {σ σ' : L2.St} {as as' as1 as2 bs : List Addr} {Wx : WX} {X : Cx}
  {a b c e elt tg iter : Expr} {ma mb mc m : ME} {pos : Pos} {es ifs : List Expr} {st : Stmt} {rest body orelse : List Stmt} {m1 m2 ms : MS} {mr : MA}
/-! zip -/
def zipD : List D → List D → List D
  | x :: xs, y :: ys => .tup [x, y] :: zipD xs ys
  | _, _ => []
theorem zipD_get : ∀ {xs ys : List D} {i : Nat} {d : D}, (zipD xs ys)[i]? = some d → ∃ x y, xs[i]? = some x ∧ ys[i]? = some y ∧ d = .tup [x, y]
  | [], _, _, _, h => by simp [zipD] at h
  | _ :: _, [], _, _, h => by simp [zipD] at h
  | x :: xs, y :: ys, 0, d, h => by
    have : D.tup [x, y] = d := by simpa [zipD] using h
    exact ⟨x, y, rfl, rfl, this.symm⟩
  | x :: xs, y :: ys, i + 1, d, h => by
    have h' : (zipD xs ys)[i]? = some d := by simpa [zipD] using h
    obtain ⟨a, b, h1, h2, h3⟩ := zipD_get h'
    exact ⟨a, b, by simpa using h1, by simpa using h2, h3⟩
theorem zipD_len : ∀ {xs ys : List D}, (zipD xs ys).length = min xs.length ys.length
  | [], ys => by simp [zipD]
  | _ :: _, [] => by simp [zipD]
  | x :: xs, y :: ys => by
    unfold zipD
    rw [List.length_cons, zipD_len, List.length_cons, List.length_cons]
    omega
def zipX (x y : D) : Option (List D) := match x, y with
  | .lst xs, .lst ys => some (zipD xs ys)
  | .tup xs, .tup ys => some (zipD xs ys)
  | _, _ => none
def mZip (r : MA) : MA := fun w => match r w with
  | .ok [x, y] w1 => match zipX x y with
    | some ds => .ok ds w1
    | none => .bad
  | .ok _ _ => .bad
  | r => r
theorem walks_zip {K : PySem.W.Frag} {p q : Addr} {ds es : List D} {xs ys : List V} (hx : G.Z p = some (.lst xs)) (hy : G.Z q = some (.lst ys)) (rx : Rps R G ds xs) (ry : Rps R G es ys) : Walks R (Itz K p q) (zipD ds es) G := fun G2 H2 le s => by
  have hx2 : SqL K H2 p xs := .inl (.inl (s _ _ (le.z _ _ hx)))
  have hy2 : SqL K H2 q ys := .inl (.inl (s _ _ (le.z _ _ hy)))
  refine ⟨fun i d e => ?_, ⟨xs, ys, hx2, hy2, ?_⟩⟩
  · obtain ⟨x, y, e1, e2, rfl⟩ := zipD_get e
    obtain ⟨v, ev, rv⟩ := rx.get e1
    obtain ⟨u, eu, ru⟩ := ry.get e2
    refine ⟨⟨xs, ys, v, u, hx2, hy2, ev, eu⟩, fun z H3 ⟨T, v', u', ez, nT, e3, q1, q2⟩ => ?_⟩
    have a1 := q1 xs hx2
    have a2 := q2 ys hy2
    rw [ev] at a1
    rw [eu] at a2
    cases a1
    cases a2
    subst ez e3
    exact rp_pair s nT (rv.mono le) (ru.mono le)
  · rw [zipD_len, ← rx.length, ← ry.length]
    omega
theorem walks_zipT {K : PySem.W.Frag} {p q : Addr} {ds es : List D} {xs ys : List V} (hx : SqT K G.Z p xs) (hy : SqT K G.Z q ys) (rx : Rps R G ds xs) (ry : Rps R G es ys) : Walks R (RZ.ItzT K p q) (zipD ds es) G := fun G2 H2 le s => by
  have hx2 : SqT K H2 p xs := Same.seqT s (Same.seqT le.z hx)
  have hy2 : SqT K H2 q ys := Same.seqT s (Same.seqT le.z hy)
  refine ⟨fun i d e => ?_, ⟨xs, ys, hx2, hy2, ?_⟩⟩
  · obtain ⟨x, y, e1, e2, rfl⟩ := zipD_get e
    obtain ⟨v, ev, rv⟩ := rx.get e1
    obtain ⟨u, eu, ru⟩ := ry.get e2
    refine ⟨⟨xs, ys, v, u, hx2, hy2, ev, eu⟩, fun z H3 ⟨T, v', u', ez, nT, e3, q1, q2⟩ => ?_⟩
    have a1 := q1 xs hx2
    have a2 := q2 ys hy2
    rw [ev] at a1
    rw [eu] at a2
    cases a1
    cases a2
    subst ez e3
    exact rp_pair s nT (rv.mono le) (ru.mono le)
  · rw [zipD_len, ← rx.length, ← ry.length]
    omega
theorem im_zip {p tpos : Pos} {elts : List Expr} {kk : Nat} (ag : Ag X R) (hg : Gl X "zip") (hm : X.mg "zip" = none) (ha : PAm X R Wx [a, b] mr) (hs : starEach [a, b] X.env = (false, eval a X.env) :: starEach [b] X.env := by rfl) (hpl : (backTo pos (starEach [b] X.env)).any (·.1) = false := by rfl) :
    PIm X R Wx (.Tuple elts kk tpos) (.Call (.Name "zip" p) [a, b] [] pos) (mZip mr) :=
  ⟨fun H0 G0 => PI.cons (RZ.pi_zipA hg hm (ha.pe H0 G0) hs hpl) fun σ H Q ⟨G, w, as, rel, h⟩ => by
    refine ⟨G, w, as, rel, ?_⟩
    have h' : (match mZip mr w with
      | .ok ds w' => ∀ J G' H' as', Rel R H0 G0 G' w' σ H' as' → Ext as G H G' H' → (∀ a ∈ as', a ∈ as) → Walks R J ds G' → Q J H'
      | .ex x w' => ∀ cls d G' H' as', Rel R H0 G0 G' w' σ H' as' → ExcR R G' H' x cls d → Wx cls d σ H'
      | .bad => False) := h
    unfold mZip at h'
    cases e : mr w with
    | bad => rw [e] at h'; exact h'
    | ex x w1 => rw [e] at h'; exact h'
    | ok ds w1 =>
      rw [e] at h'
      intro vs G' H' as' rel' ext sub rs
      cases rs with
      | nil => exact h'.elim
      | @cons d ds v vs r1 rs =>
        cases rs with
        | nil => exact h'.elim
        | @cons d2 ds2 v2 vs2 r2 rs =>
          cases rs with
          | cons _ _ => exact h'.elim
          | nil =>
            cases ez : zipX d d2 with
            | none => simp only [ez] at h'
            | some zs =>
              simp only [ez] at h'
              unfold zipX at ez
              split at ez
              · cases r1 with
                | lst hx rx =>
                  cases r2 with
                  | lst hy ry =>
                    cases ez
                    exact ⟨_, _, _, _, rfl, .inl ⟨.inl (.inl (rel'.bas.sub _ _ hx)), .inl (.inl (rel'.bas.sub _ _ hy)), h' _ G' H' as' rel' ext sub (walks_zip hx hy rx ry)⟩⟩
              · cases r1 with
                | tup hx rx =>
                  cases r2 with
                  | tup hy ry =>
                    cases ez
                    exact ⟨_, _, _, _, rfl, .inr ⟨by rw [ag.K]; exact Same.seqT rel'.bas.sub hx, by rw [ag.K]; exact Same.seqT rel'.bas.sub hy, h' _ G' H' as' rel' ext sub (by rw [ag.K]; exact walks_zipT hx hy rx ry)⟩⟩
              · cases ez⟩
end
end DB

set_option Elab.async false
set_option linter.all false
set_option maxRecDepth 100000
set_option maxHeartbeats 4000000
namespace DB
open PySem PySem.Spec PyProof.Rows L2
section
variable {R R' : RC} {H0 H H' H1 H2 : Hp} {G0 G G' G1 G2 : Wd} {w w' w1 : W} {σ σ' : L2.St} {as as' as1 as2 bs : List Addr} {Wx : WX} {X : Cx}
  {a b c e elt tg iter : Expr} {ma mb mc m : ME} {pos : Pos} {es ifs : List Expr} {st : Stmt} {rest body orelse : List Stmt} {m1 m2 ms : MS} {mr : MA}

/-! a list of one's own becomes a cell of the store -/
def Wd.more (G : Wd) (p : Addr) : Wd := { G with sas := G.sas ++ [p] }
theorem more_le {p : Addr} : Wle G (G.more p) := ⟨.refl _, List.prefix_append _ _⟩
theorem Rel.cell {p : Addr} {c : Cell} (rel : Rel R H0 G0 G w σ H as) (hc : RCell R G H p c) (hz : G.Z p = none) (hs : p ∉ G.sas) (ha : p ∉ as) (h0 : H0 p = none) : Rel R H0 G0 (G.more p) { w with S := w.S ++ [c] } σ H as where
  env := rel.env.mono more_le fun _ _ _ h => h
  bas := {
    cells := by
      refine ⟨by simp [Wd.more, rel.bas.cells.1], fun n d q h1 h2 => ?_⟩
      by_cases hn : n < w.S.length
      · have h1' : w.S[n]? = some d := by rw [← h1]; exact (List.getElem?_append_left hn).symm
        have hn' : n < G.sas.length := by rw [← rel.bas.cells.1]; exact hn
        have h2' : G.sas[n]? = some q := by rw [← h2]; exact (List.getElem?_append_left hn').symm
        exact (rel.bas.cells.2 n d q h1' h2').mono more_le rfl
      · have hlt : n < (w.S ++ [c]).length := (List.getElem?_eq_some_iff.mp h1).1
        have hn2 : n = w.S.length := by rw [List.length_append] at hlt; simp at hlt; omega
        subst hn2
        have h1' : some c = some d := by rw [← h1]; simp
        cases h1'
        have h2' : some p = some q := by rw [← h2, rel.bas.cells.1]; simp [Wd.more]
        cases h2'
        exact hc.mono more_le rfl
    nd := by
      refine List.nodup_append.mpr ⟨rel.bas.nd, by simp, fun x hx y hy z => hs ?_⟩
      rw [← List.mem_singleton.mp hy, ← z]; exact hx
    free := fun q hq => by
      rcases List.mem_append.mp hq with y | y
      · exact rel.bas.free q y
      · rw [List.mem_singleton.mp y]; exact hz
    sub := rel.bas.sub
    tabs := rel.bas.tabs
    ext := ⟨rel.bas.ext.le.trans more_le, rel.bas.ext.keep, rel.bas.ext.newZ, fun q hq => by
      rcases List.mem_append.mp hq with y | y
      · exact rel.bas.ext.newS q y
      · rw [List.mem_singleton.mp y]; exact .inr h0, rel.bas.ext.dom⟩ }
  nd := by
    obtain ⟨n1, n2, n3⟩ := List.nodup_append.mp rel.nd
    refine List.nodup_append.mpr ⟨n1, List.nodup_append.mpr ⟨n2, by simp, fun x hx y hy z => hs ?_⟩, fun x hx y hy z => ?_⟩
    · rw [← List.mem_singleton.mp hy, ← z]; exact hx
    · rcases List.mem_append.mp hy with q | q
      · exact n3 x hx y q z
      · exact ha (by rw [← List.mem_singleton.mp q, ← z]; exact hx)
  free := rel.free
  fresh := rel.fresh
def cellRS (i : Nat) (rv : RV) (w : W) : RS := match rv with
  | .own ds => setRV i (.d (.cell w.S.length)) { w with S := w.S ++ [.lst ds] }
  | _ => .bad
def mSetC (i : Nat) (m : ME) : MS := fun w => (m w).sd (cellRS i)
theorem sm_setC {i : Nat} {x : Str} {pos' : Pos} (hN : X.N.Nodup) (hi : X.N[i]? = some x) (hx : Loc X.env.scope x) (he : PEm X R Wx e m) (hs : swapsWith e (some (.Name x pos')) pos.line X.env = pure false := by rfl) (hf : X.fn x = true ∨ X.env.scope.names.lookup x = some .local := by first | exact .inl rfl | exact .inr rfl | assumption) :
    PSm X R Wx (.Assign [.Name x pos'] e pos) (mSetC i m) :=
  ⟨fun H0 G0 => PS.cons (ps_set hN hi hx (he.pe H0 G0) hs hf) fun D' σ H ⟨G, w, as, rel, h⟩ => by
    refine lift_sd rel h fun rv v G1 H1 as1 bs w1 rel1 _ _ sl lo _ h1 => ?_
    cases sl with
    | @own p ds xs hp rs =>
      obtain ⟨l1, l2, l3, l4⟩ := lo p (List.mem_singleton.mpr rfl)
      have rel2 := rel1.cell (c := .lst ds) ⟨xs, hp, rs⟩ l1 l2 l3 l4
      have hg : Rp R (G1.more p) (.cell w1.S.length) (.ref p) := .cell (by rw [rel1.bas.cells.1]; simp [Wd.more])
      exact set_post rel2 (.d hg) (by intro b hb; simp at hb) (PostS.up h1 more_le)
    | _ => exact h1.elim⟩

/-! a cell's list is read -/
def cixR (k : D) (n : Nat) (w : W) : Res := match k, w.S[n]? with
  | .int j, some (.lst ds) => match atI ds j with
    | some x => .ok (.d x) w
    | none => .bad
  | _, _ => .bad
def mCIx (i : Nat) (mk : ME) : ME := fun w => match w.env[i]? with
  | some (.d (.cell n)) => (mk w).bd fun k w1 => cixR k n w1
  | _ => .bad
theorem Rel.cellAt {i n : Nat} (r : Rel R H0 G0 G w σ H as) (e : w.env[i]? = some (.d (.cell n))) : ∃ p, σ[i]? = some (some (.ref p)) ∧ G.sas[n]? = some p := by
  obtain ⟨o, bs, cs, e1, e2, _⟩ := r.env.at e
  cases e2 with
  | d h => cases h with
    | cell h => exact ⟨_, e1, h⟩
theorem em_cix (i : Nat) {x : Str} {p : Pos} {mk : ME} (ag : Ag X R) (hk : PEm X R Wx b mk) (hs : PlainIx b) (hN : X.N[i]? = some x := by rfl) (hv : Vis X.env.scope x := by first | exact Or.inl rfl | exact Or.inr (Or.inl rfl) | exact Or.inr (Or.inr rfl)) (hd : (x == ("__debug__" : Str)) = false := by decide)
    (hcd : (x == ("__classdict__" : Str)) = false := by decide) : PEm X R Wx (.Subscript (.Name x p) b pos) (mCIx i mk) :=
  ⟨fun H0 G0 => PE.cons (pe_ix ix_seq (pe_var hN hv hd hcd) (hk.pe H0 G0) hs) fun σ H Q ⟨G, w, as, rel, h⟩ => by
    have h' : PostE R H0 G0 Wx σ G H as (mCIx i mk w) Q := h
    unfold mCIx at h'
    split at h'
    · rename_i n e
      obtain ⟨q, es, eg⟩ := rel.cellAt e
      refine ⟨_, es, ?_⟩
      show liftE R Wx H0 G0 mk σ H _
      refine lift_bd rel h' fun v k G1 H1 as1 w1 rel1 le1 rk h1 => ?_
      unfold cixR at h1
      split at h1
      · rename_i j ds eS
        have eg1 := pre_get le1.s eg
        obtain ⟨xs, hx, rs⟩ := rel1.bas.cells.2 n _ q eS eg1
        cases rk
        cases ea : atI ds j with
        | none => simp only [ea] at h1; exact h1.elim
        | some y =>
          simp only [ea] at h1
          obtain ⟨u, ev, ru⟩ := rs.atI ea
          exact .inl ⟨q, xs, j, u, rfl, rfl, .inl (.inl hx), ev, (h1.new rel1).sc rel1.bas.sub ru⟩
      · exact h1.elim
    · exact h'.elim⟩

/-! a cell's list is changed -/
theorem Rel.mutC {n : Nat} {p : Addr} {ds ds' : List D} {xs xs' : List V} (r : Rel R H0 G0 G w σ H as) (e : w.S[n]? = some (.lst ds)) (eg : G.sas[n]? = some p) (hp : H p = some (.lst xs)) (rs' : Rps R G ds' xs') :
    Rel R H0 G0 G { w with S := w.S.set n (.lst ds') } σ (upd H p (.lst xs')) as where
  env := r.env.mono (.refl _) fun q hq u eu => by
    rw [upd_ne (fun z => (List.nodup_append.mp r.nd).2.2 q hq p (List.mem_of_getElem? eg) z)]; exact eu
  bas := {
    cells := by
      refine ⟨by simp [r.bas.cells.1], fun k c q h1 h2 => ?_⟩
      by_cases hk : k = n
      · subst hk
        rw [eg] at h2
        cases h2
        have hl : k < w.S.length := (List.getElem?_eq_some_iff.mp e).1
        rw [List.getElem?_set_self hl] at h1
        cases h1
        exact ⟨xs', upd_same, rs'⟩
      · rw [List.getElem?_set_ne (Ne.symm hk)] at h1
        have hq : q ≠ p := fun z => by
          rw [z] at h2
          have l1 := (List.getElem?_eq_some_iff.mp h2)
          have l2 := (List.getElem?_eq_some_iff.mp eg)
          obtain ⟨a1, b1⟩ := l1
          obtain ⟨a2, b2⟩ := l2
          exact hk ((List.getElem_inj r.bas.nd).mp (b1.trans b2.symm))
        exact (r.bas.cells.2 k c q h1 h2).mono (.refl _) (upd_ne hq)
    nd := r.bas.nd
    free := r.bas.free
    sub := fun q u eu => by
      rw [upd_ne (fun z => by rw [z, r.bas.free p (List.mem_of_getElem? eg)] at eu; cases eu)]
      exact r.bas.sub q u eu
    tabs := tabs_upd r.bas.tabs hp
    ext := ⟨r.bas.ext.le, fun q u eu t hq => by
      by_cases z : q = p
      · rcases r.bas.ext.newS p (List.mem_of_getElem? eg) with y | y
        · exact absurd (by rw [z]; exact y) hq
        · rw [z, y] at eu; cases eu
      · rw [upd_ne z]; exact r.bas.ext.keep q u eu t hq, r.bas.ext.newZ, r.bas.ext.newS, fun q eq => by
      by_cases z : q = p
      · rw [z] at eq; rw [upd_same] at eq; cases eq
      · rw [upd_ne z] at eq; exact r.bas.ext.dom q eq⟩ }
  nd := r.nd
  free := r.free
  fresh := r.fresh
def setCRS (n : Nat) (y k : D) (w : W) : RS := match k, w.S[n]? with
  | .int j, some (.lst ds) => match ixN ds.length j with
    | some q => .nx { w with S := w.S.set n (.lst (ds.set q y)) }
    | none => .bad
  | _, _ => .bad
def mCSet (i : Nat) (mk m : ME) : MS := fun w => (m w).sdd fun y w1 => match w1.env[i]? with
  | some (.d (.cell n)) => (mk w1).sdd fun k w2 => setCRS n y k w2
  | _ => .bad
theorem sm_cset (i : Nat) {x : Str} {k : Expr} {mk : ME} {p spos : Pos} (hN : X.N[i]? = some x := by rfl) (hv : Vis X.env.scope x := by first | exact Or.inl rfl | exact Or.inr (Or.inl rfl) | exact Or.inr (Or.inr rfl)) (hk : PEm X R Wx k mk) (he : PEm X R Wx e m) (hd : (x == ("__debug__" : Str)) = false := by decide)
    (hcd : (x == ("__classdict__" : Str)) = false := by decide) (hs : swapsWithSole [.Subscript (.Name x p) k spos] e pos.line X.env = pure false := by rfl) (hw : swappedStores [.Subscript (.Name x p) k spos] e X.env = pure none := by rfl)
    (h1 : (assignEach [.Subscript (.Name x p) k spos] X.env).map (·.2) = [assign (.Subscript (.Name x p) k spos) X.env] := by rfl)
    (hasg : ∀ v, assign (.Subscript (.Name x p) k spos) X.env v = (do
      let ov ← holding [v] (eval (.Name x p) X.env)
      let iv ← holding [v, ov] (eval k X.env)
      standAt spos
      holding [v, ov, iv] (setItem ov iv v)
      release [v, ov, iv] []) := by intro _; rfl) :
    PSm X R Wx (.Assign [.Subscript (.Name x p) k spos] e pos) (mCSet i mk m) :=
  ⟨fun H0 G0 => PS.cons (ps_asg (he.pe H0 G0) (pg_sub (pe_var hN hv hd hcd) (hk.pe H0 G0) set_list hasg) hs hw h1) fun D' σ H ⟨G, w, as, rel, h⟩ => by
    refine lift_sdd rel h fun y v G1 H1 as1 w1 rel1 ext sub rp h1 => ?_
    split at h1
    · rename_i n e0
      obtain ⟨q, es, eg⟩ := rel1.cellAt e0
      refine ⟨_, es, ?_⟩
      refine lift_sdd rel1 h1 fun kk vk G2 H2 as2 w2 rel2 ext2 sub2 rpk h2 => ?_
      unfold setCRS at h2
      split at h2
      · rename_i j ds eS
        have eg2 := pre_get ext2.le.s eg
        obtain ⟨xs, hx, rs⟩ := rel2.bas.cells.2 n _ q eS eg2
        cases rpk
        cases en : ixN ds.length j with
        | none => simp only [en] at h2; exact h2.elim
        | some k =>
          simp only [en] at h2
          have rel3 := rel2.mutC eS eg2 hx (rs.set (rp.mono ext2.le) k)
          exact ⟨_, xs, j, k, rfl, rfl, hx, by rw [← rs.length]; exact en, h2 σ G2 _ as2 rel3 (.refl _)⟩
      · exact h2.elim
    · exact h1.elim⟩
end
end DB

set_option Elab.async false
set_option linter.all false
set_option maxRecDepth 100000
set_option maxHeartbeats 4000000
namespace DB
open PySem PySem.Spec PySem.HandSPX
section
open Builtin
variable {prog : Program} {w : World} {A : Around} {E : Value → Shared → Prop} {P : Result → Shared → Prop} {hh : Heap} {gg : Array GenState} {dr : Drawn} {tk : Nat} {os : OsState}
variable {nm q : Str} {C N fI : Addr} {bs bm bmB : List Value} {hdct : Bool} {sn : List Str} {sub : List Value} {ab : Bool} {col : Option Bool} {dd : Option Addr} {k0 k1 k2 k3 k5 : Option Value} {B newId initId : String} {kw : List (Str × Value)}
theorem chk_newK (Fa : ExcBaseFacts B newId initId bmB) (same : ∀ T : String, bm.contains (.type T) = bmB.contains (.type T)) {Q : Unit → Shared → Prop}
    (eC : hh.get? C = some (excClassObj nm q C N bs bm hdct sn sub ab col dd k0 k1 k2 k3 k5 newId)) (fin : Q () ⟨hh, gg, dr, tk, os⟩) : wpAny (model prog w) A (checkBuiltinCall newId ⟨[.ref C], kw⟩) Q E ⟨hh, gg, dr, tk, os⟩ := by
  have has : (Value.ref C :: bm).contains (.type B) = true := by rw [List.contains_cons, same, Fa.hasB, Bool.or_true]
  have star := Fa.noStar
  simp only [checkBuiltinCall, Fa.newKind, Fa.newSplit, Fa.newRow]
  repeat (first | refine wpAny_loadPart_at eC ?_ | (refine wpAny_isSubtype_exc eC ?_; rw [has]) | refine wpAny_staticBase_exc eC ?_ | refine wpAny_madeBy_exc eC ?_ | simp only [bne_self_eq_false, Bool.false_eq_true, if_false] | wp_step)
  exact fin
theorem newK (Fa : ExcBaseFacts B newId initId bmB) (same : ∀ T : String, bm.contains (.type T) = bmB.contains (.type T))
    (eC : hh.get? C = some (excClassObj nm q C N bs bm hdct sn sub ab col dd k0 k1 k2 k3 k5 newId))
    (fin : P (.ok (.ret (.ref (hh.objs.size + 1)))) ⟨(hh.push (W.kdv_tup [])).push (excO C hh.objs.size), gg, dr, tk, os⟩) : codeAny (model prog w) A (.builtin newId ⟨[.ref C], kw⟩) P ⟨hh, gg, dr, tk, os⟩ := by
  have z0 := Fa.ends
  have z1 : (Value.ref C :: bm).contains (.type B) = true := by rw [List.contains_cons, same, Fa.hasB, Bool.or_true]
  have z2 : (Value.ref C :: bm).contains (.type "AttributeError") = false := by rw [List.contains_cons, same, Fa.noAttr]; rfl
  have z3 : (Value.ref C :: bm).contains (.type "NameError") = false := by rw [List.contains_cons, same, Fa.noName]; rfl
  refine codeAny_builtinAt Fa.entry ?_
  unfold Builtin.«BaseException.__new__»
  refine wpAt_bind ?_
  show wpAt _ _ _ (stack >>= _) _ _ _
  refine wpAt_bind (wpAt_stack fun p below => wpAt_of_wpAny ?_)
  wp_walk
  refine wpAt_of_wpAny ?_
  rw [Fa.owner]
  have hrest : ([] : List Value).length ≤ sizeLine := Nat.zero_le _
  repeat (first | with_reducible refine wpAny_madeHere_exc Fa.canon eC ?_ | with_reducible refine wpAny_loadPart_at eC ?_ | (with_reducible refine wpAny_isSubtype_exc eC ?_; first | rw [z1] | rw [z2] | rw [z3]) | wp_step)
  show P _ _
  rw [Heap.size_push]
  exact fin
theorem tcallK (Fa : ExcBaseFacts B newId initId bmB) (same : ∀ T : String, bm.contains (.type T) = bmB.contains (.type T)) {Q : Fin → Shared → Prop}
    (eC : hh.get? C = some (excClassObj nm q C N bs bm hdct sn sub ab col dd k0 k1 k2 k3 k5 newId))
    (li : W.Looks (model prog w) hh (typeLookup (.ref C) "__init__") (some (.ref fI))) (lb : ∀ self, W.Looks (model prog w) hh (bindSpecial (.ref fI) self) (.ref fI, [self]))
    (fin : codeAny (model prog w) A (.call (.ref fI) ⟨[.ref (hh.objs.size + 1)], kw⟩)
      (fun r s' => match r with | .ok (.ret v) => v = .none ∧ Q (.done (.ret (.ref (hh.objs.size + 1)))) s' | .ok _ => False | .error e => E e s')
      ⟨(hh.push (W.kdv_tup [])).push (excO C hh.objs.size), gg, dr, tk, os⟩) :
    wpAny (model prog w) A (Builtin.«type.__call__» ⟨[.ref C], kw⟩) Q E ⟨hh, gg, dr, tk, os⟩ := by
  repeat (first | with_reducible refine wpAny_loadPart_at eC ?_ | with_reducible refine wpAny_madeBy_exc eC ?_ | wp_step)
  refine codeAny_call_builtin_code (Code.quiet_builtin _ Fa.quiet) (chk_newK Fa same eC ?_)
  refine newK Fa same eC ?_
  show wpAny _ _ _ _ _ _
  have kp : ∀ b o, hh.get? b = some o → ((hh.push (W.kdv_tup [])).push (excO C hh.objs.size)).get? b = some o := fun b o e => Heap.get?_push_of_some _ (Heap.get?_push_of_some _ e)
  have eC1 := kp _ _ eC
  have eN : ((hh.push (W.kdv_tup [])).push (excO C hh.objs.size)).get? (hh.objs.size + 1) = some (excO C hh.objs.size) := by heap_get
  have cC : (Value.ref C :: bm).contains (.ref C) = true := by simp
  have li1 := li.keeps kp
  have lb1 := (lb (.ref (hh.objs.size + 1))).keeps kp
  unfold isInstance
  repeat (first | with_reducible refine wpAny_loadPart_at eN ?_ | (with_reducible refine wpAny_isSubtype_exc eC1 ?_; rw [cC]) | wp_step)
  show wpAny _ _ (typeLookup (.ref C) _) _ _ _
  refine li1.at ?_
  refine wpAny_holding (wpAny_bind (lb1.at ?_))
  refine wpAny_bind (wpAny_call (codeAny_mono fin fun r s' z => ?_))
  rcases r with e | (v | _ | _ | _) <;> first | exact z | exact z.elim | skip
  obtain ⟨rfl, z⟩ := z
  first
    | exact wpAny_pure (wpAny_pure z)
    | (wp_walk; exact z)
theorem callK (Fa : ExcBaseFacts B newId initId bmB) (same : ∀ T : String, bm.contains (.type T) = bmB.contains (.type T))
    (eC : hh.get? C = some (excClassObj nm q C N bs bm hdct sn sub ab col dd k0 k1 k2 k3 k5 newId))
    (li : W.Looks (model prog w) hh (typeLookup (.ref C) "__init__") (some (.ref fI))) (lb : ∀ self, W.Looks (model prog w) hh (bindSpecial (.ref fI) self) (.ref fI, [self]))
    (fin : codeAny (model prog w) (A.under (.builtin "type.__call__" ⟨[.ref C], kw⟩)) (.call (.ref fI) ⟨[.ref (hh.objs.size + 1)], kw⟩) (W.InitBack (hh.objs.size + 1) P)
      ⟨(hh.push (W.kdv_tup [])).push (excO C hh.objs.size), gg, dr, tk, os⟩) :
    codeAny (model prog w) A (.call (.ref C) ⟨[], kw⟩) P ⟨hh, gg, dr, tk, os⟩ := by
  have z1 := tc_lookup
  have z2 := tc_bind (.ref C)
  have z3 : (⟨hh, gg, dr, tk, os⟩ : Shared).TypeIs (.ref C) "type" := ⟨_, eC, rfl⟩
  refine codeAny_of_tree ?_
  show wpAny _ _ (callAny (.ref C) _) _ _ _
  repeat (any_goals (first | assumption | with_reducible refine wpAny_loadPart_at eC ?_ | wp_step))
  refine ⟨rfl, ?_⟩
  refine codeAny_call_builtin_at (Code.quiet_builtin _ (by decide +kernel)) entry_typeCall (wpAny_check_type_call_sub eC (tcallK Fa same eC li lb ?_))
  refine codeAny_mono fin fun r s' z => ?_
  rcases r with e | (v | _ | _ | _) <;> exact z
end

open PyProof.Rows L2
/-! C(k = v, ..): an own exception class with own __init__, keywords alone -/
/-- what its __init__ tells: self's dict has the fields, the last first -/
def spX (K : PySem.W.Frag) (fs : List Str) : Sp := fun vs H Q _ => ∃ (a C : Addr) (zs : List V), vs = .ref a :: zs ∧ zs.length = fs.length ∧ OexC K C ∧ (∀ f ∈ fs, PySem.W.findIn K (.ref C) f = some none) ∧ H a = some (exo a C none) ∧ ∀ dx, H dx = none → dx ≠ a → Q .non (upd (upd H dx (exd dx (fs.reverse.zip zs.reverse))) a (exo a C (some dx)))
structure OwnX (P : Program) (w : World) (K : PySem.W.Frag) (mg : Str → Option Value) (base : Heap) (cls : Str) (k : Nat) (fs : List Str) : Prop where
  ex : ∃ C fI fd ps, mg cls = some (.ref C) ∧ OexC K C ∧ PySem.W.findIn K (.ref C) "__init__" = some (some (.ref fI)) ∧ PySem.W.typeIn K (.ref fI) = some (.type "function") ∧
    (∀ f ∈ fs, PySem.W.findIn K (.ref C) f = some none) ∧ FnOk P w K mg base (L2.CX P w) k fI fd ps (spX K fs) ∧ KBn K fd ps 1 fs (fun us ws => us ++ ws) (fun vs zs => vs ++ zs)
section
variable {X : Cx} {R : RC} {Wx : WX} {x cls : Str} {fs : List Str} {k : Nat} {p pos : Pos} {kws : List Keyword} {t : TA}
theorem made_heap {H : Hp} {a C d : Addr} {o u : HO} (ha : H a = none) (hd : d ≠ a) : upd (del (upd (upd (upd H a (exo a C none)) d o) a (exo a C (some d))) a) d u = upd H d u := by
  funext b
  by_cases hb : b = d
  · rw [hb, upd_same, upd_same]
  · rw [upd_ne hb, upd_ne hb]
    by_cases hba : b = a
    · rw [hba, del_same, ha]
    · rw [del_ne hba, upd_ne hba, upd_ne hb, upd_ne hba]
theorem pmk_kw (O : OwnX X.prog X.w X.K X.mg X.base cls k fs) (hr : Room (k + 1) X.A) (hx : Passes (L2.CX X.prog X.w) X (fun _ _ _ => False)) (hg : Gl X cls) (ha : PK X kws t)
    (hdb : (cls == ("__debug__" : Str)) = false := by decide) (hall : (backToKw pos (keywordEach kws X.env)).all (·.1.isSome) = true := by rfl) (hks : (backToKw pos (keywordEach kws X.env)).filterMap (·.1) = fs := by rfl)
    (hpl : ((backTo pos (starEach [] X.env)).any (·.1) || (backToKw pos (keywordEach kws X.env)).any (·.1.isNone)) = false := by rfl) :
    PMk X (.Call (.Name cls p) [] kws pos) (fun σ H Q => t σ H fun zs H1 => zs.length = fs.length ∧ ∃ C, X.mg cls = some (.ref C) ∧ ∀ d, H1 d = none → Q (.ref C) (some d) (upd H1 d (.xd (fs.reverse.zip zs.reverse)))) := by
  intro pins s σ H Q I h
  obtain ⟨C, fI, fd, ps, gC, T, iC, tI, hno, Fn, kb⟩ := O.ex
  obtain ⟨nm, q, N, bs, bm, sn, sub, ab, col, dd, k0, k1, k2, k3, k5, hC, hbm⟩ := T.cls
  refine wpAny_Call_Name_kw (ld_glob I hg gC ?_ hdb)
  refine PySem.W.callWith_KW0 (h₀ := X.base) I.ok.mod.kin T.kC hall ?_ hpl
  refine thn (ha.run pos pins s σ H _ I h) fun ws s1 ⟨zs, H1, I1, rz, lz, C', gC', q1⟩ => ⟨I1.kIn, ?_⟩
  rw [gC] at gC'
  cases gC'
  rw [hks]
  show wpAny _ _ (call (.ref C) [] (fs.zip ws)) _ _ _
  obtain ⟨hp, g, dr, tk, os⟩ := s1
  have hsz : hp.objs.size ≤ hp.objs.size + 1 := Nat.le_succ _
  have hn : H1 (hp.objs.size + 1) = none := I1.hok.fresh hsz
  have kk : ∀ b o, hp.get? b = some o → ((hp.push (PySem.W.kdv_tup [])).push (excO C hp.objs.size)).get? b = some o := fun b o e => Heap.get?_push_of_some _ (Heap.get?_push_of_some _ e)
  have hget : ((hp.push (PySem.W.kdv_tup [])).push (excO C hp.objs.size)).get? (hp.objs.size + 1) = some (excO C hp.objs.size) := by heap_get
  have I2 : Inv X pins σ (upd H1 (hp.objs.size + 1) (exo (hp.objs.size + 1) C none)) ⟨(hp.push (PySem.W.kdv_tup [])).push (excO C hp.objs.size), g, dr, tk, os⟩ :=
    I1.laid (t' := tk) (a := hp.objs.size + 1) (o := exo (hp.objs.size + 1) C none) (h' := (hp.push (PySem.W.kdv_tup [])).push (excO C hp.objs.size)) kk hsz (exo_ok hget)
  have r2 : Vals ([V.ref (hp.objs.size + 1)] ++ zs) ([Value.ref (hp.objs.size + 1)] ++ ws) := kb.rel (.cons rfl .nil) rz
  have lw : ws.length = fs.length := by rw [← rz.length]; exact lz
  refine wpAny_call (callK F.excBase_ValueError (fun Y => refsVE_contains Y bm hbm) (I1.kIn _ _ hC) (PySem.W.looks_findIn I1.kIn iC) (fun self => PySem.W.bind_fn I1.kIn self tI)
    (codeAny_mono (Fn.run _ X.stack _ _ ⟨[Value.ref (hp.objs.size + 1)], fs.zip ws⟩ ([Value.ref (hp.objs.size + 1)] ++ ws) ([V.ref (hp.objs.size + 1)] ++ zs)
      (fun v H2 => v = .non ∧ ∃ d, d ≠ hp.objs.size + 1 ∧ H1 d = none ∧ H2 = upd (upd (upd H1 (hp.objs.size + 1) (exo (hp.objs.size + 1) C none)) d (exd d (fs.reverse.zip zs.reverse))) (hp.objs.size + 1) (exo (hp.objs.size + 1) C (some d))) (fun _ _ _ => False)
      (hr.make C [] (fs.zip ws)) (I2.env0.make C [] (fs.zip ws)) (kb.to _ [Value.ref (hp.objs.size + 1)] ws I2.kIn rfl lw) r2 ?_) fun r s' hq' => ?_))
  · exact ⟨_, C, zs, rfl, lz, T, hno, upd_same, fun dx hdx hne => ⟨rfl, dx, hne, by rw [upd_ne hne] at hdx; exact hdx, rfl⟩⟩
  · cases r with
    | error er => exact hx pins σ _ _ er s' I2 hq'
    | ok fl =>
      cases fl with
      | ret u =>
        obtain ⟨v, H2, os2, bare2, un2, hok2, rv, ev, d, hda, hd1, eH⟩ := hq'
        subst ev
        subst eH
        obtain ⟨h2, g2, d2, t2, os'⟩ := s'
        have ed : upd (upd (upd H1 (hp.objs.size + 1) (exo (hp.objs.size + 1) C none)) d (exd d (fs.reverse.zip zs.reverse))) (hp.objs.size + 1) (exo (hp.objs.size + 1) C (some d)) d = some (exd d (fs.reverse.zip zs.reverse)) := by rw [upd_ne hda]; exact upd_same
        exact ⟨rv, mk_end (raises_own T.exC T.tyC) I1 hsz kk un2 hok2 os2 bare2 upd_same ed hd1 (by rw [made_heap hn hda]; exact q1 d hd1)⟩
      | next => exact False.elim hq'
      | brk => exact False.elim hq'
      | cont => exact False.elim hq'
end

/-! the __init__ of such a class -/
/-- the class above all -/
structure XBase (K : PySem.W.Frag) (mg : Str → Option Value) (x : Str) : Prop where
  ex : ∃ CB mc, mg x = some (.ref CB) ∧ PySem.W.specialIn K (.ref CB) "__getattribute__" = some (some (.builtin "type.__getattribute__")) ∧ PySem.W.readsIn K CB mc = true ∧ PySem.W.findCls K (.ref CB) mc "__init__" = some (.val (.builtin "ValueError.__init__"))
section
variable {X : Cx} {e : Expr} {es : List Expr} {ta : TA} {x : Str} {p1 p2 pos : Pos}
theorem pe_ownInit {pl : Sem Bool} (B : XBase X.K X.mg x) (hg : Gl X x) (ha : PA X (e :: es) ta) (hdb : (x == ("__debug__" : Str)) = false := by decide)
    (hc : eval (.Call (.Attribute (.Name x p1) "__init__" p2) (e :: es) [] pos) X.env = (do
      let ov ← eval (.Name x p1) X.env
      standAt p2.atName
      let (f, first) ← holding [ov] (getMethod ov "__init__" pl)
      callWith pos f first (backTo pos (starEach (e :: es) X.env)) (backToKw pos (keywordEach [] X.env))) := by rfl)
    (he : starEach (e :: es) X.env = (false, eval e X.env) :: starEach es X.env := by rfl) (hpl : (backTo pos (starEach es X.env)).any (·.1) = false := by rfl) :
    PE X (.Call (.Attribute (.Name x p1) "__init__" p2) (e :: es) [] pos) (tVeI X.K ta) := by
  obtain ⟨CB, mc, gm, hga, hrd, hf⟩ := B.ex
  refine ⟨fun pins s σ H Q I h => ?_⟩
  refine PySem.W.methodCall_KW (ld_glob I hg gm ?_ hdb) hc
  refine PySem.W.method_cls I.kIn hga (PySem.W.cls_value I.kIn hrd hf (by decide +kernel) ?_)
  show wpAny _ _ (callWith pos (Value.builtin "ValueError.__init__") [] (backTo pos (starEach (e :: es) X.env)) []) _ _ _
  refine PyProof.Rows.callWith_method1 (thn (ha.run pos pins _ σ H _ (I.tok _) h) fun us s1 ⟨vs, H1, I1, r1, a, C, ws, ev, hl, T, ea, q⟩ => ?_) he hpl
  subst ev
  cases r1 with
  | @cons _ u0 _ ur ra rw' =>
    obtain rfl : u0 = Value.ref a := ra
    have hlen : ur.length ≤ sizeLine := by
      rw [← Paired.length rw', sizeLine_eq]
      omega
    exact oinit_ok T I1 ea hlen fun s' J => ⟨.non, H1, J, rfl, q⟩
end
def tInit (K : PySem.W.Frag) : TS := tDrop (tVeI K (tCons (tVar 0) (tCons (tC (.str "refused")) tNil)))
theorem run_init {K : PySem.W.Frag} {D' : Ends} {a C : Addr} {σ : L2.St} {H : Hp} (e0 : σ[0]? = some (some (.ref a))) (T : OexC K C) (ea : H a = some (exo a C none)) (h : D'.nx σ H) : tInit K D' σ H :=
  ⟨_, e0, ⟨a, C, [.str "refused"], rfl, by simp, T, ea, h⟩⟩
theorem init_run1 {K : PySem.W.Frag} {f : Str} {vs : List V} {H : Hp} {Q : VK} {E : XK} (h : spX K [f] vs H Q E) : tSeq (tInit K) (tOst K f (tVar 0) (tVar 1)) { nx := fun _ H' => Q .non H', rt := Q } (L2.start ["self", f] vs) H := by
  obtain ⟨a, C, zs, rfl, lz, T, hno, ea, q⟩ := h
  match zs, lz with
  | [y], _ =>
    refine run_init (a := a) rfl T ea ?_
    exact ⟨_, rfl, ⟨_, rfl, a, C, rfl, T, hno f (by simp), .inl ⟨ea, fun dx hdx hne => q dx hdx hne⟩⟩⟩
theorem init_run2 {K : PySem.W.Frag} {f g : Str} {vs : List V} {H : Hp} {Q : VK} {E : XK} (h : spX K [f, g] vs H Q E) : tSeq (tInit K) (tSeq (tOst K f (tVar 0) (tVar 1)) (tOst K g (tVar 0) (tVar 2))) { nx := fun _ H' => Q .non H', rt := Q } (L2.start ["self", f, g] vs) H := by
  obtain ⟨a, C, zs, rfl, lz, T, hno, ea, q⟩ := h
  match zs, lz with
  | [y, z], _ =>
    refine run_init (a := a) rfl T ea ?_
    refine ⟨_, rfl, ⟨_, rfl, a, C, rfl, T, hno f (by simp), .inl ⟨ea, fun dx hdx hne => ?_⟩⟩⟩
    refine ⟨_, rfl, ⟨_, rfl, a, C, rfl, T, hno g (by simp), .inr ⟨dx, [(f, y)], upd_same, by rw [upd_ne hne]; exact upd_same, by simp, ?_⟩⟩⟩
    have q1 := q dx hdx hne
    have eq : upd (upd (upd H dx (exd dx [(f, y)])) a (exo a C (some dx))) dx (exd dx [(g, z), (f, y)]) = upd (upd H dx (exd dx [(g, z), (f, y)])) a (exo a C (some dx)) := by
      funext b
      by_cases hb : b = dx
      · rw [hb, upd_same, upd_ne hne, upd_same]
      · rw [upd_ne hb]
        by_cases hba : b = a
        · rw [hba, upd_same, upd_same]
        · rw [upd_ne hba, upd_ne hba, upd_ne hb, upd_ne hb]
    show Q .non (upd (upd (upd H dx (exd dx [(f, y)])) a (exo a C (some dx))) dx (exd dx [(g, z), (f, y)]))
    rw [eq]
    exact q1
end DB

set_option Elab.async false
set_option linter.all false
set_option maxRecDepth 100000
set_option maxHeartbeats 4000000
namespace DB
open PySem PySem.Spec PyProof.Rows L2
/-! several except clauses, with a name or without -/
abbrev ClD := Value × Option Nat × (Addr → Value → Option Addr → TS)
def endG (i : Nat) (D' : Ends) : Ends := { nx := fun σ H => D'.nx (σ.set i none) H, rt := D'.rt, bk := fun σ H => D'.bk (σ.set i none) H, ct := fun σ H => D'.ct (σ.set i none) H }
def wTry (K : PySem.W.Frag) (Wout : WX) (D' : Ends) : List ClD → WX
  | [] => Wout
  | (c, none, ts) :: r => fun cls d σ H => ∃ b, PySem.W.exmOne K cls c = some b ∧ (b = true → ∀ a, H a = none → ts a cls d D' σ H) ∧ (b = false → wTry K Wout D' r cls d σ H)
  | (c, some i, ts) :: r => fun cls d σ H => ∃ b, PySem.W.exmOne K cls c = some b ∧ (b = true → ∀ a, H a = none → ts a cls d (endG i D') (σ.set i (some (.ref a))) H) ∧ (b = false → wTry K Wout D' r cls d σ H)
inductive TryOk (X : Cx) : List ExceptHandler → List ClD → Prop
  | nil : TryOk X [] []
  | one {x : Str} {c : Value} {ts : Addr → Value → Option Addr → TS} {b₀ : Stmt} {suite : List Stmt} {np pos' : Pos} {hds : List ExceptHandler} {l : List ClD} (hc : Names X x c)
      (hsu : ∀ (a : Addr) (oe : Obj) (cls : Value) (d : Option Addr) (pn : List (Addr × Obj)), Zc cls d oe → (∃ vs, oe.data = .fields vs) → PSs (X.suite a ((a, oe) :: pn)) (b₀ :: suite) (ts a cls d)) (r : TryOk X hds l) :
      TryOk X (.ExceptHandler (some (.Name x np)) none (b₀ :: suite) pos' :: hds) ((c, none, ts) :: l)
  | nam {x n : Str} {i : Nat} {c : Value} {ts : Addr → Value → Option Addr → TS} {b₀ : Stmt} {suite : List Stmt} {np pos' : Pos} {hds : List ExceptHandler} {l : List ClD} (hi : X.N[i]? = some n) (hln : X.env.kindOf n = some .local) (hc : Names X x c)
      (hsu : ∀ (a : Addr) (oe : Obj) (cls : Value) (d : Option Addr) (pn : List (Addr × Obj)), Zc cls d oe → (∃ vs, oe.data = .fields vs) → PSs (X.suite a ((a, oe) :: pn)) (b₀ :: suite) (ts a cls d)) (r : TryOk X hds l) :
      TryOk X (.ExceptHandler (some (.Name x np)) (some n) (b₀ :: suite) pos' :: hds) ((c, some i, ts) :: l)
theorem ps_tryD {X : Cx} {body : List Stmt} {h₀ : ExceptHandler} {hds : List ExceptHandler} {l : List ClD} {pos : Pos} {tb : WX → TS} {Wout : WX}
    (hs : X.stack = X.env :: X.outer) (hf : X.env.frame = some X.env.locals) (hN : X.N.Nodup) (tk : Takes X Wout)
    (hb : ∀ (Wx : WX) (pn : List (Addr × Obj)) (xe : Value → Shared → Prop), Takes (X.tr pn xe) Wx → PassesOwn (model X.prog X.w) X.A X.env xe → PSs (X.tr pn xe) body (tb Wx))
    (hh : TryOk X (h₀ :: hds) l) : PS X (.Try body (h₀ :: hds) [] [] pos) (fun D σ H => tb (wTry X.K Wout D l) D σ H) := by
  refine ⟨fun pins s σ H D I h => ?_⟩
  have okx := I.ok
  have eFr : X.A.frames = some (X.env :: X.outer) := by rw [okx.frames, hs]
  refine wpAny_Try_except ?_
  refine wpAny_mono ((hb (wTry X.K Wout D l) (X.pn ++ pins) (fun e s₁ => wpAny (model X.prog X.w) X.A (noteFrame e X.env) (fun _ s₂ => wpAny (model X.prog X.w) X.A (setFlight e none) (fun _ s₃ =>
    wpAny (model X.prog X.w) X.A (handleBy e X.env (h₀ :: hds)) (SP X pins D) X.xe s₃) X.xe s₂) X.xe s₁) (fun u s' xx => ?_) PassesOwn.looking).run [] s σ H D (I.toTry _) h) (fun f s1 gsp => ?_) (fun e s1 he => he)
  · -- the catch
    obtain ⟨a, B, sJ, pnx, σ', H', cls, d, rfl, Jx, nb, up, sky, na, os, ag, w⟩ := xx
    have J : Inv X pins σ' H' sJ := Jx.ofTry okx
    have skk : Sky B (X.env :: X.outer) a (Zc cls d) X.env.locals s'.heap := by rw [← hs]; exact sky
    show wpAny (model X.prog X.w) X.A (noteFrame (.ref a) X.env) _ _ _
    refine Sky.land Zc.steady eFr hf skk fun hpc flc upc => ?_
    have Jc : Inv X pins σ' H' { s' with heap := hpc } := J.landed nb flc.1 (up.trans upc) os ag
    obtain ⟨obc, vsc, hec, hzc, hdc⟩ := flc.there
    have isFr : ∀ {h : Heap} {o : Obj} {vs : Array Value}, h.FunFrames B (X.env :: X.outer) → h.get? a = some o → o.data = .fields vs → a ∉ frs (X.env :: X.outer) := fun {h o vs} ff e dd hm => by
      obtain ⟨_, o', e', hnf⟩ := ff.mem hm
      rw [e] at e'; cases e'
      exact hnf _ dd
    have nfc := isFr flc.2.2.1 hec hdc
    have noL1 : a ≠ X.env.locals := fun z => nfc (List.mem_filterMap.mpr ⟨X.env, List.mem_cons_self, by rw [hf, z]⟩)
    have noF1 : a ∉ X.fs := fun hm => by
      obtain ⟨e, he, q⟩ := List.mem_filterMap.mp hm
      exact nfc (List.mem_filterMap.mpr ⟨e, List.mem_cons_of_mem _ he, q⟩)
    have Sc := Jc.suite hec hdc na noL1 noF1
    have go : ∀ {hds' : List ExceptHandler} {l' : List ClD}, TryOk X hds' l' → wTry X.K Wout D l' cls d σ' H' →
        wpAny (model X.prog X.w) X.A (handleBy (.ref a) X.env hds') (SP X pins D) X.xe { s' with heap := hpc } := by
      intro hds' l' hk
      induction hk with
      | nil =>
        intro w
        refine wpAny_handleBy_nil ?_
        obtain ⟨k1, k2, k3, oe, vs, T, oT, ts', he, hz, hd, h1, hr⟩ := id flc
        unfold PySem.passOn
        refine wpAny_bind (wpAny_field he hd h1 ?_)
        rw [if_neg (show ¬ ((Value.ref T == Value.none) = true) from by simp)]
        have fn1 : wpAny (model X.prog X.w) X.A (setFlight (.ref a) X.env.frame) (fun _ s4 => wpAny (model X.prog X.w) X.A (throw (.ref a) : Sem Flow) (SP X pins D) X.xe s4) X.xe { s' with heap := hpc } := by
          rw [hf]
          refine HandSPX.setFlight_upZ flc fun hpd hh4 upd4 => wpAny_throw (tk _ _ ?_)
          exact ⟨a, B, sJ, pins, σ', H', cls, d, rfl, J, nb, (up.trans upc).trans upd4, .inr (.inr (by rw [hs]; exact hh4)), na, os, ag, w⟩
        first
          | exact wpAny_bind (wpAny_pure (wpAny_bind fn1))
          | exact wpAny_bind fn1
      | @one x c ts b₀ suite np pos' hds2 l2 hc hsu r ih =>
        intro w
        obtain ⟨b, hb1, hyes, hno⟩ := w
        refine wpAny_handleBy_cons (codeAny_handlers_test ?_) (by intro q; cases q)
        have lkT : PySem.W.Looks (model X.prog X.w) hpc (typeOf (.ref a)) cls := fun A Q E s k q => wpAny_typeOf_ref (k _ _ hec) (by rw [hzc.1]; exact q)
        have lkM := PySem.W.exm_one (M := model X.prog X.w) (Jc.kIn) lkT hb1
        have tst : ∀ {Q : Value → Shared → Prop} {E : Value → Shared → Prop}, Q c { s' with heap := hpc } → wpAny (model X.prog X.w) (X.A.mark (some (.ref a))) (eval (.Name x np) X.env) Q E { s' with heap := hpc } := fun {Q E} q => by
          obtain ⟨hg, hdbg, hm | ⟨hm, hv, hnn⟩⟩ := hc
          · exact ld_glob (X := X.suite a ((a, obc) :: (X.pn ++ pins))) Sc hg hm q hdbg
          · exact ld_blt (X := X.suite a ((a, obc) :: (X.pn ++ pins))) Sc hg hm hv q hnn hdbg
        refine tst (lkM.here ?_)
        cases b with
        | true =>
          refine codeAny_handlers_suite ?_
          refine HandSPX.lands_againZ flc fun hpd fld upd4 => ?_
          have Jd : Inv X pins σ' H' { s' with heap := hpd } := J.landed nb fld.1 ((up.trans upc).trans upd4) os ag
          obtain ⟨obd, vsd, hed, hzd, hdd⟩ := fld.there
          have Sd := Jd.suite hed hdd na noL1 noF1
          refine wpAny_mono ((hsu a obd cls d (X.pn ++ pins) hzd ⟨_, hdd⟩).run [] _ _ H' _ Sd (hyes rfl a na)) (fun f sf gsp => ?_) (fun _ _ z => False.elim z)
          cases f with
          | next =>
            obtain ⟨σf, Hf, Sf, qf⟩ := gsp
            exact ⟨_, _, Sf.unsuite okx, qf⟩
          | brk =>
            obtain ⟨σf, Hf, Sf, qf⟩ := gsp
            exact ⟨_, _, Sf.unsuite okx, qf⟩
          | cont =>
            obtain ⟨σf, Hf, Sf, qf⟩ := gsp
            exact ⟨_, _, Sf.unsuite okx, qf⟩
          | ret u =>
            obtain ⟨vf, σf, Hf, Sf, rf, qf⟩ := gsp
            exact ⟨_, _, _, Sf.unsuite okx, rf, qf⟩
        | false =>
          show wpAny _ X.A (handleBy (.ref a) X.env hds2) _ _ _
          exact ih (hno rfl)
      | @nam x n i c ts b₀ suite np pos' hds2 l2 hi hln hc hsu r ih =>
        intro w
        obtain ⟨b, hb1, hyes, hno⟩ := w
        refine wpAny_handleBy_cons (codeAny_handlers_test ?_) (by intro q; cases q)
        have lkT : PySem.W.Looks (model X.prog X.w) hpc (typeOf (.ref a)) cls := fun A Q E s k q => wpAny_typeOf_ref (k _ _ hec) (by rw [hzc.1]; exact q)
        have lkM := PySem.W.exm_one (M := model X.prog X.w) (Jc.kIn) lkT hb1
        have tst : ∀ {Q : Value → Shared → Prop} {E : Value → Shared → Prop}, Q c { s' with heap := hpc } → wpAny (model X.prog X.w) (X.A.mark (some (.ref a))) (eval (.Name x np) X.env) Q E { s' with heap := hpc } := fun {Q E} q => by
          obtain ⟨hg, hdbg, hm | ⟨hm, hv, hnn⟩⟩ := hc
          · exact ld_glob (X := X.suite a ((a, obc) :: (X.pn ++ pins))) Sc hg hm q hdbg
          · exact ld_blt (X := X.suite a ((a, obc) :: (X.pn ++ pins))) Sc hg hm hv q hnn hdbg
        refine tst (lkM.here ?_)
        cases b with
        | true =>
          refine codeAny_handlers_suite_as ?_
          refine HandSPX.lands_againZ flc fun hpd fld upd4 => ?_
          have Jd : Inv X pins σ' H' { s' with heap := hpd } := J.landed nb fld.1 ((up.trans upc).trans upd4) os ag
          obtain ⟨obd, vsd, hed, hzd, hdd⟩ := fld.there
          have Sd := Jd.suite hed hdd na noL1 noF1
          refine store_ok (X := X.suite a ((a, obd) :: (X.pn ++ pins))) (v := .ref a) Sd hN hi (.inl hln) rfl (fun se Se => ?_) (.inr hln)
          refine wpAny_mono ((hsu a obd cls d (X.pn ++ pins) hzd ⟨_, hdd⟩).run [] se _ H' _ Se (hyes rfl a na)) (fun f sf gsp => ?_) (fun _ _ z => False.elim z)
          have gone : ∀ {σg : L2.St} {Hg : Hp} {Q : Shared → Prop}, Inv (X.suite a ((a, obd) :: (X.pn ++ pins))) [] σg Hg sf → (∀ s7, Inv X pins (σg.set i none) Hg s7 → Q s7) →
              wpAny (model X.prog X.w) X.A (do bindName X.env n .none; unbindBehindTheSuite X.env n pos') (fun _ s7 => Q s7) X.xe sf := fun {σg Hg Q} Sg hq => gone_ok (Sg.unsuite okx) hN hi hln hq
          cases f with
          | next =>
            obtain ⟨σf, Hf, Sf, qf⟩ := gsp
            exact gone Sf fun s7 J7 => ⟨_, _, J7, qf⟩
          | brk =>
            obtain ⟨σf, Hf, Sf, qf⟩ := gsp
            exact gone Sf fun s7 J7 => ⟨_, _, J7, qf⟩
          | cont =>
            obtain ⟨σf, Hf, Sf, qf⟩ := gsp
            exact gone Sf fun s7 J7 => ⟨_, _, J7, qf⟩
          | ret u =>
            obtain ⟨vf, σf, Hf, Sf, rf, qf⟩ := gsp
            exact gone Sf fun s7 J7 => ⟨_, _, _, J7, rf, qf⟩
        | false =>
          show wpAny _ X.A (handleBy (.ref a) X.env hds2) _ _ _
          exact ih (hno rfl)
    exact go hh w
  · cases f with
    | next =>
      obtain ⟨σ', H', Jx, q⟩ := gsp
      exact wpAny_execs_nil ⟨σ', H', Jx.ofTry okx, q⟩
    | brk =>
      obtain ⟨σ', H', Jx, q⟩ := gsp
      exact ⟨σ', H', Jx.ofTry okx, q⟩
    | cont =>
      obtain ⟨σ', H', Jx, q⟩ := gsp
      exact ⟨σ', H', Jx.ofTry okx, q⟩
    | ret u =>
      obtain ⟨v, σ', H', Jx, r, q⟩ := gsp
      exact ⟨v, σ', H', Jx.ofTry okx, r, q⟩
end DB

set_option Elab.async false
set_option linter.all false
set_option maxRecDepth 100000
set_option maxHeartbeats 4000000
namespace DB
open PySem PySem.Spec PyProof.Rows L2
section
variable {R R' : RC} {H0 H H' H1 H2 : Hp} {G0 G G' G1 G2 : Wd} {w w' w1 : W} {σ σ' : L2.St} {as as' as1 as2 bs : List Addr} {Wx : WX} {X : Cx}
  {a b c e : Expr} {ma mb mc m : ME} {pos : Pos} {es : List Expr} {st : Stmt} {rest body orelse : List Stmt} {m1 m2 ms : MS} {mr r : MA} {kws : List Keyword}

/-! keywords' values -/
structure PKm (X : Cx) (R : RC) (Wx : WX) (kws : List Keyword) (m : MA) : Prop where
  pe : ∀ H0 G0, PK X kws (liftA R Wx H0 G0 m)
theorem PK.cons {X : Cx} {e : List Keyword} {t t' : TA} (h : PK X e t) (c : ∀ σ H Q, t' σ H Q → t σ H Q) : PK X e t' := ⟨fun pos pins s σ H Q I q => h.run pos pins s σ H Q I (c σ H Q q)⟩
theorem km_nil : PKm X R Wx [] mNil := ⟨fun H0 G0 => PK.cons pk_nil fun σ H Q ⟨G, w, as, rel, h⟩ => h [] G H as rel (.refl _ _ _) (fun _ h => h) .nil⟩
theorem km_cons {nm : Option Str} {kpos : Pos} (ha : PEm X R Wx a m) (hr : PKm X R Wx kws r) : PKm X R Wx (⟨nm, a, kpos⟩ :: kws) (mCons m r) :=
  ⟨fun H0 G0 => PK.cons (pk_cons (ha.pe H0 G0) (hr.pe H0 G0)) fun σ H Q ⟨G, w, as, rel, h⟩ => by
    have hp : PostA R H0 G0 Wx σ G H as ((m w).bl fun x w1 => (r w1).cons x) Q := h
    refine lift_bdG (P := fun _ => True) rel (fun x w1 e => ?_) (fun e => ?_) (fun rv w1 e ef => ?_) (fun rv w1 e v x G1 H1 as1 ef rel1 ext sub rp => ?_)
    · rw [e] at hp; exact hp
    · rw [e] at hp; exact hp
    · rw [e] at hp
      have q : (Res.ok rv w1).bl (fun x w1 => (r w1).cons x) = .bad := by unfold Res.bl; simp only [ef]
      rw [q] at hp; exact hp
    · rw [e] at hp
      have q : (Res.ok rv w1).bl (fun x w1 => (r w1).cons x) = (r w1).cons x := by unfold Res.bl; simp only [ef]
      rw [q] at hp
      have h2 := PostA.shift hp ext sub
      refine ⟨G1, w1, as1, rel1, ?_⟩
      cases er : r w1 with
      | bad => rw [er] at h2; exact h2
      | ex x w2 => rw [er] at h2; exact h2
      | ok ds w2 =>
        rw [er] at h2
        exact fun vs G' H' as' rel' ext' sub' rs => h2 (v :: vs) G' H' as' rel' ext' sub' (.cons (rp.mono ext'.le) rs)⟩

/-! raise -/
def mRaise (cls : Str) (fs : List Str) (r : MA) : MS := fun w => match r w with
  | .ok ds w1 => if ds.length = fs.length then .ex ⟨cls, fs.reverse, ds.reverse⟩ w1 else .bad
  | .ex x w1 => .ex x w1
  | .bad => .bad
theorem sm_raiseK {cls : Str} {fs : List Str} {k : Nat} {p pos' : Pos} (hc : X.calm = true) (tk : Takes X Wx) (sm : X.mg = R.mg) (O : OwnX X.prog X.w X.K X.mg X.base cls k fs) (hr : Room (k + 1) X.A) (hg : Gl X cls) (ha : PKm X R Wx kws r)
    (hdb : (cls == ("__debug__" : Str)) = false := by decide) (hall : (backToKw pos' (keywordEach kws X.env)).all (·.1.isSome) = true := by rfl) (hks : (backToKw pos' (keywordEach kws X.env)).filterMap (·.1) = fs := by rfl)
    (hpl : ((backTo pos' (starEach [] X.env)).any (·.1) || (backToKw pos' (keywordEach kws X.env)).any (·.1.isNone)) = false := by rfl) :
    PSm X R Wx (.Raise (some (.Call (.Name cls p) [] kws pos')) none pos) (mRaise cls fs r) :=
  ⟨fun H0 G0 => PS.cons (ps_raise hc tk (pmk_kw O hr (passes_call tk fun _ _ _ _ h => h.elim) hg (ha.pe H0 G0) hdb hall hks hpl)) fun D' σ H ⟨G, w, as, rel, h⟩ => by
    refine ⟨G, w, as, rel, ?_⟩
    have hp : PostS R H0 G0 Wx G (mRaise cls fs r w) D' := h
    unfold mRaise at hp
    cases e : r w with
    | bad => rw [e] at hp; exact hp
    | ex x w1 => rw [e] at hp; exact fun cls d G' H' as' rel' x => hp σ cls d G' H' as' rel' x
    | ok ds w1 =>
      rw [e] at hp
      intro vs G' H' as' rel' ext sub rs
      by_cases hl : ds.length = fs.length
      · simp only [hl, if_true] at hp
        obtain ⟨C, _, _, _, gC, _⟩ := O.ex
        refine ⟨by rw [← rs.length]; exact hl, C, gC, fun d hd => ?_⟩
        have px := PExt.new (o := .xd (fs.reverse.zip vs.reverse)) rel'.bas.sub hd
        refine hp σ (.ref C) (some d) _ _ as' (rel'.pext px) ⟨C, by rw [← sm]; exact gC, rfl, .inr ⟨d, vs.reverse, rfl, put_at, ?_, (rs.mono px.le).rev⟩⟩
        rw [List.length_reverse, List.length_reverse, ← hl]; exact rs.length
      · simp only [hl, if_false] at hp; exact hp.elim⟩

/-! C(), C('text') without own __init__ -/
structure OwnP (K : PySem.W.Frag) (mg : Str → Option Value) (cls : Str) : Prop where
  ex : ∃ (C : Addr) (bmB : List Value) (B newId initId : String), mg cls = some (.ref C) ∧ ExcBaseFacts B newId initId bmB ∧ PySem.W.excIn K C bmB newId = true ∧ PySem.W.keepIn K (.ref C) = true ∧
    PySem.W.subIn K (.ref C) (.type "BaseException") = some true ∧ PySem.W.typeIn K (.ref C) = some (.type "type")
theorem pmk_own0 {cls : Str} {p : Pos} (O : OwnP X.K X.mg cls) (hg : Gl X cls) (hdb : (cls == ("__debug__" : Str)) = false := by decide) (hpl : ((backTo pos (starEach [] X.env)).any (·.1) || (backToKw pos (keywordEach [] X.env)).any (·.1.isNone)) = false := by rfl) :
    PMk X (.Call (.Name cls p) [] [] pos) (fun σ H Q => ∃ C, X.mg cls = some (.ref C) ∧ Q (.ref C) none H) := by
  obtain ⟨C, bmB, B, newId, initId, gC, F, q, kC, h1, h2⟩ := O.ex
  intro pins s σ H Q I h
  obtain ⟨C', gC', h⟩ := h
  rw [gC] at gC'
  cases gC'
  refine wpAny_Call_Name_kw (ld_glob I hg gC ?_ hdb)
  refine PySem.W.callWith_KW0 (h₀ := X.base) I.ok.mod.kin kC rfl (wpAny_evalAll_nil ⟨I.kIn, ?_⟩) hpl
  show wpAny _ _ (call (.ref C) []) _ _ _
  obtain ⟨bm, N, nm, qn, bs, hdct, sn, sub, ab, col, dd, k0, k1, k2, k3, k5, mN, hC, hN, hni, T⟩ := exc_obj I.kIn q
  refine wpAny_call_exc_subT F T hC hN hni (fun h' e hm => ?_) (Nat.zero_le _)
  exact mk_of I hm (raises_own h1 h2) h (I.hok.gone hm.new)
def mRaise0 (cls : Str) : MS := fun w => .ex ⟨cls, [], []⟩ w
theorem sm_raise0 {cls : Str} {p pos' : Pos} (hc : X.calm = true) (tk : Takes X Wx) (ag : Ag X R) (O : OwnP X.K X.mg cls) (hg : Gl X cls) (hdb : (cls == ("__debug__" : Str)) = false := by decide)
    (hpl : ((backTo pos' (starEach [] X.env)).any (·.1) || (backToKw pos' (keywordEach [] X.env)).any (·.1.isNone)) = false := by rfl) :
    PSm X R Wx (.Raise (some (.Call (.Name cls p) [] [] pos')) none pos) (mRaise0 cls) :=
  ⟨fun H0 G0 => PS.cons (ps_raise hc tk (pmk_own0 O hg hdb hpl)) fun D' σ H ⟨G, w, as, rel, h⟩ => by
    obtain ⟨C, _, _, _, _, gC, _⟩ := O.ex
    exact ⟨C, gC, h σ (.ref C) none G H as rel ⟨C, by rw [← ag.mg]; exact gC, rfl, .inl ⟨rfl, rfl, rfl⟩⟩⟩⟩
theorem sm_raiseT {cls txt : Str} {j : Nat} {p p2 pos' : Pos} (hc : X.calm = true) (tk : Takes X Wx) (ag : Ag X R) (O : OwnP X.K X.mg cls) (hg : Gl X cls) (hdb : (cls == ("__debug__" : Str)) = false := by decide) :
    PSm X R Wx (.Raise (some (.Call (.Name cls p) [.Constant (.str txt) j p2] [] pos')) none pos) (mRaise0 cls) := by
  obtain ⟨C, bmB, B, newId, initId, gC, F, q, kC, h1, h2⟩ := O.ex
  exact ⟨fun H0 G0 => PS.cons (ps_raise hc tk (pmk_own F q gC kC (raises_own h1 h2) hg hdb)) fun D' σ H ⟨G, w, as, rel, h⟩ =>
    h σ (.ref C) none G H as rel ⟨C, by rw [← ag.mg]; exact gC, rfl, .inl ⟨rfl, rfl, rfl⟩⟩⟩

/-! try -/
def xCls : List Str := ["BadBelt", "BadGoal", "BadPress", "BadStep", "BadDeed", "BadCount", "TooMany", "NoWay", "BadName", "Known", "NoRoutine", "BadText"]
def underX (a c : Str) : Bool := a == c || c == "DialError" || c == "ValueError"
structure XAll (K : PySem.W.Frag) (mg : Str → Option Value) : Prop where
  ex : ∀ a ∈ xCls, ∀ c ∈ ("DialError" : Str) :: xCls, ∃ A C, mg a = some (.ref A) ∧ mg c = some (.ref C) ∧ PySem.W.exmOne K (.ref A) (.ref C) = some (underX a c)
  kt : ∀ a ∈ xCls, ∀ c ∈ ("DialError" : Str) :: xCls, ∃ A C, mg a = some (.ref A) ∧ mg c = some (.ref C) ∧ PySem.W.kitOne K (.ref A) (.ref C) = some (underX a c)
  fx : ∀ a ∈ xCls, ∃ A, mg a = some (.ref A) ∧ XfC K A ∧ ExcC K A ∧ (∀ f ∈ (["part", "number", "row"] : List Str), PySem.W.findIn K (.ref A) f = some none) ∧ PySem.W.kitOne K (.ref A) (.type "ValueError") = some true
def isXc : RV → Bool
  | .xc _ => true
  | _ => false
def noXc (l : List RV) : Bool := l.all fun r => !isXc r
def unX (r : RS) : RS := match r with
  | .ex _ _ => .bad
  | r => r
def leaveX (i : Nat) (r : RS) : RS := match r with
  | .nx w => if noXc (w.put i .un).env = true then .nx (w.put i .un) else .bad
  | .bk w => if noXc (w.put i .un).env = true then .bk (w.put i .un) else .bad
  | .ct w => if noXc (w.put i .un).env = true then .ct (w.put i .un) else .bad
  | .rt v S => if v.plain = true then .rt v S else .bad
  | _ => .bad
abbrev MCl := Str × Option Nat × MS
def goCl (x : Exc) (w : W) : List MCl → RS
  | [] => .ex x w
  | (c, none, m) :: r => if underX x.cls c = true then unX (m w) else goCl x w r
  | (c, some i, m) :: r => if underX x.cls c = true then (if noXc w.env = true ∧ i < w.env.length then leaveX i (m (w.put i (.xc x))) else .bad) else goCl x w r
def mTry (b : MS) (cl : List MCl) : MS := fun w => match b w with
  | .ex x w1 => if x.cls ∈ xCls then goCl x w1 cl else .bad
  | r => r

/-! the base may be taken anew -/
open Classical in
noncomputable def hid (H : Hp) (as : List Addr) : Hp := fun a => if a ∈ as then none else H a
theorem hid_in {a : Addr} (h : a ∈ as) : hid H as a = none := if_pos h
theorem hid_out {a : Addr} (h : a ∉ as) : hid H as a = H a := if_neg h
theorem hid_some {a : Addr} {o : HO} (h : hid H as a = some o) : H a = some o ∧ a ∉ as := by
  by_cases c : a ∈ as
  · rw [hid_in c] at h; cases h
  · rw [hid_out c] at h; exact ⟨h, c⟩
theorem Rel.anew (rel : Rel R H0 G0 G w σ H as) : Rel R (hid H as) G G w σ H as where
  env := rel.env
  bas := ⟨rel.bas.cells, rel.bas.nd, rel.bas.free, rel.bas.sub, rel.bas.tabs, ⟨.refl _, fun a o h _ _ => (hid_some h).1, fun a o h => .inl h, fun a h => .inl h, fun a h => by
    by_cases c : a ∈ as
    · exact hid_in c
    · rw [hid_out c]; exact h⟩⟩
  nd := rel.nd
  free := rel.free
  fresh := fun a h => hid_in h
theorem hid_free (rel : Rel R H0 G0 G w σ H as) {a : Addr} (h : hid H as a = none) : H0 a = none := by
  by_cases c : a ∈ as
  · exact rel.fresh a c
  · rw [hid_out c] at h; exact rel.bas.ext.dom a h
theorem Bas.old {S : List Cell} (rel : Rel R H0 G0 G w σ H as) (b : Bas R (hid H as) G G' S H') : Bas R H0 G0 G' S H' where
  cells := b.cells
  nd := b.nd
  free := b.free
  sub := b.sub
  tabs := b.tabs
  ext := {
    le := rel.bas.ext.le.trans b.ext.le
    keep := fun a o h t hs => by
      have h1 := rel.bas.ext.keep a o h t hs
      have h2 : a ∉ as := fun z => by rw [rel.fresh a z] at h; cases h
      refine b.ext.keep a o (by rw [hid_out h2]; exact h1) t fun z => ?_
      rcases rel.bas.ext.newS a z with q | q
      · exact hs q
      · rw [h] at q; cases q
    newZ := fun a o h => by
      rcases b.ext.newZ a o h with q | q | q
      · exact rel.bas.ext.newZ a o q
      · exact .inr (.inl (hid_free rel q))
      · exact .inr (.inr q)
    newS := fun a h => by
      rcases b.ext.newS a h with q | q
      · exact rel.bas.ext.newS a q
      · exact .inr (hid_free rel q)
    dom := fun a h => hid_free rel (b.ext.dom a h) }
theorem Rel.old (rel : Rel R H0 G0 G w σ H as) (r : Rel R (hid H as) G G' w' σ' H' as') : Rel R H0 G0 G' w' σ' H' as' :=
  ⟨r.env, r.bas.old rel, r.nd, r.free, fun a h => hid_free rel (r.fresh a h)⟩

/-! a caught exception in a slot -/
def RC.cat (R : RC) (a : Addr) (cls : Value) (d : Option Addr) : RC := { R with lm := { R.lm with xa := some (a, cls, d) } }
theorem RSlot.cat {rv : RV} {o : Option V} {R R' : RC} (sm : Sim R R') (hfn : R.lm.fn = R'.lm.fn) (s : RSlot R G H rv o bs) (n : ∀ x, rv ≠ .xc x) : RSlot R' G H rv o bs := by
  cases s with
  | un => exact .un
  | d h => exact .d (h.conv sm)
  | own h r => exact .own h (r.conv sm)
  | odic h l r => exact .odic h l (r.conv sm)
  | fn h l t => exact .fn h (by rw [← hfn]; exact l) t
  | xc _ _ => exact (n _ rfl).elim
theorem REnv.cat {l : List RV} {R R' : RC} (sm : Sim R R') (hfn : R.lm.fn = R'.lm.fn) (s : REnv R G H l σ as) (n : noXc l = true) : REnv R' G H l σ as := by
  induction s with
  | nil => exact .nil
  | @cons r o as rs os bs h t ih =>
    have n2 : (!isXc r) = true ∧ noXc rs = true := by
      unfold noXc at n
      rw [List.all_cons] at n
      exact Bool.and_eq_true_iff.mp n
    exact .cons (h.cat sm hfn fun x z => by
      have := n2.1
      rw [z] at this
      exact Bool.false_ne_true this) (ih n2.2)
theorem Rel.cat {R R' : RC} (sm : Sim R R') (hfn : R.lm.fn = R'.lm.fn) (r : Rel R H0 G0 G w σ H as) (n : noXc w.env = true) : Rel R' H0 G0 G w σ H as :=
  ⟨r.env.cat sm hfn n, r.bas.conv sm, r.nd, r.free, r.fresh⟩
/-- a slot is emptied -/
theorem Rel.wipe {i : Nat} (r : Rel R H0 G0 G w σ H as) : ∃ as', Rel R H0 G0 G (w.put i .un) (σ.set i none) H as' ∧ ∀ a ∈ as', a ∈ as := by
  by_cases hi : i < w.env.length
  · obtain ⟨o, bs0, cs, e1, e2, e3, e4, e5⟩ := r.env.at (List.getElem?_eq_getElem hi)
    obtain ⟨as', q1, q2, q3⟩ := e5 (G' := G) (H' := H) (r' := .un) (o' := none) (bs' := []) (.refl G) (fun _ _ _ h => h) .un (by simp) (by simp)
    obtain ⟨n1, n2, n3⟩ := List.nodup_append.mp r.nd
    have sub : ∀ a ∈ as', a ∈ as := fun a ha => (e3 a).mpr (.inr (((q2 a).mp ha).elim (fun z => by simp at z) id))
    exact ⟨as', ⟨q1, r.bas, List.nodup_append.mpr ⟨q3 n1, n2, fun a ha b hb z => n3 a (sub a ha) b hb z⟩, fun a ha => r.free a (sub a ha), fun a ha => r.fresh a (sub a ha)⟩, sub⟩
  · have hl := r.env.len
    refine ⟨as, ?_, fun _ h => h⟩
    have e1 : w.env.set i .un = w.env := List.set_eq_of_length_le (by omega)
    have e2 : σ.set i none = σ := List.set_eq_of_length_le (by omega)
    unfold W.put
    rw [e1, e2]
    exact r
theorem PostS.unX {rs : RS} {D' : Ends} (h : PostS R H0 G0 Wx G (unX rs) D') : PostS R H0 G0 WN G rs D' := by
  cases rs <;> first | exact h | exact h.elim
theorem PostS.leaveX {i : Nat} {rs : RS} {D' : Ends} {a : Addr} {cls : Value} {d : Option Addr} (h : PostS R H0 G0 Wx G (leaveX i rs) D') : PostS (R.cat a cls d) H0 G0 WN G rs (endG i D') := by
  have sm : Sim (R.cat a cls d) R := ⟨rfl, rfl, rfl⟩
  cases rs with
  | nx w =>
    intro σ' G' H' as' rel le
    obtain ⟨as2, rel2, _⟩ := rel.wipe (i := i)
    have h2 : PostS R H0 G0 Wx G (if noXc (w.put i .un).env = true then .nx (w.put i .un) else .bad) D' := h
    by_cases c : noXc (w.put i .un).env = true
    · rw [if_pos c] at h2; exact h2 _ G' H' as2 (rel2.cat sm rfl c) le
    · rw [if_neg c] at h2; exact h2.elim
  | bk w =>
    intro σ' G' H' as' rel le
    obtain ⟨as2, rel2, _⟩ := rel.wipe (i := i)
    have h2 : PostS R H0 G0 Wx G (if noXc (w.put i .un).env = true then .bk (w.put i .un) else .bad) D' := h
    by_cases c : noXc (w.put i .un).env = true
    · rw [if_pos c] at h2; exact h2 _ G' H' as2 (rel2.cat sm rfl c) le
    · rw [if_neg c] at h2; exact h2.elim
  | ct w =>
    intro σ' G' H' as' rel le
    obtain ⟨as2, rel2, _⟩ := rel.wipe (i := i)
    have h2 : PostS R H0 G0 Wx G (if noXc (w.put i .un).env = true then .ct (w.put i .un) else .bad) D' := h
    by_cases c : noXc (w.put i .un).env = true
    · rw [if_pos c] at h2; exact h2 _ G' H' as2 (rel2.cat sm rfl c) le
    · rw [if_neg c] at h2; exact h2.elim
  | rt v S =>
    intro u G' H' bs b sl lo
    have h2 : PostS R H0 G0 Wx G (if v.plain = true then .rt v S else .bad) D' := h
    by_cases c : v.plain = true
    · rw [if_pos c] at h2; exact h2 u G' H' bs (b.conv sm) (sl.conv sm c) lo
    · rw [if_neg c] at h2; exact h2.elim
  | ex _ _ => exact h.elim
  | bad => exact h.elim
inductive TryM (X : Cx) (R : RC) : List ExceptHandler → List MCl → Prop
  | nil : TryM X R [] []
  | one {x : Str} {b₀ : Stmt} {suite : List Stmt} {np pos' : Pos} {hds : List ExceptHandler} {l : List MCl} {m : MS} (hg : Gl X x) (hd : (x == ("__debug__" : Str)) = false) (hx : x ∈ ("DialError" : Str) :: xCls)
      (hsu : ∀ (a : Addr) (oe : Obj) (cls : Value) (d : Option Addr) (pn : List (Addr × Obj)), Zc cls d oe → (∃ vs, oe.data = .fields vs) → PBm (X.suite a ((a, oe) :: pn)) R WN (b₀ :: suite) m) (r : TryM X R hds l) :
      TryM X R (.ExceptHandler (some (.Name x np)) none (b₀ :: suite) pos' :: hds) ((x, none, m) :: l)
  | nam {x n : Str} {i : Nat} {b₀ : Stmt} {suite : List Stmt} {np pos' : Pos} {hds : List ExceptHandler} {l : List MCl} {m : MS} (hi : X.N[i]? = some n) (hln : X.env.kindOf n = some .local) (hg : Gl X x) (hd : (x == ("__debug__" : Str)) = false) (hx : x ∈ ("DialError" : Str) :: xCls)
      (hsu : ∀ (a : Addr) (oe : Obj) (cls : Value) (d : Option Addr) (pn : List (Addr × Obj)), Zc cls d oe → (∃ vs, oe.data = .fields vs) → PBm (X.suite a ((a, oe) :: pn)) (R.cat a cls d) WN (b₀ :: suite) m) (r : TryM X R hds l) :
      TryM X R (.ExceptHandler (some (.Name x np)) (some n) (b₀ :: suite) pos' :: hds) ((x, some i, m) :: l)
def clD (R : RC) (q : Value × Option Nat × MS) : ClD := (q.1, q.2.1, fun a cls d D' σ H => ∃ H0 G0, (match q.2.1 with
  | none => liftS R WN H0 G0 q.2.2 D' σ H
  | some _ => liftS (R.cat a cls d) WN H0 G0 q.2.2 D' σ H))
/-- what an exception of the body meets -/
theorem TryM.ok {hds : List ExceptHandler} {cl : List MCl} (XA : XAll X.K X.mg) (mg : X.mg = R.mg) (t : TryM X R hds cl) :
    ∃ l : List (Value × Option Nat × MS), TryOk X hds (l.map (clD R)) ∧
      ∀ {Wx : WX} {D' : Ends} {H0 : Hp} {G0 G : Wd} {x : Exc} {w : W} {σ : L2.St} {H : Hp} {as : List Addr} {cls : Value} {d : Option Addr}, x.cls ∈ xCls → Rel R H0 G0 G w σ H as → ExcR R G H x cls d → PostS R H0 G0 Wx G (goCl x w cl) D' →
        wTry X.K Wx D' (l.map (clD R)) cls d σ H := by
  induction t with
  | nil => exact ⟨[], .nil, fun _ rel xr h => h _ _ _ _ _ _ rel xr⟩
  | @one x b₀ suite np pos' hds l m hg hd hx hsu r ih =>
    obtain ⟨l', t', go⟩ := ih
    obtain ⟨_, C, _, gC, _⟩ := XA.ex "BadBelt" (by decide) x hx
    refine ⟨(.ref C, none, m) :: l', .one ⟨hg, hd, .inl gC⟩ (fun a oe cls d pn hz hv => ⟨fun pins s σ H D' I ⟨H0, G0, h⟩ => ((hsu a oe cls d pn hz hv).ps H0 G0).run pins s σ H D' I h⟩) t', ?_⟩
    intro Wx D' H0 G0 G y w σ H as cls d hy rel xr h
    obtain ⟨A, C', gA, gC', hex⟩ := XA.ex y.cls hy x hx
    rw [gC] at gC'
    cases gC'
    obtain ⟨A', gA', rfl, _⟩ := id xr
    rw [← mg, gA] at gA'
    cases gA'
    refine ⟨_, hex, fun hb a na => ?_, fun hb => ?_⟩
    · unfold goCl at h
      rw [if_pos hb] at h
      exact ⟨H0, G0, G, w, as, rel, h.unX⟩
    · unfold goCl at h
      rw [if_neg (by rw [hb]; exact Bool.false_ne_true)] at h
      exact go hy rel xr h
  | @nam x n i b₀ suite np pos' hds l m hi hln hg hd hx hsu r ih =>
    obtain ⟨l', t', go⟩ := ih
    obtain ⟨_, C, _, gC, _⟩ := XA.ex "BadBelt" (by decide) x hx
    refine ⟨(.ref C, some i, m) :: l', .nam hi hln ⟨hg, hd, .inl gC⟩ (fun a oe cls d pn hz hv => ⟨fun pins s σ H D' I ⟨H0, G0, h⟩ => ((hsu a oe cls d pn hz hv).ps H0 G0).run pins s σ H D' I h⟩) t', ?_⟩
    intro Wx D' H0 G0 G y w σ H as cls d hy rel xr h
    obtain ⟨A, C', gA, gC', hex⟩ := XA.ex y.cls hy x hx
    rw [gC] at gC'
    cases gC'
    obtain ⟨A', gA', rfl, _⟩ := id xr
    rw [← mg, gA] at gA'
    cases gA'
    refine ⟨_, hex, fun hb a na => ?_, fun hb => ?_⟩
    · unfold goCl at h
      rw [if_pos hb] at h
      by_cases c : noXc w.env = true ∧ i < w.env.length
      · rw [if_pos c] at h
        have smc : Sim R (R.cat a (.ref A) d) := ⟨rfl, rfl, rfl⟩
        have rel2 : Rel (R.cat a (.ref A) d) H0 G0 G w σ H as := Rel.cat smc rfl rel c.1
        have sl : RSlot (R.cat a (.ref A) d) G H (.xc y) (some (.ref a)) [] := .xc rfl (ExcR.conv smc xr)
        obtain ⟨as2, rel3⟩ := rel2.set c.2 sl (by intro b hb; simp at hb)
        exact ⟨H0, G0, G, _, as2, rel3, h.leaveX⟩
      · rw [if_neg c] at h; exact h.elim
    · unfold goCl at h
      rw [if_neg (by rw [hb]; exact Bool.false_ne_true)] at h
      exact go hy rel xr h
theorem sm_try {h₀ : ExceptHandler} {hds : List ExceptHandler} {cl : List MCl} (hs : X.stack = X.env :: X.outer) (hf : X.env.frame = some X.env.locals) (hN : X.N.Nodup) (tk : Takes X Wx) (XA : XAll X.K X.mg) (ag : Ag X R)
    (hb : ∀ (Wx : WX) (pn : List (Addr × Obj)) (xe : Value → Shared → Prop), Takes (X.tr pn xe) Wx → PassesOwn (model X.prog X.w) X.A X.env xe → PBm (X.tr pn xe) R Wx body ms) (t : TryM X R (h₀ :: hds) cl) :
    PSm X R Wx (.Try body (h₀ :: hds) [] [] pos) (mTry ms cl) := by
  obtain ⟨l, tok, go⟩ := t.ok XA ag.mg
  refine ⟨fun H0 G0 => PS.cons (ps_tryD (tb := fun Wx D' σ H => ∃ H0 G0, liftS R Wx H0 G0 ms D' σ H) hs hf hN tk (fun Wx pn xe tk' po => ⟨fun pins s σ H D' I ⟨H0, G0, h⟩ => ((hb Wx pn xe tk' po).ps H0 G0).run pins s σ H D' I h⟩) tok) fun D' σ H ⟨G, w, as, rel, h⟩ => ?_⟩
  refine ⟨hid H as, G, G, w, as, rel.anew, ?_⟩
  have hp : PostS R H0 G0 Wx G (mTry ms cl w) D' := h
  unfold mTry at hp
  cases e : ms w with
  | nx w1 => rw [e] at hp; exact fun σ' G' H' as' rel' le => hp σ' G' H' as' (rel.old rel') le
  | bk w1 => rw [e] at hp; exact fun σ' G' H' as' rel' le => hp σ' G' H' as' (rel.old rel') le
  | ct w1 => rw [e] at hp; exact fun σ' G' H' as' rel' le => hp σ' G' H' as' (rel.old rel') le
  | rt v S => rw [e] at hp; exact fun u G' H' bs b sl lo => hp u G' H' bs (b.old rel) sl fun c hc => let ⟨l1, l2, l3, l4⟩ := lo c hc; ⟨l1, l2, l3, hid_free rel l4⟩
  | bad => rw [e] at hp; exact hp
  | ex x w1 =>
    rw [e] at hp
    intro σ' cls d G' H' as' rel' xr
    by_cases c : x.cls ∈ xCls
    · simp only [c, if_true] at hp
      exact go c (rel.old rel') xr (PostS.up hp rel'.bas.ext.le)
    · simp only [c, if_false] at hp; exact hp.elim
end
end DB

set_option Elab.async false
set_option linter.all false
set_option maxRecDepth 100000
set_option maxHeartbeats 4000000
namespace DB
open PySem PySem.Spec PyProof.Rows L2
section
variable {R R' : RC} {H0 H H' H1 H2 : Hp} {G0 G G' G1 G2 : Wd} {w w' w1 : W} {σ σ' : L2.St} {as as' as1 as2 bs : List Addr} {Wx : WX} {X : Cx}
  {b c e : Expr} {ma mb mc m : ME} {pos : Pos} {es : List Expr} {a : Addr} {cls : Value} {d : Option Addr} {oe : Obj} {pn : List (Addr × Obj)}

/-! in an except suite: the caught exception's fields -/
theorem lkp_put {α : Type} (f g : Str) (y : α) (fs : List (Str × α)) : ((f, y) :: fs).lookup g = if g = f then some y else fs.lookup g := by
  by_cases h : g = f
  · subst h; simp [List.lookup]
  · have e : (g == f) = false := by simpa using h
    rw [if_neg h]; simp [List.lookup, e]
theorem Rps.zipAt {f : Str} {y : D} : ∀ {ks : List Str} {ds : List D} {vs : List V}, Rps R G ds vs → (ks.zip ds).lookup f = some y → ∃ v, (ks.zip vs).lookup f = some v ∧ Rp R G y v
  | [], _, _, _, h => by simp at h
  | k :: ks, _, _, .nil, h => by simp at h
  | k :: ks, _, _, .cons r rs, h => by
    rw [List.zip_cons_cons, lkp_put] at h
    rw [List.zip_cons_cons, lkp_put]
    by_cases q : f = k
    · rw [if_pos q] at h ⊢; cases h; exact ⟨_, rfl, r⟩
    · rw [if_neg q] at h ⊢; exact Rps.zipAt rs h
theorem Rel.excAt {i : Nat} {x : Exc} (rel : Rel (R.cat a cls d) H0 G0 G w σ H as) (e : w.env[i]? = some (.xc x)) : σ[i]? = some (some (.ref a)) ∧ ExcR R G H x cls d := by
  obtain ⟨o, bs, cs, e1, e2, _⟩ := rel.env.at e
  cases e2 with
  | xc h xr =>
    have hz : some (a, cls, d) = some (_, _, _) := h
    cases hz
    have sm : Sim (R.cat a cls d) R := ⟨rfl, rfl, rfl⟩
    exact ⟨e1, xr.conv sm⟩
def mXf (i : Nat) (f : Str) : ME := fun w => match w.env[i]? with
  | some (.xc x) => if x.cls ∈ xCls then (match (x.ks.zip x.vs).lookup f with
    | some y => .ok (.d y) w
    | none => .bad) else .bad
  | _ => .bad
theorem em_xf (i : Nat) {n f : Str} {p : Pos} (XA : XAll X.K X.mg) (mg : X.mg = R.mg) (hz : Zc cls d oe) (hv : ∃ vs, oe.data = .fields vs) (hN : X.N[i]? = some n) (vis : Vis X.env.scope n) (hf : f ∈ (["part", "number", "row"] : List Str))
    (hd : (n == ("__debug__" : Str)) = false := by decide) (hcd : (n == ("__classdict__" : Str)) = false := by decide)
    (hb : attributeBase (.Name n p) f X.env (eval (.Name n p) X.env) = eval (.Name n p) X.env := by rfl) :
    PEm (X.suite a ((a, oe) :: pn)) (R.cat a cls d) Wx (.Attribute (.Name n p) f pos) (mXf i f) :=
  ⟨fun H0 G0 => ⟨fun pins s σ H Q I ⟨G, w, as, rel, h⟩ => by
    have hp : PostE (R.cat a cls d) H0 G0 Wx σ G H as (mXf i f w) Q := h
    unfold mXf at hp
    split at hp
    · rename_i x e
      by_cases cx : x.cls ∈ xCls
      · rw [if_pos cx] at hp
        obtain ⟨es, C, gC, rfl, xr⟩ := rel.excAt e
        obtain ⟨A, gA, T, _, hno, _⟩ := XA.fx x.cls cx
        rw [← mg, gA] at gC
        cases gC
        cases el : (x.ks.zip x.vs).lookup f with
        | none => simp only [el] at hp; exact hp.elim
        | some y =>
          simp only [el] at hp
          refine (pe_xf (te := tVar i) T (hno f hf) hz hv (pe_var hN vis hd hcd) hb).run pins s σ H Q I ⟨_, es, rfl, rfl, ?_⟩
          rcases xr with ⟨k0, v0, _⟩ | ⟨dx, vs, ed, ez, el2, rs⟩
          · rw [k0] at el; simp at el
          · obtain ⟨v, ev, rv⟩ := rs.zipAt el
            have sm : Sim R (R.cat a (.ref C) d) := ⟨rfl, rfl, rfl⟩
            exact ⟨dx, _, v, ed, rel.bas.sub _ _ ez, ev, (hp.new rel).sc rel.bas.sub (rv.conv sm)⟩
      · rw [if_neg cx] at hp; exact hp.elim
    · exact hp.elim⟩⟩

/-! isinstance of it -/
def rIsX (K : PySem.W.Frag) (a : Addr) (cls : Value) (d : Option Addr) : List V → Hp → VK → Prop := fun xs H Q => ∃ (D : Addr) (c : V) (cv : Value) (b : Bool), xs = [.ref a, c] ∧ cls = .ref D ∧ ExcC K D ∧ (d = none ∨ ∃ dx fs, d = some dx ∧ H dx = some (.xd fs)) ∧
  (∀ u, RelV c u → u = cv) ∧ PySem.W.kitOne K (.ref D) cv = some b ∧ Q (.bl b) H
theorem call_isX (hz : Zc cls d oe) (hv : ∃ vs, oe.data = .fields vs) : CallR (X.suite a ((a, oe) :: pn)) (.builtin "isinstance") (rIsX X.K a cls d) := by
  intro pins s σ H xs us Q I r h
  obtain ⟨D, c, cv, b, rfl, rfl, C, hd, hcv, e, q⟩ := h
  cases r with
  | cons rx rr =>
    cases rr with
    | cons rt rr =>
      cases rr
      cases rx
      have ec := hcv _ rt
      subst ec
      obtain ⟨hget, _⟩ := I.pin (a, oe) (List.mem_append.mpr (.inl List.mem_cons_self))
      obtain ⟨vs, hv⟩ := hv
      have hcl : (PySem.W.clsIn X.K D).isSome = true := by
        have hh := C.hd
        unfold PySem.W.hasDictIn at hh
        cases q : PySem.W.clsIn X.K D with
        | none => rw [q] at hh; cases hh
        | some _ => rfl
      have J : ∃ od, PySem.W.InstAt s.heap a oe D od := by
        obtain ⟨oc, od, oda, osl⟩ := oe
        obtain ⟨h1, h2⟩ := hz
        dsimp only at h1 h2 hv
        subst h1 h2 hv
        rcases hd with rfl | ⟨dx, fs, rfl, edx⟩
        · exact ⟨none, hget, rfl, rfl, trivial⟩
        · have hx : ObjOk X.prog X.w H s.heap dx (.xd fs) := I.hok dx _ edx
          obtain ⟨mA, hns, hr⟩ := hx
          obtain ⟨o, ho, _⟩ := lookIn_ns hns
          exact ⟨some o, hget, rfl, rfl, ho⟩
      obtain ⟨od, J⟩ := J
      exact PySem.W.kia_one (PySem.W.kitx_exc hcl C.hg C.hk C.hs C.ha C.hn C.ht C.hm) I.kIn J e (fun z => nomatch z) fun tk => ⟨.bl b, H, I.kept (t' := tk) fun _ _ z => z, rfl, q⟩
def mIsx (i : Nat) (t : Str) : ME := fun w => match w.env[i]? with
  | some (.xc x) => if x.cls ∈ xCls then .ok (.d (.bl (underX x.cls t))) w else .bad
  | _ => .bad
theorem isx_post {i : Nat} {t : Str} {c : V} {cv : Value} {Q : VK} (XA : XAll X.K X.mg) (mg : X.mg = R.mg) (hcv : ∀ u, RelV c u → u = cv) (hk : ∀ x ∈ xCls, ∃ A, X.mg x = some (.ref A) ∧ PySem.W.kitOne X.K (.ref A) cv = some (underX x t))
    (h : liftE (R.cat a cls d) Wx H0 G0 (mIsx i t) σ H Q) : ∃ v, σ[i]? = some (some v) ∧ rIsX X.K a cls d [v, c] H Q := by
  obtain ⟨G, w, as, rel, h⟩ := h
  unfold mIsx at h
  split at h
  · rename_i x e
    by_cases cx : x.cls ∈ xCls
    · rw [if_pos cx] at h
      obtain ⟨es, C, gC, rfl, xr⟩ := rel.excAt e
      obtain ⟨A, gA, _, T, _, _⟩ := XA.fx x.cls cx
      obtain ⟨A2, gA2, hkk⟩ := hk x.cls cx
      rw [← mg, gA] at gC
      cases gC
      rw [gA] at gA2
      cases gA2
      refine ⟨_, es, _, c, cv, _, rfl, rfl, T, ?_, hcv, hkk, (PostE.new rel h).sc rel.bas.sub .bl⟩
      rcases xr with ⟨_, _, d0⟩ | ⟨dx, vs, ed, ez, _⟩
      · exact .inl d0
      · exact .inr ⟨dx, _, ed, rel.bas.sub _ _ ez⟩
    · rw [if_neg cx] at h; exact h.elim
  · exact h.elim
theorem em_isxV (i : Nat) {n : Str} {p p1 p2 : Pos} (XA : XAll X.K X.mg) (mg : X.mg = R.mg) (hz : Zc cls d oe) (hv : ∃ vs, oe.data = .fields vs) (hg : Gl X "isinstance") (hm : X.mg "isinstance" = none) (hg2 : Gl X "ValueError") (hm2 : X.mg "ValueError" = none) (hN : X.N[i]? = some n) (vis : Vis X.env.scope n)
    (hd : (n == ("__debug__" : Str)) = false := by decide) (hcd : (n == ("__classdict__" : Str)) = false := by decide)
    (h1 : starEach [.Name n p1, .Name "ValueError" p2] X.env = (false, eval (.Name n p1) X.env) :: starEach [.Name "ValueError" p2] X.env := by rfl) (hpl : (backTo pos (starEach [.Name "ValueError" p2] X.env)).any (·.1) = false := by rfl) :
    PEm (X.suite a ((a, oe) :: pn)) (R.cat a cls d) Wx (.Call (.Name "isinstance" p) [.Name n p1, .Name "ValueError" p2] [] pos) (mIsx i "ValueError") :=
  ⟨fun H0 G0 => PE.cons (pe_callB (X := X.suite a ((a, oe) :: pn)) (call_isX hz hv) hg hm (by decide +kernel) (pa_cons (pe_var hN vis hd hcd) (pa_cons (pe_bltn (v := .ty "ValueError") hg2 hm2 PyProof.Rows.Boot.«ValueError» rfl (by decide) (by decide)) pa_nil) h1) (by decide) (by decide) h1 hpl) fun σ H Q h =>
    isx_post XA mg (fun u q => q) (fun x hx => by
      obtain ⟨A, gA, _, _, _, k⟩ := XA.fx x hx
      have ev : underX x "ValueError" = true := by unfold underX; simp
      exact ⟨A, gA, by rw [ev]; exact k⟩) h⟩
end
end DB

set_option Elab.async false
set_option linter.all false
set_option maxRecDepth 100000
set_option maxHeartbeats 4000000
namespace DB
open PySem PySem.Spec PyProof.Rows L2
/-! the law's own drawing, as its mirror tells it -/
noncomputable def m_start : MS :=
  (mSeq (mSet 1 (mC (.int 1)))
  (mSeq (mFor (mSeqI (mVar 0)) (gNm 2) (mSet 1 (mBin gMod (mBin gAdd (mBin gAdd (mBin gMul (mPk 1) (mC (.int 48271))) (mPk 2)) (mC (.int 7))) (mC (.int 2147483647)))))
  (mRet (mLst (mCons (mVar 0) (mCons (mC (.int 0)) (mCons (mVar 1) (mCons (mC (.int 0)) mNil))))))))
noncomputable def F_start : MF := bodyF 3 1 m_start
noncomputable def m_drawn : MS :=
  (mSeq (mIf (mBin gGt (mCIx 0 (mC (.int 3))) (mC (.int 0))) (mSeq (mSet 2 (mBin gMod (mCIx 0 (mC (.int 3))) (mPk 1)))
  (mSeq (mCSet 0 (mC (.int 3)) (mBin gDiv (mCIx 0 (mC (.int 3))) (mPk 1)))
  (mMv 2))) mNext)
  (mSeq (mCSet 0 (mC (.int 1)) (mBin gAdd (mCIx 0 (mC (.int 1))) (mC (.int 1))))
  (mSeq (mIf (mBin gLe (mCIx 0 (mC (.int 1))) (mCB (g1 gLen) (mCons (mCIx 0 (mC (.int 0))) mNil))) (mSeq (mSet 3 (mBin gIx (mCIx 0 (mC (.int 0))) (mBin gSub (mCIx 0 (mC (.int 1))) (mC (.int 1)))))
  (mSeq (mCSet 0 (mC (.int 3)) (mIfE (mBin gGe (mPk 3) (mBin gPow (mC (.int 10)) (mC (.int 18)))) (mBin gDiv (mPk 3) (mPk 1)) (mC (.int 0))))
  (mRet (mBin gMod (mPk 3) (mPk 1))))) mNext)
  (mSeq (mCSet 0 (mC (.int 2)) (mBin gMod (mBin gAdd (mBin gMul (mCIx 0 (mC (.int 2))) (mC (.int 48271))) (mC (.int 11))) (mC (.int 2147483647))))
  (mRet (mBin gMod (mBin gDiv (mCIx 0 (mC (.int 2))) (mC (.int 7))) (mPk 1)))))))
noncomputable def F_drawn : MF := bodyF 4 2 m_drawn
/-- the cell n is the drawing's state over the script ns -/
def SOK (ns : List Int) (S : List Cell) (n : Nat) : Prop := ∃ c m r : Int, 0 ≤ c ∧ S[n]? = some (.lst [.scr (ns.map D.int), .int c, .int m, .int r])
theorem mul_c {i : Int} : CMul i 48271 := .inr ⟨by decide, by decide⟩
theorem start_body (ds : List D) : ∀ (ns : List Int) (x : RV) (m : Int) (S : List Cell), ∃ m' y, forL (gNm 2) (mSet 1 (mBin gMod (mBin gAdd (mBin gAdd (mBin gMul (mPk 1) (mC (.int 48271))) (mPk 2)) (mC (.int 7))) (mC (.int 2147483647)))) (ns.map D.int) ⟨[.d (.scr ds), .d (.int m), x], S⟩ = .nx ⟨[.d (.scr ds), .d (.int m'), y], S⟩
  | [], x, m, S => ⟨m, x, rfl⟩
  | z :: ns, x, m, S => by
    obtain ⟨m', y, h⟩ := start_body ds ns (.d (.int z)) ((m * 48271 + z + 7) % 2147483647) S
    refine ⟨m', y, ?_⟩
    rw [← h]
    have := @mul_c m
    simp [forL, gNm, W.put, mSet, mBin, mPk, mC, Res.bd, Res.bind, Res.sd, RV.frz, gMul, gAdd, gMod, ofO, iO, setRV, this]
theorem start_ok (ns : List Int) (S : List Cell) : ∃ m : Int, F_start [.scr (ns.map D.int)] S = .ok (.own [.scr (ns.map D.int), .int 0, .int m, .int 0]) S := by
  obtain ⟨m', y, h⟩ := start_body (ns.map D.int) ns .un 1 S
  refine ⟨m', ?_⟩
  have hs : (4 : Nat) ≤ sizeLine := by decide
  simp [F_start, bodyF, m_start, mSeq, mSet, mC, Res.sd, setRV, W.put, mFor, mSeqI, mVar, Res.bd, Res.bind, RV.frz, seqItems, h, mRet, mLst, mCons, mNil, Res.bl, RL.cons, RL.bd, hs, RV.plain]
theorem atI_pre {ds : List D} {c : Int} (h0 : 0 ≤ c) (h1 : c < ds.length) : ∃ x ∈ ds, atI ds c = some x := by
  unfold atI ixN
  rw [if_pos h0, if_pos h1]
  have hl : c.toNat < ds.length := by omega
  exact ⟨ds[c.toNat], List.getElem_mem hl, List.getElem?_eq_getElem hl⟩
def stC (ns : List Int) (c m r : Int) : Cell := .lst [.scr (ns.map D.int), .int c, .int m, .int r]
theorem drawn_ok {ns : List Int} {S : List Cell} {n : Nat} {many : Int} (h : SOK ns S n) (h0 : 0 < many) (h1 : many < 1073741824) :
    ∃ (v : Int) (c : Cell), F_drawn [.cell n, .int many] S = .ok (.d (.int v)) (S.set n c) ∧ 0 ≤ v ∧ v < many ∧ SOK ns (S.set n c) n := by
  obtain ⟨c, m, r, hc, e⟩ := h
  have hn : n < S.length := (List.getElem?_eq_some_iff.mp e).1
  have hd2 : ∀ i, CDiv i many := fun i => ⟨h0, h1⟩
  have hd7 : ∀ i, CDiv i 7 := fun i => ⟨by decide, by decide⟩
  have hm := fun i => @mul_c i
  have hp : CPow 10 18 := ⟨by decide, by decide, by decide⟩
  have b0 : ∀ x : Int, 0 ≤ x % many := fun x => Int.emod_nonneg x (by omega)
  have b1 : ∀ x : Int, x % many < many := fun x => Int.emod_lt_of_pos x h0
  have a1 : ∀ (x y z t : D), atI [x, y, z, t] 1 = some y := fun _ _ _ _ => rfl
  have a0 : ∀ (x y z t : D), atI [x, y, z, t] 0 = some x := fun _ _ _ _ => rfl
  have a2 : ∀ (x y z t : D), atI [x, y, z, t] 2 = some z := fun _ _ _ _ => rfl
  have a3 : ∀ (x y z t : D), atI [x, y, z, t] 3 = some t := fun _ _ _ _ => rfl
  have i1 : ixN 4 1 = some 1 := rfl
  have i2 : ixN 4 2 = some 2 := rfl
  have i3 : ixN 4 3 = some 3 := rfl
  have hs : ∀ x, (S.set n x)[n]? = some x := fun x => List.getElem?_set_self hn
  have fin : ∀ c m r : Int, 0 ≤ c → SOK ns (S.set n (stC ns c m r)) n := fun c m r hc => ⟨c, m, r, hc, hs _⟩
  by_cases hr : r > 0
  · refine ⟨r % many, stC ns c m (r / many), ?_, b0 _, b1 _, fin _ _ _ hc⟩
    simp [F_drawn, bodyF, m_drawn, mSeq, mIf, mBin, mCIx, Res.bd, Res.bind, mC, RV.frz, cixR, e, a3, ofO, gGt, gCmpI, bO, Res.sb, hr, mSet, mPk, gMod, h0, iO, Res.sd, setRV, W.put, mCSet, gDiv, hd2, Res.sdd, setCRS, i3, mMv, RV.plain, stC]
  · by_cases hl : c + 1 ≤ (ns.length : Int)
    · have hx : ∃ z : Int, atI (ns.map D.int) c = some (.int z) := by
        obtain ⟨x, hx, ex⟩ := atI_pre (ds := ns.map D.int) hc (by rw [List.length_map]; omega)
        obtain ⟨z, _, rfl⟩ := List.mem_map.mp hx
        exact ⟨z, ex⟩
      obtain ⟨z, ez⟩ := hx
      have e1 : c + 1 - 1 = c := by omega
      by_cases hz : (10 : Int) ^ 18 ≤ z
      · refine ⟨z % many, stC ns (c + 1) m (z / many), ?_, b0 _, b1 _, fin _ _ _ (by omega)⟩
        have hz' : (1000000000000000000 : Int) ≤ z := hz
        simp [F_drawn, bodyF, m_drawn, mSeq, mIf, mBin, mCIx, Res.bd, Res.bind, mC, RV.frz, cixR, e, a0, a1, a2, a3, ofO, gGt, gLe, gGe, gCmpI, bO, Res.sb, hr, mSet, mPk, gMod, h0, iO, Res.sd, setRV, W.put, mCSet, gDiv, hd2, Res.sdd, setCRS, i1, i2, i3, mMv, RV.plain, stC, mNext, gAdd, gSub, hs, mCB, g1, gLen, mCons, mNil, Res.bl, RL.cons, RL.bd, hl, gIx, e1, ez, mIfE, Res.bb, gPow, hp, hz', mRet]
      · refine ⟨z % many, stC ns (c + 1) m 0, ?_, b0 _, b1 _, fin _ _ _ (by omega)⟩
        have hz' : ¬ (1000000000000000000 : Int) ≤ z := hz
        simp [F_drawn, bodyF, m_drawn, mSeq, mIf, mBin, mCIx, Res.bd, Res.bind, mC, RV.frz, cixR, e, a0, a1, a2, a3, ofO, gGt, gLe, gGe, gCmpI, bO, Res.sb, hr, mSet, mPk, gMod, h0, iO, Res.sd, setRV, W.put, mCSet, gDiv, hd2, Res.sdd, setCRS, i1, i2, i3, mMv, RV.plain, stC, mNext, gAdd, gSub, hs, mCB, g1, gLen, mCons, mNil, Res.bl, RL.cons, RL.bd, hl, gIx, e1, ez, mIfE, Res.bb, gPow, hp, hz', mRet]
    · refine ⟨(m * 48271 + 11) % 2147483647 / 7 % many, stC ns (c + 1) ((m * 48271 + 11) % 2147483647) r, ?_, b0 _, b1 _, fin _ _ _ (by omega)⟩
      simp [F_drawn, bodyF, m_drawn, mSeq, mIf, mBin, mCIx, Res.bd, Res.bind, mC, RV.frz, cixR, e, a0, a1, a2, a3, ofO, gGt, gLe, gGe, gCmpI, bO, Res.sb, hr, mSet, mPk, gMod, h0, iO, Res.sd, setRV, W.put, mCSet, gDiv, hd2, hd7, Res.sdd, setCRS, i1, i2, i3, mMv, RV.plain, stC, mNext, gAdd, gSub, gMul, hm, hs, mCB, g1, gLen, mCons, mNil, Res.bl, RL.cons, RL.bd, hl, gIx, mIfE, Res.bb, mRet]

/-! what may be compared -/
mutual
def dok : Nat → D → Bool
  | _, .non => true
  | _, .bl _ => true
  | _, .int _ => true
  | _, .str x => PyData.strOk x
  | n + 1, .tup ds => doks n ds
  | n + 1, .lst ds => doks n ds
  | n + 1, .scr ds => doks n ds
  | _, _ => false
def doks : Nat → List D → Bool
  | _, [] => true
  | n, d :: ds => dok n d && doks n ds
end
mutual
theorem dok_ok : ∀ (n : Nat) (d : D), dok n d = true → okD d = true ∧ (toPy d).canLay0 = true ∧ (toPy d).depth ≤ n + 1
  | _, .non, _ => ⟨rfl, rfl, by simp [toPy, PyData.depth]⟩
  | _, .bl _, _ => ⟨rfl, rfl, by simp [toPy, PyData.depth]⟩
  | _, .int _, _ => ⟨rfl, rfl, by simp [toPy, PyData.depth]⟩
  | _, .str x, h => ⟨rfl, by simp only [dok] at h; simpa [toPy, PyData.canLay0] using h, by simp [toPy, PyData.depth]⟩
  | n + 1, .tup ds, h => by
    obtain ⟨h1, h2, h3⟩ := doks_ok n ds (by simpa only [dok] using h)
    exact ⟨by simpa only [okD] using h1, by simpa only [toPy, PyData.canLay0] using h2, by simp only [toPy, PyData.depth]; omega⟩
  | n + 1, .lst ds, h => by
    obtain ⟨h1, h2, h3⟩ := doks_ok n ds (by simpa only [dok] using h)
    exact ⟨by simpa only [okD] using h1, by simpa only [toPy, PyData.canLay0] using h2, by simp only [toPy, PyData.depth]; omega⟩
  | n + 1, .scr ds, h => by
    obtain ⟨h1, h2, h3⟩ := doks_ok n ds (by simpa only [dok] using h)
    exact ⟨by simpa only [okD] using h1, by simpa only [toPy, PyData.canLay0] using h2, by simp only [toPy, PyData.depth]; omega⟩
  | 0, .tup ds, h => by simp [dok] at h
  | 0, .lst ds, h => by simp [dok] at h
  | 0, .scr ds, h => by simp [dok] at h
  | _, .dic _ _, h => by simp [dok] at h
  | _, .obj _ _ _, h => by simp [dok] at h
  | _, .cell _, h => by simp [dok] at h
theorem doks_ok : ∀ (n : Nat) (ds : List D), doks n ds = true → okDs ds = true ∧ PyData.canLayAll0 (toPys ds) = true ∧ PyData.depthAll (toPys ds) ≤ n + 1
  | _, [], _ => ⟨rfl, rfl, by simp [toPys, PyData.depthAll]⟩
  | n, d :: ds, h => by
    simp only [doks] at h
    obtain ⟨a, b⟩ := Bool.and_eq_true_iff.mp h
    obtain ⟨a1, a2, a3⟩ := dok_ok n d a
    obtain ⟨b1, b2, b3⟩ := doks_ok n ds b
    exact ⟨by simp [okDs, a1, b1], by simp [toPys, PyData.canLayAll0, a2, b2], by simp only [toPys, PyData.depthAll]; omega⟩
end
theorem okE_of {n : Nat} {d : D} (h : dok n d = true) (hn : n ≤ 63) : okE d = true := by
  obtain ⟨h1, h2, h3⟩ := dok_ok n d h
  unfold okE SeqAt.shaped
  have : (toPy d).depth ≤ 64 := by omega
  simp [h1, h2, this]
theorem eqB_self {d : D} (h : okE d = true) : eqB d d = true := by
  have h2 : SeqAt.shaped (toPy d) = true := (Bool.and_eq_true_iff.mp h).2
  exact SeqAt.eqv_refl _ (SeqAt.canLay_of_shaped h2)
theorem gNe_self {d : D} (h : okE d = true) : gNe d d = bO false := by
  have e := eqB_self h
  unfold gNe
  split
  · simp
  · simp
  · simp [h, e]
theorem gEq_self {d : D} (h : okE d = true) : gEq d d = bO true := by
  have e := eqB_self h
  unfold gEq
  split
  · simp
  · simp
  · simp [h, e]

/-! loops -/
theorem forL_inv {g : MG} {b : MS} (I : Nat → W → Prop) : ∀ (ds : List D) (k : Nat) (w : W), I k w →
    (∀ i d, ds[i]? = some d → ∀ w, I (k + i) w → ∃ w1 w2, g d w = some w1 ∧ (b w1 = .nx w2 ∨ b w1 = .ct w2) ∧ I (k + i + 1) w2) → ∃ w', forL g b ds w = .nx w' ∧ I (k + ds.length) w'
  | [], k, w, h, _ => ⟨w, rfl, h⟩
  | d :: ds, k, w, h, st => by
    obtain ⟨w1, w2, e1, e2, h2⟩ := st 0 d rfl w h
    obtain ⟨w', e3, h3⟩ := forL_inv I ds (k + 1) w2 h2 (fun i d e w h => by
      have e' : k + 1 + i = k + (i + 1) := by omega
      rw [e'] at h ⊢
      exact st (i + 1) d (by simpa using e) w h)
    refine ⟨w', ?_, by rw [List.length_cons, show k + (ds.length + 1) = k + 1 + ds.length by omega]; exact h3⟩
    unfold forL
    rw [e1]
    rcases e2 with e2 | e2 <;> simp only [e2] <;> exact e3
end DB

set_option Elab.async false
set_option linter.all false
set_option maxRecDepth 100000
set_option maxHeartbeats 4000000
namespace DB
open PySem PySem.Spec PyProof.Rows L2
/-! what the top has written, by names -/
theorem step {A B : Prop} (a : A) (k : A → B) : B := k a
section
variable {P : Program} {w : World} {K : PySem.W.Frag} {mg : Str → Option Value} {h : Heap}
theorem fun_ex {x : Str} {st : Stmt} {f : Addr} {od an : Option Addr} {sl : Array (Option Value)} {oc kV dc pm cd ct : Value} (X : K.In h) (G : h.Ns mainGlobals mg) (a : PySem.W.nsIn K mainGlobals x = some (some (.ref f)))
    (l : K.lookup f = some ⟨oc, od, .func (PySem.W.fnOf x x (defArgs st) (defBody st) (defScope st) .none kV dc pm an cd ct), sl⟩) (c : PySem.W.codeIn K cd x = true) (k : PySem.W.keepIn K (.ref f) = true) : ∃ f fd, Fun K x x st f fd ∧ mg x = some (.ref f) :=
  ⟨f, _, fun_mk l c k, PySem.W.mg_of X G a⟩
theorem exc_ex {x q : Str} {st : Stmt} {C f N : Addr} {od an dd : Option Addr} {sl : Array (Option Value)} {oc kV dc pm cd ct : Value} {nm qn : Str} {bs bm sub : List Value} {sn : List Str} {ab : Bool} {col : Option Bool} {k0 k1 k2 k3 k5 : Option Value} (X : K.In h) (G : h.Ns mainGlobals mg)
    (a : PySem.W.nsIn K mainGlobals x = some (some (.ref C))) (xL : K.lookup C = some (excClassObj nm qn C N bs bm true sn sub ab col dd k0 k1 k2 k3 k5 "ValueError.__new__")) (rv : PySem.HandSPX.refsVE bm = true)
    (sa : PySem.W.findIn K (.ref C) "__setattr__" = some (some (.builtin "object.__setattr__"))) (eC : PySem.W.subIn K (.ref C) (.type "BaseException") = some true) (tC : PySem.W.typeIn K (.ref C) = some (.type "type")) (kC : PySem.W.keepIn K (.ref C) = true)
    (ai : PySem.W.findIn K (.ref C) "__init__" = some (some (.ref f))) (ti : PySem.W.typeIn K (.ref f) = some (.type "function"))
    (l : K.lookup f = some ⟨oc, od, .func (PySem.W.fnOf "__init__" q (defArgs st) (defBody st) (defScope st) .none kV dc pm an cd ct), sl⟩) (c : PySem.W.codeIn K cd q = true) (k : PySem.W.keepIn K (.ref f) = true)
    (n1 : PySem.W.findIn K (.ref C) "part" = some none) (n2 : PySem.W.findIn K (.ref C) "number" = some none) (n3 : PySem.W.findIn K (.ref C) "row" = some none) :
    ∃ C fI fd, Fun K "__init__" q st fI fd ∧ mg x = some (.ref C) ∧ OexC K C ∧ PySem.W.findIn K (.ref C) "__init__" = some (some (.ref fI)) ∧ PySem.W.typeIn K (.ref fI) = some (.type "function") ∧ ∀ f ∈ (["part", "number", "row"] : List Str), PySem.W.findIn K (.ref C) f = some none :=
  ⟨C, f, _, fun_mk l c k, PySem.W.mg_of X G a, ⟨⟨nm, qn, N, bs, bm, sn, sub, ab, col, dd, k0, k1, k2, k3, k5, xL, rv⟩, sa, eC, tC, kC⟩, ai, ti, fun g hg => by
    simp only [List.mem_cons, List.not_mem_nil, or_false] at hg
    rcases hg with rfl | rfl | rfl
    · exact n1
    · exact n2
    · exact n3⟩
theorem own_ex {x : Str} {C : Addr} {bmB : List Value} {B newId initId : String} (F : ExcBaseFacts B newId initId bmB) (X : K.In h) (G : h.Ns mainGlobals mg) (a : PySem.W.nsIn K mainGlobals x = some (some (.ref C))) (q : PySem.W.excIn K C bmB newId = true) (kC : PySem.W.keepIn K (.ref C) = true)
    (eC : PySem.W.subIn K (.ref C) (.type "BaseException") = some true) (tC : PySem.W.typeIn K (.ref C) = some (.type "type")) : OwnP K mg x := ⟨⟨C, bmB, B, newId, initId, PySem.W.mg_of X G a, F, q, kC, eC, tC⟩⟩
theorem base_ex {x : Str} {C : Addr} (X : K.In h) (G : h.Ns mainGlobals mg) (a : PySem.W.nsIn K mainGlobals x = some (some (.ref C))) (s : PySem.W.specialIn K (.ref C) "__getattribute__" = some (some (.builtin "type.__getattribute__"))) (r : PySem.W.readsIn K C (.type "type") = true)
    (f : PySem.W.findCls K (.ref C) (.type "type") "__init__" = some (.val (.builtin "ValueError.__init__"))) : XBase K mg x := ⟨⟨C, _, PySem.W.mg_of X G a, s, r, f⟩⟩

/-! all exception classes at once -/
def xOneB (K : PySem.W.Frag) (A : Addr) : Bool :=
  xfB K A && decide (PySem.W.findIn K (.ref A) "__class__" = some (some (.builtin "object.__class__"))) && decide (PySem.W.specialIn K (.builtin "object.__class__") "__get__" = some (some (.builtin "getset_descriptor.__get__"))) && decide (PySem.W.takesIn K (.builtin "object.__class__") = some true) &&
    decide (PySem.W.mroIn K A (.type "object") = some true) && decide (PySem.W.findIn K (.ref A) "part" = some none) && decide (PySem.W.findIn K (.ref A) "number" = some none) && decide (PySem.W.findIn K (.ref A) "row" = some none) && decide (PySem.W.kitOne K (.ref A) (.type "ValueError") = some true)
def xPairB (K : PySem.W.Frag) (A C : Addr) (b : Bool) : Bool := decide (PySem.W.exmOne K (.ref A) (.ref C) = some b) && decide (PySem.W.kitOne K (.ref A) (.ref C) = some b)
def xTabB (K : PySem.W.Frag) (al : List (Str × Addr)) (de : Addr) : Bool := al.all fun p => xOneB K p.2 && xPairB K p.2 de true && al.all fun q => xPairB K p.2 q.2 (underX p.1 q.1)
theorem xPair_of {A C : Addr} {b : Bool} (e : xPairB K A C b = true) : PySem.W.exmOne K (.ref A) (.ref C) = some b ∧ PySem.W.kitOne K (.ref A) (.ref C) = some b := by
  unfold xPairB at e
  obtain ⟨e1, e2⟩ := Bool.and_eq_true_iff.mp e
  exact ⟨of_decide_eq_true e1, of_decide_eq_true e2⟩
theorem xAll_of {al : List (Str × Addr)} {de : Addr} (names : al.map (·.1) = xCls) (ha : ∀ p ∈ al, mg p.1 = some (.ref p.2)) (hd : mg "DialError" = some (.ref de)) (t : xTabB K al de = true) : XAll K mg := by
  have at_ : ∀ a ∈ xCls, ∃ p ∈ al, p.1 = a := fun a h => by
    rw [← names] at h
    obtain ⟨p, hp, e⟩ := List.mem_map.mp h
    exact ⟨p, hp, e⟩
  have get : ∀ p ∈ al, xOneB K p.2 = true ∧ xPairB K p.2 de true = true ∧ ∀ q ∈ al, xPairB K p.2 q.2 (underX p.1 q.1) = true := fun p hp => by
    have := List.all_eq_true.mp t p hp
    obtain ⟨h1, h2⟩ := Bool.and_eq_true_iff.mp this
    obtain ⟨h3, h4⟩ := Bool.and_eq_true_iff.mp h1
    exact ⟨h3, h4, fun q hq => List.all_eq_true.mp h2 q hq⟩
  have ud : ∀ a : Str, underX a "DialError" = true := fun a => by unfold underX; simp
  have pr : ∀ a ∈ xCls, ∀ c ∈ ("DialError" : Str) :: xCls, ∃ A C, mg a = some (.ref A) ∧ mg c = some (.ref C) ∧ xPairB K A C (underX a c) = true := by
    intro a h c hc
    obtain ⟨p, hp, rfl⟩ := at_ a h
    obtain ⟨_, g1, g2⟩ := get p hp
    rcases List.mem_cons.mp hc with rfl | hc
    · exact ⟨p.2, de, ha p hp, hd, by rw [ud]; exact g1⟩
    · obtain ⟨q, hq, rfl⟩ := at_ c hc
      exact ⟨p.2, q.2, ha p hp, ha q hq, g2 q hq⟩
  refine ⟨fun a h c hc => ?_, fun a h c hc => ?_, fun a h => ?_⟩
  · obtain ⟨A, C, h1, h2, h3⟩ := pr a h c hc
    exact ⟨A, C, h1, h2, (xPair_of h3).1⟩
  · obtain ⟨A, C, h1, h2, h3⟩ := pr a h c hc
    exact ⟨A, C, h1, h2, (xPair_of h3).2⟩
  · obtain ⟨p, hp, rfl⟩ := at_ a h
    obtain ⟨g, _⟩ := get p hp
    unfold xOneB at g
    simp only [Bool.and_eq_true, decide_eq_true_eq] at g
    obtain ⟨⟨⟨⟨⟨⟨⟨⟨g1, g2⟩, g3⟩, g4⟩, g5⟩, g6⟩, g7⟩, g8⟩, g9⟩ := g
    have x := xfB_ok g1
    refine ⟨p.2, ha p hp, x, ⟨x.ga, x.gg, x.exC, x.hdC, g2, g3, g4, g5⟩, fun f hf => ?_, g9⟩
    simp only [List.mem_cons, List.not_mem_nil, or_false] at hf
    rcases hf with rfl | rfl | rfl
    · exact g6
    · exact g7
    · exact g8
theorem xall_ex {c1 c2 c3 c4 c5 c6 c7 c8 c9 c10 c11 c12 de : Addr} (X : K.In h) (G : h.Ns mainGlobals mg) (a1 : PySem.W.nsIn K mainGlobals "BadBelt" = some (some (.ref c1))) (a2 : PySem.W.nsIn K mainGlobals "BadGoal" = some (some (.ref c2))) (a3 : PySem.W.nsIn K mainGlobals "BadPress" = some (some (.ref c3)))
    (a4 : PySem.W.nsIn K mainGlobals "BadStep" = some (some (.ref c4))) (a5 : PySem.W.nsIn K mainGlobals "BadDeed" = some (some (.ref c5))) (a6 : PySem.W.nsIn K mainGlobals "BadCount" = some (some (.ref c6))) (a7 : PySem.W.nsIn K mainGlobals "TooMany" = some (some (.ref c7))) (a8 : PySem.W.nsIn K mainGlobals "NoWay" = some (some (.ref c8)))
    (a9 : PySem.W.nsIn K mainGlobals "BadName" = some (some (.ref c9))) (a10 : PySem.W.nsIn K mainGlobals "Known" = some (some (.ref c10))) (a11 : PySem.W.nsIn K mainGlobals "NoRoutine" = some (some (.ref c11))) (a12 : PySem.W.nsIn K mainGlobals "BadText" = some (some (.ref c12))) (a0 : PySem.W.nsIn K mainGlobals "DialError" = some (some (.ref de)))
    (t : xTabB K [("BadBelt", c1), ("BadGoal", c2), ("BadPress", c3), ("BadStep", c4), ("BadDeed", c5), ("BadCount", c6), ("TooMany", c7), ("NoWay", c8), ("BadName", c9), ("Known", c10), ("NoRoutine", c11), ("BadText", c12)] de = true) : XAll K mg :=
  xAll_of rfl (fun p hp => by
    simp only [List.mem_cons, List.not_mem_nil, or_false] at hp
    rcases hp with rfl | rfl | rfl | rfl | rfl | rfl | rfl | rfl | rfl | rfl | rfl | rfl
    · exact PySem.W.mg_of X G a1
    · exact PySem.W.mg_of X G a2
    · exact PySem.W.mg_of X G a3
    · exact PySem.W.mg_of X G a4
    · exact PySem.W.mg_of X G a5
    · exact PySem.W.mg_of X G a6
    · exact PySem.W.mg_of X G a7
    · exact PySem.W.mg_of X G a8
    · exact PySem.W.mg_of X G a9
    · exact PySem.W.mg_of X G a10
    · exact PySem.W.mg_of X G a11
    · exact PySem.W.mg_of X G a12) (PySem.W.mg_of X G a0) t
end
/-! the law's end -/
def spLawD (K : PySem.W.Frag) : Sp := fun vs H Q _ => ∃ (a : Addr) (ns : List Int), vs = [.ref a] ∧ ns.length ≤ 63 ∧ SqL K H a (ns.map V.int) ∧ ∀ H', Q (.bl true) H'
theorem ints_rp {R : RC} {G : Wd} : ∀ ns : List Int, Rps R G (ns.map D.int) (ns.map V.int)
  | [] => .nil
  | _ :: ns => .cons .int (ints_rp ns)
theorem law_imp {P : Program} {w : World} {K : PySem.W.Frag} {mg : Str → Option Value} {base : Heap} {k : Nat} {f : Addr} {fd : FuncData} {ps : List Str} {F : MF} (Fn : FnOk P w K mg base (L2.CX P w) k f fd ps (spF ⟨K, mg, [], noL⟩ F))
    (hF : ∀ ns : List Int, ns.length ≤ 63 → ∃ S, F [.scr (ns.map D.int)] [] = .ok (.d (.bl true)) S) : FnOk P w K mg base (L2.CX P w) k f fd ps (spLawD K) :=
  Fn.imp fun vs H Q E ⟨a, ns, ev, hl, hs, q⟩ => by
    obtain ⟨S, e⟩ := hF ns hl
    refine ⟨⟨H, []⟩, [], [.scr (ns.map D.int)], ?_, ⟨⟨rfl, fun n c b h1 h2 => by simp at h1⟩, List.nodup_nil, fun b hb => by simp at hb, .refl _, fun p hp => by simp at hp, .refl _ _ _⟩, ?_⟩
    · rw [ev]
      exact .cons (.scr hs (ints_rp ns)) .nil
    · rw [e]
      refine ⟨rfl, fun v G' H' bs b sl lo => ?_⟩
      cases sl with
      | d r => cases r; exact q H'
theorem cx_none {P : Program} {w : World} {H : Hp} {s : Shared} {e : Value} {s' : Shared} (h : L2.CX P w [] H s (fun _ _ _ => False) e s') : False := by
  obtain ⟨_, _, _, _, _, _, _, _, _, _, _, _, z⟩ := h
  exact z
end DB

set_option Elab.async false
set_option linter.all false
set_option maxRecDepth 100000
set_option maxHeartbeats 4000000
namespace DB
open PySem PySem.Spec PyProof.Rows L2
def top (i : Nat) : Stmt := PySem.Challenge.pw_dialbands_k21_refusals_made.main.body.getD i (.Pass ⟨0, 0, 0, 0⟩)
def inCls (s : Stmt) (j : Nat) : Stmt := match s with
  | .ClassDef _ _ _ body _ _ _ _ _ _ _ => body.getD j (.Pass ⟨0, 0, 0, 0⟩)
  | _ => .Pass ⟨0, 0, 0, 0⟩
section
variable {P : Program} {w : World} {K : PySem.W.Frag} {mg : Str → Option Value} {base : Heap} {T : List (Addr × Str)}
abbrev i_BadBelt : Stmt := inCls (top 2) 0
theorem ic_BadBelt : FnScope ["self", "part", "number"] ["self", "part", "number"] (defScope i_BadBelt) := ⟨rfl, rfl, rfl, by decide +kernel, rfl, by decide +kernel, by decide +kernel⟩
theorem oi_BadBelt {C fI : Addr} {fd : FuncData} (Fu : Fun K "__init__" "BadBelt.__init__" i_BadBelt fI fd) (B : XBase K mg "DialError") (gC : mg "BadBelt" = some (.ref C)) (T : OexC K C) (iC : PySem.W.findIn K (.ref C) "__init__" = some (some (.ref fI))) (tI : PySem.W.typeIn K (.ref fI) = some (.type "function"))
    (hno : ∀ f ∈ (["part", "number"] : List Str), PySem.W.findIn K (.ref C) f = some none) : OwnX P w K mg base "BadBelt" 1 ["part", "number"] := by
  refine ⟨C, fI, fd, ["self", "part", "number"], gC, T, iC, tI, hno, Fu.okX ic_BadBelt (fun vs H Q E h => ?_) (fun cdv A outer s H vs Q E hr h => ⟨_, (pss_cons (ps_expr (pe_ownInit B rfl (pa_cons (pe_var (i := 0) rfl (Or.inl rfl)) (pa_cons pe_str pa_nil)))) (pss_cons (ps_ost (pe_var (i := 0) rfl (Or.inl rfl)) (pe_var (i := 1) rfl (Or.inl rfl))) (pss_one (ps_ost (pe_var (i := 0) rfl (Or.inl rfl)) (pe_var (i := 2) rfl (Or.inl rfl)))))), init_run2 h⟩), ?_⟩
  · obtain ⟨a, C, zs, rfl, lz, _⟩ := h
    rw [List.length_cons, lz] <;> rfl
  · obtain ⟨oc, od, kV, doc, pm, an, cdv, ct, osl, rfl, lk, hcd⟩ := Fu.ex
    exact ⟨fun s us ws X l1 l2 => match us, l1, ws, l2 with | [_], _, [_, _], _ => .of_eq rfl, fun r1 r2 => r1.append r2⟩
abbrev i_BadGoal : Stmt := inCls (top 3) 0
theorem ic_BadGoal : FnScope ["self", "number"] ["self", "number"] (defScope i_BadGoal) := ⟨rfl, rfl, rfl, by decide +kernel, rfl, by decide +kernel, by decide +kernel⟩
theorem oi_BadGoal {C fI : Addr} {fd : FuncData} (Fu : Fun K "__init__" "BadGoal.__init__" i_BadGoal fI fd) (B : XBase K mg "DialError") (gC : mg "BadGoal" = some (.ref C)) (T : OexC K C) (iC : PySem.W.findIn K (.ref C) "__init__" = some (some (.ref fI))) (tI : PySem.W.typeIn K (.ref fI) = some (.type "function"))
    (hno : ∀ f ∈ (["number"] : List Str), PySem.W.findIn K (.ref C) f = some none) : OwnX P w K mg base "BadGoal" 1 ["number"] := by
  refine ⟨C, fI, fd, ["self", "number"], gC, T, iC, tI, hno, Fu.okX ic_BadGoal (fun vs H Q E h => ?_) (fun cdv A outer s H vs Q E hr h => ⟨_, (pss_cons (ps_expr (pe_ownInit B rfl (pa_cons (pe_var (i := 0) rfl (Or.inl rfl)) (pa_cons pe_str pa_nil)))) (pss_one (ps_ost (pe_var (i := 0) rfl (Or.inl rfl)) (pe_var (i := 1) rfl (Or.inl rfl))))), init_run1 h⟩), ?_⟩
  · obtain ⟨a, C, zs, rfl, lz, _⟩ := h
    rw [List.length_cons, lz] <;> rfl
  · obtain ⟨oc, od, kV, doc, pm, an, cdv, ct, osl, rfl, lk, hcd⟩ := Fu.ex
    exact ⟨fun s us ws X l1 l2 => match us, l1, ws, l2 with | [_], _, [_], _ => .of_eq rfl, fun r1 r2 => r1.append r2⟩
abbrev i_BadPress : Stmt := inCls (top 4) 0
theorem ic_BadPress : FnScope ["self", "number"] ["self", "number"] (defScope i_BadPress) := ⟨rfl, rfl, rfl, by decide +kernel, rfl, by decide +kernel, by decide +kernel⟩
theorem oi_BadPress {C fI : Addr} {fd : FuncData} (Fu : Fun K "__init__" "BadPress.__init__" i_BadPress fI fd) (B : XBase K mg "DialError") (gC : mg "BadPress" = some (.ref C)) (T : OexC K C) (iC : PySem.W.findIn K (.ref C) "__init__" = some (some (.ref fI))) (tI : PySem.W.typeIn K (.ref fI) = some (.type "function"))
    (hno : ∀ f ∈ (["number"] : List Str), PySem.W.findIn K (.ref C) f = some none) : OwnX P w K mg base "BadPress" 1 ["number"] := by
  refine ⟨C, fI, fd, ["self", "number"], gC, T, iC, tI, hno, Fu.okX ic_BadPress (fun vs H Q E h => ?_) (fun cdv A outer s H vs Q E hr h => ⟨_, (pss_cons (ps_expr (pe_ownInit B rfl (pa_cons (pe_var (i := 0) rfl (Or.inl rfl)) (pa_cons pe_str pa_nil)))) (pss_one (ps_ost (pe_var (i := 0) rfl (Or.inl rfl)) (pe_var (i := 1) rfl (Or.inl rfl))))), init_run1 h⟩), ?_⟩
  · obtain ⟨a, C, zs, rfl, lz, _⟩ := h
    rw [List.length_cons, lz] <;> rfl
  · obtain ⟨oc, od, kV, doc, pm, an, cdv, ct, osl, rfl, lk, hcd⟩ := Fu.ex
    exact ⟨fun s us ws X l1 l2 => match us, l1, ws, l2 with | [_], _, [_], _ => .of_eq rfl, fun r1 r2 => r1.append r2⟩
abbrev i_BadStep : Stmt := inCls (top 5) 0
theorem ic_BadStep : FnScope ["self", "number"] ["self", "number"] (defScope i_BadStep) := ⟨rfl, rfl, rfl, by decide +kernel, rfl, by decide +kernel, by decide +kernel⟩
theorem oi_BadStep {C fI : Addr} {fd : FuncData} (Fu : Fun K "__init__" "BadStep.__init__" i_BadStep fI fd) (B : XBase K mg "DialError") (gC : mg "BadStep" = some (.ref C)) (T : OexC K C) (iC : PySem.W.findIn K (.ref C) "__init__" = some (some (.ref fI))) (tI : PySem.W.typeIn K (.ref fI) = some (.type "function"))
    (hno : ∀ f ∈ (["number"] : List Str), PySem.W.findIn K (.ref C) f = some none) : OwnX P w K mg base "BadStep" 1 ["number"] := by
  refine ⟨C, fI, fd, ["self", "number"], gC, T, iC, tI, hno, Fu.okX ic_BadStep (fun vs H Q E h => ?_) (fun cdv A outer s H vs Q E hr h => ⟨_, (pss_cons (ps_expr (pe_ownInit B rfl (pa_cons (pe_var (i := 0) rfl (Or.inl rfl)) (pa_cons pe_str pa_nil)))) (pss_one (ps_ost (pe_var (i := 0) rfl (Or.inl rfl)) (pe_var (i := 1) rfl (Or.inl rfl))))), init_run1 h⟩), ?_⟩
  · obtain ⟨a, C, zs, rfl, lz, _⟩ := h
    rw [List.length_cons, lz] <;> rfl
  · obtain ⟨oc, od, kV, doc, pm, an, cdv, ct, osl, rfl, lk, hcd⟩ := Fu.ex
    exact ⟨fun s us ws X l1 l2 => match us, l1, ws, l2 with | [_], _, [_], _ => .of_eq rfl, fun r1 r2 => r1.append r2⟩
abbrev i_BadDeed : Stmt := inCls (top 6) 0
theorem ic_BadDeed : FnScope ["self", "number"] ["self", "number"] (defScope i_BadDeed) := ⟨rfl, rfl, rfl, by decide +kernel, rfl, by decide +kernel, by decide +kernel⟩
theorem oi_BadDeed {C fI : Addr} {fd : FuncData} (Fu : Fun K "__init__" "BadDeed.__init__" i_BadDeed fI fd) (B : XBase K mg "DialError") (gC : mg "BadDeed" = some (.ref C)) (T : OexC K C) (iC : PySem.W.findIn K (.ref C) "__init__" = some (some (.ref fI))) (tI : PySem.W.typeIn K (.ref fI) = some (.type "function"))
    (hno : ∀ f ∈ (["number"] : List Str), PySem.W.findIn K (.ref C) f = some none) : OwnX P w K mg base "BadDeed" 1 ["number"] := by
  refine ⟨C, fI, fd, ["self", "number"], gC, T, iC, tI, hno, Fu.okX ic_BadDeed (fun vs H Q E h => ?_) (fun cdv A outer s H vs Q E hr h => ⟨_, (pss_cons (ps_expr (pe_ownInit B rfl (pa_cons (pe_var (i := 0) rfl (Or.inl rfl)) (pa_cons pe_str pa_nil)))) (pss_one (ps_ost (pe_var (i := 0) rfl (Or.inl rfl)) (pe_var (i := 1) rfl (Or.inl rfl))))), init_run1 h⟩), ?_⟩
  · obtain ⟨a, C, zs, rfl, lz, _⟩ := h
    rw [List.length_cons, lz] <;> rfl
  · obtain ⟨oc, od, kV, doc, pm, an, cdv, ct, osl, rfl, lk, hcd⟩ := Fu.ex
    exact ⟨fun s us ws X l1 l2 => match us, l1, ws, l2 with | [_], _, [_], _ => .of_eq rfl, fun r1 r2 => r1.append r2⟩
abbrev i_BadText : Stmt := inCls (top 13) 0
theorem ic_BadText : FnScope ["self", "row"] ["self", "row"] (defScope i_BadText) := ⟨rfl, rfl, rfl, by decide +kernel, rfl, by decide +kernel, by decide +kernel⟩
theorem oi_BadText {C fI : Addr} {fd : FuncData} (Fu : Fun K "__init__" "BadText.__init__" i_BadText fI fd) (B : XBase K mg "DialError") (gC : mg "BadText" = some (.ref C)) (T : OexC K C) (iC : PySem.W.findIn K (.ref C) "__init__" = some (some (.ref fI))) (tI : PySem.W.typeIn K (.ref fI) = some (.type "function"))
    (hno : ∀ f ∈ (["row"] : List Str), PySem.W.findIn K (.ref C) f = some none) : OwnX P w K mg base "BadText" 1 ["row"] := by
  refine ⟨C, fI, fd, ["self", "row"], gC, T, iC, tI, hno, Fu.okX ic_BadText (fun vs H Q E h => ?_) (fun cdv A outer s H vs Q E hr h => ⟨_, (pss_cons (ps_expr (pe_ownInit B rfl (pa_cons (pe_var (i := 0) rfl (Or.inl rfl)) (pa_cons pe_str pa_nil)))) (pss_one (ps_ost (pe_var (i := 0) rfl (Or.inl rfl)) (pe_var (i := 1) rfl (Or.inl rfl))))), init_run1 h⟩), ?_⟩
  · obtain ⟨a, C, zs, rfl, lz, _⟩ := h
    rw [List.length_cons, lz] <;> rfl
  · obtain ⟨oc, od, kV, doc, pm, an, cdv, ct, osl, rfl, lk, hcd⟩ := Fu.ex
    exact ⟨fun s us ws X l1 l2 => match us, l1, ws, l2 with | [_], _, [_], _ => .of_eq rfl, fun r1 r2 => r1.append r2⟩
abbrev s__law_start : Stmt := top 15
theorem sc__law_start : FnScope ["_law_script", "_law_mixed", "_law_cell"] ["_law_script"] (defScope s__law_start) := ⟨rfl, rfl, rfl, by decide +kernel, rfl, by decide +kernel, by decide +kernel⟩
noncomputable def m__law_start : MS :=
  (mSeq (mSet 1 (mC (.int 1)))
  (mSeq (mFor (mSeqI (mVar 0)) (gNm 2) (mSet 1 (mBin gMod (mBin gAdd (mBin gAdd (mBin gMul (mPk 1) (mC (.int 48271))) (mPk 2)) (mC (.int 7))) (mC (.int 2147483647)))))
  (mRet (mLst (mCons (mVar 0) (mCons (mC (.int 0)) (mCons (mVar 1) (mCons (mC (.int 0)) mNil))))))))
noncomputable def F__law_start : MF := bodyF 3 1 m__law_start
theorem fo__law_start {f : Addr} {fd : FuncData} (Fu : Fun K "_law_start" "_law_start" s__law_start f fd)  : FnOk P w K mg base (L2.CX P w) 1 f fd ["_law_script"] (spF ⟨K, mg, T, noL⟩ F__law_start) := by
  refine fn_M Fu sc__law_start (fun cdv A outer s H E hr => ?_)
  have ag : Ag (cxOf (L2.CX P w) P w K mg base ["_law_script", "_law_mixed", "_law_cell"] "_law_start" (defScope s__law_start) f cdv A outer s H E) ⟨K, mg, T, noL⟩ := ⟨rfl, rfl⟩
  have nd := sc__law_start.nd
  have tk : Takes (cxOf (L2.CX P w) P w K mg base ["_law_script", "_law_mixed", "_law_cell"] "_law_start" (defScope s__law_start) f cdv A outer s H E) (fun cls d _ H => E cls d H) := takes_of rfl rfl rfl rfl
  exact (bm_cs (sm_set (i := 1) nd rfl (Or.inl rfl) em_int)
  (bm_cs (sm_for (passes_of rfl) rfl (jm (im_seq ag (em_var 0))) (gm_name nd rfl (Or.inl rfl)) (bm_on (sm_set (i := 1) nd rfl (Or.inl rfl) (em_bin om_mod (om (em_bin (om_add ag) (om (em_bin (om_add ag) (om (em_bin om_mul (om_var 1) (om em_int))) (om_var 2))) (om em_int))) (om em_int)))))
  (bm_on (sm_ret (em_lst (am_cons (em_var 0) (am_cons em_int (am_cons (em_var 1) (am_cons em_int am_nil)))))))))
theorem ok__law_start {f : Addr} {fd : FuncData} (Fu : Fun K "_law_start" "_law_start" s__law_start f fd) (gf : mg "_law_start" = some (.ref f))  : HasF P w K mg base T "_law_start" 1 ["_law_script"] F__law_start :=
  ⟨f, fd, fo__law_start Fu , gf, Fu.kp, Fu.binds (ps := ["_law_script"]) fun _ _ _ _ _ _ us hl => match us, hl with | [_], _ => rfl⟩
abbrev s__law_drawn : Stmt := top 16
theorem sc__law_drawn : FnScope ["_law_state", "_law_many", "_law_found", "_law_cell"] ["_law_state", "_law_many"] (defScope s__law_drawn) := ⟨rfl, rfl, rfl, by decide +kernel, rfl, by decide +kernel, by decide +kernel⟩
noncomputable def m__law_drawn : MS :=
  (mSeq (mIf (mBin gGt (mCIx 0 (mC (.int 3))) (mC (.int 0))) (mSeq (mSet 2 (mBin gMod (mCIx 0 (mC (.int 3))) (mPk 1)))
  (mSeq (mCSet 0 (mC (.int 3)) (mBin gDiv (mCIx 0 (mC (.int 3))) (mPk 1)))
  (mMv 2))) mNext)
  (mSeq (mCSet 0 (mC (.int 1)) (mBin gAdd (mCIx 0 (mC (.int 1))) (mC (.int 1))))
  (mSeq (mIf (mBin gLe (mCIx 0 (mC (.int 1))) (mCB (g1 gLen) (mCons (mCIx 0 (mC (.int 0))) mNil))) (mSeq (mSet 3 (mBin gIx (mCIx 0 (mC (.int 0))) (mBin gSub (mCIx 0 (mC (.int 1))) (mC (.int 1)))))
  (mSeq (mCSet 0 (mC (.int 3)) (mIfE (mBin gGe (mPk 3) (mBin gPow (mC (.int 10)) (mC (.int 18)))) (mBin gDiv (mPk 3) (mPk 1)) (mC (.int 0))))
  (mRet (mBin gMod (mPk 3) (mPk 1))))) mNext)
  (mSeq (mCSet 0 (mC (.int 2)) (mBin gMod (mBin gAdd (mBin gMul (mCIx 0 (mC (.int 2))) (mC (.int 48271))) (mC (.int 11))) (mC (.int 2147483647))))
  (mRet (mBin gMod (mBin gDiv (mCIx 0 (mC (.int 2))) (mC (.int 7))) (mPk 1)))))))
noncomputable def F__law_drawn : MF := bodyF 4 2 m__law_drawn
theorem fo__law_drawn {f : Addr} {fd : FuncData} (Fu : Fun K "_law_drawn" "_law_drawn" s__law_drawn f fd) (ntlen : mg "len" = none) : FnOk P w K mg base (L2.CX P w) 1 f fd ["_law_state", "_law_many"] (spF ⟨K, mg, T, noL⟩ F__law_drawn) := by
  refine fn_M Fu sc__law_drawn (fun cdv A outer s H E hr => ?_)
  have ag : Ag (cxOf (L2.CX P w) P w K mg base ["_law_state", "_law_many", "_law_found", "_law_cell"] "_law_drawn" (defScope s__law_drawn) f cdv A outer s H E) ⟨K, mg, T, noL⟩ := ⟨rfl, rfl⟩
  have nd := sc__law_drawn.nd
  have tk : Takes (cxOf (L2.CX P w) P w K mg base ["_law_state", "_law_many", "_law_found", "_law_cell"] "_law_drawn" (defScope s__law_drawn) f cdv A outer s H E) (fun cls d _ H => E cls d H) := takes_of rfl rfl rfl rfl
  exact (bm_cs (sm_if (tm_cmp om_gt (om (em_cix 0 ag em_int (fun _ _ => rfl))) (om em_int) (nomark _)) (bm_cs (sm_set (i := 2) nd rfl (Or.inl rfl) (em_bin om_mod (om (em_cix 0 ag em_int (fun _ _ => rfl))) (om_var 1)))
  (bm_cs (sm_cset 0 (hk := em_int) (he := (em_bin om_div (om (em_cix 0 ag em_int (fun _ _ => rfl))) (om_var 1))))
  (bm_on (sm_retV 2)))) bm_nl)
  (bm_cs (sm_cset 0 (hk := em_int) (he := (em_bin (om_add ag) (om (em_cix 0 ag em_int (fun _ _ => rfl))) (om em_int))))
  (bm_cs (sm_if (tm_cmp om_le (om (em_cix 0 ag em_int (fun _ _ => rfl))) (om (em_callB (cm_len ag) rfl ntlen PySem.boot_len (bm_cons (om (em_cix 0 ag em_int (fun _ _ => rfl))) bm_nil))) (nomark _)) (bm_cs (sm_set (i := 3) nd rfl (Or.inl rfl) (em_ix ag (om (em_cix 0 ag em_int (fun _ _ => rfl))) (om (em_bin om_sub (om (em_cix 0 ag em_int (fun _ _ => rfl))) (om em_int))) (fun _ _ => rfl)))
  (bm_cs (sm_cset 0 (hk := em_int) (he := (em_if (tm_cmp om_ge (om_var 3) (om (em_bin om_pow (om em_int) (om em_int))) (nomark _)) (em_bin om_div (om_var 3) (om_var 1)) em_int)))
  (bm_on (sm_ret (em_bin om_mod (om_var 3) (om_var 1)))))) bm_nl)
  (bm_cs (sm_cset 0 (hk := em_int) (he := (em_bin om_mod (om (em_bin (om_add ag) (om (em_bin om_mul (om (em_cix 0 ag em_int (fun _ _ => rfl))) (om em_int))) (om em_int))) (om em_int))))
  (bm_on (sm_ret (em_bin om_mod (om (em_bin om_div (om (em_cix 0 ag em_int (fun _ _ => rfl))) (om em_int))) (om_var 1))))))))
theorem ok__law_drawn {f : Addr} {fd : FuncData} (Fu : Fun K "_law_drawn" "_law_drawn" s__law_drawn f fd) (gf : mg "_law_drawn" = some (.ref f)) (ntlen : mg "len" = none) : HasF P w K mg base T "_law_drawn" 1 ["_law_state", "_law_many"] F__law_drawn :=
  ⟨f, fd, fo__law_drawn Fu ntlen, gf, Fu.kp, Fu.binds (ps := ["_law_state", "_law_many"]) fun _ _ _ _ _ _ us hl => match us, hl with | [_, _], _ => rfl⟩
abbrev s__law_raised : Stmt := top 17
theorem sc__law_raised : FnScope ["_law_kind", "_law_one", "_law_other"] ["_law_kind", "_law_one", "_law_other"] (defScope s__law_raised) := ⟨rfl, rfl, rfl, by decide +kernel, rfl, by decide +kernel, by decide +kernel⟩
noncomputable def m__law_raised : MS :=
  (mIf (mBin gEq (mPk 0) (mC (.int 0))) (mRaise "BadBelt" ["part", "number"] (mCons (mVar 1) (mCons (mVar 2) mNil))) (mIf (mBin gEq (mPk 0) (mC (.int 1))) (mRaise "BadGoal" ["number"] (mCons (mVar 1) mNil)) (mIf (mBin gEq (mPk 0) (mC (.int 2))) (mRaise "BadPress" ["number"] (mCons (mVar 1) mNil)) (mIf (mBin gEq (mPk 0) (mC (.int 3))) (mRaise "BadStep" ["number"] (mCons (mVar 1) mNil)) (mIf (mBin gEq (mPk 0) (mC (.int 4))) (mRaise "BadDeed" ["number"] (mCons (mVar 1) mNil)) (mIf (mBin gEq (mPk 0) (mC (.int 5))) (mRaise0 "BadCount") (mIf (mBin gEq (mPk 0) (mC (.int 6))) (mRaise0 "TooMany") (mIf (mBin gEq (mPk 0) (mC (.int 7))) (mRaise0 "NoWay") (mIf (mBin gEq (mPk 0) (mC (.int 8))) (mRaise0 "BadName") (mIf (mBin gEq (mPk 0) (mC (.int 9))) (mRaise0 "Known") (mIf (mBin gEq (mPk 0) (mC (.int 10))) (mRaise0 "NoRoutine") (mIf (mBin gEq (mPk 0) (mC (.int 11))) (mRaise "BadText" ["row"] (mCons (mVar 1) mNil)) mNext))))))))))))
noncomputable def F__law_raised : MF := bodyF 3 3 m__law_raised
theorem fo__law_raised {f : Addr} {fd : FuncData} (Fu : Fun K "_law_raised" "_law_raised" s__law_raised f fd) (O_BadBelt : OwnX P w K mg base "BadBelt" 1 ["part", "number"]) (O_BadGoal : OwnX P w K mg base "BadGoal" 1 ["number"]) (O_BadPress : OwnX P w K mg base "BadPress" 1 ["number"]) (O_BadStep : OwnX P w K mg base "BadStep" 1 ["number"]) (O_BadDeed : OwnX P w K mg base "BadDeed" 1 ["number"]) (O_BadCount : OwnP K mg "BadCount") (O_TooMany : OwnP K mg "TooMany") (O_NoWay : OwnP K mg "NoWay") (O_BadName : OwnP K mg "BadName") (O_Known : OwnP K mg "Known") (O_NoRoutine : OwnP K mg "NoRoutine") (O_BadText : OwnX P w K mg base "BadText" 1 ["row"]) : FnOk P w K mg base (L2.CX P w) 3 f fd ["_law_kind", "_law_one", "_law_other"] (spF ⟨K, mg, T, noL⟩ F__law_raised) := by
  refine fn_M Fu sc__law_raised (fun cdv A outer s H E hr => ?_)
  have ag : Ag (cxOf (L2.CX P w) P w K mg base ["_law_kind", "_law_one", "_law_other"] "_law_raised" (defScope s__law_raised) f cdv A outer s H E) ⟨K, mg, T, noL⟩ := ⟨rfl, rfl⟩
  have nd := sc__law_raised.nd
  have tk : Takes (cxOf (L2.CX P w) P w K mg base ["_law_kind", "_law_one", "_law_other"] "_law_raised" (defScope s__law_raised) f cdv A outer s H E) (fun cls d _ H => E cls d H) := takes_of rfl rfl rfl rfl
  exact (bm_on (sm_if (tm_cmp (om_eq ag hr.units) (om_var 0) (om em_int) (nomark _)) (bm_on (sm_raiseK rfl tk rfl O_BadBelt (hr.mono (by decide)) rfl (km_cons (em_var 1) (km_cons (em_var 2) km_nil)))) (bm_on (sm_if (tm_cmp (om_eq ag hr.units) (om_var 0) (om em_int) (nomark _)) (bm_on (sm_raiseK rfl tk rfl O_BadGoal (hr.mono (by decide)) rfl (km_cons (em_var 1) km_nil))) (bm_on (sm_if (tm_cmp (om_eq ag hr.units) (om_var 0) (om em_int) (nomark _)) (bm_on (sm_raiseK rfl tk rfl O_BadPress (hr.mono (by decide)) rfl (km_cons (em_var 1) km_nil))) (bm_on (sm_if (tm_cmp (om_eq ag hr.units) (om_var 0) (om em_int) (nomark _)) (bm_on (sm_raiseK rfl tk rfl O_BadStep (hr.mono (by decide)) rfl (km_cons (em_var 1) km_nil))) (bm_on (sm_if (tm_cmp (om_eq ag hr.units) (om_var 0) (om em_int) (nomark _)) (bm_on (sm_raiseK rfl tk rfl O_BadDeed (hr.mono (by decide)) rfl (km_cons (em_var 1) km_nil))) (bm_on (sm_if (tm_cmp (om_eq ag hr.units) (om_var 0) (om em_int) (nomark _)) (bm_on (sm_raise0 rfl tk ag O_BadCount rfl)) (bm_on (sm_if (tm_cmp (om_eq ag hr.units) (om_var 0) (om em_int) (nomark _)) (bm_on (sm_raise0 rfl tk ag O_TooMany rfl)) (bm_on (sm_if (tm_cmp (om_eq ag hr.units) (om_var 0) (om em_int) (nomark _)) (bm_on (sm_raise0 rfl tk ag O_NoWay rfl)) (bm_on (sm_if (tm_cmp (om_eq ag hr.units) (om_var 0) (om em_int) (nomark _)) (bm_on (sm_raise0 rfl tk ag O_BadName rfl)) (bm_on (sm_if (tm_cmp (om_eq ag hr.units) (om_var 0) (om em_int) (nomark _)) (bm_on (sm_raise0 rfl tk ag O_Known rfl)) (bm_on (sm_if (tm_cmp (om_eq ag hr.units) (om_var 0) (om em_int) (nomark _)) (bm_on (sm_raise0 rfl tk ag O_NoRoutine rfl)) (bm_on (sm_if (tm_cmp (om_eq ag hr.units) (om_var 0) (om em_int) (nomark _)) (bm_on (sm_raiseK rfl tk rfl O_BadText (hr.mono (by decide)) rfl (km_cons (em_var 1) km_nil))) bm_nl))))))))))))))))))))))))
theorem ok__law_raised {f : Addr} {fd : FuncData} (Fu : Fun K "_law_raised" "_law_raised" s__law_raised f fd) (gf : mg "_law_raised" = some (.ref f)) (O_BadBelt : OwnX P w K mg base "BadBelt" 1 ["part", "number"]) (O_BadGoal : OwnX P w K mg base "BadGoal" 1 ["number"]) (O_BadPress : OwnX P w K mg base "BadPress" 1 ["number"]) (O_BadStep : OwnX P w K mg base "BadStep" 1 ["number"]) (O_BadDeed : OwnX P w K mg base "BadDeed" 1 ["number"]) (O_BadCount : OwnP K mg "BadCount") (O_TooMany : OwnP K mg "TooMany") (O_NoWay : OwnP K mg "NoWay") (O_BadName : OwnP K mg "BadName") (O_Known : OwnP K mg "Known") (O_NoRoutine : OwnP K mg "NoRoutine") (O_BadText : OwnX P w K mg base "BadText" 1 ["row"]) : HasF P w K mg base T "_law_raised" 3 ["_law_kind", "_law_one", "_law_other"] F__law_raised :=
  ⟨f, fd, fo__law_raised Fu O_BadBelt O_BadGoal O_BadPress O_BadStep O_BadDeed O_BadCount O_TooMany O_NoWay O_BadName O_Known O_NoRoutine O_BadText, gf, Fu.kp, Fu.binds (ps := ["_law_kind", "_law_one", "_law_other"]) fun _ _ _ _ _ _ us hl => match us, hl with | [_, _, _], _ => rfl⟩
abbrev s__law_up : Stmt := top 18
theorem sc__law_up : FnScope ["_law_kind", "_law_one", "_law_other", "_law_found", "error"] ["_law_kind", "_law_one", "_law_other"] (defScope s__law_up) := ⟨rfl, rfl, rfl, by decide +kernel, rfl, by decide +kernel, by decide +kernel⟩
noncomputable def m__law_up : MS :=
  (mSeq (mSet 3 (mLst mNil))
  (mSeq (mTry (mEx (mCall F__law_raised (mCons (mVar 0) (mCons (mVar 1) (mCons (mVar 2) mNil))))) (("BadBelt", some 4, (mSet 3 (mLst (mCons (mC (.int 0)) (mCons (mXf 4 "part") (mCons (mXf 4 "number") mNil)))))) :: (("BadGoal", some 4, (mSet 3 (mLst (mCons (mC (.int 1)) (mCons (mXf 4 "number") mNil))))) :: (("BadPress", some 4, (mSet 3 (mLst (mCons (mC (.int 2)) (mCons (mXf 4 "number") mNil))))) :: (("BadStep", some 4, (mSet 3 (mLst (mCons (mC (.int 3)) (mCons (mXf 4 "number") mNil))))) :: (("BadDeed", some 4, (mSet 3 (mLst (mCons (mC (.int 4)) (mCons (mXf 4 "number") mNil))))) :: (("BadCount", none, (mSet 3 (mLst (mCons (mC (.int 5)) mNil)))) :: (("TooMany", none, (mSet 3 (mLst (mCons (mC (.int 6)) mNil)))) :: (("NoWay", none, (mSet 3 (mLst (mCons (mC (.int 7)) mNil)))) :: (("BadName", none, (mSet 3 (mLst (mCons (mC (.int 8)) mNil)))) :: (("Known", none, (mSet 3 (mLst (mCons (mC (.int 9)) mNil)))) :: (("NoRoutine", none, (mSet 3 (mLst (mCons (mC (.int 10)) mNil)))) :: (("BadText", some 4, (mSet 3 (mLst (mCons (mC (.int 11)) (mCons (mXf 4 "row") mNil))))) :: [])))))))))))))
  (mMv 3)))
noncomputable def F__law_up : MF := bodyF 5 3 m__law_up
theorem fo__law_up {f : Addr} {fd : FuncData} (Fu : Fun K "_law_up" "_law_up" s__law_up f fd) (D__law_raised : HasF P w K mg base T "_law_raised" 3 ["_law_kind", "_law_one", "_law_other"] F__law_raised) (XA : XAll K mg) : FnOk P w K mg base (L2.CX P w) 4 f fd ["_law_kind", "_law_one", "_law_other"] (spF ⟨K, mg, T, noL⟩ F__law_up) := by
  refine fn_M Fu sc__law_up (fun cdv A outer s H E hr => ?_)
  have ag : Ag (cxOf (L2.CX P w) P w K mg base ["_law_kind", "_law_one", "_law_other", "_law_found", "error"] "_law_up" (defScope s__law_up) f cdv A outer s H E) ⟨K, mg, T, noL⟩ := ⟨rfl, rfl⟩
  have nd := sc__law_up.nd
  have tk : Takes (cxOf (L2.CX P w) P w K mg base ["_law_kind", "_law_one", "_law_other", "_law_found", "error"] "_law_up" (defScope s__law_up) f cdv A outer s H E) (fun cls d _ H => E cls d H) := takes_of rfl rfl rfl rfl
  exact (bm_cs (sm_set (i := 3) nd rfl (Or.inl rfl) (em_lst am_nil))
  (bm_cs (sm_try rfl rfl nd tk XA ag (fun Wx pn xe tk' po' => (bm_on (sm_expr (em_callD D__law_raised tk' (hr.mono (by decide)) ⟨rfl, rfl, rfl⟩ rfl (am_cons (em_var 0) (am_cons (em_var 1) (am_cons (em_var 2) am_nil))))))) (.nam (i := 4) rfl rfl rfl (by decide) (by decide) (fun a oe cls d pn hz hv => (bm_on (sm_set (i := 3) nd rfl (Or.inl rfl) (em_lst (am_cons em_int (am_cons (em_xf 4 XA rfl hz hv rfl (by first | exact Or.inl rfl | exact Or.inr (Or.inl rfl) | exact Or.inr (Or.inr rfl)) (by decide)) (am_cons (em_xf 4 XA rfl hz hv rfl (by first | exact Or.inl rfl | exact Or.inr (Or.inl rfl) | exact Or.inr (Or.inr rfl)) (by decide)) am_nil))))))) (.nam (i := 4) rfl rfl rfl (by decide) (by decide) (fun a oe cls d pn hz hv => (bm_on (sm_set (i := 3) nd rfl (Or.inl rfl) (em_lst (am_cons em_int (am_cons (em_xf 4 XA rfl hz hv rfl (by first | exact Or.inl rfl | exact Or.inr (Or.inl rfl) | exact Or.inr (Or.inr rfl)) (by decide)) am_nil)))))) (.nam (i := 4) rfl rfl rfl (by decide) (by decide) (fun a oe cls d pn hz hv => (bm_on (sm_set (i := 3) nd rfl (Or.inl rfl) (em_lst (am_cons em_int (am_cons (em_xf 4 XA rfl hz hv rfl (by first | exact Or.inl rfl | exact Or.inr (Or.inl rfl) | exact Or.inr (Or.inr rfl)) (by decide)) am_nil)))))) (.nam (i := 4) rfl rfl rfl (by decide) (by decide) (fun a oe cls d pn hz hv => (bm_on (sm_set (i := 3) nd rfl (Or.inl rfl) (em_lst (am_cons em_int (am_cons (em_xf 4 XA rfl hz hv rfl (by first | exact Or.inl rfl | exact Or.inr (Or.inl rfl) | exact Or.inr (Or.inr rfl)) (by decide)) am_nil)))))) (.nam (i := 4) rfl rfl rfl (by decide) (by decide) (fun a oe cls d pn hz hv => (bm_on (sm_set (i := 3) nd rfl (Or.inl rfl) (em_lst (am_cons em_int (am_cons (em_xf 4 XA rfl hz hv rfl (by first | exact Or.inl rfl | exact Or.inr (Or.inl rfl) | exact Or.inr (Or.inr rfl)) (by decide)) am_nil)))))) (.one rfl (by decide) (by decide) (fun a oe cls d pn hz hv => (bm_on (sm_set (i := 3) nd rfl (Or.inl rfl) (em_lst (am_cons em_int am_nil))))) (.one rfl (by decide) (by decide) (fun a oe cls d pn hz hv => (bm_on (sm_set (i := 3) nd rfl (Or.inl rfl) (em_lst (am_cons em_int am_nil))))) (.one rfl (by decide) (by decide) (fun a oe cls d pn hz hv => (bm_on (sm_set (i := 3) nd rfl (Or.inl rfl) (em_lst (am_cons em_int am_nil))))) (.one rfl (by decide) (by decide) (fun a oe cls d pn hz hv => (bm_on (sm_set (i := 3) nd rfl (Or.inl rfl) (em_lst (am_cons em_int am_nil))))) (.one rfl (by decide) (by decide) (fun a oe cls d pn hz hv => (bm_on (sm_set (i := 3) nd rfl (Or.inl rfl) (em_lst (am_cons em_int am_nil))))) (.one rfl (by decide) (by decide) (fun a oe cls d pn hz hv => (bm_on (sm_set (i := 3) nd rfl (Or.inl rfl) (em_lst (am_cons em_int am_nil))))) (.nam (i := 4) rfl rfl rfl (by decide) (by decide) (fun a oe cls d pn hz hv => (bm_on (sm_set (i := 3) nd rfl (Or.inl rfl) (em_lst (am_cons em_int (am_cons (em_xf 4 XA rfl hz hv rfl (by first | exact Or.inl rfl | exact Or.inr (Or.inl rfl) | exact Or.inr (Or.inr rfl)) (by decide)) am_nil)))))) .nil)))))))))))))
  (bm_on (sm_retV 3))))
theorem ok__law_up {f : Addr} {fd : FuncData} (Fu : Fun K "_law_up" "_law_up" s__law_up f fd) (gf : mg "_law_up" = some (.ref f)) (D__law_raised : HasF P w K mg base T "_law_raised" 3 ["_law_kind", "_law_one", "_law_other"] F__law_raised) (XA : XAll K mg) : HasF P w K mg base T "_law_up" 4 ["_law_kind", "_law_one", "_law_other"] F__law_up :=
  ⟨f, fd, fo__law_up Fu D__law_raised XA, gf, Fu.kp, Fu.binds (ps := ["_law_kind", "_law_one", "_law_other"]) fun _ _ _ _ _ _ us hl => match us, hl with | [_, _, _], _ => rfl⟩
abbrev s__law_down : Stmt := top 19
theorem sc__law_down : FnScope ["_law_kind", "_law_one", "_law_other", "_law_found", "error"] ["_law_kind", "_law_one", "_law_other"] (defScope s__law_down) := ⟨rfl, rfl, rfl, by decide +kernel, rfl, by decide +kernel, by decide +kernel⟩
noncomputable def m__law_down : MS :=
  (mSeq (mSet 3 (mLst mNil))
  (mSeq (mTry (mEx (mCall F__law_raised (mCons (mVar 0) (mCons (mVar 1) (mCons (mVar 2) mNil))))) (("BadText", some 4, (mSet 3 (mLst (mCons (mC (.int 11)) (mCons (mXf 4 "row") mNil))))) :: (("NoRoutine", none, (mSet 3 (mLst (mCons (mC (.int 10)) mNil)))) :: (("Known", none, (mSet 3 (mLst (mCons (mC (.int 9)) mNil)))) :: (("BadName", none, (mSet 3 (mLst (mCons (mC (.int 8)) mNil)))) :: (("NoWay", none, (mSet 3 (mLst (mCons (mC (.int 7)) mNil)))) :: (("TooMany", none, (mSet 3 (mLst (mCons (mC (.int 6)) mNil)))) :: (("BadCount", none, (mSet 3 (mLst (mCons (mC (.int 5)) mNil)))) :: (("BadDeed", some 4, (mSet 3 (mLst (mCons (mC (.int 4)) (mCons (mXf 4 "number") mNil))))) :: (("BadStep", some 4, (mSet 3 (mLst (mCons (mC (.int 3)) (mCons (mXf 4 "number") mNil))))) :: (("BadPress", some 4, (mSet 3 (mLst (mCons (mC (.int 2)) (mCons (mXf 4 "number") mNil))))) :: (("BadGoal", some 4, (mSet 3 (mLst (mCons (mC (.int 1)) (mCons (mXf 4 "number") mNil))))) :: (("BadBelt", some 4, (mSet 3 (mLst (mCons (mC (.int 0)) (mCons (mXf 4 "part") (mCons (mXf 4 "number") mNil)))))) :: [])))))))))))))
  (mMv 3)))
noncomputable def F__law_down : MF := bodyF 5 3 m__law_down
theorem fo__law_down {f : Addr} {fd : FuncData} (Fu : Fun K "_law_down" "_law_down" s__law_down f fd) (D__law_raised : HasF P w K mg base T "_law_raised" 3 ["_law_kind", "_law_one", "_law_other"] F__law_raised) (XA : XAll K mg) : FnOk P w K mg base (L2.CX P w) 4 f fd ["_law_kind", "_law_one", "_law_other"] (spF ⟨K, mg, T, noL⟩ F__law_down) := by
  refine fn_M Fu sc__law_down (fun cdv A outer s H E hr => ?_)
  have ag : Ag (cxOf (L2.CX P w) P w K mg base ["_law_kind", "_law_one", "_law_other", "_law_found", "error"] "_law_down" (defScope s__law_down) f cdv A outer s H E) ⟨K, mg, T, noL⟩ := ⟨rfl, rfl⟩
  have nd := sc__law_down.nd
  have tk : Takes (cxOf (L2.CX P w) P w K mg base ["_law_kind", "_law_one", "_law_other", "_law_found", "error"] "_law_down" (defScope s__law_down) f cdv A outer s H E) (fun cls d _ H => E cls d H) := takes_of rfl rfl rfl rfl
  exact (bm_cs (sm_set (i := 3) nd rfl (Or.inl rfl) (em_lst am_nil))
  (bm_cs (sm_try rfl rfl nd tk XA ag (fun Wx pn xe tk' po' => (bm_on (sm_expr (em_callD D__law_raised tk' (hr.mono (by decide)) ⟨rfl, rfl, rfl⟩ rfl (am_cons (em_var 0) (am_cons (em_var 1) (am_cons (em_var 2) am_nil))))))) (.nam (i := 4) rfl rfl rfl (by decide) (by decide) (fun a oe cls d pn hz hv => (bm_on (sm_set (i := 3) nd rfl (Or.inl rfl) (em_lst (am_cons em_int (am_cons (em_xf 4 XA rfl hz hv rfl (by first | exact Or.inl rfl | exact Or.inr (Or.inl rfl) | exact Or.inr (Or.inr rfl)) (by decide)) am_nil)))))) (.one rfl (by decide) (by decide) (fun a oe cls d pn hz hv => (bm_on (sm_set (i := 3) nd rfl (Or.inl rfl) (em_lst (am_cons em_int am_nil))))) (.one rfl (by decide) (by decide) (fun a oe cls d pn hz hv => (bm_on (sm_set (i := 3) nd rfl (Or.inl rfl) (em_lst (am_cons em_int am_nil))))) (.one rfl (by decide) (by decide) (fun a oe cls d pn hz hv => (bm_on (sm_set (i := 3) nd rfl (Or.inl rfl) (em_lst (am_cons em_int am_nil))))) (.one rfl (by decide) (by decide) (fun a oe cls d pn hz hv => (bm_on (sm_set (i := 3) nd rfl (Or.inl rfl) (em_lst (am_cons em_int am_nil))))) (.one rfl (by decide) (by decide) (fun a oe cls d pn hz hv => (bm_on (sm_set (i := 3) nd rfl (Or.inl rfl) (em_lst (am_cons em_int am_nil))))) (.one rfl (by decide) (by decide) (fun a oe cls d pn hz hv => (bm_on (sm_set (i := 3) nd rfl (Or.inl rfl) (em_lst (am_cons em_int am_nil))))) (.nam (i := 4) rfl rfl rfl (by decide) (by decide) (fun a oe cls d pn hz hv => (bm_on (sm_set (i := 3) nd rfl (Or.inl rfl) (em_lst (am_cons em_int (am_cons (em_xf 4 XA rfl hz hv rfl (by first | exact Or.inl rfl | exact Or.inr (Or.inl rfl) | exact Or.inr (Or.inr rfl)) (by decide)) am_nil)))))) (.nam (i := 4) rfl rfl rfl (by decide) (by decide) (fun a oe cls d pn hz hv => (bm_on (sm_set (i := 3) nd rfl (Or.inl rfl) (em_lst (am_cons em_int (am_cons (em_xf 4 XA rfl hz hv rfl (by first | exact Or.inl rfl | exact Or.inr (Or.inl rfl) | exact Or.inr (Or.inr rfl)) (by decide)) am_nil)))))) (.nam (i := 4) rfl rfl rfl (by decide) (by decide) (fun a oe cls d pn hz hv => (bm_on (sm_set (i := 3) nd rfl (Or.inl rfl) (em_lst (am_cons em_int (am_cons (em_xf 4 XA rfl hz hv rfl (by first | exact Or.inl rfl | exact Or.inr (Or.inl rfl) | exact Or.inr (Or.inr rfl)) (by decide)) am_nil)))))) (.nam (i := 4) rfl rfl rfl (by decide) (by decide) (fun a oe cls d pn hz hv => (bm_on (sm_set (i := 3) nd rfl (Or.inl rfl) (em_lst (am_cons em_int (am_cons (em_xf 4 XA rfl hz hv rfl (by first | exact Or.inl rfl | exact Or.inr (Or.inl rfl) | exact Or.inr (Or.inr rfl)) (by decide)) am_nil)))))) (.nam (i := 4) rfl rfl rfl (by decide) (by decide) (fun a oe cls d pn hz hv => (bm_on (sm_set (i := 3) nd rfl (Or.inl rfl) (em_lst (am_cons em_int (am_cons (em_xf 4 XA rfl hz hv rfl (by first | exact Or.inl rfl | exact Or.inr (Or.inl rfl) | exact Or.inr (Or.inr rfl)) (by decide)) (am_cons (em_xf 4 XA rfl hz hv rfl (by first | exact Or.inl rfl | exact Or.inr (Or.inl rfl) | exact Or.inr (Or.inr rfl)) (by decide)) am_nil))))))) .nil)))))))))))))
  (bm_on (sm_retV 3))))
theorem ok__law_down {f : Addr} {fd : FuncData} (Fu : Fun K "_law_down" "_law_down" s__law_down f fd) (gf : mg "_law_down" = some (.ref f)) (D__law_raised : HasF P w K mg base T "_law_raised" 3 ["_law_kind", "_law_one", "_law_other"] F__law_raised) (XA : XAll K mg) : HasF P w K mg base T "_law_down" 4 ["_law_kind", "_law_one", "_law_other"] F__law_down :=
  ⟨f, fd, fo__law_down Fu D__law_raised XA, gf, Fu.kp, Fu.binds (ps := ["_law_kind", "_law_one", "_law_other"]) fun _ _ _ _ _ _ us hl => match us, hl with | [_, _, _], _ => rfl⟩
abbrev s__law_under : Stmt := top 20
theorem sc__law_under : FnScope ["_law_kind", "_law_one", "_law_other", "_law_found", "error"] ["_law_kind", "_law_one", "_law_other"] (defScope s__law_under) := ⟨rfl, rfl, rfl, by decide +kernel, rfl, by decide +kernel, by decide +kernel⟩
noncomputable def m__law_under : MS :=
  (mSeq (mSet 3 (mC (.bl false)))
  (mSeq (mTry (mEx (mCall F__law_raised (mCons (mVar 0) (mCons (mVar 1) (mCons (mVar 2) mNil))))) (("DialError", some 4, (mSet 3 (mIsx 4 "ValueError"))) :: []))
  (mMv 3)))
noncomputable def F__law_under : MF := bodyF 5 3 m__law_under
theorem fo__law_under {f : Addr} {fd : FuncData} (Fu : Fun K "_law_under" "_law_under" s__law_under f fd) (ntValueError : mg "ValueError" = none) (ntisinstance : mg "isinstance" = none) (D__law_raised : HasF P w K mg base T "_law_raised" 3 ["_law_kind", "_law_one", "_law_other"] F__law_raised) (XA : XAll K mg) : FnOk P w K mg base (L2.CX P w) 4 f fd ["_law_kind", "_law_one", "_law_other"] (spF ⟨K, mg, T, noL⟩ F__law_under) := by
  refine fn_M Fu sc__law_under (fun cdv A outer s H E hr => ?_)
  have ag : Ag (cxOf (L2.CX P w) P w K mg base ["_law_kind", "_law_one", "_law_other", "_law_found", "error"] "_law_under" (defScope s__law_under) f cdv A outer s H E) ⟨K, mg, T, noL⟩ := ⟨rfl, rfl⟩
  have nd := sc__law_under.nd
  have tk : Takes (cxOf (L2.CX P w) P w K mg base ["_law_kind", "_law_one", "_law_other", "_law_found", "error"] "_law_under" (defScope s__law_under) f cdv A outer s H E) (fun cls d _ H => E cls d H) := takes_of rfl rfl rfl rfl
  exact (bm_cs (sm_set (i := 3) nd rfl (Or.inl rfl) em_bl)
  (bm_cs (sm_try rfl rfl nd tk XA ag (fun Wx pn xe tk' po' => (bm_on (sm_expr (em_callD D__law_raised tk' (hr.mono (by decide)) ⟨rfl, rfl, rfl⟩ rfl (am_cons (em_var 0) (am_cons (em_var 1) (am_cons (em_var 2) am_nil))))))) (.nam (i := 4) rfl rfl rfl (by decide) (by decide) (fun a oe cls d pn hz hv => (bm_on (sm_set (i := 3) nd rfl (Or.inl rfl) (em_isxV 4 XA rfl hz hv rfl ntisinstance rfl ntValueError rfl (by first | exact Or.inl rfl | exact Or.inr (Or.inl rfl) | exact Or.inr (Or.inr rfl)))))) .nil))
  (bm_on (sm_retV 3))))
theorem ok__law_under {f : Addr} {fd : FuncData} (Fu : Fun K "_law_under" "_law_under" s__law_under f fd) (gf : mg "_law_under" = some (.ref f)) (ntValueError : mg "ValueError" = none) (ntisinstance : mg "isinstance" = none) (D__law_raised : HasF P w K mg base T "_law_raised" 3 ["_law_kind", "_law_one", "_law_other"] F__law_raised) (XA : XAll K mg) : HasF P w K mg base T "_law_under" 4 ["_law_kind", "_law_one", "_law_other"] F__law_under :=
  ⟨f, fd, fo__law_under Fu ntValueError ntisinstance D__law_raised XA, gf, Fu.kp, Fu.binds (ps := ["_law_kind", "_law_one", "_law_other"]) fun _ _ _ _ _ _ us hl => match us, hl with | [_, _, _], _ => rfl⟩
abbrev s_law : Stmt := top 21
theorem sc_law : FnScope ["_law_script", "_law_state", "_law_many", "_law_turn", "_law_values", "_law_k", "_law_far", "_law_due", "_law_found", "_law_again"] ["_law_script"] (defScope s_law) := ⟨rfl, rfl, rfl, by decide +kernel, rfl, by decide +kernel, by decide +kernel⟩
noncomputable def m_law : MS :=
  (mSeq (mSetC 1 (mCall F__law_start (mCons (mVar 0) mNil)))
  (mSeq (mSet 2 (mLst (mCons (mC (.int 2)) (mCons (mC (.int 1)) (mCons (mC (.int 1)) (mCons (mC (.int 1)) (mCons (mC (.int 1)) (mCons (mC (.int 0)) (mCons (mC (.int 0)) (mCons (mC (.int 0)) (mCons (mC (.int 0)) (mCons (mC (.int 0)) (mCons (mC (.int 0)) (mCons (mC (.int 1)) mNil))))))))))))))
  (mSeq (mFor (mRng1 (mCons (mC (.int 12)) mNil)) (gNm 3) (mSeq (mSet 4 (mLst mNil))
  (mSeq (mFor (mRng1 (mCons (mC (.int 2)) mNil)) (gNm 5) (mSeq (mSet 6 (mBin gSub (mCall F__law_drawn (mCons (mVar 1) (mCons (mBin gPow (mC (.int 10)) (mC (.int 6))) mNil))) (mC (.int 5))))
  (mApp 4 (mBin gIx (mLst (mCons (mVar 6) (mCons (mC .non) (mCons (mC (.str "")) (mCons (mC (.str "refused")) (mCons (mTup (mCons (mVar 6) (mCons (mC (.str "why")) mNil))) (mCons (mC (.bl true)) (mCons (mC (.int 0)) mNil)))))))) (mCall F__law_drawn (mCons (mVar 1) (mCons (mC (.int 7)) mNil)))))))
  (mSeq (mSet 7 (mBin gAdd (mLst (mCons (mVar 3) mNil)) (mSl (mPk 4) mNo (mPt (mBin gIx (mPk 2) (mPk 3))))))
  (mSeq (mPar2 8 9 (mCall F__law_up (mCons (mVar 3) (mCons (mBin gIx (mPk 4) (mC (.int 0))) (mCons (mBin gIx (mPk 4) (mC (.int 1))) mNil)))) (mCall F__law_down (mCons (mVar 3) (mCons (mBin gIx (mPk 4) (mC (.int 0))) (mCons (mBin gIx (mPk 4) (mC (.int 1))) mNil)))))
  (mSeq (mIf (mOr (mBin gNe (mPk 8) (mPk 7)) (mOr (mBin gNe (mPk 9) (mPk 7)) (mNot (mCall F__law_under (mCons (mVar 3) (mCons (mBin gIx (mPk 4) (mC (.int 0))) (mCons (mBin gIx (mPk 4) (mC (.int 1))) mNil))))))) (mRet (mC (.bl false))) mNext)
  (mFor (mRng2 (mCons (mC (.int 1)) (mCons (mCB (g1 gLen) (mCons (mPk 7) mNil)) mNil))) (gNm 5) (mIf (mBin gNe (mIsi "bool" (mBin gIx (mPk 8) (mPk 5))) (mIsi "bool" (mBin gIx (mPk 7) (mPk 5)))) (mRet (mC (.bl false))) mNext))))))))
  (mRet (mC (.bl true))))))
noncomputable def F_law : MF := bodyF 10 1 m_law
theorem fo_law {f : Addr} {fd : FuncData} (Fu : Fun K "law" "law" s_law f fd) (ntbool : mg "bool" = none) (ntisinstance : mg "isinstance" = none) (ntlen : mg "len" = none) (ntrange : mg "range" = none) (D__law_start : HasF P w K mg base T "_law_start" 1 ["_law_script"] F__law_start) (D__law_drawn : HasF P w K mg base T "_law_drawn" 1 ["_law_state", "_law_many"] F__law_drawn) (D__law_up : HasF P w K mg base T "_law_up" 4 ["_law_kind", "_law_one", "_law_other"] F__law_up) (D__law_down : HasF P w K mg base T "_law_down" 4 ["_law_kind", "_law_one", "_law_other"] F__law_down) (D__law_under : HasF P w K mg base T "_law_under" 4 ["_law_kind", "_law_one", "_law_other"] F__law_under) : FnOk P w K mg base (L2.CX P w) 5 f fd ["_law_script"] (spF ⟨K, mg, T, noL⟩ F_law) := by
  refine fn_M Fu sc_law (fun cdv A outer s H E hr => ?_)
  have ag : Ag (cxOf (L2.CX P w) P w K mg base ["_law_script", "_law_state", "_law_many", "_law_turn", "_law_values", "_law_k", "_law_far", "_law_due", "_law_found", "_law_again"] "law" (defScope s_law) f cdv A outer s H E) ⟨K, mg, T, noL⟩ := ⟨rfl, rfl⟩
  have nd := sc_law.nd
  have tk : Takes (cxOf (L2.CX P w) P w K mg base ["_law_script", "_law_state", "_law_many", "_law_turn", "_law_values", "_law_k", "_law_far", "_law_due", "_law_found", "_law_again"] "law" (defScope s_law) f cdv A outer s H E) (fun cls d _ H => E cls d H) := takes_of rfl rfl rfl rfl
  exact (bm_cs (sm_setC (i := 1) nd rfl (Or.inl rfl) (em_callD D__law_start tk (hr.mono (by decide)) ⟨rfl, rfl, rfl⟩ rfl (am_cons (em_var 0) am_nil)))
  (bm_cs (sm_set (i := 2) nd rfl (Or.inl rfl) (em_lst (am_cons em_int (am_cons em_int (am_cons em_int (am_cons em_int (am_cons em_int (am_cons em_int (am_cons em_int (am_cons em_int (am_cons em_int (am_cons em_int (am_cons em_int (am_cons em_int am_nil))))))))))))))
  (bm_cs (sm_for (passes_of rfl) rfl (jm (im_range1 rfl ntrange (bm_cons (om em_int) bm_nil))) (gm_name nd rfl (Or.inl rfl)) (bm_cs (sm_set (i := 4) nd rfl (Or.inl rfl) (em_lst am_nil))
  (bm_cs (sm_for (passes_of rfl) rfl (jm (im_range1 rfl ntrange (bm_cons (om em_int) bm_nil))) (gm_name nd rfl (Or.inl rfl)) (bm_cs (sm_set (i := 6) nd rfl (Or.inl rfl) (em_bin om_sub (om (em_callD D__law_drawn tk (hr.mono (by decide)) ⟨rfl, rfl, rfl⟩ rfl (am_cons (em_var 1) (am_cons (em_bin om_pow (om em_int) (om em_int)) am_nil)))) (om em_int)))
  (bm_on (sm_app 4 (he := (em_ix ag (om (em_lst (am_cons (em_var 6) (am_cons em_non (am_cons em_str (am_cons em_str (am_cons (em_tup (am_cons (em_var 6) (am_cons em_str am_nil))) (am_cons em_bl (am_cons em_int am_nil))))))))) (om (em_callD D__law_drawn tk (hr.mono (by decide)) ⟨rfl, rfl, rfl⟩ rfl (am_cons (em_var 1) (am_cons em_int am_nil)))) (fun _ _ => rfl)))))))
  (bm_cs (sm_set (i := 7) nd rfl (Or.inl rfl) (em_bin (om_add ag) (om (em_lst (am_cons (em_var 3) am_nil))) (om (em_sl ag (om_var 4) pm_no (pm_some (em_ix ag (om_var 2) (om_var 3) (fun _ _ => rfl)))))))
  (bm_cs (sm_par2 rfl nd rfl rfl (by decide) rfl rfl (em_callD D__law_up tk (hr.mono (by decide)) ⟨rfl, rfl, rfl⟩ rfl (am_cons (em_var 3) (am_cons (em_ix ag (om_var 4) (om em_int) (fun _ _ => rfl)) (am_cons (em_ix ag (om_var 4) (om em_int) (fun _ _ => rfl)) am_nil)))) (em_callD D__law_down tk (hr.mono (by decide)) ⟨rfl, rfl, rfl⟩ rfl (am_cons (em_var 3) (am_cons (em_ix ag (om_var 4) (om em_int) (fun _ _ => rfl)) (am_cons (em_ix ag (om_var 4) (om em_int) (fun _ _ => rfl)) am_nil)))) (by rfl))
  (bm_cs (sm_if (tm_w (wm_or (tm_cmp (om_ne ag hr.units) (om_var 8) (om_var 7) (nomark _)) (wm_or (tm_cmp (om_ne ag hr.units) (om_var 9) (om_var 7) (nomark _)) (wm_or1 (tm_not (tm_val (em_callD D__law_under tk (hr.mono (by decide)) ⟨rfl, rfl, rfl⟩ rfl (am_cons (em_var 3) (am_cons (em_ix ag (om_var 4) (om em_int) (fun _ _ => rfl)) (am_cons (em_ix ag (om_var 4) (om em_int) (fun _ _ => rfl)) am_nil)))))))))) (bm_on (sm_ret em_bl)) bm_nl)
  (bm_on (sm_for (passes_of rfl) rfl (jm (im_range2 rfl ntrange (bm_cons (om em_int) (bm_cons (om (em_callB (cm_len ag) rfl ntlen PySem.boot_len (bm_cons (om_var 7) bm_nil))) bm_nil)))) (gm_name nd rfl (Or.inl rfl)) (bm_on (sm_if (tm_cmp (om_ne ag hr.units) (om (em_isi ag (by decide) rfl ntisinstance rfl ntbool (by decide +kernel) (om (em_ix ag (om_var 8) (om_var 5) (fun _ _ => rfl))))) (om (em_isi ag (by decide) rfl ntisinstance rfl ntbool (by decide +kernel) (om (em_ix ag (om_var 7) (om_var 5) (fun _ _ => rfl))))) (nomark _)) (bm_on (sm_ret em_bl)) bm_nl))))))))))
  (bm_on (sm_ret em_bl)))))
theorem ok_law {f : Addr} {fd : FuncData} (Fu : Fun K "law" "law" s_law f fd) (gf : mg "law" = some (.ref f)) (ntbool : mg "bool" = none) (ntisinstance : mg "isinstance" = none) (ntlen : mg "len" = none) (ntrange : mg "range" = none) (D__law_start : HasF P w K mg base T "_law_start" 1 ["_law_script"] F__law_start) (D__law_drawn : HasF P w K mg base T "_law_drawn" 1 ["_law_state", "_law_many"] F__law_drawn) (D__law_up : HasF P w K mg base T "_law_up" 4 ["_law_kind", "_law_one", "_law_other"] F__law_up) (D__law_down : HasF P w K mg base T "_law_down" 4 ["_law_kind", "_law_one", "_law_other"] F__law_down) (D__law_under : HasF P w K mg base T "_law_under" 4 ["_law_kind", "_law_one", "_law_other"] F__law_under) : HasF P w K mg base T "law" 5 ["_law_script"] F_law :=
  ⟨f, fd, fo_law Fu ntbool ntisinstance ntlen ntrange D__law_start D__law_drawn D__law_up D__law_down D__law_under, gf, Fu.kp, Fu.binds (ps := ["_law_script"]) fun _ _ _ _ _ _ us hl => match us, hl with | [_], _ => rfl⟩

end
end DB

set_option Elab.async false
set_option linter.all false
set_option maxRecDepth 100000
set_option maxHeartbeats 4000000
namespace DB
open PySem PySem.Spec PyProof.Rows L2
def exK (k : Nat) (a b : D) : Exc := ([⟨"BadBelt", ["number", "part"], [b, a]⟩, ⟨"BadGoal", ["number"], [a]⟩, ⟨"BadPress", ["number"], [a]⟩, ⟨"BadStep", ["number"], [a]⟩, ⟨"BadDeed", ["number"], [a]⟩, ⟨"BadCount", [], []⟩, ⟨"TooMany", [], []⟩, ⟨"NoWay", [], []⟩,
  ⟨"BadName", [], []⟩, ⟨"Known", [], []⟩, ⟨"NoRoutine", [], []⟩, ⟨"BadText", ["row"], [a]⟩] : List Exc).getD k ⟨"", [], []⟩
def dueK (k : Nat) (a b : D) : List D := ([[.int 0, a, b], [.int 1, a], [.int 2, a], [.int 3, a], [.int 4, a], [.int 5], [.int 6], [.int 7], [.int 8], [.int 9], [.int 10], [.int 11, a]] : List (List D)).getD k []
theorem raised_ok (a b : D) (S : List Cell) : ∀ k : Nat, k < 12 → F__law_raised [.int k, a, b] S = .ex (exK k a b) S := by
  intro k hk
  have c : k = 0 ∨ k = 1 ∨ k = 2 ∨ k = 3 ∨ k = 4 ∨ k = 5 ∨ k = 6 ∨ k = 7 ∨ k = 8 ∨ k = 9 ∨ k = 10 ∨ k = 11 := by omega
  rcases c with rfl | rfl | rfl | rfl | rfl | rfl | rfl | rfl | rfl | rfl | rfl | rfl <;>
    simp [F__law_raised, bodyF, m__law_raised, mIf, mBin, mPk, Res.bd, Res.bind, RV.frz, mC, gEq, bO, ofO, Res.sb, mRaise, mRaise0, mCons, mVar, Res.bl, RL.cons, mNil, exK]
theorem up_ok (a b : D) (S : List Cell) (k : Nat) (hk : k < 12) : F__law_up [.int k, a, b] S = .ok (.own (dueK k a b)) S := by
  have h := raised_ok a b S k hk
  have hs : ∀ n : Nat, n ≤ 3 → n ≤ sizeLine := fun n h => Nat.le_trans h (by decide)
  have pn : (Str.ofString "part" == Str.ofString "number") = false := by decide
  have hs1 := hs 1 (by decide)
  have hs2 := hs 2 (by decide)
  have hs3 := hs 3 (by decide)
  have c : k = 0 ∨ k = 1 ∨ k = 2 ∨ k = 3 ∨ k = 4 ∨ k = 5 ∨ k = 6 ∨ k = 7 ∨ k = 8 ∨ k = 9 ∨ k = 10 ∨ k = 11 := by omega
  rcases c with rfl | rfl | rfl | rfl | rfl | rfl | rfl | rfl | rfl | rfl | rfl | rfl <;>
    simp [exK] at h <;>
    simp (decide := true) [F__law_up, bodyF, m__law_up, mSeq, mSet, mLst, mNil, RL.bd, Res.sd, setRV, W.put, mTry, mEx, mCall, mCons, mVar, Res.bl, RL.cons, RV.frz, Res.bd, Res.bind, h, goCl, noXc, isXc, leaveX, unX, mXf, List.lookup, pn, mC, hs1, hs2, hs3, mMv, RV.plain, dueK]
theorem down_ok (a b : D) (S : List Cell) (k : Nat) (hk : k < 12) : F__law_down [.int k, a, b] S = .ok (.own (dueK k a b)) S := by
  have h := raised_ok a b S k hk
  have hs : ∀ n : Nat, n ≤ 3 → n ≤ sizeLine := fun n h => Nat.le_trans h (by decide)
  have pn : (Str.ofString "part" == Str.ofString "number") = false := by decide
  have hs1 := hs 1 (by decide)
  have hs2 := hs 2 (by decide)
  have hs3 := hs 3 (by decide)
  have c : k = 0 ∨ k = 1 ∨ k = 2 ∨ k = 3 ∨ k = 4 ∨ k = 5 ∨ k = 6 ∨ k = 7 ∨ k = 8 ∨ k = 9 ∨ k = 10 ∨ k = 11 := by omega
  rcases c with rfl | rfl | rfl | rfl | rfl | rfl | rfl | rfl | rfl | rfl | rfl | rfl <;>
    simp [exK] at h <;>
    simp (decide := true) [F__law_down, bodyF, m__law_down, mSeq, mSet, mLst, mNil, RL.bd, Res.sd, setRV, W.put, mTry, mEx, mCall, mCons, mVar, Res.bl, RL.cons, RV.frz, Res.bd, Res.bind, h, goCl, noXc, isXc, leaveX, unX, mXf, List.lookup, pn, mC, hs1, hs2, hs3, mMv, RV.plain, dueK]
theorem under_ok (a b : D) (S : List Cell) (k : Nat) (hk : k < 12) : F__law_under [.int k, a, b] S = .ok (.d (.bl true)) S := by
  have h := raised_ok a b S k hk
  have hs : ∀ n : Nat, n ≤ 3 → n ≤ sizeLine := fun n h => Nat.le_trans h (by decide)
  have pn : (Str.ofString "part" == Str.ofString "number") = false := by decide
  have hs1 := hs 1 (by decide)
  have hs2 := hs 2 (by decide)
  have hs3 := hs 3 (by decide)
  have c : k = 0 ∨ k = 1 ∨ k = 2 ∨ k = 3 ∨ k = 4 ∨ k = 5 ∨ k = 6 ∨ k = 7 ∨ k = 8 ∨ k = 9 ∨ k = 10 ∨ k = 11 := by omega
  rcases c with rfl | rfl | rfl | rfl | rfl | rfl | rfl | rfl | rfl | rfl | rfl | rfl <;>
    simp [exK] at h <;>
    simp (decide := true) [F__law_under, bodyF, m__law_under, mSeq, mSet, mNil, RL.bd, Res.sd, setRV, W.put, mTry, mEx, mCall, mCons, mVar, Res.bl, RL.cons, RV.frz, Res.bd, Res.bind, h, goCl, noXc, isXc, leaveX, unX, mIsx, mC, hs1, hs2, hs3, mMv, RV.plain, dueK]

def manyL : List D := [.int 2, .int 1, .int 1, .int 1, .int 1, .int 0, .int 0, .int 0, .int 0, .int 0, .int 0, .int 1]
theorem many_ok (a b : D) (k : Nat) (hk : k < 12) : ∃ (q : Int) (ds : List D), atI manyL (k : Int) = some (.int q) ∧ gSl (.lst [a, b]) none (some q) = some (.own ds) ∧ ds.length ≤ 2 ∧ (D.int k :: ds) = dueK k a b := by
  have c : k = 0 ∨ k = 1 ∨ k = 2 ∨ k = 3 ∨ k = 4 ∨ k = 5 ∨ k = 6 ∨ k = 7 ∨ k = 8 ∨ k = 9 ∨ k = 10 ∨ k = 11 := by omega
  rcases c with rfl | rfl | rfl | rfl | rfl | rfl | rfl | rfl | rfl | rfl | rfl | rfl <;>
    exact ⟨_, _, rfl, rfl, Nat.le_of_ble_eq_true rfl, rfl⟩
/-- what may be drawn -/
def Vd (x : D) : Prop := dok 2 x = true ∧ hasTy x = true
theorem due_dok (a b : D) (ha : Vd a) (hb : Vd b) (k : Nat) (hk : k < 12) : okE (.lst (dueK k a b)) = true ∧ (∀ x ∈ dueK k a b, hasTy x = true) := by
  have c : k = 0 ∨ k = 1 ∨ k = 2 ∨ k = 3 ∨ k = 4 ∨ k = 5 ∨ k = 6 ∨ k = 7 ∨ k = 8 ∨ k = 9 ∨ k = 10 ∨ k = 11 := by omega
  have ha1 := ha.1
  have hb1 := hb.1
  have ha2 := ha.2
  have hb2 := hb.2
  rcases c with rfl | rfl | rfl | rfl | rfl | rfl | rfl | rfl | rfl | rfl | rfl | rfl <;>
    exact ⟨okE_of (n := 3) (by simp [dok, doks, dueK, ha1, hb1]) (by decide), by simp [dueK, ha2, hb2]; try decide⟩

noncomputable def body1 : MS := (mSeq (mSet 6 (mBin gSub (mCall F_drawn (mCons (mVar 1) (mCons (mBin gPow (mC (.int 10)) (mC (.int 6))) mNil))) (mC (.int 5))))
  (mApp 4 (mBin gIx (mLst (mCons (mVar 6) (mCons (mC .non) (mCons (mC (.str "")) (mCons (mC (.str "refused")) (mCons (mTup (mCons (mVar 6) (mCons (mC (.str "why")) mNil))) (mCons (mC (.bl true)) (mCons (mC (.int 0)) mNil)))))))) (mCall F_drawn (mCons (mVar 1) (mCons (mC (.int 7)) mNil))))))
theorem val_step {ns : List Int} {S : List Cell} (sc : D) (k : D) (vals : List D) (x5 x6 x7 x8 x9 : RV) (h : SOK ns S 0) (hl : vals.length < sizeLine) :
    ∃ (v : D) (t : RV) (S' : List Cell), body1 ⟨[.d sc, .d (.cell 0), .own manyL, .d k, .own vals, x5, x6, x7, x8, x9], S⟩ = .nx ⟨[.d sc, .d (.cell 0), .own manyL, .d k, .own (vals ++ [v]), x5, t, x7, x8, x9], S'⟩ ∧ Vd v ∧ SOK ns S' 0 := by
  obtain ⟨far, c1, e1, _, _, h1⟩ := drawn_ok h (many := 1000000) (by decide) (by decide)
  obtain ⟨ix, c2, e2, i0, i1, h2⟩ := drawn_ok h1 (many := 7) (by decide) (by decide)
  obtain ⟨x, hx, ex⟩ := atI_pre (ds := [.int (far - 5), .non, .str "", .str "refused", .tup [.int (far - 5), .str "why"], .bl true, .int 0]) i0 i1
  refine ⟨x, .d (.int (far - 5)), _, ?_, ?_, h2⟩
  · have hs : ∀ n : Nat, n ≤ 7 → n ≤ sizeLine := fun n h => Nat.le_trans h (by decide)
    have hs2 := hs 2 (by decide)
    have hs7 := hs 7 (by decide)
    have hp : CPow 10 6 := ⟨by decide, by decide, by decide⟩
    simp [body1, mSeq, mSet, mBin, mCall, mCons, mVar, Res.bd, Res.bind, RV.frz, Res.bl, RL.bd, RL.cons, mC, mNil, ofO, gPow, hp, iO, e1, RV.plain, gSub, Res.sd, setRV, W.put, mApp, hasOwn, mLst, mTup, hs2, hs7, e2, gIx, ex, Res.sdd, appRS, hl]
  · simp only [List.mem_cons, List.not_mem_nil, or_false] at hx
    rcases hx with rfl | rfl | rfl | rfl | rfl | rfl | rfl <;> exact ⟨by first | (simp [dok, doks]; done) | (simp [dok, doks]; decide +kernel), rfl⟩
end DB

set_option Elab.async false
set_option linter.all false
set_option maxRecDepth 100000
set_option maxHeartbeats 4000000
namespace DB
open PySem PySem.Spec PyProof.Rows L2
theorem mSeq_nx {a b : MS} {w w1 : W} (h : a w = .nx w1) : mSeq a b w = b w1 := by unfold mSeq; rw [h]
theorem mFor_at {mi : MA} {g : MG} {b : MS} {w w1 : W} {ds : List D} (h : mi w = .ok ds w1) : mFor mi g b w = forL g b ds w1 := by unfold mFor; rw [h]
theorem mRng1_at {r : MA} {w w1 : W} {j : Int} (h : r w = .ok [.int j] w1) (h1 : -(2 ^ 62) ≤ j) (h2 : j < 2 ^ 62) : mRng1 r w = .ok (rngD 0 j) w1 := by
  unfold mRng1; rw [h]; exact if_pos ⟨h1, h2⟩
theorem mRng2_at {r : MA} {w w1 : W} {i j : Int} (h : r w = .ok [.int i, .int j] w1) (h1 : -(2 ^ 62) ≤ i) (h2 : i < 2 ^ 62) (h3 : -(2 ^ 62) ≤ j) (h4 : j < 2 ^ 62) : mRng2 r w = .ok (rngD i j) w1 := by
  unfold mRng2; rw [h]; exact if_pos ⟨h1, h2, h3, h4⟩
noncomputable def loop2 : MS := (mIf (mBin gNe (mIsi "bool" (mBin gIx (mPk 8) (mPk 5))) (mIsi "bool" (mBin gIx (mPk 7) (mPk 5)))) (mRet (mC (.bl false))) mNext)
noncomputable def bodyT : MS := (mSeq (mSet 4 (mLst mNil))
  (mSeq (mFor (mRng1 (mCons (mC (.int 2)) mNil)) (gNm 5) body1)
  (mSeq (mSet 7 (mBin gAdd (mLst (mCons (mVar 3) mNil)) (mSl (mPk 4) mNo (mPt (mBin gIx (mPk 2) (mPk 3))))))
  (mSeq (mPar2 8 9 (mCall F__law_up (mCons (mVar 3) (mCons (mBin gIx (mPk 4) (mC (.int 0))) (mCons (mBin gIx (mPk 4) (mC (.int 1))) mNil)))) (mCall F__law_down (mCons (mVar 3) (mCons (mBin gIx (mPk 4) (mC (.int 0))) (mCons (mBin gIx (mPk 4) (mC (.int 1))) mNil)))))
  (mSeq (mIf (mOr (mBin gNe (mPk 8) (mPk 7)) (mOr (mBin gNe (mPk 9) (mPk 7)) (mNot (mCall F__law_under (mCons (mVar 3) (mCons (mBin gIx (mPk 4) (mC (.int 0))) (mCons (mBin gIx (mPk 4) (mC (.int 1))) mNil))))))) (mRet (mC (.bl false))) mNext)
  (mFor (mRng2 (mCons (mC (.int 1)) (mCons (mCB (g1 gLen) (mCons (mPk 7) mNil)) mNil))) (gNm 5) loop2))))))
theorem loop2_ok (sc e3 : D) (e4 x6 x9 : RV) (due : List D) (S : List Cell) (hd : ∀ x ∈ due, hasTy x = true) (x5 : RV) (d : D) (i : Nat) (hi : (rngD 1 due.length)[i]? = some d) :
    ∃ y5, ∃ w1, gNm 5 d ⟨[.d sc, .d (.cell 0), .own manyL, .d e3, e4, x5, x6, .own due, .own due, x9], S⟩ = some w1 ∧ loop2 w1 = .nx ⟨[.d sc, .d (.cell 0), .own manyL, .d e3, e4, y5, x6, .own due, .own due, x9], S⟩ := by
  unfold rngD at hi
  rw [List.getElem?_map] at hi
  obtain ⟨j, ej, rfl⟩ := Option.map_eq_some_iff.mp hi
  have hj : j = i ∧ i < ((due.length : Int) - 1).toNat := by
    obtain ⟨h1, h2⟩ := List.getElem?_eq_some_iff.mp ej
    rw [List.length_range] at h1
    rw [List.getElem_range] at h2
    exact ⟨h2.symm, h1⟩
  obtain ⟨x, hx, ex⟩ := atI_pre (ds := due) (c := 1 + (j : Int)) (by omega) (by omega)
  have ht := hd x hx
  have hn := gNe_self (d := .bl (isTy "bool" x)) (okE_of (n := 0) rfl (by decide))
  refine ⟨.d (.int (1 + (j : Int))), _, rfl, ?_⟩
  simp [loop2, mIf, mBin, mIsi, mPk, Res.bd, Res.bind, RV.frz, gIx, ex, ofO, ht, hn, bO, Res.sb, mNext, W.put]
theorem turn_ok {ns : List Int} {S : List Cell} (sc : D) (k : Nat) (hk : k < 12) (x4 x5 x6 x7 x8 x9 : RV) (h : SOK ns S 0) :
    ∃ (y4 y5 y6 y7 y8 y9 : RV) (S' : List Cell), bodyT ⟨[.d sc, .d (.cell 0), .own manyL, .d (.int k), x4, x5, x6, x7, x8, x9], S⟩ = .nx ⟨[.d sc, .d (.cell 0), .own manyL, .d (.int k), y4, y5, y6, y7, y8, y9], S'⟩ ∧ SOK ns S' 0 := by
  have hs : ∀ n : Nat, n ≤ 7 → n ≤ sizeLine := fun n h => Nat.le_trans h (by decide)
  obtain ⟨a, t1, S1, e1, va, h1⟩ := val_step sc (.int k) [] (.d (.int 0)) x6 x7 x8 x9 h (by decide)
  obtain ⟨b, t2, S2, e2, vb, h2⟩ := val_step sc (.int k) [a] (.d (.int 1)) t1 x7 x8 x9 h1 (by show 1 < sizeLine; decide)
  obtain ⟨q, ds, em, es, ld, ed⟩ := many_ok a b k hk
  obtain ⟨ok1, ok2⟩ := due_dok a b va vb k hk
  have hu := up_ok a b S2 k hk
  have hd := down_ok a b S2 k hk
  have hn := under_ok a b S2 k hk
  have hne := gNe_self ok1
  have r2 : rngD 0 2 = [.int 0, .int 1] := rfl
  have hlen : (dueK k a b).length ≤ 3 := by rw [← ed]; simp; omega
  have hadd : 1 + ds.length ≤ sizeLine := hs _ (by omega)
  obtain ⟨w', e3, y5, e4⟩ := forL_inv (g := gNm 5) (b := loop2) (fun _ w => ∃ y5, w = ⟨[.d sc, .d (.cell 0), .own manyL, .d (.int k), .own [a, b], y5, t2, .own (dueK k a b), .own (dueK k a b), .own (dueK k a b)], S2⟩) (rngD 1 (dueK k a b).length) 0
    ⟨[.d sc, .d (.cell 0), .own manyL, .d (.int k), .own [a, b], .d (.int 1), t2, .own (dueK k a b), .own (dueK k a b), .own (dueK k a b)], S2⟩ ⟨_, rfl⟩ (by
      rintro i d hi w ⟨x5, rfl⟩
      obtain ⟨y5, w1, g1, g2⟩ := loop2_ok sc (.int k) (.own [a, b]) t2 (.own (dueK k a b)) (dueK k a b) S2 ok2 x5 d i hi
      exact ⟨w1, _, g1, .inl g2, y5, rfl⟩)
  refine ⟨.own [a, b], y5, t2, .own (dueK k a b), .own (dueK k a b), .own (dueK k a b), S2, ?_, h2⟩
  have hs0 := hs 0 (by decide)
  have hs1 := hs 1 (by decide)
  have a0 : atI [a, b] 0 = some a := rfl
  have a1 : atI [a, b] 1 = some b := rfl
  rw [e4] at e3
  have q1 : ∀ w : W, w = ⟨[.d sc, .d (.cell 0), .own manyL, .d (.int k), x4, x5, x6, x7, x8, x9], S⟩ → mSet 4 (mLst mNil) w = .nx ⟨[.d sc, .d (.cell 0), .own manyL, .d (.int k), .own [], x5, x6, x7, x8, x9], S⟩ := by
    rintro w rfl
    simp [mSet, mLst, mNil, RL.bd, Res.sd, hs0, setRV, W.put]
  have q2 : mFor (mRng1 (mCons (mC (.int 2)) mNil)) (gNm 5) body1 ⟨[.d sc, .d (.cell 0), .own manyL, .d (.int k), .own [], x5, x6, x7, x8, x9], S⟩ = .nx ⟨[.d sc, .d (.cell 0), .own manyL, .d (.int k), .own [a, b], .d (.int 1), t2, x7, x8, x9], S2⟩ := by
    have e1' := e1
    have e2' := e2
    simp only [List.nil_append, List.cons_append] at e1' e2'
    have q := mFor_at (g := gNm 5) (b := body1) (mRng1_at (r := mCons (mC (.int 2)) mNil) (j := 2) (w := ⟨[.d sc, .d (.cell 0), .own manyL, .d (.int k), .own [], x5, x6, x7, x8, x9], S⟩) rfl (by decide) (by decide))
    rw [q, r2]
    simp [forL, gNm, W.put, e1', e2']
  have q3 : mSet 7 (mBin gAdd (mLst (mCons (mVar 3) mNil)) (mSl (mPk 4) mNo (mPt (mBin gIx (mPk 2) (mPk 3))))) ⟨[.d sc, .d (.cell 0), .own manyL, .d (.int k), .own [a, b], .d (.int 1), t2, x7, x8, x9], S2⟩ = .nx ⟨[.d sc, .d (.cell 0), .own manyL, .d (.int k), .own [a, b], .d (.int 1), t2, .own (dueK k a b), x8, x9], S2⟩ := by
    simp [mSet, mBin, mLst, mCons, mVar, Res.bl, RL.cons, RL.bd, RV.frz, mNil, hs1, Res.bd, Res.bind, mSl, mPk, mNo, RO.bd, mPt, gIx, em, ofO, es, gAdd, hadd, ed, Res.sd, setRV, W.put]
  have q4 : mPar2 8 9 (mCall F__law_up (mCons (mVar 3) (mCons (mBin gIx (mPk 4) (mC (.int 0))) (mCons (mBin gIx (mPk 4) (mC (.int 1))) mNil)))) (mCall F__law_down (mCons (mVar 3) (mCons (mBin gIx (mPk 4) (mC (.int 0))) (mCons (mBin gIx (mPk 4) (mC (.int 1))) mNil)))) ⟨[.d sc, .d (.cell 0), .own manyL, .d (.int k), .own [a, b], .d (.int 1), t2, .own (dueK k a b), x8, x9], S2⟩ =
      .nx ⟨[.d sc, .d (.cell 0), .own manyL, .d (.int k), .own [a, b], .d (.int 1), t2, .own (dueK k a b), .own (dueK k a b), .own (dueK k a b)], S2⟩ := by
    simp [mPar2, mCall, mCons, mVar, Res.bl, RL.cons, RL.bd, RV.frz, mNil, mBin, mPk, mC, Res.bd, Res.bind, gIx, a0, a1, ofO, hu, hd, RV.plain, Res.sd, setRV, W.put]
  have q5 : mIf (mOr (mBin gNe (mPk 8) (mPk 7)) (mOr (mBin gNe (mPk 9) (mPk 7)) (mNot (mCall F__law_under (mCons (mVar 3) (mCons (mBin gIx (mPk 4) (mC (.int 0))) (mCons (mBin gIx (mPk 4) (mC (.int 1))) mNil))))))) (mRet (mC (.bl false))) mNext ⟨[.d sc, .d (.cell 0), .own manyL, .d (.int k), .own [a, b], .d (.int 1), t2, .own (dueK k a b), .own (dueK k a b), .own (dueK k a b)], S2⟩ =
      .nx ⟨[.d sc, .d (.cell 0), .own manyL, .d (.int k), .own [a, b], .d (.int 1), t2, .own (dueK k a b), .own (dueK k a b), .own (dueK k a b)], S2⟩ := by
    simp [mIf, mOr, mBin, mPk, mC, Res.bd, Res.bind, RV.frz, hne, ofO, bO, Res.bb, mNot, mCall, mCons, mVar, Res.bl, RL.cons, RL.bd, mNil, gIx, a0, a1, hn, RV.plain, mF, mT, Res.sb, mNext]
  have q6 : mFor (mRng2 (mCons (mC (.int 1)) (mCons (mCB (g1 gLen) (mCons (mPk 7) mNil)) mNil))) (gNm 5) loop2 ⟨[.d sc, .d (.cell 0), .own manyL, .d (.int k), .own [a, b], .d (.int 1), t2, .own (dueK k a b), .own (dueK k a b), .own (dueK k a b)], S2⟩ =
      forL (gNm 5) loop2 (rngD 1 (dueK k a b).length) ⟨[.d sc, .d (.cell 0), .own manyL, .d (.int k), .own [a, b], .d (.int 1), t2, .own (dueK k a b), .own (dueK k a b), .own (dueK k a b)], S2⟩ := by
    exact mFor_at (mRng2_at (i := 1) (j := (dueK k a b).length) rfl (by decide) (by decide) (by omega) (by omega))
  unfold bodyT
  rw [mSeq_nx (q1 _ rfl), mSeq_nx q2, mSeq_nx q3, mSeq_nx q4, mSeq_nx q5, q6]
  exact e3
theorem law_ok (ns : List Int) : ∃ S, F_law [.scr (ns.map D.int)] [] = .ok (.d (.bl true)) S := by
  obtain ⟨m, e0⟩ := start_ok ns []
  have hst : F__law_start [.scr (ns.map D.int)] [] = .ok (.own [.scr (ns.map D.int), .int 0, .int m, .int 0]) [] := e0
  have hl : 12 ≤ sizeLine := by decide
  have hr : rngD 0 12 = (List.range 12).map fun i => D.int (0 + (i : Nat)) := rfl
  obtain ⟨w', e1, x3, x4, x5, x6, x7, x8, x9, S', rfl, h'⟩ := forL_inv (g := gNm 3) (b := bodyT) (fun _ w => ∃ x3 x4 x5 x6 x7 x8 x9 S', w = ⟨[.d (.scr (ns.map D.int)), .d (.cell 0), .own manyL, x3, x4, x5, x6, x7, x8, x9], S'⟩ ∧ SOK ns S' 0) (rngD 0 12) 0
    ⟨[.d (.scr (ns.map D.int)), .d (.cell 0), .own manyL, .un, .un, .un, .un, .un, .un, .un], [.lst [.scr (ns.map D.int), .int 0, .int m, .int 0]]⟩ ⟨_, _, _, _, _, _, _, _, rfl, 0, m, 0, by decide, rfl⟩ (by
      rintro i d hi w ⟨x3, x4, x5, x6, x7, x8, x9, S', rfl, h⟩
      rw [hr, List.getElem?_map] at hi
      obtain ⟨j, ej, rfl⟩ := Option.map_eq_some_iff.mp hi
      have hj : j < 12 := by
        obtain ⟨h1, h2⟩ := List.getElem?_eq_some_iff.mp ej
        rw [List.getElem_range] at h2
        rw [List.length_range] at h1
        omega
      obtain ⟨y4, y5, y6, y7, y8, y9, S2, e2, h2⟩ := turn_ok (.scr (ns.map D.int)) j hj x4 x5 x6 x7 x8 x9 h
      refine ⟨_, _, rfl, .inl ?_, .d (.int j), y4, y5, y6, y7, y8, y9, S2, rfl, h2⟩
      simpa [W.put] using e2)
  refine ⟨S', ?_⟩
  show bodyF 10 1 (mSeq (mSetC 1 (mCall F__law_start (mCons (mVar 0) mNil))) (mSeq (mSet 2 (mLst (mCons (mC (.int 2)) (mCons (mC (.int 1)) (mCons (mC (.int 1)) (mCons (mC (.int 1)) (mCons (mC (.int 1)) (mCons (mC (.int 0)) (mCons (mC (.int 0)) (mCons (mC (.int 0)) (mCons (mC (.int 0)) (mCons (mC (.int 0)) (mCons (mC (.int 0)) (mCons (mC (.int 1)) mNil))))))))))))))
    (mSeq (mFor (mRng1 (mCons (mC (.int 12)) mNil)) (gNm 3) bodyT) (mRet (mC (.bl true)))))) _ _ = _
  have q1 : mSetC 1 (mCall F__law_start (mCons (mVar 0) mNil)) ⟨[.d (.scr (ns.map D.int)), .un, .un, .un, .un, .un, .un, .un, .un, .un], []⟩ = .nx ⟨[.d (.scr (ns.map D.int)), .d (.cell 0), .un, .un, .un, .un, .un, .un, .un, .un], [.lst [.scr (ns.map D.int), .int 0, .int m, .int 0]]⟩ := by
    simp [mSetC, mCall, mCons, mVar, mNil, Res.bl, RL.cons, RL.bd, RV.frz, hst, RV.plain, Res.sd, cellRS, setRV, W.put]
  have q2 : mSet 2 (mLst (mCons (mC (.int 2)) (mCons (mC (.int 1)) (mCons (mC (.int 1)) (mCons (mC (.int 1)) (mCons (mC (.int 1)) (mCons (mC (.int 0)) (mCons (mC (.int 0)) (mCons (mC (.int 0)) (mCons (mC (.int 0)) (mCons (mC (.int 0)) (mCons (mC (.int 0)) (mCons (mC (.int 1)) mNil))))))))))))) ⟨[.d (.scr (ns.map D.int)), .d (.cell 0), .un, .un, .un, .un, .un, .un, .un, .un], [.lst [.scr (ns.map D.int), .int 0, .int m, .int 0]]⟩ =
      .nx ⟨[.d (.scr (ns.map D.int)), .d (.cell 0), .own manyL, .un, .un, .un, .un, .un, .un, .un], [.lst [.scr (ns.map D.int), .int 0, .int m, .int 0]]⟩ := by
    simp [mSet, mLst, mCons, mC, mNil, Res.bl, RL.cons, RL.bd, RV.frz, hl, Res.sd, setRV, W.put, manyL]
  have q3 := mFor_at (g := gNm 3) (b := bodyT) (mRng1_at (r := mCons (mC (.int 12)) mNil) (j := 12) (w := ⟨[.d (.scr (ns.map D.int)), .d (.cell 0), .own manyL, .un, .un, .un, .un, .un, .un, .un], [.lst [.scr (ns.map D.int), .int 0, .int m, .int 0]]⟩) rfl (by decide) (by decide))
  rw [e1] at q3
  unfold bodyF
  refine (if_pos rfl).trans ?_
  show (match mSeq _ _ ⟨[.d (.scr (ns.map D.int)), .un, .un, .un, .un, .un, .un, .un, .un, .un], []⟩ with
    | .nx w => RF.ok (.d .non) w.S
    | .rt rv S' => if rv.plain = true then .ok rv S' else .bad
    | .ex x w => .ex x w.S
    | _ => .bad) = _
  rw [mSeq_nx q1, mSeq_nx q2, mSeq_nx q3] <;> rfl
end DB

set_option Elab.async false
set_option linter.all false
open PySem PySem.W PyProof.Rows
set_option maxRecDepth 100000
set_option maxHeartbeats 0 in
theorem PySem.Challenge.cw_dialbands_k21_refusals_made_holds : PySem.Challenge.rw_dialbands_k21_refusals_made.Holds := by
  w_on; o_law; k_head; (case hw => w_witness2)
  k_fill
  refine L2.walk_of (l := PySem.Challenge.rw_dialbands_k21_refusals_made) (n := 63) (k := 5) (x := "_law_script") (CX := fun w => L2.CX PySem.Challenge.rw_dialbands_k21_refusals_made.prog w) (sp := fun w => DB.spLawD _) rfl (by decide) rfl ⟨rfl, by decide, by decide⟩ (fun w h Y => PySem.W.kIn_of Y) ?F (fun _ _ a ns hl _ hS => ⟨a, ns, rfl, hl, hS, fun _ => rfl⟩) (fun _ _ _ _ _ h => DB.cx_none h)
  case F =>
    intro w mg fa h KX G hmg
    refine' DB.step (DB.fun_ex (x := "_law_start") (st := DB.s__law_start) KX G ?a ?l ?c ?k) (fun u__law_start => ?nx_u__law_start)
    (case a => k_is); (case l => k_is); (case c => k_is); (case k => k_is)
    obtain ⟨a__law_start, d__law_start, U__law_start, g__law_start⟩ := u__law_start
    refine' DB.step (DB.fun_ex (x := "_law_drawn") (st := DB.s__law_drawn) KX G ?a ?l ?c ?k) (fun u__law_drawn => ?nx_u__law_drawn)
    (case a => k_is); (case l => k_is); (case c => k_is); (case k => k_is)
    obtain ⟨a__law_drawn, d__law_drawn, U__law_drawn, g__law_drawn⟩ := u__law_drawn
    refine' DB.step (DB.fun_ex (x := "_law_raised") (st := DB.s__law_raised) KX G ?a ?l ?c ?k) (fun u__law_raised => ?nx_u__law_raised)
    (case a => k_is); (case l => k_is); (case c => k_is); (case k => k_is)
    obtain ⟨a__law_raised, d__law_raised, U__law_raised, g__law_raised⟩ := u__law_raised
    refine' DB.step (DB.fun_ex (x := "_law_up") (st := DB.s__law_up) KX G ?a ?l ?c ?k) (fun u__law_up => ?nx_u__law_up)
    (case a => k_is); (case l => k_is); (case c => k_is); (case k => k_is)
    obtain ⟨a__law_up, d__law_up, U__law_up, g__law_up⟩ := u__law_up
    refine' DB.step (DB.fun_ex (x := "_law_down") (st := DB.s__law_down) KX G ?a ?l ?c ?k) (fun u__law_down => ?nx_u__law_down)
    (case a => k_is); (case l => k_is); (case c => k_is); (case k => k_is)
    obtain ⟨a__law_down, d__law_down, U__law_down, g__law_down⟩ := u__law_down
    refine' DB.step (DB.fun_ex (x := "_law_under") (st := DB.s__law_under) KX G ?a ?l ?c ?k) (fun u__law_under => ?nx_u__law_under)
    (case a => k_is); (case l => k_is); (case c => k_is); (case k => k_is)
    obtain ⟨a__law_under, d__law_under, U__law_under, g__law_under⟩ := u__law_under
    refine' DB.step (DB.fun_ex (x := "law") (st := DB.s_law) KX G ?a ?l ?c ?k) (fun u_law => ?nx_u_law)
    (case a => k_is); (case l => k_is); (case c => k_is); (case k => k_is)
    obtain ⟨a_law, d_law, U_law, g_law⟩ := u_law
    refine' DB.step (DB.base_ex (x := "DialError") KX G ?a ?s ?r ?f) (fun B => ?nx_B)
    (case a => k_is); (case s => k_is); (case r => k_is); (case f => k_is)
    refine' DB.step (DB.exc_ex (x := "BadBelt") (q := "BadBelt.__init__") (st := DB.i_BadBelt) KX G ?a ?xL ?rv ?sa ?eC ?tC ?kC ?ai ?ti ?l ?c ?k ?n1 ?n2 ?n3) (fun e_BadBelt => ?nx_e_BadBelt)
    (case a => k_is); (case xL => k_is); (case rv => decide +kernel); (case sa => k_is); (case eC => k_is); (case tC => k_is); (case kC => k_is); (case ai => k_is); (case ti => k_is); (case l => k_is); (case c => k_is); (case k => k_is); (case n1 => k_is); (case n2 => k_is); (case n3 => k_is)
    obtain ⟨C_BadBelt, fI_BadBelt, fd_BadBelt, U_BadBelt, g_BadBelt, T_BadBelt, i_BadBelt, t_BadBelt, n_BadBelt⟩ := e_BadBelt
    refine' DB.step (DB.exc_ex (x := "BadGoal") (q := "BadGoal.__init__") (st := DB.i_BadGoal) KX G ?a ?xL ?rv ?sa ?eC ?tC ?kC ?ai ?ti ?l ?c ?k ?n1 ?n2 ?n3) (fun e_BadGoal => ?nx_e_BadGoal)
    (case a => k_is); (case xL => k_is); (case rv => decide +kernel); (case sa => k_is); (case eC => k_is); (case tC => k_is); (case kC => k_is); (case ai => k_is); (case ti => k_is); (case l => k_is); (case c => k_is); (case k => k_is); (case n1 => k_is); (case n2 => k_is); (case n3 => k_is)
    obtain ⟨C_BadGoal, fI_BadGoal, fd_BadGoal, U_BadGoal, g_BadGoal, T_BadGoal, i_BadGoal, t_BadGoal, n_BadGoal⟩ := e_BadGoal
    refine' DB.step (DB.exc_ex (x := "BadPress") (q := "BadPress.__init__") (st := DB.i_BadPress) KX G ?a ?xL ?rv ?sa ?eC ?tC ?kC ?ai ?ti ?l ?c ?k ?n1 ?n2 ?n3) (fun e_BadPress => ?nx_e_BadPress)
    (case a => k_is); (case xL => k_is); (case rv => decide +kernel); (case sa => k_is); (case eC => k_is); (case tC => k_is); (case kC => k_is); (case ai => k_is); (case ti => k_is); (case l => k_is); (case c => k_is); (case k => k_is); (case n1 => k_is); (case n2 => k_is); (case n3 => k_is)
    obtain ⟨C_BadPress, fI_BadPress, fd_BadPress, U_BadPress, g_BadPress, T_BadPress, i_BadPress, t_BadPress, n_BadPress⟩ := e_BadPress
    refine' DB.step (DB.exc_ex (x := "BadStep") (q := "BadStep.__init__") (st := DB.i_BadStep) KX G ?a ?xL ?rv ?sa ?eC ?tC ?kC ?ai ?ti ?l ?c ?k ?n1 ?n2 ?n3) (fun e_BadStep => ?nx_e_BadStep)
    (case a => k_is); (case xL => k_is); (case rv => decide +kernel); (case sa => k_is); (case eC => k_is); (case tC => k_is); (case kC => k_is); (case ai => k_is); (case ti => k_is); (case l => k_is); (case c => k_is); (case k => k_is); (case n1 => k_is); (case n2 => k_is); (case n3 => k_is)
    obtain ⟨C_BadStep, fI_BadStep, fd_BadStep, U_BadStep, g_BadStep, T_BadStep, i_BadStep, t_BadStep, n_BadStep⟩ := e_BadStep
    refine' DB.step (DB.exc_ex (x := "BadDeed") (q := "BadDeed.__init__") (st := DB.i_BadDeed) KX G ?a ?xL ?rv ?sa ?eC ?tC ?kC ?ai ?ti ?l ?c ?k ?n1 ?n2 ?n3) (fun e_BadDeed => ?nx_e_BadDeed)
    (case a => k_is); (case xL => k_is); (case rv => decide +kernel); (case sa => k_is); (case eC => k_is); (case tC => k_is); (case kC => k_is); (case ai => k_is); (case ti => k_is); (case l => k_is); (case c => k_is); (case k => k_is); (case n1 => k_is); (case n2 => k_is); (case n3 => k_is)
    obtain ⟨C_BadDeed, fI_BadDeed, fd_BadDeed, U_BadDeed, g_BadDeed, T_BadDeed, i_BadDeed, t_BadDeed, n_BadDeed⟩ := e_BadDeed
    refine' DB.step (DB.exc_ex (x := "BadText") (q := "BadText.__init__") (st := DB.i_BadText) KX G ?a ?xL ?rv ?sa ?eC ?tC ?kC ?ai ?ti ?l ?c ?k ?n1 ?n2 ?n3) (fun e_BadText => ?nx_e_BadText)
    (case a => k_is); (case xL => k_is); (case rv => decide +kernel); (case sa => k_is); (case eC => k_is); (case tC => k_is); (case kC => k_is); (case ai => k_is); (case ti => k_is); (case l => k_is); (case c => k_is); (case k => k_is); (case n1 => k_is); (case n2 => k_is); (case n3 => k_is)
    obtain ⟨C_BadText, fI_BadText, fd_BadText, U_BadText, g_BadText, T_BadText, i_BadText, t_BadText, n_BadText⟩ := e_BadText
    refine' DB.step (DB.own_ex (x := "BadCount") PySem.F.excBase_ValueError KX G ?a ?qx1 ?kC ?eC ?tC) (fun O_BadCount => ?nx_O_BadCount)
    (case a => k_is); (case qx1 => kernel_rfl); (case kC => k_is); (case eC => k_is); (case tC => k_is)
    refine' DB.step (DB.own_ex (x := "TooMany") PySem.F.excBase_ValueError KX G ?a ?qx1 ?kC ?eC ?tC) (fun O_TooMany => ?nx_O_TooMany)
    (case a => k_is); (case qx1 => kernel_rfl); (case kC => k_is); (case eC => k_is); (case tC => k_is)
    refine' DB.step (DB.own_ex (x := "NoWay") PySem.F.excBase_ValueError KX G ?a ?qx1 ?kC ?eC ?tC) (fun O_NoWay => ?nx_O_NoWay)
    (case a => k_is); (case qx1 => kernel_rfl); (case kC => k_is); (case eC => k_is); (case tC => k_is)
    refine' DB.step (DB.own_ex (x := "BadName") PySem.F.excBase_ValueError KX G ?a ?qx1 ?kC ?eC ?tC) (fun O_BadName => ?nx_O_BadName)
    (case a => k_is); (case qx1 => kernel_rfl); (case kC => k_is); (case eC => k_is); (case tC => k_is)
    refine' DB.step (DB.own_ex (x := "Known") PySem.F.excBase_ValueError KX G ?a ?qx1 ?kC ?eC ?tC) (fun O_Known => ?nx_O_Known)
    (case a => k_is); (case qx1 => kernel_rfl); (case kC => k_is); (case eC => k_is); (case tC => k_is)
    refine' DB.step (DB.own_ex (x := "NoRoutine") PySem.F.excBase_ValueError KX G ?a ?qx1 ?kC ?eC ?tC) (fun O_NoRoutine => ?nx_O_NoRoutine)
    (case a => k_is); (case qx1 => kernel_rfl); (case kC => k_is); (case eC => k_is); (case tC => k_is)
    refine' DB.step (DB.xall_ex KX G ?a1 ?a2 ?a3 ?a4 ?a5 ?a6 ?a7 ?a8 ?a9 ?a10 ?a11 ?a12 ?a0 ?t) (fun XA => ?nx_XA)
    (case a1 => k_is); (case a2 => k_is); (case a3 => k_is); (case a4 => k_is); (case a5 => k_is); (case a6 => k_is); (case a7 => k_is); (case a8 => k_is); (case a9 => k_is); (case a10 => k_is); (case a11 => k_is); (case a12 => k_is); (case a0 => k_is); (case t => kernel_rfl)
    refine' DB.step (PySem.W.mg_none_of (n := "ValueError") KX G ?z) (fun ntValueError => ?nx_ntValueError)
    (case z => k_is)
    refine' DB.step (PySem.W.mg_none_of (n := "bool") KX G ?z) (fun ntbool => ?nx_ntbool)
    (case z => k_is)
    refine' DB.step (PySem.W.mg_none_of (n := "isinstance") KX G ?z) (fun ntisinstance => ?nx_ntisinstance)
    (case z => k_is)
    refine' DB.step (PySem.W.mg_none_of (n := "len") KX G ?z) (fun ntlen => ?nx_ntlen)
    (case z => k_is)
    refine' DB.step (PySem.W.mg_none_of (n := "range") KX G ?z) (fun ntrange => ?nx_ntrange)
    (case z => k_is)
    obtain rfl : a_law = fa := by have q := g_law.symm.trans hmg; cases q; rfl
    refine ⟨d_law, fun s v => ?_, fun base hK hN => DB.law_imp ?_ (fun ns _ => DB.law_ok ns)⟩
    · obtain ⟨oc, od, kV, doc, pm, an, cdv, ct, osl, e, lk, hcd⟩ := U_law.ex
      subst e
      exact .of_eq rfl
    · have O_BadBelt := DB.oi_BadBelt (P := PySem.Challenge.rw_dialbands_k21_refusals_made.prog) (w := w) (base := base) U_BadBelt B g_BadBelt T_BadBelt i_BadBelt t_BadBelt (fun f hf => n_BadBelt f (by revert hf f; decide))
      have O_BadGoal := DB.oi_BadGoal (P := PySem.Challenge.rw_dialbands_k21_refusals_made.prog) (w := w) (base := base) U_BadGoal B g_BadGoal T_BadGoal i_BadGoal t_BadGoal (fun f hf => n_BadGoal f (by revert hf f; decide))
      have O_BadPress := DB.oi_BadPress (P := PySem.Challenge.rw_dialbands_k21_refusals_made.prog) (w := w) (base := base) U_BadPress B g_BadPress T_BadPress i_BadPress t_BadPress (fun f hf => n_BadPress f (by revert hf f; decide))
      have O_BadStep := DB.oi_BadStep (P := PySem.Challenge.rw_dialbands_k21_refusals_made.prog) (w := w) (base := base) U_BadStep B g_BadStep T_BadStep i_BadStep t_BadStep (fun f hf => n_BadStep f (by revert hf f; decide))
      have O_BadDeed := DB.oi_BadDeed (P := PySem.Challenge.rw_dialbands_k21_refusals_made.prog) (w := w) (base := base) U_BadDeed B g_BadDeed T_BadDeed i_BadDeed t_BadDeed (fun f hf => n_BadDeed f (by revert hf f; decide))
      have O_BadText := DB.oi_BadText (P := PySem.Challenge.rw_dialbands_k21_refusals_made.prog) (w := w) (base := base) U_BadText B g_BadText T_BadText i_BadText t_BadText (fun f hf => n_BadText f (by revert hf f; decide))
      have D__law_start := DB.ok__law_start (P := PySem.Challenge.rw_dialbands_k21_refusals_made.prog) (w := w) (base := base) (T := []) U__law_start g__law_start 
      have D__law_drawn := DB.ok__law_drawn (P := PySem.Challenge.rw_dialbands_k21_refusals_made.prog) (w := w) (base := base) (T := []) U__law_drawn g__law_drawn ntlen
      have D__law_raised := DB.ok__law_raised (P := PySem.Challenge.rw_dialbands_k21_refusals_made.prog) (w := w) (base := base) (T := []) U__law_raised g__law_raised O_BadBelt O_BadGoal O_BadPress O_BadStep O_BadDeed O_BadCount O_TooMany O_NoWay O_BadName O_Known O_NoRoutine O_BadText
      have D__law_up := DB.ok__law_up (P := PySem.Challenge.rw_dialbands_k21_refusals_made.prog) (w := w) (base := base) (T := []) U__law_up g__law_up D__law_raised XA
      have D__law_down := DB.ok__law_down (P := PySem.Challenge.rw_dialbands_k21_refusals_made.prog) (w := w) (base := base) (T := []) U__law_down g__law_down D__law_raised XA
      have D__law_under := DB.ok__law_under (P := PySem.Challenge.rw_dialbands_k21_refusals_made.prog) (w := w) (base := base) (T := []) U__law_under g__law_under ntValueError ntisinstance D__law_raised XA
      exact DB.fo_law U_law ntbool ntisinstance ntlen ntrange D__law_start D__law_drawn D__law_up D__law_down D__law_under

