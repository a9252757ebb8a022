import PyProof.Rows.All
import Wide.All
import OpenK.AllK
import Wide.FinOn
import HandS.ForMost
import HandS.ForExc
import HandS.CallSlots
import HandS.Lambda
import HandS.TupAny
import HandS.Flow
import HandS.Wide
import HandS.IsInst
import HandS.Zip
import HandS.More
import HandS.Style
import KE.GoesEnum
import KE.GoesMore
import HandS.ExcInit
import HandS.ExcIs
import HandS.ExcField
import HandS.MakeKwOnly
import HandS.Small
import HandS.TryMany
import KE.KExcIs
import HandS.Words
import KE.KDflt
import HandS.Text
import HandS.MapJoin
import HandS.TupMul
import KE.KNestM
import HandS.EndTab
import HandS.Iter
import PyProof.StrBlock
import PySem.Challenge.RW_dialbands_k06_classes_told
set_option Elab.async false
set_option linter.all false
set_option maxRecDepth 100000
set_option maxHeartbeats 4000000
namespace DB
open PySem PySem.Spec PyProof.Rows L2

/-! data without addresses -/
inductive D where
  | non | bl (b : Bool) | int (i : Int) | str (x : Str)
  | tup (ds : List D) | lst (ds : List D)
  | dic (ks : List Key) (vs : List D)
  | obj (c : Str) (ks : List Str) (vs : List D)
  | cell (n : Nat) | scr (ds : List D) | fn (n : Nat)

inductive Cell where
  | lst (ds : List D) | dic (ks : List Key) (vs : List D) | ins (c : Str) (ks : List Str) (vs : List D)

structure Exc where
  cls : Str
  ks : List Str
  vs : List D

/-- what a slot, or a result, is: data; a list or dict of its own; functions made here; a caught exception -/
inductive RV where
  | un | d (x : D) | own (ds : List D) | odic (ks : List Key) (vs : List D) | fn (n : Nat) | fns (ns : List Nat) | xc (x : Exc)

structure Wd where
  Z : Hp
  sas : List Addr
  C : List (Addr × (Heap → Prop))

structure Lm where
  fa : Nat → Option Addr
  fc : Nat → Wd → Prop
  xa : Option (Addr × Value × Option Addr)
  fw : Nat → Addr → Wd → Prop

structure RC where
  K : PySem.W.Frag
  mg : Str → Option Value
  T : List (Addr × Str)
  lm : Lm

structure W where
  env : List RV
  S : List Cell

structure Wle (G G' : Wd) : Prop where
  z : Same G.Z G'.Z
  s : G.sas <+: G'.sas
  c : ∀ p ∈ G.C, p ∈ G'.C
theorem Wle.refl (G : Wd) : Wle G G := ⟨Same.refl _, List.prefix_refl _, fun _ h => h⟩
theorem Wle.trans {G G1 G2 : Wd} (a : Wle G G1) (b : Wle G1 G2) : Wle G G2 := ⟨a.z.trans b.z, a.s.trans b.s, fun p h => b.c p (a.c p h)⟩

mutual
inductive Rp (R : RC) (G : Wd) : D → V → Prop
  | non : Rp R G .non .non
  | bl {b} : Rp R G (.bl b) (.bl b)
  | int {i} : Rp R G (.int i) (.int i)
  | str {x} : Rp R G (.str x) (.str x)
  | tup {a ds xs} : SqT R.K G.Z a xs → Rps R G ds xs → Rp R G (.tup ds) (.ref a)
  | lst {a ds xs} : G.Z a = some (.lst xs) → Rps R G ds xs → Rp R G (.lst ds) (.ref a)
  | scr {a ds xs} : SqL R.K G.Z a xs → Rps R G ds xs → Rp R G (.scr ds) (.ref a)
  | dic {a ks vs xs} : Rd G.Z a (.dK (ks.zip xs)) → ks.length = xs.length → Rps R G vs xs → Rp R G (.dic ks vs) (.ref a)
  | obj {c C a dx ks vs xs} : R.mg c = some (.ref C) → G.Z a = some (.ins C dx (ks.zip xs)) → ks.length = xs.length → Rps R G vs xs → Rp R G (.obj c ks vs) (.ref a)
  | cell {n a} : G.sas[n]? = some a → Rp R G (.cell n) (.ref a)
  | fn {n f G1} : R.lm.fw n f G1 → Wle G1 G → Rp R G (.fn n) (.ref f)
inductive Rps (R : RC) (G : Wd) : List D → List V → Prop
  | nil : Rps R G [] []
  | cons {d ds v vs} : Rp R G d v → Rps R G ds vs → Rps R G (d :: ds) (v :: vs)
end


theorem Same.seqT {K : PySem.W.Frag} {H H' : Hp} {a : Addr} {xs : List V} (e : Same H H') (h : SqT K H a xs) : SqT K H' a xs := by
  rcases h with (h | ⟨o, h⟩) | h
  · exact .inl (.inl (e _ _ h))
  · exact .inl (.inr ⟨o, e _ _ h⟩)
  · exact .inr h
theorem Same.rd {H H' : Hp} {a : Addr} {u : HO} (e : Same H H') (h : Rd H a u) : Rd H' a u := by
  rcases h with h | ⟨o, h⟩
  · exact .inl (e _ _ h)
  · exact .inr ⟨o, e _ _ h⟩
theorem pre_get {α : Type} {l l' : List α} (p : l <+: l') {n : Nat} {a : α} (h : l[n]? = some a) : l'[n]? = some a := by
  obtain ⟨r, rfl⟩ := p
  rw [List.getElem?_append_left]
  · exact h
  · exact (List.getElem?_eq_some_iff.mp h).1

section
variable {R : RC} {G G' : Wd}
mutual
theorem Rp.mono (e : Wle G G') : ∀ {d : D} {v : V}, Rp R G d v → Rp R G' d v
  | _, _, .non => .non
  | _, _, .bl => .bl
  | _, _, .int => .int
  | _, _, .str => .str
  | _, _, .tup h r => .tup (Same.seqT e.z h) (Rps.mono e r)
  | _, _, .lst h r => .lst (e.z _ _ h) (Rps.mono e r)
  | _, _, .scr h r => .scr (Same.seq e.z h) (Rps.mono e r)
  | _, _, .dic h l r => .dic (Same.rd e.z h) l (Rps.mono e r)
  | _, _, .obj h z l r => .obj h (e.z _ _ z) l (Rps.mono e r)
  | _, _, .cell h => .cell (pre_get e.s h)
  | _, _, .fn h l => .fn h (l.trans e)
theorem Rps.mono (e : Wle G G') : ∀ {ds : List D} {vs : List V}, Rps R G ds vs → Rps R G' ds vs
  | _, _, .nil => .nil
  | _, _, .cons h r => .cons (Rp.mono e h) (Rps.mono e r)
end
theorem Rps.length : ∀ {ds : List D} {vs : List V}, Rps R G ds vs → ds.length = vs.length
  | _, _, .nil => rfl
  | _, _, .cons _ r => congrArg (· + 1) r.length
theorem Rps.get : ∀ {ds : List D} {vs : List V} {i : Nat} {d : D}, Rps R G ds vs → ds[i]? = some d → ∃ v, vs[i]? = some v ∧ Rp R G d v
  | _, _, _, _, .nil, e => by simp at e
  | _, _, 0, _, .cons r _, e => by simp at e; subst e; exact ⟨_, rfl, r⟩
  | _, _, i + 1, x, .cons _ t, e => by
    obtain ⟨u, h1, h2⟩ := Rps.get (i := i) (d := x) t (by simpa using e)
    exact ⟨u, by simpa using h1, h2⟩
theorem Rps.getV : ∀ {ds : List D} {vs : List V} {i : Nat} {v : V}, Rps R G ds vs → vs[i]? = some v → ∃ d, ds[i]? = some d ∧ Rp R G d v
  | _, _, _, _, .nil, e => by simp at e
  | _, _, 0, _, .cons r _, e => by simp at e; subst e; exact ⟨_, rfl, r⟩
  | _, _, i + 1, x, .cons _ t, e => by
    obtain ⟨u, h1, h2⟩ := Rps.getV (i := i) (v := x) t (by simpa using e)
    exact ⟨u, by simpa using h1, h2⟩
theorem Rps.append : ∀ {xs ys : List D} {us ws : List V}, Rps R G xs us → Rps R G ys ws → Rps R G (xs ++ ys) (us ++ ws)
  | _, _, _, _, .nil, s => s
  | _, _, _, _, .cons r t, s => .cons r (Rps.append t s)
theorem Rps.take : ∀ {xs : List D} {us : List V} (n : Nat), Rps R G xs us → Rps R G (xs.take n) (us.take n)
  | _, _, 0, _ => .nil
  | _, _, _ + 1, .nil => .nil
  | _, _, n + 1, .cons r t => .cons r (Rps.take n t)
theorem Rps.drop : ∀ {xs : List D} {us : List V} (n : Nat), Rps R G xs us → Rps R G (xs.drop n) (us.drop n)
  | _, _, 0, r => r
  | _, _, _ + 1, .nil => .nil
  | _, _, n + 1, .cons _ t => Rps.drop n t
theorem Rps.set {x : D} {u : V} (r : Rp R G x u) : ∀ {xs : List D} {us : List V} (i : Nat), Rps R G xs us → Rps R G (xs.set i x) (us.set i u)
  | _, _, _, .nil => .nil
  | _, _, 0, .cons _ t => .cons r t
  | _, _, i + 1, .cons q t => .cons q (Rps.set r i t)
theorem Rps.rev {xs : List D} {us : List V} (h : Rps R G xs us) : Rps R G xs.reverse us.reverse := by
  match h with
  | .nil => exact .nil
  | .cons r t => rw [List.reverse_cons, List.reverse_cons]; exact Rps.append (Rps.rev t) (.cons r .nil)
theorem Rps.rep {x : D} {u : V} (r : Rp R G x u) : ∀ n, Rps R G (List.replicate n x) (List.replicate n u)
  | 0 => .nil
  | n + 1 => .cons r (Rps.rep r n)
end

/-! a cell's content -/
def RCell (R : RC) (G : Wd) (H : Hp) (a : Addr) : Cell → Prop
  | .lst ds => ∃ xs, H a = some (.lst xs) ∧ Rps R G ds xs
  | .dic ks vs => ∃ xs, H a = some (.dK (ks.zip xs)) ∧ ks.length = xs.length ∧ Rps R G vs xs
  | .ins c ks vs => ∃ C dx xs, R.mg c = some (.ref C) ∧ H a = some (.ins C dx (ks.zip xs)) ∧ ks.length = xs.length ∧ Rps R G vs xs
def RCells (R : RC) (G : Wd) (H : Hp) (S : List Cell) (sas : List Addr) : Prop :=
  S.length = sas.length ∧ ∀ (n : Nat) (c : Cell) (a : Addr), S[n]? = some c → sas[n]? = some a → RCell R G H a c
theorem RCell.mono {R : RC} {G G' : Wd} {H H' : Hp} {a : Addr} {c : Cell} (e : Wle G G') (h : H' a = H a) (r : RCell R G H a c) : RCell R G' H' a c := by
  cases c with
  | lst ds => obtain ⟨xs, h1, h2⟩ := r; exact ⟨xs, h.trans h1, h2.mono e⟩
  | dic ks vs => obtain ⟨xs, h1, h2, h3⟩ := r; exact ⟨xs, h.trans h1, h2, h3.mono e⟩
  | ins c ks vs => obtain ⟨C, dx, xs, h0, h1, h2, h3⟩ := r; exact ⟨C, dx, xs, h0, h.trans h1, h2, h3.mono e⟩

def ExcR (R : RC) (G : Wd) (_ : Hp) (x : Exc) (cls : Value) (d : Option Addr) : Prop :=
  ∃ C, R.mg x.cls = some (.ref C) ∧ cls = .ref C ∧ ((x.ks = [] ∧ x.vs = [] ∧ d = none) ∨ ∃ dx vs, d = some dx ∧ G.Z dx = some (.xd (x.ks.zip vs)) ∧ x.ks.length = vs.length ∧ Rps R G x.vs vs)
theorem ExcR.mono {R : RC} {G G' : Wd} {H H' : Hp} {x : Exc} {cls : Value} {d : Option Addr} (e : Wle G G') (h : ExcR R G H x cls d) : ExcR R G' H' x cls d := by
  obtain ⟨C, h1, h2, h3⟩ := h
  refine ⟨C, h1, h2, h3.imp id ?_⟩
  rintro ⟨dx, vs, a1, a2, a3, a4⟩
  exact ⟨dx, vs, a1, e.z _ _ a2, a3, a4.mono e⟩

/-! slots -/
inductive RSlot (R : RC) (G : Wd) (H : Hp) : RV → Option V → List Addr → Prop
  | un {o} : RSlot R G H .un o []
  | d {x v} : Rp R G x v → RSlot R G H (.d x) (some v) []
  | own {a ds xs} : H a = some (.lst xs) → Rps R G ds xs → RSlot R G H (.own ds) (some (.ref a)) [a]
  | odic {a ks vs xs} : H a = some (.dK (ks.zip xs)) → ks.length = xs.length → Rps R G vs xs → RSlot R G H (.odic ks vs) (some (.ref a)) [a]
  | fn {n f G1} : R.lm.fa n = some f → R.lm.fc n G1 → Wle G1 G → RSlot R G H (.fn n) (some (.ref f)) []
  | xc {x a cls d} : R.lm.xa = some (a, cls, d) → ExcR R G H x cls d → RSlot R G H (.xc x) (some (.ref a)) []
inductive REnv (R : RC) (G : Wd) (H : Hp) : List RV → L2.St → List Addr → Prop
  | nil : REnv R G H [] [] []
  | cons {r o as rs os bs} : RSlot R G H r o as → REnv R G H rs os bs → REnv R G H (r :: rs) (o :: os) (as ++ bs)

structure Ext (as : List Addr) (G : Wd) (H : Hp) (G' : Wd) (H' : Hp) : Prop where
  le : Wle G G'
  keep : ∀ a o, H a = some o → (∀ ps, o ≠ .tbl ps) → a ∉ G.sas → H' a = some o
  newZ : ∀ a o, G'.Z a = some o → G.Z a = some o ∨ H a = none ∨ a ∈ as
  newS : ∀ a ∈ G'.sas, a ∈ G.sas ∨ H a = none
  dom : ∀ a, H' a = none → H a = none
theorem Ext.refl (as : List Addr) (G : Wd) (H : Hp) : Ext as G H G H := ⟨.refl _, fun _ _ h _ _ => h, fun _ _ h => .inl h, fun _ h => .inl h, fun _ h => h⟩
theorem Ext.trans {as as1 : List Addr} {G G1 G2 : Wd} {H H1 H2 : Hp} (x : Ext as G H G1 H1) (s : ∀ a ∈ as1, a ∈ as ∨ H a = none) (y : Ext as1 G1 H1 G2 H2) : Ext as G H G2 H2 where
  le := x.le.trans y.le
  keep := fun a o h t h1 => by
    refine y.keep a o (x.keep a o h t h1) t (fun z => ?_)
    rcases x.newS a z with z | z
    · exact h1 z
    · rw [h] at z; cases z
  newZ := fun a o h => by
    rcases y.newZ a o h with h | h | h
    · exact x.newZ a o h
    · exact .inr (.inl (x.dom a h))
    · rcases s a h with z | z
      · exact .inr (.inr z)
      · exact .inr (.inl z)
  newS := fun a h => by
    rcases y.newS a h with h | h
    · exact x.newS a h
    · exact .inr (x.dom a h)
  dom := fun a h => x.dom a (y.dom a h)
theorem Ext.mono {as as' : List Addr} {G G1 : Wd} {H H1 : Hp} (x : Ext as G H G1 H1) (s : ∀ a ∈ as, a ∈ as' ∨ H a = none) : Ext as' G H G1 H1 := (Ext.refl as' G H).trans s x

/-- the tables of code objects, and the code objects that are known -/
def TabsC (R : RC) (G : Wd) (H : Hp) : Prop := LamX.Tabs R.T H ∧ (∀ p ∈ G.C, H p.1 = some (.ext p.2)) ∧ ∀ a ps, G.Z a ≠ some (.tbl ps)
/-- what holds at every place of a def's body: the cells, what is known, what was there at the entry -/
structure Bas (R : RC) (H0 : Hp) (G0 G : Wd) (S : List Cell) (H : Hp) : Prop where
  cells : RCells R G H S G.sas
  nd : G.sas.Nodup
  free : ∀ a ∈ G.sas, G.Z a = none
  sub : Same G.Z H
  tabs : TabsC R G H
  ext : Ext [] G0 H0 G H
structure Rel (R : RC) (H0 : Hp) (G0 G : Wd) (w : W) (σ : L2.St) (H : Hp) (as : List Addr) : Prop where
  env : REnv R G H w.env σ as
  bas : Bas R H0 G0 G w.S H
  nd : (as ++ G.sas).Nodup
  free : ∀ a ∈ as, G.Z a = none
  fresh : ∀ a ∈ as, H0 a = none

/-! results -/
inductive Res where
  | ok (v : RV) (w : W) | ex (x : Exc) (w : W) | bad
inductive RS where
  | nx (w : W) | rt (v : RV) (S : List Cell) | bk (w : W) | ct (w : W) | ex (x : Exc) (w : W) | bad
inductive RF where
  | ok (v : RV) (S : List Cell) | ex (x : Exc) (S : List Cell) | bad
abbrev ME := W → Res
abbrev MS := W → RS
abbrev MF := List D → List Cell → RF

/-- a fresh result's addresses -/
def Loose (H0 : Hp) (G : Wd) (as bs : List Addr) : Prop := ∀ b ∈ bs, G.Z b = none ∧ b ∉ G.sas ∧ b ∉ as ∧ H0 b = none

abbrev WXx := WX
def PostE (R : RC) (H0 : Hp) (G0 : Wd) (Wx : WX) (σ : L2.St) (G : Wd) (H : Hp) (as : List Addr) (r : Res) (Q : VK) : Prop :=
  match r with
  | .ok rv w' => ∀ v G' H' as' bs, Rel R H0 G0 G' w' σ H' as' → Ext as G H G' H' → (∀ a ∈ as', a ∈ as) → RSlot R G' H' rv (some v) bs → Loose H0 G' as' bs → (∀ b ∈ bs, b ∈ as ∨ H b = none) → Q v H'
  | .ex x w' => ∀ cls d G' H' as', Rel R H0 G0 G' w' σ H' as' → ExcR R G' H' x cls d → Wx cls d σ H'
  | .bad => False
def PostS (R : RC) (H0 : Hp) (G0 : Wd) (Wx : WX) (G : Wd) (r : RS) (D : Ends) : Prop :=
  match r with
  | .nx w' => ∀ σ' G' H' as', Rel R H0 G0 G' w' σ' H' as' → Wle G G' → D.nx σ' H'
  | .bk w' => ∀ σ' G' H' as', Rel R H0 G0 G' w' σ' H' as' → Wle G G' → D.bk σ' H'
  | .ct w' => ∀ σ' G' H' as', Rel R H0 G0 G' w' σ' H' as' → Wle G G' → D.ct σ' H'
  | .rt rv S' => ∀ v G' H' bs, Bas R H0 G0 G' S' H' → RSlot R G' H' rv (some v) bs → Loose H0 G' [] bs → D.rt v H'
  | .ex x w' => ∀ σ' cls d G' H' as', Rel R H0 G0 G' w' σ' H' as' → ExcR R G' H' x cls d → Wx cls d σ' H'
  | .bad => False
def PostF (R : RC) (H0 : Hp) (G0 : Wd) (r : RF) (Q : VK) (E : XK) : Prop :=
  match r with
  | .ok rv S' => ∀ v G' H' bs, Bas R H0 G0 G' S' H' → RSlot R G' H' rv (some v) bs → Loose H0 G' [] bs → Q v H'
  | .ex x S' => ∀ cls d G' H', Bas R H0 G0 G' S' H' → ExcR R G' H' x cls d → E cls d H'
  | .bad => False

def liftE (R : RC) (Wx : WX) (H0 : Hp) (G0 : Wd) (m : ME) : TE := fun σ H Q => ∃ G w as, Rel R H0 G0 G w σ H as ∧ PostE R H0 G0 Wx σ G H as (m w) Q
def liftS (R : RC) (Wx : WX) (H0 : Hp) (G0 : Wd) (m : MS) : TS := fun D σ H => ∃ G w as, Rel R H0 G0 G w σ H as ∧ PostS R H0 G0 Wx G (m w) D

structure PEm (X : Cx) (R : RC) (Wx : WX) (e : Expr) (m : ME) : Prop where
  pe : ∀ H0 G0, PE X e (liftE R Wx H0 G0 m)
structure PSm (X : Cx) (R : RC) (Wx : WX) (st : Stmt) (m : MS) : Prop where
  ps : ∀ H0 G0, PS X st (liftS R Wx H0 G0 m)
structure PBm (X : Cx) (R : RC) (Wx : WX) (st : List Stmt) (m : MS) : Prop where
  ps : ∀ H0 G0, PSs X st (liftS R Wx H0 G0 m)

/-- strengthening what is asked -/
theorem PE.cons {X : Cx} {e : Expr} {t t' : TE} (h : PE X e t) (c : ∀ σ H Q, t' σ H Q → t σ H Q) : PE X e t' := ⟨fun pins s σ H Q I q => h.run pins s σ H Q I (c σ H Q q)⟩
theorem PS.cons {X : Cx} {e : Stmt} {t t' : TS} (h : PS X e t) (c : ∀ D σ H, t' D σ H → t D σ H) : PS X e t' := ⟨fun pins s σ H D I q => h.run pins s σ H D I (c D σ H q)⟩
theorem PSs.cons {X : Cx} {e : List Stmt} {t t' : TS} (h : PSs X e t) (c : ∀ D σ H, t' D σ H → t D σ H) : PSs X e t' := ⟨fun pins s σ H D I q => h.run pins s σ H D I (c D σ H q)⟩
theorem PT.cons {X : Cx} {e : Expr} {t t' : TT} (h : PT X e t) (c : ∀ σ H Q, t' σ H Q → t σ H Q) : PT X e t' := ⟨fun pins s σ H Q I q => h.run pins s σ H Q I (c σ H Q q)⟩
theorem PA.cons {X : Cx} {e : List Expr} {t t' : TA} (h : PA X e t) (c : ∀ σ H Q, t' σ H Q → t σ H Q) : PA X e t' := ⟨fun pos pins s σ H Q I q => h.run pos pins s σ H Q I (c σ H Q q)⟩

/-! the mirror's own words -/
def Res.bind (r : Res) (k : RV → W → Res) : Res := match r with
  | .ok v w => k v w
  | .ex x w => .ex x w
  | .bad => .bad
/-- a value as data: what was a list of its own is nobody's from now on -/
def RV.frz : RV → Option D
  | .d x => some x
  | .own ds => some (.lst ds)
  | .odic ks vs => some (.dic ks vs)
  | _ => none
def Res.bd (r : Res) (k : D → W → Res) : Res := r.bind fun v w => match v.frz with
  | some x => k x w
  | none => .bad
end DB

set_option Elab.async false
set_option linter.all false
set_option maxRecDepth 100000
set_option maxHeartbeats 4000000
namespace DB
open PySem PySem.Spec PyProof.Rows L2

section
variable {R : RC} {H0 H H' H1 : Hp} {G0 G G' G1 : Wd} {w w' w1 : W} {σ : L2.St} {as as' as1 bs : List Addr} {Wx : WX}

theorem RSlot.mono {r : RV} {o : Option V} (s : RSlot R G H r o as) (e : Wle G G') (k : ∀ a ∈ as, ∀ u, H a = some u → H' a = some u) : RSlot R G' H' r o as := by
  cases s with
  | un => exact .un
  | d h => exact .d (h.mono e)
  | own h r => exact .own (k _ (List.mem_singleton.mpr rfl) _ h) (r.mono e)
  | odic h l r => exact .odic (k _ (List.mem_singleton.mpr rfl) _ h) l (r.mono e)
  | fn h l t => exact .fn h l (t.trans e)
  | xc h x => exact .xc h (x.mono e)
theorem REnv.mono {l : List RV} (s : REnv R G H l σ as) (e : Wle G G') (k : ∀ a ∈ as, ∀ u, H a = some u → H' a = some u) : REnv R G' H' l σ as := by
  induction s with
  | nil => exact .nil
  | cons h r ih => exact .cons (h.mono e fun a ha => k a (List.mem_append_left _ ha)) (ih fun a ha => k a (List.mem_append_right _ ha))
theorem RSlot.has {r : RV} {o : Option V} (s : RSlot R G H r o as) : ∀ a ∈ as, ∃ u, H a = some u := by
  cases s with
  | un => simp
  | d h => simp
  | own h r => intro a ha; rw [List.mem_singleton.mp ha]; exact ⟨_, h⟩
  | odic h l r => intro a ha; rw [List.mem_singleton.mp ha]; exact ⟨_, h⟩
  | fn h l _ => simp
  | xc h x => simp
theorem REnv.has {l : List RV} (s : REnv R G H l σ as) : ∀ a ∈ as, ∃ u, H a = some u := by
  induction s with
  | nil => simp
  | cons h r ih => intro a ha; exact (List.mem_append.mp ha).elim (h.has a) (ih a)
theorem RSlot.notbl {r : RV} {o : Option V} (s : RSlot R G H r o as) : ∀ a ∈ as, ∀ u, H a = some u → ∀ ps, u ≠ .tbl ps := by
  cases s with
  | un => simp
  | d h => simp
  | own h r => intro a ha u e ps z; rw [List.mem_singleton.mp ha, h] at e; cases e; cases z
  | odic h l r => intro a ha u e ps z; rw [List.mem_singleton.mp ha, h] at e; cases e; cases z
  | fn h l t => simp
  | xc h x => simp
theorem REnv.notbl {l : List RV} (s : REnv R G H l σ as) : ∀ a ∈ as, ∀ u, H a = some u → ∀ ps, u ≠ .tbl ps := by
  induction s with
  | nil => simp
  | cons h r ih => intro a ha; exact (List.mem_append.mp ha).elim (h.notbl a) (ih a)
theorem RCell.has {a : Addr} {c : Cell} (r : RCell R G H a c) : ∃ u, H a = some u := by
  cases c with
  | lst ds => obtain ⟨xs, h, _⟩ := r; exact ⟨_, h⟩
  | dic ks vs => obtain ⟨xs, h, _⟩ := r; exact ⟨_, h⟩
  | ins c ks vs => obtain ⟨C, dx, xs, _, h, _⟩ := r; exact ⟨_, h⟩
theorem RCells.has {S : List Cell} {sas : List Addr} (r : RCells R G H S sas) : ∀ a ∈ sas, ∃ u, H a = some u := by
  intro a ha
  obtain ⟨n, hn, e⟩ := List.getElem_of_mem ha
  have hs : n < S.length := by rw [r.1]; exact hn
  exact (r.2 n S[n] a (List.getElem?_eq_getElem hs) (by rw [List.getElem?_eq_getElem hn, e])).has

/-- only new things have come -/
structure PExt (G : Wd) (H : Hp) (G' : Wd) (H' : Hp) : Prop where
  z : Same G.Z G'.Z
  s : G'.sas = G.sas
  c : G'.C = G.C
  keep : Same H H'
  sub : Same G'.Z H'
  newZ : ∀ a o, G'.Z a = some o → G.Z a = some o ∨ H a = none
  nt : ∀ a ps, G'.Z a = some (.tbl ps) → G.Z a = some (.tbl ps)
theorem PExt.le (p : PExt G H G' H') : Wle G G' := ⟨p.z, by rw [p.s]; exact List.prefix_refl _, fun q h => by rw [p.c]; exact h⟩
theorem PExt.refl (h : Same G.Z H) : PExt G H G H := ⟨.refl _, rfl, rfl, .refl _, h, fun _ _ h => .inl h, fun _ _ h => h⟩
theorem PExt.ext (p : PExt G H G' H') (as : List Addr) : Ext as G H G' H' :=
  ⟨p.le, fun a o h _ _ => p.keep a o h, fun a o h => (p.newZ a o h).elim .inl fun z => .inr (.inl z), fun a h => .inl (by rw [← p.s]; exact h), fun a h => by
    cases e : H a with
    | none => rfl
    | some o => rw [p.keep a o e] at h; cases h⟩
theorem PExt.trans {G2 : Wd} {H2 : Hp} (p : PExt G H G1 H1) (q : PExt G1 H1 G2 H2) : PExt G H G2 H2 :=
  ⟨p.z.trans q.z, q.s.trans p.s, q.c.trans p.c, p.keep.trans q.keep, q.sub, fun a o h => by
    rcases q.newZ a o h with h | h
    · exact p.newZ a o h
    · exact .inr ((p.ext []).dom a h), fun a ps h => p.nt a ps (q.nt a ps h)⟩
theorem Bas.pext {S : List Cell} (b : Bas R H0 G0 G S H) (p : PExt G H G' H') : Bas R H0 G0 G' S H' where
  cells := by
    rw [p.s]
    refine ⟨b.cells.1, fun n c a h1 h2 => ?_⟩
    have r := b.cells.2 n c a h1 h2
    obtain ⟨u, hu⟩ := r.has
    exact r.mono p.le (by rw [hu]; exact p.keep _ _ hu)
  nd := by rw [p.s]; exact b.nd
  free := fun a ha => by
    rw [p.s] at ha
    cases e : G'.Z a with
    | none => rfl
    | some o =>
      rcases p.newZ a o e with h | h
      · rw [b.free a ha] at h; cases h
      · obtain ⟨u, hu⟩ := b.cells.has a ha
        rw [hu] at h; cases h
  sub := p.sub
  tabs := ⟨b.tabs.1.ext p.keep, fun q hq => p.keep _ _ (b.tabs.2.1 q (by rw [← p.c]; exact hq)), fun a ps h => b.tabs.2.2 a ps (p.nt a ps h)⟩
  ext := b.ext.trans (fun _ h => .inl h) (p.ext [])
theorem Rel.pext (r : Rel R H0 G0 G w σ H as) (p : PExt G H G' H') : Rel R H0 G0 G' w σ H' as where
  env := r.env.mono p.le fun a _ u h => p.keep a u h
  bas := r.bas.pext p
  nd := by rw [p.s]; exact r.nd
  free := fun a ha => by
    cases e : G'.Z a with
    | none => rfl
    | some o =>
      rcases p.newZ a o e with h | h
      · rw [r.free a ha] at h; cases h
      · obtain ⟨u, hu⟩ := r.env.has a ha
        rw [hu] at h; cases h
  fresh := r.fresh

theorem upd_new {p : Addr} {o : HO} (h : H p = none) : Same H (upd H p o) := fun b u e => by rw [upd_ne (ne_of_none e h)]; exact e
def Wd.put (G : Wd) (a : Addr) (o : HO) : Wd := { G with Z := upd G.Z a o }
theorem put_at {a : Addr} {o : HO} : (G.put a o).Z a = some o := upd_same
theorem put_ne {a b : Addr} {o : HO} (h : b ≠ a) : (G.put a o).Z b = G.Z b := upd_ne h
theorem PExt.own {p : Addr} {o : HO} (s : Same G.Z H) (h : H p = none) : PExt G H G (upd H p o) := ⟨.refl _, rfl, rfl, upd_new h, s.trans (upd_new h), fun _ _ h => .inl h, fun _ _ h => h⟩
theorem put_nt {p a : Addr} {o : HO} {ps : Array Value} (hn : ∀ ps, o ≠ .tbl ps) (h : (G.put p o).Z a = some (.tbl ps)) : G.Z a = some (.tbl ps) := by
  by_cases hb : a = p
  · rw [hb, put_at] at h; exact (hn ps (Option.some.inj h)).elim
  · rw [put_ne hb] at h; exact h
theorem PExt.new {p : Addr} {o : HO} (s : Same G.Z H) (h : H p = none) (hn : ∀ ps, o ≠ .tbl ps := by intro ps z; cases z) : PExt G H (G.put p o) (upd H p o) :=
  ⟨upd_new (s.free h), rfl, rfl, upd_new h, fun b u e => by
    by_cases hb : b = p
    · rw [hb] at e ⊢; rw [put_at] at e; rw [upd_same]; exact e
    · rw [put_ne hb] at e
      rw [upd_ne hb]; exact s b u e, fun b u e => by
    by_cases hb : b = p
    · subst hb; exact .inr h
    · rw [put_ne hb] at e
      exact .inl e, fun a ps h => put_nt hn h⟩

/-! what was one's own is let go -/
theorem put_le {a : Addr} {o : HO} (h : G.Z a = none) : Wle G (G.put a o) := ⟨upd_new h, List.prefix_refl _, fun _ h => h⟩
theorem put_ext {a : Addr} {o : HO} (h : G.Z a = none) : Ext [a] G H (G.put a o) H :=
  ⟨put_le h, fun _ _ h _ _ => h, fun b u e => by
    by_cases hb : b = a
    · exact .inr (.inr (by rw [hb]; exact List.mem_singleton.mpr rfl))
    · rw [put_ne hb] at e; exact .inl e, fun _ h => .inl h, fun _ h => h⟩
theorem Rel.put {a : Addr} {o : HO} (r : Rel R H0 G0 G w σ H as) (e : H a = some o) (h : G.Z a = none) (hs : a ∉ G.sas) (ha : a ∉ as) (h0 : H0 a = none) (hn : ∀ ps, o ≠ .tbl ps := by intro ps z; cases z) : Rel R H0 G0 (G.put a o) w σ H as where
  env := r.env.mono (put_le h) fun _ _ _ h => h
  bas := {
    cells := ⟨r.bas.cells.1, fun n c b h1 h2 => (r.bas.cells.2 n c b h1 h2).mono (put_le h) rfl⟩
    nd := r.bas.nd
    free := fun b hb => (put_ne (fun z => hs (by rw [← z]; exact hb))).trans (r.bas.free b hb)
    sub := fun b u hb => by
      by_cases hz : b = a
      · rw [hz] at hb ⊢
        rw [put_at] at hb
        rw [← hb]; exact e
      · rw [put_ne hz] at hb; exact r.bas.sub b u hb
    tabs := ⟨r.bas.tabs.1, r.bas.tabs.2.1, fun b ps h => r.bas.tabs.2.2 b ps (put_nt hn h)⟩
    ext := r.bas.ext.trans (fun b hb => .inr (by rw [List.mem_singleton.mp hb]; exact h0)) (put_ext h) }
  nd := r.nd
  free := fun b hb => (put_ne (fun z => ha (by rw [← z]; exact hb))).trans (r.free b hb)
  fresh := r.fresh

theorem PostE.shift {r : Res} {Q : VK} (h : PostE R H0 G0 Wx σ G H as r Q) (x : Ext as G H G1 H1) (s : ∀ a ∈ as1, a ∈ as) : PostE R H0 G0 Wx σ G1 H1 as1 r Q := by
  cases r with
  | ok rv w' =>
    intro v G' H' as' bs rel ext sub sl lo fr
    refine h v G' H' as' bs rel (x.trans (fun a ha => .inl (s a ha)) ext) (fun a ha => s a (sub a ha)) sl lo fun b hb => ?_
    rcases fr b hb with z | z
    · exact .inl (s b z)
    · exact .inr (x.dom b z)
  | ex x w' => exact h
  | bad => exact h

/-- a temporary is let go -/
theorem frz_tmp {rv : RV} {v : V} {x : D} (r : Rel R H0 G0 G w σ H as) (sl : RSlot R G H rv (some v) bs) (lo : Loose H0 G as bs) (e : rv.frz = some x) :
    ∃ G', Rel R H0 G0 G' w σ H as ∧ Ext bs G H G' H ∧ Rp R G' x v := by
  cases sl with
  | un => cases e
  | d h => cases e; exact ⟨G, r, .refl _ _ _, h⟩
  | @own a ds xs h q =>
    cases e
    obtain ⟨l1, l2, l3, l4⟩ := lo a (List.mem_singleton.mpr rfl)
    exact ⟨G.put a (.lst xs), r.put h l1 l2 l3 l4, put_ext l1, .lst upd_same (q.mono (put_le l1))⟩
  | @odic a ks vs xs h l q =>
    cases e
    obtain ⟨l1, l2, l3, l4⟩ := lo a (List.mem_singleton.mpr rfl)
    exact ⟨G.put a (.dK (ks.zip xs)), r.put h l1 l2 l3 l4, put_ext l1, .dic (.inl upd_same) l (q.mono (put_le l1))⟩
  | fn h l _ => cases e
  | xc h x => cases e

/-- an expression's value as data, and what is done with it -/
theorem lift_bd {m1 : ME} {k : D → W → Res} {Q1 Q : VK} (rel : Rel R H0 G0 G w σ H as) (h : PostE R H0 G0 Wx σ G H as ((m1 w).bd k) Q)
    (c : ∀ v x G1 H1 as1 w1, Rel R H0 G0 G1 w1 σ H1 as1 → Wle G G1 → Rp R G1 x v → PostE R H0 G0 Wx σ G1 H1 as1 (k x w1) Q → Q1 v H1) : liftE R Wx H0 G0 m1 σ H Q1 := by
  refine ⟨G, w, as, rel, ?_⟩
  cases e : m1 w with
  | bad => rw [e] at h; exact h
  | ex x w1 => rw [e] at h; exact h
  | ok rv w1 =>
    rw [e] at h
    intro v G' H' as' bs rel' ext sub sl lo fr
    cases ef : rv.frz with
    | none =>
      have h2 : PostE R H0 G0 Wx σ G H as .bad Q := by
        have : (Res.ok rv w1).bd k = .bad := by unfold Res.bd Res.bind; simp only [ef]
        rw [this] at h; exact h
      exact h2.elim
    | some x =>
      have h2 : PostE R H0 G0 Wx σ G H as (k x w1) Q := by
        have : (Res.ok rv w1).bd k = k x w1 := by unfold Res.bd Res.bind; simp only [ef]
        rw [this] at h; exact h
      obtain ⟨G2, rel2, ext2, rp⟩ := frz_tmp rel' sl lo ef
      have ext3 : Ext as G H G2 H' := ext.trans fr ext2
      exact c v x G2 H' as' w1 rel2 ext3.le rp (h2.shift ext3 sub)

/-- what may be read: data, or a live list or dict -/
inductive Live (R : RC) (G : Wd) (H : Hp) : D → V → Prop
  | rp {x v} : Rp R G x v → Live R G H x v
  | own {p ds xs} : H p = some (.lst xs) → p ∉ G.sas → Rps R G ds xs → Live R G H (.lst ds) (.ref p)
  | odic {p ks ds xs} : H p = some (.dK (ks.zip xs)) → p ∉ G.sas → ks.length = xs.length → Rps R G ds xs → Live R G H (.dic ks ds) (.ref p)
inductive Lives (R : RC) (G : Wd) (H : Hp) : List D → List V → Prop
  | nil : Lives R G H [] []
  | cons {d ds v vs} : Live R G H d v → Lives R G H ds vs → Lives R G H (d :: ds) (v :: vs)
theorem Ext.nosas {as : List Addr} (x : Ext as G H G' H') {p : Addr} {o : HO} (h : H p = some o) (hs : p ∉ G.sas) : p ∉ G'.sas := fun z => by
  rcases x.newS p z with z | z
  · exact hs z
  · rw [h] at z; cases z
theorem Live.ext {x : D} {v : V} (l : Live R G H x v) (e : Ext as G H G' H') : Live R G' H' x v := by
  cases l with
  | rp r => exact .rp (r.mono e.le)
  | own h s r => exact .own (e.keep _ _ h (fun _ z => by cases z) s) (e.nosas h s) (r.mono e.le)
  | odic h s l r => exact .odic (e.keep _ _ h (fun _ z => by cases z) s) (e.nosas h s) l (r.mono e.le)
theorem Lives.ext {xs : List D} {vs : List V} (l : Lives R G H xs vs) (e : Ext as G H G' H') : Lives R G' H' xs vs := by
  induction l with
  | nil => exact .nil
  | cons h _ ih => exact .cons (h.ext e) ih
/-- a list that may be read stands in the heap -/
theorem Live.lst {ds : List D} {v : V} (l : Live R G H (.lst ds) v) (s : Same G.Z H) : ∃ p xs, v = .ref p ∧ H p = some (.lst xs) ∧ Rps R G ds xs := by
  cases l with
  | rp r => cases r with
    | lst h r => exact ⟨_, _, rfl, s _ _ h, r⟩
  | own h _ r => exact ⟨_, _, rfl, h, r⟩
theorem Live.dic {ks : List Key} {ds : List D} {v : V} (l : Live R G H (.dic ks ds) v) (s : Same G.Z H) : ∃ p xs, v = .ref p ∧ Rd H p (.dK (ks.zip xs)) ∧ ks.length = xs.length ∧ Rps R G ds xs := by
  cases l with
  | rp r => cases r with
    | dic h l r => exact ⟨_, _, rfl, Same.rd s h, l, r⟩
  | odic h _ l r => exact ⟨_, _, rfl, .inl h, l, r⟩
theorem Live.tup {ds : List D} {v : V} (l : Live R G H (.tup ds) v) (s : Same G.Z H) : ∃ p xs, v = .ref p ∧ SqT R.K H p xs ∧ Rps R G ds xs ∧ Rp R G (.tup ds) (.ref p) := by
  cases l with
  | rp r => cases r with
    | tup h r => exact ⟨_, _, rfl, Same.seqT s h, r, .tup h r⟩
theorem Live.int {i : Int} {v : V} (l : Live R G H (.int i) v) : v = .int i := by
  cases l with
  | rp r => cases r; rfl
theorem Live.str {i : Str} {v : V} (l : Live R G H (.str i) v) : v = .str i := by
  cases l with
  | rp r => cases r; rfl
theorem Live.bl {i : Bool} {v : V} (l : Live R G H (.bl i) v) : v = .bl i := by
  cases l with
  | rp r => cases r; rfl
theorem Live.non {v : V} (l : Live R G H .non v) : v = .non := by
  cases l with
  | rp r => cases r; rfl
theorem RSlot.live {rv : RV} {v : V} {x : D} (sl : RSlot R G H rv (some v) bs) (lo : ∀ b ∈ bs, b ∉ G.sas) (e : rv.frz = some x) : Live R G H x v := by
  cases sl with
  | un => cases e
  | d h => cases e; exact .rp h
  | own h r => cases e; exact .own h (lo _ (List.mem_singleton.mpr rfl)) r
  | odic h l r => cases e; exact .odic h (lo _ (List.mem_singleton.mpr rfl)) l r
  | fn h l _ => cases e
  | xc h x => cases e

/-- an operand: what it is may be read -/
def PostO (R : RC) (H0 : Hp) (G0 : Wd) (Wx : WX) (σ : L2.St) (G : Wd) (H : Hp) (as : List Addr) (r : Res) (Q : VK) : Prop :=
  match r with
  | .ok rv w' => match rv.frz with
    | some x => ∀ v G' H' as', Rel R H0 G0 G' w' σ H' as' → Ext as G H G' H' → (∀ a ∈ as', a ∈ as) → Live R G' H' x v → Q v H'
    | none => False
  | .ex x w' => ∀ cls d G' H' as', Rel R H0 G0 G' w' σ H' as' → ExcR R G' H' x cls d → Wx cls d σ H'
  | .bad => False
def liftO (R : RC) (Wx : WX) (H0 : Hp) (G0 : Wd) (m : ME) : TE := fun σ H Q => ∃ G w as, Rel R H0 G0 G w σ H as ∧ PostO R H0 G0 Wx σ G H as (m w) Q
theorem lift_bo {m1 : ME} {k : D → W → Res} {Q1 Q : VK} (rel : Rel R H0 G0 G w σ H as) (h : PostE R H0 G0 Wx σ G H as ((m1 w).bd k) Q)
    (c : ∀ v x G1 H1 as1 w1, Rel R H0 G0 G1 w1 σ H1 as1 → Ext as G H G1 H1 → Live R G1 H1 x v → PostE R H0 G0 Wx σ G1 H1 as1 (k x w1) Q → Q1 v H1) : liftO R Wx H0 G0 m1 σ H Q1 := by
  refine ⟨G, w, as, rel, ?_⟩
  cases e : m1 w with
  | bad => rw [e] at h; exact h
  | ex x w1 => rw [e] at h; exact h
  | ok rv w1 =>
    rw [e] at h
    cases ef : rv.frz with
    | none =>
      have : (Res.ok rv w1).bd k = .bad := by unfold Res.bd Res.bind; simp only [ef]
      rw [this] at h; exact h.elim
    | some x =>
      have : (Res.ok rv w1).bd k = k x w1 := by unfold Res.bd Res.bind; simp only [ef]
      rw [this] at h
      show match rv.frz with | some x => _ | none => False
      rw [ef]
      exact fun v G' H' as' rel' ext sub lv => c v x G' H' as' w1 rel' ext lv (h.shift ext sub)
structure POm (X : Cx) (R : RC) (Wx : WX) (e : Expr) (m : ME) : Prop where
  pe : ∀ H0 G0, PE X e (liftO R Wx H0 G0 m)
theorem om {X : Cx} {e : Expr} {m : ME} (h : PEm X R Wx e m) : POm X R Wx e m := ⟨fun H0 G0 => PE.cons (h.pe H0 G0) fun σ H Q ⟨G, w, as, rel, h⟩ => by
  refine ⟨G, w, as, rel, ?_⟩
  cases e : m w with
  | bad => rw [e] at h; exact h
  | ex x w1 => rw [e] at h; exact h
  | ok rv w1 =>
    rw [e] at h
    intro v G' H' as' bs rel' ext sub sl lo _
    have h' : match rv.frz with
      | some x => ∀ v G' H' as', Rel R H0 G0 G' w1 σ H' as' → Ext as G H G' H' → (∀ a ∈ as', a ∈ as) → Live R G' H' x v → Q v H'
      | none => False := h
    cases ef : rv.frz with
    | none => rw [ef] at h'; exact h'.elim
    | some x => rw [ef] at h'; exact h' v G' H' as' rel' ext sub (sl.live (fun b hb => (lo b hb).2.1) ef)⟩
end
end DB

set_option Elab.async false
set_option linter.all false
set_option maxRecDepth 100000
set_option maxHeartbeats 4000000
namespace DB
open PySem PySem.Spec PyProof.Rows L2

structure Ag (X : Cx) (R : RC) : Prop where
  K : X.K = R.K
  mg : X.mg = R.mg

section
variable {R : RC} {H0 H H' H1 : Hp} {G0 G G' G1 : Wd} {w w' w1 : W} {σ : L2.St} {as as' as1 bs : List Addr} {Wx : WX} {X : Cx}

/-- a value that is new or was there, over a heap that has grown -/
def NewP (R : RC) (G : Wd) (H : Hp) (rv : RV) (Q : VK) : Prop := ∀ v G' H' bs, PExt G H G' H' → RSlot R G' H' rv (some v) bs → (∀ b ∈ bs, H b = none ∧ G'.Z b = none) → Q v H'
theorem PostE.new {rv : RV} {Q : VK} (rel : Rel R H0 G0 G w σ H as) (h : PostE R H0 G0 Wx σ G H as (.ok rv w) Q) : NewP R G H rv Q := fun v G' H' bs p sl lo =>
  h v G' H' as bs (rel.pext p) (p.ext as) (fun _ h => h) sl (fun b hb => by
    obtain ⟨h1, h2⟩ := lo b hb
    refine ⟨h2, fun z => ?_, fun z => ?_, rel.bas.ext.dom b h1⟩
    · rw [p.s] at z
      obtain ⟨u, hu⟩ := rel.bas.cells.has b z
      rw [hu] at h1; cases h1
    · obtain ⟨u, hu⟩ := rel.env.has b z
      rw [hu] at h1; cases h1) fun b hb => .inr (lo b hb).1
theorem NewP.sc {x : D} {v : V} {Q : VK} (h : NewP R G H (.d x) Q) (s : Same G.Z H) (r : Rp R G x v) : Q v H := h v G H [] (.refl s) (.d r) (by simp)
theorem NewP.tup {ds : List D} {xs : List V} {Q : VK} (h : NewP R G H (.d (.tup ds)) Q) (s : Same G.Z H) (r : Rps R G ds xs) : ∀ p, H p = none → Q (.ref p) (upd H p (.tup xs)) := fun p hp =>
  h (.ref p) (G.put p (.tup xs)) _ [] (.new s hp) (.d (.tup (.inl (.inl put_at)) (r.mono (PExt.new s hp).le))) (by simp)
theorem NewP.own {ds : List D} {xs : List V} {Q : VK} (h : NewP R G H (.own ds) Q) (s : Same G.Z H) (r : Rps R G ds xs) : ∀ p, H p = none → Q (.ref p) (upd H p (.lst xs)) := fun p hp =>
  h (.ref p) G _ [p] (.own s hp) (.own upd_same r) fun b hb => by rw [List.mem_singleton.mp hb]; exact ⟨hp, s.free hp⟩
theorem NewP.odic {ks : List Key} {ds : List D} {xs : List V} {Q : VK} (h : NewP R G H (.odic ks ds) Q) (s : Same G.Z H) (l : ks.length = xs.length) (r : Rps R G ds xs) : ∀ p, H p = none → Q (.ref p) (upd H p (.dK (ks.zip xs))) := fun p hp =>
  h (.ref p) G _ [p] (.own s hp) (.odic upd_same l r) fun b hb => by rw [List.mem_singleton.mp hb]; exact ⟨hp, s.free hp⟩

/-! operations by values -/
def V2 (R : RC) (r : R2) (g : D → D → Option RV) : Prop := ∀ {G : Wd} {H : Hp} {x y : D} {vx vy : V} {rv : RV} {Q : VK}, Same G.Z H → Live R G H x vx → Live R G H y vy → g x y = some rv → NewP R G H rv Q → r vx vy H Q
structure OpM (X : Cx) (R : RC) (f : Value → Value → Sem Value) (g : D → D → Option RV) : Prop where
  ex : ∃ r, OpR X f r ∧ V2 R r g
def V1 (R : RC) (r : V → Hp → VK → Prop) (g : D → Option RV) : Prop := ∀ {G : Wd} {H : Hp} {x : D} {vx : V} {rv : RV} {Q : VK}, Same G.Z H → Live R G H x vx → g x = some rv → NewP R G H rv Q → r vx H Q
def VL (R : RC) (r : List V → Hp → VK → Prop) (g : List D → Option RV) : Prop := ∀ {G : Wd} {H : Hp} {xs : List D} {vs : List V} {rv : RV} {Q : VK}, Same G.Z H → Lives R G H xs vs → g xs = some rv → NewP R G H rv Q → r vs H Q
/-- a built-in function or class, called by values -/
structure CalM (X : Cx) (R : RC) (f : Value) (g : List D → Option RV) : Prop where
  ex : ∃ r, CallR X f r ∧ VL R r g

def ofO (o : Option RV) (w : W) : Res := match o with
  | some rv => .ok rv w
  | none => .bad
def mBin (g : D → D → Option RV) (m1 m2 : ME) : ME := fun w => (m1 w).bd fun x w1 => (m2 w1).bd fun y w2 => ofO (g x y) w2
theorem PostE.ofO {o : Option RV} {Q : VK} (h : PostE R H0 G0 Wx σ G H as (ofO o w) Q) : ∃ rv, o = some rv ∧ PostE R H0 G0 Wx σ G H as (.ok rv w) Q := by
  cases o with
  | none => exact h.elim
  | some rv => exact ⟨rv, rfl, h⟩

variable {a b c : Expr} {ma mb mc : ME} {pos : Pos}
theorem run2 {r : R2} {g : D → D → Option RV} (hv : V2 R r g) {Q : VK} (h : liftE R Wx H0 G0 (mBin g ma mb) σ H Q) : liftO R Wx H0 G0 ma σ H fun x H1 => liftO R Wx H0 G0 mb σ H1 fun y H2 => r x y H2 Q := by
  obtain ⟨G, w, as, rel, h⟩ := h
  refine lift_bo rel h fun v x G1 H1 as1 w1 rel1 le1 lv1 h1 => ?_
  refine lift_bo rel1 h1 fun u y G2 H2 as2 w2 rel2 le2 lv2 h2 => ?_
  obtain ⟨rv, e, h3⟩ := h2.ofO
  exact hv rel2.bas.sub (lv1.ext le2) lv2 e (h3.new rel2)
theorem em_bin {op : Operator} {g : D → D → Option RV} (o : OpM X R (binaryOp op) g) (ha : POm X R Wx a ma) (hb : POm X R Wx b mb) : PEm X R Wx (.BinOp a op b pos) (mBin g ma mb) := by
  obtain ⟨r, ho, hv⟩ := o.ex
  exact ⟨fun H0 G0 => PE.cons (pe_op ho (ha.pe H0 G0) (hb.pe H0 G0)) fun σ H Q h => run2 hv h⟩

/-! names and constants -/
def mVar (i : Nat) : ME := fun w => match w.env[i]? with
  | some (.d x) => .ok (.d x) w
  | some (.own ds) => .ok (.d (.lst ds)) { w with env := w.env.set i (.d (.lst ds)) }
  | some (.odic ks vs) => .ok (.d (.dic ks vs)) { w with env := w.env.set i (.d (.dic ks vs)) }
  | _ => .bad
def mC (x : D) : ME := fun w => .ok (.d x) w

theorem REnv.len {l : List RV} (s : REnv R G H l σ as) : l.length = σ.length := by
  induction s with
  | nil => rfl
  | cons _ _ ih => simp [ih]
/-- the slot at i, and the rest of them -/
theorem REnv.at {l : List RV} {i : Nat} {r : RV} (s : REnv R G H l σ as) (e : l[i]? = some r) :
    ∃ (o : Option V) (bs : List Addr) (cs : List Addr), σ[i]? = some o ∧ RSlot R G H r o bs ∧ (∀ a, a ∈ as ↔ a ∈ bs ∨ a ∈ cs) ∧ (as.Nodup → bs.Nodup ∧ cs.Nodup ∧ ∀ a ∈ bs, a ∉ cs) ∧
      ∀ {G' : Wd} {H' : Hp} {r' : RV} {o' : Option V} {bs' : List Addr}, Wle G G' → (∀ a ∈ cs, ∀ u, H a = some u → H' a = some u) → RSlot R G' H' r' o' bs' → (∀ a ∈ bs', a ∉ cs) → bs'.Nodup → ∃ as', REnv R G' H' (l.set i r') (σ.set i o') as' ∧ (∀ a, a ∈ as' ↔ a ∈ bs' ∨ a ∈ cs) ∧ (as.Nodup → as'.Nodup) := by
  induction s generalizing i with
  | nil => simp at e
  | @cons r0 o0 as0 rs os bs0 h0 t ih =>
    cases i with
    | zero =>
      simp at e
      subst e
      refine ⟨o0, as0, bs0, rfl, h0, fun a => List.mem_append, fun nd => ?_, fun {G' H' r' o' bs'} le k sl dj nd' => ⟨bs' ++ bs0, .cons sl (t.mono le k), fun a => List.mem_append, fun nd => ?_⟩⟩
      · obtain ⟨n1, n2, n3⟩ := List.nodup_append.mp nd
        exact ⟨n1, n2, fun a ha hb => n3 a ha a hb rfl⟩
      · obtain ⟨n1, n2, n3⟩ := List.nodup_append.mp nd
        refine List.nodup_append.mpr ⟨nd', n2, fun a ha b hb z => ?_⟩
        subst z
        exact dj a ha hb
    | succ j =>
      obtain ⟨o, bs, cs, e1, e2, e3, e4, e5⟩ := ih (i := j) (by simpa using e)
      refine ⟨o, bs, as0 ++ cs, by simpa using e1, e2, fun a => ?_, fun nd => ?_, fun {G' H' r' o' bs'} le k sl dj nd' => ?_⟩
      · rw [List.mem_append, e3, List.mem_append]
        constructor
        · rintro (z | z | z)
          · exact .inr (.inl z)
          · exact .inl z
          · exact .inr (.inr z)
        · rintro (z | z | z)
          · exact .inr (.inl z)
          · exact .inl z
          · exact .inr (.inr z)
      · obtain ⟨n1, n2, n3⟩ := List.nodup_append.mp nd
        obtain ⟨m1, m2, m3⟩ := e4 n2
        refine ⟨m1, List.nodup_append.mpr ⟨n1, m2, fun a ha b hb z => n3 a ha b ((e3 b).mpr (.inr hb)) z⟩, fun a ha hb => ?_⟩
        rcases List.mem_append.mp hb with z | z
        · exact n3 a z a ((e3 a).mpr (.inl ha)) rfl
        · exact m3 a ha z
      · obtain ⟨as', q1, q2, q3⟩ := e5 le (fun a ha => k a (List.mem_append_right _ ha)) sl (fun a ha hb => dj a ha (List.mem_append_right _ hb)) nd'
        refine ⟨as0 ++ as', .cons (h0.mono le fun a ha => k a (List.mem_append_left _ ha)) q1, fun a => ?_, fun nd => ?_⟩
        · rw [List.mem_append, q2, List.mem_append]
          constructor
          · rintro (z | z | z)
            · exact .inr (.inl z)
            · exact .inl z
            · exact .inr (.inr z)
          · rintro (z | z | z)
            · exact .inr (.inl z)
            · exact .inl z
            · exact .inr (.inr z)
        · obtain ⟨n1, n2, n3⟩ := List.nodup_append.mp nd
          refine List.nodup_append.mpr ⟨n1, q3 n2, fun a ha b hb z => ?_⟩
          subst z
          rcases (q2 a).mp hb with y | y
          · exact dj a y (List.mem_append_left _ ha)
          · exact n3 a ha a ((e3 a).mpr (.inr y)) rfl
theorem set_same {α : Type} : ∀ {l : List α} {i : Nat} {x : α}, l[i]? = some x → l.set i x = l
  | [], _, _, h => by simp at h
  | a :: l, 0, x, h => by simp at h; subst h; rfl
  | a :: l, i + 1, x, h => by
    show a :: l.set i x = a :: l
    rw [set_same (l := l) (i := i) (by simpa using h)]

/-- one's own slot is let go -/
theorem Rel.letgo {i : Nat} {r r' : RV} {p : Addr} {o : HO} (rel : Rel R H0 G0 G w σ H as) (e : w.env[i]? = some r) (es : σ[i]? = some (some (.ref p))) (ep : H p = some o)
    (hsl : ∀ {o' bs}, RSlot R G H r o' bs → o' = some (.ref p) → bs = [p]) (h' : RSlot R (G.put p o) H r' (some (.ref p)) []) (hn : ∀ ps, o ≠ .tbl ps := by intro ps z; cases z) :
    ∃ as', Rel R H0 G0 (G.put p o) { w with env := w.env.set i r' } σ H as' ∧ (∀ a ∈ as', a ∈ as) ∧ Ext as G H (G.put p o) H ∧ G.Z p = none := by
  obtain ⟨o1, bs, cs, e1, e2, e3, e4, e5⟩ := rel.env.at e
  rw [es] at e1
  cases e1
  have hb := hsl e2 rfl
  subst hb
  have hp : p ∈ as := (e3 p).mpr (.inl (List.mem_singleton.mpr rfl))
  obtain ⟨n1, n2, n3⟩ := List.nodup_append.mp rel.nd
  have hz : G.Z p = none := rel.free p hp
  have hs : p ∉ G.sas := fun z => n3 p hp p z rfl
  obtain ⟨_, _, dj⟩ := e4 n1
  have hc : p ∉ cs := dj p (List.mem_singleton.mpr rfl)
  obtain ⟨as', q1, q2, q3⟩ := e5 (put_le (o := o) hz) (fun _ _ _ h => h) h' (by simp) List.nodup_nil
  have q2' : ∀ a, a ∈ as' → a ∈ cs := fun a ha => by
    rcases (q2 a).mp ha with z | z
    · simp at z
    · exact z
  have sub : ∀ a ∈ as', a ∈ as := fun a ha => (e3 a).mpr (.inr (q2' a ha))
  refine ⟨as', ?_, sub, (put_ext hz).mono fun a ha => .inl (by rw [List.mem_singleton.mp ha]; exact hp), hz⟩
  have hσ : σ.set i (some (.ref p)) = σ := set_same es
  rw [hσ] at q1
  exact {
    env := q1
    bas := {
      cells := ⟨rel.bas.cells.1, fun n c b h1 h2 => (rel.bas.cells.2 n c b h1 h2).mono (put_le hz) rfl⟩
      nd := rel.bas.nd
      free := fun b hb => (put_ne (fun z => hs (by rw [← z]; exact hb))).trans (rel.bas.free b hb)
      sub := fun b u hb => by
        by_cases hz2 : b = p
        · rw [hz2] at hb ⊢
          rw [put_at] at hb
          rw [← hb]; exact ep
        · rw [put_ne hz2] at hb; exact rel.bas.sub b u hb
      tabs := ⟨rel.bas.tabs.1, rel.bas.tabs.2.1, fun b ps h => rel.bas.tabs.2.2 b ps (put_nt hn h)⟩
      ext := rel.bas.ext.trans (fun b hb => .inr (by rw [List.mem_singleton.mp hb]; exact rel.fresh p hp)) (put_ext hz) }
    nd := List.nodup_append.mpr ⟨q3 n1, n2, fun a ha b hb z => n3 a (sub a ha) b hb z⟩
    free := fun b hb => (put_ne (fun z => hc (by rw [← z]; exact q2' b hb))).trans (rel.free b (sub b hb))
    fresh := fun b hb => rel.fresh b (sub b hb) }

theorem em_var (i : Nat) {x : Str} {pos : Pos} (hN : X.N[i]? = some x := by rfl) (hv : Vis X.env.scope x := by first | exact Or.inl rfl | exact Or.inr (Or.inl rfl) | exact Or.inr (Or.inr rfl)) (hd : (x == ("__debug__" : Str)) = false := by decide)
    (hcd : (x == ("__classdict__" : Str)) = false := by decide) : PEm X R Wx (.Name x pos) (mVar i) := by
  refine ⟨fun H0 G0 => PE.cons (pe_var hN hv hd hcd) fun σ H Q ⟨G, w, as, rel, h⟩ => ?_⟩
  show ∃ v, σ[i]? = some (some v) ∧ Q v H
  unfold mVar at h
  cases e : w.env[i]? with
  | none => rw [e] at h; exact h.elim
  | some r =>
    rw [e] at h
    obtain ⟨o, bs, cs, e1, e2, e3, e4, e5⟩ := rel.env.at e
    cases e2 with
    | un => exact h.elim
    | fn _ _ _ => exact h.elim
    | xc _ _ => exact h.elim
    | @d x v rp => exact ⟨v, e1, h v G H as [] rel (.refl _ _ _) (fun _ h => h) (.d rp) (by intro b hb; simp at hb) (by simp)⟩
    | @own p ds xs hp rs =>
      have hz : G.Z p = none := rel.free p ((e3 p).mpr (.inl (List.mem_singleton.mpr rfl)))
      have rp : Rp R (G.put p (.lst xs)) (.lst ds) (.ref p) := .lst put_at (rs.mono (put_le hz))
      obtain ⟨as', rel', sub, ext, _⟩ := rel.letgo (r' := .d (.lst ds)) e e1 hp (fun {o' bs'} s z => by cases s; cases z; rfl) (.d rp)
      exact ⟨_, e1, h (.ref p) _ H as' [] rel' ext sub (.d rp) (by intro b hb; simp at hb) (by simp)⟩
    | @odic p ks ds xs hp hl rs =>
      have hz : G.Z p = none := rel.free p ((e3 p).mpr (.inl (List.mem_singleton.mpr rfl)))
      have rp : Rp R (G.put p (.dK (ks.zip xs))) (.dic ks ds) (.ref p) := .dic (.inl put_at) hl (rs.mono (put_le hz))
      obtain ⟨as', rel', sub, ext, _⟩ := rel.letgo (r' := .d (.dic ks ds)) e e1 hp (fun {o' bs'} s z => by cases s; cases z; rfl) (.d rp)
      exact ⟨_, e1, h (.ref p) _ H as' [] rel' ext sub (.d rp) (by intro b hb; simp at hb) (by simp)⟩
/-- the slot's list or dict is only looked at -/
def mPk (i : Nat) : ME := fun w => match w.env[i]? with
  | some (.d x) => .ok (.d x) w
  | some (.own ds) => .ok (.own ds) w
  | some (.odic ks vs) => .ok (.odic ks vs) w
  | _ => .bad
theorem om_var (i : Nat) {x : Str} {pos : Pos} (hN : X.N[i]? = some x := by rfl) (hv : Vis X.env.scope x := by first | exact Or.inl rfl | exact Or.inr (Or.inl rfl) | exact Or.inr (Or.inr rfl)) (hd : (x == ("__debug__" : Str)) = false := by decide)
    (hcd : (x == ("__classdict__" : Str)) = false := by decide) : POm X R Wx (.Name x pos) (mPk i) := by
  refine ⟨fun H0 G0 => PE.cons (pe_var hN hv hd hcd) fun σ H Q ⟨G, w, as, rel, h⟩ => ?_⟩
  show ∃ v, σ[i]? = some (some v) ∧ Q v H
  unfold mPk at h
  cases e : w.env[i]? with
  | none => rw [e] at h; exact h.elim
  | some r =>
    rw [e] at h
    obtain ⟨o, bs, cs, e1, e2, e3, e4, e5⟩ := rel.env.at e
    have nos : ∀ p ∈ bs, p ∉ G.sas := fun p hp z => (List.nodup_append.mp rel.nd).2.2 p ((e3 p).mpr (.inl hp)) p z rfl
    cases e2 with
    | un => exact h.elim
    | fn _ _ _ => exact h.elim
    | xc _ _ => exact h.elim
    | @d x v rp => exact ⟨v, e1, h v G H as rel (.refl _ _ _) (fun _ h => h) (.rp rp)⟩
    | @own p ds xs hp rs => exact ⟨_, e1, h (.ref p) G H as rel (.refl _ _ _) (fun _ h => h) (.own hp (nos p (List.mem_singleton.mpr rfl)) rs)⟩
    | @odic p ks ds xs hp hl rs => exact ⟨_, e1, h (.ref p) G H as rel (.refl _ _ _) (fun _ h => h) (.odic hp (nos p (List.mem_singleton.mpr rfl)) hl rs)⟩
theorem em_c {e : Expr} {v : V} {x : D} (h : PE X e (tC v)) (r : ∀ G, Rp R G x v) : PEm X R Wx e (mC x) :=
  ⟨fun H0 G0 => PE.cons h fun σ H Q ⟨G, w, as, rel, h⟩ => (PostE.new rel h).sc rel.bas.sub (r G)⟩
theorem em_int {i : Int} {j} : PEm X R Wx (.Constant (.int i) j pos) (mC (.int i)) := em_c pe_int fun _ => .int
theorem em_bl {b : Bool} {j} : PEm X R Wx (.Constant (.bool b) j pos) (mC (.bl b)) := em_c pe_bl fun _ => .bl
theorem em_non {j} : PEm X R Wx (.Constant .none j pos) (mC .non) := em_c pe_non fun _ => .non
theorem em_str {x : Str} {j} : PEm X R Wx (.Constant (.str x) j pos) (mC (.str x)) := em_c pe_str fun _ => .str
/-- a constant of the module -/
theorem em_gint {x : Str} {i : Int} {t : Tok} (hg : Gl X x) (hm : X.mg x = some (.int i t)) (hd : (x == ("__debug__" : Str)) = false := by decide) : PEm X R Wx (.Name x pos) (mC (.int i)) := em_c (pe_glob hg hm (v := .int i) ⟨t, rfl⟩ hd) fun _ => .int
theorem em_gstr {x y : Str} {t : Tok} (hg : Gl X x) (hm : X.mg x = some (.str y t)) (hd : (x == ("__debug__" : Str)) = false := by decide) : PEm X R Wx (.Name x pos) (mC (.str y)) := em_c (pe_glob hg hm (v := .str y) ⟨t, rfl⟩ hd) fun _ => .str
end
end DB

set_option Elab.async false
set_option linter.all false
set_option maxRecDepth 100000
set_option maxHeartbeats 4000000
namespace DB
open PySem PySem.Spec PyProof.Rows L2

/-! equality -/
mutual
def toPy : D → PyData
  | .non => .none
  | .bl b => .bool b
  | .int i => .int i
  | .str x => .str x
  | .tup ds => .tuple (toPys ds)
  | .lst ds => .list (toPys ds)
  | .scr ds => .list (toPys ds)
  | _ => .dict []
def toPys : List D → List PyData
  | [] => []
  | d :: ds => toPy d :: toPys ds
end
mutual
def okD : D → Bool
  | .non => true
  | .bl _ => true
  | .int _ => true
  | .str _ => true
  | .tup ds => okDs ds
  | .lst ds => okDs ds
  | .scr ds => okDs ds
  | _ => false
def okDs : List D → Bool
  | [] => true
  | d :: ds => okD d && okDs ds
end
section
variable {R : RC} {G : Wd} {H : Hp}
mutual
theorem Rp.dp (s : Same G.Z H) : ∀ {d : D} {v : V}, Rp R G d v → okD d = true → Dp R.K H v (toPy d)
  | _, _, .non, _ => .non
  | _, _, .bl, _ => .bl _
  | _, _, .int, _ => .int _
  | _, _, .str, _ => .str _
  | .tup ds, _, .tup h r, o => .tup (Same.seqT s h) (Rps.dp s r (by simpa [okD] using o))
  | .lst ds, _, .lst h r, o => .lst (.inl (.inl (s _ _ h))) (Rps.dp s r (by simpa [okD] using o))
  | .scr ds, _, .scr h r, o => .lst (Same.seq s h) (Rps.dp s r (by simpa [okD] using o))
  | _, _, .dic h l r, o => by simp [okD] at o
  | _, _, .obj h z l r, o => by simp [okD] at o
  | _, _, .cell h, o => by simp [okD] at o
theorem Rps.dp (s : Same G.Z H) : ∀ {ds : List D} {vs : List V}, Rps R G ds vs → okDs ds = true → DpAll R.K H vs (toPys ds)
  | _, _, .nil, _ => .nil
  | d :: ds, _, .cons h r, o => by
    have o' : okD d = true ∧ okDs ds = true := by simpa [okDs] using o
    exact .cons (Rp.dp s h o'.1) (Rps.dp s r o'.2)
end
end
def okE (x : D) : Bool := okD x && SeqAt.shaped (toPy x)
def eqB (x y : D) : Bool := PyData.eqv (toPy x) (toPy y)
def bO (b : Bool) : Option RV := some (.d (.bl b))
def gEq (x y : D) : Option RV := match x, y with
  | .int i, .int j => bO (decide (i = j))
  | .str i, .str j => bO (decide (i = j))
  | x, y => if okE x && okE y then bO (eqB x y) else none
def gNe (x y : D) : Option RV := match x, y with
  | .int i, .int j => bO (!decide (i = j))
  | .str i, .str j => bO (!decide (i = j))
  | x, y => if okE x && okE y then bO (!eqB x y) else none

section
variable {R : RC} {H0 H H' H1 : Hp} {G0 G G' G1 : Wd} {w w' w1 : W} {σ : L2.St} {as as' as1 bs : List Addr} {Wx : WX} {X : Cx}
theorem dec_vi {i j : Int} : decide (V.int i = V.int j) = decide (i = j) := by simp
theorem dec_vs {i j : Str} : decide (V.str i = V.str j) = decide (i = j) := by simp

theorem Live.dp (s : Same G.Z H) {d : D} {v : V} (l : Live R G H d v) (o : okD d = true) : Dp R.K H v (toPy d) := by
  cases l with
  | rp r => exact r.dp s o
  | own h _ r => exact .lst (.inl (.inl h)) (r.dp s (by simpa [okD] using o))
  | odic h _ _ r => simp [okD] at o
theorem om_eq (ag : Ag X R) (hu : X.A.units + 64 < cLine) : OpM X R (compareOp .Eq) gEq := by
  refine ⟨_, op_eq.or (op_eqD hu), fun {G H x y vx vy rv Q} s rx ry e h => ?_⟩
  have deep : ∀ {x y : D}, Live R G H x vx → Live R G H y vy → (if okE x && okE y then bO (eqB x y) else none) = some rv → rEqD X.K vx vy H Q := fun {x y} rx ry e => by
    split at e
    · rename_i c
      obtain ⟨c1, c2⟩ := Bool.and_eq_true_iff.mp c
      obtain ⟨d1, d2⟩ := Bool.and_eq_true_iff.mp c1
      obtain ⟨d3, d4⟩ := Bool.and_eq_true_iff.mp c2
      cases e
      refine ⟨_, _, ?_, ?_, d2, d4, h.sc s .bl⟩
      · rw [ag.K]; exact rx.dp s d1
      · rw [ag.K]; exact ry.dp s d3
    · cases e
  unfold gEq at e
  split at e
  · cases rx.int; cases ry.int; cases e
    exact .inl ⟨rfl, by rw [dec_vi]; exact h.sc s .bl⟩
  · cases rx.str; cases ry.str; cases e
    exact .inl ⟨rfl, by rw [dec_vs]; exact h.sc s .bl⟩
  · exact .inr (deep rx ry e)
theorem om_ne (ag : Ag X R) (hu : X.A.units + 64 < cLine) : OpM X R (compareOp .NotEq) gNe := by
  refine ⟨_, op_ne.or (op_neD hu), fun {G H x y vx vy rv Q} s rx ry e h => ?_⟩
  have deep : ∀ {x y : D}, Live R G H x vx → Live R G H y vy → (if okE x && okE y then bO (!eqB x y) else none) = some rv → rNeD X.K vx vy H Q := fun {x y} rx ry e => by
    split at e
    · rename_i c
      obtain ⟨c1, c2⟩ := Bool.and_eq_true_iff.mp c
      obtain ⟨d1, d2⟩ := Bool.and_eq_true_iff.mp c1
      obtain ⟨d3, d4⟩ := Bool.and_eq_true_iff.mp c2
      cases e
      refine ⟨_, _, ?_, ?_, d2, d4, h.sc s .bl⟩
      · rw [ag.K]; exact rx.dp s d1
      · rw [ag.K]; exact ry.dp s d3
    · cases e
  unfold gNe at e
  split at e
  · cases rx.int; cases ry.int; cases e
    exact .inl ⟨rfl, by rw [dec_vi]; exact h.sc s .bl⟩
  · cases rx.str; cases ry.str; cases e
    exact .inl ⟨rfl, by rw [dec_vs]; exact h.sc s .bl⟩
  · exact .inr (deep rx ry e)

/-! arithmetic -/
def iO (i : Int) : Option RV := some (.d (.int i))
def gAdd (x y : D) : Option RV := match x, y with
  | .int i, .int j => iO (i + j)
  | .str i, .str j => if i.length + j.length ≤ sizeLine then some (.d (.str (i ++ j))) else none
  | .tup i, .tup j => if i.length + j.length ≤ sizeLine then some (.d (.tup (i ++ j))) else none
  | .lst i, .lst j => if i.length + j.length ≤ sizeLine then some (.own (i ++ j)) else none
  | _, _ => none
def gSub (x y : D) : Option RV := match x, y with
  | .int i, .int j => iO (i - j)
  | _, _ => none
instance (i j : Int) : Decidable (CMul i j) := inferInstanceAs (Decidable ((-(2 ^ 64) < i ∧ i < 2 ^ 64) ∨ (-(2 ^ 64) < j ∧ j < 2 ^ 64)))
instance (i j : Int) : Decidable (CDiv i j) := inferInstanceAs (Decidable (0 < j ∧ j < 1073741824))
instance (i j : Int) : Decidable (CPow i j) := inferInstanceAs (Decidable (0 ≤ j ∧ j ≤ 1000000 ∧ i.natAbs < 2 ^ 64))
def repD (k : Int) (ds : List D) : List D := (List.replicate k.toNat ds).flatten
def gMul (x y : D) : Option RV := match x, y with
  | .int i, .int j => if CMul i j then iO (i * j) else none
  | .lst i, .int k => if -(2 ^ 63) ≤ k ∧ k < 2 ^ 63 ∧ i.length * k.toNat ≤ sizeLine then some (.own (repD k i)) else none
  | _, _ => none
def gMod (x y : D) : Option RV := match x, y with
  | .int i, .int j => if 0 < j then iO (i % j) else none
  | _, _ => none
def gDiv (x y : D) : Option RV := match x, y with
  | .int i, .int j => if CDiv i j then iO (i / j) else none
  | _, _ => none
def gPow (x y : D) : Option RV := match x, y with
  | .int i, .int j => if CPow i j then iO (i ^ j.toNat) else none
  | _, _ => none
theorem iO_inv {i : Int} {rv : RV} (e : iO i = some rv) : rv = .d (.int i) := (Option.some.inj e).symm
theorem rep_flat {ds : List D} {xs : List V} (r : Rps R G ds xs) : ∀ n, Rps R G (List.replicate n ds).flatten (List.replicate n xs).flatten
  | 0 => .nil
  | n + 1 => by
    rw [List.replicate_succ, List.replicate_succ, List.flatten_cons, List.flatten_cons]
    exact r.append (rep_flat r n)
theorem om_add (ag : Ag X R) : OpM X R (binaryOp .Add) gAdd := by
  refine ⟨_, op_add.or (op_add_str.or (op_catA.or op_cat)), fun {G H x y vx vy rv Q} s rx ry e h => ?_⟩
  unfold gAdd at e
  split at e
  · cases rx.int; cases ry.int; cases e
    exact .inl ⟨_, _, rfl, rfl, h.sc s .int⟩
  · cases rx.str; cases ry.str
    split at e
    · rename_i c; cases e
      exact .inr (.inl ⟨_, _, rfl, rfl, c, h.sc s .str⟩)
    · cases e
  · obtain ⟨a, xs, rfl, hx, rx, px⟩ := rx.tup s
    obtain ⟨b, ys, rfl, hy, ry, py⟩ := ry.tup s
    split at e
    · rename_i c; cases e
      refine .inr (.inr (.inl ⟨_, _, xs, ys, rfl, rfl, by rw [ag.K]; exact hx, by rw [ag.K]; exact hy, by rw [← rx.length, ← ry.length]; exact c, fun z => ?_, fun _ z => ?_, fun _ _ => h.tup s (rx.append ry)⟩))
      · subst z
        cases rx
        exact h.sc s py
      · subst z
        cases ry
        rw [List.append_nil] at h
        exact h.sc s px
    · cases e
  · obtain ⟨a, xs, rfl, hx, rx⟩ := rx.lst s
    obtain ⟨b, ys, rfl, hy, ry⟩ := ry.lst s
    split at e
    · rename_i c; cases e
      exact .inr (.inr (.inr ⟨_, _, xs, ys, rfl, rfl, hx, hy, by rw [← rx.length, ← ry.length]; exact c, h.own s (rx.append ry)⟩))
    · cases e
  · cases e
theorem om_sub : OpM X R (binaryOp .Sub) gSub := by
  refine ⟨_, op_sub, fun {G H x y vx vy rv Q} s rx ry e h => ?_⟩
  unfold gSub at e
  split at e
  · cases rx.int; cases ry.int; cases e
    exact ⟨_, _, rfl, rfl, h.sc s .int⟩
  · cases e
theorem om_mul : OpM X R (binaryOp .Mult) gMul := by
  refine ⟨_, op_mul.or op_rep, fun {G H x y vx vy rv Q} s rx ry e h => ?_⟩
  unfold gMul at e
  split at e
  · cases rx.int; cases ry.int
    split at e
    · rename_i c; cases e
      exact .inl ⟨_, _, rfl, rfl, c, h.sc s .int⟩
    · cases e
  · obtain ⟨a, xs, rfl, hx, rx⟩ := rx.lst s
    cases ry.int
    split at e
    · rename_i c; cases e
      exact .inr ⟨_, _, xs, rfl, rfl, hx, c.1, c.2.1, by rw [← rx.length]; exact c.2.2, h.own s (rep_flat rx _)⟩
    · cases e
  · cases e
theorem om_mod : OpM X R (binaryOp .Mod) gMod := by
  refine ⟨_, op_mod, fun {G H x y vx vy rv Q} s rx ry e h => ?_⟩
  unfold gMod at e
  split at e
  · cases rx.int; cases ry.int
    split at e
    · rename_i c; cases e
      exact ⟨_, _, rfl, rfl, c, h.sc s .int⟩
    · cases e
  · cases e
theorem om_div : OpM X R (binaryOp .FloorDiv) gDiv := by
  refine ⟨_, op_fdiv, fun {G H x y vx vy rv Q} s rx ry e h => ?_⟩
  unfold gDiv at e
  split at e
  · cases rx.int; cases ry.int
    split at e
    · rename_i c; cases e
      exact ⟨_, _, rfl, rfl, c, h.sc s .int⟩
    · cases e
  · cases e
theorem om_pow : OpM X R (binaryOp .Pow) gPow := by
  refine ⟨_, op_pow, fun {G H x y vx vy rv Q} s rx ry e h => ?_⟩
  unfold gPow at e
  split at e
  · cases rx.int; cases ry.int
    split at e
    · rename_i c; cases e
      exact ⟨_, _, rfl, rfl, c, h.sc s .int⟩
    · cases e
  · cases e

/-! comparisons -/
def gCmpI (p : Int → Int → Bool) (x y : D) : Option RV := match x, y with
  | .int i, .int j => bO (p i j)
  | _, _ => none
theorem om_cmpI {op : CmpOp} {p : Int → Int → Bool} (ho : OpR X (compareOp op) (rI0 fun i j => .bl (p i j))) : OpM X R (compareOp op) (gCmpI p) := by
  refine ⟨_, ho, fun {G H x y vx vy rv Q} s rx ry e h => ?_⟩
  unfold gCmpI at e
  split at e
  · cases rx.int; cases ry.int; cases e
    exact ⟨_, _, rfl, rfl, h.sc s .bl⟩
  · cases e
abbrev gLt := gCmpI fun i j => decide (i < j)
abbrev gLe := gCmpI fun i j => decide (i ≤ j)
abbrev gGt := gCmpI fun i j => decide (j < i)
abbrev gGe := gCmpI fun i j => decide (j ≤ i)
theorem om_lt : OpM X R (compareOp .Lt) gLt := om_cmpI op_lt
theorem om_le : OpM X R (compareOp .LtE) gLe := om_cmpI op_le
theorem om_gt : OpM X R (compareOp .Gt) gGt := om_cmpI op_gt
theorem om_ge : OpM X R (compareOp .GtE) gGe := om_cmpI op_ge
def isNon : D → Bool
  | .non => true
  | _ => false
def gIs (x y : D) : Option RV := match y with
  | .non => bO (isNon x)
  | _ => none
def gIsNot (x y : D) : Option RV := match y with
  | .non => bO (!isNon x)
  | _ => none
theorem isNon_rp {x : D} {v : V} (r : Live R G H x v) : decide (v = .non) = isNon x := by
  cases r with
  | rp r => cases r <;> simp [isNon]
  | own _ _ _ => simp [isNon]
  | odic _ _ _ _ => simp [isNon]
theorem om_is : OpM X R (compareOp .Is) gIs := by
  refine ⟨_, op_isN, fun {G H x y vx vy rv Q} s rx ry e h => ?_⟩
  unfold gIs at e
  split at e
  · cases ry.non; cases e
    exact ⟨rfl, by rw [isNon_rp rx]; exact h.sc s .bl⟩
  · cases e
theorem om_isNot : OpM X R (compareOp .IsNot) gIsNot := by
  refine ⟨_, op_notN, fun {G H x y vx vy rv Q} s rx ry e h => ?_⟩
  unfold gIsNot at e
  split at e
  · cases ry.non; cases e
    exact ⟨rfl, by rw [isNon_rp rx]; exact h.sc s .bl⟩
  · cases e
end
end DB

set_option Elab.async false
set_option linter.all false
set_option maxRecDepth 100000
set_option maxHeartbeats 4000000
namespace DB
open PySem PySem.Spec PyProof.Rows L2
section
variable {R : RC} {H0 H H' H1 : Hp} {G0 G G' G1 : Wd} {w w' w1 : W} {σ : L2.St} {as as' as1 bs : List Addr} {Wx : WX} {X : Cx}
  {a b c e : Expr} {ma mb mc m : ME} {pos : Pos}

/-! comparisons, tests -/
theorem em_cmp {op : CmpOp} {g : D → D → Option RV} (o : OpM X R (compareOp op) g) (ha : POm X R Wx a ma) (hb : POm X R Wx b mb) (hm : behindInMarks op b = false) : PEm X R Wx (.Compare a [op] [b] pos) (mBin g ma mb) := by
  obtain ⟨r, ho, hv⟩ := o.ex
  exact ⟨fun H0 G0 => PE.cons (pe_cmpR ho (ha.pe H0 G0) (hb.pe H0 G0) hm) fun σ H Q h => run2 hv h⟩
def PostT (R : RC) (H0 : Hp) (G0 : Wd) (Wx : WX) (σ : L2.St) (G : Wd) (H : Hp) (as : List Addr) (r : Res) (Q : Bool → Hp → Prop) : Prop :=
  match r with
  | .ok (.d (.bl b)) w' => ∀ G' H' as', Rel R H0 G0 G' w' σ H' as' → Ext as G H G' H' → (∀ a ∈ as', a ∈ as) → Q b H'
  | .ex x w' => ∀ cls d G' H' as', Rel R H0 G0 G' w' σ H' as' → ExcR R G' H' x cls d → Wx cls d σ H'
  | _ => False
def liftT (R : RC) (Wx : WX) (H0 : Hp) (G0 : Wd) (m : ME) : TT := fun σ H Q => ∃ G w as, Rel R H0 G0 G w σ H as ∧ PostT R H0 G0 Wx σ G H as (m w) Q
structure PTm (X : Cx) (R : RC) (Wx : WX) (e : Expr) (m : ME) : Prop where
  pe : ∀ H0 G0, PT X e (liftT R Wx H0 G0 m)
structure PWm (X : Cx) (R : RC) (Wx : WX) (e : Expr) (m : ME) : Prop where
  pe : ∀ H0 G0, PW X e (liftT R Wx H0 G0 m)
theorem PostT.toE {r : Res} {Q : Bool → Hp → Prop} (h : PostT R H0 G0 Wx σ G H as r Q) : PostE R H0 G0 Wx σ G H as r (fun x H' => ∃ k, x = .bl k ∧ Q k H') := by
  cases r with
  | bad => exact h
  | ex x w' => exact h
  | ok rv w' =>
    cases rv with
    | d x =>
      cases x with
      | bl b =>
        intro v G' H' as' bs rel ext sub sl _ _
        cases sl with
        | d r => cases r; exact ⟨b, rfl, h G' H' as' rel ext sub⟩
      | _ => exact h.elim
    | _ => exact h.elim
theorem lift_te {Q : Bool → Hp → Prop} (h : liftT R Wx H0 G0 m σ H Q) : liftE R Wx H0 G0 m σ H (fun x H' => ∃ k, x = .bl k ∧ Q k H') := by
  obtain ⟨G, w, as, rel, h⟩ := h
  exact ⟨G, w, as, rel, PostT.toE h⟩
theorem tm_val (h : PEm X R Wx e m) (he : ∀ whole, isTrue e X.env whole = (do let v ← whole; standAt e.pos; holding [v] (truthy v)) := by intro _; rfl) : PTm X R Wx e m :=
  ⟨fun H0 G0 => PT.cons (pt_val (h.pe H0 G0) he) fun σ H Q h => lift_te h⟩
theorem tm_cmp {op : CmpOp} {g : D → D → Option RV} (o : OpM X R (compareOp op) g) (ha : POm X R Wx a ma) (hb : POm X R Wx b mb) (hm : behindInMarks op b = false) : PTm X R Wx (.Compare a [op] [b] pos) (mBin g ma mb) := by
  obtain ⟨r, ho, hv⟩ := o.ex
  exact ⟨fun H0 G0 => PT.cons (pt_cmpR ho (ha.pe H0 G0) (hb.pe H0 G0) hm) fun σ H Q h => run2 hv (lift_te h)⟩

/-- a op1 b op2 c -/
def mChain (g g' : D → D → Option RV) (m1 m2 m3 : ME) : ME := fun w => (m1 w).bd fun x w1 => (m2 w1).bd fun y w2 => match g x y with
  | some (.d (.bl true)) => (m3 w2).bd fun z w3 => ofO (g' y z) w3
  | some (.d (.bl false)) => .ok (.d (.bl false)) w2
  | _ => .bad
theorem NewP.any {rv : RV} {Q : VK} (s : Same G.Z H) (k : ∀ v G' H' bs, PExt G H G' H' → RSlot R G' H' rv (some v) bs → Q v H') : NewP R G H rv Q := fun v G' H' bs p sl _ => k v G' H' bs p sl
theorem run3 {r r' : R2} {g g' : D → D → Option RV} (hv : V2 R r g) (hv' : V2 R r' g') {Q : VK} (h : liftE R Wx H0 G0 (mChain g g' ma mb mc) σ H Q) : tChain r r' (liftO R Wx H0 G0 ma) (liftO R Wx H0 G0 mb) (liftO R Wx H0 G0 mc) σ H Q := by
  obtain ⟨G, w, as, rel, h⟩ := h
  refine lift_bo rel h fun v x G1 H1 as1 w1 rel1 le1 lv1 h1 => ?_
  refine lift_bo rel1 h1 fun u y G2 H2 as2 w2 rel2 le2 lv2 h2 => ?_
  cases e : g x y with
  | none => rw [e] at h2; exact h2.elim
  | some rv =>
    rw [e] at h2
    refine hv rel2.bas.sub (lv1.ext le2) lv2 e (NewP.any rel2.bas.sub fun vz G3 H3 bs p sl => ?_)
    have rel3 := rel2.pext p
    have ex3 := p.ext as2
    cases rv with
    | d z =>
      cases z with
      | bl k =>
        cases sl with
        | d r => 
          cases r
          refine ⟨k, rfl, ?_⟩
          cases k with
          | true =>
            refine iteT ?_
            have h3 := PostE.shift h2 ex3 (fun _ h => h)
            refine lift_bo rel3 h3 fun t z G4 H4 as4 w4 rel4 le4 lv4 h4 => ?_
            obtain ⟨rv, e', h5⟩ := h4.ofO
            exact hv' rel4.bas.sub ((lv2.ext ex3).ext le4) lv4 e' (h5.new rel4)
          | false =>
            refine iteF ?_
            exact h2 (.bl false) G3 H3 as2 [] rel3 ex3 (fun _ h => h) (.d .bl) (by intro b hb; simp at hb) (by simp)
      | _ => exact h2.elim
    | _ => exact h2.elim
theorem em_chain {op op' : CmpOp} {g g' : D → D → Option RV} (o : OpM X R (compareOp op) g) (o' : OpM X R (compareOp op') g') (ha : POm X R Wx a ma) (hb : POm X R Wx b mb) (hc : POm X R Wx c mc)
    (hm : lastMarks [op, op'] [b, c] = false := by with_unfolding_all rfl) : PEm X R Wx (.Compare a [op, op'] [b, c] pos) (mChain g g' ma mb mc) := by
  obtain ⟨r, ho, hv⟩ := o.ex
  obtain ⟨r', ho', hv'⟩ := o'.ex
  exact ⟨fun H0 G0 => PE.cons (pe_chain ho ho' (ha.pe H0 G0) (hb.pe H0 G0) (hc.pe H0 G0) hm) fun σ H Q h => run3 hv hv' h⟩
theorem tm_chain {op op' : CmpOp} {g g' : D → D → Option RV} (o : OpM X R (compareOp op) g) (o' : OpM X R (compareOp op') g') (ha : POm X R Wx a ma) (hb : POm X R Wx b mb) (hc : POm X R Wx c mc)
    (hm : lastMarks [op, op'] [b, c] = false := by with_unfolding_all rfl) : PTm X R Wx (.Compare a [op, op'] [b, c] pos) (mChain g g' ma mb mc) := by
  obtain ⟨r, ho, hv⟩ := o.ex
  obtain ⟨r', ho', hv'⟩ := o'.ex
  exact ⟨fun H0 G0 => PT.cons (pt_chain ho ho' (ha.pe H0 G0) (hb.pe H0 G0) (hc.pe H0 G0) hm) fun σ H Q h => run3 hv hv' (lift_te h)⟩

/-! and, or, not, if else -/
def Res.bb (r : Res) (t f : W → Res) : Res := match r with
  | .ok (.d (.bl true)) w => t w
  | .ok (.d (.bl false)) w => f w
  | .ok _ _ => .bad
  | .ex x w => .ex x w
  | .bad => .bad
def mF : W → Res := fun w => .ok (.d (.bl false)) w
def mT : W → Res := fun w => .ok (.d (.bl true)) w
def mAnd (m1 m2 : ME) : ME := fun w => (m1 w).bb m2 mF
def mOr (m1 m2 : ME) : ME := fun w => (m1 w).bb mT m2
def mNot (m : ME) : ME := fun w => (m w).bb mF mT
def mIfE (c a b : ME) : ME := fun w => (c w).bb a b
theorem PostT.shift {r : Res} {Q : Bool → Hp → Prop} (h : PostT R H0 G0 Wx σ G H as r Q) (x : Ext as G H G1 H1) (s : ∀ a ∈ as1, a ∈ as) : PostT R H0 G0 Wx σ G1 H1 as1 r Q := by
  cases r with
  | ok rv w' =>
    cases rv with
    | d y =>
      cases y with
      | bl b => exact fun G' H' as' rel ext sub => h G' H' as' rel (x.trans (fun a ha => .inl (s a ha)) ext) fun a ha => s a (sub a ha)
      | _ => exact h.elim
    | _ => exact h.elim
  | ex x w' => exact h
  | bad => exact h
/-- a test, then one way or the other -/
theorem lift_bb {t f : W → Res} {Q : VK} {Qb : Bool → Hp → Prop} (rel : Rel R H0 G0 G w σ H as) (h : PostE R H0 G0 Wx σ G H as ((m w).bb t f) Q)
    (c : ∀ b G1 H1 as1 w1, Rel R H0 G0 G1 w1 σ H1 as1 → Ext as G H G1 H1 → PostE R H0 G0 Wx σ G1 H1 as1 (if b = true then t w1 else f w1) Q → Qb b H1) : liftT R Wx H0 G0 m σ H Qb := by
  refine ⟨G, w, as, rel, ?_⟩
  cases e : m w with
  | bad => rw [e] at h; exact h
  | ex x w1 => rw [e] at h; exact h
  | ok rv w1 =>
    rw [e] at h
    cases rv with
    | d y =>
      cases y with
      | bl b =>
        intro G' H' as' rel' ext sub
        refine c b G' H' as' w1 rel' ext (PostE.shift ?_ ext sub)
        cases b with
        | true => exact h
        | false => exact h
      | _ => exact h.elim
    | _ => exact h.elim
theorem lift_bbT {t f : W → Res} {Q : Bool → Hp → Prop} {Qb : Bool → Hp → Prop} (rel : Rel R H0 G0 G w σ H as) (h : PostT R H0 G0 Wx σ G H as ((m w).bb t f) Q)
    (c : ∀ b G1 H1 as1 w1, Rel R H0 G0 G1 w1 σ H1 as1 → Ext as G H G1 H1 → PostT R H0 G0 Wx σ G1 H1 as1 (if b = true then t w1 else f w1) Q → Qb b H1) : liftT R Wx H0 G0 m σ H Qb := by
  refine ⟨G, w, as, rel, ?_⟩
  cases e : m w with
  | bad => rw [e] at h; exact h
  | ex x w1 => rw [e] at h; exact h
  | ok rv w1 =>
    rw [e] at h
    cases rv with
    | d y =>
      cases y with
      | bl b =>
        intro G' H' as' rel' ext sub
        refine c b G' H' as' w1 rel' ext (PostT.shift ?_ ext sub)
        cases b with
        | true => exact h
        | false => exact h
      | _ => exact h.elim
    | _ => exact h.elim
theorem PostE.bl {k : Bool} {Q : VK} (rel : Rel R H0 G0 G w σ H as) (h : PostE R H0 G0 Wx σ G H as (.ok (.d (.bl k)) w) Q) : Q (.bl k) H := (h.new rel).sc rel.bas.sub .bl
theorem PostT.bl {k : Bool} {Q : Bool → Hp → Prop} (rel : Rel R H0 G0 G w σ H as) (h : PostT R H0 G0 Wx σ G H as (.ok (.d (.bl k)) w) Q) : Q k H := h G H as rel (.refl _ _ _) fun _ h => h
variable {rest : List Expr}
theorem em_one {op} (h : PEm X R Wx a m) : PEm X R Wx (.BoolOp op [a] pos) m := ⟨fun H0 G0 => pe_one (h.pe H0 G0)⟩
theorem em_and (ha : PEm X R Wx a ma) (hb : PEm X R Wx (.BoolOp .And (b :: rest) pos) mb) : PEm X R Wx (.BoolOp .And (a :: b :: rest) pos) (mAnd ma mb) :=
  ⟨fun H0 G0 => PE.cons (pe_and (ha.pe H0 G0) (hb.pe H0 G0)) fun σ H Q ⟨G, w, as, rel, h⟩ => by
    refine lift_te (Q := fun c H1 => if c = true then liftE R Wx H0 G0 mb σ H1 Q else Q (.bl false) H1) (lift_bb rel h fun k G1 H1 as1 w1 rel1 x h1 => ?_)
    cases k with
    | true => exact iteT ⟨G1, w1, as1, rel1, h1⟩
    | false => exact iteF (PostE.bl rel1 h1)⟩
theorem em_or (ha : PEm X R Wx a ma) (hb : PEm X R Wx (.BoolOp .Or (b :: rest) pos) mb) : PEm X R Wx (.BoolOp .Or (a :: b :: rest) pos) (mOr ma mb) :=
  ⟨fun H0 G0 => PE.cons (pe_or (ha.pe H0 G0) (hb.pe H0 G0)) fun σ H Q ⟨G, w, as, rel, h⟩ => by
    refine lift_te (Q := fun c H1 => if c = true then Q (.bl true) H1 else liftE R Wx H0 G0 mb σ H1 Q) (lift_bb rel h fun k G1 H1 as1 w1 rel1 x h1 => ?_)
    cases k with
    | true => exact iteT (PostE.bl rel1 h1)
    | false => exact iteF ⟨G1, w1, as1, rel1, h1⟩⟩
theorem em_not (ha : PEm X R Wx a ma) : PEm X R Wx (.UnaryOp .Not a pos) (mNot ma) :=
  ⟨fun H0 G0 => PE.cons (pe_not (ha.pe H0 G0)) fun σ H Q ⟨G, w, as, rel, h⟩ => by
    refine lift_te (Q := fun c H1 => Q (.bl (!c)) H1) (lift_bb rel h fun k G1 H1 as1 w1 rel1 x h1 => ?_)
    cases k with
    | true => exact PostE.bl rel1 h1
    | false => exact PostE.bl rel1 h1⟩
theorem wm_and1 (ha : PTm X R Wx a ma) : PWm X R Wx (.BoolOp .And [a] pos) ma := ⟨fun H0 G0 => pw_and1 (ha.pe H0 G0)⟩
theorem wm_or1 (ha : PTm X R Wx a ma) : PWm X R Wx (.BoolOp .Or [a] pos) ma := ⟨fun H0 G0 => pw_or1 (ha.pe H0 G0)⟩
theorem PW.cons {X : Cx} {e : Expr} {t t' : TT} (h : PW X e t) (c : ∀ σ H Q, t' σ H Q → t σ H Q) : PW X e t' := ⟨fun wh pins s σ H Q I q => h.run wh pins s σ H Q I (c σ H Q q)⟩
theorem wm_and (ha : PTm X R Wx a ma) (hb : PWm X R Wx (.BoolOp .And (b :: rest) pos) mb) : PWm X R Wx (.BoolOp .And (a :: b :: rest) pos) (mAnd ma mb) :=
  ⟨fun H0 G0 => PW.cons (pw_and (ha.pe H0 G0) (hb.pe H0 G0)) fun σ H Q ⟨G, w, as, rel, h⟩ => by
    refine lift_bbT rel h fun k G1 H1 as1 w1 rel1 x h1 => ?_
    cases k with
    | true => exact iteT ⟨G1, w1, as1, rel1, h1⟩
    | false => exact iteF (PostT.bl rel1 h1)⟩
theorem wm_or (ha : PTm X R Wx a ma) (hb : PWm X R Wx (.BoolOp .Or (b :: rest) pos) mb) : PWm X R Wx (.BoolOp .Or (a :: b :: rest) pos) (mOr ma mb) :=
  ⟨fun H0 G0 => PW.cons (pw_or (ha.pe H0 G0) (hb.pe H0 G0)) fun σ H Q ⟨G, w, as, rel, h⟩ => by
    refine lift_bbT rel h fun k G1 H1 as1 w1 rel1 x h1 => ?_
    cases k with
    | true => exact iteT (PostT.bl rel1 h1)
    | false => exact iteF ⟨G1, w1, as1, rel1, h1⟩⟩
theorem tm_w (h : PWm X R Wx e m) : PTm X R Wx e m := ⟨fun H0 G0 => (h.pe H0 G0).pt⟩
theorem tm_not (ha : PTm X R Wx a ma) : PTm X R Wx (.UnaryOp .Not a pos) (mNot ma) :=
  ⟨fun H0 G0 => PT.cons (pt_not (ha.pe H0 G0)) fun σ H Q ⟨G, w, as, rel, h⟩ => by
    refine lift_bbT rel h fun k G1 H1 as1 w1 rel1 x h1 => ?_
    cases k with
    | true => exact PostT.bl rel1 h1
    | false => exact PostT.bl rel1 h1⟩
theorem em_if (hc : PTm X R Wx c mc) (ha : PEm X R Wx a ma) (hb : PEm X R Wx b mb) : PEm X R Wx (.IfExp c a b pos) (mIfE mc ma mb) :=
  ⟨fun H0 G0 => PE.cons (pe_ifExp (hc.pe H0 G0) (ha.pe H0 G0) (hb.pe H0 G0)) fun σ H Q ⟨G, w, as, rel, h⟩ => by
    refine lift_bb rel h fun k G1 H1 as1 w1 rel1 x h1 => ?_
    cases k with
    | true => exact iteT ⟨G1, w1, as1, rel1, h1⟩
    | false => exact iteF ⟨G1, w1, as1, rel1, h1⟩⟩
end
end DB

set_option Elab.async false
set_option linter.all false
set_option maxRecDepth 100000
set_option maxHeartbeats 4000000
namespace DB
open PySem PySem.Spec PyProof.Rows L2
section
variable {R : RC} {H0 H H' H1 : Hp} {G0 G G' G1 : Wd} {w w' w1 : W} {σ : L2.St} {as as' as1 bs : List Addr} {Wx : WX} {X : Cx}
  {a b c e : Expr} {ma mb mc m : ME} {pos : Pos} {es : List Expr}

/-! argument lists: of data, of what may be read -/
inductive RL where
  | ok (ds : List D) (w : W) | ex (x : Exc) (w : W) | bad
abbrev MA := W → RL
def RL.bd (r : RL) (k : List D → W → Res) : Res := match r with
  | .ok ds w => k ds w
  | .ex x w => .ex x w
  | .bad => .bad
def Res.bl (r : Res) (k : D → W → RL) : RL := match r with
  | .ok v w => match v.frz with
    | some x => k x w
    | none => .bad
  | .ex x w => .ex x w
  | .bad => .bad
def RL.cons (x : D) (r : RL) : RL := match r with
  | .ok ds w => .ok (x :: ds) w
  | r => r
def mNil : MA := fun w => .ok [] w
def mCons (m : ME) (r : MA) : MA := fun w => (m w).bl fun x w1 => (r w1).cons x
def PostA (R : RC) (H0 : Hp) (G0 : Wd) (Wx : WX) (σ : L2.St) (G : Wd) (H : Hp) (as : List Addr) (r : RL) (Q : List V → Hp → Prop) : Prop :=
  match r with
  | .ok ds w' => ∀ vs G' H' as', Rel R H0 G0 G' w' σ H' as' → Ext as G H G' H' → (∀ a ∈ as', a ∈ as) → Rps R G' ds vs → Q vs H'
  | .ex x w' => ∀ cls d G' H' as', Rel R H0 G0 G' w' σ H' as' → ExcR R G' H' x cls d → Wx cls d σ H'
  | .bad => False
def PostB (R : RC) (H0 : Hp) (G0 : Wd) (Wx : WX) (σ : L2.St) (G : Wd) (H : Hp) (as : List Addr) (r : RL) (Q : List V → Hp → Prop) : Prop :=
  match r with
  | .ok ds w' => ∀ vs G' H' as', Rel R H0 G0 G' w' σ H' as' → Ext as G H G' H' → (∀ a ∈ as', a ∈ as) → Lives R G' H' ds vs → Q vs H'
  | .ex x w' => ∀ cls d G' H' as', Rel R H0 G0 G' w' σ H' as' → ExcR R G' H' x cls d → Wx cls d σ H'
  | .bad => False
def liftA (R : RC) (Wx : WX) (H0 : Hp) (G0 : Wd) (m : MA) : TA := fun σ H Q => ∃ G w as, Rel R H0 G0 G w σ H as ∧ PostA R H0 G0 Wx σ G H as (m w) Q
def liftB (R : RC) (Wx : WX) (H0 : Hp) (G0 : Wd) (m : MA) : TA := fun σ H Q => ∃ G w as, Rel R H0 G0 G w σ H as ∧ PostB R H0 G0 Wx σ G H as (m w) Q
/-- written items as data -/
structure PAm (X : Cx) (R : RC) (Wx : WX) (es : List Expr) (m : MA) : Prop where
  pe : ∀ H0 G0, PA X es (liftA R Wx H0 G0 m)
/-- written items as operands -/
structure PLm (X : Cx) (R : RC) (Wx : WX) (es : List Expr) (m : MA) : Prop where
  pe : ∀ H0 G0, PA X es (liftB R Wx H0 G0 m)
theorem PostA.shift {r : RL} {Q : List V → Hp → Prop} (h : PostA R H0 G0 Wx σ G H as r Q) (x : Ext as G H G1 H1) (s : ∀ a ∈ as1, a ∈ as) : PostA R H0 G0 Wx σ G1 H1 as1 r Q := by
  cases r with
  | ok rv w' => exact fun vs G' H' as' rel ext sub => h vs G' H' as' rel (x.trans (fun a ha => .inl (s a ha)) ext) fun a ha => s a (sub a ha)
  | ex x w' => exact h
  | bad => exact h
theorem PostB.shift {r : RL} {Q : List V → Hp → Prop} (h : PostB R H0 G0 Wx σ G H as r Q) (x : Ext as G H G1 H1) (s : ∀ a ∈ as1, a ∈ as) : PostB R H0 G0 Wx σ G1 H1 as1 r Q := by
  cases r with
  | ok rv w' => exact fun vs G' H' as' rel ext sub => h vs G' H' as' rel (x.trans (fun a ha => .inl (s a ha)) ext) fun a ha => s a (sub a ha)
  | ex x w' => exact h
  | bad => exact h
/-- general: a value as data, then whatever -/
theorem lift_bdG {m1 : ME} {Q1 : VK} {P : Res → Prop} (rel : Rel R H0 G0 G w σ H as)
    (hx : ∀ x w1, m1 w = .ex x w1 → ∀ cls d G' H' as', Rel R H0 G0 G' w1 σ H' as' → ExcR R G' H' x cls d → Wx cls d σ H')
    (hb : m1 w ≠ .bad) (hn : ∀ rv w1, m1 w = .ok rv w1 → rv.frz ≠ none)
    (c : ∀ rv w1, m1 w = .ok rv w1 → ∀ v x G1 H1 as1, rv.frz = some x → Rel R H0 G0 G1 w1 σ H1 as1 → Ext as G H G1 H1 → (∀ a ∈ as1, a ∈ as) → Rp R G1 x v → Q1 v H1) : liftE R Wx H0 G0 m1 σ H Q1 := by
  refine ⟨G, w, as, rel, ?_⟩
  cases e : m1 w with
  | bad => exact hb e
  | ex x w1 => exact hx x w1 e
  | ok rv w1 =>
    intro v G' H' as' bs rel' ext sub sl lo fr
    cases ef : rv.frz with
    | none => exact (hn rv w1 e ef).elim
    | some x =>
      obtain ⟨G2, rel2, ext2, rp⟩ := frz_tmp rel' sl lo ef
      exact c rv w1 e v x G2 H' as' ef rel2 (ext.trans fr ext2) sub rp
theorem am_nil : PAm X R Wx [] mNil := ⟨fun H0 G0 => PA.cons pa_nil fun σ H Q ⟨G, w, as, rel, h⟩ => h [] G H as rel (.refl _ _ _) (fun _ h => h) .nil⟩
theorem bm_nil : PLm X R Wx [] mNil := ⟨fun H0 G0 => PA.cons pa_nil fun σ H Q ⟨G, w, as, rel, h⟩ => h [] G H as rel (.refl _ _ _) (fun _ h => h) .nil⟩
theorem am_cons {r : MA} (ha : PEm X R Wx a m) (hr : PAm X R Wx es r) (hs : starEach (a :: es) X.env = (false, eval a X.env) :: starEach es X.env := by rfl) : PAm X R Wx (a :: es) (mCons m r) :=
  ⟨fun H0 G0 => PA.cons (pa_cons (ha.pe H0 G0) (hr.pe H0 G0) hs) fun σ H Q ⟨G, w, as, rel, h⟩ => by
    have h' : PostA R H0 G0 Wx σ G H as ((m w).bl fun x w1 => (r w1).cons x) Q := h
    refine lift_bdG (P := fun _ => True) rel (fun x w1 e => ?_) (fun e => ?_) (fun rv w1 e ef => ?_) (fun rv w1 e v x G1 H1 as1 ef rel1 ext sub rp => ?_)
    · rw [e] at h'; exact h'
    · rw [e] at h'; exact h'
    · rw [e] at h'
      have : (Res.ok rv w1).bl (fun x w1 => (r w1).cons x) = .bad := by unfold Res.bl; simp only [ef]
      rw [this] at h'; exact h'
    · rw [e] at h'
      have : (Res.ok rv w1).bl (fun x w1 => (r w1).cons x) = (r w1).cons x := by unfold Res.bl; simp only [ef]
      rw [this] at h'
      have h2 := PostA.shift h' ext sub
      refine ⟨G1, w1, as1, rel1, ?_⟩
      cases er : r w1 with
      | bad => rw [er] at h2; exact h2
      | ex x w2 => rw [er] at h2; exact h2
      | ok ds w2 =>
        rw [er] at h2
        exact fun vs G' H' as' rel' ext' sub' rs => h2 (v :: vs) G' H' as' rel' ext' sub' (.cons (rp.mono ext'.le) rs)⟩
theorem bm_cons {r : MA} (ha : POm X R Wx a m) (hr : PLm X R Wx es r) (hs : starEach (a :: es) X.env = (false, eval a X.env) :: starEach es X.env := by rfl) : PLm X R Wx (a :: es) (mCons m r) :=
  ⟨fun H0 G0 => PA.cons (pa_cons (ha.pe H0 G0) (hr.pe H0 G0) hs) fun σ H Q ⟨G, w, as, rel, h⟩ => by
    have h' : PostB R H0 G0 Wx σ G H as ((m w).bl fun x w1 => (r w1).cons x) Q := h
    refine ⟨G, w, as, rel, ?_⟩
    cases e : m w with
    | bad => rw [e] at h'; exact h'
    | ex x w1 => rw [e] at h'; exact h'
    | ok rv w1 =>
      rw [e] at h'
      show match rv.frz with | some x => _ | none => False
      cases ef : rv.frz with
      | none =>
        have : (Res.ok rv w1).bl (fun x w1 => (r w1).cons x) = .bad := by unfold Res.bl; simp only [ef]
        rw [this] at h'; exact h'
      | some x =>
        have : (Res.ok rv w1).bl (fun x w1 => (r w1).cons x) = (r w1).cons x := by unfold Res.bl; simp only [ef]
        rw [this] at h'
        intro v G1 H1 as1 rel1 ext sub lv
        have h2 := PostB.shift h' ext sub
        refine ⟨G1, w1, as1, rel1, ?_⟩
        cases er : r w1 with
        | bad => rw [er] at h2; exact h2
        | ex x w2 => rw [er] at h2; exact h2
        | ok ds w2 =>
          rw [er] at h2
          exact fun vs G' H' as' rel' ext' sub' rs => h2 (v :: vs) G' H' as' rel' ext' sub' (.cons (lv.ext ext') rs)⟩
/-- an argument list's end -/
theorem lift_ab {r : MA} {k : List D → W → Res} {Q : VK} {Q1 : List V → Hp → Prop} (rel : Rel R H0 G0 G w σ H as) (h : PostE R H0 G0 Wx σ G H as ((r w).bd k) Q)
    (c : ∀ vs ds G1 H1 as1 w1, Rel R H0 G0 G1 w1 σ H1 as1 → Ext as G H G1 H1 → Rps R G1 ds vs → PostE R H0 G0 Wx σ G1 H1 as1 (k ds w1) Q → Q1 vs H1) : liftA R Wx H0 G0 r σ H Q1 := by
  refine ⟨G, w, as, rel, ?_⟩
  cases e : r w with
  | bad => rw [e] at h; exact h
  | ex x w1 => rw [e] at h; exact h
  | ok ds w1 =>
    rw [e] at h
    exact fun vs G' H' as' rel' ext sub rs => c vs ds G' H' as' w1 rel' ext rs (PostE.shift h ext sub)
theorem lift_bb2 {r : MA} {k : List D → W → Res} {Q : VK} {Q1 : List V → Hp → Prop} (rel : Rel R H0 G0 G w σ H as) (h : PostE R H0 G0 Wx σ G H as ((r w).bd k) Q)
    (c : ∀ vs ds G1 H1 as1 w1, Rel R H0 G0 G1 w1 σ H1 as1 → Ext as G H G1 H1 → Lives R G1 H1 ds vs → PostE R H0 G0 Wx σ G1 H1 as1 (k ds w1) Q → Q1 vs H1) : liftB R Wx H0 G0 r σ H Q1 := by
  refine ⟨G, w, as, rel, ?_⟩
  cases e : r w with
  | bad => rw [e] at h; exact h
  | ex x w1 => rw [e] at h; exact h
  | ok ds w1 =>
    rw [e] at h
    exact fun vs G' H' as' rel' ext sub rs => c vs ds G' H' as' w1 rel' ext rs (PostE.shift h ext sub)

/-! displays -/
def mTup (r : MA) : ME := fun w => (r w).bd fun ds w => if ds.length ≤ sizeLine then .ok (.d (.tup ds)) w else .bad
def mLst (r : MA) : ME := fun w => (r w).bd fun ds w => if ds.length ≤ sizeLine then .ok (.own ds) w else .bad
theorem em_tup {x1} {r : MA} (h : PAm X R Wx es r) : PEm X R Wx (.Tuple es x1 pos) (mTup r) :=
  ⟨fun H0 G0 => PE.cons (pe_tup (h.pe H0 G0)) fun σ H Q ⟨G, w, as, rel, h⟩ => by
    refine lift_ab rel h fun vs ds G1 H1 as1 w1 rel1 ext rs h1 => ?_
    by_cases c : ds.length ≤ sizeLine
    · rw [if_pos c] at h1
      exact ⟨by rw [← rs.length]; exact c, (h1.new rel1).tup rel1.bas.sub rs⟩
    · rw [if_neg c] at h1; exact h1.elim⟩
theorem em_lst {r : MA} (h : PAm X R Wx es r) : PEm X R Wx (.List es pos) (mLst r) :=
  ⟨fun H0 G0 => PE.cons (pe_lst (h.pe H0 G0)) fun σ H Q ⟨G, w, as, rel, h⟩ => by
    refine lift_ab rel h fun vs ds G1 H1 as1 w1 rel1 ext rs h1 => ?_
    by_cases c : ds.length ≤ sizeLine
    · rw [if_pos c] at h1
      exact ⟨by rw [← rs.length]; exact c, (h1.new rel1).own rel1.bas.sub rs⟩
    · rw [if_neg c] at h1; exact h1.elim⟩

/-! subscripts, slices -/
def gIx (x y : D) : Option RV := match x, y with
  | .lst ds, .int i => (atI ds i).map .d
  | .scr ds, .int i => (atI ds i).map .d
  | .tup ds, .int i => (atI ds i).map .d
  | .str z, .int i => if z.length ≤ sizeLine then (atI z.cps.toList i).map fun c => .d (.str ⟨#[c]⟩) else none
  | _, _ => none
theorem Rps.atI {ds : List D} {vs : List V} {i : Int} {x : D} (r : Rps R G ds vs) (h : atI ds i = some x) : ∃ v, L2.atI vs i = some v ∧ Rp R G x v := by
  unfold L2.atI at h ⊢
  rw [← r.length]
  cases e : ixN ds.length i with
  | none => rw [e] at h; cases h
  | some j =>
    rw [e] at h
    exact r.get h
theorem v_ix (ag : Ag X R) : V2 R (rIx X.K) gIx := fun {G H x y vx vy rv Q} s rx ry e h => by
  unfold gIx at e
  split at e
  · obtain ⟨p, xs, rfl, hx, rs⟩ := rx.lst s
    cases ry.int
    obtain ⟨d, e1, rfl⟩ := Option.map_eq_some_iff.mp e
    obtain ⟨v, e2, rp⟩ := rs.atI e1
    exact .inl ⟨p, xs, _, v, rfl, rfl, .inl (.inl hx), e2, h.sc s rp⟩
  · cases ry.int
    obtain ⟨d, e1, rfl⟩ := Option.map_eq_some_iff.mp e
    cases rx with
    | rp r =>
      cases r with
      | scr hx rs =>
        obtain ⟨v, e2, rp⟩ := rs.atI e1
        exact .inl ⟨_, _, _, v, rfl, rfl, by rw [ag.K]; exact Same.seq s hx, e2, h.sc s rp⟩
  · obtain ⟨p, xs, rfl, hx, rs, _⟩ := rx.tup s
    cases ry.int
    obtain ⟨d, e1, rfl⟩ := Option.map_eq_some_iff.mp e
    obtain ⟨v, e2, rp⟩ := rs.atI e1
    exact .inr (.inl ⟨p, xs, _, v, rfl, rfl, by rw [ag.K]; exact hx, e2, h.sc s rp⟩)
  · cases rx.str
    cases ry.int
    split at e
    · rename_i c
      obtain ⟨d, e1, rfl⟩ := Option.map_eq_some_iff.mp e
      exact .inr (.inr ⟨_, _, d, rfl, rfl, c, e1, h.sc s .str⟩)
    · cases e
  · cases e
theorem em_ix (ag : Ag X R) (ha : POm X R Wx a ma) (hb : POm X R Wx b mb) (hs : PlainIx b) : PEm X R Wx (.Subscript a b pos) (mBin gIx ma mb) :=
  ⟨fun H0 G0 => PE.cons (pe_ix ix_seq (ha.pe H0 G0) (hb.pe H0 G0) hs) fun σ H Q h => run2 (v_ix ag) h⟩

def cutD (xs : List D) (lo hi : Option Int) : List D := (xs.drop (HT.sIx xs.length 0 lo)).take (HT.sIx xs.length xs.length hi - HT.sIx xs.length 0 lo)
def gSl (x : D) (lo hi : Option Int) : Option RV := match x with
  | .lst ds => some (.own (cutD ds lo hi))
  | .tup ds => some (.d (.tup (cutD ds lo hi)))
  | .str z => if z.length ≤ sizeLine then some (.d (.str (cutS z lo hi))) else none
  | _ => none
theorem Rps.cut {ds : List D} {vs : List V} (r : Rps R G ds vs) (lo hi : Option Int) : Rps R G (cutD ds lo hi) (cutV vs lo hi) := by
  unfold cutD cutV
  rw [r.length]
  exact (r.drop _).take _
theorem cutV_whole {vs : List V} {lo hi : Option Int} (h : HT.sIx vs.length 0 lo = 0 ∧ HT.sIx vs.length vs.length hi = vs.length) : cutV vs lo hi = vs := by
  unfold cutV
  rw [h.1, h.2]
  simp
theorem cutD_whole {vs : List D} {lo hi : Option Int} (h : HT.sIx vs.length 0 lo = 0 ∧ HT.sIx vs.length vs.length hi = vs.length) : cutD vs lo hi = vs := by
  unfold cutD
  rw [h.1, h.2]
  simp
/-- a slice's part -/
inductive RO where
  | ok (o : Option Int) (w : W) | ex (x : Exc) (w : W) | bad
abbrev MO := W → RO
def mNo : MO := fun w => .ok none w
def mPt (m : ME) : MO := fun w => match m w with
  | .ok (.d (.int i)) w => .ok (some i) w
  | .ok _ _ => .bad
  | .ex x w => .ex x w
  | .bad => .bad
def PostP (R : RC) (H0 : Hp) (G0 : Wd) (Wx : WX) (σ : L2.St) (G : Wd) (H : Hp) (as : List Addr) (r : RO) (Q : Option Int → Hp → Prop) : Prop :=
  match r with
  | .ok o w' => ∀ G' H' as', Rel R H0 G0 G' w' σ H' as' → Ext as G H G' H' → (∀ a ∈ as', a ∈ as) → Q o H'
  | .ex x w' => ∀ cls d G' H' as', Rel R H0 G0 G' w' σ H' as' → ExcR R G' H' x cls d → Wx cls d σ H'
  | .bad => False
def liftP (R : RC) (Wx : WX) (H0 : Hp) (G0 : Wd) (m : MO) : TO := fun σ H Q => ∃ G w as, Rel R H0 G0 G w σ H as ∧ PostP R H0 G0 Wx σ G H as (m w) Q
structure PPm (X : Cx) (R : RC) (Wx : WX) (e : Option Expr) (m : MO) : Prop where
  pe : ∀ H0 G0, PO X e (liftP R Wx H0 G0 m)
theorem PO.cons {X : Cx} {e : Option Expr} {t t' : TO} (h : PO X e t) (c : ∀ σ H Q, t' σ H Q → t σ H Q) : PO X e t' := ⟨fun pins s σ H Q I q => h.run pins s σ H Q I (c σ H Q q)⟩
theorem pm_no : PPm X R Wx none mNo := ⟨fun H0 G0 => PO.cons po_none fun σ H Q ⟨G, w, as, rel, h⟩ => h G H as rel (.refl _ _ _) fun _ h => h⟩
theorem pm_some (ha : PEm X R Wx a m) : PPm X R Wx (some a) (mPt m) := ⟨fun H0 G0 => PO.cons (po_some (ha.pe H0 G0)) fun σ H Q ⟨G, w, as, rel, h⟩ => by
  refine ⟨G, w, as, rel, ?_⟩
  have h' : PostP R H0 G0 Wx σ G H as (mPt m w) Q := h
  unfold mPt at h'
  cases e : m w with
  | bad => rw [e] at h'; exact h'
  | ex x w1 => rw [e] at h'; exact h'
  | ok rv w1 =>
    rw [e] at h'
    cases rv with
    | d x =>
      cases x with
      | int i =>
        intro v G' H' as' bs rel' ext sub sl lo fr
        cases sl with
        | d r => cases r; exact ⟨i, rfl, h' G' H' as' rel' ext sub⟩
      | _ => exact h'.elim
    | _ => exact h'.elim⟩
def RO.bd (r : RO) (k : Option Int → W → Res) : Res := match r with
  | .ok o w => k o w
  | .ex x w => .ex x w
  | .bad => .bad
theorem lift_pb {r : MO} {k : Option Int → W → Res} {Q : VK} {Q1 : Option Int → Hp → Prop} (rel : Rel R H0 G0 G w σ H as) (h : PostE R H0 G0 Wx σ G H as ((r w).bd k) Q)
    (c : ∀ o G1 H1 as1 w1, Rel R H0 G0 G1 w1 σ H1 as1 → Ext as G H G1 H1 → PostE R H0 G0 Wx σ G1 H1 as1 (k o w1) Q → Q1 o H1) : liftP R Wx H0 G0 r σ H Q1 := by
  refine ⟨G, w, as, rel, ?_⟩
  cases e : r w with
  | bad => rw [e] at h; exact h
  | ex x w1 => rw [e] at h; exact h
  | ok ds w1 =>
    rw [e] at h
    exact fun G' H' as' rel' ext sub => c ds G' H' as' w1 rel' ext (PostE.shift h ext sub)
def mSl (m : ME) (lo hi : MO) : ME := fun w => (m w).bd fun x w1 => (lo w1).bd fun l w2 => (hi w2).bd fun u w3 => ofO (gSl x l u) w3
theorem em_sl (ag : Ag X R) {lo hi : Option Expr} {ml mh : MO} {p2} (ha : POm X R Wx a m) (hl : PPm X R Wx lo ml) (hh : PPm X R Wx hi mh) : PEm X R Wx (.Subscript a (.Slice lo hi none p2) pos) (mSl m ml mh) :=
  ⟨fun H0 G0 => PE.cons (pe_slice (sl_list.or (sl_tupA.or sl_str)) (ha.pe H0 G0) (hl.pe H0 G0) (hh.pe H0 G0)) fun σ H Q ⟨G, w, as, rel, h⟩ => by
    refine lift_bo rel h fun v x G1 H1 as1 w1 rel1 x1 lv h1 => ?_
    refine lift_pb rel1 h1 fun l G2 H2 as2 w2 rel2 x2 h2 => ?_
    refine lift_pb rel2 h2 fun u G3 H3 as3 w3 rel3 x3 h3 => ?_
    obtain ⟨rv, e, h4⟩ := h3.ofO
    have lv3 := (lv.ext x2).ext x3
    have s := rel3.bas.sub
    have np := h4.new rel3
    unfold gSl at e
    split at e
    · cases e
      obtain ⟨p, xs, rfl, hx, rs⟩ := lv3.lst s
      exact .inl ⟨p, xs, rfl, .inl (.inl hx), np.own s (rs.cut l u)⟩
    · cases e
      obtain ⟨p, xs, rfl, hx, rs, rp⟩ := lv3.tup s
      refine .inr (.inl ⟨p, xs, rfl, by rw [ag.K]; exact hx, fun z => ?_, fun _ => np.tup s (rs.cut l u)⟩)
      have z' := z
      rw [← rs.length] at z'
      rw [cutD_whole z'] at np
      exact np.sc s rp
    · cases lv3.str
      split at e
      · rename_i c
        cases e
        exact .inr (.inr ⟨_, rfl, c, np.sc s .str⟩)
      · cases e
    · cases e⟩
end
end DB

set_option Elab.async false
set_option linter.all false
set_option maxRecDepth 100000
set_option maxHeartbeats 4000000
namespace DB
open PySem PySem.Spec PyProof.Rows L2

/-! the same of two contexts -/
structure Sim (R R' : RC) : Prop where
  K : R.K = R'.K
  mg : R.mg = R'.mg
  T : R.T = R'.T
  fw : R.lm.fw = R'.lm.fw
theorem Sim.refl (R : RC) : Sim R R := ⟨rfl, rfl, rfl, rfl⟩
theorem Sim.symm {R R' : RC} (h : Sim R R') : Sim R' R := ⟨h.K.symm, h.mg.symm, h.T.symm, h.fw.symm⟩
section
variable {R R' : RC} {G : Wd}
mutual
theorem Rp.conv (s : Sim R R') : ∀ {d : D} {v : V}, Rp R G d v → Rp R' G d v
  | _, _, .non => .non
  | _, _, .bl => .bl
  | _, _, .int => .int
  | _, _, .str => .str
  | _, _, .tup h r => .tup (by rw [← s.K]; exact h) (Rps.conv s r)
  | _, _, .lst h r => .lst h (Rps.conv s r)
  | _, _, .scr h r => .scr (by rw [← s.K]; exact h) (Rps.conv s r)
  | _, _, .dic h l r => .dic h l (Rps.conv s r)
  | _, _, .obj h z l r => .obj (by rw [← s.mg]; exact h) z l (Rps.conv s r)
  | _, _, .cell h => .cell h
  | _, _, .fn h l => .fn (by rw [← s.fw]; exact h) l
theorem Rps.conv (s : Sim R R') : ∀ {ds : List D} {vs : List V}, Rps R G ds vs → Rps R' G ds vs
  | _, _, .nil => .nil
  | _, _, .cons h r => .cons (Rp.conv s h) (Rps.conv s r)
end
theorem RCell.conv (s : Sim R R') {H : Hp} {a : Addr} {c : Cell} (r : RCell R G H a c) : RCell R' G H a c := by
  cases c with
  | lst ds => obtain ⟨xs, h1, h2⟩ := r; exact ⟨xs, h1, h2.conv s⟩
  | dic ks vs => obtain ⟨xs, h1, h2, h3⟩ := r; exact ⟨xs, h1, h2, h3.conv s⟩
  | ins c ks vs => obtain ⟨C, dx, xs, h0, h1, h2, h3⟩ := r; exact ⟨C, dx, xs, by rw [← s.mg]; exact h0, h1, h2, h3.conv s⟩
theorem Bas.conv (s : Sim R R') {H0 H : Hp} {G0 : Wd} {S : List Cell} (b : Bas R H0 G0 G S H) : Bas R' H0 G0 G S H :=
  ⟨⟨b.cells.1, fun n c a h1 h2 => (b.cells.2 n c a h1 h2).conv s⟩, b.nd, b.free, b.sub, ⟨by rw [← s.T]; exact b.tabs.1, b.tabs.2⟩, b.ext⟩
theorem ExcR.conv (s : Sim R R') {H : Hp} {x : Exc} {cls : Value} {d : Option Addr} (r : ExcR R G H x cls d) : ExcR R' G H x cls d := by
  obtain ⟨C, h1, h2, h3⟩ := r
  refine ⟨C, by rw [← s.mg]; exact h1, h2, ?_⟩
  rcases h3 with h3 | ⟨dx, vs, e1, e2, e3, e4⟩
  · exact .inl h3
  · exact .inr ⟨dx, vs, e1, e2, e3, e4.conv s⟩
/-- a result that may be told to others -/
def RV.plain : RV → Bool
  | .d _ => true
  | .own _ => true
  | .odic _ _ => true
  | _ => false
theorem RSlot.conv (s : Sim R R') {H : Hp} {rv : RV} {o : Option V} {bs : List Addr} (r : RSlot R G H rv o bs) (p : rv.plain = true) : RSlot R' G H rv o bs := by
  cases r with
  | un => cases p
  | d h => exact .d (h.conv s)
  | own h r => exact .own h (r.conv s)
  | odic h l r => exact .odic h l (r.conv s)
  | fn _ _ _ => cases p
  | xc _ _ => cases p
end

section
variable {R R' : RC} {H0 H H' H1 : Hp} {G0 G G' G1 : Wd} {w w' w1 : W} {σ : L2.St} {as as' as1 bs : List Addr} {Wx : WX} {X : Cx}
  {a b c e : Expr} {ma mb mc m : ME} {pos : Pos} {es : List Expr}

/-- a def's promise: it is what F tells -/
def spF (R : RC) (F : MF) : Sp := fun vs H Q E => ∃ G S ds, Rps R G ds vs ∧ Bas R H G G S H ∧ (match F ds S with
  | .ok rv S' => rv.plain = true ∧ ∀ v G' H' bs, Bas R H G G' S' H' → RSlot R G' H' rv (some v) bs → Loose H G' [] bs → Q v H'
  | .ex x S' => ∀ cls d G' H', Bas R H G G' S' H' → ExcR R G' H' x cls d → E cls d H'
  | .bad => False)
def mCall (F : MF) (r : MA) : ME := fun w => (r w).bd fun ds w1 => match F ds w1.S with
  | .ok rv S' => if rv.plain = true then .ok rv { w1 with S := S' } else .bad
  | .ex x S' => .ex x { w1 with S := S' }
  | .bad => .bad
theorem Rel.call {S' : List Cell} (rel : Rel R H0 G0 G w σ H as) (b : Bas R H G G' S' H') : Rel R H0 G0 G' { w with S := S' } σ H' as := by
  have nos : ∀ a ∈ as, a ∉ G.sas := fun a ha z => (List.nodup_append.mp rel.nd).2.2 a ha a z rfl
  have kp : ∀ a ∈ as, ∀ u, H a = some u → H' a = some u := fun a ha u hu => b.ext.keep a u hu (rel.env.notbl a ha u hu) (nos a ha)
  have nos' : ∀ a ∈ as, a ∉ G'.sas := fun a ha z => by
    rcases b.ext.newS a z with q | q
    · exact nos a ha q
    · obtain ⟨u, hu⟩ := rel.env.has a ha
      rw [hu] at q; cases q
  exact {
    env := rel.env.mono b.ext.le kp
    bas := ⟨b.cells, b.nd, b.free, b.sub, b.tabs, rel.bas.ext.trans (fun _ h => .inl h) b.ext⟩
    nd := List.nodup_append.mpr ⟨(List.nodup_append.mp rel.nd).1, b.nd, fun a ha c hc z => nos' a ha (by rw [z]; exact hc)⟩
    free := fun a ha => by
      cases e : G'.Z a with
      | none => rfl
      | some o =>
        rcases b.ext.newZ a o e with q | q | q
        · rw [rel.free a ha] at q; cases q
        · obtain ⟨u, hu⟩ := rel.env.has a ha
          rw [hu] at q; cases q
        · simp at q
    fresh := rel.fresh }
/-- behind a call, by values -/
theorem call_post {F : MF} {ds : List D} {vs : List V} {Q : VK} (sm : Sim R R') (rel : Rel R H0 G0 G w σ H as) (rs : Rps R G ds vs)
    (h : PostE R H0 G0 Wx σ G H as (match F ds w.S with
      | .ok rv S' => if rv.plain = true then .ok rv { w with S := S' } else .bad
      | .ex x S' => .ex x { w with S := S' }
      | .bad => .bad) Q) : spF R' F vs H Q (WE Wx σ) := by
  have bas0 : Bas R H G G w.S H := ⟨rel.bas.cells, rel.bas.nd, rel.bas.free, rel.bas.sub, rel.bas.tabs, .refl _ _ _⟩
  refine ⟨G, w.S, ds, rs.conv sm, bas0.conv sm, ?_⟩
  cases e : F ds w.S with
  | bad => rw [e] at h; exact h
  | ex x S' =>
    rw [e] at h
    exact fun cls d G' H' b x => h cls d G' H' as (rel.call (b.conv sm.symm)) (x.conv sm.symm)
  | ok rv S' =>
    rw [e] at h
    cases p : rv.plain with
    | false =>
      have h2 : PostE R H0 G0 Wx σ G H as (if rv.plain = true then .ok rv { w with S := S' } else .bad) Q := h
      rw [p, if_neg Bool.false_ne_true] at h2
      exact h2.elim
    | true =>
      have h2 : PostE R H0 G0 Wx σ G H as (if rv.plain = true then .ok rv { w with S := S' } else .bad) Q := h
      rw [p, if_pos rfl] at h2
      refine ⟨p, fun v G' H' bs b sl lo => ?_⟩
      have b' := b.conv sm.symm
      refine h2 v G' H' as bs (rel.call b') (b'.ext.mono (by simp)) (fun _ h => h) (sl.conv sm.symm p) (fun c hc => ?_) (fun c hc => .inr (lo c hc).2.2.2)
      obtain ⟨l1, l2, l3, l4⟩ := lo c hc
      refine ⟨l1, l2, fun z => ?_, rel.bas.ext.dom c l4⟩
      obtain ⟨u, hu⟩ := rel.env.has c z
      rw [hu] at l4; cases l4
theorem em_call {k : Nat} {f : Addr} {fd : FuncData} {ps : List Str} {F : MF} {x : Str} {p : Pos} {r : MA} (Fn : FnOk X.prog X.w X.K X.mg X.base (L2.CX X.prog X.w) k f fd ps (spF R' F)) (sm : Sim R R') (tk : Takes X Wx) (hr : Room k X.A) (hg : Gl X x) (hm : X.mg x = some (.ref f)) (hk : PySem.W.keepIn X.K (.ref f) = true) (hb : Binds X.K fd ps [])
    (ha : PAm X R Wx (a :: es) r) (hdb : (x == ("__debug__" : Str)) = false := by decide) (he : starEach (a :: es) X.env = (false, eval a X.env) :: starEach es X.env := by rfl) (hpl : (backTo pos (starEach es X.env)).any (·.1) = false := by rfl) :
    PEm X R Wx (.Call (.Name x p) (a :: es) [] pos) (mCall F r) :=
  ⟨fun H0 G0 => PE.cons (pe_callS Fn hr hg hm hk hb (fun σ => passAt tk σ) (ha.pe H0 G0) hdb he hpl) fun σ H Q ⟨G, w, as, rel, h⟩ => by
    refine lift_ab rel h fun vs ds G1 H1 as1 w1 rel1 ext rs h1 => ?_
    exact call_post sm rel1 rs h1⟩

/-! built-in functions and classes -/
def mCB (g : List D → Option RV) (r : MA) : ME := fun w => (r w).bd fun ds w1 => ofO (g ds) w1
theorem em_callB {id : String} {x : Str} {p : Pos} {g : List D → Option RV} {r : MA} (c : CalM X R (.builtin id) g) (hg : Gl X x) (hm : X.mg x = none) (hv : bootBuiltins x = some (.builtin id)) (ha : PLm X R Wx (a :: es) r) (hn : x ≠ "__name__" := by decide) (hdb : (x == ("__debug__" : Str)) = false := by decide)
    (he : starEach (a :: es) X.env = (false, eval a X.env) :: starEach es X.env := by rfl) (hpl : (backTo pos (starEach es X.env)).any (·.1) = false := by rfl) : PEm X R Wx (.Call (.Name x p) (a :: es) [] pos) (mCB g r) := by
  obtain ⟨rd, hc, hvl⟩ := c.ex
  exact ⟨fun H0 G0 => PE.cons (pe_callB hc hg hm hv (ha.pe H0 G0) hn hdb he hpl) fun σ H Q ⟨G, w, as, rel, h⟩ => by
    refine lift_bb2 rel h fun vs ds G1 H1 as1 w1 rel1 ext rs h1 => ?_
    obtain ⟨rv, e, h2⟩ := h1.ofO
    exact hvl rel1.bas.sub rs e (h2.new rel1)⟩
theorem em_callT {T : String} {x : Str} {p : Pos} {g : List D → Option RV} {r : MA} (c : CalM X R (.type T) g) (hg : Gl X x) (hm : X.mg x = none) (hv : bootBuiltins x = some (.type T)) (ha : PLm X R Wx (a :: es) r) (hn : x ≠ "__name__" := by decide) (hdb : (x == ("__debug__" : Str)) = false := by decide)
    (he : starEach (a :: es) X.env = (false, eval a X.env) :: starEach es X.env := by rfl) (hpl : (backTo pos (starEach es X.env)).any (·.1) = false := by rfl) : PEm X R Wx (.Call (.Name x p) (a :: es) [] pos) (mCB g r) := by
  obtain ⟨rd, hc, hvl⟩ := c.ex
  exact ⟨fun H0 G0 => PE.cons (pe_callTy hc hg hm hv (ha.pe H0 G0) hn hdb he hpl) fun σ H Q ⟨G, w, as, rel, h⟩ => by
    refine lift_bb2 rel h fun vs ds G1 H1 as1 w1 rel1 ext rs h1 => ?_
    obtain ⟨rv, e, h2⟩ := h1.ofO
    exact hvl rel1.bas.sub rs e (h2.new rel1)⟩
end
end DB

set_option Elab.async false
set_option linter.all false
set_option maxRecDepth 100000
set_option maxHeartbeats 4000000
namespace DB
open PySem PySem.Spec PyProof.Rows L2
section
variable {R R' : RC} {H0 H H' H1 : Hp} {G0 G G' G1 : Wd} {w w' w1 : W} {σ : L2.St} {as as' as1 bs : List Addr} {Wx : WX} {X : Cx}
  {a b c e : Expr} {ma mb mc m : ME} {pos : Pos} {es : List Expr} {st : Stmt} {rest body orelse : List Stmt} {m1 m2 ms : MS}

/-! blocks -/
def mNext : MS := fun w => .nx w
def mSeq (m1 m2 : MS) : MS := fun w => match m1 w with
  | .nx w1 => m2 w1
  | r => r
theorem PostS.up {r : RS} {D : Ends} (h : PostS R H0 G0 Wx G r D) (l : Wle G G') : PostS R H0 G0 Wx G' r D := by
  cases r with
  | nx w => exact fun σ' G2 H' as' rel le => h σ' G2 H' as' rel (l.trans le)
  | bk w => exact fun σ' G2 H' as' rel le => h σ' G2 H' as' rel (l.trans le)
  | ct w => exact fun σ' G2 H' as' rel le => h σ' G2 H' as' rel (l.trans le)
  | rt _ _ => exact h
  | ex _ _ => exact h
  | bad => exact h
theorem bm_nl : PBm X R Wx [] mNext := ⟨fun H0 G0 => PSs.cons pss_nil fun D σ H ⟨G, w, as, rel, h⟩ => h σ G H as rel (.refl _)⟩
theorem bm_cs (h1 : PSm X R Wx st m1) (h2 : PBm X R Wx rest m2) : PBm X R Wx (st :: rest) (mSeq m1 m2) :=
  ⟨fun H0 G0 => PSs.cons (pss_cons (h1.ps H0 G0) (h2.ps H0 G0)) fun D σ H ⟨G, w, as, rel, h⟩ => by
    refine ⟨G, w, as, rel, ?_⟩
    have h' : PostS R H0 G0 Wx G (mSeq m1 m2 w) D := h
    unfold mSeq at h'
    cases e : m1 w with
    | nx w1 => rw [e] at h'; exact fun σ' G' H' as' rel' le => ⟨G', w1, as', rel', h'.up le⟩
    | rt _ _ => rw [e] at h'; exact h'
    | bk _ => rw [e] at h'; exact h'
    | ct _ => rw [e] at h'; exact h'
    | ex _ _ => rw [e] at h'; exact h'
    | bad => rw [e] at h'; exact h'⟩
theorem bm_on (h1 : PSm X R Wx st m1) : PBm X R Wx [st] m1 := ⟨fun H0 G0 => pss_one (h1.ps H0 G0)⟩
def mBrk : MS := fun w => .bk w
def mCnt : MS := fun w => .ct w
theorem sm_pass : PSm X R Wx (.Pass pos) mNext := ⟨fun H0 G0 => PS.cons ps_pass fun D σ H ⟨G, w, as, rel, h⟩ => h σ G H as rel (.refl _)⟩
theorem sm_brk : PSm X R Wx (.Break pos) mBrk := ⟨fun H0 G0 => PS.cons ps_break fun D σ H ⟨G, w, as, rel, h⟩ => h σ G H as rel (.refl _)⟩
theorem sm_cnt : PSm X R Wx (.Continue pos) mCnt := ⟨fun H0 G0 => PS.cons ps_continue fun D σ H ⟨G, w, as, rel, h⟩ => h σ G H as rel (.refl _)⟩

/-! an expression ahead of a statement's end -/
def Res.sd (r : Res) (k : RV → W → RS) : RS := match r with
  | .ok v w => k v w
  | .ex x w => .ex x w
  | .bad => .bad
/-- what may be asked behind an expression in a statement -/
theorem lift_sd {k : RV → W → RS} {D : Ends} {Q : VK} (rel : Rel R H0 G0 G w σ H as) (h : PostS R H0 G0 Wx G ((m w).sd k) D)
    (c : ∀ rv v G1 H1 as1 bs w1, Rel R H0 G0 G1 w1 σ H1 as1 → Ext as G H G1 H1 → (∀ a ∈ as1, a ∈ as) → RSlot R G1 H1 rv (some v) bs → Loose H0 G1 as1 bs → (∀ b ∈ bs, b ∈ as ∨ H b = none) → PostS R H0 G0 Wx G1 (k rv w1) D → Q v H1) : liftE R Wx H0 G0 m σ H Q := by
  refine ⟨G, w, as, rel, ?_⟩
  cases e : m w with
  | bad => rw [e] at h; exact h
  | ex x w1 => rw [e] at h; exact fun cls d G' H' as' rel' x => h σ cls d G' H' as' rel' x
  | ok rv w1 => rw [e] at h; exact fun v G' H' as' bs rel' ext sub sl lo fr => c rv v G' H' as' bs w1 rel' ext sub sl lo fr (PostS.up h ext.le)
theorem RSlot.nd {rv : RV} {o : Option V} (s : RSlot R G H rv o bs) : bs.Nodup := by
  cases s <;> simp
/-- a slot is given a new value -/
theorem Rel.setS {i : Nat} {rv : RV} {v : V} (rel : Rel R H0 G0 G w σ H as) (hi : i < w.env.length) (sl : RSlot R G H rv (some v) bs) (lo : Loose H0 G as bs) :
    ∃ as', Rel R H0 G0 G { w with env := w.env.set i rv } (σ.set i (some v)) H as' ∧ ∀ a ∈ as', a ∈ bs ∨ a ∈ as := by
  obtain ⟨o, bs0, cs, e1, e2, e3, e4, e5⟩ := rel.env.at (List.getElem?_eq_getElem hi)
  have ncs : ∀ a ∈ bs, a ∉ cs := fun a ha z => (lo a ha).2.2.1 ((e3 a).mpr (.inr z))
  obtain ⟨as', q1, q2, q3⟩ := e5 (.refl G) (fun _ _ _ h => h) sl ncs sl.nd
  obtain ⟨n1, n2, n3⟩ := List.nodup_append.mp rel.nd
  refine ⟨as', ⟨q1, rel.bas, List.nodup_append.mpr ⟨q3 n1, n2, fun a ha b hb z => ?_⟩, fun a ha => ?_, fun a ha => ?_⟩, fun a ha => ((q2 a).mp ha).imp id fun z => (e3 a).mpr (.inr z)⟩
  · rcases (q2 a).mp ha with y | y
    · exact (lo a y).2.1 (by rw [z]; exact hb)
    · exact n3 a ((e3 a).mpr (.inr y)) b hb z
  · rcases (q2 a).mp ha with y | y
    · exact (lo a y).1
    · exact rel.free a ((e3 a).mpr (.inr y))
  · rcases (q2 a).mp ha with y | y
    · exact (lo a y).2.2.2
    · exact rel.fresh a ((e3 a).mpr (.inr y))
theorem Rel.set {i : Nat} {rv : RV} {v : V} (rel : Rel R H0 G0 G w σ H as) (hi : i < w.env.length) (sl : RSlot R G H rv (some v) bs) (lo : Loose H0 G as bs) :
    ∃ as', Rel R H0 G0 G { w with env := w.env.set i rv } (σ.set i (some v)) H as' := let ⟨as', h, _⟩ := Rel.setS rel hi sl lo; ⟨as', h⟩
def W.put (w : W) (i : Nat) (rv : RV) : W := { w with env := w.env.set i rv }
def setRV (i : Nat) (rv : RV) (w : W) : RS := if i < w.env.length then .nx (w.put i rv) else .bad
def mSet (i : Nat) (m : ME) : MS := fun w => (m w).sd (setRV i)
theorem set_post {i : Nat} {rv : RV} {v : V} {D : Ends} (rel : Rel R H0 G0 G w σ H as) (sl : RSlot R G H rv (some v) bs) (lo : Loose H0 G as bs) (h : PostS R H0 G0 Wx G (setRV i rv w) D) : D.nx (σ.set i (some v)) H := by
  unfold setRV at h
  by_cases c : i < w.env.length
  · rw [if_pos c] at h
    obtain ⟨as', rel'⟩ := rel.set c sl lo
    exact h _ G H as' rel' (.refl _)
  · rw [if_neg c] at h; exact h.elim
theorem sm_set {i : Nat} {x : Str} {pos' : Pos} (hN : X.N.Nodup) (hi : X.N[i]? = some x) (hx : Loc X.env.scope x) (he : PEm X R Wx e m) (hs : swapsWith e (some (.Name x pos')) pos.line X.env = pure false := by rfl) (hf : X.fn x = true ∨ X.env.scope.names.lookup x = some .local := by first | exact .inl rfl | exact .inr rfl | assumption) :
    PSm X R Wx (.Assign [.Name x pos'] e pos) (mSet i m) :=
  ⟨fun H0 G0 => PS.cons (ps_set hN hi hx (he.pe H0 G0) hs hf) fun D σ H ⟨G, w, as, rel, h⟩ => by
    refine lift_sd rel h fun rv v G1 H1 as1 bs w1 rel1 _ _ sl lo _ h1 => ?_
    exact set_post rel1 sl lo h1⟩
/-! return -/
def mRet (m : ME) : MS := fun w => (m w).sd fun rv w => .rt rv w.S
theorem Loose.none {H0 : Hp} {G : Wd} (h : Loose H0 G as bs) : Loose H0 G [] bs := fun b hb => let ⟨h1, h2, _, h4⟩ := h b hb; ⟨h1, h2, by simp, h4⟩
theorem sm_ret (he : PEm X R Wx e m) : PSm X R Wx (.Return (some e) pos) (mRet m) :=
  ⟨fun H0 G0 => PS.cons (ps_ret (he.pe H0 G0)) fun D σ H ⟨G, w, as, rel, h⟩ => by
    refine lift_sd rel h fun rv v G1 H1 as1 bs w1 rel1 _ _ sl lo _ h1 => ?_
    exact h1 v G1 H1 bs rel1.bas sl lo.none⟩
def mRetN : MS := fun w => .rt (.d .non) w.S
theorem sm_retN : PSm X R Wx (.Return none pos) mRetN := ⟨fun H0 G0 => PS.cons ps_retN fun D σ H ⟨G, w, as, rel, h⟩ => h .non G H [] rel.bas (.d .non) (by intro b hb; simp at hb)⟩
/-- a variable that is told out: its list goes with it -/
def mMv (i : Nat) : MS := fun w => match w.env[i]? with
  | some rv => if rv.plain = true then .rt rv w.S else .bad
  | none => .bad
theorem sm_retV (i : Nat) {x : Str} {p : Pos} (hN : X.N[i]? = some x := by rfl) (hv : Vis X.env.scope x := by first | exact Or.inl rfl | exact Or.inr (Or.inl rfl) | exact Or.inr (Or.inr rfl)) (hd : (x == ("__debug__" : Str)) = false := by decide)
    (hcd : (x == ("__classdict__" : Str)) = false := by decide) : PSm X R Wx (.Return (some (.Name x p)) pos) (mMv i) :=
  ⟨fun H0 G0 => PS.cons (ps_ret (pe_var hN hv hd hcd)) fun D σ H ⟨G, w, as, rel, h⟩ => by
    show ∃ v, σ[i]? = some (some v) ∧ D.rt v H
    have h' : PostS R H0 G0 Wx G (mMv i w) D := h
    unfold mMv at h'
    cases e : w.env[i]? with
    | none => rw [e] at h'; exact h'.elim
    | some r =>
      rw [e] at h'
      have h2 : PostS R H0 G0 Wx G (if r.plain = true then .rt r w.S else .bad) D := h'
      cases pl : r.plain with
      | false => rw [pl, if_neg Bool.false_ne_true] at h2; exact h2.elim
      | true =>
        rw [pl, if_pos rfl] at h2
        obtain ⟨o, bs, cs, e1, e2, e3, e4, e5⟩ := rel.env.at e
        have lo : Loose H0 G [] bs := fun b hb => by
          have hb' : b ∈ as := (e3 b).mpr (.inl hb)
          exact ⟨rel.free b hb', fun z => (List.nodup_append.mp rel.nd).2.2 b hb' b z rfl, by simp, rel.fresh b hb'⟩
        cases o with
        | some v => exact ⟨v, e1, h2 v G H bs rel.bas e2 lo⟩
        | none => cases e2; cases pl⟩
/-! if -/
def Res.sb (r : Res) (t f : W → RS) : RS := match r with
  | .ok (.d (.bl true)) w => t w
  | .ok (.d (.bl false)) w => f w
  | .ok _ _ => .bad
  | .ex x w => .ex x w
  | .bad => .bad
theorem lift_sb {t f : W → RS} {D : Ends} {Qb : Bool → Hp → Prop} (rel : Rel R H0 G0 G w σ H as) (h : PostS R H0 G0 Wx G ((m w).sb t f) D)
    (c : ∀ b G1 H1 as1 w1, Rel R H0 G0 G1 w1 σ H1 as1 → PostS R H0 G0 Wx G1 (if b = true then t w1 else f w1) D → Qb b H1) : liftT R Wx H0 G0 m σ H Qb := by
  refine ⟨G, w, as, rel, ?_⟩
  cases e : m w with
  | bad => rw [e] at h; exact h
  | ex x w1 => rw [e] at h; exact fun cls d G' H' as' rel' x => h σ cls d G' H' as' rel' x
  | ok rv w1 =>
    rw [e] at h
    cases rv with
    | d y =>
      cases y with
      | bl b =>
        intro G' H' as' rel' ext sub
        refine c b G' H' as' w1 rel' (PostS.up ?_ ext.le)
        cases b with
        | true => exact h
        | false => exact h
      | _ => exact h.elim
    | _ => exact h.elim
def mIf (c : ME) (t f : MS) : MS := fun w => (c w).sb t f
theorem sm_if (hc : PTm X R Wx c mc) (ha : PBm X R Wx body m1) (hb : PBm X R Wx orelse m2) : PSm X R Wx (.If c body orelse pos) (mIf mc m1 m2) :=
  ⟨fun H0 G0 => PS.cons (ps_if (hc.pe H0 G0) (ha.ps H0 G0) (hb.ps H0 G0)) fun D σ H ⟨G, w, as, rel, h⟩ => by
    refine lift_sb rel h fun k G1 H1 as1 w1 rel1 h1 => ?_
    cases k with
    | true => exact iteT ⟨G1, w1, as1, rel1, h1⟩
    | false => exact iteF ⟨G1, w1, as1, rel1, h1⟩⟩
/-! an expression whose value is dropped -/
def mEx (m : ME) : MS := fun w => (m w).sd fun _ w => .nx w
theorem sm_expr (he : PEm X R Wx e m) (hs : swapsWith e none pos.line X.env = pure false := by rfl) : PSm X R Wx (.Expr e pos) (mEx m) :=
  ⟨fun H0 G0 => PS.cons (ps_expr (he.pe H0 G0) hs) fun D σ H ⟨G, w, as, rel, h⟩ => by
    refine lift_sd rel h fun rv v G1 H1 as1 bs w1 rel1 _ _ sl lo _ h1 => ?_
    exact h1 σ G1 H1 as1 rel1 (.refl _)⟩

/-! while -/
/-- the loop's turns, as far as they go -/
def whN (c : ME) (b : MS) : Nat → W → Option RS
  | 0, _ => none
  | n + 1, w => match c w with
    | .ok (.d (.bl true)) w1 => match b w1 with
      | .nx w2 => whN c b n w2
      | .ct w2 => whN c b n w2
      | .bk w2 => some (.nx w2)
      | r => some r
    | .ok (.d (.bl false)) w1 => some (.nx w1)
    | .ok _ _ => some .bad
    | .ex x w1 => some (.ex x w1)
    | .bad => some .bad
open Classical in
noncomputable def mWhile (c : ME) (b : MS) : MS := fun w => if h : ∃ n r, whN c b n w = some r then Classical.choose (Classical.choose_spec h) else .bad
theorem whN_mono {c : ME} {b : MS} : ∀ {n : Nat} {w : W} {r : RS}, whN c b n w = some r → ∀ k, whN c b (n + k) w = some r
  | 0, _, _, h, _ => by cases h
  | n + 1, w, r, h, k => by
    rw [show n + 1 + k = (n + k) + 1 by omega]
    unfold whN at h ⊢
    cases e : c w with
    | bad => rw [e] at h; exact h
    | ex x w1 => rw [e] at h; exact h
    | ok rv w1 =>
      rw [e] at h
      cases rv with
      | d y =>
        cases y with
        | bl q =>
          cases q with
          | true =>
            simp only at h ⊢
            cases e2 : b w1 with
            | nx w2 => rw [e2] at h; exact whN_mono h k
            | ct w2 => rw [e2] at h; exact whN_mono h k
            | bk w2 => rw [e2] at h; exact h
            | rt _ _ => rw [e2] at h; exact h
            | ex _ _ => rw [e2] at h; exact h
            | bad => rw [e2] at h; exact h
          | false => exact h
        | _ => exact h
      | _ => exact h
theorem mWhile_of {c : ME} {b : MS} {n : Nat} {w : W} {r : RS} (h : whN c b n w = some r) : mWhile c b w = r := by
  have hx : ∃ n r, whN c b n w = some r := ⟨n, r, h⟩
  unfold mWhile
  rw [dif_pos hx]
  have h2 := Classical.choose_spec (Classical.choose_spec hx)
  have h3 := whN_mono h2 n
  have h4 := whN_mono h (Classical.choose hx)
  rw [Nat.add_comm] at h4
  rw [h4] at h3
  exact (Option.some.inj h3).symm
theorem sm_while (hp : PassesOwn (model X.prog X.w) X.A X.env X.xe) (hc : PTm X R Wx c mc) (hb : PBm X R Wx body ms) : PSm X R Wx (.While c body [] pos) (mWhile mc ms) :=
  ⟨fun H0 G0 => PS.cons (ps_while hp (hc.pe H0 G0) (hb.ps H0 G0)) fun D σ H ⟨G, w, as, rel, h⟩ => by
    by_cases hx : ∃ n r, whN mc ms n w = some r
    · obtain ⟨n, r, hn⟩ := hx
      have hr : PostS R H0 G0 Wx G r D := by rw [mWhile_of hn] at h; exact h
      refine ⟨fun k σ H => ∃ G w as r, Rel R H0 G0 G w σ H as ∧ whN mc ms k w = some r ∧ PostS R H0 G0 Wx G r D, ⟨n, G, w, as, r, rel, hn, hr⟩, ?_⟩
      rintro k σ H ⟨G, w, as, r, rel, hk, hr⟩
      cases k with
      | zero => cases hk
      | succ k =>
        refine ⟨G, w, as, rel, ?_⟩
        unfold whN at hk
        cases e : mc w with
        | bad => rw [e] at hk; cases hk; exact hr
        | ex x w1 => rw [e] at hk; cases hk; exact fun cls d G' H' as' rel' x => hr σ cls d G' H' as' rel' x
        | ok rv w1 =>
          rw [e] at hk
          cases rv with
          | d y =>
            cases y with
            | bl q =>
              intro G' H' as' rel' ext sub
              cases q with
              | true =>
                refine iteT ⟨fun σ' H' => ∃ G w as r, Rel R H0 G0 G w σ' H' as ∧ whN mc ms k w = some r ∧ PostS R H0 G0 Wx G r D, fun σ' H' ⟨G, w, as, r, x1, x2, x3⟩ => ⟨k, Nat.lt_succ_self _, G, w, as, r, x1, x2, x3⟩, G', w1, as', rel', ?_⟩
                simp only at hk
                cases e2 : ms w1 with
                | nx w2 => rw [e2] at hk; exact fun σ' G2 H' as' rel2 le => ⟨G2, w2, as', r, rel2, hk, (PostS.up hr ext.le).up le⟩
                | ct w2 => rw [e2] at hk; exact fun σ' G2 H' as' rel2 le => ⟨G2, w2, as', r, rel2, hk, (PostS.up hr ext.le).up le⟩
                | bk w2 => rw [e2] at hk; cases hk; exact PostS.up (G := G) hr ext.le
                | rt _ _ => rw [e2] at hk; cases hk; exact hr
                | ex _ _ => rw [e2] at hk; cases hk; exact hr
                | bad => rw [e2] at hk; cases hk; exact hr
              | false =>
                cases hk
                exact iteF (hr σ G' H' as' rel' ext.le)
            | _ => cases hk; exact hr.elim
          | _ => cases hk; exact hr.elim
    · have : mWhile mc ms w = .bad := by unfold mWhile; rw [dif_neg hx]
      rw [this] at h
      exact h.elim⟩
end
end DB

set_option Elab.async false
set_option linter.all false
set_option maxRecDepth 100000
set_option maxHeartbeats 4000000
namespace DB
open PySem PySem.Spec PyProof.Rows L2
section
variable {R R' : RC} {H0 H H' H1 : Hp} {G0 G G' G1 : Wd} {w w' w1 : W} {σ : L2.St} {as as' as1 bs : List Addr} {Wx : WX} {X : Cx}
  {a b c e tg iter : Expr} {ma mb mc m : ME} {pos : Pos} {es : List Expr} {st : Stmt} {rest body orelse : List Stmt} {m1 m2 ms : MS}

/-! a def -/
def bodyF (n k : Nat) (m : MS) : MF := fun ds S => if ds.length = k then match m ⟨ds.map .d ++ List.replicate (n - k) .un, S⟩ with
  | .nx w => .ok (.d .non) w.S
  | .rt rv S' => if rv.plain = true then .ok rv S' else .bad
  | .ex x w => .ex x w.S
  | _ => .bad else .bad
theorem REnv.ds : ∀ {ds : List D} {vs : List V}, Rps R G ds vs → ∀ k, REnv R G H (ds.map .d ++ List.replicate k .un) (vs.map some ++ List.replicate k none) []
  | _, _, .nil, 0 => .nil
  | _, _, .nil, k + 1 => REnv.cons (as := []) (bs := []) .un (REnv.ds (ds := []) (vs := []) .nil k)
  | _, _, .cons r rs, k => REnv.cons (as := []) (bs := []) (.d r) (REnv.ds rs k)
theorem fn_M {P : Program} {w : World} {K : PySem.W.Frag} {mg : Str → Option Value} {base : Heap} {x qual : Str} {st : Stmt} {f : Addr} {fd : FuncData} {N ps : List Str} {k : Nat} {m : MS} {T : List (Addr × Str)} {lm : Lm}
    (Fu : Fun K x qual st f fd) (S : FnScope N ps (defScope st))
    (body : ∀ (cdv : Value) (A : Around) (outer : List Env) (s : Shared) (H : Hp) (E : XK), Room k (A.deeper (envOfC qual (defScope st) s.heap.objs.size f cdv)) →
      PBm (cxOf (L2.CX P w) P w K mg base N qual (defScope st) f cdv A outer s H E) ⟨K, mg, T, lm⟩ (fun cls d _ H => E cls d H) (defBody st) m) :
    FnOk P w K mg base (L2.CX P w) (k + 1) f fd ps (spF ⟨K, mg, T, lm⟩ (bodyF N.length ps.length m)) := by
  have hpl : ps.length ≤ N.length := by have := congrArg List.length S.pre; rw [List.length_take] at this; omega
  refine Fu.okX S (fun vs H Q E h => ?_) (fun cdv A outer s H vs Q E hr h => ?_)
  · obtain ⟨G, S, ds, rs, b, h⟩ := h
    unfold bodyF at h
    by_cases c : ds.length = ps.length
    · rw [← rs.length]; exact c
    · rw [if_neg c] at h; exact h.elim
  · obtain ⟨G, Sc, ds, rs, b, h⟩ := h
    refine ⟨_, (body cdv A outer s H E hr).ps H G, ?_⟩
    unfold bodyF at h
    by_cases c : ds.length = ps.length
    · rw [if_pos c] at h
      have hv : vs.length = ps.length := by rw [← rs.length]; exact c
      have env : REnv ⟨K, mg, T, lm⟩ G H (ds.map .d ++ List.replicate (N.length - ps.length) .un) (L2.start N vs) [] := by
        unfold L2.start
        rw [hv]
        exact REnv.ds rs _
      refine ⟨G, ⟨ds.map .d ++ List.replicate (N.length - ps.length) .un, Sc⟩, [], ⟨env, b, by simpa using b.nd, by simp, by simp⟩, ?_⟩
      cases e : m ⟨ds.map .d ++ List.replicate (N.length - ps.length) .un, Sc⟩ with
      | bad => rw [e] at h; exact h
      | bk _ => rw [e] at h; exact h.elim
      | ct _ => rw [e] at h; exact h.elim
      | nx w' =>
        rw [e] at h
        exact fun σ' G' H' as' rel _ => h.2 .non G' H' [] rel.bas (.d .non) (by intro b hb; simp at hb)
      | ex x w' =>
        rw [e] at h
        exact fun σ' cls d G' H' as' rel x => h cls d G' H' rel.bas x
      | rt rv S' =>
        rw [e] at h
        have h2 : (match (if rv.plain = true then RF.ok rv S' else RF.bad) with
          | .ok rv S' => rv.plain = true ∧ ∀ v G' H' bs, Bas ⟨K, mg, T, lm⟩ H G G' S' H' → RSlot ⟨K, mg, T, lm⟩ G' H' rv (some v) bs → Loose H G' [] bs → Q v H'
          | .ex x S' => ∀ cls d G' H', Bas ⟨K, mg, T, lm⟩ H G G' S' H' → ExcR ⟨K, mg, T, lm⟩ G' H' x cls d → E cls d H'
          | .bad => False) := h
        cases pl : rv.plain with
        | false => rw [pl, if_neg Bool.false_ne_true] at h2; exact h2.elim
        | true => rw [pl, if_pos rfl] at h2; exact h2.2
    · rw [if_neg c] at h; exact h.elim

/-! targets -/
abbrev MG := D → W → Option W
/-- the slots but is are as they were -/
def But (is : List Nat) (σ σ' : L2.St) : Prop := σ'.length = σ.length ∧ ∀ j, j ∉ is → σ'[j]? = σ[j]?
theorem But.refl (is : List Nat) (σ : L2.St) : But is σ σ := ⟨rfl, fun _ _ => rfl⟩
theorem But.set {is : List Nat} {i : Nat} (σ : L2.St) (o : Option V) (h : i ∈ is) : But is σ (σ.set i o) := ⟨List.length_set .., fun j hj => List.getElem?_set_ne (fun z => hj (by rw [← z]; exact h))⟩
theorem But.trans {is js : List Nat} {σ σ1 σ2 : L2.St} (a : But is σ σ1) (b : But js σ1 σ2) : But (is ++ js) σ σ2 := ⟨b.1.trans a.1, fun j hj => (b.2 j fun z => hj (List.mem_append_right _ z)).trans (a.2 j fun z => hj (List.mem_append_left _ z))⟩
def liftG (R : RC) (H0 : Hp) (G0 : Wd) (is : List Nat) (g : MG) : TG := fun v σ H Q => ∃ G w as x, Rel R H0 G0 G w σ H as ∧ Rp R G x v ∧ (match g x w with
  | some w' => ∀ σ' as', Rel R H0 G0 G w' σ' H as' → But is σ σ' → (∀ a, a ∈ as' → a ∈ as) → Q σ' H
  | none => False)
structure PGm (X : Cx) (R : RC) (tg : Expr) (is : List Nat) (g : MG) : Prop where
  pg : ∀ H0 G0, PG X tg (liftG R H0 G0 is g)
theorem PG.cons {X : Cx} {e : Expr} {t t' : TG} (h : PG X e t) (c : ∀ v σ H Q, t' v σ H Q → t v σ H Q) : PG X e t' := ⟨fun pins s σ H v u Q I r q => h.run pins s σ H v u Q I r (c v σ H Q q)⟩
def gNm (i : Nat) : MG := fun x w => if i < w.env.length then some (w.put i (.d x)) else none
theorem gm_name {i : Nat} {x : Str} (hN : X.N.Nodup) (hi : X.N[i]? = some x) (hx : Loc X.env.scope x) (hf : X.fn x = true ∨ X.env.scope.names.lookup x = some .local := by first | exact .inl rfl | exact .inr rfl | assumption) : PGm X R (.Name x pos) [i] (gNm i) :=
  ⟨fun H0 G0 => PG.cons (pg_name hN hi hx hf) fun v σ H Q ⟨G, w, as, y, rel, rp, h⟩ => by
    show Q (σ.set i (some v)) H
    have h' : (match gNm i y w with
      | some w' => ∀ σ' as', Rel R H0 G0 G w' σ' H as' → But [i] σ σ' → (∀ a, a ∈ as' → a ∈ as) → Q σ' H
      | none => False) := h
    unfold gNm at h'
    by_cases c : i < w.env.length
    · rw [if_pos c] at h'
      obtain ⟨as', rel', sub⟩ := rel.setS c (.d rp) (by intro b hb; simp at hb)
      exact h' _ as' rel' (But.set σ _ (List.mem_singleton.mpr rfl)) fun a ha => (sub a ha).elim (fun z => by simp at z) id
    · rw [if_neg c] at h'; exact h'.elim⟩
abbrev MGs := List D → W → Option W
def liftGs (R : RC) (H0 : Hp) (G0 : Wd) (is : List Nat) (g : MGs) : TGs := fun vs σ H Q => ∃ G w as xs, Rel R H0 G0 G w σ H as ∧ Rps R G xs vs ∧ (match g xs w with
  | some w' => ∀ σ' as', Rel R H0 G0 G w' σ' H as' → But is σ σ' → (∀ a, a ∈ as' → a ∈ as) → Q σ' H
  | none => False)
structure PGsm (X : Cx) (R : RC) (ts : List Expr) (is : List Nat) (g : MGs) : Prop where
  pg : ∀ H0 G0, PGs X ts (liftGs R H0 G0 is g)
theorem PGs.cons {X : Cx} {e : List Expr} {t t' : TGs} (h : PGs X e t) (c : ∀ v σ H Q, t' v σ H Q → t v σ H Q) : PGs X e t' := ⟨fun pins s σ H v u Q I r q => h.run pins s σ H v u Q I r (c v σ H Q q)⟩
def gsNil : MGs := fun xs w => match xs with
  | [] => some w
  | _ => none
def gsCons (g : MG) (gs : MGs) : MGs := fun xs w => match xs with
  | x :: xs => match g x w with
    | some w1 => gs xs w1
    | none => none
  | [] => none
theorem gms_nil : PGsm X R [] [] gsNil := ⟨fun H0 G0 => PGs.cons pgs_nil fun vs σ H Q ⟨G, w, as, xs, rel, rs, h⟩ => by
  cases rs with
  | nil => exact ⟨rfl, h σ as rel (.refl _ _) fun _ h => h⟩
  | cons _ _ => exact h.elim⟩
theorem gms_cons {g : MG} {gs : MGs} {is js : List Nat} (h1 : PGm X R e is g) (h2 : PGsm X R es js gs) (hs : (assignEach (e :: es) X.env).map (·.2) = assign e X.env :: (assignEach es X.env).map (·.2) := by rfl) : PGsm X R (e :: es) (is ++ js) (gsCons g gs) :=
  ⟨fun H0 G0 => PGs.cons (pgs_cons (h1.pg H0 G0) (h2.pg H0 G0) hs) fun vs σ H Q ⟨G, w, as, xs, rel, rs, h⟩ => by
    cases rs with
    | nil => exact h.elim
    | @cons x xs v vs r rs =>
      refine ⟨v, vs, rfl, G, w, as, x, rel, r, ?_⟩
      have h' : (match gsCons g gs (x :: xs) w with
        | some w' => ∀ σ' as', Rel R H0 G0 G w' σ' H as' → But (is ++ js) σ σ' → (∀ a, a ∈ as' → a ∈ as) → Q σ' H
        | none => False) := h
      unfold gsCons at h'
      cases eg : g x w with
      | none => simp only [eg] at h'
      | some w1 =>
        simp only [eg] at h'
        intro σ' as' rel' bt sub
        refine ⟨G, w1, as', xs, rel', rs, ?_⟩
        cases egs : gs xs w1 with
        | none => rw [egs] at h'; exact h'.elim
        | some w2 => rw [egs] at h'; exact fun σ2 as2 rel2 bt2 sub2 => h' σ2 as2 rel2 (bt.trans bt2) fun a ha => sub a (sub2 a ha)⟩
def gTp (n : Nat) (gs : MGs) : MG := fun x w => match x with
  | .tup xs => if xs.length = n then gs xs w else none
  | _ => none
theorem gm_tup {gs : MGs} {is : List Nat} {k n : Nat} (ag : Ag X R) (hc : X.calm = true) (h : PGsm X R es is gs) (hn : (assignEach es X.env).length = n := by rfl) (hst : (assignEach es X.env).findIdx? (·.1) = none := by rfl) : PGm X R (.Tuple es k pos) is (gTp n gs) :=
  ⟨fun H0 G0 => PG.cons (pg_tup hc (h.pg H0 G0) hn hst) fun v σ H Q ⟨G, w, as, y, rel, rp, h⟩ => by
    cases rp with
    | @tup p ds xs hx rs =>
      have h' : (match (if ds.length = n then gs ds w else none) with
        | some w' => ∀ σ' as', Rel R H0 G0 G w' σ' H as' → But is σ σ' → (∀ a, a ∈ as' → a ∈ as) → Q σ' H
        | none => False) := h
      by_cases c : ds.length = n
      · rw [if_pos c] at h'
        exact ⟨p, xs, rfl, by rw [ag.K]; exact Same.seqT rel.bas.sub hx, by rw [← rs.length]; exact c, G, w, as, ds, rel, rs, h'⟩
      · rw [if_neg c] at h'; exact h'.elim
    | _ => exact h.elim⟩
/-- target = value -/
def mAsg (g : MG) (m : ME) : MS := fun w => (m w).sd fun rv w1 => match rv.frz with
  | some x => match g x w1 with
    | some w2 => .nx w2
    | none => .bad
  | none => .bad
theorem sm_asg {g : MG} {is : List Nat} (he : PEm X R Wx e m) (hg : PGm X R tg is g) (hs : swapsWithSole [tg] e pos.line X.env = pure false := by rfl) (hw : swappedStores [tg] e X.env = pure none := by rfl)
    (h1 : (assignEach [tg] X.env).map (·.2) = [assign tg X.env] := by rfl) : PSm X R Wx (.Assign [tg] e pos) (mAsg g m) :=
  ⟨fun H0 G0 => PS.cons (ps_asg (he.pe H0 G0) (hg.pg H0 G0) hs hw h1) fun D σ H ⟨G, w, as, rel, h⟩ => by
    refine lift_sd rel h fun rv v G1 H1 as1 bs w1 rel1 ext _ sl lo _ h1 => ?_
    have h' : PostS R H0 G0 Wx G1 (match rv.frz with
      | some x => match g x w1 with
        | some w2 => .nx w2
        | none => .bad
      | none => .bad) D := h1
    cases ef : rv.frz with
    | none => rw [ef] at h'; exact h'.elim
    | some x =>
      rw [ef] at h'
      obtain ⟨G2, rel2, ext2, rp⟩ := frz_tmp rel1 sl lo ef
      have h2 : PostS R H0 G0 Wx G1 (match g x w1 with
        | some w2 => .nx w2
        | none => .bad) D := h'
      refine ⟨G2, w1, as1, x, rel2, rp, ?_⟩
      cases eg : g x w1 with
      | none => rw [eg] at h2; exact h2.elim
      | some w2 => rw [eg] at h2; exact fun σ' as' rel' _ _ => h2 σ' G2 H1 as' rel' ext2.le⟩

/-! what a loop walks -/
/-- J yields ds, wherever what is known stands -/
def Walks (R : RC) (J : It) (ds : List D) (G : Wd) : Prop := ∀ G2 H2, Wle G G2 → Same G2.Z H2 →
  (∀ i d, ds[i]? = some d → J.go i H2 ∧ ∀ x H3, J.yld i H2 x H3 → ∃ G3, PExt G2 H2 G3 H3 ∧ Rp R G3 d x) ∧ J.stop ds.length H2
def liftI (R : RC) (Wx : WX) (H0 : Hp) (G0 : Wd) (m : MA) : TI := fun σ H Q => ∃ G w as, Rel R H0 G0 G w σ H as ∧ (match m w with
  | .ok ds w' => ∀ J G' H' as', Rel R H0 G0 G' w' σ H' as' → Ext as G H G' H' → (∀ a ∈ as', a ∈ as) → Walks R J ds G' → Q J H'
  | .ex x w' => ∀ cls d G' H' as', Rel R H0 G0 G' w' σ H' as' → ExcR R G' H' x cls d → Wx cls d σ H'
  | .bad => False)
/-- .. where the heap may be changed otherwise -/
def liftJ (R : RC) (Wx : WX) (H0 : Hp) (G0 : Wd) (m : MA) : TI := fun σ H Q => ∃ G w as, Rel R H0 G0 G w σ H as ∧ (match m w with
  | .ok ds w' => ∀ J G' H' as', Rel R H0 G0 G' w' σ H' as' → Wle G G' → Walks R J ds G' → Q J H'
  | .ex x w' => ∀ cls d G' H' as', Rel R H0 G0 G' w' σ H' as' → ExcR R G' H' x cls d → Wx cls d σ H'
  | .bad => False)
structure PIm (X : Cx) (R : RC) (Wx : WX) (tg iter : Expr) (m : MA) : Prop where
  pi : ∀ H0 G0, PI X tg iter (liftI R Wx H0 G0 m)
structure PJm (X : Cx) (R : RC) (Wx : WX) (tg iter : Expr) (m : MA) : Prop where
  pi : ∀ H0 G0, PI X tg iter (liftJ R Wx H0 G0 m)
theorem PI.cons {X : Cx} {tg e : Expr} {t t' : TI} (h : PI X tg e t) (c : ∀ σ H Q, t' σ H Q → t σ H Q) : PI X tg e t' := ⟨fun pins s σ H Q I q => h.run pins s σ H Q I (c σ H Q q)⟩
theorem jm {mi : MA} (h : PIm X R Wx tg iter mi) : PJm X R Wx tg iter mi := ⟨fun H0 G0 => PI.cons (h.pi H0 G0) fun σ H Q ⟨G, w, as, rel, h⟩ => by
  refine ⟨G, w, as, rel, ?_⟩
  cases e : mi w with
  | bad => rw [e] at h; exact h
  | ex x w1 => rw [e] at h; exact h
  | ok ds w1 => rw [e] at h; exact fun J G' H' as' rel' ext _ wk => h J G' H' as' rel' ext.le wk⟩
theorem walks_list {K : PySem.W.Frag} {p : Addr} {ds : List D} {xs : List V} (hx : SqL K G.Z p xs) (rs : Rps R G ds xs) : Walks R (Itl K p) ds G := fun G2 H2 le s => by
  have hx2 : SqL K H2 p xs := Same.seq s (Same.seq le.z hx)
  refine ⟨fun i d e => ?_, ⟨xs, hx2, by rw [← rs.length]; exact Nat.le_refl _⟩⟩
  obtain ⟨v, ev, rp⟩ := rs.get e
  refine ⟨⟨xs, v, hx2, ev⟩, fun x H3 ⟨e3, q⟩ => ?_⟩
  rw [e3]
  have e4 := q xs hx2
  rw [ev] at e4
  cases e4
  exact ⟨G2, .refl s, rp.mono le⟩
/-- the loop's turns over what it walks -/
def forL (g : MG) (b : MS) : List D → W → RS
  | [], w => .nx w
  | d :: ds, w => match g d w with
    | none => .bad
    | some w1 => match b w1 with
      | .nx w2 => forL g b ds w2
      | .ct w2 => forL g b ds w2
      | .bk w2 => .nx w2
      | r => r
def mFor (mi : MA) (g : MG) (b : MS) : MS := fun w => match mi w with
  | .ok ds w1 => forL g b ds w1
  | .ex x w1 => .ex x w1
  | .bad => .bad
theorem sm_for {mi : MA} {g : MG} (hp : PassesOwn (model X.prog X.w) X.A X.env X.xe) (hc : X.calm = true) {is : List Nat} (hi : PJm X R Wx tg iter mi) (hg : PGm X R tg is g) (hb : PBm X R Wx body ms)
    (hs : ∀ x, foldedSetIterable iter X.env x = pure x := by intro _; rfl) : PSm X R Wx (.For tg iter body [] pos) (mFor mi g ms) :=
  ⟨fun H0 G0 => PS.cons (ps_for hp hc (hi.pi H0 G0) (hg.pg H0 G0) (hb.ps H0 G0) hs) fun D σ H ⟨G, w, as, rel, h⟩ => by
    have h' : PostS R H0 G0 Wx G (mFor mi g ms w) D := h
    unfold mFor at h'
    refine ⟨G, w, as, rel, ?_⟩
    cases e : mi w with
    | bad => rw [e] at h'; exact h'
    | ex x w1 => rw [e] at h'; exact fun cls d G' H' as' rel' x => h' σ cls d G' H' as' rel' x
    | ok ds w1 =>
      rw [e] at h'
      intro J G1 H1 as1 rel1 le1 wk
      refine ⟨fun i n σ H => (n = ds.length - i ∧ i ≤ ds.length) ∧ ∃ G2 w as, Rel R H0 G0 G2 w σ H as ∧ Wle G1 G2 ∧ PostS R H0 G0 Wx G2 (forL g ms (ds.drop i) w) D, ⟨ds.length, ⟨by simp, Nat.zero_le _⟩, G1, w1, as1, rel1, .refl _, by rw [List.drop_zero]; exact PostS.up h' le1⟩, ?_⟩
      rintro i n σ H ⟨⟨rfl, hle⟩, G2, w2, as2, rel2, le2, h2⟩
      obtain ⟨q1, q2⟩ := wk G2 H le2 rel2.bas.sub
      by_cases hi : i < ds.length
      · have ed : ds.drop i = ds[i] :: ds.drop (i + 1) := List.drop_eq_getElem_cons hi
        obtain ⟨go, yl⟩ := q1 i ds[i] (List.getElem?_eq_getElem hi)
        rw [ed] at h2
        refine .inr ⟨go, fun σ' H' => ∃ G2 w as, Rel R H0 G0 G2 w σ' H' as ∧ Wle G1 G2 ∧ PostS R H0 G0 Wx G2 (forL g ms (ds.drop (i + 1)) w) D, fun σ' H' ⟨G2, w, as, x1, x2, x3⟩ => ⟨ds.length - (i + 1), by omega, ⟨rfl, hi⟩, G2, w, as, x1, x2, x3⟩, fun x H' y => ?_⟩
        obtain ⟨G3, p3, rp3⟩ := yl x H' y
        have rel3 := rel2.pext p3
        have h3 := PostS.up h2 p3.le
        unfold forL at h3
        refine ⟨G3, w2, as2, ds[i], rel3, rp3, ?_⟩
        cases eg : g ds[i] w2 with
        | none => rw [eg] at h3; exact h3.elim
        | some w4 =>
          rw [eg] at h3
          intro σ4 as4 rel4 _ _
          refine ⟨G3, w4, as4, rel4, ?_⟩
          simp only at h3
          cases eb : ms w4 with
          | nx w5 => rw [eb] at h3; exact fun σ' G' H' as' rel' le => ⟨G', w5, as', rel', (le2.trans p3.le).trans le, PostS.up h3 le⟩
          | ct w5 => rw [eb] at h3; exact fun σ' G' H' as' rel' le => ⟨G', w5, as', rel', (le2.trans p3.le).trans le, PostS.up h3 le⟩
          | bk w5 => rw [eb] at h3; exact h3
          | rt _ _ => rw [eb] at h3; exact h3
          | ex _ _ => rw [eb] at h3; exact h3
          | bad => rw [eb] at h3; exact h3
      · have ed : ds.drop i = [] := List.drop_eq_nil_of_le (by omega)
        rw [ed] at h2
        have ei : i = ds.length := by omega
        exact .inl ⟨by rw [ei]; exact q2, h2 σ G2 H as2 rel2 (.refl _)⟩⟩
end
end DB

set_option Elab.async false
set_option linter.all false
set_option maxRecDepth 100000
set_option maxHeartbeats 4000000
namespace DB
open PySem PySem.Spec PyProof.Rows L2
section
variable {R R' : RC} {H0 H H' H1 : Hp} {G0 G G' G1 : Wd} {w w' w1 : W} {σ : L2.St} {as as' as1 bs : List Addr} {Wx : WX} {X : Cx}
  {a b c e tg iter : Expr} {ma mb mc m : ME} {pos : Pos} {es : List Expr} {st : Stmt} {rest body orelse : List Stmt} {m1 m2 ms : MS} {mr : MA}

/-! iterables -/
def seqItems (x : D) : Option (List D) := match x with
  | .lst ds => some ds
  | .scr ds => some ds
  | .tup ds => some ds
  | .str z => some (z.cps.toList.map fun c => .str ⟨#[c]⟩)
  | _ => none
def mSeqI (m : ME) : MA := fun w => match (m w).bd fun x w1 => .ok (.d x) w1 with
  | .ok (.d x) w1 => match seqItems x with
    | some ds => .ok ds w1
    | none => .bad
  | .ok _ _ => .bad
  | .ex x w1 => .ex x w1
  | .bad => .bad
theorem walks_tup {K : PySem.W.Frag} {p : Addr} {ds : List D} {xs : List V} (hx : SqT K G.Z p xs) (rs : Rps R G ds xs) : Walks R (Itt K p) ds G := fun G2 H2 le s => by
  have hx2 : SqT K H2 p xs := Same.seqT s (Same.seqT le.z hx)
  refine ⟨fun i d e => ?_, ⟨xs, hx2, by rw [← rs.length]; exact Nat.le_refl _⟩⟩
  obtain ⟨v, ev, rp⟩ := rs.get e
  refine ⟨⟨xs, v, hx2, ev⟩, fun x H3 ⟨e3, q⟩ => ?_⟩
  rw [e3]
  have e4 := q xs hx2
  rw [ev] at e4
  cases e4
  exact ⟨G2, .refl s, rp.mono le⟩
theorem walks_str {z : Str} : Walks R (Its z) (z.cps.toList.map fun c => .str ⟨#[c]⟩) G := fun G2 H2 le s => by
  refine ⟨fun i d e => ?_, ?_⟩
  · rw [List.getElem?_map] at e
    obtain ⟨c, e1, rfl⟩ := Option.map_eq_some_iff.mp e
    have hi : i < z.cps.size := by
      have := (List.getElem?_eq_some_iff.mp e1).1
      simpa using this
    refine ⟨hi, fun x H3 ⟨e3, c', q, ex⟩ => ?_⟩
    rw [e3, ex]
    have : z.cps[i]? = some c := by simpa using e1
    rw [this] at q
    cases q
    exact ⟨G2, .refl s, .str⟩
  · show z.cps.size ≤ _
    simp
theorem im_seq (ag : Ag X R) (he : PEm X R Wx iter m) : PIm X R Wx tg iter (mSeqI m) :=
  ⟨fun H0 G0 => ⟨fun pins s σ H Rj I ⟨G, w, as, rel, h⟩ => by
    have h' : (match (match (m w).bd fun x w1 => .ok (.d x) w1 with
      | .ok (.d x) w1 => match seqItems x with
        | some ds => RL.ok ds w1
        | none => .bad
      | .ok _ _ => .bad
      | .ex x w1 => .ex x w1
      | .bad => .bad) with
      | .ok ds w' => ∀ J G' H' as', Rel R H0 G0 G' w' σ H' as' → Ext as G H G' H' → (∀ a ∈ as', a ∈ as) → Walks R J ds G' → Rj J H'
      | .ex x w' => ∀ cls d G' H' as', Rel R H0 G0 G' w' σ H' as' → ExcR R G' H' x cls d → Wx cls d σ H'
      | .bad => False) := h
    -- what is asked of a continuation
    have go : ∀ {Q : VK}, (∀ x, ∀ w1, (∀ ds, seqItems x = some ds → ∀ J G' H' as', Rel R H0 G0 G' w1 σ H' as' → Ext as G H G' H' → (∀ a ∈ as', a ∈ as) → Walks R J ds G' → Rj J H') → seqItems x ≠ none → ((m w).bd fun x w1 => .ok (.d x) w1) = .ok (.d x) w1 → ∀ v G1 H1 as1, Rel R H0 G0 G1 w1 σ H1 as1 → Ext as G H G1 H1 → (∀ a ∈ as1, a ∈ as) → Rp R G1 x v → Q v H1) → liftE R Wx H0 G0 m σ H Q := by
      intro Q k
      cases e : m w with
      | bad => rw [e] at h'; exact h'.elim
      | ex x w1 => rw [e] at h'; exact ⟨G, w, as, rel, by rw [e]; exact h'⟩
      | ok rv w1 =>
        have e2 : (m w).bd (fun x w1 => .ok (.d x) w1) = (match rv.frz with | some x => .ok (.d x) w1 | none => .bad) := by
          rw [e] <;> rfl
        rw [e2] at h'
        cases ef : rv.frz with
        | none => rw [ef] at h'; exact h'.elim
        | some x =>
          rw [ef] at h' e2
          refine ⟨G, w, as, rel, ?_⟩
          rw [e]
          intro v G' H' as' bs rel' ext sub sl lo fr
          obtain ⟨G2, rel2, ext2, rp⟩ := frz_tmp rel' sl lo ef
          refine k x w1 (fun ds eds => ?_) (fun z => ?_) e2 v G2 H' as' rel2 (ext.trans fr ext2) sub rp
          · simp only [eds] at h'
            exact h'
          · simp only [z] at h'
    cases e : (m w).bd fun x w1 => .ok (.d x) w1 with
    | bad => rw [e] at h'; exact h'.elim
    | ex x w1 =>
      refine (pi_list (he.pe H0 G0)).run pins s σ H Rj I (go fun x w1 k hn e1 v G1 H1 as1 rel1 le1 sub1 rp => ?_)
      rw [e] at e1; cases e1
    | ok rv w1 =>
      cases rv with
      | d x =>
        have same : ∀ {x' : D} {w1' : W}, ((m w).bd fun x w1 => .ok (.d x) w1) = .ok (.d x') w1' → x' = x := fun e1 => by
          rw [e] at e1; cases e1; rfl
        cases x with
        | lst ds =>
          refine (pi_list (he.pe H0 G0)).run pins s σ H Rj I (go fun x w1 k hn e1 v G1 H1 as1 rel1 le1 sub1 rp => ?_)
          cases same e1
          cases rp with
          | lst hx rs => exact ⟨_, rfl, ⟨_, .inl (.inl (rel1.bas.sub _ _ hx))⟩, k _ rfl _ G1 H1 as1 rel1 le1 sub1 (walks_list (.inl (.inl hx)) rs)⟩
        | scr ds =>
          refine (pi_list (he.pe H0 G0)).run pins s σ H Rj I (go fun x w1 k hn e1 v G1 H1 as1 rel1 le1 sub1 rp => ?_)
          cases same e1
          cases rp with
          | scr hx rs => exact ⟨_, rfl, ⟨_, by rw [ag.K]; exact Same.seq rel1.bas.sub hx⟩, k _ rfl _ G1 H1 as1 rel1 le1 sub1 (by rw [ag.K]; exact walks_list hx rs)⟩
        | tup ds =>
          refine (pi_tup (he.pe H0 G0)).run pins s σ H Rj I (go fun x w1 k hn e1 v G1 H1 as1 rel1 le1 sub1 rp => ?_)
          cases same e1
          cases rp with
          | tup hx rs => exact ⟨_, rfl, ⟨_, by rw [ag.K]; exact Same.seqT rel1.bas.sub hx⟩, k _ rfl _ G1 H1 as1 rel1 le1 sub1 (by rw [ag.K]; exact walks_tup hx rs)⟩
        | str z =>
          refine (pi_str (he.pe H0 G0)).run pins s σ H Rj I (go fun x w1 k hn e1 v G1 H1 as1 rel1 le1 sub1 rp => ?_)
          cases same e1
          cases rp
          exact ⟨_, rfl, k _ rfl _ G1 H1 as1 rel1 le1 sub1 walks_str⟩
        | _ =>
          refine (pi_list (he.pe H0 G0)).run pins s σ H Rj I (go fun x w1 k hn e1 v G1 H1 as1 rel1 le1 sub1 rp => ?_)
          cases same e1
          exact (hn rfl).elim
      | _ =>
        refine (pi_list (he.pe H0 G0)).run pins s σ H Rj I (go fun x w1 k hn e1 v G1 H1 as1 rel1 le1 sub1 rp => ?_)
        rw [e] at e1; cases e1⟩⟩

/-! range -/
theorem walks_range {lo : Int} {n : Nat} : Walks R (Itr lo n) ((List.range n).map fun i => .int (lo + (i : Nat))) G := fun G2 H2 le s => by
  refine ⟨fun i d e => ?_, ?_⟩
  · rw [List.getElem?_map] at e
    obtain ⟨c, e1, rfl⟩ := Option.map_eq_some_iff.mp e
    obtain ⟨hi, e2⟩ := List.getElem?_eq_some_iff.mp e1
    rw [List.getElem_range] at e2
    subst e2
    refine ⟨(by simpa using hi : i < n), fun x H3 ⟨e3, q⟩ => ?_⟩
    rw [e3, q]
    exact ⟨G2, .refl s, .int⟩
  · show n ≤ _
    simp
def rngD (lo hi : Int) : List D := (List.range (hi - lo).toNat).map fun i => .int (lo + (i : Nat))
def mRng1 (r : MA) : MA := fun w => match r w with
  | .ok [.int j] w1 => if -(2 ^ 62) ≤ j ∧ j < 2 ^ 62 then .ok (rngD 0 j) w1 else .bad
  | .ok _ _ => .bad
  | r => r
def mRng2 (r : MA) : MA := fun w => match r w with
  | .ok [.int i, .int j] w1 => if -(2 ^ 62) ≤ i ∧ i < 2 ^ 62 ∧ -(2 ^ 62) ≤ j ∧ j < 2 ^ 62 then .ok (rngD i j) w1 else .bad
  | .ok _ _ => .bad
  | r => r
theorem im_range1 {p : Pos} (hg : Gl X "range") (hm : X.mg "range" = none) (ha : PLm X R Wx [a] mr) (hs : starEach [a] X.env = [(false, eval a X.env)] := by rfl) : PIm X R Wx tg (.Call (.Name "range" p) [a] [] pos) (mRng1 mr) :=
  ⟨fun H0 G0 => PI.cons (pi_range1 hg hm (ha.pe H0 G0) hs) fun σ H Q ⟨G, w, as, rel, h⟩ => by
    refine ⟨G, w, as, rel, ?_⟩
    have h' : (match mRng1 mr w with
      | .ok ds w' => ∀ J G' H' as', Rel R H0 G0 G' w' σ H' as' → Ext as G H G' H' → (∀ a ∈ as', a ∈ as) → Walks R J ds G' → Q J H'
      | .ex x w' => ∀ cls d G' H' as', Rel R H0 G0 G' w' σ H' as' → ExcR R G' H' x cls d → Wx cls d σ H'
      | .bad => False) := h
    unfold mRng1 at h'
    cases e : mr w with
    | bad => rw [e] at h'; exact h'
    | ex x w1 => rw [e] at h'; exact h'
    | ok ds w1 =>
      rw [e] at h'
      intro vs G' H' as' rel' ext sub ls
      cases ls with
      | nil => exact h'.elim
      | @cons d ds v vs l ls =>
        cases ls with
        | cons _ _ => cases d <;> exact h'.elim
        | nil =>
          cases d with
          | int j =>
            cases l.int
            by_cases c : -(2 ^ 62) ≤ j ∧ j < 2 ^ 62
            · simp only [c, and_self, if_true] at h'
              refine ⟨j, rfl, c.1, c.2, h' _ G' H' as' rel' ext sub ?_⟩
              have := walks_range (R := R) (G := G') (lo := 0) (n := j.toNat)
              unfold rngD
              rw [Int.sub_zero]
              exact this
            · have h2 : (match (if -(2 ^ 62) ≤ j ∧ j < 2 ^ 62 then RL.ok (rngD 0 j) w1 else .bad) with
                | .ok ds w' => ∀ J G' H' as', Rel R H0 G0 G' w' σ H' as' → Ext as G H G' H' → (∀ a ∈ as', a ∈ as) → Walks R J ds G' → Q J H'
                | .ex x w' => ∀ cls d G' H' as', Rel R H0 G0 G' w' σ H' as' → ExcR R G' H' x cls d → Wx cls d σ H'
                | .bad => False) := h'
              rw [if_neg c] at h2; exact h2.elim
          | _ => exact h'.elim⟩
theorem im_range2 {p : Pos} (hg : Gl X "range") (hm : X.mg "range" = none) (ha : PLm X R Wx [a, b] mr) (hs : starEach [a, b] X.env = [(false, eval a X.env), (false, eval b X.env)] := by rfl) (hs2 : starEach [b] X.env = [(false, eval b X.env)] := by rfl) : PIm X R Wx tg (.Call (.Name "range" p) [a, b] [] pos) (mRng2 mr) :=
  ⟨fun H0 G0 => PI.cons (pi_range2 hg hm (ha.pe H0 G0) hs hs2) fun σ H Q ⟨G, w, as, rel, h⟩ => by
    refine ⟨G, w, as, rel, ?_⟩
    have h' : (match mRng2 mr w with
      | .ok ds w' => ∀ J G' H' as', Rel R H0 G0 G' w' σ H' as' → Ext as G H G' H' → (∀ a ∈ as', a ∈ as) → Walks R J ds G' → Q J H'
      | .ex x w' => ∀ cls d G' H' as', Rel R H0 G0 G' w' σ H' as' → ExcR R G' H' x cls d → Wx cls d σ H'
      | .bad => False) := h
    unfold mRng2 at h'
    cases e : mr w with
    | bad => rw [e] at h'; exact h'
    | ex x w1 => rw [e] at h'; exact h'
    | ok ds w1 =>
      rw [e] at h'
      intro vs G' H' as' rel' ext sub ls
      cases ls with
      | nil => exact h'.elim
      | @cons d ds v vs l ls =>
        cases ls with
        | nil => cases d <;> exact h'.elim
        | @cons d2 ds2 v2 vs2 l2 ls =>
          cases ls with
          | cons _ _ => cases d <;> cases d2 <;> exact h'.elim
          | nil =>
            cases d with
            | int i =>
              cases d2 with
              | int j =>
                cases l.int
                cases l2.int
                by_cases c : -(2 ^ 62) ≤ i ∧ i < 2 ^ 62 ∧ -(2 ^ 62) ≤ j ∧ j < 2 ^ 62
                · simp only [c, and_self, if_true] at h'
                  exact ⟨i, j, rfl, c, h' _ G' H' as' rel' ext sub walks_range⟩
                · have h2 : (match (if -(2 ^ 62) ≤ i ∧ i < 2 ^ 62 ∧ -(2 ^ 62) ≤ j ∧ j < 2 ^ 62 then RL.ok (rngD i j) w1 else .bad) with
                    | .ok ds w' => ∀ J G' H' as', Rel R H0 G0 G' w' σ H' as' → Ext as G H G' H' → (∀ a ∈ as', a ∈ as) → Walks R J ds G' → Q J H'
                    | .ex x w' => ∀ cls d G' H' as', Rel R H0 G0 G' w' σ H' as' → ExcR R G' H' x cls d → Wx cls d σ H'
                    | .bad => False) := h'
                  rw [if_neg c] at h2; exact h2.elim
              | _ => exact h'.elim
            | _ => cases d2 <;> exact h'.elim⟩
end
end DB

set_option Elab.async false
set_option linter.all false
set_option maxRecDepth 100000
set_option maxHeartbeats 4000000
namespace DB
open PySem PySem.Spec PyProof.Rows L2
section
variable {R R' : RC} {H0 H H' H1 : Hp} {G0 G G' G1 : Wd} {w w' w1 : W} {σ : L2.St} {as as' as1 bs : List Addr} {Wx : WX} {X : Cx}
  {a b c e tg iter : Expr} {ma mb mc m : ME} {pos : Pos} {es : List Expr} {st : Stmt} {rest body orelse : List Stmt} {m1 m2 ms : MS} {mr : MA}

/-! a list outside of all that is known is changed -/
theorem tabs_upd {T : List (Addr × Str)} {p : Addr} {xs : List V} {o : HO} (t : LamX.Tabs T H) (h : H p = some (.lst xs)) : LamX.Tabs T (upd H p o) := fun q hq => by
  obtain ⟨ps, h1, h2, h3⟩ := t q hq
  refine ⟨ps, by rw [upd_ne (ne_of h1 h (by intro z; cases z))]; exact h1, h2, fun pos cv hc => ?_⟩
  obtain ⟨c, e1, e2⟩ := h3 pos cv hc
  exact ⟨c, e1, by rw [upd_ne (ne_of e2 h (by intro z; first | cases z | (unfold LamX.CodeO at z; cases z)))]; exact e2⟩
theorem tabsC_upd {p : Addr} {xs : List V} {o : HO} (t : TabsC R G H) (h : H p = some (.lst xs)) : TabsC R G (upd H p o) := ⟨tabs_upd t.1 h, fun q hq => by
  have e := t.2.1 q hq
  rw [upd_ne (ne_of e h (by intro z; first | cases z | (unfold LamX.CodeO at z; cases z)))]; exact e, t.2.2⟩
theorem Bas.out {S : List Cell} {p : Addr} {xs : List V} {o : HO} (b : Bas R H0 G0 G S H) (h : H p = some (.lst xs)) (hz : G.Z p = none) (hs : p ∉ G.sas) (h0 : H0 p = none) : Bas R H0 G0 G S (upd H p o) where
  cells := ⟨b.cells.1, fun n c q h1 h2 => (b.cells.2 n c q h1 h2).mono (.refl _) (upd_ne fun z => hs (by rw [← z]; exact List.mem_of_getElem? h2))⟩
  nd := b.nd
  free := b.free
  sub := fun q u e => by
    rw [upd_ne (fun z => by rw [z, hz] at e; cases e)]
    exact b.sub q u e
  tabs := tabsC_upd b.tabs h
  ext := ⟨b.ext.le, fun q u e t hq => by rw [upd_ne (ne_of_none e h0)]; exact b.ext.keep q u e t hq, b.ext.newZ, b.ext.newS, fun q e => by
    by_cases z : q = p
    · rw [z]; exact h0
    · rw [upd_ne z] at e; exact b.ext.dom q e⟩
theorem Rel.out {p : Addr} {xs : List V} {o : HO} (r : Rel R H0 G0 G w σ H as) (h : H p = some (.lst xs)) (hz : G.Z p = none) (hs : p ∉ G.sas) (ha : p ∉ as) (h0 : H0 p = none) : Rel R H0 G0 G w σ (upd H p o) as where
  env := r.env.mono (.refl _) fun q hq u e => by rw [upd_ne (fun z => ha (by rw [← z]; exact hq))]; exact e
  bas := r.bas.out h hz hs h0
  nd := r.nd
  free := r.free
  fresh := r.fresh

/-! one's own list in a slot is changed -/
theorem Rel.mut {i : Nat} {ds ds' : List D} {p : Addr} {xs xs' : List V} (r : Rel R H0 G0 G w σ H as) (e : w.env[i]? = some (.own ds)) (es : σ[i]? = some (some (.ref p))) (hp : H p = some (.lst xs)) (rs' : Rps R G ds' xs') :
    ∃ as', Rel R H0 G0 G (w.put i (.own ds')) σ (upd H p (.lst xs')) as' := by
  obtain ⟨o, bs, cs, e1, e2, e3, e4, e5⟩ := r.env.at e
  rw [es] at e1
  cases e1
  cases e2 with
  | own hp' rs0 =>
    have hpa : p ∈ as := (e3 p).mpr (.inl (List.mem_singleton.mpr rfl))
    obtain ⟨n1, n2, n3⟩ := List.nodup_append.mp r.nd
    have hz := r.free p hpa
    have hs : p ∉ G.sas := fun z => n3 p hpa p z rfl
    obtain ⟨_, _, dj⟩ := e4 n1
    have hc : p ∉ cs := dj p (List.mem_singleton.mpr rfl)
    have h0 := r.fresh p hpa
    obtain ⟨as', q1, q2, q3⟩ := e5 (G' := G) (H' := upd H p (.lst xs')) (r' := .own ds') (o' := some (.ref p)) (bs' := [p]) (.refl G) (fun a ha u hu => by rw [upd_ne (fun z => hc (by rw [← z]; exact ha))]; exact hu) (.own upd_same rs') (fun a ha => by rw [List.mem_singleton.mp ha]; exact hc) (by simp)
    rw [set_same es] at q1
    have sub : ∀ a ∈ as', a ∈ as := fun a ha => (e3 a).mpr ((q2 a).mp ha)
    exact ⟨as', q1, r.bas.out hp hz hs h0, List.nodup_append.mpr ⟨q3 n1, n2, fun a ha b hb z => n3 a (sub a ha) b hb z⟩, fun a ha => r.free a (sub a ha), fun a ha => r.fresh a (sub a ha)⟩
/-- the slot's list, as it stands -/
theorem Rel.ownAt {i : Nat} {ds : List D} (r : Rel R H0 G0 G w σ H as) (e : w.env[i]? = some (.own ds)) : ∃ p xs, σ[i]? = some (some (.ref p)) ∧ H p = some (.lst xs) ∧ Rps R G ds xs := by
  obtain ⟨o, bs, cs, e1, e2, e3, e4, e5⟩ := r.env.at e
  cases e2 with
  | own hp rs => exact ⟨_, _, e1, hp, rs⟩

/-- a value as data in a statement -/
def Res.sdd (r : Res) (k : D → W → RS) : RS := r.sd fun v w => match v.frz with
  | some x => k x w
  | none => .bad
theorem lift_sdd {k : D → W → RS} {D' : Ends} {Q : VK} (rel : Rel R H0 G0 G w σ H as) (h : PostS R H0 G0 Wx G ((m w).sdd k) D')
    (c : ∀ x v G1 H1 as1 w1, Rel R H0 G0 G1 w1 σ H1 as1 → Ext as G H G1 H1 → (∀ a ∈ as1, a ∈ as) → Rp R G1 x v → PostS R H0 G0 Wx G1 (k x w1) D' → Q v H1) : liftE R Wx H0 G0 m σ H Q := by
  refine lift_sd rel h fun rv v G1 H1 as1 bs w1 rel1 ext sub sl lo fr h1 => ?_
  have h' : PostS R H0 G0 Wx G1 (match rv.frz with
    | some x => k x w1
    | none => .bad) D' := h1
  cases ef : rv.frz with
  | none => rw [ef] at h'; exact h'.elim
  | some x =>
    rw [ef] at h'
    obtain ⟨G2, rel2, ext2, rp⟩ := frz_tmp rel1 sl lo ef
    exact c x v G2 H1 as1 w1 rel2 (ext.trans fr ext2) sub rp (PostS.up h' ext2.le)

/-! xs.append(e), xs[k] = e, xs[k] op= e -/
def appRS (i : Nat) (y : D) (w : W) : RS := match w.env[i]? with
  | some (.own ds) => if ds.length < sizeLine then .nx (w.put i (.own (ds ++ [y]))) else .bad
  | _ => .bad
def hasOwn (w : W) (i : Nat) : Bool := match w.env[i]? with
  | some (.own _) => true
  | _ => false
def mApp (i : Nat) (m : ME) : MS := fun w => if hasOwn w i = true then (m w).sdd (appRS i) else .bad
theorem hasOwn_at {i : Nat} (h : hasOwn w i = true) : ∃ ds, w.env[i]? = some (.own ds) := by
  unfold hasOwn at h
  cases e : w.env[i]? with
  | none => rw [e] at h; cases h
  | some r => rw [e] at h; cases r <;> first | exact ⟨_, rfl⟩ | cases h
theorem sm_app (i : Nat) {x : Str} {p apos epos : Pos} (hN : X.N[i]? = some x := by rfl) (hv : Vis X.env.scope x := by first | exact Or.inl rfl | exact Or.inr (Or.inl rfl) | exact Or.inr (Or.inr rfl)) (he : PEm X R Wx e m) (hd : (x == ("__debug__" : Str)) = false := by decide)
    (hcd : (x == ("__classdict__" : Str)) = false := by decide) (hbase : attributeBase (.Name x p) "append" X.env (eval (.Name x p) X.env) = eval (.Name x p) X.env := by rfl)
    (hfew : ((backTo pos (starEach [e] X.env)).all (fun x => !x.1) && (backToKw pos (keywordEach [] X.env)).all (fun x => x.1.isSome)
      && decide (([e] : List Expr).length + ([] : List Keyword).length + (if ([] : List Keyword).isEmpty then 0 else 1) < 30)) = true := by rfl)
    (hline : (apos.endLine == pos.line) = true := by rfl) (hs : starEach [e] X.env = (false, eval e X.env) :: starEach [] X.env := by rfl) (hplain : (backTo pos (starEach [] X.env)).any (·.1) = false := by rfl)
    (hsw : swapsWith (.Call (.Attribute (.Name x p) "append" apos) [e] [] pos) none epos.line X.env = pure false := by rfl) :
    PSm X R Wx (.Expr (.Call (.Attribute (.Name x p) "append" apos) [e] [] pos) epos) (mApp i m) :=
  ⟨fun H0 G0 => PS.cons (ps_expr (pe_bm PySem.F.plainAttrs_list PySem.F.slot_list_append PySem.F.type_list_append mt_append (pe_var hN hv hd hcd) (pa_cons (he.pe H0 G0) pa_nil hs) hbase hfew hline hs hplain) hsw) fun D' σ H ⟨G, w, as, rel, h⟩ => by
    have h' : PostS R H0 G0 Wx G (mApp i m w) D' := h
    unfold mApp at h'
    by_cases ho : hasOwn w i = true
    · rw [if_pos ho] at h'
      obtain ⟨ds0, e0⟩ := hasOwn_at ho
      obtain ⟨p0, xs0, es0, hp0, _⟩ := rel.ownAt e0
      refine ⟨_, es0, .inl ⟨rfl, _, .inl (.inl hp0)⟩, ?_⟩
      show liftE R Wx H0 G0 m σ H _
      refine lift_sdd rel h' fun y v G1 H1 as1 w1 rel1 ext sub rp h1 => ?_
      unfold appRS at h1
      cases e1 : w1.env[i]? with
      | none => rw [e1] at h1; exact h1.elim
      | some r =>
        rw [e1] at h1
        cases r with
        | own ds =>
          obtain ⟨p1, xs, es1, hp1, rs⟩ := rel1.ownAt e1
          rw [es0] at es1
          cases es1
          by_cases c : ds.length < sizeLine
          · simp only [c, if_true] at h1
            obtain ⟨as2, rel2⟩ := rel1.mut e1 es0 hp1 (rs.append (.cons rp .nil))
            exact ⟨_, xs, v, rfl, rfl, hp1, by rw [← rs.length]; exact c, h1 σ G1 _ as2 rel2 (.refl _)⟩
          · have h2 : PostS R H0 G0 Wx G1 (if ds.length < sizeLine then .nx (w1.put i (.own (ds ++ [y]))) else .bad) D' := h1
            rw [if_neg c] at h2; exact h2.elim
        | _ => exact h1.elim
    · rw [if_neg ho] at h'; exact h'.elim⟩
def setIx (i : Nat) (y k : D) (w : W) : RS := match k, w.env[i]? with
  | .int j, some (.own ds) => match ixN ds.length j with
    | some n => .nx (w.put i (.own (ds.set n y)))
    | none => .bad
  | _, _ => .bad
def mSetIx (i : Nat) (mk m : ME) : MS := fun w => (m w).sdd fun y w1 => if hasOwn w1 i = true then (mk w1).sdd fun k w2 => setIx i y k w2 else .bad
theorem sm_setIx (i : Nat) {x : Str} {k : Expr} {mk : ME} {p spos : Pos} (hN : X.N[i]? = some x := by rfl) (hv : Vis X.env.scope x := by first | exact Or.inl rfl | exact Or.inr (Or.inl rfl) | exact Or.inr (Or.inr rfl)) (hk : PEm X R Wx k mk) (he : PEm X R Wx e m) (hd : (x == ("__debug__" : Str)) = false := by decide)
    (hcd : (x == ("__classdict__" : Str)) = false := by decide) (hs : swapsWithSole [.Subscript (.Name x p) k spos] e pos.line X.env = pure false := by rfl) (hw : swappedStores [.Subscript (.Name x p) k spos] e X.env = pure none := by rfl)
    (h1 : (assignEach [.Subscript (.Name x p) k spos] X.env).map (·.2) = [assign (.Subscript (.Name x p) k spos) X.env] := by rfl)
    (hasg : ∀ v, assign (.Subscript (.Name x p) k spos) X.env v = (do
      let ov ← holding [v] (eval (.Name x p) X.env)
      let iv ← holding [v, ov] (eval k X.env)
      standAt spos
      holding [v, ov, iv] (setItem ov iv v)
      release [v, ov, iv] []) := by intro _; rfl) :
    PSm X R Wx (.Assign [.Subscript (.Name x p) k spos] e pos) (mSetIx i mk m) :=
  ⟨fun H0 G0 => PS.cons (ps_asg (he.pe H0 G0) (pg_sub (pe_var hN hv hd hcd) (hk.pe H0 G0) set_list hasg) hs hw h1) fun D' σ H ⟨G, w, as, rel, h⟩ => by
    refine lift_sdd rel h fun y v G1 H1 as1 w1 rel1 ext sub rp h1 => ?_
    by_cases ho : hasOwn w1 i = true
    · rw [if_pos ho] at h1
      obtain ⟨ds0, e0⟩ := hasOwn_at ho
      obtain ⟨p0, xs0, es0, hp0, _⟩ := rel1.ownAt e0
      refine ⟨_, es0, ?_⟩
      refine lift_sdd rel1 h1 fun kk vk G2 H2 as2 w2 rel2 ext2 sub2 rpk h2 => ?_
      unfold setIx at h2
      cases e1 : w2.env[i]? with
      | none => rw [e1] at h2; cases kk <;> exact h2.elim
      | some r =>
        rw [e1] at h2
        cases kk with
        | int j =>
          cases rpk
          cases r with
          | own ds =>
            obtain ⟨p1, xs, es1, hp1, rs⟩ := rel2.ownAt e1
            rw [es0] at es1
            cases es1
            cases en : ixN ds.length j with
            | none => simp only [en] at h2; exact h2.elim
            | some n =>
              simp only [en] at h2
              obtain ⟨as3, rel3⟩ := rel2.mut e1 es0 hp1 (rs.set (rp.mono ext2.le) n)
              exact ⟨_, xs, j, n, rfl, rfl, hp1, by rw [← rs.length]; exact en, h2 σ G2 _ as3 rel3 (.refl _)⟩
          | _ => exact h2.elim
        | _ => exact h2.elim
    · rw [if_neg ho] at h1; exact h1.elim⟩

/-! name op= e -/
def augRS (i : Nat) (g : D → D → Option RV) (x y : D) (w : W) : RS := match g x y with
  | some rv => setRV i rv w
  | none => .bad
def mAug (i : Nat) (g : D → D → Option RV) (m : ME) : MS := fun w => match w.env[i]? with
  | some (.d x) => (m w).sdd fun y w1 => augRS i g x y w1
  | _ => .bad
theorem sm_aug {i : Nat} {x : Str} {op : Operator} {g : D → D → Option RV} {pos' : Pos} (o : OpM X R (inplaceOp op) g) (hN : X.N.Nodup) (hi : X.N[i]? = some x) (hx : Loc X.env.scope x) (he : PEm X R Wx e m) (hf : X.fn x = true ∨ X.env.scope.names.lookup x = some .local := by first | exact .inl rfl | exact .inr rfl | assumption) :
    PSm X R Wx (.AugAssign (.Name x pos') op e pos) (mAug i g m) := by
  obtain ⟨r, ho, hv⟩ := o.ex
  refine ⟨fun H0 G0 => PS.cons (ps_aug hN hi hx (he.pe H0 G0) (ti := r) ho hf) fun D' σ H ⟨G, w, as, rel, h⟩ => ?_⟩
  have h' : PostS R H0 G0 Wx G (mAug i g m w) D' := h
  unfold mAug at h'
  cases e1 : w.env[i]? with
  | none => rw [e1] at h'; exact h'.elim
  | some rv =>
    rw [e1] at h'
    cases rv with
    | d x =>
      obtain ⟨o, bs, cs, e2, e3, _⟩ := rel.env.at e1
      cases e3 with
      | @d x v rx =>
        refine ⟨v, e2, ?_⟩
        refine lift_sdd rel h' fun y u G1 H1 as1 w1 rel1 ext sub ry h1 => ?_
        unfold augRS at h1
        cases eg : g x y with
        | none => rw [eg] at h1; exact h1.elim
        | some rv =>
          rw [eg] at h1
          refine hv rel1.bas.sub (.rp (rx.mono ext.le)) (.rp ry) eg fun z G2 H2 bs2 p sl lo => ?_
          have rel2 := rel1.pext p
          refine set_post rel2 sl (fun b hb => ?_) (PostS.up h1 p.le)
          obtain ⟨l1, l2⟩ := lo b hb
          refine ⟨l2, fun z => ?_, fun z => ?_, rel1.bas.ext.dom b l1⟩
          · rw [p.s] at z
            obtain ⟨u, hu⟩ := rel1.bas.cells.has b z
            rw [hu] at l1; cases l1
          · obtain ⟨u, hu⟩ := rel1.env.has b z
            rw [hu] at l1; cases l1
    | _ => exact h'.elim
def gIMul (x y : D) : Option RV := match x, y with
  | .int i, .int j => if CMul i j then iO (i * j) else none
  | _, _ => none
def gIAdd (x y : D) : Option RV := match x, y with
  | .int i, .int j => iO (i + j)
  | _, _ => none
theorem oi_add : OpM X R (inplaceOp .Add) gIAdd := by
  refine ⟨_, iop_add, fun {G H x y vx vy rv Q} s rx ry e h => ?_⟩
  unfold gIAdd at e
  split at e
  · cases rx.int; cases ry.int; cases e
    exact ⟨_, _, rfl, rfl, h.sc s .int⟩
  · cases e
theorem oi_sub : OpM X R (inplaceOp .Sub) gSub := by
  refine ⟨_, iop_sub, fun {G H x y vx vy rv Q} s rx ry e h => ?_⟩
  unfold gSub at e
  split at e
  · cases rx.int; cases ry.int; cases e
    exact ⟨_, _, rfl, rfl, h.sc s .int⟩
  · cases e
theorem oi_mul : OpM X R (inplaceOp .Mult) gIMul := by
  refine ⟨_, iop_mul, fun {G H x y vx vy rv Q} s rx ry e h => ?_⟩
  unfold gIMul at e
  split at e
  · cases rx.int; cases ry.int
    split at e
    · rename_i c; cases e
      exact ⟨_, _, rfl, rfl, c, h.sc s .int⟩
    · cases e
  · cases e
end
end DB

set_option Elab.async false
set_option linter.all false
set_option maxRecDepth 100000
set_option maxHeartbeats 4000000
namespace DB
open PySem PySem.Spec PyProof.Rows L2
section
variable {R R' : RC} {H0 H H' H1 : Hp} {G0 G G' G1 : Wd} {w w' w1 : W} {σ : L2.St} {as as' as1 bs : List Addr} {Wx : WX} {X : Cx}
  {a b c e tg iter : Expr} {ma mb mc m : ME} {pos : Pos} {es : List Expr} {st : Stmt} {rest body orelse : List Stmt} {m1 m2 ms : MS} {mr : MA}

/-! xs[k] op= e -/
theorem get_list : PGet X (rIxL X.K) := by
  intro pins s σ H x y v u Q I rx ry h
  obtain ⟨p, xs, i, z, rfl, rfl, hq, he, q⟩ := h
  cases rx
  obtain ⟨t, rfl⟩ := ry
  obtain ⟨its, r, pl, hz⟩ := I.list hq
  obtain ⟨j, h1, h2, h3, h4, h5⟩ := atI_get he
  obtain ⟨w, ew, rw'⟩ := r.get h2
  have hl := r.length
  have hn := line63
  have fin : EP X pins σ Q w s := ⟨z, H, I, rw', q⟩
  by_cases h0 : 0 ≤ i
  · have hj : i.toNat = j := by
      rw [seqIndex_of h0 h5] at h1
      exact Option.some.inj h1
    exact wpAny_getItem_list pl.isList h0 (by omega) (by rw [hj]; simpa using ew) fin
  · have hj : (i + (its.toArray.size : Int)).toNat = j := by
      rw [seqIndex_neg (by omega) h4] at h1
      rw [List.size_toArray, ← hl]
      exact Option.some.inj h1
    exact wpAny_getItem_list_neg pl.isList (by omega) (by rw [List.size_toArray] <;> omega) (by omega) (by rw [hj]; simpa using ew) fin
def augIx (i : Nat) (g : D → D → Option RV) (k x y : D) (w : W) : RS := match g x y with
  | some (.d z) => setIx i z k w
  | _ => .bad
def mAugIx (i : Nat) (g : D → D → Option RV) (mk m : ME) : MS := fun w => if hasOwn w i = true then (mk w).sdd fun k w1 => match k, w1.env[i]? with
    | .int j, some (.own ds) => match L2.atI ds j with
      | some x => (m w1).sdd fun y w2 => augIx i g k x y w2
      | none => .bad
    | _, _ => .bad
  else .bad
theorem setIx_post {i : Nat} {y k : D} {vy vk : V} {p : Addr} {D' : Ends} (rel : Rel R H0 G0 G w σ H as) (es : σ[i]? = some (some (.ref p))) (ry : Rp R G y vy) (rk : Rp R G k vk) (h : PostS R H0 G0 Wx G (setIx i y k w) D') :
    rSetL (.ref p) vk vy H fun H' => D'.nx σ H' := by
  unfold setIx at h
  cases e1 : w.env[i]? with
  | none => rw [e1] at h; cases k <;> exact h.elim
  | some r =>
    rw [e1] at h
    cases k with
    | int j =>
      cases rk
      cases r with
      | own ds =>
        obtain ⟨p1, xs, es1, hp1, rs⟩ := rel.ownAt e1
        rw [es] at es1
        cases es1
        cases en : ixN ds.length j with
        | none => simp only [en] at h; exact h.elim
        | some n =>
          simp only [en] at h
          obtain ⟨as3, rel3⟩ := rel.mut e1 es hp1 (rs.set ry n)
          exact ⟨_, xs, j, n, rfl, rfl, hp1, by rw [← rs.length]; exact en, h σ G _ as3 rel3 (.refl _)⟩
      | _ => exact h.elim
    | _ => exact h.elim
theorem sm_augIx (i : Nat) {x : Str} {k : Expr} {mk : ME} {p spos : Pos} {op : Operator} {g : D → D → Option RV} (o : OpM X R (inplaceOp op) g) (ag : Ag X R) (hN : X.N[i]? = some x := by rfl) (hv : Vis X.env.scope x := by first | exact Or.inl rfl | exact Or.inr (Or.inl rfl) | exact Or.inr (Or.inr rfl)) (hk : PEm X R Wx k mk) (he : PEm X R Wx e m) (hd : (x == ("__debug__" : Str)) = false := by decide)
    (hcd : (x == ("__classdict__" : Str)) = false := by decide) (ha : ∀ ov iv new, augStore k ov iv new = (do holding [new, ov, iv] (setItem ov iv new); release [new, ov, iv] []; pure .next) := by intros; rfl) :
    PSm X R Wx (.AugAssign (.Subscript (.Name x p) k spos) op e pos) (mAugIx i g mk m) := by
  obtain ⟨r, ho, hv2⟩ := o.ex
  refine ⟨fun H0 G0 => PS.cons (ps_augS (pe_var hN hv hd hcd) (hk.pe H0 G0) get_list (he.pe H0 G0) (tip := r) ho set_list ha) fun D' σ H ⟨G, w, as, rel, h⟩ => ?_⟩
  have h' : PostS R H0 G0 Wx G (mAugIx i g mk m w) D' := h
  unfold mAugIx at h'
  by_cases hw : hasOwn w i = true
  · rw [if_pos hw] at h'
    obtain ⟨ds0, e0⟩ := hasOwn_at hw
    obtain ⟨p0, xs0, es0, hp0, _⟩ := rel.ownAt e0
    refine ⟨_, es0, ?_⟩
    refine lift_sdd rel h' fun kk vk G1 H1 as1 w1 rel1 ext sub rpk h1 => ?_
    cases e1 : w1.env[i]? with
    | none => rw [e1] at h1; cases kk <;> exact h1.elim
    | some rv =>
      rw [e1] at h1
      cases kk with
      | int j =>
        cases rpk
        cases rv with
        | own ds =>
          obtain ⟨p1, xs, es1, hp1, rs⟩ := rel1.ownAt e1
          rw [es0] at es1
          cases es1
          cases ea : L2.atI ds j with
          | none => simp only [ea] at h1; exact h1.elim
          | some x =>
            simp only [ea] at h1
            obtain ⟨v, ev, rx⟩ := rs.atI ea
            refine ⟨_, xs, j, v, rfl, rfl, .inl (.inl hp1), ev, ?_⟩
            refine lift_sdd rel1 h1 fun y u G2 H2 as2 w2 rel2 ext2 sub2 ry h2 => ?_
            unfold augIx at h2
            cases eg : g x y with
            | none => rw [eg] at h2; exact h2.elim
            | some rz =>
              rw [eg] at h2
              cases rz with
              | d z =>
                refine hv2 rel2.bas.sub (.rp (rx.mono ext2.le)) (.rp ry) eg fun vz G3 H3 bs2 p sl lo => ?_
                cases sl with
                | d rz => exact setIx_post (rel2.pext p) es0 rz .int (PostS.up h2 p.le)
              | _ => exact h2.elim
        | _ => exact h1.elim
      | _ => exact h1.elim
  · rw [if_neg hw] at h'; exact h'.elim

/-! built-in functions -/
theorem Lives.one {x : D} {vs : List V} (l : Lives R G H [x] vs) : ∃ v, vs = [v] ∧ Live R G H x v := by
  cases l with
  | cons h t => cases t; exact ⟨_, rfl, h⟩
theorem Lives.two {x y : D} {vs : List V} (l : Lives R G H [x, y] vs) : ∃ v u, vs = [v, u] ∧ Live R G H x v ∧ Live R G H y u := by
  cases l with
  | cons h t => obtain ⟨u, rfl, h2⟩ := t.one; exact ⟨_, u, rfl, h, h2⟩
/-- a function of one value -/
def g1 (g : D → Option RV) (xs : List D) : Option RV := match xs with
  | [x] => g x
  | _ => none
def g2 (g : D → D → Option RV) (xs : List D) : Option RV := match xs with
  | [x, y] => g x y
  | _ => none
theorem Live.seq {ds : List D} {v : V} {x : D} (l : Live R G H x v) (s : Same G.Z H) (h : (x = .lst ds ∨ x = .scr ds) ∨ x = .tup ds) : ∃ p xs, v = .ref p ∧ (SqL R.K H p xs ∨ SqT R.K H p xs) ∧ Rps R G ds xs := by
  rcases h with (rfl | rfl) | rfl
  · obtain ⟨p, xs, e, h, r⟩ := l.lst s; exact ⟨p, xs, e, .inl (.inl (.inl h)), r⟩
  · cases l with
    | rp r => cases r with
      | scr h r => exact ⟨_, _, rfl, .inl (Same.seq s h), r⟩
  · obtain ⟨p, xs, e, h, r, _⟩ := l.tup s; exact ⟨p, xs, e, .inr h, r⟩
def gLen (x : D) : Option RV := match x with
  | .lst ds => iO ds.length
  | .scr ds => iO ds.length
  | .tup ds => iO ds.length
  | .str z => if z.length ≤ sizeLine then iO z.length else none
  | _ => none
theorem CallR.or {f : Value} {r r' : List V → Hp → VK → Prop} (h : CallR X f r) (h' : CallR X f r') : CallR X f (fun xs H Q => r xs H Q ∨ r' xs H Q) := by
  intro pins s σ H xs us Q I rx q
  rcases q with q | q
  · exact h pins s σ H xs us Q I rx q
  · exact h' pins s σ H xs us Q I rx q
theorem g1_inv {g : D → Option RV} {xs : List D} {rv : RV} (e : g1 g xs = some rv) : ∃ x, xs = [x] ∧ g x = some rv := by
  unfold g1 at e
  split at e
  · exact ⟨_, rfl, e⟩
  · cases e
theorem g2_inv {g : D → D → Option RV} {xs : List D} {rv : RV} (e : g2 g xs = some rv) : ∃ x y, xs = [x, y] ∧ g x y = some rv := by
  unfold g2 at e
  split at e
  · exact ⟨_, _, rfl, e⟩
  · cases e
theorem cm_len (ag : Ag X R) : CalM X R (.builtin "len") (g1 gLen) := by
  refine ⟨_, call_len_seq.or call_len_str, fun {G H xs vs rv Q} s ls e h => ?_⟩
  obtain ⟨x, rfl, e2⟩ := g1_inv e
  clear e
  have e := e2
  clear e2
  obtain ⟨v, rfl, l⟩ := ls.one
  have go : ∀ ds, ((x = .lst ds ∨ x = .scr ds) ∨ x = .tup ds) → iO ds.length = some rv → ∃ p ys, [v] = [V.ref p] ∧ (SqL X.K H p ys ∨ SqT X.K H p ys) ∧ Q (.int ys.length) H := fun ds hd e => by
    obtain ⟨p, ys, rfl, hs, rs⟩ := l.seq s hd
    cases e
    exact ⟨p, ys, rfl, by rw [ag.K]; exact hs, by rw [← rs.length]; exact h.sc s .int⟩
  unfold gLen at e
  split at e
  · exact .inl (go _ (.inl (.inl rfl)) e)
  · exact .inl (go _ (.inl (.inr rfl)) e)
  · exact .inl (go _ (.inr rfl) e)
  · split at e
    · rename_i c
      cases l.str
      cases e
      exact .inr ⟨_, rfl, c, h.sc s .int⟩
    · cases e
  · cases e
def gList (x : D) : Option RV := match x with
  | .lst ds => some (.own ds)
  | .scr ds => some (.own ds)
  | .tup ds => some (.own ds)
  | _ => none
def gTuple (x : D) : Option RV := match x with
  | .lst ds => some (.d (.tup ds))
  | .tup ds => some (.d (.tup ds))
  | _ => none
theorem cm_list (ag : Ag X R) : CalM X R (.type "list") (g1 gList) := by
  refine ⟨_, call_list_of, fun {G H xs vs rv Q} s ls e h => ?_⟩
  obtain ⟨x, rfl, e2⟩ := g1_inv e
  clear e
  have e := e2
  clear e2
  obtain ⟨v, rfl, l⟩ := ls.one
  have go : ∀ ds, ((x = .lst ds ∨ x = .scr ds) ∨ x = .tup ds) → some (RV.own ds) = some rv → ∃ p ys, [v] = [V.ref p] ∧ (SqL X.K H p ys ∨ SqT X.K H p ys) ∧ ∀ l, H l = none → Q (.ref l) (upd H l (.lst ys)) := fun ds hd e => by
    obtain ⟨p, ys, rfl, hs, rs⟩ := l.seq s hd
    cases e
    exact ⟨p, ys, rfl, by rw [ag.K]; exact hs, h.own s rs⟩
  unfold gList at e
  split at e
  · exact go _ (.inl (.inl rfl)) e
  · exact go _ (.inl (.inr rfl)) e
  · exact go _ (.inr rfl) e
  · cases e
theorem cm_tuple (ag : Ag X R) : CalM X R (.type "tuple") (g1 gTuple) := by
  refine ⟨_, call_tuple_of, fun {G H xs vs rv Q} s ls e h => ?_⟩
  obtain ⟨x, rfl, e2⟩ := g1_inv e
  clear e
  have e := e2
  clear e2
  obtain ⟨v, rfl, l⟩ := ls.one
  unfold gTuple at e
  split at e
  · obtain ⟨p, ys, rfl, hs, rs⟩ := l.lst s
    cases e
    exact ⟨p, ys, rfl, .inl ⟨.inl (.inl hs), h.tup s rs⟩⟩
  · obtain ⟨p, ys, rfl, hs, rs, rp⟩ := l.tup s
    cases e
    exact ⟨p, ys, rfl, .inr ⟨by rw [ag.K]; exact hs, h.sc s rp⟩⟩
  · cases e
def intsD : List D → Option (List Int)
  | [] => some []
  | .int i :: ds => (intsD ds).map (i :: ·)
  | _ :: _ => none
def blsD : List D → Option (List Bool)
  | [] => some []
  | .bl i :: ds => (blsD ds).map (i :: ·)
  | _ :: _ => none
theorem intsD_rp : ∀ {ds : List D} {ns : List Int} {vs : List V}, intsD ds = some ns → Rps R G ds vs → vs = ns.map V.int
  | [], ns, _, e, .nil => by cases e; rfl
  | .int i :: ds, ns, _, e, .cons r rs => by
    obtain ⟨ms, e1, rfl⟩ := Option.map_eq_some_iff.mp (show (intsD ds).map (i :: ·) = some ns from e)
    cases r
    rw [intsD_rp e1 rs] <;> rfl
theorem blsD_rp : ∀ {ds : List D} {ns : List Bool} {vs : List V}, blsD ds = some ns → Rps R G ds vs → vs = ns.map V.bl
  | [], ns, _, e, .nil => by cases e; rfl
  | .bl i :: ds, ns, _, e, .cons r rs => by
    obtain ⟨ms, e1, rfl⟩ := Option.map_eq_some_iff.mp (show (blsD ds).map (i :: ·) = some ns from e)
    cases r
    rw [blsD_rp e1 rs] <;> rfl
def gSum (x : D) : Option RV := match x with
  | .lst ds => (intsD ds).map fun ns => .d (.int ns.sum)
  | _ => none
def gAny (x : D) : Option RV := match x with
  | .lst ds => (blsD ds).map fun ns => .d (.bl (ns.any id))
  | _ => none
def gAll (x : D) : Option RV := match x with
  | .lst ds => (blsD ds).map fun ns => .d (.bl (ns.all id))
  | _ => none
theorem cm_sum (hc : X.calm = true) : CalM X R (.builtin "sum") (g1 gSum) := by
  refine ⟨_, cr_sum hc, fun {G H xs vs rv Q} s ls e h => ?_⟩
  obtain ⟨x, rfl, e2⟩ := g1_inv e
  clear e
  have e := e2
  clear e2
  obtain ⟨v, rfl, l⟩ := ls.one
  unfold gSum at e
  split at e
  · obtain ⟨p, ys, rfl, hs, rs⟩ := l.lst s
    obtain ⟨ns, e1, rfl⟩ := Option.map_eq_some_iff.mp e
    cases intsD_rp e1 rs
    exact ⟨p, ns, rfl, .inl (.inl hs), h.sc s .int⟩
  · cases e
theorem cm_any (hc : X.calm = true) : CalM X R (.builtin "any") (g1 gAny) := by
  refine ⟨_, cr_any hc, fun {G H xs vs rv Q} s ls e h => ?_⟩
  obtain ⟨x, rfl, e2⟩ := g1_inv e
  clear e
  have e := e2
  clear e2
  obtain ⟨v, rfl, l⟩ := ls.one
  unfold gAny at e
  split at e
  · obtain ⟨p, ys, rfl, hs, rs⟩ := l.lst s
    obtain ⟨ns, e1, rfl⟩ := Option.map_eq_some_iff.mp e
    cases blsD_rp e1 rs
    exact ⟨p, ns, rfl, .inl (.inl hs), h.sc s .bl⟩
  · cases e
theorem cm_all (hc : X.calm = true) : CalM X R (.builtin "all") (g1 gAll) := by
  refine ⟨_, cr_all hc, fun {G H xs vs rv Q} s ls e h => ?_⟩
  obtain ⟨x, rfl, e2⟩ := g1_inv e
  clear e
  have e := e2
  clear e2
  obtain ⟨v, rfl, l⟩ := ls.one
  unfold gAll at e
  split at e
  · obtain ⟨p, ys, rfl, hs, rs⟩ := l.lst s
    obtain ⟨ns, e1, rfl⟩ := Option.map_eq_some_iff.mp e
    cases blsD_rp e1 rs
    exact ⟨p, ns, rfl, .inl (.inl hs), h.sc s .bl⟩
  · cases e
def gMin2 (x y : D) : Option RV := match x, y with
  | .int i, .int j => iO (if j < i then j else i)
  | _, _ => none
def gMax2 (x y : D) : Option RV := match x, y with
  | .int i, .int j => iO (if j > i then j else i)
  | _, _ => none
theorem cm_min2 (hc : X.calm = true) : CalM X R (.builtin "min") (g2 gMin2) := by
  refine ⟨_, call_min2 hc, fun {G H xs vs rv Q} s ls e h => ?_⟩
  obtain ⟨x, y, rfl, e2⟩ := g2_inv e
  clear e
  have e := e2
  clear e2
  obtain ⟨v, u, rfl, l1, l2⟩ := ls.two
  unfold gMin2 at e
  split at e
  · cases l1.int; cases l2.int; cases e
    exact ⟨_, _, rfl, h.sc s .int⟩
  · cases e
theorem cm_max2 (hc : X.calm = true) : CalM X R (.builtin "max") (g2 gMax2) := by
  refine ⟨_, call_max2 hc, fun {G H xs vs rv Q} s ls e h => ?_⟩
  obtain ⟨x, y, rfl, e2⟩ := g2_inv e
  clear e
  have e := e2
  clear e2
  obtain ⟨v, u, rfl, l1, l2⟩ := ls.two
  unfold gMax2 at e
  split at e
  · cases l1.int; cases l2.int; cases e
    exact ⟨_, _, rfl, h.sc s .int⟩
  · cases e
def gInt (x : D) : Option RV := match x with
  | .int i => iO i
  | .bl k => iO (if k then 1 else 0)
  | _ => none
theorem cm_int : CalM X R (.type "int") (g1 gInt) := by
  refine ⟨_, call_int1, fun {G H xs vs rv Q} s ls e h => ?_⟩
  obtain ⟨x, rfl, e2⟩ := g1_inv e
  clear e
  have e := e2
  clear e2
  obtain ⟨v, rfl, l⟩ := ls.one
  unfold gInt at e
  split at e
  · cases l.int; cases e
    exact .inl ⟨_, rfl, h.sc s .int⟩
  · cases l.bl; cases e
    exact .inr ⟨_, rfl, h.sc s .int⟩
  · cases e
/-! isinstance -/
def tyN : D → String
  | .non => "NoneType"
  | .bl _ => "bool"
  | .int _ => "int"
  | .str _ => "str"
  | .tup _ => "tuple"
  | .lst _ => "list"
  | .scr _ => "list"
  | _ => ""
def isTyN (T n : String) : Bool := n == T || (n == "bool" && T == "int")
def isTy (T : String) (x : D) : Bool := isTyN T (tyN x)
def hasTy (x : D) : Bool := tyN x != ""
theorem Live.ty {x : D} {v : V} (l : Live R G H x v) (s : Same G.Z H) (hy : hasTy x = true) : TyX R.K H v (.type (tyN x)) := by
  have t : ∀ {p xs}, SqT R.K H p xs → TyX R.K H (.ref p) (.type "tuple") := fun {p xs} q => by
    rcases q with (q | ⟨o, q⟩) | ⟨o, its, n, q, hc, _⟩
    · exact .base (.tup q)
    · exact .fTuple q
    · exact .kTuple q hc
  have t2 : ∀ {p xs}, SqL R.K H p xs → TyX R.K H (.ref p) (.type "list") := fun {p xs} q => by
    rcases q with (q | ⟨o, q⟩) | ⟨o, its, n, q, hc, _⟩
    · exact .base (.lst q)
    · exact .base (.frz q)
    · exact .kList q hc
  cases l with
  | own h _ _ => exact .base (.lst h)
  | odic _ _ _ _ => cases hy
  | rp r =>
    cases r with
    | non => exact .base .non
    | bl => exact .base (.bl _)
    | int => exact .base (.int _)
    | str => exact .base (.str _)
    | tup h _ => exact t (Same.seqT s h)
    | lst h _ => exact .base (.lst (s _ _ h))
    | scr h _ => exact t2 (Same.seq s h)
    | dic _ _ _ => cases hy
    | obj _ _ _ _ => cases hy
    | cell _ => cases hy
    | fn _ _ => cases hy
def mIsi (T : String) (m : ME) : ME := fun w => (m w).bd fun x w1 => if hasTy x = true then .ok (.d (.bl (isTy T x))) w1 else .bad
theorem kit_all : ∀ T ∈ ["int", "bool", "str", "tuple", "list"], ∀ n ∈ ["NoneType", "bool", "int", "str", "tuple", "list"], kitB n T = some (isTyN T n) := by decide +kernel
theorem tyN_mem {x : D} (h : hasTy x = true) : tyN x ∈ ["NoneType", "bool", "int", "str", "tuple", "list"] := by
  cases x <;> first | (cases h; done) | simp [tyN]
theorem kit_D {K : PySem.W.Frag} {T : String} (hT : T ∈ ["int", "bool", "str", "tuple", "list"]) (x : D) (h : hasTy x = true) : PySem.W.kitOne K (.type (tyN x)) (.type T) = some (isTy T x) := kit_ty (kit_all T hT _ (tyN_mem h))
theorem em_isi {T : String} {t : Str} {p p2 : Pos} (ag : Ag X R) (hT : T ∈ ["int", "bool", "str", "tuple", "list"]) (hg : Gl X "isinstance") (hm : X.mg "isinstance" = none) (hg2 : Gl X t) (hm2 : X.mg t = none) (hv2 : bootBuiltins t = some (.type T)) (ha : POm X R Wx a m)
    (hn2 : t ≠ "__name__" := by decide) (hd2 : (t == ("__debug__" : Str)) = false := by decide)
    (h1 : starEach [a, .Name t p2] X.env = (false, eval a X.env) :: starEach [.Name t p2] X.env := by rfl) (hpl : (backTo pos (starEach [.Name t p2] X.env)).any (·.1) = false := by rfl) :
    PEm X R Wx (.Call (.Name "isinstance" p) [a, .Name t p2] [] pos) (mIsi T m) :=
  ⟨fun H0 G0 => PE.cons (pe_callB call_isi hg hm (by decide +kernel) (pa_cons (ha.pe H0 G0) (pa_cons (pe_bltn hg2 hm2 hv2 (v := .ty T) rfl hn2 hd2) pa_nil) h1) (by decide) (by decide) h1 hpl) fun σ H Q ⟨G, w, as, rel, h⟩ => by
    refine lift_bo rel h fun v x G1 H1 as1 w1 rel1 ext lv h1 => ?_
    by_cases c : hasTy x = true
    · rw [if_pos c] at h1
      exact ⟨v, .ty T, .type (tyN x), .type T, isTy T x, rfl, .ty T, by rw [ag.K]; exact lv.ty rel1.bas.sub c, kit_D hT x c, PostE.bl rel1 h1⟩
    · rw [if_neg c] at h1; exact h1.elim⟩
end
end DB

set_option Elab.async false
set_option linter.all false
set_option maxRecDepth 100000
set_option maxHeartbeats 4000000
namespace DB
open PySem PySem.Spec PyProof.Rows L2
section
variable {R R' : RC} {H0 H H' H1 : Hp} {G0 G G' G1 : Wd} {w w' w1 : W} {σ σ' : L2.St} {as as' as1 bs : List Addr} {Wx : WX} {X : Cx}
  {a b c e elt tg iter : Expr} {ma mb mc m : ME} {pos : Pos} {es ifs : List Expr} {st : Stmt} {rest body orelse : List Stmt} {m1 m2 ms : MS} {mr : MA}

/-! a comprehension's own slots -/
def plainRV : RV → Bool
  | .un => true
  | .d _ => true
  | _ => false
def okVs (env : List RV) (vs : List Nat) : Bool := vs.all fun v => match env[v]? with
  | some r => plainRV r
  | none => true
def wipeE (env : List RV) : List Nat → List RV
  | [] => env
  | v :: vs => (wipeE env vs).set v .un
def mixE (env env' : List RV) : List Nat → List RV
  | [] => env'
  | v :: vs => match env[v]? with
    | some r => (mixE env env' vs).set v r
    | none => mixE env env' vs
theorem RSlot.plain {r : RV} {o : Option V} (s : RSlot R G H r o bs) (h : plainRV r = true) : bs = [] := by
  cases s <;> first | rfl | cases h
/-- setting a plain slot to a plain one -/
theorem REnv.setP {l : List RV} {v : Nat} {r : RV} {o : Option V} (s : REnv R G H l σ as) (hp : ∀ r0, l[v]? = some r0 → plainRV r0 = true) (sl : RSlot R G H r o []) :
    ∃ as', REnv R G H (l.set v r) (σ.set v o) as' ∧ (∀ a, a ∈ as' ↔ a ∈ as) ∧ (as.Nodup → as'.Nodup) := by
  cases e : l[v]? with
  | none =>
    have h1 : l.length ≤ v := List.getElem?_eq_none_iff.mp e
    have h2 : σ.length ≤ v := by rw [← s.len]; exact h1
    rw [List.set_eq_of_length_le h1, List.set_eq_of_length_le h2]
    exact ⟨as, s, fun _ => .rfl, id⟩
  | some r0 =>
    obtain ⟨o1, bs1, cs, e1, e2, e3, e4, e5⟩ := s.at e
    have hb := e2.plain (hp r0 e)
    subst hb
    obtain ⟨as', q1, q2, q3⟩ := e5 (.refl G) (fun _ _ _ h => h) sl (by simp) List.nodup_nil
    exact ⟨as', q1, fun a => (q2 a).trans (e3 a).symm, q3⟩
/-- dropping an own slot's list, setting a plain one -/
theorem REnv.setD {l : List RV} {v : Nat} {r : RV} {o : Option V} (s : REnv R G H l σ as) (sl : RSlot R G H r o []) :
    ∃ as', REnv R G H (l.set v r) (σ.set v o) as' ∧ (∀ a, a ∈ as' → a ∈ as) ∧ (as.Nodup → as'.Nodup) := by
  cases e : l[v]? with
  | none =>
    have h1 : l.length ≤ v := List.getElem?_eq_none_iff.mp e
    have h2 : σ.length ≤ v := by rw [← s.len]; exact h1
    rw [List.set_eq_of_length_le h1, List.set_eq_of_length_le h2]
    exact ⟨as, s, fun _ h => h, id⟩
  | some r0 =>
    obtain ⟨o1, bs1, cs, e1, e2, e3, e4, e5⟩ := s.at e
    obtain ⟨as', q1, q2, q3⟩ := e5 (.refl G) (fun _ _ _ h => h) sl (by simp) List.nodup_nil
    exact ⟨as', q1, fun a ha => ((q2 a).mp ha).elim (fun z => by simp at z) fun z => (e3 a).mpr (.inr z), q3⟩
theorem wipeE_get {l : List RV} {v : Nat} {r0 : RV} (hv : ∀ r, l[v]? = some r → plainRV r = true) : ∀ {vs : List Nat}, (wipeE l vs)[v]? = some r0 → plainRV r0 = true
  | [], h => hv _ h
  | u :: vs, h => by
    unfold wipeE at h
    rw [List.getElem?_set] at h
    split at h
    · split at h
      · cases h; rfl
      · cases h
    · exact wipeE_get hv h
theorem REnv.wipe {l : List RV} (s : REnv R G H l σ as) : ∀ {vs : List Nat}, okVs l vs = true → ∃ as', REnv R G H (wipeE l vs) (L2.wipe σ vs) as' ∧ (∀ a, a ∈ as' ↔ a ∈ as) ∧ (as.Nodup → as'.Nodup)
  | [], _ => ⟨as, s, fun _ => .rfl, id⟩
  | v :: vs, h => by
    have h' : (match l[v]? with | some r => plainRV r | none => true) = true ∧ okVs l vs = true := by
      unfold okVs at h ⊢
      rw [List.all_cons, Bool.and_eq_true] at h
      exact h
    obtain ⟨as1, q1, q2, q3⟩ := REnv.wipe s h'.2
    obtain ⟨as2, p1, p2, p3⟩ := q1.setP (v := v) (r := .un) (o := none) (fun r0 e => wipeE_get (fun r er => by rw [er] at h'; exact h'.1) e) .un
    exact ⟨as2, p1, fun a => (p2 a).trans (q2 a), fun n => p3 (q3 n)⟩
def mixS (σ σ' : L2.St) : List Nat → L2.St
  | [] => σ'
  | v :: vs => match σ[v]? with
    | some o => (mixS σ σ' vs).set v o
    | none => mixS σ σ' vs
theorem REnv.mix {l l' : List RV} (s0 : REnv R G H l σ as) (le : Wle G G') (s : REnv R G' H' l' σ' as') : ∀ {vs : List Nat}, okVs l vs = true → ∃ as2, REnv R G' H' (mixE l l' vs) (mixS σ σ' vs) as2 ∧ (∀ a, a ∈ as2 → a ∈ as') ∧ (as'.Nodup → as2.Nodup)
  | [], _ => ⟨as', s, fun _ h => h, id⟩
  | v :: vs, h => by
    have h' : (match l[v]? with | some r => plainRV r | none => true) = true ∧ okVs l vs = true := by
      unfold okVs at h ⊢
      rw [List.all_cons, Bool.and_eq_true] at h
      exact h
    obtain ⟨as1, q1, q2, q3⟩ := REnv.mix s0 le s h'.2
    cases e : l[v]? with
    | none =>
      have h1 : l.length ≤ v := List.getElem?_eq_none_iff.mp e
      have e2 : σ[v]? = none := List.getElem?_eq_none_iff.mpr (by rw [← s0.len]; exact h1)
      refine ⟨as1, ?_, q2, q3⟩
      show REnv R G' H' (match l[v]? with | some r => (mixE l l' vs).set v r | none => mixE l l' vs) (match σ[v]? with | some o => (mixS σ σ' vs).set v o | none => mixS σ σ' vs) as1
      rw [e, e2]
      exact q1
    | some r =>
      rw [e] at h'
      obtain ⟨o, bs, cs, e1, e2, _⟩ := s0.at e
      have hb := e2.plain h'.1
      subst hb
      have sl : RSlot R G' H' r o [] := e2.mono le (by simp)
      obtain ⟨as2, p1, p2, p3⟩ := q1.setD (v := v) sl
      refine ⟨as2, ?_, fun a ha => q2 a (p2 a ha), fun n => p3 (q3 n)⟩
      show REnv R G' H' (match l[v]? with | some r => (mixE l l' vs).set v r | none => mixE l l' vs) (match σ[v]? with | some o => (mixS σ σ' vs).set v o | none => mixS σ σ' vs) as2
      rw [e, e1]
      exact p1
theorem wipe_get {σ : L2.St} : ∀ {vs : List Nat} {j : Nat}, (L2.wipe σ vs)[j]? = if j ∈ vs then σ[j]?.map (fun _ => none) else σ[j]?
  | [], j => by simp [L2.wipe]
  | v :: vs, j => by
    unfold L2.wipe
    rw [List.getElem?_set, wipe_get (vs := vs) (j := j), L2.wipe_length]
    by_cases h : v = j
    · subst h
      simp only [List.mem_cons, true_or, if_true]
      by_cases h2 : v < σ.length
      · rw [if_pos h2, List.getElem?_eq_getElem h2] <;> rfl
      · rw [if_neg h2, List.getElem?_eq_none_iff.mpr (Nat.le_of_not_lt h2)] <;> rfl
    · have hj : (j ∈ v :: vs) = (j ∈ vs) := by
        simp only [List.mem_cons, eq_iff_iff]
        exact ⟨fun z => z.elim (fun z => absurd z.symm h) id, .inr⟩
      rw [if_neg h]
      simp only [hj]
theorem wipe_but {vs : List Nat} (h : But vs (L2.wipe σ vs) σ') : L2.wipe σ' vs = L2.wipe σ vs := by
  refine List.ext_getElem? fun j => ?_
  rw [wipe_get, wipe_get]
  have hl : σ'.length = σ.length := by rw [h.1, L2.wipe_length]
  by_cases hj : j ∈ vs
  · rw [if_pos hj, if_pos hj]
    by_cases h2 : j < σ.length
    · rw [List.getElem?_eq_getElem h2, List.getElem?_eq_getElem (by rw [hl]; exact h2)] <;> rfl
    · rw [List.getElem?_eq_none_iff.mpr (Nat.le_of_not_lt h2), List.getElem?_eq_none_iff.mpr (by rw [hl]; exact Nat.le_of_not_lt h2)]
  · rw [if_neg hj, if_neg hj, h.2 j hj, wipe_get, if_neg hj]
theorem mixS_get {σ σ' : L2.St} (hl : σ'.length = σ.length) : ∀ {vs : List Nat} {j : Nat}, (mixS σ σ' vs)[j]? = if j ∈ vs then σ[j]? else σ'[j]?
  | [], j => by simp [mixS]
  | v :: vs, j => by
    have ll : ∀ us : List Nat, (mixS σ σ' us).length = σ.length := fun us => by
      induction us with
      | nil => exact hl
      | cons u us ih =>
        unfold mixS
        split
        · rw [List.length_set]; exact ih
        · exact ih
    unfold mixS
    by_cases h : v = j
    · subst h
      rw [if_pos List.mem_cons_self]
      split
      · rename_i o e
        have hv := (List.getElem?_eq_some_iff.mp e).1
        rw [List.getElem?_set_self (by rw [ll]; exact hv), e]
      · rename_i e
        have hv := List.getElem?_eq_none_iff.mp e
        rw [e, List.getElem?_eq_none_iff.mpr (by rw [ll]; exact hv)]
    · have hj : (j ∈ v :: vs) = (j ∈ vs) := by
        simp only [List.mem_cons, eq_iff_iff]
        exact ⟨fun z => z.elim (fun z => absurd z.symm h) id, .inr⟩
      simp only [hj]
      split
      · rw [List.getElem?_set_ne h, mixS_get hl]
      · rw [mixS_get hl]
theorem mixS_but {vs : List Nat} (h : But vs (L2.wipe σ vs) σ') : mixS σ σ' vs = σ := by
  refine List.ext_getElem? fun j => ?_
  rw [mixS_get (by rw [h.1, L2.wipe_length])]
  by_cases hj : j ∈ vs
  · rw [if_pos hj]
  · rw [if_neg hj, h.2 j hj, wipe_get, if_neg hj]

/-! the comprehension -/
def WN : WX := fun _ _ _ _ => False
/-- its turns -/
def lcL (vs : List Nat) (g : MG) (t e : ME) : List D → List D → W → Res
  | [], acc, w => .ok (.own acc) w
  | d :: ds, acc, w => if okVs w.env vs = true then match g d { w with env := wipeE w.env vs } with
      | none => .bad
      | some w1 => match t w1 with
        | .ok (.d (.bl true)) w2 => match (e w2).bd fun x w3 => .ok (.d x) w3 with
          | .ok (.d x) w3 => if acc.length < sizeLine then lcL vs g t e ds (acc ++ [x]) { w3 with env := mixE w.env w3.env vs } else .bad
          | _ => .bad
        | .ok (.d (.bl false)) w2 => lcL vs g t e ds acc { w2 with env := mixE w.env w2.env vs }
        | _ => .bad
    else .bad
def mLc (vs : List Nat) (mi : MA) (g : MG) (t e : ME) : ME := fun w => match mi w with
  | .ok ds w1 => lcL vs g t e ds [] w1
  | .ex x w1 => .ex x w1
  | .bad => .bad
/-- a clause's tests -/
structure PTsm (X : Cx) (R : RC) (Wx : WX) (ifs : List Expr) (m : ME) : Prop where
  pe : ∀ H0 G0, PTs X ifs (liftT R Wx H0 G0 m)
theorem PTs.cons {X : Cx} {e : List Expr} {t t' : TT} (h : PTs X e t) (c : ∀ σ H Q, t' σ H Q → t σ H Q) : PTs X e t' := ⟨fun pins s σ H Q I q => h.run pins s σ H Q I (c σ H Q q)⟩
theorem tsm_nil : PTsm X R Wx [] mT := ⟨fun H0 G0 => PTs.cons pts_nil fun σ H Q ⟨G, w, as, rel, h⟩ => h G H as rel (.refl _ _ _) fun _ h => h⟩
theorem tsm_one (h : PTm X R Wx c m) : PTsm X R Wx [c] m := ⟨fun H0 G0 => pts_one (h.pe H0 G0)⟩

/-- behind a turn: the def's slots again -/
theorem Rel.turn {vs : List Nat} {w2 : W} (r0 : Rel R H0 G0 G w σ H as) (ok : okVs w.env vs = true) (le : Wle G G') (bt : But vs (L2.wipe σ vs) σ') (r : Rel R H0 G0 G' w2 σ' H' as') :
    ∃ as2, Rel R H0 G0 G' { w2 with env := mixE w.env w2.env vs } σ H' as2 ∧ ∀ a ∈ as2, a ∈ as' := by
  obtain ⟨as2, q1, q2, q3⟩ := r0.env.mix le r.env ok
  rw [mixS_but bt] at q1
  obtain ⟨n1, n2, n3⟩ := List.nodup_append.mp r.nd
  exact ⟨as2, ⟨q1, r.bas, List.nodup_append.mpr ⟨q3 n1, n2, fun a ha b hb => n3 a (q2 a ha) b hb⟩, fun a ha => r.free a (q2 a ha), fun a ha => r.fresh a (q2 a ha)⟩, q2⟩
theorem bd_ok {r : Res} {x : D} {w3 : W} (h : (r.bd fun x w3 => .ok (.d x) w3) = .ok (.d x) w3) : ∃ rv, r = .ok rv w3 ∧ rv.frz = some x := by
  cases r with
  | bad => cases h
  | ex _ _ => cases h
  | ok rv w =>
    cases e : rv.frz with
    | none =>
      have : (Res.ok rv w).bd (fun x w3 => .ok (.d x) w3) = .bad := by unfold Res.bd Res.bind; simp only [e]
      rw [this] at h; cases h
    | some y =>
      have : (Res.ok rv w).bd (fun x w3 => .ok (.d x) w3) = .ok (.d y) w := by unfold Res.bd Res.bind; simp only [e]
      rw [this] at h; cases h
      exact ⟨rv, rfl, e⟩
theorem lc_run {mi : MA} {g : MG} {vs : List Nat} {mt me : ME} {Q : VK} {is : List Nat} (his : ∀ i ∈ is, i ∈ vs)
    (h : liftE R Wx H0 G0 (mLc vs mi g mt me) σ H Q) : tLc (liftI R Wx H0 G0 mi) (liftG R H0 G0 is g) (liftT R WN H0 G0 mt) (liftE R WN H0 G0 me) vs σ H Q := by
  obtain ⟨G, w, as, rel, h⟩ := h
  refine ⟨G, w, as, rel, ?_⟩
  have h' : PostE R H0 G0 Wx σ G H as (mLc vs mi g mt me w) Q := h
  unfold mLc at h'
  cases e : mi w with
  | bad => rw [e] at h'; exact h'
  | ex x w1 => rw [e] at h'; exact h'
  | ok ds w1 =>
    rw [e] at h'
    intro J G1 H1 as1 rel1 ext1 sub1 wk D hD
    have hHD : H D = none := ext1.dom D hD
    have h0D : H0 D = none := rel1.bas.ext.dom D hD
    have p1 : PExt G1 H1 G1 (upd H1 D (.lst [])) := PExt.own rel1.bas.sub hD
    refine ⟨fun i n H2 => (n = ds.length - i ∧ i ≤ ds.length) ∧ ∃ G2 w2 as2 acc xs, Rel R H0 G0 G2 w2 σ H2 as2 ∧ Ext as G H G2 H2 ∧ (∀ a ∈ as2, a ∈ as) ∧ Wle G1 G2 ∧ H2 D = some (.lst xs) ∧ Rps R G2 acc xs ∧ G2.Z D = none ∧ D ∉ G2.sas ∧ D ∉ as2 ∧ PostE R H0 G0 Wx σ G H as (lcL vs g mt me (ds.drop i) acc w2) Q,
      ⟨ds.length, ⟨by simp, Nat.zero_le _⟩, G1, w1, as1, [], [], rel1.pext p1, ext1.trans (fun a ha => .inl (sub1 a ha)) (p1.ext as1), sub1, .refl _, upd_same, .nil, rel1.bas.sub.free hD, fun z => ?_, fun z => ?_, by rw [List.drop_zero]; exact h'⟩, ?_⟩
    · obtain ⟨u, hu⟩ := rel1.bas.cells.has D z
      rw [hD] at hu; cases hu
    · obtain ⟨u, hu⟩ := rel1.env.has D z
      rw [hD] at hu; cases hu
    rintro i n H2 ⟨⟨rfl, hle⟩, G2, w2, as2, acc, xs, rel2, ext2, sub2, le2, hDx, rxs, hzD, hsD, haD, h2⟩
    obtain ⟨q1, q2⟩ := wk G2 H2 le2 rel2.bas.sub
    by_cases hi : i < ds.length
    · have ed : ds.drop i = ds[i] :: ds.drop (i + 1) := List.drop_eq_getElem_cons hi
      obtain ⟨go, yl⟩ := q1 i ds[i] (List.getElem?_eq_getElem hi)
      rw [ed] at h2
      unfold lcL at h2
      by_cases ok : okVs w2.env vs = true
      · rw [if_pos ok] at h2
        refine .inr ⟨go, fun H' => ∃ G2 w2 as2 acc xs, Rel R H0 G0 G2 w2 σ H' as2 ∧ Ext as G H G2 H' ∧ (∀ a ∈ as2, a ∈ as) ∧ Wle G1 G2 ∧ H' D = some (.lst xs) ∧ Rps R G2 acc xs ∧ G2.Z D = none ∧ D ∉ G2.sas ∧ D ∉ as2 ∧ PostE R H0 G0 Wx σ G H as (lcL vs g mt me (ds.drop (i + 1)) acc w2) Q, fun H' x => ⟨ds.length - (i + 1), by omega, ⟨rfl, hi⟩, x⟩, fun x H' y => ?_⟩
        obtain ⟨G3, p3, rp3⟩ := yl x H' y
        have rel3 := rel2.pext p3
        obtain ⟨asw, ew1, ew2, ew3⟩ := rel3.env.wipe ok
        obtain ⟨n1, n2, n3⟩ := List.nodup_append.mp rel3.nd
        have relw : Rel R H0 G0 G3 { w2 with env := wipeE w2.env vs } (L2.wipe σ vs) H' asw := ⟨ew1, rel3.bas, List.nodup_append.mpr ⟨ew3 n1, n2, fun a ha b hb => n3 a ((ew2 a).mp ha) b hb⟩, fun a ha => rel3.free a ((ew2 a).mp ha), fun a ha => rel3.fresh a ((ew2 a).mp ha)⟩
        refine ⟨G3, _, asw, ds[i], relw, rp3, ?_⟩
        cases eg : g ds[i] { w2 with env := wipeE w2.env vs } with
        | none => rw [eg] at h2; exact h2.elim
        | some w4 =>
          rw [eg] at h2
          intro σ4 as4 rel4 bt sub4
          have bt' : But vs (L2.wipe σ vs) σ4 := ⟨bt.1, fun j hj => bt.2 j fun z => hj (his j z)⟩
          refine ⟨wipe_but bt', G3, w4, as4, rel4, ?_⟩
          have sub4' : ∀ a ∈ as4, a ∈ as2 := fun a ha => (ew2 a).mp (sub4 a ha)
          have hD3 : H' D = some (.lst xs) := p3.keep _ _ hDx
          have haD4 : D ∉ as4 := fun z => haD (sub4' D z)
          have hsD3 : D ∉ G3.sas := by rw [p3.s]; exact hsD
          have hzD3 : G3.Z D = none := by
            cases ez : G3.Z D with
            | none => rfl
            | some o =>
              rcases p3.newZ D o ez with z | z
              · rw [hzD] at z; cases z
              · rw [hDx] at z; cases z
          -- what is behind an expression's step from here
          have far : ∀ {G5 : Wd} {H5 : Hp} {w5 : W} {as5 : List Addr}, Rel R H0 G0 G5 w5 σ4 H5 as5 → Ext as4 G3 H' G5 H5 → (∀ a ∈ as5, a ∈ as4) →
              H5 D = some (.lst xs) ∧ G5.Z D = none ∧ D ∉ G5.sas ∧ D ∉ as5 ∧ Ext as G H G5 H5 ∧ (∀ a ∈ as5, a ∈ as) ∧ Wle G1 G5 ∧ Wle G2 G5 := fun {G5 H5 w5 as5} rel5 ext5 sub5 => by
            refine ⟨ext5.keep D _ hD3 (fun _ z => by cases z) hsD3, ?_, ext5.nosas hD3 hsD3, fun z => haD4 (sub5 D z), (ext2.trans (fun a ha => .inl (sub2 a ha)) (p3.ext as2)).trans (fun a ha => .inl (sub2 a (sub4' a ha))) ext5, fun a ha => sub2 a (sub4' a (sub5 a ha)), (le2.trans p3.le).trans ext5.le, p3.le.trans ext5.le⟩
            cases ez : G5.Z D with
            | none => rfl
            | some o =>
              rcases ext5.newZ D o ez with z | z | z
              · rw [hzD3] at z; cases z
              · rw [hD3] at z; cases z
              · exact (haD4 z).elim
          simp only at h2
          cases et : mt w4 with
          | bad => rw [et] at h2; exact h2.elim
          | ex x w5 => rw [et] at h2; exact h2.elim
          | ok rv w5 =>
            rw [et] at h2
            cases rv with
            | d z =>
              cases z with
              | bl k =>
                intro G5 H5 as5 rel5 ext5 sub5
                obtain ⟨f1, f2, f3, f4, f5, f6, f7, f8⟩ := far rel5 ext5 sub5
                cases k with
                | false =>
                  refine iteF ?_
                  obtain ⟨as7, rel7, sub7⟩ := rel2.turn ok f8 bt' rel5
                  exact ⟨G5, _, as7, acc, xs, rel7, f5, fun a ha => f6 a (sub7 a ha), f7, f1, rxs.mono f8, f2, f3, fun z => f4 (sub7 D z), h2⟩
                | true =>
                  refine iteT ?_
                  simp only at h2
                  refine lift_bdG (P := fun _ => True) rel5 (fun x w6 ee => ?_) (fun ee => ?_) (fun rv w6 ee ef => ?_) (fun rv w6 ee v x G6 H6 as6 ef rel6 ext6 sub6 rp6 => ?_)
                  · rw [ee] at h2; exact h2.elim
                  · rw [ee] at h2; exact h2.elim
                  · rw [ee] at h2
                    have : (Res.ok rv w6).bd (fun x w3 => .ok (.d x) w3) = .bad := by unfold Res.bd Res.bind; simp only [ef]
                    rw [this] at h2; exact h2.elim
                  · rw [ee] at h2
                    have : (Res.ok rv w6).bd (fun x w3 => .ok (.d x) w3) = .ok (.d x) w6 := by unfold Res.bd Res.bind; simp only [ef]
                    rw [this] at h2
                    obtain ⟨k1, k2, k3, k4, k5, k6, k7, k8⟩ := far rel6 (ext5.trans (fun a ha => .inl (sub5 a ha)) ext6) fun a ha => sub5 a (sub6 a ha)
                    have h3 : PostE R H0 G0 Wx σ G H as (if acc.length < sizeLine then lcL vs g mt me (ds.drop (i + 1)) (acc ++ [x]) { w6 with env := mixE w2.env w6.env vs } else .bad) Q := h2
                    by_cases hc : acc.length < sizeLine
                    · rw [if_pos hc] at h3
                      obtain ⟨as7, rel7, sub7⟩ := rel2.turn ok k8 bt' rel6
                      have haD7 : D ∉ as7 := fun z => k4 (sub7 D z)
                      refine ⟨xs, k1, by rw [← rxs.length]; exact hc, G6, _, as7, acc ++ [x], xs ++ [v], rel7.out k1 k2 k3 haD7 h0D, ?_, fun a ha => k6 a (sub7 a ha), k7, upd_same, (rxs.mono k8).append (.cons rp6 .nil), k2, k3, haD7, h3⟩
                      exact ⟨k5.le, fun q u e t hq => by rw [upd_ne (ne_of_none e hHD)]; exact k5.keep q u e t hq, k5.newZ, k5.newS, fun q e => by
                        by_cases z : q = D
                        · rw [z]; exact hHD
                        · rw [upd_ne z] at e; exact k5.dom q e⟩
                    · rw [if_neg hc] at h3; exact h3.elim
              | _ => exact h2.elim
            | _ => exact h2.elim
      · rw [if_neg ok] at h2; exact h2.elim
    · have ed : ds.drop i = [] := List.drop_eq_nil_of_le (by omega)
      rw [ed] at h2
      have ei : i = ds.length := by omega
      refine .inl ⟨by rw [ei]; exact q2, h2 (.ref D) G2 H2 as2 [D] rel2 ext2 sub2 (.own hDx rxs) (fun b hb => ?_) fun b hb => ?_⟩
      · rw [List.mem_singleton.mp hb]
        exact ⟨hzD, hsD, haD, h0D⟩
      · rw [List.mem_singleton.mp hb]
        exact .inr hHD
variable {scope : Scope} {own : List (Str × Nat)} {mi : MA} {g : MG} {mt me : ME} {is : List Nat}
theorem em_lc (hc : X.calm = true) (hN : X.N.Nodup) (hi : PIm X R Wx tg iter mi) (ok : BlkOk X.N X.env.scope scope own)
    (hg : ∀ (s : Shared) (H : Hp) (C : Addr) (cl : List (Str × Addr)) (fp : List Addr), PGm (X.blk s H scope (compEnvC scope cl C X.env) fp) R tg is g) (ht : ∀ (s : Shared) (H : Hp) (C : Addr) (cl : List (Str × Addr)) (fp : List Addr), PTsm (X.blk s H scope (compEnvC scope cl C X.env) fp) R WN ifs mt)
    (he : ∀ (s : Shared) (H : Hp) (C : Addr) (cl : List (Str × Addr)) (fp : List Addr), PEm (X.blk s H scope (compEnvC scope cl C X.env) fp) R WN elt me) {vs : List Nat} (hvs : own.map (·.2) = vs) (his : ∀ i ∈ is, i ∈ vs) (hs : ∀ x, foldedSetIterable iter X.env x = pure x := by intro _; rfl) :
    PEm X R Wx (.ListComp elt [⟨tg, iter, ifs, 0⟩] scope pos) (mLc vs mi g mt me) := by
  subst hvs
  exact
  ⟨fun H0 G0 => PE.cons (pe_lc hc hN (hi.pi H0 G0) ok (fun s H C cl fp => (hg s H C cl fp).pg H0 G0) (fun s H C cl fp => (ht s H C cl fp).pe H0 G0) (fun s H C cl fp => (he s H C cl fp).pe H0 G0) hs) fun σ H Q h => lc_run his h⟩
/-- name = [..] -/
theorem sm_setLc {i : Nat} {y : Str} {py spos : Pos} (hc : X.calm = true) (hN : X.N.Nodup) (hy : X.N[i]? = some y) (hyl : X.env.scope.names.lookup y = some .local)
    (hsw : swapsWith (.ListComp elt [⟨tg, iter, ifs, 0⟩] scope pos) (some (.Name y py)) spos.line X.env = pure true) (hi : PIm X R Wx tg iter mi) (ok : BlkOk X.N X.env.scope scope own)
    (hg : ∀ (s : Shared) (H : Hp) (C : Addr) (cl : List (Str × Addr)) (fp : List Addr), PGm (X.blk s H scope (compEnvC scope cl C X.env) fp) R tg is g) (ht : ∀ (s : Shared) (H : Hp) (C : Addr) (cl : List (Str × Addr)) (fp : List Addr), PTsm (X.blk s H scope (compEnvC scope cl C X.env) fp) R WN ifs mt)
    (he : ∀ (s : Shared) (H : Hp) (C : Addr) (cl : List (Str × Addr)) (fp : List Addr), PEm (X.blk s H scope (compEnvC scope cl C X.env) fp) R WN elt me) {vs : List Nat} (hvs : own.map (·.2) = vs) (his : ∀ i ∈ is, i ∈ vs) (hs : ∀ x, foldedSetIterable iter X.env x = pure x := by intro _; rfl) :
    PSm X R Wx (.Assign [.Name y py] (.ListComp elt [⟨tg, iter, ifs, 0⟩] scope pos) spos) (mSet i (mLc vs mi g mt me)) := by
  subst hvs
  exact
  ⟨fun H0 G0 => PS.cons (ps_setLc hc hN hy hyl hsw (hi.pi H0 G0) ok (fun s H C cl fp => (hg s H C cl fp).pg H0 G0) (fun s H C cl fp => (ht s H C cl fp).pe H0 G0) (fun s H C cl fp => (he s H C cl fp).pe H0 G0) hs) fun D σ H ⟨G, w, as, rel, h⟩ => by
    refine lc_run (Wx := Wx) (R := R) (Q := fun x H1 => gName i x σ H1 D.nx) his ?_
    refine lift_sd rel h fun rv v G1 H1 as1 bs w1 rel1 _ _ sl lo _ h1 => ?_
    exact set_post rel1 sl lo h1⟩
end
end DB

set_option Elab.async false
set_option linter.all false
set_option maxRecDepth 100000
set_option maxHeartbeats 4000000
namespace DB
open PySem PySem.Spec PyProof.Rows L2
def noL (fw : Nat → Addr → Wd → Prop) : Lm := ⟨fun _ => none, fun _ _ => False, none, fw⟩
/-- a def of the text: it is what F tells -/
structure HasF (P : Program) (w : World) (K : PySem.W.Frag) (mg : Str → Option Value) (base : Heap) (T : List (Addr × Str)) (x : Str) (k : Nat) (ps : List Str) (F : MF) : Prop where
  ex : ∃ f fd, (∀ fw, FnOk P w K mg base (L2.CX P w) k f fd ps (spF ⟨K, mg, T, noL fw⟩ F)) ∧ mg x = some (.ref f) ∧ PySem.W.keepIn K (.ref f) = true ∧ Binds K fd ps []
theorem HasF.mk' {P : Program} {w : World} {K : PySem.W.Frag} {mg : Str → Option Value} {base : Heap} {T : List (Addr × Str)} {x : Str} {k : Nat} {ps : List Str} {F : MF} {f : Addr} {fd : FuncData}
    (h : ∀ fw, FnOk P w K mg base (L2.CX P w) k f fd ps (spF ⟨K, mg, T, noL fw⟩ F)) (g : mg x = some (.ref f)) (kp : PySem.W.keepIn K (.ref f) = true) (b : Binds K fd ps []) : HasF P w K mg base T x k ps F := ⟨⟨f, fd, h, g, kp, b⟩⟩
section
variable {R R' : RC} {H0 H H' H1 H2 : Hp} {G0 G G' G1 G2 : Wd} {w w' w1 : W} {σ σ' : L2.St} {as as' as1 as2 bs : List Addr} {Wx : WX} {X : Cx}
  {a b c e elt tg iter : Expr} {ma mb mc m : ME} {pos : Pos} {es ifs : List Expr} {st : Stmt} {rest body orelse : List Stmt} {m1 m2 ms : MS} {mr : MA}
theorem em_callD {k : Nat} {ps : List Str} {F : MF} {x : Str} {p : Pos} {r : MA} {T : List (Addr × Str)} (D : HasF X.prog X.w X.K X.mg X.base T x k ps F) (tk : Takes X Wx) (hr : Room k X.A) (sm : Sim R ⟨X.K, X.mg, T, noL R.lm.fw⟩) (hg : Gl X x)
    (ha : PAm X R Wx (a :: es) r) (hdb : (x == ("__debug__" : Str)) = false := by decide) (he : starEach (a :: es) X.env = (false, eval a X.env) :: starEach es X.env := by rfl) (hpl : (backTo pos (starEach es X.env)).any (·.1) = false := by rfl) :
    PEm X R Wx (.Call (.Name x p) (a :: es) [] pos) (mCall F r) := by
  obtain ⟨f, fd, Fn, hm, hk, hb⟩ := D.ex
  exact em_call (Fn _) sm tk hr hg hm hk hb ha hdb he hpl

/-! a, b = x, y -/
theorem tmp_ext {rv : RV} {o : Option V} (s : RSlot R G1 H1 rv o bs) (lo : Loose H0 G1 as1 bs) (x : Ext as1 G1 H1 G2 H2) (sub : ∀ a ∈ as2, a ∈ as1) : RSlot R G2 H2 rv o bs ∧ Loose H0 G2 as2 bs := by
  have has := s.has
  have nt := s.notbl
  refine ⟨s.mono x.le fun a ha u hu => x.keep a u hu (nt a ha u hu) (lo a ha).2.1, fun b hb => ?_⟩
  obtain ⟨l1, l2, l3, l4⟩ := lo b hb
  obtain ⟨u, hu⟩ := has b hb
  refine ⟨?_, x.nosas hu l2, fun z => l3 (sub b z), l4⟩
  cases e : G2.Z b with
  | none => rfl
  | some o =>
    rcases x.newZ b o e with z | z | z
    · rw [l1] at z; cases z
    · rw [hu] at z; cases z
    · exact (l3 z).elim
/-- values of their own, one behind another -/
def mPar2 (i j : Nat) (m1 m2 : ME) : MS := fun w => (m1 w).sd fun u w1 => (m2 w1).sd fun v w2 => match setRV i u w2 with
  | .nx w3 => setRV j v w3
  | r => r
theorem setRV_nx {i : Nat} {u : RV} {w3 : W} (h : setRV i u w = .nx w3) : i < w.env.length ∧ w3 = w.put i u := by
  unfold setRV at h
  split at h
  · cases h; exact ⟨by assumption, rfl⟩
  · cases h
theorem sm_par2 {i j : Nat} {x y : Str} {px py pt : Pos} {kt k2 pt2} (hc : X.calm = true) (hN : X.N.Nodup) (hi : X.N[i]? = some x) (hj : X.N[j]? = some y) (hij : i ≠ j)
    (hx : X.env.scope.names.lookup x = some .local) (hy : X.env.scope.names.lookup y = some .local) (ha : PEm X R Wx a ma) (hb : PEm X R Wx b mb)
    (hw : swappedStores [.Tuple [.Name x px, .Name y py] kt pt] (.Tuple [a, b] k2 pt2) X.env = pure (some [x, y]))
    (hs : swapsWithSole [.Tuple [.Name x px, .Name y py] kt pt] (.Tuple [a, b] k2 pt2) pos.line X.env = pure false := by rfl) (h1 : starEach [a, b] X.env = (false, eval a X.env) :: starEach [b] X.env := by rfl) (h2 : starEach [b] X.env = (false, eval b X.env) :: starEach [] X.env := by rfl) :
    PSm X R Wx (.Assign [.Tuple [.Name x px, .Name y py] kt pt] (.Tuple [a, b] k2 pt2) pos) (mPar2 i j ma mb) :=
  ⟨fun H0 G0 => PS.cons (ps_par hc hN hi hj hij hx hy (pa_cons (ha.pe H0 G0) (pa_cons (hb.pe H0 G0) pa_nil h2) h1) hw hs) fun D σ H ⟨G, w, as, rel, h⟩ => by
    refine lift_sd rel h fun u v G1 H1 as1 bs1 w1 rel1 ext1 sub1 sl1 lo1 fr1 h1 => ?_
    refine lift_sd rel1 h1 fun u2 v2 G2 H2 as2 bs2 w2 rel2 ext2 sub2 sl2 lo2 fr2 h2 => ?_
    obtain ⟨sl1', lo1'⟩ := tmp_ext sl1 lo1 ext2 sub2
    refine ⟨v, v2, rfl, ?_⟩
    cases e : setRV i u w2 with
    | nx w3 =>
      rw [e] at h2
      obtain ⟨hi2, rfl⟩ := setRV_nx e
      obtain ⟨as3, rel3, sub3⟩ := rel2.setS hi2 sl1' lo1'
      refine set_post rel3 sl2 (fun b hb => ?_) h2
      obtain ⟨l1, l2, l3, l4⟩ := lo2 b hb
      refine ⟨l1, l2, fun z => ?_, l4⟩
      rcases sub3 b z with q | q
      · rcases fr2 b hb with y | y
        · exact (lo1 b q).2.2.1 y
        · obtain ⟨u, hu⟩ := sl1.has b q
          rw [hu] at y; cases y
      · exact l3 q
    | bad => rw [e] at h2; exact h2.elim
    | _ => unfold setRV at e; split at e <;> cases e⟩
def mPar3 (i j l : Nat) (m1 m2 m3 : ME) : MS := fun w => (m1 w).sd fun u w1 => (m2 w1).sd fun v w2 => (m3 w2).sd fun t w3 => match setRV i u w3 with
  | .nx w4 => match setRV j v w4 with
    | .nx w5 => setRV l t w5
    | r => r
  | r => r
theorem sm_par3 {i j l : Nat} {x y z : Str} {px py pz pt : Pos} {kt k2 pt2} (hc : X.calm = true) (hN : X.N.Nodup) (hi : X.N[i]? = some x) (hj : X.N[j]? = some y) (hl : X.N[l]? = some z) (hij : i ≠ j) (hil : i ≠ l) (hjl : j ≠ l)
    (hx : X.env.scope.names.lookup x = some .local) (hy : X.env.scope.names.lookup y = some .local) (hz : X.env.scope.names.lookup z = some .local) (ha : PEm X R Wx a ma) (hb : PEm X R Wx b mb) (hc2 : PEm X R Wx c mc)
    (hw : swappedStores [.Tuple [.Name x px, .Name y py, .Name z pz] kt pt] (.Tuple [a, b, c] k2 pt2) X.env = pure (some [x, y, z]))
    (hs : swapsWithSole [.Tuple [.Name x px, .Name y py, .Name z pz] kt pt] (.Tuple [a, b, c] k2 pt2) pos.line X.env = pure false := by rfl) (h1 : starEach [a, b, c] X.env = (false, eval a X.env) :: starEach [b, c] X.env := by rfl) (h2 : starEach [b, c] X.env = (false, eval b X.env) :: starEach [c] X.env := by rfl) (h3 : starEach [c] X.env = (false, eval c X.env) :: starEach [] X.env := by rfl) :
    PSm X R Wx (.Assign [.Tuple [.Name x px, .Name y py, .Name z pz] kt pt] (.Tuple [a, b, c] k2 pt2) pos) (mPar3 i j l ma mb mc) :=
  ⟨fun H0 G0 => PS.cons (ps_par3 hc hN hi hj hl hij hil hjl hx hy hz (pa_cons (ha.pe H0 G0) (pa_cons (hb.pe H0 G0) (pa_cons (hc2.pe H0 G0) pa_nil h3) h2) h1) hw hs) fun D σ H ⟨G, w, as, rel, h⟩ => by
    refine lift_sd rel h fun u v G1 H1 as1 bs1 w1 rel1 ext1 sub1 sl1 lo1 fr1 h1 => ?_
    refine lift_sd rel1 h1 fun u2 v2 G2 H2 as2 bs2 w2 rel2 ext2 sub2 sl2 lo2 fr2 h2 => ?_
    refine lift_sd rel2 h2 fun u3 v3 G3 H3 as3 bs3 w3 rel3 ext3 sub3 sl3 lo3 fr3 h3 => ?_
    obtain ⟨sl1a, lo1a⟩ := tmp_ext sl1 lo1 ext2 sub2
    obtain ⟨sl1b, lo1b⟩ := tmp_ext sl1a lo1a ext3 sub3
    obtain ⟨sl2b, lo2b⟩ := tmp_ext sl2 lo2 ext3 sub3
    refine ⟨v, v2, v3, rfl, ?_⟩
    have dj12 : ∀ b ∈ bs2, b ∉ bs1 := fun b hb q => by
      rcases fr2 b hb with y | y
      · exact (lo1 b q).2.2.1 y
      · obtain ⟨u, hu⟩ := sl1.has b q
        rw [hu] at y; cases y
    have dj13 : ∀ b ∈ bs3, b ∉ bs1 := fun b hb q => by
      rcases fr3 b hb with y | y
      · exact (lo1a b q).2.2.1 y
      · obtain ⟨u, hu⟩ := sl1a.has b q
        rw [hu] at y; cases y
    have dj23 : ∀ b ∈ bs3, b ∉ bs2 := fun b hb q => by
      rcases fr3 b hb with y | y
      · exact (lo2 b q).2.2.1 y
      · obtain ⟨u, hu⟩ := sl2.has b q
        rw [hu] at y; cases y
    cases e : setRV i u w3 with
    | nx w4 =>
      rw [e] at h3
      obtain ⟨hi2, rfl⟩ := setRV_nx e
      obtain ⟨as4, rel4, sub4⟩ := rel3.setS hi2 sl1b lo1b
      have lo2c : Loose H0 G3 as4 bs2 := fun b hb => by
        obtain ⟨l1, l2, l3, l4⟩ := lo2b b hb
        exact ⟨l1, l2, fun z => (sub4 b z).elim (dj12 b hb) l3, l4⟩
      have h4 : PostS R H0 G0 Wx G3 (match setRV j u2 (w3.put i u) with
        | .nx w5 => setRV l u3 w5
        | r => r) D := h3
      cases e2 : setRV j u2 (w3.put i u) with
      | nx w5 =>
        rw [e2] at h4
        obtain ⟨hj2, rfl⟩ := setRV_nx e2
        obtain ⟨as5, rel5, sub5⟩ := rel4.setS hj2 sl2b lo2c
        refine set_post rel5 sl3 (fun b hb => ?_) h4
        obtain ⟨l1, l2, l3, l4⟩ := lo3 b hb
        exact ⟨l1, l2, fun z => (sub5 b z).elim (dj23 b hb) fun z => (sub4 b z).elim (dj13 b hb) l3, l4⟩
      | bad => rw [e2] at h4; exact h4.elim
      | _ => unfold setRV at e2; split at e2 <;> cases e2
    | bad => rw [e] at h3; exact h3.elim
    | _ => unfold setRV at e; split at e <;> cases e⟩

/-! - x -/
def gNeg (x : D) : Option RV := match x with
  | .int i => iO (-i)
  | _ => none
def mNeg (m : ME) : ME := fun w => (m w).bd fun x w1 => ofO (gNeg x) w1
theorem em_neg (ha : POm X R Wx a m) : PEm X R Wx (.UnaryOp .USub a pos) (mNeg m) :=
  ⟨fun H0 G0 => PE.cons (pe_un un_neg (ha.pe H0 G0)) fun σ H Q ⟨G, w, as, rel, h⟩ => by
    refine lift_bo rel h fun v x G1 H1 as1 w1 rel1 ext lv h1 => ?_
    obtain ⟨rv, e, h2⟩ := h1.ofO
    cases x with
    | int i => cases lv.int; cases e; exact ⟨i, rfl, PostE.new rel1 h2 |>.sc rel1.bas.sub .int⟩
    | _ => cases e⟩

/-! in -/
def gIn (x y : D) : Option RV := match y with
  | .lst ds => if okE x && okE (.lst ds) then bO (ds.any fun z => eqB z x) else none
  | .tup ds => if okE x && okE (.tup ds) then bO (ds.any fun z => eqB z x) else none
  | _ => none
def gNotIn (x y : D) : Option RV := match y with
  | .lst ds => if okE x && okE (.lst ds) then bO (!ds.any fun z => eqB z x) else none
  | .tup ds => if okE x && okE (.tup ds) then bO (!ds.any fun z => eqB z x) else none
  | _ => none
def rInT (K : PySem.W.Frag) : R2 := fun x y H Q => ∃ d ds, Dp K H x d ∧ Dp K H y (.tuple ds) ∧ SeqAt.shaped d = true ∧ SeqAt.shaped (.tuple ds) = true ∧ Q (.bl (ds.any fun z => PyData.eqv z d)) H
def rInL (K : PySem.W.Frag) : R2 := fun x y H Q => ∃ d ds, Dp K H x d ∧ Dp K H y (.list ds) ∧ SeqAt.shaped d = true ∧ SeqAt.shaped (.list ds) = true ∧ Q (.bl (ds.any fun z => PyData.eqv z d)) H
def rNotInT (K : PySem.W.Frag) : R2 := fun x y H Q => ∃ d ds, Dp K H x d ∧ Dp K H y (.tuple ds) ∧ SeqAt.shaped d = true ∧ SeqAt.shaped (.tuple ds) = true ∧ Q (.bl (!ds.any fun z => PyData.eqv z d)) H
def rNotInL (K : PySem.W.Frag) : R2 := fun x y H Q => ∃ d ds, Dp K H x d ∧ Dp K H y (.list ds) ∧ SeqAt.shaped d = true ∧ SeqAt.shaped (.list ds) = true ∧ Q (.bl (!ds.any fun z => PyData.eqv z d)) H
theorem in_room {A : Around} {d e : PyData} (h : SeqAt.shaped d = true) (hu : A.units + 66 < cLine) : A.units + 1 + min e.depth d.depth < cLine := by
  have h1 := SeqAt.depth_of_shaped h
  have h2 : min e.depth d.depth ≤ d.depth := Nat.min_le_right _ _
  omega
theorem in_room2 {A : Around} {d : PyData} {n : Nat} (h : SeqAt.shaped d = true) (hu : A.units + 66 < cLine) : A.units + 1 + min n d.depth < cLine := by
  have h1 := SeqAt.depth_of_shaped h
  have h2 : min n d.depth ≤ d.depth := Nat.min_le_right _ _
  omega
theorem can_t {ds : List PyData} (h : SeqAt.shaped (.tuple ds) = true) : PyData.canLayAll0 ds = true := SeqAt.canLay_of_shaped h
theorem can_l {ds : List PyData} (h : SeqAt.shaped (.list ds) = true) : PyData.canLayAll0 ds = true := SeqAt.canLay_of_shaped h
theorem op_inT (hu : X.A.units + 66 < cLine) : OpR X (compareOp .In) (rInT X.K) := by
  intro pins s σ H x y v u Q I rx ry h
  obtain ⟨d, ds, hd, he, sd, se, q⟩ := h
  obtain ⟨as, r1⟩ := Dp.reads I d x v hd rx
  obtain ⟨bs, r2⟩ := Dp.reads I (.tuple ds) y u he ry
  exact SeqAt.in_tuple_reads r2 r1 (can_t se) (SeqAt.canLay_of_shaped sd) (in_room2 sd hu) ⟨.bl _, H, I, rfl, q⟩
theorem op_inL (hu : X.A.units + 66 < cLine) : OpR X (compareOp .In) (rInL X.K) := by
  intro pins s σ H x y v u Q I rx ry h
  obtain ⟨d, ds, hd, he, sd, se, q⟩ := h
  obtain ⟨as, r1⟩ := Dp.reads I d x v hd rx
  obtain ⟨bs, r2⟩ := Dp.reads I (.list ds) y u he ry
  exact SeqAt.in_list_reads r2 r1 (can_l se) (SeqAt.canLay_of_shaped sd) (in_room2 sd hu) ⟨.bl _, H, I, rfl, q⟩
theorem op_notInT (hu : X.A.units + 66 < cLine) : OpR X (compareOp .NotIn) (rNotInT X.K) := by
  intro pins s σ H x y v u Q I rx ry h
  obtain ⟨d, ds, hd, he, sd, se, q⟩ := h
  obtain ⟨as, r1⟩ := Dp.reads I d x v hd rx
  obtain ⟨bs, r2⟩ := Dp.reads I (.tuple ds) y u he ry
  exact SeqAt.notIn_tuple_reads r2 r1 (can_t se) (SeqAt.canLay_of_shaped sd) (in_room2 sd hu) ⟨.bl _, H, I, rfl, q⟩
theorem op_notInL (hu : X.A.units + 66 < cLine) : OpR X (compareOp .NotIn) (rNotInL X.K) := by
  intro pins s σ H x y v u Q I rx ry h
  obtain ⟨d, ds, hd, he, sd, se, q⟩ := h
  obtain ⟨as, r1⟩ := Dp.reads I d x v hd rx
  obtain ⟨bs, r2⟩ := Dp.reads I (.list ds) y u he ry
  exact SeqAt.notIn_list_reads r2 r1 (can_l se) (SeqAt.canLay_of_shaped sd) (in_room2 sd hu) ⟨.bl _, H, I, rfl, q⟩
theorem toPys_any (x : D) : ∀ ds : List D, (toPys ds).any (fun z => PyData.eqv z (toPy x)) = ds.any fun z => eqB z x
  | [] => rfl
  | d :: ds => by
    show (PyData.eqv (toPy d) (toPy x) || (toPys ds).any (fun z => PyData.eqv z (toPy x))) = (eqB d x || ds.any fun z => eqB z x)
    rw [toPys_any x ds] <;> rfl
theorem okE_lst {ds : List D} (h : okE (.lst ds) = true) : okD (.lst ds) = true ∧ SeqAt.shaped (.list (toPys ds)) = true := by
  have := Bool.and_eq_true_iff.mp h
  simpa [toPy] using this
theorem okE_tup {ds : List D} (h : okE (.tup ds) = true) : okD (.tup ds) = true ∧ SeqAt.shaped (.tuple (toPys ds)) = true := by
  have := Bool.and_eq_true_iff.mp h
  simpa [toPy] using this
theorem om_in (ag : Ag X R) (hu : X.A.units + 66 < cLine) : OpM X R (compareOp .In) gIn := by
  refine ⟨_, (op_inL hu).or (op_inT hu), fun {G H x y vx vy rv Q} s rx ry e h => ?_⟩
  unfold gIn at e
  split at e
  · split at e
    · rename_i ds c
      obtain ⟨c1, c2⟩ := Bool.and_eq_true_iff.mp c
      obtain ⟨d1, d2⟩ := Bool.and_eq_true_iff.mp c1
      obtain ⟨d3, d4⟩ := okE_lst c2
      cases e
      have dy := ry.dp s d3
      have ey : toPy (.lst ds) = .list (toPys ds) := by simp [toPy]
      rw [ey] at dy
      exact .inl ⟨_, _, by rw [ag.K]; exact rx.dp s d1, by rw [ag.K]; exact dy, d2, d4, by rw [toPys_any]; exact h.sc s .bl⟩
    · cases e
  · split at e
    · rename_i ds c
      obtain ⟨c1, c2⟩ := Bool.and_eq_true_iff.mp c
      obtain ⟨d1, d2⟩ := Bool.and_eq_true_iff.mp c1
      obtain ⟨d3, d4⟩ := okE_tup c2
      cases e
      have dy := ry.dp s d3
      have ey : toPy (.tup ds) = .tuple (toPys ds) := by simp [toPy]
      rw [ey] at dy
      exact .inr ⟨_, _, by rw [ag.K]; exact rx.dp s d1, by rw [ag.K]; exact dy, d2, d4, by rw [toPys_any]; exact h.sc s .bl⟩
    · cases e
  · cases e
theorem om_notIn (ag : Ag X R) (hu : X.A.units + 66 < cLine) : OpM X R (compareOp .NotIn) gNotIn := by
  refine ⟨_, (op_notInL hu).or (op_notInT hu), fun {G H x y vx vy rv Q} s rx ry e h => ?_⟩
  unfold gNotIn at e
  split at e
  · split at e
    · rename_i ds c
      obtain ⟨c1, c2⟩ := Bool.and_eq_true_iff.mp c
      obtain ⟨d1, d2⟩ := Bool.and_eq_true_iff.mp c1
      obtain ⟨d3, d4⟩ := okE_lst c2
      cases e
      have dy := ry.dp s d3
      have ey : toPy (.lst ds) = .list (toPys ds) := by simp [toPy]
      rw [ey] at dy
      exact .inl ⟨_, _, by rw [ag.K]; exact rx.dp s d1, by rw [ag.K]; exact dy, d2, d4, by rw [toPys_any]; exact h.sc s .bl⟩
    · cases e
  · split at e
    · rename_i ds c
      obtain ⟨c1, c2⟩ := Bool.and_eq_true_iff.mp c
      obtain ⟨d1, d2⟩ := Bool.and_eq_true_iff.mp c1
      obtain ⟨d3, d4⟩ := okE_tup c2
      cases e
      have dy := ry.dp s d3
      have ey : toPy (.tup ds) = .tuple (toPys ds) := by simp [toPy]
      rw [ey] at dy
      exact .inr ⟨_, _, by rw [ag.K]; exact rx.dp s d1, by rw [ag.K]; exact dy, d2, d4, by rw [toPys_any]; exact h.sc s .bl⟩
    · cases e
  · cases e
end
end DB

set_option Elab.async false
set_option linter.all false
set_option maxRecDepth 100000
set_option maxHeartbeats 4000000
namespace DB
open PySem PySem.Spec PyProof.Rows L2
theorem hr66 {k : Nat} {A : Around} (r : Room k A) : A.units + 66 < cLine := by have := r.un; omega
section
variable {R R' : RC} {H0 H H' H1 H2 : Hp} {G0 G G' G1 G2 : Wd} {w w' w1 : W} {σ σ' : L2.St} {as as' as1 as2 bs : List Addr} {Wx : WX} {X : Cx}
  {a b c e elt tg iter : Expr} {ma mb mc m : ME} {pos : Pos} {es ifs : List Expr} {st : Stmt} {rest body orelse : List Stmt} {m1 m2 ms : MS} {mr : MA}

/-! enumerate -/
def enumD (i : Nat) : List D → List D
  | [] => []
  | d :: ds => .tup [.int (i : Nat), d] :: enumD (i + 1) ds
theorem enumD_get : ∀ {ds : List D} {k i : Nat}, (enumD k ds)[i]? = ds[i]?.map fun d => .tup [.int ((k + i : Nat) : Int), d]
  | [], _, _ => by simp [enumD]
  | d :: ds, k, 0 => by simp [enumD]
  | d :: ds, k, i + 1 => by
    unfold enumD
    rw [List.getElem?_cons_succ, enumD_get (ds := ds), List.getElem?_cons_succ, show k + 1 + i = k + (i + 1) by omega]
theorem enumD_len : ∀ {ds : List D} {k : Nat}, (enumD k ds).length = ds.length
  | [], _ => rfl
  | d :: ds, k => by unfold enumD; rw [List.length_cons, enumD_len, List.length_cons]
def enItems (x : D) : Option (List D) := match x with
  | .str _ => none
  | x => seqItems x
def mEnum (m : ME) : MA := fun w => match (m w).bd fun x w1 => .ok (.d x) w1 with
  | .ok (.d x) w1 => match enItems x with
    | some ds => .ok (enumD 0 ds) w1
    | none => .bad
  | .ok _ _ => .bad
  | .ex x w1 => .ex x w1
  | .bad => .bad
theorem rp_pair {x y : D} {v u : V} {T : Addr} (s : Same G.Z H) (nT : H T = none) (r1 : Rp R G x v) (r2 : Rp R G y u) : ∃ G3, PExt G H G3 (upd H T (.tup [v, u])) ∧ Rp R G3 (.tup [x, y]) (.ref T) :=
  ⟨_, .new s nT, .tup (.inl (.inl put_at)) (.cons (r1.mono (PExt.new s nT).le) (.cons (r2.mono (PExt.new s nT).le) .nil))⟩
theorem walks_enum {K : PySem.W.Frag} {p : Addr} {ds : List D} {xs : List V} (hx : SqL K G.Z p xs) (rs : Rps R G ds xs) : Walks R (Ite K p) (enumD 0 ds) G := fun G2 H2 le s => by
  have hx2 : SqL K H2 p xs := Same.seq s (Same.seq le.z hx)
  refine ⟨fun i d e => ?_, ⟨xs, hx2, by rw [enumD_len, rs.length]; exact Nat.le_refl _⟩⟩
  rw [enumD_get] at e
  obtain ⟨y, e1, rfl⟩ := Option.map_eq_some_iff.mp e
  obtain ⟨v, ev, rp⟩ := rs.get e1
  refine ⟨⟨xs, v, hx2, ev⟩, fun x H3 ⟨T, x', ex, nT, e3, q⟩ => ?_⟩
  have e4 := q xs hx2
  rw [ev] at e4
  cases e4
  subst ex e3
  rw [Nat.zero_add]
  exact rp_pair s nT .int (rp.mono le)
/-- the tuple at a, each item in a new pair -/
def IteT (K : PySem.W.Frag) (a : Addr) : It :=
  ⟨fun i H => ∃ (xs : List V) (x : V), SqT K H a xs ∧ xs[i]? = some x, fun i H v H' => ∃ T x, v = .ref T ∧ H T = none ∧ H' = upd H T (.tup [.int (i : Nat), x]) ∧ ∀ xs, SqT K H a xs → xs[i]? = some x, fun i H => ∃ xs : List V, SqT K H a xs ∧ xs.length = i⟩
theorem walks_enumT {K : PySem.W.Frag} {p : Addr} {ds : List D} {xs : List V} (hx : SqT K G.Z p xs) (rs : Rps R G ds xs) : Walks R (IteT K p) (enumD 0 ds) G := fun G2 H2 le s => by
  have hx2 : SqT K H2 p xs := Same.seqT s (Same.seqT le.z hx)
  refine ⟨fun i d e => ?_, ⟨xs, hx2, by rw [enumD_len, rs.length]⟩⟩
  rw [enumD_get] at e
  obtain ⟨y, e1, rfl⟩ := Option.map_eq_some_iff.mp e
  obtain ⟨v, ev, rp⟩ := rs.get e1
  refine ⟨⟨xs, v, hx2, ev⟩, fun x H3 ⟨T, x', ex, nT, e3, q⟩ => ?_⟩
  have e4 := q xs hx2
  rw [ev] at e4
  cases e4
  subst ex e3
  rw [Nat.zero_add]
  exact rp_pair s nT .int (rp.mono le)
theorem turn_enumT {P : Program} {w : World} {K : PySem.W.Frag} {elts : List Expr} {kk : Nat} {tpos : Pos} (a e it : Addr) :
    Turn P w K (.Tuple elts kk tpos) (IteT K a) [e, it] e (fun i h => (∃ old, IsEnum h e it ((i : Nat) : Int) old) ∧ h.IsTupleIter it a i ∧ e ≠ it) where
  mem := by simp
  obj := fun i h st b hb => by
    obtain ⟨⟨old, he⟩, ⟨o, ho, hc, hd⟩, _⟩ := st
    have e' : b = e ∨ b = it := by simpa using hb
    rcases e' with z | z
    · rw [z]; exact ⟨_, he, fun v q => nomatch q⟩
    · rw [z]; exact ⟨o, ho, fun v q => by rw [hd] at q; cases q⟩
  keep := fun i h h' st k => let ⟨⟨old, he⟩, hi, hne⟩ := st; ⟨⟨old, k e (by simp) _ he⟩, hi.at fun o q => k it (by simp) o q, hne⟩
  item := by
    intro X hP hw hK hc i pins s σ H E I hf st hg
    subst hP hw hK
    obtain ⟨⟨old, he⟩, hit, hne⟩ := st
    obtain ⟨xs, x, hq, hx⟩ := hg
    obtain ⟨its, rv, p, hz⟩ := I.tuple hq
    obtain ⟨u, hu, ru⟩ := rv.get hx
    have hel : e < s.heap.objs.size := Heap.lt_size he
    have hil : it < s.heap.objs.size := by obtain ⟨_, q, _⟩ := hit; exact Heap.lt_size q
    have hai : a ≠ it := fun z => by
      obtain ⟨o1, q1, c1, _⟩ := hit
      obtain ⟨o2, q2, c2, _⟩ := p
      rw [z, q1] at q2
      cases q2
      rw [c1] at c2
      exact absurd c2 (by simp)
    have hae : e ≠ a := fun z => by
      obtain ⟨o2, q2, c2, _⟩ := p
      rw [← z, he] at q2
      cases q2
      exact absurd c2 (by simp)
    have D := Draws.tuple (prog := X.prog) (w := X.w) (A := X.A.in1) (I.ok.hd hc) it a hai its.toArray
    have hlt : i < its.toArray.size := by
      have := (List.getElem?_eq_some_iff.mp hu).1
      simpa using this
    refine wpAny_pyNext_enum_itemC D he ⟨hit, p⟩ hlt hne (by simp [hne, hae]) fun x2 h' tk hP2 ho hSt hT hsz hk => ?_
    have ex2 : x2 = u := by
      have h1 : its.toArray[i]? = some x2 := hP2
      have h2 : its.toArray[i]? = some u := by simpa using hu
      rw [h1] at h2
      exact Option.some.inj h2
    subst ex2
    refine ⟨_, rfl, wpAny_letOwnedTupleGo_enum (s := { s with heap := h', toks := tk + 1 }) ho fun h'' he' sb => ?_⟩
    have hT2 : h''.get? s.heap.objs.size = some { cls := .type "tuple", data := .seq #[.int i tk, x2] } := (sb.2 _ (Nat.ne_of_gt hel)).trans hT
    have new : ObjOk X.prog X.w (upd H s.heap.objs.size (.tup [.int (i : Nat), x])) h'' s.heap.objs.size (.tup [.int (i : Nat), x]) :=
      ⟨by show 2 ≤ sizeLine; decide, [.int i tk, x2], .cons ⟨_, rfl⟩ (.cons ru .nil), ⟨_, hT2, rfl, _, rfl⟩⟩
    have I1 : Inv X pins σ (upd H s.heap.objs.size (.tup [.int (i : Nat), x])) { s with heap := h'', toks := tk + 1 } :=
      I.turnedNew (ch := [e, it]) (fun b ob hb q => (sb.2 b (fun z => hb (by simp [z]))).trans (hk b ob (fun z => hb (by simp [z])) (fun z => hb (by simp [z])) q)) hf (Nat.le_refl _) new
    refine ⟨.ref s.heap.objs.size, _, I1, rfl, ⟨_, x, rfl, I.hok.fresh (Nat.le_refl _), rfl, fun ys hy => by rw [I.tuple_inj hy hq]; exact hx⟩, ⟨⟨x2, ?_⟩, hSt.1.at fun o q => (sb.2 it (Ne.symm hne)).trans q, hne⟩, fun b hb => ?_⟩
    · have e1 : ((i + 1 : Nat) : Int) = (i : Int) + 1 := by omega
      rw [e1]; exact he'
    · have hb' : b < s.heap.objs.size := by
        have e' : b = e ∨ b = it := by simpa using hb
        rcases e' with z | z
        · rw [z]; exact hel
        · rw [z]; exact hil
      rw [upd_ne (Nat.ne_of_lt hb')]
      exact (hf b hb).1
  done := by
    intro X hP hw hK hc i pins s σ H E I hf st hg
    subst hP hw hK
    obtain ⟨⟨old, he⟩, hit, hne⟩ := st
    obtain ⟨xs, hq, hx⟩ := hg
    obtain ⟨its, rv, p, hz⟩ := I.tuple hq
    obtain ⟨f0, f1, f2, f3, f4, f5⟩ := hf it (by simp)
    have hl := rv.length
    have hai : a ≠ it := fun z => by
      obtain ⟨o1, q1, c1, _⟩ := hit
      obtain ⟨o2, q2, c2, _⟩ := p
      rw [z, q1] at q2
      cases q2
      rw [c1] at c2
      exact absurd c2 (by simp)
    have D := Draws.tuple (prog := X.prog) (w := X.w) (A := X.A.in1) (I.ok.hd hc) it a hai its.toArray
    have en : i = its.toArray.size := by rw [List.size_toArray, ← hl, hx]
    rw [en] at hit
    exact wpAny_pyNext_enum_endD D he ⟨hit, p⟩ fun h' eb => ⟨rfl, I.turned (t' := s.toks) (fun b o hb q => eb b o hb q) f0 f1 f3 f4 f5⟩
  self := fun A i s Q E st h => let ⟨⟨_, he⟩, _⟩ := st; wpAny_pyIter_enum he h
end
/-- enumerate(v): its two new cells -/
theorem meets_enumB {v : Value} {o : Obj} {H : Heap → Prop} (B : Begins v o H) :
    Meets (Builtin.«enumerate.__new__» ⟨[.type "enumerate", v], []⟩) (fun _ R s => H s.heap ∧
      R (.ok (.ret (.ref (s.heap.push o).objs.size))) { s with heap := (s.heap.push o).push { cls := .type "enumerate", data := .fields #[.none, .bool false, .ref s.heap.objs.size, rawInt 0, .none, .none] } }) :=
  .of_wp fun prog w A R s h => by
    obtain ⟨hp, g, d, tk, os⟩ := s
    obtain ⟨h1, h⟩ := h
    have hsub := sub_enumerate
    have q1 : ∀ {A' : Around} {E : Value → Shared → Prop} {Q : Value → Shared → Prop}, Q (.ref hp.objs.size) ⟨hp.push o, g, d, tk, os⟩ → wpAny (model prog w) A' (pyIter v) Q E ⟨hp, g, d, tk, os⟩ :=
      fun q => B.iter prog w _ _ ⟨hp, g, d, tk, os⟩ _ h1 q
    wp_walk using q1
    refine wpAny_stack_any fun st => wpAny_pure ?_
    split
    · rename_i c _ _ _ _ _
      cases (c == Value.type "enumerate")
      · wp_walk using q1
        exact ⟨_, rfl, h⟩
      · wp_walk using q1
        exact ⟨_, rfl, h⟩
    · wp_walk using q1
      exact ⟨_, rfl, h⟩
theorem call_enumT {prog : Program} {w : World} {A : Around} {E : Value → Shared → Prop} {s : Shared} {v : Value} {o : Obj} {H : Heap → Prop} {Q : Value → Shared → Prop} (B : Begins v o H) (h1 : H s.heap)
    (h : ∀ h', IsEnum h' (s.heap.objs.size + 1) s.heap.objs.size 0 .none → h'.get? s.heap.objs.size = some o → (∀ b o, s.heap.get? b = some o → h'.get? b = some o) → Q (.ref (s.heap.objs.size + 1)) { s with heap := h' }) :
    wpAny (model prog w) A (call (.type "enumerate") [v]) Q E s := by
  refine callType_new F.called_enumerate (by decide) (F.typeCall_enumerate_1 _) (F.newCall_enumerate_1 _) (fun obj => F.args_object_init_2 obj _) F.entry_enumerate_new (meets_enumB B) ⟨h1, ?_⟩
  have hz : (s.heap.push o).objs.size = s.heap.objs.size + 1 := Heap.size_push ..
  show _ ∧ _
  rw [hz]
  have he : IsEnum ((s.heap.push o).push { cls := .type "enumerate", data := .fields #[.none, .bool false, .ref s.heap.objs.size, rawInt 0, .none, .none] }) (s.heap.objs.size + 1) s.heap.objs.size 0 .none := by
    have := Heap.get?_push_size (s.heap.push o) (o := { cls := .type "enumerate", data := .fields #[.none, .bool false, .ref s.heap.objs.size, rawInt 0, .none, .none] }) rfl
    rw [hz] at this
    exact this
  exact ⟨⟨_, he, rfl⟩, h _ he (Heap.get?_push_of_some _ (Heap.get?_push_size _ B.free)) fun b o x => Heap.get?_push_of_some _ (Heap.get?_push_of_some _ x)⟩
section
variable {R R' : RC} {H0 H H' H1 H2 : Hp} {G0 G G' G1 G2 : Wd} {w w' w1 : W} {σ σ' : L2.St} {as as' as1 as2 bs : List Addr} {Wx : WX} {X : Cx}
  {a b c e elt tg iter : Expr} {ma mb mc m : ME} {pos : Pos} {es ifs : List Expr} {st : Stmt} {rest body orelse : List Stmt} {m1 m2 ms : MS} {mr : MA}

def iEnumT (K : PySem.W.Frag) (ta : TA) : TI := fun σ H R => ta σ H fun vs H1 => ∃ a xs, vs = [.ref a] ∧ SqT K H1 a xs ∧ R (IteT K a) H1
theorem pi_enumT {p tpos : Pos} {elts : List Expr} {kk : Nat} {ta : TA} (hg : Gl X "enumerate") (hm : X.mg "enumerate" = none) (ha : PA X [e] ta) (hs : starEach [e] X.env = [(false, eval e X.env)] := by rfl) :
    PI X (.Tuple elts kk tpos) (.Call (.Name "enumerate" p) [e] [] pos) (iEnumT X.K ta) := by
  refine ⟨fun pins s σ H R I h => ?_⟩
  refine Call_ (ld_blt I hg hm boot_enumerate (PyProof.Rows.callWith_type1 (thn (ha.run pos pins s σ H _ I h) fun us s1 ⟨vs, H1, I1, r1, q1⟩ => ?_) hs rfl))
  obtain ⟨a, xs, ex, hq, q⟩ := q1
  subst ex
  cases r1 with
  | cons r rr =>
    cases rr
    cases r
    obtain ⟨its, rv, p', hz⟩ := I1.tuple hq
    refine call_enumT (begins_tuple a its.toArray) p' fun h' he hit hk => wpAny_pyIter_enum he ?_
    have I2 : Inv X pins σ H1 { s1 with heap := h' } := I1.kept (t' := s1.toks) hk
    refine ⟨s1.heap.objs.size + 1, [s1.heap.objs.size + 1, s1.heap.objs.size], _, _, H1, rfl, I2, turn_enumT a (s1.heap.objs.size + 1) s1.heap.objs.size, ⟨⟨.none, he⟩, ⟨_, hit, rfl, rfl⟩, Nat.succ_ne_self _⟩, fun b hb => ?_, q⟩
    have e' : b = s1.heap.objs.size + 1 ∨ b = s1.heap.objs.size := by simpa using hb
    have hle : s1.heap.objs.size ≤ b := by
      rcases e' with z | z
      · rw [z]; exact Nat.le_add_right _ _
      · rw [z]; exact Nat.le_refl _
    exact I1.fpOk hle (I1.hok.fresh hle)
theorem im_enum {p tpos : Pos} {elts : List Expr} {kk : Nat} (ag : Ag X R) (hg : Gl X "enumerate") (hm : X.mg "enumerate" = none) (he : PEm X R Wx a m) (hs : starEach [a] X.env = [(false, eval a X.env)] := by rfl) :
    PIm X R Wx (.Tuple elts kk tpos) (.Call (.Name "enumerate" p) [a] [] pos) (mEnum m) :=
  ⟨fun H0 G0 => ⟨fun pins s σ H Rj I ⟨G, w, as, rel, h⟩ => by
    have h1 : starEach [a] X.env = (false, eval a X.env) :: starEach [] X.env := hs
    have go : ∀ {Q : List V → Hp → Prop}, (∀ x w1 ds, enItems x = some ds → (∀ J G' H' as', Rel R H0 G0 G' w1 σ H' as' → Ext as G H G' H' → (∀ a ∈ as', a ∈ as) → Walks R J (enumD 0 ds) G' → Rj J H') → (∃ rv, m w = .ok rv w1 ∧ rv.frz = some x) → ∀ v G1 H1 as1, Rel R H0 G0 G1 w1 σ H1 as1 → Ext as G H G1 H1 → (∀ a ∈ as1, a ∈ as) → Rp R G1 x v → Q [v] H1) → liftE R Wx H0 G0 m σ H (fun x H1 => tNil σ H1 fun xs H2 => Q (x :: xs) H2) := by
      intro Q k
      have h' : (match mEnum m w with
        | .ok ds w' => ∀ J G' H' as', Rel R H0 G0 G' w' σ H' as' → Ext as G H G' H' → (∀ a ∈ as', a ∈ as) → Walks R J ds G' → Rj J H'
        | .ex x w' => ∀ cls d G' H' as', Rel R H0 G0 G' w' σ H' as' → ExcR R G' H' x cls d → Wx cls d σ H'
        | .bad => False) := h
      unfold mEnum at h'
      refine ⟨G, w, as, rel, ?_⟩
      cases e : m w with
      | bad => rw [e] at h'; exact h'.elim
      | ex x w1 => rw [e] at h'; exact h'
      | ok rv w1 =>
        rw [e] at h'
        intro v G' H' as' bs rel' ext sub sl lo fr
        cases ef : rv.frz with
        | none =>
          have e2 : (Res.ok rv w1).bd (fun x w1 => .ok (.d x) w1) = .bad := by unfold Res.bd Res.bind; simp only [ef]
          rw [e2] at h'; exact h'.elim
        | some x =>
          have e2 : (Res.ok rv w1).bd (fun x w1 => .ok (.d x) w1) = .ok (.d x) w1 := by unfold Res.bd Res.bind; simp only [ef]
          rw [e2] at h'
          obtain ⟨G2, rel2, ext2, rp⟩ := frz_tmp rel' sl lo ef
          cases es : enItems x with
          | none => simp only [es] at h'
          | some ds =>
            simp only [es] at h'
            exact k x w1 ds es h' ⟨rv, e, ef⟩ v G2 H' as' rel2 (ext.trans fr ext2) sub rp
    -- which kind
    have same : ∀ {x x' : D} {w1 w1' : W}, (∃ rv, m w = .ok rv w1 ∧ rv.frz = some x) → (∃ rv, m w = .ok rv w1' ∧ rv.frz = some x') → x = x' := fun ⟨r1, e1, f1⟩ ⟨r2, e2, f2⟩ => by
      rw [e1] at e2; cases e2; rw [f1] at f2; exact Option.some.inj f2
    by_cases hk : ∃ ds w1, ∃ rv, m w = .ok rv w1 ∧ rv.frz = some (.tup ds)
    · obtain ⟨ds0, w0, hk⟩ := hk
      refine (pi_enumT hg hm (pa_cons (he.pe H0 G0) pa_nil h1) hs).run pins s σ H Rj I (go (Q := fun vs H1 => ∃ a xs, vs = [.ref a] ∧ SqT X.K H1 a xs ∧ Rj (IteT X.K a) H1) fun x w1 ds es k hx v G1 H1 as1 rel1 ext1 sub1 rp => ?_)
      cases same hx hk
      cases rp with
      | tup hx2 rs =>
        cases es
        exact ⟨_, _, rfl, by rw [ag.K]; exact Same.seqT rel1.bas.sub hx2, k _ G1 H1 as1 rel1 ext1 sub1 (by rw [ag.K]; exact walks_enumT hx2 rs)⟩
    · refine (pi_enum hg hm (pa_cons (he.pe H0 G0) pa_nil h1) hs).run pins s σ H Rj I (go (Q := fun vs H1 => ∃ a xs, vs = [.ref a] ∧ SqL X.K H1 a xs ∧ Rj (Ite X.K a) H1) fun x w1 ds es k hx v G1 H1 as1 rel1 ext1 sub1 rp => ?_)
      cases x with
      | lst ds' =>
        cases rp with
        | lst hx2 rs =>
          cases es
          exact ⟨_, _, rfl, .inl (.inl (rel1.bas.sub _ _ hx2)), k _ G1 H1 as1 rel1 ext1 sub1 (walks_enum (.inl (.inl hx2)) rs)⟩
      | scr ds' =>
        cases rp with
        | scr hx2 rs =>
          cases es
          exact ⟨_, _, rfl, by rw [ag.K]; exact Same.seq rel1.bas.sub hx2, k _ G1 H1 as1 rel1 ext1 sub1 (by rw [ag.K]; exact walks_enum hx2 rs)⟩
      | tup ds' => exact (hk ⟨_, _, hx⟩).elim
      | str z => cases es
      | _ => cases es⟩⟩
end
end DB

set_option Elab.async false
set_option linter.all false
set_option maxRecDepth 100000
set_option maxHeartbeats 4000000
namespace DB
open PySem PySem.Spec PyProof.Rows L2
section
variable {R R' : RC} {H0 H H' H1 H2 : Hp} {G0 G G' G1 G2 : Wd} {w w' w1 : W} {σ σ' : L2.St} {as as' as1 as2 bs : List Addr} {Wx : WX} {X : Cx}
  {a b c e elt tg iter : Expr} {ma mb mc m : ME} {pos : Pos} {es ifs : List Expr} {st : Stmt} {rest body orelse : List Stmt} {m1 m2 ms : MS} {mr : MA}
/-! zip -/
def zipD : List D → List D → List D
  | x :: xs, y :: ys => .tup [x, y] :: zipD xs ys
  | _, _ => []
theorem zipD_get : ∀ {xs ys : List D} {i : Nat} {d : D}, (zipD xs ys)[i]? = some d → ∃ x y, xs[i]? = some x ∧ ys[i]? = some y ∧ d = .tup [x, y]
  | [], _, _, _, h => by simp [zipD] at h
  | _ :: _, [], _, _, h => by simp [zipD] at h
  | x :: xs, y :: ys, 0, d, h => by
    have : D.tup [x, y] = d := by simpa [zipD] using h
    exact ⟨x, y, rfl, rfl, this.symm⟩
  | x :: xs, y :: ys, i + 1, d, h => by
    have h' : (zipD xs ys)[i]? = some d := by simpa [zipD] using h
    obtain ⟨a, b, h1, h2, h3⟩ := zipD_get h'
    exact ⟨a, b, by simpa using h1, by simpa using h2, h3⟩
theorem zipD_len : ∀ {xs ys : List D}, (zipD xs ys).length = min xs.length ys.length
  | [], ys => by simp [zipD]
  | _ :: _, [] => by simp [zipD]
  | x :: xs, y :: ys => by
    unfold zipD
    rw [List.length_cons, zipD_len, List.length_cons, List.length_cons]
    omega
def zipX (x y : D) : Option (List D) := match x, y with
  | .lst xs, .lst ys => some (zipD xs ys)
  | .tup xs, .tup ys => some (zipD xs ys)
  | _, _ => none
def mZip (r : MA) : MA := fun w => match r w with
  | .ok [x, y] w1 => match zipX x y with
    | some ds => .ok ds w1
    | none => .bad
  | .ok _ _ => .bad
  | r => r
theorem walks_zip {K : PySem.W.Frag} {p q : Addr} {ds es : List D} {xs ys : List V} (hx : G.Z p = some (.lst xs)) (hy : G.Z q = some (.lst ys)) (rx : Rps R G ds xs) (ry : Rps R G es ys) : Walks R (Itz K p q) (zipD ds es) G := fun G2 H2 le s => by
  have hx2 : SqL K H2 p xs := .inl (.inl (s _ _ (le.z _ _ hx)))
  have hy2 : SqL K H2 q ys := .inl (.inl (s _ _ (le.z _ _ hy)))
  refine ⟨fun i d e => ?_, ⟨xs, ys, hx2, hy2, ?_⟩⟩
  · obtain ⟨x, y, e1, e2, rfl⟩ := zipD_get e
    obtain ⟨v, ev, rv⟩ := rx.get e1
    obtain ⟨u, eu, ru⟩ := ry.get e2
    refine ⟨⟨xs, ys, v, u, hx2, hy2, ev, eu⟩, fun z H3 ⟨T, v', u', ez, nT, e3, q1, q2⟩ => ?_⟩
    have a1 := q1 xs hx2
    have a2 := q2 ys hy2
    rw [ev] at a1
    rw [eu] at a2
    cases a1
    cases a2
    subst ez e3
    exact rp_pair s nT (rv.mono le) (ru.mono le)
  · rw [zipD_len, ← rx.length, ← ry.length]
    omega
theorem walks_zipT {K : PySem.W.Frag} {p q : Addr} {ds es : List D} {xs ys : List V} (hx : SqT K G.Z p xs) (hy : SqT K G.Z q ys) (rx : Rps R G ds xs) (ry : Rps R G es ys) : Walks R (RZ.ItzT K p q) (zipD ds es) G := fun G2 H2 le s => by
  have hx2 : SqT K H2 p xs := Same.seqT s (Same.seqT le.z hx)
  have hy2 : SqT K H2 q ys := Same.seqT s (Same.seqT le.z hy)
  refine ⟨fun i d e => ?_, ⟨xs, ys, hx2, hy2, ?_⟩⟩
  · obtain ⟨x, y, e1, e2, rfl⟩ := zipD_get e
    obtain ⟨v, ev, rv⟩ := rx.get e1
    obtain ⟨u, eu, ru⟩ := ry.get e2
    refine ⟨⟨xs, ys, v, u, hx2, hy2, ev, eu⟩, fun z H3 ⟨T, v', u', ez, nT, e3, q1, q2⟩ => ?_⟩
    have a1 := q1 xs hx2
    have a2 := q2 ys hy2
    rw [ev] at a1
    rw [eu] at a2
    cases a1
    cases a2
    subst ez e3
    exact rp_pair s nT (rv.mono le) (ru.mono le)
  · rw [zipD_len, ← rx.length, ← ry.length]
    omega
theorem im_zip {p tpos : Pos} {elts : List Expr} {kk : Nat} (ag : Ag X R) (hg : Gl X "zip") (hm : X.mg "zip" = none) (ha : PAm X R Wx [a, b] mr) (hs : starEach [a, b] X.env = (false, eval a X.env) :: starEach [b] X.env := by rfl) (hpl : (backTo pos (starEach [b] X.env)).any (·.1) = false := by rfl) :
    PIm X R Wx (.Tuple elts kk tpos) (.Call (.Name "zip" p) [a, b] [] pos) (mZip mr) :=
  ⟨fun H0 G0 => PI.cons (RZ.pi_zipA hg hm (ha.pe H0 G0) hs hpl) fun σ H Q ⟨G, w, as, rel, h⟩ => by
    refine ⟨G, w, as, rel, ?_⟩
    have h' : (match mZip mr w with
      | .ok ds w' => ∀ J G' H' as', Rel R H0 G0 G' w' σ H' as' → Ext as G H G' H' → (∀ a ∈ as', a ∈ as) → Walks R J ds G' → Q J H'
      | .ex x w' => ∀ cls d G' H' as', Rel R H0 G0 G' w' σ H' as' → ExcR R G' H' x cls d → Wx cls d σ H'
      | .bad => False) := h
    unfold mZip at h'
    cases e : mr w with
    | bad => rw [e] at h'; exact h'
    | ex x w1 => rw [e] at h'; exact h'
    | ok ds w1 =>
      rw [e] at h'
      intro vs G' H' as' rel' ext sub rs
      cases rs with
      | nil => exact h'.elim
      | @cons d ds v vs r1 rs =>
        cases rs with
        | nil => exact h'.elim
        | @cons d2 ds2 v2 vs2 r2 rs =>
          cases rs with
          | cons _ _ => exact h'.elim
          | nil =>
            cases ez : zipX d d2 with
            | none => simp only [ez] at h'
            | some zs =>
              simp only [ez] at h'
              unfold zipX at ez
              split at ez
              · cases r1 with
                | lst hx rx =>
                  cases r2 with
                  | lst hy ry =>
                    cases ez
                    exact ⟨_, _, _, _, rfl, .inl ⟨.inl (.inl (rel'.bas.sub _ _ hx)), .inl (.inl (rel'.bas.sub _ _ hy)), h' _ G' H' as' rel' ext sub (walks_zip hx hy rx ry)⟩⟩
              · cases r1 with
                | tup hx rx =>
                  cases r2 with
                  | tup hy ry =>
                    cases ez
                    exact ⟨_, _, _, _, rfl, .inr ⟨by rw [ag.K]; exact Same.seqT rel'.bas.sub hx, by rw [ag.K]; exact Same.seqT rel'.bas.sub hy, h' _ G' H' as' rel' ext sub (by rw [ag.K]; exact walks_zipT hx hy rx ry)⟩⟩
              · cases ez⟩
end
end DB

set_option Elab.async false
set_option linter.all false
set_option maxRecDepth 100000
set_option maxHeartbeats 4000000
namespace DB
open PySem PySem.Spec PyProof.Rows L2
section
variable {R R' : RC} {H0 H H' H1 H2 : Hp} {G0 G G' G1 G2 : Wd} {w w' w1 : W} {σ σ' : L2.St} {as as' as1 as2 bs : List Addr} {Wx : WX} {X : Cx}
  {a b c e elt tg iter : Expr} {ma mb mc m : ME} {pos : Pos} {es ifs : List Expr} {st : Stmt} {rest body orelse : List Stmt} {m1 m2 ms : MS} {mr : MA}

/-! a list of one's own becomes a cell of the store -/
def Wd.more (G : Wd) (p : Addr) : Wd := { G with sas := G.sas ++ [p] }
theorem more_le {p : Addr} : Wle G (G.more p) := ⟨.refl _, List.prefix_append _ _, fun _ h => h⟩
theorem Rel.cell {p : Addr} {c : Cell} (rel : Rel R H0 G0 G w σ H as) (hc : RCell R G H p c) (hz : G.Z p = none) (hs : p ∉ G.sas) (ha : p ∉ as) (h0 : H0 p = none) : Rel R H0 G0 (G.more p) { w with S := w.S ++ [c] } σ H as where
  env := rel.env.mono more_le fun _ _ _ h => h
  bas := {
    cells := by
      refine ⟨by simp [Wd.more, rel.bas.cells.1], fun n d q h1 h2 => ?_⟩
      by_cases hn : n < w.S.length
      · have h1' : w.S[n]? = some d := by rw [← h1]; exact (List.getElem?_append_left hn).symm
        have hn' : n < G.sas.length := by rw [← rel.bas.cells.1]; exact hn
        have h2' : G.sas[n]? = some q := by rw [← h2]; exact (List.getElem?_append_left hn').symm
        exact (rel.bas.cells.2 n d q h1' h2').mono more_le rfl
      · have hlt : n < (w.S ++ [c]).length := (List.getElem?_eq_some_iff.mp h1).1
        have hn2 : n = w.S.length := by rw [List.length_append] at hlt; simp at hlt; omega
        subst hn2
        have h1' : some c = some d := by rw [← h1]; simp
        cases h1'
        have h2' : some p = some q := by rw [← h2, rel.bas.cells.1]; simp [Wd.more]
        cases h2'
        exact hc.mono more_le rfl
    nd := by
      refine List.nodup_append.mpr ⟨rel.bas.nd, by simp, fun x hx y hy z => hs ?_⟩
      rw [← List.mem_singleton.mp hy, ← z]; exact hx
    free := fun q hq => by
      rcases List.mem_append.mp hq with y | y
      · exact rel.bas.free q y
      · rw [List.mem_singleton.mp y]; exact hz
    sub := rel.bas.sub
    tabs := rel.bas.tabs
    ext := ⟨rel.bas.ext.le.trans more_le, rel.bas.ext.keep, rel.bas.ext.newZ, fun q hq => by
      rcases List.mem_append.mp hq with y | y
      · exact rel.bas.ext.newS q y
      · rw [List.mem_singleton.mp y]; exact .inr h0, rel.bas.ext.dom⟩ }
  nd := by
    obtain ⟨n1, n2, n3⟩ := List.nodup_append.mp rel.nd
    refine List.nodup_append.mpr ⟨n1, List.nodup_append.mpr ⟨n2, by simp, fun x hx y hy z => hs ?_⟩, fun x hx y hy z => ?_⟩
    · rw [← List.mem_singleton.mp hy, ← z]; exact hx
    · rcases List.mem_append.mp hy with q | q
      · exact n3 x hx y q z
      · exact ha (by rw [← List.mem_singleton.mp q, ← z]; exact hx)
  free := rel.free
  fresh := rel.fresh
def cellRS (i : Nat) (rv : RV) (w : W) : RS := match rv with
  | .own ds => setRV i (.d (.cell w.S.length)) { w with S := w.S ++ [.lst ds] }
  | _ => .bad
def mSetC (i : Nat) (m : ME) : MS := fun w => (m w).sd (cellRS i)
theorem sm_setC {i : Nat} {x : Str} {pos' : Pos} (hN : X.N.Nodup) (hi : X.N[i]? = some x) (hx : Loc X.env.scope x) (he : PEm X R Wx e m) (hs : swapsWith e (some (.Name x pos')) pos.line X.env = pure false := by rfl) (hf : X.fn x = true ∨ X.env.scope.names.lookup x = some .local := by first | exact .inl rfl | exact .inr rfl | assumption) :
    PSm X R Wx (.Assign [.Name x pos'] e pos) (mSetC i m) :=
  ⟨fun H0 G0 => PS.cons (ps_set hN hi hx (he.pe H0 G0) hs hf) fun D' σ H ⟨G, w, as, rel, h⟩ => by
    refine lift_sd rel h fun rv v G1 H1 as1 bs w1 rel1 _ _ sl lo _ h1 => ?_
    cases sl with
    | @own p ds xs hp rs =>
      obtain ⟨l1, l2, l3, l4⟩ := lo p (List.mem_singleton.mpr rfl)
      have rel2 := rel1.cell (c := .lst ds) ⟨xs, hp, rs⟩ l1 l2 l3 l4
      have hg : Rp R (G1.more p) (.cell w1.S.length) (.ref p) := .cell (by rw [rel1.bas.cells.1]; simp [Wd.more])
      exact set_post rel2 (.d hg) (by intro b hb; simp at hb) (PostS.up h1 more_le)
    | _ => exact h1.elim⟩

/-! a cell's list is read -/
def cixR (k : D) (n : Nat) (w : W) : Res := match k, w.S[n]? with
  | .int j, some (.lst ds) => match atI ds j with
    | some x => .ok (.d x) w
    | none => .bad
  | _, _ => .bad
def mCIx (i : Nat) (mk : ME) : ME := fun w => match w.env[i]? with
  | some (.d (.cell n)) => (mk w).bd fun k w1 => cixR k n w1
  | _ => .bad
theorem Rel.cellAt {i n : Nat} (r : Rel R H0 G0 G w σ H as) (e : w.env[i]? = some (.d (.cell n))) : ∃ p, σ[i]? = some (some (.ref p)) ∧ G.sas[n]? = some p := by
  obtain ⟨o, bs, cs, e1, e2, _⟩ := r.env.at e
  cases e2 with
  | d h => cases h with
    | cell h => exact ⟨_, e1, h⟩
theorem em_cix (i : Nat) {x : Str} {p : Pos} {mk : ME} (ag : Ag X R) (hk : PEm X R Wx b mk) (hs : PlainIx b) (hN : X.N[i]? = some x := by rfl) (hv : Vis X.env.scope x := by first | exact Or.inl rfl | exact Or.inr (Or.inl rfl) | exact Or.inr (Or.inr rfl)) (hd : (x == ("__debug__" : Str)) = false := by decide)
    (hcd : (x == ("__classdict__" : Str)) = false := by decide) : PEm X R Wx (.Subscript (.Name x p) b pos) (mCIx i mk) :=
  ⟨fun H0 G0 => PE.cons (pe_ix ix_seq (pe_var hN hv hd hcd) (hk.pe H0 G0) hs) fun σ H Q ⟨G, w, as, rel, h⟩ => by
    have h' : PostE R H0 G0 Wx σ G H as (mCIx i mk w) Q := h
    unfold mCIx at h'
    split at h'
    · rename_i n e
      obtain ⟨q, es, eg⟩ := rel.cellAt e
      refine ⟨_, es, ?_⟩
      show liftE R Wx H0 G0 mk σ H _
      refine lift_bd rel h' fun v k G1 H1 as1 w1 rel1 le1 rk h1 => ?_
      unfold cixR at h1
      split at h1
      · rename_i j ds eS
        have eg1 := pre_get le1.s eg
        obtain ⟨xs, hx, rs⟩ := rel1.bas.cells.2 n _ q eS eg1
        cases rk
        cases ea : atI ds j with
        | none => simp only [ea] at h1; exact h1.elim
        | some y =>
          simp only [ea] at h1
          obtain ⟨u, ev, ru⟩ := rs.atI ea
          exact .inl ⟨q, xs, j, u, rfl, rfl, .inl (.inl hx), ev, (h1.new rel1).sc rel1.bas.sub ru⟩
      · exact h1.elim
    · exact h'.elim⟩

/-! a cell's list is changed -/
theorem Rel.mutC {n : Nat} {p : Addr} {ds ds' : List D} {xs xs' : List V} (r : Rel R H0 G0 G w σ H as) (e : w.S[n]? = some (.lst ds)) (eg : G.sas[n]? = some p) (hp : H p = some (.lst xs)) (rs' : Rps R G ds' xs') :
    Rel R H0 G0 G { w with S := w.S.set n (.lst ds') } σ (upd H p (.lst xs')) as where
  env := r.env.mono (.refl _) fun q hq u eu => by
    rw [upd_ne (fun z => (List.nodup_append.mp r.nd).2.2 q hq p (List.mem_of_getElem? eg) z)]; exact eu
  bas := {
    cells := by
      refine ⟨by simp [r.bas.cells.1], fun k c q h1 h2 => ?_⟩
      by_cases hk : k = n
      · subst hk
        rw [eg] at h2
        cases h2
        have hl : k < w.S.length := (List.getElem?_eq_some_iff.mp e).1
        rw [List.getElem?_set_self hl] at h1
        cases h1
        exact ⟨xs', upd_same, rs'⟩
      · rw [List.getElem?_set_ne (Ne.symm hk)] at h1
        have hq : q ≠ p := fun z => by
          rw [z] at h2
          have l1 := (List.getElem?_eq_some_iff.mp h2)
          have l2 := (List.getElem?_eq_some_iff.mp eg)
          obtain ⟨a1, b1⟩ := l1
          obtain ⟨a2, b2⟩ := l2
          exact hk ((List.getElem_inj r.bas.nd).mp (b1.trans b2.symm))
        exact (r.bas.cells.2 k c q h1 h2).mono (.refl _) (upd_ne hq)
    nd := r.bas.nd
    free := r.bas.free
    sub := fun q u eu => by
      rw [upd_ne (fun z => by rw [z, r.bas.free p (List.mem_of_getElem? eg)] at eu; cases eu)]
      exact r.bas.sub q u eu
    tabs := tabsC_upd r.bas.tabs hp
    ext := ⟨r.bas.ext.le, fun q u eu t hq => by
      by_cases z : q = p
      · rcases r.bas.ext.newS p (List.mem_of_getElem? eg) with y | y
        · exact absurd (by rw [z]; exact y) hq
        · rw [z, y] at eu; cases eu
      · rw [upd_ne z]; exact r.bas.ext.keep q u eu t hq, r.bas.ext.newZ, r.bas.ext.newS, fun q eq => by
      by_cases z : q = p
      · rw [z] at eq; rw [upd_same] at eq; cases eq
      · rw [upd_ne z] at eq; exact r.bas.ext.dom q eq⟩ }
  nd := r.nd
  free := r.free
  fresh := r.fresh
def setCRS (n : Nat) (y k : D) (w : W) : RS := match k, w.S[n]? with
  | .int j, some (.lst ds) => match ixN ds.length j with
    | some q => .nx { w with S := w.S.set n (.lst (ds.set q y)) }
    | none => .bad
  | _, _ => .bad
def mCSet (i : Nat) (mk m : ME) : MS := fun w => (m w).sdd fun y w1 => match w1.env[i]? with
  | some (.d (.cell n)) => (mk w1).sdd fun k w2 => setCRS n y k w2
  | _ => .bad
theorem sm_cset (i : Nat) {x : Str} {k : Expr} {mk : ME} {p spos : Pos} (hN : X.N[i]? = some x := by rfl) (hv : Vis X.env.scope x := by first | exact Or.inl rfl | exact Or.inr (Or.inl rfl) | exact Or.inr (Or.inr rfl)) (hk : PEm X R Wx k mk) (he : PEm X R Wx e m) (hd : (x == ("__debug__" : Str)) = false := by decide)
    (hcd : (x == ("__classdict__" : Str)) = false := by decide) (hs : swapsWithSole [.Subscript (.Name x p) k spos] e pos.line X.env = pure false := by rfl) (hw : swappedStores [.Subscript (.Name x p) k spos] e X.env = pure none := by rfl)
    (h1 : (assignEach [.Subscript (.Name x p) k spos] X.env).map (·.2) = [assign (.Subscript (.Name x p) k spos) X.env] := by rfl)
    (hasg : ∀ v, assign (.Subscript (.Name x p) k spos) X.env v = (do
      let ov ← holding [v] (eval (.Name x p) X.env)
      let iv ← holding [v, ov] (eval k X.env)
      standAt spos
      holding [v, ov, iv] (setItem ov iv v)
      release [v, ov, iv] []) := by intro _; rfl) :
    PSm X R Wx (.Assign [.Subscript (.Name x p) k spos] e pos) (mCSet i mk m) :=
  ⟨fun H0 G0 => PS.cons (ps_asg (he.pe H0 G0) (pg_sub (pe_var hN hv hd hcd) (hk.pe H0 G0) set_list hasg) hs hw h1) fun D' σ H ⟨G, w, as, rel, h⟩ => by
    refine lift_sdd rel h fun y v G1 H1 as1 w1 rel1 ext sub rp h1 => ?_
    split at h1
    · rename_i n e0
      obtain ⟨q, es, eg⟩ := rel1.cellAt e0
      refine ⟨_, es, ?_⟩
      refine lift_sdd rel1 h1 fun kk vk G2 H2 as2 w2 rel2 ext2 sub2 rpk h2 => ?_
      unfold setCRS at h2
      split at h2
      · rename_i j ds eS
        have eg2 := pre_get ext2.le.s eg
        obtain ⟨xs, hx, rs⟩ := rel2.bas.cells.2 n _ q eS eg2
        cases rpk
        cases en : ixN ds.length j with
        | none => simp only [en] at h2; exact h2.elim
        | some k =>
          simp only [en] at h2
          have rel3 := rel2.mutC eS eg2 hx (rs.set (rp.mono ext2.le) k)
          exact ⟨_, xs, j, k, rfl, rfl, hx, by rw [← rs.length]; exact en, h2 σ G2 _ as2 rel3 (.refl _)⟩
      · exact h2.elim
    · exact h1.elim⟩
end
end DB

set_option Elab.async false
set_option linter.all false
set_option maxRecDepth 100000
set_option maxHeartbeats 4000000
namespace DB
open PySem PySem.Spec PySem.HandSPX
section
open Builtin
variable {prog : Program} {w : World} {A : Around} {E : Value → Shared → Prop} {P : Result → Shared → Prop} {hh : Heap} {gg : Array GenState} {dr : Drawn} {tk : Nat} {os : OsState}
variable {nm q : Str} {C N fI : Addr} {bs bm bmB : List Value} {hdct : Bool} {sn : List Str} {sub : List Value} {ab : Bool} {col : Option Bool} {dd : Option Addr} {k0 k1 k2 k3 k5 : Option Value} {B newId initId : String} {kw : List (Str × Value)}
theorem chk_newK (Fa : ExcBaseFacts B newId initId bmB) (same : ∀ T : String, bm.contains (.type T) = bmB.contains (.type T)) {Q : Unit → Shared → Prop}
    (eC : hh.get? C = some (excClassObj nm q C N bs bm hdct sn sub ab col dd k0 k1 k2 k3 k5 newId)) (fin : Q () ⟨hh, gg, dr, tk, os⟩) : wpAny (model prog w) A (checkBuiltinCall newId ⟨[.ref C], kw⟩) Q E ⟨hh, gg, dr, tk, os⟩ := by
  have has : (Value.ref C :: bm).contains (.type B) = true := by rw [List.contains_cons, same, Fa.hasB, Bool.or_true]
  have star := Fa.noStar
  simp only [checkBuiltinCall, Fa.newKind, Fa.newSplit, Fa.newRow]
  repeat (first | refine wpAny_loadPart_at eC ?_ | (refine wpAny_isSubtype_exc eC ?_; rw [has]) | refine wpAny_staticBase_exc eC ?_ | refine wpAny_madeBy_exc eC ?_ | simp only [bne_self_eq_false, Bool.false_eq_true, if_false] | wp_step)
  exact fin
theorem newK (Fa : ExcBaseFacts B newId initId bmB) (same : ∀ T : String, bm.contains (.type T) = bmB.contains (.type T))
    (eC : hh.get? C = some (excClassObj nm q C N bs bm hdct sn sub ab col dd k0 k1 k2 k3 k5 newId))
    (fin : P (.ok (.ret (.ref (hh.objs.size + 1)))) ⟨(hh.push (W.kdv_tup [])).push (excO C hh.objs.size), gg, dr, tk, os⟩) : codeAny (model prog w) A (.builtin newId ⟨[.ref C], kw⟩) P ⟨hh, gg, dr, tk, os⟩ := by
  have z0 := Fa.ends
  have z1 : (Value.ref C :: bm).contains (.type B) = true := by rw [List.contains_cons, same, Fa.hasB, Bool.or_true]
  have z2 : (Value.ref C :: bm).contains (.type "AttributeError") = false := by rw [List.contains_cons, same, Fa.noAttr]; rfl
  have z3 : (Value.ref C :: bm).contains (.type "NameError") = false := by rw [List.contains_cons, same, Fa.noName]; rfl
  refine codeAny_builtinAt Fa.entry ?_
  unfold Builtin.«BaseException.__new__»
  refine wpAt_bind ?_
  show wpAt _ _ _ (stack >>= _) _ _ _
  refine wpAt_bind (wpAt_stack fun p below => wpAt_of_wpAny ?_)
  wp_walk
  refine wpAt_of_wpAny ?_
  rw [Fa.owner]
  have hrest : ([] : List Value).length ≤ sizeLine := Nat.zero_le _
  repeat (first | with_reducible refine wpAny_madeHere_exc Fa.canon eC ?_ | with_reducible refine wpAny_loadPart_at eC ?_ | (with_reducible refine wpAny_isSubtype_exc eC ?_; first | rw [z1] | rw [z2] | rw [z3]) | wp_step)
  show P _ _
  rw [Heap.size_push]
  exact fin
theorem tcallK (Fa : ExcBaseFacts B newId initId bmB) (same : ∀ T : String, bm.contains (.type T) = bmB.contains (.type T)) {Q : Fin → Shared → Prop}
    (eC : hh.get? C = some (excClassObj nm q C N bs bm hdct sn sub ab col dd k0 k1 k2 k3 k5 newId))
    (li : W.Looks (model prog w) hh (typeLookup (.ref C) "__init__") (some (.ref fI))) (lb : ∀ self, W.Looks (model prog w) hh (bindSpecial (.ref fI) self) (.ref fI, [self]))
    (fin : codeAny (model prog w) A (.call (.ref fI) ⟨[.ref (hh.objs.size + 1)], kw⟩)
      (fun r s' => match r with | .ok (.ret v) => v = .none ∧ Q (.done (.ret (.ref (hh.objs.size + 1)))) s' | .ok _ => False | .error e => E e s')
      ⟨(hh.push (W.kdv_tup [])).push (excO C hh.objs.size), gg, dr, tk, os⟩) :
    wpAny (model prog w) A (Builtin.«type.__call__» ⟨[.ref C], kw⟩) Q E ⟨hh, gg, dr, tk, os⟩ := by
  repeat (first | with_reducible refine wpAny_loadPart_at eC ?_ | with_reducible refine wpAny_madeBy_exc eC ?_ | wp_step)
  refine codeAny_call_builtin_code (Code.quiet_builtin _ Fa.quiet) (chk_newK Fa same eC ?_)
  refine newK Fa same eC ?_
  show wpAny _ _ _ _ _ _
  have kp : ∀ b o, hh.get? b = some o → ((hh.push (W.kdv_tup [])).push (excO C hh.objs.size)).get? b = some o := fun b o e => Heap.get?_push_of_some _ (Heap.get?_push_of_some _ e)
  have eC1 := kp _ _ eC
  have eN : ((hh.push (W.kdv_tup [])).push (excO C hh.objs.size)).get? (hh.objs.size + 1) = some (excO C hh.objs.size) := by heap_get
  have cC : (Value.ref C :: bm).contains (.ref C) = true := by simp
  have li1 := li.keeps kp
  have lb1 := (lb (.ref (hh.objs.size + 1))).keeps kp
  unfold isInstance
  repeat (first | with_reducible refine wpAny_loadPart_at eN ?_ | (with_reducible refine wpAny_isSubtype_exc eC1 ?_; rw [cC]) | wp_step)
  show wpAny _ _ (typeLookup (.ref C) _) _ _ _
  refine li1.at ?_
  refine wpAny_holding (wpAny_bind (lb1.at ?_))
  refine wpAny_bind (wpAny_call (codeAny_mono fin fun r s' z => ?_))
  rcases r with e | (v | _ | _ | _) <;> first | exact z | exact z.elim | skip
  obtain ⟨rfl, z⟩ := z
  first
    | exact wpAny_pure (wpAny_pure z)
    | (wp_walk; exact z)
theorem callK (Fa : ExcBaseFacts B newId initId bmB) (same : ∀ T : String, bm.contains (.type T) = bmB.contains (.type T))
    (eC : hh.get? C = some (excClassObj nm q C N bs bm hdct sn sub ab col dd k0 k1 k2 k3 k5 newId))
    (li : W.Looks (model prog w) hh (typeLookup (.ref C) "__init__") (some (.ref fI))) (lb : ∀ self, W.Looks (model prog w) hh (bindSpecial (.ref fI) self) (.ref fI, [self]))
    (fin : codeAny (model prog w) (A.under (.builtin "type.__call__" ⟨[.ref C], kw⟩)) (.call (.ref fI) ⟨[.ref (hh.objs.size + 1)], kw⟩) (W.InitBack (hh.objs.size + 1) P)
      ⟨(hh.push (W.kdv_tup [])).push (excO C hh.objs.size), gg, dr, tk, os⟩) :
    codeAny (model prog w) A (.call (.ref C) ⟨[], kw⟩) P ⟨hh, gg, dr, tk, os⟩ := by
  have z1 := tc_lookup
  have z2 := tc_bind (.ref C)
  have z3 : (⟨hh, gg, dr, tk, os⟩ : Shared).TypeIs (.ref C) "type" := ⟨_, eC, rfl⟩
  refine codeAny_of_tree ?_
  show wpAny _ _ (callAny (.ref C) _) _ _ _
  repeat (any_goals (first | assumption | with_reducible refine wpAny_loadPart_at eC ?_ | wp_step))
  refine ⟨rfl, ?_⟩
  refine codeAny_call_builtin_at (Code.quiet_builtin _ (by decide +kernel)) entry_typeCall (wpAny_check_type_call_sub eC (tcallK Fa same eC li lb ?_))
  refine codeAny_mono fin fun r s' z => ?_
  rcases r with e | (v | _ | _ | _) <;> exact z
end

open PyProof.Rows L2
/-! C(k = v, ..): an own exception class with own __init__, keywords alone -/
/-- what its __init__ tells: self's dict has the fields, the last first -/
def spX (K : PySem.W.Frag) (fs : List Str) : Sp := fun vs H Q _ => ∃ (a C : Addr) (zs : List V), vs = .ref a :: zs ∧ zs.length = fs.length ∧ OexC K C ∧ (∀ f ∈ fs, PySem.W.findIn K (.ref C) f = some none) ∧ H a = some (exo a C none) ∧ ∀ dx, H dx = none → dx ≠ a → Q .non (upd (upd H dx (exd dx (fs.reverse.zip zs.reverse))) a (exo a C (some dx)))
structure OwnX (P : Program) (w : World) (K : PySem.W.Frag) (mg : Str → Option Value) (base : Heap) (cls : Str) (k : Nat) (fs : List Str) : Prop where
  ex : ∃ C fI fd ps, mg cls = some (.ref C) ∧ OexC K C ∧ PySem.W.findIn K (.ref C) "__init__" = some (some (.ref fI)) ∧ PySem.W.typeIn K (.ref fI) = some (.type "function") ∧
    (∀ f ∈ fs, PySem.W.findIn K (.ref C) f = some none) ∧ FnOk P w K mg base (L2.CX P w) k fI fd ps (spX K fs) ∧ KBn K fd ps 1 fs (fun us ws => us ++ ws) (fun vs zs => vs ++ zs)
section
variable {X : Cx} {R : RC} {Wx : WX} {x cls : Str} {fs : List Str} {k : Nat} {p pos : Pos} {kws : List Keyword} {t : TA}
theorem made_heap {H : Hp} {a C d : Addr} {o u : HO} (ha : H a = none) (hd : d ≠ a) : upd (del (upd (upd (upd H a (exo a C none)) d o) a (exo a C (some d))) a) d u = upd H d u := by
  funext b
  by_cases hb : b = d
  · rw [hb, upd_same, upd_same]
  · rw [upd_ne hb, upd_ne hb]
    by_cases hba : b = a
    · rw [hba, del_same, ha]
    · rw [del_ne hba, upd_ne hba, upd_ne hb, upd_ne hba]
theorem pmk_kw (O : OwnX X.prog X.w X.K X.mg X.base cls k fs) (hr : Room (k + 1) X.A) (hx : Passes (L2.CX X.prog X.w) X (fun _ _ _ => False)) (hg : Gl X cls) (ha : PK X kws t)
    (hdb : (cls == ("__debug__" : Str)) = false := by decide) (hall : (backToKw pos (keywordEach kws X.env)).all (·.1.isSome) = true := by rfl) (hks : (backToKw pos (keywordEach kws X.env)).filterMap (·.1) = fs := by rfl)
    (hpl : ((backTo pos (starEach [] X.env)).any (·.1) || (backToKw pos (keywordEach kws X.env)).any (·.1.isNone)) = false := by rfl) :
    PMk X (.Call (.Name cls p) [] kws pos) (fun σ H Q => t σ H fun zs H1 => zs.length = fs.length ∧ ∃ C, X.mg cls = some (.ref C) ∧ ∀ d, H1 d = none → Q (.ref C) (some d) (upd H1 d (.xd (fs.reverse.zip zs.reverse)))) := by
  intro pins s σ H Q I h
  obtain ⟨C, fI, fd, ps, gC, T, iC, tI, hno, Fn, kb⟩ := O.ex
  obtain ⟨nm, q, N, bs, bm, sn, sub, ab, col, dd, k0, k1, k2, k3, k5, hC, hbm⟩ := T.cls
  refine wpAny_Call_Name_kw (ld_glob I hg gC ?_ hdb)
  refine PySem.W.callWith_KW0 (h₀ := X.base) I.ok.mod.kin T.kC hall ?_ hpl
  refine thn (ha.run pos pins s σ H _ I h) fun ws s1 ⟨zs, H1, I1, rz, lz, C', gC', q1⟩ => ⟨I1.kIn, ?_⟩
  rw [gC] at gC'
  cases gC'
  rw [hks]
  show wpAny _ _ (call (.ref C) [] (fs.zip ws)) _ _ _
  obtain ⟨hp, g, dr, tk, os⟩ := s1
  have hsz : hp.objs.size ≤ hp.objs.size + 1 := Nat.le_succ _
  have hn : H1 (hp.objs.size + 1) = none := I1.hok.fresh hsz
  have kk : ∀ b o, hp.get? b = some o → ((hp.push (PySem.W.kdv_tup [])).push (excO C hp.objs.size)).get? b = some o := fun b o e => Heap.get?_push_of_some _ (Heap.get?_push_of_some _ e)
  have hget : ((hp.push (PySem.W.kdv_tup [])).push (excO C hp.objs.size)).get? (hp.objs.size + 1) = some (excO C hp.objs.size) := by heap_get
  have I2 : Inv X pins σ (upd H1 (hp.objs.size + 1) (exo (hp.objs.size + 1) C none)) ⟨(hp.push (PySem.W.kdv_tup [])).push (excO C hp.objs.size), g, dr, tk, os⟩ :=
    I1.laid (t' := tk) (a := hp.objs.size + 1) (o := exo (hp.objs.size + 1) C none) (h' := (hp.push (PySem.W.kdv_tup [])).push (excO C hp.objs.size)) kk hsz (exo_ok hget)
  have r2 : Vals ([V.ref (hp.objs.size + 1)] ++ zs) ([Value.ref (hp.objs.size + 1)] ++ ws) := kb.rel (.cons rfl .nil) rz
  have lw : ws.length = fs.length := by rw [← rz.length]; exact lz
  refine wpAny_call (callK F.excBase_ValueError (fun Y => refsVE_contains Y bm hbm) (I1.kIn _ _ hC) (PySem.W.looks_findIn I1.kIn iC) (fun self => PySem.W.bind_fn I1.kIn self tI)
    (codeAny_mono (Fn.run _ X.stack _ _ ⟨[Value.ref (hp.objs.size + 1)], fs.zip ws⟩ ([Value.ref (hp.objs.size + 1)] ++ ws) ([V.ref (hp.objs.size + 1)] ++ zs)
      (fun v H2 => v = .non ∧ ∃ d, d ≠ hp.objs.size + 1 ∧ H1 d = none ∧ H2 = upd (upd (upd H1 (hp.objs.size + 1) (exo (hp.objs.size + 1) C none)) d (exd d (fs.reverse.zip zs.reverse))) (hp.objs.size + 1) (exo (hp.objs.size + 1) C (some d))) (fun _ _ _ => False)
      (hr.make C [] (fs.zip ws)) (I2.env0.make C [] (fs.zip ws)) (kb.to _ [Value.ref (hp.objs.size + 1)] ws I2.kIn rfl lw) r2 ?_) fun r s' hq' => ?_))
  · exact ⟨_, C, zs, rfl, lz, T, hno, upd_same, fun dx hdx hne => ⟨rfl, dx, hne, by rw [upd_ne hne] at hdx; exact hdx, rfl⟩⟩
  · cases r with
    | error er => exact hx pins σ _ _ er s' I2 hq'
    | ok fl =>
      cases fl with
      | ret u =>
        obtain ⟨v, H2, os2, bare2, un2, hok2, rv, ev, d, hda, hd1, eH⟩ := hq'
        subst ev
        subst eH
        obtain ⟨h2, g2, d2, t2, os'⟩ := s'
        have ed : upd (upd (upd H1 (hp.objs.size + 1) (exo (hp.objs.size + 1) C none)) d (exd d (fs.reverse.zip zs.reverse))) (hp.objs.size + 1) (exo (hp.objs.size + 1) C (some d)) d = some (exd d (fs.reverse.zip zs.reverse)) := by rw [upd_ne hda]; exact upd_same
        exact ⟨rv, mk_end (raises_own T.exC T.tyC) I1 hsz kk un2 hok2 os2 bare2 upd_same ed hd1 (by rw [made_heap hn hda]; exact q1 d hd1)⟩
      | next => exact False.elim hq'
      | brk => exact False.elim hq'
      | cont => exact False.elim hq'
end

/-! the __init__ of such a class -/
/-- the class above all -/
structure XBase (K : PySem.W.Frag) (mg : Str → Option Value) (x : Str) : Prop where
  ex : ∃ CB mc, mg x = some (.ref CB) ∧ PySem.W.specialIn K (.ref CB) "__getattribute__" = some (some (.builtin "type.__getattribute__")) ∧ PySem.W.readsIn K CB mc = true ∧ PySem.W.findCls K (.ref CB) mc "__init__" = some (.val (.builtin "ValueError.__init__"))
section
variable {X : Cx} {e : Expr} {es : List Expr} {ta : TA} {x : Str} {p1 p2 pos : Pos}
theorem pe_ownInit {pl : Sem Bool} (B : XBase X.K X.mg x) (hg : Gl X x) (ha : PA X (e :: es) ta) (hdb : (x == ("__debug__" : Str)) = false := by decide)
    (hc : eval (.Call (.Attribute (.Name x p1) "__init__" p2) (e :: es) [] pos) X.env = (do
      let ov ← eval (.Name x p1) X.env
      standAt p2.atName
      let (f, first) ← holding [ov] (getMethod ov "__init__" pl)
      callWith pos f first (backTo pos (starEach (e :: es) X.env)) (backToKw pos (keywordEach [] X.env))) := by rfl)
    (he : starEach (e :: es) X.env = (false, eval e X.env) :: starEach es X.env := by rfl) (hpl : (backTo pos (starEach es X.env)).any (·.1) = false := by rfl) :
    PE X (.Call (.Attribute (.Name x p1) "__init__" p2) (e :: es) [] pos) (tVeI X.K ta) := by
  obtain ⟨CB, mc, gm, hga, hrd, hf⟩ := B.ex
  refine ⟨fun pins s σ H Q I h => ?_⟩
  refine PySem.W.methodCall_KW (ld_glob I hg gm ?_ hdb) hc
  refine PySem.W.method_cls I.kIn hga (PySem.W.cls_value I.kIn hrd hf (by decide +kernel) ?_)
  show wpAny _ _ (callWith pos (Value.builtin "ValueError.__init__") [] (backTo pos (starEach (e :: es) X.env)) []) _ _ _
  refine PyProof.Rows.callWith_method1 (thn (ha.run pos pins _ σ H _ (I.tok _) h) fun us s1 ⟨vs, H1, I1, r1, a, C, ws, ev, hl, T, ea, q⟩ => ?_) he hpl
  subst ev
  cases r1 with
  | @cons _ u0 _ ur ra rw' =>
    obtain rfl : u0 = Value.ref a := ra
    have hlen : ur.length ≤ sizeLine := by
      rw [← Paired.length rw', sizeLine_eq]
      omega
    exact oinit_ok T I1 ea hlen fun s' J => ⟨.non, H1, J, rfl, q⟩
end
def tInit (K : PySem.W.Frag) : TS := tDrop (tVeI K (tCons (tVar 0) (tCons (tC (.str "refused")) tNil)))
theorem run_init {K : PySem.W.Frag} {D' : Ends} {a C : Addr} {σ : L2.St} {H : Hp} (e0 : σ[0]? = some (some (.ref a))) (T : OexC K C) (ea : H a = some (exo a C none)) (h : D'.nx σ H) : tInit K D' σ H :=
  ⟨_, e0, ⟨a, C, [.str "refused"], rfl, by simp, T, ea, h⟩⟩
theorem init_run1 {K : PySem.W.Frag} {f : Str} {vs : List V} {H : Hp} {Q : VK} {E : XK} (h : spX K [f] vs H Q E) : tSeq (tInit K) (tOst K f (tVar 0) (tVar 1)) { nx := fun _ H' => Q .non H', rt := Q } (L2.start ["self", f] vs) H := by
  obtain ⟨a, C, zs, rfl, lz, T, hno, ea, q⟩ := h
  match zs, lz with
  | [y], _ =>
    refine run_init (a := a) rfl T ea ?_
    exact ⟨_, rfl, ⟨_, rfl, a, C, rfl, T, hno f (by simp), .inl ⟨ea, fun dx hdx hne => q dx hdx hne⟩⟩⟩
theorem init_run2 {K : PySem.W.Frag} {f g : Str} {vs : List V} {H : Hp} {Q : VK} {E : XK} (h : spX K [f, g] vs H Q E) : tSeq (tInit K) (tSeq (tOst K f (tVar 0) (tVar 1)) (tOst K g (tVar 0) (tVar 2))) { nx := fun _ H' => Q .non H', rt := Q } (L2.start ["self", f, g] vs) H := by
  obtain ⟨a, C, zs, rfl, lz, T, hno, ea, q⟩ := h
  match zs, lz with
  | [y, z], _ =>
    refine run_init (a := a) rfl T ea ?_
    refine ⟨_, rfl, ⟨_, rfl, a, C, rfl, T, hno f (by simp), .inl ⟨ea, fun dx hdx hne => ?_⟩⟩⟩
    refine ⟨_, rfl, ⟨_, rfl, a, C, rfl, T, hno g (by simp), .inr ⟨dx, [(f, y)], upd_same, by rw [upd_ne hne]; exact upd_same, by simp, ?_⟩⟩⟩
    have q1 := q dx hdx hne
    have eq : upd (upd (upd H dx (exd dx [(f, y)])) a (exo a C (some dx))) dx (exd dx [(g, z), (f, y)]) = upd (upd H dx (exd dx [(g, z), (f, y)])) a (exo a C (some dx)) := by
      funext b
      by_cases hb : b = dx
      · rw [hb, upd_same, upd_ne hne, upd_same]
      · rw [upd_ne hb]
        by_cases hba : b = a
        · rw [hba, upd_same, upd_same]
        · rw [upd_ne hba, upd_ne hba, upd_ne hb, upd_ne hb]
    show Q .non (upd (upd (upd H dx (exd dx [(f, y)])) a (exo a C (some dx))) dx (exd dx [(g, z), (f, y)]))
    rw [eq]
    exact q1
end DB

set_option Elab.async false
set_option linter.all false
set_option maxRecDepth 100000
set_option maxHeartbeats 4000000
namespace DB
open PySem PySem.Spec PyProof.Rows L2
/-! several except clauses, with a name or without -/
abbrev ClD := Value × Option Nat × (Addr → Value → Option Addr → TS)
def endG (i : Nat) (D' : Ends) : Ends := { nx := fun σ H => D'.nx (σ.set i none) H, rt := D'.rt, bk := fun σ H => D'.bk (σ.set i none) H, ct := fun σ H => D'.ct (σ.set i none) H }
def wTry (K : PySem.W.Frag) (Wout : WX) (D' : Ends) : List ClD → WX
  | [] => Wout
  | (c, none, ts) :: r => fun cls d σ H => ∃ b, PySem.W.exmOne K cls c = some b ∧ (b = true → ∀ a, H a = none → ts a cls d D' σ H) ∧ (b = false → wTry K Wout D' r cls d σ H)
  | (c, some i, ts) :: r => fun cls d σ H => ∃ b, PySem.W.exmOne K cls c = some b ∧ (b = true → ∀ a, H a = none → ts a cls d (endG i D') (σ.set i (some (.ref a))) H) ∧ (b = false → wTry K Wout D' r cls d σ H)
inductive TryOk (X : Cx) : List ExceptHandler → List ClD → Prop
  | nil : TryOk X [] []
  | one {x : Str} {c : Value} {ts : Addr → Value → Option Addr → TS} {b₀ : Stmt} {suite : List Stmt} {np pos' : Pos} {hds : List ExceptHandler} {l : List ClD} (hc : Names X x c)
      (hsu : ∀ (a : Addr) (oe : Obj) (cls : Value) (d : Option Addr) (pn : List (Addr × Obj)), Zc cls d oe → (∃ vs, oe.data = .fields vs) → PSs (X.suite a ((a, oe) :: pn)) (b₀ :: suite) (ts a cls d)) (r : TryOk X hds l) :
      TryOk X (.ExceptHandler (some (.Name x np)) none (b₀ :: suite) pos' :: hds) ((c, none, ts) :: l)
  | nam {x n : Str} {i : Nat} {c : Value} {ts : Addr → Value → Option Addr → TS} {b₀ : Stmt} {suite : List Stmt} {np pos' : Pos} {hds : List ExceptHandler} {l : List ClD} (hi : X.N[i]? = some n) (hln : X.env.kindOf n = some .local) (hc : Names X x c)
      (hsu : ∀ (a : Addr) (oe : Obj) (cls : Value) (d : Option Addr) (pn : List (Addr × Obj)), Zc cls d oe → (∃ vs, oe.data = .fields vs) → PSs (X.suite a ((a, oe) :: pn)) (b₀ :: suite) (ts a cls d)) (r : TryOk X hds l) :
      TryOk X (.ExceptHandler (some (.Name x np)) (some n) (b₀ :: suite) pos' :: hds) ((c, some i, ts) :: l)
theorem ps_tryD {X : Cx} {body : List Stmt} {h₀ : ExceptHandler} {hds : List ExceptHandler} {l : List ClD} {pos : Pos} {tb : WX → TS} {Wout : WX}
    (hs : X.stack = X.env :: X.outer) (hf : X.env.frame = some X.env.locals) (hN : X.N.Nodup) (tk : Takes X Wout)
    (hb : ∀ (Wx : WX) (pn : List (Addr × Obj)) (xe : Value → Shared → Prop), Takes (X.tr pn xe) Wx → PassesOwn (model X.prog X.w) X.A X.env xe → PSs (X.tr pn xe) body (tb Wx))
    (hh : TryOk X (h₀ :: hds) l) : PS X (.Try body (h₀ :: hds) [] [] pos) (fun D σ H => tb (wTry X.K Wout D l) D σ H) := by
  refine ⟨fun pins s σ H D I h => ?_⟩
  have okx := I.ok
  have eFr : X.A.frames = some (X.env :: X.outer) := by rw [okx.frames, hs]
  refine wpAny_Try_except ?_
  refine wpAny_mono ((hb (wTry X.K Wout D l) (X.pn ++ pins) (fun e s₁ => wpAny (model X.prog X.w) X.A (noteFrame e X.env) (fun _ s₂ => wpAny (model X.prog X.w) X.A (setFlight e none) (fun _ s₃ =>
    wpAny (model X.prog X.w) X.A (handleBy e X.env (h₀ :: hds)) (SP X pins D) X.xe s₃) X.xe s₂) X.xe s₁) (fun u s' xx => ?_) PassesOwn.looking).run [] s σ H D (I.toTry _) h) (fun f s1 gsp => ?_) (fun e s1 he => he)
  · -- the catch
    obtain ⟨a, B, sJ, pnx, σ', H', cls, d, rfl, Jx, nb, up, sky, na, os, ag, w⟩ := xx
    have J : Inv X pins σ' H' sJ := Jx.ofTry okx
    have skk : Sky B (X.env :: X.outer) a (Zc cls d) X.env.locals s'.heap := by rw [← hs]; exact sky
    show wpAny (model X.prog X.w) X.A (noteFrame (.ref a) X.env) _ _ _
    refine Sky.land Zc.steady eFr hf skk fun hpc flc upc => ?_
    have Jc : Inv X pins σ' H' { s' with heap := hpc } := J.landed nb flc.1 (up.trans upc) os ag
    obtain ⟨obc, vsc, hec, hzc, hdc⟩ := flc.there
    have isFr : ∀ {h : Heap} {o : Obj} {vs : Array Value}, h.FunFrames B (X.env :: X.outer) → h.get? a = some o → o.data = .fields vs → a ∉ frs (X.env :: X.outer) := fun {h o vs} ff e dd hm => by
      obtain ⟨_, o', e', hnf⟩ := ff.mem hm
      rw [e] at e'; cases e'
      exact hnf _ dd
    have nfc := isFr flc.2.2.1 hec hdc
    have noL1 : a ≠ X.env.locals := fun z => nfc (List.mem_filterMap.mpr ⟨X.env, List.mem_cons_self, by rw [hf, z]⟩)
    have noF1 : a ∉ X.fs := fun hm => by
      obtain ⟨e, he, q⟩ := List.mem_filterMap.mp hm
      exact nfc (List.mem_filterMap.mpr ⟨e, List.mem_cons_of_mem _ he, q⟩)
    have Sc := Jc.suite hec hdc na noL1 noF1
    have go : ∀ {hds' : List ExceptHandler} {l' : List ClD}, TryOk X hds' l' → wTry X.K Wout D l' cls d σ' H' →
        wpAny (model X.prog X.w) X.A (handleBy (.ref a) X.env hds') (SP X pins D) X.xe { s' with heap := hpc } := by
      intro hds' l' hk
      induction hk with
      | nil =>
        intro w
        refine wpAny_handleBy_nil ?_
        obtain ⟨k1, k2, k3, oe, vs, T, oT, ts', he, hz, hd, h1, hr⟩ := id flc
        unfold PySem.passOn
        refine wpAny_bind (wpAny_field he hd h1 ?_)
        rw [if_neg (show ¬ ((Value.ref T == Value.none) = true) from by simp)]
        have fn1 : wpAny (model X.prog X.w) X.A (setFlight (.ref a) X.env.frame) (fun _ s4 => wpAny (model X.prog X.w) X.A (throw (.ref a) : Sem Flow) (SP X pins D) X.xe s4) X.xe { s' with heap := hpc } := by
          rw [hf]
          refine HandSPX.setFlight_upZ flc fun hpd hh4 upd4 => wpAny_throw (tk _ _ ?_)
          exact ⟨a, B, sJ, pins, σ', H', cls, d, rfl, J, nb, (up.trans upc).trans upd4, .inr (.inr (by rw [hs]; exact hh4)), na, os, ag, w⟩
        first
          | exact wpAny_bind (wpAny_pure (wpAny_bind fn1))
          | exact wpAny_bind fn1
      | @one x c ts b₀ suite np pos' hds2 l2 hc hsu r ih =>
        intro w
        obtain ⟨b, hb1, hyes, hno⟩ := w
        refine wpAny_handleBy_cons (codeAny_handlers_test ?_) (by intro q; cases q)
        have lkT : PySem.W.Looks (model X.prog X.w) hpc (typeOf (.ref a)) cls := fun A Q E s k q => wpAny_typeOf_ref (k _ _ hec) (by rw [hzc.1]; exact q)
        have lkM := PySem.W.exm_one (M := model X.prog X.w) (Jc.kIn) lkT hb1
        have tst : ∀ {Q : Value → Shared → Prop} {E : Value → Shared → Prop}, Q c { s' with heap := hpc } → wpAny (model X.prog X.w) (X.A.mark (some (.ref a))) (eval (.Name x np) X.env) Q E { s' with heap := hpc } := fun {Q E} q => by
          obtain ⟨hg, hdbg, hm | ⟨hm, hv, hnn⟩⟩ := hc
          · exact ld_glob (X := X.suite a ((a, obc) :: (X.pn ++ pins))) Sc hg hm q hdbg
          · exact ld_blt (X := X.suite a ((a, obc) :: (X.pn ++ pins))) Sc hg hm hv q hnn hdbg
        refine tst (lkM.here ?_)
        cases b with
        | true =>
          refine codeAny_handlers_suite ?_
          refine HandSPX.lands_againZ flc fun hpd fld upd4 => ?_
          have Jd : Inv X pins σ' H' { s' with heap := hpd } := J.landed nb fld.1 ((up.trans upc).trans upd4) os ag
          obtain ⟨obd, vsd, hed, hzd, hdd⟩ := fld.there
          have Sd := Jd.suite hed hdd na noL1 noF1
          refine wpAny_mono ((hsu a obd cls d (X.pn ++ pins) hzd ⟨_, hdd⟩).run [] _ _ H' _ Sd (hyes rfl a na)) (fun f sf gsp => ?_) (fun _ _ z => False.elim z)
          cases f with
          | next =>
            obtain ⟨σf, Hf, Sf, qf⟩ := gsp
            exact ⟨_, _, Sf.unsuite okx, qf⟩
          | brk =>
            obtain ⟨σf, Hf, Sf, qf⟩ := gsp
            exact ⟨_, _, Sf.unsuite okx, qf⟩
          | cont =>
            obtain ⟨σf, Hf, Sf, qf⟩ := gsp
            exact ⟨_, _, Sf.unsuite okx, qf⟩
          | ret u =>
            obtain ⟨vf, σf, Hf, Sf, rf, qf⟩ := gsp
            exact ⟨_, _, _, Sf.unsuite okx, rf, qf⟩
        | false =>
          show wpAny _ X.A (handleBy (.ref a) X.env hds2) _ _ _
          exact ih (hno rfl)
      | @nam x n i c ts b₀ suite np pos' hds2 l2 hi hln hc hsu r ih =>
        intro w
        obtain ⟨b, hb1, hyes, hno⟩ := w
        refine wpAny_handleBy_cons (codeAny_handlers_test ?_) (by intro q; cases q)
        have lkT : PySem.W.Looks (model X.prog X.w) hpc (typeOf (.ref a)) cls := fun A Q E s k q => wpAny_typeOf_ref (k _ _ hec) (by rw [hzc.1]; exact q)
        have lkM := PySem.W.exm_one (M := model X.prog X.w) (Jc.kIn) lkT hb1
        have tst : ∀ {Q : Value → Shared → Prop} {E : Value → Shared → Prop}, Q c { s' with heap := hpc } → wpAny (model X.prog X.w) (X.A.mark (some (.ref a))) (eval (.Name x np) X.env) Q E { s' with heap := hpc } := fun {Q E} q => by
          obtain ⟨hg, hdbg, hm | ⟨hm, hv, hnn⟩⟩ := hc
          · exact ld_glob (X := X.suite a ((a, obc) :: (X.pn ++ pins))) Sc hg hm q hdbg
          · exact ld_blt (X := X.suite a ((a, obc) :: (X.pn ++ pins))) Sc hg hm hv q hnn hdbg
        refine tst (lkM.here ?_)
        cases b with
        | true =>
          refine codeAny_handlers_suite_as ?_
          refine HandSPX.lands_againZ flc fun hpd fld upd4 => ?_
          have Jd : Inv X pins σ' H' { s' with heap := hpd } := J.landed nb fld.1 ((up.trans upc).trans upd4) os ag
          obtain ⟨obd, vsd, hed, hzd, hdd⟩ := fld.there
          have Sd := Jd.suite hed hdd na noL1 noF1
          refine store_ok (X := X.suite a ((a, obd) :: (X.pn ++ pins))) (v := .ref a) Sd hN hi (.inl hln) rfl (fun se Se => ?_) (.inr hln)
          refine wpAny_mono ((hsu a obd cls d (X.pn ++ pins) hzd ⟨_, hdd⟩).run [] se _ H' _ Se (hyes rfl a na)) (fun f sf gsp => ?_) (fun _ _ z => False.elim z)
          have gone : ∀ {σg : L2.St} {Hg : Hp} {Q : Shared → Prop}, Inv (X.suite a ((a, obd) :: (X.pn ++ pins))) [] σg Hg sf → (∀ s7, Inv X pins (σg.set i none) Hg s7 → Q s7) →
              wpAny (model X.prog X.w) X.A (do bindName X.env n .none; unbindBehindTheSuite X.env n pos') (fun _ s7 => Q s7) X.xe sf := fun {σg Hg Q} Sg hq => gone_ok (Sg.unsuite okx) hN hi hln hq
          cases f with
          | next =>
            obtain ⟨σf, Hf, Sf, qf⟩ := gsp
            exact gone Sf fun s7 J7 => ⟨_, _, J7, qf⟩
          | brk =>
            obtain ⟨σf, Hf, Sf, qf⟩ := gsp
            exact gone Sf fun s7 J7 => ⟨_, _, J7, qf⟩
          | cont =>
            obtain ⟨σf, Hf, Sf, qf⟩ := gsp
            exact gone Sf fun s7 J7 => ⟨_, _, J7, qf⟩
          | ret u =>
            obtain ⟨vf, σf, Hf, Sf, rf, qf⟩ := gsp
            exact gone Sf fun s7 J7 => ⟨_, _, _, J7, rf, qf⟩
        | false =>
          show wpAny _ X.A (handleBy (.ref a) X.env hds2) _ _ _
          exact ih (hno rfl)
    exact go hh w
  · cases f with
    | next =>
      obtain ⟨σ', H', Jx, q⟩ := gsp
      exact wpAny_execs_nil ⟨σ', H', Jx.ofTry okx, q⟩
    | brk =>
      obtain ⟨σ', H', Jx, q⟩ := gsp
      exact ⟨σ', H', Jx.ofTry okx, q⟩
    | cont =>
      obtain ⟨σ', H', Jx, q⟩ := gsp
      exact ⟨σ', H', Jx.ofTry okx, q⟩
    | ret u =>
      obtain ⟨v, σ', H', Jx, r, q⟩ := gsp
      exact ⟨v, σ', H', Jx.ofTry okx, r, q⟩
end DB

set_option Elab.async false
set_option linter.all false
set_option maxRecDepth 100000
set_option maxHeartbeats 4000000
namespace DB
open PySem PySem.Spec PyProof.Rows L2
section
variable {R R' : RC} {H0 H H' H1 H2 : Hp} {G0 G G' G1 G2 : Wd} {w w' w1 : W} {σ σ' : L2.St} {as as' as1 as2 bs : List Addr} {Wx : WX} {X : Cx}
  {a b c e : Expr} {ma mb mc m : ME} {pos : Pos} {es : List Expr} {st : Stmt} {rest body orelse : List Stmt} {m1 m2 ms : MS} {mr r : MA} {kws : List Keyword}

/-! keywords' values -/
structure PKm (X : Cx) (R : RC) (Wx : WX) (kws : List Keyword) (m : MA) : Prop where
  pe : ∀ H0 G0, PK X kws (liftA R Wx H0 G0 m)
theorem PK.cons {X : Cx} {e : List Keyword} {t t' : TA} (h : PK X e t) (c : ∀ σ H Q, t' σ H Q → t σ H Q) : PK X e t' := ⟨fun pos pins s σ H Q I q => h.run pos pins s σ H Q I (c σ H Q q)⟩
theorem km_nil : PKm X R Wx [] mNil := ⟨fun H0 G0 => PK.cons pk_nil fun σ H Q ⟨G, w, as, rel, h⟩ => h [] G H as rel (.refl _ _ _) (fun _ h => h) .nil⟩
theorem km_cons {nm : Option Str} {kpos : Pos} (ha : PEm X R Wx a m) (hr : PKm X R Wx kws r) : PKm X R Wx (⟨nm, a, kpos⟩ :: kws) (mCons m r) :=
  ⟨fun H0 G0 => PK.cons (pk_cons (ha.pe H0 G0) (hr.pe H0 G0)) fun σ H Q ⟨G, w, as, rel, h⟩ => by
    have hp : PostA R H0 G0 Wx σ G H as ((m w).bl fun x w1 => (r w1).cons x) Q := h
    refine lift_bdG (P := fun _ => True) rel (fun x w1 e => ?_) (fun e => ?_) (fun rv w1 e ef => ?_) (fun rv w1 e v x G1 H1 as1 ef rel1 ext sub rp => ?_)
    · rw [e] at hp; exact hp
    · rw [e] at hp; exact hp
    · rw [e] at hp
      have q : (Res.ok rv w1).bl (fun x w1 => (r w1).cons x) = .bad := by unfold Res.bl; simp only [ef]
      rw [q] at hp; exact hp
    · rw [e] at hp
      have q : (Res.ok rv w1).bl (fun x w1 => (r w1).cons x) = (r w1).cons x := by unfold Res.bl; simp only [ef]
      rw [q] at hp
      have h2 := PostA.shift hp ext sub
      refine ⟨G1, w1, as1, rel1, ?_⟩
      cases er : r w1 with
      | bad => rw [er] at h2; exact h2
      | ex x w2 => rw [er] at h2; exact h2
      | ok ds w2 =>
        rw [er] at h2
        exact fun vs G' H' as' rel' ext' sub' rs => h2 (v :: vs) G' H' as' rel' ext' sub' (.cons (rp.mono ext'.le) rs)⟩

/-! raise -/
def mRaise (cls : Str) (fs : List Str) (r : MA) : MS := fun w => match r w with
  | .ok ds w1 => if ds.length = fs.length then .ex ⟨cls, fs.reverse, ds.reverse⟩ w1 else .bad
  | .ex x w1 => .ex x w1
  | .bad => .bad
theorem sm_raiseK {cls : Str} {fs : List Str} {k : Nat} {p pos' : Pos} (hc : X.calm = true) (tk : Takes X Wx) (sm : X.mg = R.mg) (O : OwnX X.prog X.w X.K X.mg X.base cls k fs) (hr : Room (k + 1) X.A) (hg : Gl X cls) (ha : PKm X R Wx kws r)
    (hdb : (cls == ("__debug__" : Str)) = false := by decide) (hall : (backToKw pos' (keywordEach kws X.env)).all (·.1.isSome) = true := by rfl) (hks : (backToKw pos' (keywordEach kws X.env)).filterMap (·.1) = fs := by rfl)
    (hpl : ((backTo pos' (starEach [] X.env)).any (·.1) || (backToKw pos' (keywordEach kws X.env)).any (·.1.isNone)) = false := by rfl) :
    PSm X R Wx (.Raise (some (.Call (.Name cls p) [] kws pos')) none pos) (mRaise cls fs r) :=
  ⟨fun H0 G0 => PS.cons (ps_raise hc tk (pmk_kw O hr (passes_call tk fun _ _ _ _ h => h.elim) hg (ha.pe H0 G0) hdb hall hks hpl)) fun D' σ H ⟨G, w, as, rel, h⟩ => by
    refine ⟨G, w, as, rel, ?_⟩
    have hp : PostS R H0 G0 Wx G (mRaise cls fs r w) D' := h
    unfold mRaise at hp
    cases e : r w with
    | bad => rw [e] at hp; exact hp
    | ex x w1 => rw [e] at hp; exact fun cls d G' H' as' rel' x => hp σ cls d G' H' as' rel' x
    | ok ds w1 =>
      rw [e] at hp
      intro vs G' H' as' rel' ext sub rs
      by_cases hl : ds.length = fs.length
      · simp only [hl, if_true] at hp
        obtain ⟨C, _, _, _, gC, _⟩ := O.ex
        refine ⟨by rw [← rs.length]; exact hl, C, gC, fun d hd => ?_⟩
        have px := PExt.new (o := .xd (fs.reverse.zip vs.reverse)) rel'.bas.sub hd
        refine hp σ (.ref C) (some d) _ _ as' (rel'.pext px) ⟨C, by rw [← sm]; exact gC, rfl, .inr ⟨d, vs.reverse, rfl, put_at, ?_, (rs.mono px.le).rev⟩⟩
        rw [List.length_reverse, List.length_reverse, ← hl]; exact rs.length
      · simp only [hl, if_false] at hp; exact hp.elim⟩

/-! C(), C('text') without own __init__ -/
structure OwnP (K : PySem.W.Frag) (mg : Str → Option Value) (cls : Str) : Prop where
  ex : ∃ (C : Addr) (bmB : List Value) (B newId initId : String), mg cls = some (.ref C) ∧ ExcBaseFacts B newId initId bmB ∧ PySem.W.excIn K C bmB newId = true ∧ PySem.W.keepIn K (.ref C) = true ∧
    PySem.W.subIn K (.ref C) (.type "BaseException") = some true ∧ PySem.W.typeIn K (.ref C) = some (.type "type")
theorem pmk_own0 {cls : Str} {p : Pos} (O : OwnP X.K X.mg cls) (hg : Gl X cls) (hdb : (cls == ("__debug__" : Str)) = false := by decide) (hpl : ((backTo pos (starEach [] X.env)).any (·.1) || (backToKw pos (keywordEach [] X.env)).any (·.1.isNone)) = false := by rfl) :
    PMk X (.Call (.Name cls p) [] [] pos) (fun σ H Q => ∃ C, X.mg cls = some (.ref C) ∧ Q (.ref C) none H) := by
  obtain ⟨C, bmB, B, newId, initId, gC, F, q, kC, h1, h2⟩ := O.ex
  intro pins s σ H Q I h
  obtain ⟨C', gC', h⟩ := h
  rw [gC] at gC'
  cases gC'
  refine wpAny_Call_Name_kw (ld_glob I hg gC ?_ hdb)
  refine PySem.W.callWith_KW0 (h₀ := X.base) I.ok.mod.kin kC rfl (wpAny_evalAll_nil ⟨I.kIn, ?_⟩) hpl
  show wpAny _ _ (call (.ref C) []) _ _ _
  obtain ⟨bm, N, nm, qn, bs, hdct, sn, sub, ab, col, dd, k0, k1, k2, k3, k5, mN, hC, hN, hni, T⟩ := exc_obj I.kIn q
  refine wpAny_call_exc_subT F T hC hN hni (fun h' e hm => ?_) (Nat.zero_le _)
  exact mk_of I hm (raises_own h1 h2) h (I.hok.gone hm.new)
def mRaise0 (cls : Str) : MS := fun w => .ex ⟨cls, [], []⟩ w
theorem sm_raise0 {cls : Str} {p pos' : Pos} (hc : X.calm = true) (tk : Takes X Wx) (ag : Ag X R) (O : OwnP X.K X.mg cls) (hg : Gl X cls) (hdb : (cls == ("__debug__" : Str)) = false := by decide)
    (hpl : ((backTo pos' (starEach [] X.env)).any (·.1) || (backToKw pos' (keywordEach [] X.env)).any (·.1.isNone)) = false := by rfl) :
    PSm X R Wx (.Raise (some (.Call (.Name cls p) [] [] pos')) none pos) (mRaise0 cls) :=
  ⟨fun H0 G0 => PS.cons (ps_raise hc tk (pmk_own0 O hg hdb hpl)) fun D' σ H ⟨G, w, as, rel, h⟩ => by
    obtain ⟨C, _, _, _, _, gC, _⟩ := O.ex
    exact ⟨C, gC, h σ (.ref C) none G H as rel ⟨C, by rw [← ag.mg]; exact gC, rfl, .inl ⟨rfl, rfl, rfl⟩⟩⟩⟩
theorem sm_raiseT {cls txt : Str} {j : Nat} {p p2 pos' : Pos} (hc : X.calm = true) (tk : Takes X Wx) (ag : Ag X R) (O : OwnP X.K X.mg cls) (hg : Gl X cls) (hdb : (cls == ("__debug__" : Str)) = false := by decide) :
    PSm X R Wx (.Raise (some (.Call (.Name cls p) [.Constant (.str txt) j p2] [] pos')) none pos) (mRaise0 cls) := by
  obtain ⟨C, bmB, B, newId, initId, gC, F, q, kC, h1, h2⟩ := O.ex
  exact ⟨fun H0 G0 => PS.cons (ps_raise hc tk (pmk_own F q gC kC (raises_own h1 h2) hg hdb)) fun D' σ H ⟨G, w, as, rel, h⟩ =>
    h σ (.ref C) none G H as rel ⟨C, by rw [← ag.mg]; exact gC, rfl, .inl ⟨rfl, rfl, rfl⟩⟩⟩

/-! try -/
def xCls : List Str := ["BadBelt", "BadGoal", "BadPress", "BadStep", "BadDeed", "BadCount", "TooMany", "NoWay", "BadName", "Known", "NoRoutine", "BadText"]
def underX (a c : Str) : Bool := a == c || c == "DialError" || c == "ValueError"
structure XAll (K : PySem.W.Frag) (mg : Str → Option Value) : Prop where
  ex : ∀ a ∈ xCls, ∀ c ∈ ("DialError" : Str) :: xCls, ∃ A C, mg a = some (.ref A) ∧ mg c = some (.ref C) ∧ PySem.W.exmOne K (.ref A) (.ref C) = some (underX a c)
  kt : ∀ a ∈ xCls, ∀ c ∈ ("DialError" : Str) :: xCls, ∃ A C, mg a = some (.ref A) ∧ mg c = some (.ref C) ∧ PySem.W.kitOne K (.ref A) (.ref C) = some (underX a c)
  fx : ∀ a ∈ xCls, ∃ A, mg a = some (.ref A) ∧ XfC K A ∧ ExcC K A ∧ (∀ f ∈ (["part", "number", "row"] : List Str), PySem.W.findIn K (.ref A) f = some none) ∧ PySem.W.kitOne K (.ref A) (.type "ValueError") = some true
def isXc : RV → Bool
  | .xc _ => true
  | _ => false
def noXc (l : List RV) : Bool := l.all fun r => !isXc r
def unX (r : RS) : RS := match r with
  | .ex _ _ => .bad
  | r => r
def leaveX (i : Nat) (r : RS) : RS := match r with
  | .nx w => if noXc (w.put i .un).env = true then .nx (w.put i .un) else .bad
  | .bk w => if noXc (w.put i .un).env = true then .bk (w.put i .un) else .bad
  | .ct w => if noXc (w.put i .un).env = true then .ct (w.put i .un) else .bad
  | .rt v S => if v.plain = true then .rt v S else .bad
  | _ => .bad
abbrev MCl := Str × Option Nat × MS
def goCl (x : Exc) (w : W) : List MCl → RS
  | [] => .ex x w
  | (c, none, m) :: r => if underX x.cls c = true then unX (m w) else goCl x w r
  | (c, some i, m) :: r => if underX x.cls c = true then (if noXc w.env = true ∧ i < w.env.length then leaveX i (m (w.put i (.xc x))) else .bad) else goCl x w r
def mTry (b : MS) (cl : List MCl) : MS := fun w => match b w with
  | .ex x w1 => if x.cls ∈ xCls then goCl x w1 cl else .bad
  | r => r

/-! the base may be taken anew -/
open Classical in
noncomputable def hid (H : Hp) (as : List Addr) : Hp := fun a => if a ∈ as then none else H a
theorem hid_in {a : Addr} (h : a ∈ as) : hid H as a = none := if_pos h
theorem hid_out {a : Addr} (h : a ∉ as) : hid H as a = H a := if_neg h
theorem hid_some {a : Addr} {o : HO} (h : hid H as a = some o) : H a = some o ∧ a ∉ as := by
  by_cases c : a ∈ as
  · rw [hid_in c] at h; cases h
  · rw [hid_out c] at h; exact ⟨h, c⟩
theorem Rel.anew (rel : Rel R H0 G0 G w σ H as) : Rel R (hid H as) G G w σ H as where
  env := rel.env
  bas := ⟨rel.bas.cells, rel.bas.nd, rel.bas.free, rel.bas.sub, rel.bas.tabs, ⟨.refl _, fun a o h _ _ => (hid_some h).1, fun a o h => .inl h, fun a h => .inl h, fun a h => by
    by_cases c : a ∈ as
    · exact hid_in c
    · rw [hid_out c]; exact h⟩⟩
  nd := rel.nd
  free := rel.free
  fresh := fun a h => hid_in h
theorem hid_free (rel : Rel R H0 G0 G w σ H as) {a : Addr} (h : hid H as a = none) : H0 a = none := by
  by_cases c : a ∈ as
  · exact rel.fresh a c
  · rw [hid_out c] at h; exact rel.bas.ext.dom a h
theorem Bas.old {S : List Cell} (rel : Rel R H0 G0 G w σ H as) (b : Bas R (hid H as) G G' S H') : Bas R H0 G0 G' S H' where
  cells := b.cells
  nd := b.nd
  free := b.free
  sub := b.sub
  tabs := b.tabs
  ext := {
    le := rel.bas.ext.le.trans b.ext.le
    keep := fun a o h t hs => by
      have h1 := rel.bas.ext.keep a o h t hs
      have h2 : a ∉ as := fun z => by rw [rel.fresh a z] at h; cases h
      refine b.ext.keep a o (by rw [hid_out h2]; exact h1) t fun z => ?_
      rcases rel.bas.ext.newS a z with q | q
      · exact hs q
      · rw [h] at q; cases q
    newZ := fun a o h => by
      rcases b.ext.newZ a o h with q | q | q
      · exact rel.bas.ext.newZ a o q
      · exact .inr (.inl (hid_free rel q))
      · exact .inr (.inr q)
    newS := fun a h => by
      rcases b.ext.newS a h with q | q
      · exact rel.bas.ext.newS a q
      · exact .inr (hid_free rel q)
    dom := fun a h => hid_free rel (b.ext.dom a h) }
theorem Rel.old (rel : Rel R H0 G0 G w σ H as) (r : Rel R (hid H as) G G' w' σ' H' as') : Rel R H0 G0 G' w' σ' H' as' :=
  ⟨r.env, r.bas.old rel, r.nd, r.free, fun a h => hid_free rel (r.fresh a h)⟩

/-! a caught exception in a slot -/
def RC.cat (R : RC) (a : Addr) (cls : Value) (d : Option Addr) : RC := { R with lm := { R.lm with xa := some (a, cls, d) } }
theorem RSlot.cat {rv : RV} {o : Option V} {R R' : RC} (sm : Sim R R') (hfn : R.lm.fa = R'.lm.fa ∧ R.lm.fc = R'.lm.fc) (s : RSlot R G H rv o bs) (n : ∀ x, rv ≠ .xc x) : RSlot R' G H rv o bs := by
  cases s with
  | un => exact .un
  | d h => exact .d (h.conv sm)
  | own h r => exact .own h (r.conv sm)
  | odic h l r => exact .odic h l (r.conv sm)
  | fn h l t => exact .fn (by rw [← hfn.1]; exact h) (by rw [← hfn.2]; exact l) t
  | xc _ _ => exact (n _ rfl).elim
theorem REnv.cat {l : List RV} {R R' : RC} (sm : Sim R R') (hfn : R.lm.fa = R'.lm.fa ∧ R.lm.fc = R'.lm.fc) (s : REnv R G H l σ as) (n : noXc l = true) : REnv R' G H l σ as := by
  induction s with
  | nil => exact .nil
  | @cons r o as rs os bs h t ih =>
    have n2 : (!isXc r) = true ∧ noXc rs = true := by
      unfold noXc at n
      rw [List.all_cons] at n
      exact Bool.and_eq_true_iff.mp n
    exact .cons (h.cat sm hfn fun x z => by
      have := n2.1
      rw [z] at this
      exact Bool.false_ne_true this) (ih n2.2)
theorem Rel.cat {R R' : RC} (sm : Sim R R') (hfn : R.lm.fa = R'.lm.fa ∧ R.lm.fc = R'.lm.fc) (r : Rel R H0 G0 G w σ H as) (n : noXc w.env = true) : Rel R' H0 G0 G w σ H as :=
  ⟨r.env.cat sm hfn n, r.bas.conv sm, r.nd, r.free, r.fresh⟩
/-- a slot is emptied -/
theorem Rel.wipe {i : Nat} (r : Rel R H0 G0 G w σ H as) : ∃ as', Rel R H0 G0 G (w.put i .un) (σ.set i none) H as' ∧ ∀ a ∈ as', a ∈ as := by
  by_cases hi : i < w.env.length
  · obtain ⟨o, bs0, cs, e1, e2, e3, e4, e5⟩ := r.env.at (List.getElem?_eq_getElem hi)
    obtain ⟨as', q1, q2, q3⟩ := e5 (G' := G) (H' := H) (r' := .un) (o' := none) (bs' := []) (.refl G) (fun _ _ _ h => h) .un (by simp) (by simp)
    obtain ⟨n1, n2, n3⟩ := List.nodup_append.mp r.nd
    have sub : ∀ a ∈ as', a ∈ as := fun a ha => (e3 a).mpr (.inr (((q2 a).mp ha).elim (fun z => by simp at z) id))
    exact ⟨as', ⟨q1, r.bas, List.nodup_append.mpr ⟨q3 n1, n2, fun a ha b hb z => n3 a (sub a ha) b hb z⟩, fun a ha => r.free a (sub a ha), fun a ha => r.fresh a (sub a ha)⟩, sub⟩
  · have hl := r.env.len
    refine ⟨as, ?_, fun _ h => h⟩
    have e1 : w.env.set i .un = w.env := List.set_eq_of_length_le (by omega)
    have e2 : σ.set i none = σ := List.set_eq_of_length_le (by omega)
    unfold W.put
    rw [e1, e2]
    exact r
theorem PostS.unX {rs : RS} {D' : Ends} (h : PostS R H0 G0 Wx G (unX rs) D') : PostS R H0 G0 WN G rs D' := by
  cases rs <;> first | exact h | exact h.elim
theorem PostS.leaveX {i : Nat} {rs : RS} {D' : Ends} {a : Addr} {cls : Value} {d : Option Addr} (h : PostS R H0 G0 Wx G (leaveX i rs) D') : PostS (R.cat a cls d) H0 G0 WN G rs (endG i D') := by
  have sm : Sim (R.cat a cls d) R := ⟨rfl, rfl, rfl, rfl⟩
  cases rs with
  | nx w =>
    intro σ' G' H' as' rel le
    obtain ⟨as2, rel2, _⟩ := rel.wipe (i := i)
    have h2 : PostS R H0 G0 Wx G (if noXc (w.put i .un).env = true then .nx (w.put i .un) else .bad) D' := h
    by_cases c : noXc (w.put i .un).env = true
    · rw [if_pos c] at h2; exact h2 _ G' H' as2 (rel2.cat sm ⟨rfl, rfl⟩ c) le
    · rw [if_neg c] at h2; exact h2.elim
  | bk w =>
    intro σ' G' H' as' rel le
    obtain ⟨as2, rel2, _⟩ := rel.wipe (i := i)
    have h2 : PostS R H0 G0 Wx G (if noXc (w.put i .un).env = true then .bk (w.put i .un) else .bad) D' := h
    by_cases c : noXc (w.put i .un).env = true
    · rw [if_pos c] at h2; exact h2 _ G' H' as2 (rel2.cat sm ⟨rfl, rfl⟩ c) le
    · rw [if_neg c] at h2; exact h2.elim
  | ct w =>
    intro σ' G' H' as' rel le
    obtain ⟨as2, rel2, _⟩ := rel.wipe (i := i)
    have h2 : PostS R H0 G0 Wx G (if noXc (w.put i .un).env = true then .ct (w.put i .un) else .bad) D' := h
    by_cases c : noXc (w.put i .un).env = true
    · rw [if_pos c] at h2; exact h2 _ G' H' as2 (rel2.cat sm ⟨rfl, rfl⟩ c) le
    · rw [if_neg c] at h2; exact h2.elim
  | rt v S =>
    intro u G' H' bs b sl lo
    have h2 : PostS R H0 G0 Wx G (if v.plain = true then .rt v S else .bad) D' := h
    by_cases c : v.plain = true
    · rw [if_pos c] at h2; exact h2 u G' H' bs (b.conv sm) (sl.conv sm c) lo
    · rw [if_neg c] at h2; exact h2.elim
  | ex _ _ => exact h.elim
  | bad => exact h.elim
inductive TryM (X : Cx) (R : RC) : List ExceptHandler → List MCl → Prop
  | nil : TryM X R [] []
  | one {x : Str} {b₀ : Stmt} {suite : List Stmt} {np pos' : Pos} {hds : List ExceptHandler} {l : List MCl} {m : MS} (hg : Gl X x) (hd : (x == ("__debug__" : Str)) = false) (hx : x ∈ ("DialError" : Str) :: xCls)
      (hsu : ∀ (a : Addr) (oe : Obj) (cls : Value) (d : Option Addr) (pn : List (Addr × Obj)), Zc cls d oe → (∃ vs, oe.data = .fields vs) → PBm (X.suite a ((a, oe) :: pn)) R WN (b₀ :: suite) m) (r : TryM X R hds l) :
      TryM X R (.ExceptHandler (some (.Name x np)) none (b₀ :: suite) pos' :: hds) ((x, none, m) :: l)
  | nam {x n : Str} {i : Nat} {b₀ : Stmt} {suite : List Stmt} {np pos' : Pos} {hds : List ExceptHandler} {l : List MCl} {m : MS} (hi : X.N[i]? = some n) (hln : X.env.kindOf n = some .local) (hg : Gl X x) (hd : (x == ("__debug__" : Str)) = false) (hx : x ∈ ("DialError" : Str) :: xCls)
      (hsu : ∀ (a : Addr) (oe : Obj) (cls : Value) (d : Option Addr) (pn : List (Addr × Obj)), Zc cls d oe → (∃ vs, oe.data = .fields vs) → PBm (X.suite a ((a, oe) :: pn)) (R.cat a cls d) WN (b₀ :: suite) m) (r : TryM X R hds l) :
      TryM X R (.ExceptHandler (some (.Name x np)) (some n) (b₀ :: suite) pos' :: hds) ((x, some i, m) :: l)
def clD (R : RC) (q : Value × Option Nat × MS) : ClD := (q.1, q.2.1, fun a cls d D' σ H => ∃ H0 G0, (match q.2.1 with
  | none => liftS R WN H0 G0 q.2.2 D' σ H
  | some _ => liftS (R.cat a cls d) WN H0 G0 q.2.2 D' σ H))
/-- what an exception of the body meets -/
theorem TryM.ok {hds : List ExceptHandler} {cl : List MCl} (XA : XAll X.K X.mg) (mg : X.mg = R.mg) (t : TryM X R hds cl) :
    ∃ l : List (Value × Option Nat × MS), TryOk X hds (l.map (clD R)) ∧
      ∀ {Wx : WX} {D' : Ends} {H0 : Hp} {G0 G : Wd} {x : Exc} {w : W} {σ : L2.St} {H : Hp} {as : List Addr} {cls : Value} {d : Option Addr}, x.cls ∈ xCls → Rel R H0 G0 G w σ H as → ExcR R G H x cls d → PostS R H0 G0 Wx G (goCl x w cl) D' →
        wTry X.K Wx D' (l.map (clD R)) cls d σ H := by
  induction t with
  | nil => exact ⟨[], .nil, fun _ rel xr h => h _ _ _ _ _ _ rel xr⟩
  | @one x b₀ suite np pos' hds l m hg hd hx hsu r ih =>
    obtain ⟨l', t', go⟩ := ih
    obtain ⟨_, C, _, gC, _⟩ := XA.ex "BadBelt" (by decide) x hx
    refine ⟨(.ref C, none, m) :: l', .one ⟨hg, hd, .inl gC⟩ (fun a oe cls d pn hz hv => ⟨fun pins s σ H D' I ⟨H0, G0, h⟩ => ((hsu a oe cls d pn hz hv).ps H0 G0).run pins s σ H D' I h⟩) t', ?_⟩
    intro Wx D' H0 G0 G y w σ H as cls d hy rel xr h
    obtain ⟨A, C', gA, gC', hex⟩ := XA.ex y.cls hy x hx
    rw [gC] at gC'
    cases gC'
    obtain ⟨A', gA', rfl, _⟩ := id xr
    rw [← mg, gA] at gA'
    cases gA'
    refine ⟨_, hex, fun hb a na => ?_, fun hb => ?_⟩
    · unfold goCl at h
      rw [if_pos hb] at h
      exact ⟨H0, G0, G, w, as, rel, h.unX⟩
    · unfold goCl at h
      rw [if_neg (by rw [hb]; exact Bool.false_ne_true)] at h
      exact go hy rel xr h
  | @nam x n i b₀ suite np pos' hds l m hi hln hg hd hx hsu r ih =>
    obtain ⟨l', t', go⟩ := ih
    obtain ⟨_, C, _, gC, _⟩ := XA.ex "BadBelt" (by decide) x hx
    refine ⟨(.ref C, some i, m) :: l', .nam hi hln ⟨hg, hd, .inl gC⟩ (fun a oe cls d pn hz hv => ⟨fun pins s σ H D' I ⟨H0, G0, h⟩ => ((hsu a oe cls d pn hz hv).ps H0 G0).run pins s σ H D' I h⟩) t', ?_⟩
    intro Wx D' H0 G0 G y w σ H as cls d hy rel xr h
    obtain ⟨A, C', gA, gC', hex⟩ := XA.ex y.cls hy x hx
    rw [gC] at gC'
    cases gC'
    obtain ⟨A', gA', rfl, _⟩ := id xr
    rw [← mg, gA] at gA'
    cases gA'
    refine ⟨_, hex, fun hb a na => ?_, fun hb => ?_⟩
    · unfold goCl at h
      rw [if_pos hb] at h
      by_cases c : noXc w.env = true ∧ i < w.env.length
      · rw [if_pos c] at h
        have smc : Sim R (R.cat a (.ref A) d) := ⟨rfl, rfl, rfl, rfl⟩
        have rel2 : Rel (R.cat a (.ref A) d) H0 G0 G w σ H as := Rel.cat smc ⟨rfl, rfl⟩ rel c.1
        have sl : RSlot (R.cat a (.ref A) d) G H (.xc y) (some (.ref a)) [] := .xc rfl (ExcR.conv smc xr)
        obtain ⟨as2, rel3⟩ := rel2.set c.2 sl (by intro b hb; simp at hb)
        exact ⟨H0, G0, G, _, as2, rel3, h.leaveX⟩
      · rw [if_neg c] at h; exact h.elim
    · unfold goCl at h
      rw [if_neg (by rw [hb]; exact Bool.false_ne_true)] at h
      exact go hy rel xr h
theorem sm_try {h₀ : ExceptHandler} {hds : List ExceptHandler} {cl : List MCl} (hs : X.stack = X.env :: X.outer) (hf : X.env.frame = some X.env.locals) (hN : X.N.Nodup) (tk : Takes X Wx) (XA : XAll X.K X.mg) (ag : Ag X R)
    (hb : ∀ (Wx : WX) (pn : List (Addr × Obj)) (xe : Value → Shared → Prop), Takes (X.tr pn xe) Wx → PassesOwn (model X.prog X.w) X.A X.env xe → PBm (X.tr pn xe) R Wx body ms) (t : TryM X R (h₀ :: hds) cl) :
    PSm X R Wx (.Try body (h₀ :: hds) [] [] pos) (mTry ms cl) := by
  obtain ⟨l, tok, go⟩ := t.ok XA ag.mg
  refine ⟨fun H0 G0 => PS.cons (ps_tryD (tb := fun Wx D' σ H => ∃ H0 G0, liftS R Wx H0 G0 ms D' σ H) hs hf hN tk (fun Wx pn xe tk' po => ⟨fun pins s σ H D' I ⟨H0, G0, h⟩ => ((hb Wx pn xe tk' po).ps H0 G0).run pins s σ H D' I h⟩) tok) fun D' σ H ⟨G, w, as, rel, h⟩ => ?_⟩
  refine ⟨hid H as, G, G, w, as, rel.anew, ?_⟩
  have hp : PostS R H0 G0 Wx G (mTry ms cl w) D' := h
  unfold mTry at hp
  cases e : ms w with
  | nx w1 => rw [e] at hp; exact fun σ' G' H' as' rel' le => hp σ' G' H' as' (rel.old rel') le
  | bk w1 => rw [e] at hp; exact fun σ' G' H' as' rel' le => hp σ' G' H' as' (rel.old rel') le
  | ct w1 => rw [e] at hp; exact fun σ' G' H' as' rel' le => hp σ' G' H' as' (rel.old rel') le
  | rt v S => rw [e] at hp; exact fun u G' H' bs b sl lo => hp u G' H' bs (b.old rel) sl fun c hc => let ⟨l1, l2, l3, l4⟩ := lo c hc; ⟨l1, l2, l3, hid_free rel l4⟩
  | bad => rw [e] at hp; exact hp
  | ex x w1 =>
    rw [e] at hp
    intro σ' cls d G' H' as' rel' xr
    by_cases c : x.cls ∈ xCls
    · simp only [c, if_true] at hp
      exact go c (rel.old rel') xr (PostS.up hp rel'.bas.ext.le)
    · simp only [c, if_false] at hp; exact hp.elim
end
end DB

set_option Elab.async false
set_option linter.all false
set_option maxRecDepth 100000
set_option maxHeartbeats 4000000
namespace DB
open PySem PySem.Spec PyProof.Rows L2
section
variable {R R' : RC} {H0 H H' H1 H2 : Hp} {G0 G G' G1 G2 : Wd} {w w' w1 : W} {σ σ' : L2.St} {as as' as1 as2 bs : List Addr} {Wx : WX} {X : Cx}
  {b c e : Expr} {ma mb mc m : ME} {pos : Pos} {es : List Expr} {a : Addr} {cls : Value} {d : Option Addr} {oe : Obj} {pn : List (Addr × Obj)}

/-! in an except suite: the caught exception's fields -/
theorem lkp_put {α : Type} (f g : Str) (y : α) (fs : List (Str × α)) : ((f, y) :: fs).lookup g = if g = f then some y else fs.lookup g := by
  by_cases h : g = f
  · subst h; simp [List.lookup]
  · have e : (g == f) = false := by simpa using h
    rw [if_neg h]; simp [List.lookup, e]
theorem Rps.zipAt {f : Str} {y : D} : ∀ {ks : List Str} {ds : List D} {vs : List V}, Rps R G ds vs → (ks.zip ds).lookup f = some y → ∃ v, (ks.zip vs).lookup f = some v ∧ Rp R G y v
  | [], _, _, _, h => by simp at h
  | k :: ks, _, _, .nil, h => by simp at h
  | k :: ks, _, _, .cons r rs, h => by
    rw [List.zip_cons_cons, lkp_put] at h
    rw [List.zip_cons_cons, lkp_put]
    by_cases q : f = k
    · rw [if_pos q] at h ⊢; cases h; exact ⟨_, rfl, r⟩
    · rw [if_neg q] at h ⊢; exact Rps.zipAt rs h
theorem Rel.excAt {i : Nat} {x : Exc} (rel : Rel (R.cat a cls d) H0 G0 G w σ H as) (e : w.env[i]? = some (.xc x)) : σ[i]? = some (some (.ref a)) ∧ ExcR R G H x cls d := by
  obtain ⟨o, bs, cs, e1, e2, _⟩ := rel.env.at e
  cases e2 with
  | xc h xr =>
    have hz : some (a, cls, d) = some (_, _, _) := h
    cases hz
    have sm : Sim (R.cat a cls d) R := ⟨rfl, rfl, rfl, rfl⟩
    exact ⟨e1, xr.conv sm⟩
def mXf (i : Nat) (f : Str) : ME := fun w => match w.env[i]? with
  | some (.xc x) => if x.cls ∈ xCls then (match (x.ks.zip x.vs).lookup f with
    | some y => .ok (.d y) w
    | none => .bad) else .bad
  | _ => .bad
theorem em_xf (i : Nat) {n f : Str} {p : Pos} (XA : XAll X.K X.mg) (mg : X.mg = R.mg) (hz : Zc cls d oe) (hv : ∃ vs, oe.data = .fields vs) (hN : X.N[i]? = some n) (vis : Vis X.env.scope n) (hf : f ∈ (["part", "number", "row"] : List Str))
    (hd : (n == ("__debug__" : Str)) = false := by decide) (hcd : (n == ("__classdict__" : Str)) = false := by decide)
    (hb : attributeBase (.Name n p) f X.env (eval (.Name n p) X.env) = eval (.Name n p) X.env := by rfl) :
    PEm (X.suite a ((a, oe) :: pn)) (R.cat a cls d) Wx (.Attribute (.Name n p) f pos) (mXf i f) :=
  ⟨fun H0 G0 => ⟨fun pins s σ H Q I ⟨G, w, as, rel, h⟩ => by
    have hp : PostE (R.cat a cls d) H0 G0 Wx σ G H as (mXf i f w) Q := h
    unfold mXf at hp
    split at hp
    · rename_i x e
      by_cases cx : x.cls ∈ xCls
      · rw [if_pos cx] at hp
        obtain ⟨es, C, gC, rfl, xr⟩ := rel.excAt e
        obtain ⟨A, gA, T, _, hno, _⟩ := XA.fx x.cls cx
        rw [← mg, gA] at gC
        cases gC
        cases el : (x.ks.zip x.vs).lookup f with
        | none => simp only [el] at hp; exact hp.elim
        | some y =>
          simp only [el] at hp
          refine (pe_xf (te := tVar i) T (hno f hf) hz hv (pe_var hN vis hd hcd) hb).run pins s σ H Q I ⟨_, es, rfl, rfl, ?_⟩
          rcases xr with ⟨k0, v0, _⟩ | ⟨dx, vs, ed, ez, el2, rs⟩
          · rw [k0] at el; simp at el
          · obtain ⟨v, ev, rv⟩ := rs.zipAt el
            have sm : Sim R (R.cat a (.ref C) d) := ⟨rfl, rfl, rfl, rfl⟩
            exact ⟨dx, _, v, ed, rel.bas.sub _ _ ez, ev, (hp.new rel).sc rel.bas.sub (rv.conv sm)⟩
      · rw [if_neg cx] at hp; exact hp.elim
    · exact hp.elim⟩⟩

/-! isinstance of it -/
def rIsX (K : PySem.W.Frag) (a : Addr) (cls : Value) (d : Option Addr) : List V → Hp → VK → Prop := fun xs H Q => ∃ (D : Addr) (c : V) (cv : Value) (b : Bool), xs = [.ref a, c] ∧ cls = .ref D ∧ ExcC K D ∧ (d = none ∨ ∃ dx fs, d = some dx ∧ H dx = some (.xd fs)) ∧
  (∀ u, RelV c u → u = cv) ∧ PySem.W.kitOne K (.ref D) cv = some b ∧ Q (.bl b) H
theorem call_isX (hz : Zc cls d oe) (hv : ∃ vs, oe.data = .fields vs) : CallR (X.suite a ((a, oe) :: pn)) (.builtin "isinstance") (rIsX X.K a cls d) := by
  intro pins s σ H xs us Q I r h
  obtain ⟨D, c, cv, b, rfl, rfl, C, hd, hcv, e, q⟩ := h
  cases r with
  | cons rx rr =>
    cases rr with
    | cons rt rr =>
      cases rr
      cases rx
      have ec := hcv _ rt
      subst ec
      obtain ⟨hget, _⟩ := I.pin (a, oe) (List.mem_append.mpr (.inl List.mem_cons_self))
      obtain ⟨vs, hv⟩ := hv
      have hcl : (PySem.W.clsIn X.K D).isSome = true := by
        have hh := C.hd
        unfold PySem.W.hasDictIn at hh
        cases q : PySem.W.clsIn X.K D with
        | none => rw [q] at hh; cases hh
        | some _ => rfl
      have J : ∃ od, PySem.W.InstAt s.heap a oe D od := by
        obtain ⟨oc, od, oda, osl⟩ := oe
        obtain ⟨h1, h2⟩ := hz
        dsimp only at h1 h2 hv
        subst h1 h2 hv
        rcases hd with rfl | ⟨dx, fs, rfl, edx⟩
        · exact ⟨none, hget, rfl, rfl, trivial⟩
        · have hx : ObjOk X.prog X.w H s.heap dx (.xd fs) := I.hok dx _ edx
          obtain ⟨mA, hns, hr⟩ := hx
          obtain ⟨o, ho, _⟩ := lookIn_ns hns
          exact ⟨some o, hget, rfl, rfl, ho⟩
      obtain ⟨od, J⟩ := J
      exact PySem.W.kia_one (PySem.W.kitx_exc hcl C.hg C.hk C.hs C.ha C.hn C.ht C.hm) I.kIn J e (fun z => nomatch z) fun tk => ⟨.bl b, H, I.kept (t' := tk) fun _ _ z => z, rfl, q⟩
def mIsx (i : Nat) (t : Str) : ME := fun w => match w.env[i]? with
  | some (.xc x) => if x.cls ∈ xCls then .ok (.d (.bl (underX x.cls t))) w else .bad
  | _ => .bad
theorem isx_post {i : Nat} {t : Str} {c : V} {cv : Value} {Q : VK} (XA : XAll X.K X.mg) (mg : X.mg = R.mg) (hcv : ∀ u, RelV c u → u = cv) (hk : ∀ x ∈ xCls, ∃ A, X.mg x = some (.ref A) ∧ PySem.W.kitOne X.K (.ref A) cv = some (underX x t))
    (h : liftE (R.cat a cls d) Wx H0 G0 (mIsx i t) σ H Q) : ∃ v, σ[i]? = some (some v) ∧ rIsX X.K a cls d [v, c] H Q := by
  obtain ⟨G, w, as, rel, h⟩ := h
  unfold mIsx at h
  split at h
  · rename_i x e
    by_cases cx : x.cls ∈ xCls
    · rw [if_pos cx] at h
      obtain ⟨es, C, gC, rfl, xr⟩ := rel.excAt e
      obtain ⟨A, gA, _, T, _, _⟩ := XA.fx x.cls cx
      obtain ⟨A2, gA2, hkk⟩ := hk x.cls cx
      rw [← mg, gA] at gC
      cases gC
      rw [gA] at gA2
      cases gA2
      refine ⟨_, es, _, c, cv, _, rfl, rfl, T, ?_, hcv, hkk, (PostE.new rel h).sc rel.bas.sub .bl⟩
      rcases xr with ⟨_, _, d0⟩ | ⟨dx, vs, ed, ez, _⟩
      · exact .inl d0
      · exact .inr ⟨dx, _, ed, rel.bas.sub _ _ ez⟩
    · rw [if_neg cx] at h; exact h.elim
  · exact h.elim
theorem em_isxV (i : Nat) {n : Str} {p p1 p2 : Pos} (XA : XAll X.K X.mg) (mg : X.mg = R.mg) (hz : Zc cls d oe) (hv : ∃ vs, oe.data = .fields vs) (hg : Gl X "isinstance") (hm : X.mg "isinstance" = none) (hg2 : Gl X "ValueError") (hm2 : X.mg "ValueError" = none) (hN : X.N[i]? = some n) (vis : Vis X.env.scope n)
    (hd : (n == ("__debug__" : Str)) = false := by decide) (hcd : (n == ("__classdict__" : Str)) = false := by decide)
    (h1 : starEach [.Name n p1, .Name "ValueError" p2] X.env = (false, eval (.Name n p1) X.env) :: starEach [.Name "ValueError" p2] X.env := by rfl) (hpl : (backTo pos (starEach [.Name "ValueError" p2] X.env)).any (·.1) = false := by rfl) :
    PEm (X.suite a ((a, oe) :: pn)) (R.cat a cls d) Wx (.Call (.Name "isinstance" p) [.Name n p1, .Name "ValueError" p2] [] pos) (mIsx i "ValueError") :=
  ⟨fun H0 G0 => PE.cons (pe_callB (X := X.suite a ((a, oe) :: pn)) (call_isX hz hv) hg hm (by decide +kernel) (pa_cons (pe_var hN vis hd hcd) (pa_cons (pe_bltn (v := .ty "ValueError") hg2 hm2 PyProof.Rows.Boot.«ValueError» rfl (by decide) (by decide)) pa_nil) h1) (by decide) (by decide) h1 hpl) fun σ H Q h =>
    isx_post XA mg (fun u q => q) (fun x hx => by
      obtain ⟨A, gA, _, _, _, k⟩ := XA.fx x hx
      have ev : underX x "ValueError" = true := by unfold underX; simp
      exact ⟨A, gA, by rw [ev]; exact k⟩) h⟩
end
end DB

set_option Elab.async false
set_option linter.all false
set_option maxRecDepth 100000
set_option maxHeartbeats 4000000
namespace DB
open PySem PySem.Spec PyProof.Rows L2
/-! the law's own drawing, as its mirror tells it -/
noncomputable def m_start : MS :=
  (mSeq (mSet 1 (mC (.int 1)))
  (mSeq (mFor (mSeqI (mVar 0)) (gNm 2) (mSet 1 (mBin gMod (mBin gAdd (mBin gAdd (mBin gMul (mPk 1) (mC (.int 48271))) (mPk 2)) (mC (.int 7))) (mC (.int 2147483647)))))
  (mRet (mLst (mCons (mVar 0) (mCons (mC (.int 0)) (mCons (mVar 1) (mCons (mC (.int 0)) mNil))))))))
noncomputable def F_start : MF := bodyF 3 1 m_start
noncomputable def m_drawn : MS :=
  (mSeq (mIf (mBin gGt (mCIx 0 (mC (.int 3))) (mC (.int 0))) (mSeq (mSet 2 (mBin gMod (mCIx 0 (mC (.int 3))) (mPk 1)))
  (mSeq (mCSet 0 (mC (.int 3)) (mBin gDiv (mCIx 0 (mC (.int 3))) (mPk 1)))
  (mMv 2))) mNext)
  (mSeq (mCSet 0 (mC (.int 1)) (mBin gAdd (mCIx 0 (mC (.int 1))) (mC (.int 1))))
  (mSeq (mIf (mBin gLe (mCIx 0 (mC (.int 1))) (mCB (g1 gLen) (mCons (mCIx 0 (mC (.int 0))) mNil))) (mSeq (mSet 3 (mBin gIx (mCIx 0 (mC (.int 0))) (mBin gSub (mCIx 0 (mC (.int 1))) (mC (.int 1)))))
  (mSeq (mCSet 0 (mC (.int 3)) (mIfE (mBin gGe (mPk 3) (mBin gPow (mC (.int 10)) (mC (.int 18)))) (mBin gDiv (mPk 3) (mPk 1)) (mC (.int 0))))
  (mRet (mBin gMod (mPk 3) (mPk 1))))) mNext)
  (mSeq (mCSet 0 (mC (.int 2)) (mBin gMod (mBin gAdd (mBin gMul (mCIx 0 (mC (.int 2))) (mC (.int 48271))) (mC (.int 11))) (mC (.int 2147483647))))
  (mRet (mBin gMod (mBin gDiv (mCIx 0 (mC (.int 2))) (mC (.int 7))) (mPk 1)))))))
noncomputable def F_drawn : MF := bodyF 4 2 m_drawn
/-- the cell n is the drawing's state over the script ns -/
def SOK (ns : List Int) (S : List Cell) (n : Nat) : Prop := ∃ c m r : Int, 0 ≤ c ∧ S[n]? = some (.lst [.scr (ns.map D.int), .int c, .int m, .int r])
theorem mul_c {i : Int} : CMul i 48271 := .inr ⟨by decide, by decide⟩
theorem start_body (ds : List D) : ∀ (ns : List Int) (x : RV) (m : Int) (S : List Cell), ∃ m' y, forL (gNm 2) (mSet 1 (mBin gMod (mBin gAdd (mBin gAdd (mBin gMul (mPk 1) (mC (.int 48271))) (mPk 2)) (mC (.int 7))) (mC (.int 2147483647)))) (ns.map D.int) ⟨[.d (.scr ds), .d (.int m), x], S⟩ = .nx ⟨[.d (.scr ds), .d (.int m'), y], S⟩
  | [], x, m, S => ⟨m, x, rfl⟩
  | z :: ns, x, m, S => by
    obtain ⟨m', y, h⟩ := start_body ds ns (.d (.int z)) ((m * 48271 + z + 7) % 2147483647) S
    refine ⟨m', y, ?_⟩
    rw [← h]
    have := @mul_c m
    simp [forL, gNm, W.put, mSet, mBin, mPk, mC, Res.bd, Res.bind, Res.sd, RV.frz, gMul, gAdd, gMod, ofO, iO, setRV, this]
theorem start_ok (ns : List Int) (S : List Cell) : ∃ m : Int, F_start [.scr (ns.map D.int)] S = .ok (.own [.scr (ns.map D.int), .int 0, .int m, .int 0]) S := by
  obtain ⟨m', y, h⟩ := start_body (ns.map D.int) ns .un 1 S
  refine ⟨m', ?_⟩
  have hs : (4 : Nat) ≤ sizeLine := by decide
  simp [F_start, bodyF, m_start, mSeq, mSet, mC, Res.sd, setRV, W.put, mFor, mSeqI, mVar, Res.bd, Res.bind, RV.frz, seqItems, h, mRet, mLst, mCons, mNil, Res.bl, RL.cons, RL.bd, hs, RV.plain]
theorem atI_pre {ds : List D} {c : Int} (h0 : 0 ≤ c) (h1 : c < ds.length) : ∃ x ∈ ds, atI ds c = some x := by
  unfold atI ixN
  rw [if_pos h0, if_pos h1]
  have hl : c.toNat < ds.length := by omega
  exact ⟨ds[c.toNat], List.getElem_mem hl, List.getElem?_eq_getElem hl⟩
def stC (ns : List Int) (c m r : Int) : Cell := .lst [.scr (ns.map D.int), .int c, .int m, .int r]
theorem drawn_ok {ns : List Int} {S : List Cell} {n : Nat} {many : Int} (h : SOK ns S n) (h0 : 0 < many) (h1 : many < 1073741824) :
    ∃ (v : Int) (c : Cell), F_drawn [.cell n, .int many] S = .ok (.d (.int v)) (S.set n c) ∧ 0 ≤ v ∧ v < many ∧ SOK ns (S.set n c) n := by
  obtain ⟨c, m, r, hc, e⟩ := h
  have hn : n < S.length := (List.getElem?_eq_some_iff.mp e).1
  have hd2 : ∀ i, CDiv i many := fun i => ⟨h0, h1⟩
  have hd7 : ∀ i, CDiv i 7 := fun i => ⟨by decide, by decide⟩
  have hm := fun i => @mul_c i
  have hp : CPow 10 18 := ⟨by decide, by decide, by decide⟩
  have b0 : ∀ x : Int, 0 ≤ x % many := fun x => Int.emod_nonneg x (by omega)
  have b1 : ∀ x : Int, x % many < many := fun x => Int.emod_lt_of_pos x h0
  have a1 : ∀ (x y z t : D), atI [x, y, z, t] 1 = some y := fun _ _ _ _ => rfl
  have a0 : ∀ (x y z t : D), atI [x, y, z, t] 0 = some x := fun _ _ _ _ => rfl
  have a2 : ∀ (x y z t : D), atI [x, y, z, t] 2 = some z := fun _ _ _ _ => rfl
  have a3 : ∀ (x y z t : D), atI [x, y, z, t] 3 = some t := fun _ _ _ _ => rfl
  have i1 : ixN 4 1 = some 1 := rfl
  have i2 : ixN 4 2 = some 2 := rfl
  have i3 : ixN 4 3 = some 3 := rfl
  have hs : ∀ x, (S.set n x)[n]? = some x := fun x => List.getElem?_set_self hn
  have fin : ∀ c m r : Int, 0 ≤ c → SOK ns (S.set n (stC ns c m r)) n := fun c m r hc => ⟨c, m, r, hc, hs _⟩
  by_cases hr : r > 0
  · refine ⟨r % many, stC ns c m (r / many), ?_, b0 _, b1 _, fin _ _ _ hc⟩
    simp [F_drawn, bodyF, m_drawn, mSeq, mIf, mBin, mCIx, Res.bd, Res.bind, mC, RV.frz, cixR, e, a3, ofO, gGt, gCmpI, bO, Res.sb, hr, mSet, mPk, gMod, h0, iO, Res.sd, setRV, W.put, mCSet, gDiv, hd2, Res.sdd, setCRS, i3, mMv, RV.plain, stC]
  · by_cases hl : c + 1 ≤ (ns.length : Int)
    · have hx : ∃ z : Int, atI (ns.map D.int) c = some (.int z) := by
        obtain ⟨x, hx, ex⟩ := atI_pre (ds := ns.map D.int) hc (by rw [List.length_map]; omega)
        obtain ⟨z, _, rfl⟩ := List.mem_map.mp hx
        exact ⟨z, ex⟩
      obtain ⟨z, ez⟩ := hx
      have e1 : c + 1 - 1 = c := by omega
      by_cases hz : (10 : Int) ^ 18 ≤ z
      · refine ⟨z % many, stC ns (c + 1) m (z / many), ?_, b0 _, b1 _, fin _ _ _ (by omega)⟩
        have hz' : (1000000000000000000 : Int) ≤ z := hz
        simp [F_drawn, bodyF, m_drawn, mSeq, mIf, mBin, mCIx, Res.bd, Res.bind, mC, RV.frz, cixR, e, a0, a1, a2, a3, ofO, gGt, gLe, gGe, gCmpI, bO, Res.sb, hr, mSet, mPk, gMod, h0, iO, Res.sd, setRV, W.put, mCSet, gDiv, hd2, Res.sdd, setCRS, i1, i2, i3, mMv, RV.plain, stC, mNext, gAdd, gSub, hs, mCB, g1, gLen, mCons, mNil, Res.bl, RL.cons, RL.bd, hl, gIx, e1, ez, mIfE, Res.bb, gPow, hp, hz', mRet]
      · refine ⟨z % many, stC ns (c + 1) m 0, ?_, b0 _, b1 _, fin _ _ _ (by omega)⟩
        have hz' : ¬ (1000000000000000000 : Int) ≤ z := hz
        simp [F_drawn, bodyF, m_drawn, mSeq, mIf, mBin, mCIx, Res.bd, Res.bind, mC, RV.frz, cixR, e, a0, a1, a2, a3, ofO, gGt, gLe, gGe, gCmpI, bO, Res.sb, hr, mSet, mPk, gMod, h0, iO, Res.sd, setRV, W.put, mCSet, gDiv, hd2, Res.sdd, setCRS, i1, i2, i3, mMv, RV.plain, stC, mNext, gAdd, gSub, hs, mCB, g1, gLen, mCons, mNil, Res.bl, RL.cons, RL.bd, hl, gIx, e1, ez, mIfE, Res.bb, gPow, hp, hz', mRet]
    · refine ⟨(m * 48271 + 11) % 2147483647 / 7 % many, stC ns (c + 1) ((m * 48271 + 11) % 2147483647) r, ?_, b0 _, b1 _, fin _ _ _ (by omega)⟩
      simp [F_drawn, bodyF, m_drawn, mSeq, mIf, mBin, mCIx, Res.bd, Res.bind, mC, RV.frz, cixR, e, a0, a1, a2, a3, ofO, gGt, gLe, gGe, gCmpI, bO, Res.sb, hr, mSet, mPk, gMod, h0, iO, Res.sd, setRV, W.put, mCSet, gDiv, hd2, hd7, Res.sdd, setCRS, i1, i2, i3, mMv, RV.plain, stC, mNext, gAdd, gSub, gMul, hm, hs, mCB, g1, gLen, mCons, mNil, Res.bl, RL.cons, RL.bd, hl, gIx, mIfE, Res.bb, mRet]

/-! what may be compared -/
mutual
def dok : Nat → D → Bool
  | _, .non => true
  | _, .bl _ => true
  | _, .int _ => true
  | _, .str x => PyData.strOk x
  | n + 1, .tup ds => doks n ds
  | n + 1, .lst ds => doks n ds
  | n + 1, .scr ds => doks n ds
  | _, _ => false
def doks : Nat → List D → Bool
  | _, [] => true
  | n, d :: ds => dok n d && doks n ds
end
mutual
theorem dok_ok : ∀ (n : Nat) (d : D), dok n d = true → okD d = true ∧ (toPy d).canLay0 = true ∧ (toPy d).depth ≤ n + 1
  | _, .non, _ => ⟨rfl, rfl, by simp [toPy, PyData.depth]⟩
  | _, .bl _, _ => ⟨rfl, rfl, by simp [toPy, PyData.depth]⟩
  | _, .int _, _ => ⟨rfl, rfl, by simp [toPy, PyData.depth]⟩
  | _, .str x, h => ⟨rfl, by simp only [dok] at h; simpa [toPy, PyData.canLay0] using h, by simp [toPy, PyData.depth]⟩
  | n + 1, .tup ds, h => by
    obtain ⟨h1, h2, h3⟩ := doks_ok n ds (by simpa only [dok] using h)
    exact ⟨by simpa only [okD] using h1, by simpa only [toPy, PyData.canLay0] using h2, by simp only [toPy, PyData.depth]; omega⟩
  | n + 1, .lst ds, h => by
    obtain ⟨h1, h2, h3⟩ := doks_ok n ds (by simpa only [dok] using h)
    exact ⟨by simpa only [okD] using h1, by simpa only [toPy, PyData.canLay0] using h2, by simp only [toPy, PyData.depth]; omega⟩
  | n + 1, .scr ds, h => by
    obtain ⟨h1, h2, h3⟩ := doks_ok n ds (by simpa only [dok] using h)
    exact ⟨by simpa only [okD] using h1, by simpa only [toPy, PyData.canLay0] using h2, by simp only [toPy, PyData.depth]; omega⟩
  | 0, .tup ds, h => by simp [dok] at h
  | 0, .lst ds, h => by simp [dok] at h
  | 0, .scr ds, h => by simp [dok] at h
  | _, .dic _ _, h => by simp [dok] at h
  | _, .obj _ _ _, h => by simp [dok] at h
  | _, .cell _, h => by simp [dok] at h
theorem doks_ok : ∀ (n : Nat) (ds : List D), doks n ds = true → okDs ds = true ∧ PyData.canLayAll0 (toPys ds) = true ∧ PyData.depthAll (toPys ds) ≤ n + 1
  | _, [], _ => ⟨rfl, rfl, by simp [toPys, PyData.depthAll]⟩
  | n, d :: ds, h => by
    simp only [doks] at h
    obtain ⟨a, b⟩ := Bool.and_eq_true_iff.mp h
    obtain ⟨a1, a2, a3⟩ := dok_ok n d a
    obtain ⟨b1, b2, b3⟩ := doks_ok n ds b
    exact ⟨by simp [okDs, a1, b1], by simp [toPys, PyData.canLayAll0, a2, b2], by simp only [toPys, PyData.depthAll]; omega⟩
end
theorem okE_of {n : Nat} {d : D} (h : dok n d = true) (hn : n ≤ 63) : okE d = true := by
  obtain ⟨h1, h2, h3⟩ := dok_ok n d h
  unfold okE SeqAt.shaped
  have : (toPy d).depth ≤ 64 := by omega
  simp [h1, h2, this]
theorem eqB_self {d : D} (h : okE d = true) : eqB d d = true := by
  have h2 : SeqAt.shaped (toPy d) = true := (Bool.and_eq_true_iff.mp h).2
  exact SeqAt.eqv_refl _ (SeqAt.canLay_of_shaped h2)
theorem gNe_self {d : D} (h : okE d = true) : gNe d d = bO false := by
  have e := eqB_self h
  unfold gNe
  split
  · simp
  · simp
  · simp [h, e]
theorem gEq_self {d : D} (h : okE d = true) : gEq d d = bO true := by
  have e := eqB_self h
  unfold gEq
  split
  · simp
  · simp
  · simp [h, e]

/-! loops -/
theorem forL_inv {g : MG} {b : MS} (I : Nat → W → Prop) : ∀ (ds : List D) (k : Nat) (w : W), I k w →
    (∀ i d, ds[i]? = some d → ∀ w, I (k + i) w → ∃ w1 w2, g d w = some w1 ∧ (b w1 = .nx w2 ∨ b w1 = .ct w2) ∧ I (k + i + 1) w2) → ∃ w', forL g b ds w = .nx w' ∧ I (k + ds.length) w'
  | [], k, w, h, _ => ⟨w, rfl, h⟩
  | d :: ds, k, w, h, st => by
    obtain ⟨w1, w2, e1, e2, h2⟩ := st 0 d rfl w h
    obtain ⟨w', e3, h3⟩ := forL_inv I ds (k + 1) w2 h2 (fun i d e w h => by
      have e' : k + 1 + i = k + (i + 1) := by omega
      rw [e'] at h ⊢
      exact st (i + 1) d (by simpa using e) w h)
    refine ⟨w', ?_, by rw [List.length_cons, show k + (ds.length + 1) = k + 1 + ds.length by omega]; exact h3⟩
    unfold forL
    rw [e1]
    rcases e2 with e2 | e2 <;> simp only [e2] <;> exact e3
end DB

set_option Elab.async false
set_option linter.all false
set_option maxRecDepth 100000
set_option maxHeartbeats 4000000
namespace DB
open PySem PySem.Spec PyProof.Rows L2
/-! what the top has written, by names -/
theorem step {A B : Prop} (a : A) (k : A → B) : B := k a
section
variable {P : Program} {w : World} {K : PySem.W.Frag} {mg : Str → Option Value} {h : Heap}
theorem fun_ex {x : Str} {st : Stmt} {f : Addr} {od an : Option Addr} {sl : Array (Option Value)} {oc kV dc pm cd ct : Value} (X : K.In h) (G : h.Ns mainGlobals mg) (a : PySem.W.nsIn K mainGlobals x = some (some (.ref f)))
    (l : K.lookup f = some ⟨oc, od, .func (PySem.W.fnOf x x (defArgs st) (defBody st) (defScope st) .none kV dc pm an cd ct), sl⟩) (c : PySem.W.codeIn K cd x = true) (k : PySem.W.keepIn K (.ref f) = true) : ∃ f fd, Fun K x x st f fd ∧ mg x = some (.ref f) :=
  ⟨f, _, fun_mk l c k, PySem.W.mg_of X G a⟩
theorem exc_ex {x q : Str} {st : Stmt} {C f N : Addr} {od an dd : Option Addr} {sl : Array (Option Value)} {oc kV dc pm cd ct : Value} {nm qn : Str} {bs bm sub : List Value} {sn : List Str} {ab : Bool} {col : Option Bool} {k0 k1 k2 k3 k5 : Option Value} (X : K.In h) (G : h.Ns mainGlobals mg)
    (a : PySem.W.nsIn K mainGlobals x = some (some (.ref C))) (xL : K.lookup C = some (excClassObj nm qn C N bs bm true sn sub ab col dd k0 k1 k2 k3 k5 "ValueError.__new__")) (rv : PySem.HandSPX.refsVE bm = true)
    (sa : PySem.W.findIn K (.ref C) "__setattr__" = some (some (.builtin "object.__setattr__"))) (eC : PySem.W.subIn K (.ref C) (.type "BaseException") = some true) (tC : PySem.W.typeIn K (.ref C) = some (.type "type")) (kC : PySem.W.keepIn K (.ref C) = true)
    (ai : PySem.W.findIn K (.ref C) "__init__" = some (some (.ref f))) (ti : PySem.W.typeIn K (.ref f) = some (.type "function"))
    (l : K.lookup f = some ⟨oc, od, .func (PySem.W.fnOf "__init__" q (defArgs st) (defBody st) (defScope st) .none kV dc pm an cd ct), sl⟩) (c : PySem.W.codeIn K cd q = true) (k : PySem.W.keepIn K (.ref f) = true)
    (n1 : PySem.W.findIn K (.ref C) "part" = some none) (n2 : PySem.W.findIn K (.ref C) "number" = some none) (n3 : PySem.W.findIn K (.ref C) "row" = some none) :
    ∃ C fI fd, Fun K "__init__" q st fI fd ∧ mg x = some (.ref C) ∧ OexC K C ∧ PySem.W.findIn K (.ref C) "__init__" = some (some (.ref fI)) ∧ PySem.W.typeIn K (.ref fI) = some (.type "function") ∧ ∀ f ∈ (["part", "number", "row"] : List Str), PySem.W.findIn K (.ref C) f = some none :=
  ⟨C, f, _, fun_mk l c k, PySem.W.mg_of X G a, ⟨⟨nm, qn, N, bs, bm, sn, sub, ab, col, dd, k0, k1, k2, k3, k5, xL, rv⟩, sa, eC, tC, kC⟩, ai, ti, fun g hg => by
    simp only [List.mem_cons, List.not_mem_nil, or_false] at hg
    rcases hg with rfl | rfl | rfl
    · exact n1
    · exact n2
    · exact n3⟩
theorem own_ex {x : Str} {C : Addr} {bmB : List Value} {B newId initId : String} (F : ExcBaseFacts B newId initId bmB) (X : K.In h) (G : h.Ns mainGlobals mg) (a : PySem.W.nsIn K mainGlobals x = some (some (.ref C))) (q : PySem.W.excIn K C bmB newId = true) (kC : PySem.W.keepIn K (.ref C) = true)
    (eC : PySem.W.subIn K (.ref C) (.type "BaseException") = some true) (tC : PySem.W.typeIn K (.ref C) = some (.type "type")) : OwnP K mg x := ⟨⟨C, bmB, B, newId, initId, PySem.W.mg_of X G a, F, q, kC, eC, tC⟩⟩
theorem base_ex {x : Str} {C : Addr} (X : K.In h) (G : h.Ns mainGlobals mg) (a : PySem.W.nsIn K mainGlobals x = some (some (.ref C))) (s : PySem.W.specialIn K (.ref C) "__getattribute__" = some (some (.builtin "type.__getattribute__"))) (r : PySem.W.readsIn K C (.type "type") = true)
    (f : PySem.W.findCls K (.ref C) (.type "type") "__init__" = some (.val (.builtin "ValueError.__init__"))) : XBase K mg x := ⟨⟨C, _, PySem.W.mg_of X G a, s, r, f⟩⟩

/-! all exception classes at once -/
def xOneB (K : PySem.W.Frag) (A : Addr) : Bool :=
  xfB K A && decide (PySem.W.findIn K (.ref A) "__class__" = some (some (.builtin "object.__class__"))) && decide (PySem.W.specialIn K (.builtin "object.__class__") "__get__" = some (some (.builtin "getset_descriptor.__get__"))) && decide (PySem.W.takesIn K (.builtin "object.__class__") = some true) &&
    decide (PySem.W.mroIn K A (.type "object") = some true) && decide (PySem.W.findIn K (.ref A) "part" = some none) && decide (PySem.W.findIn K (.ref A) "number" = some none) && decide (PySem.W.findIn K (.ref A) "row" = some none) && decide (PySem.W.kitOne K (.ref A) (.type "ValueError") = some true)
def xPairB (K : PySem.W.Frag) (A C : Addr) (b : Bool) : Bool := decide (PySem.W.exmOne K (.ref A) (.ref C) = some b) && decide (PySem.W.kitOne K (.ref A) (.ref C) = some b)
def xTabB (K : PySem.W.Frag) (al : List (Str × Addr)) (de : Addr) : Bool := al.all fun p => xOneB K p.2 && xPairB K p.2 de true && al.all fun q => xPairB K p.2 q.2 (underX p.1 q.1)
theorem xPair_of {A C : Addr} {b : Bool} (e : xPairB K A C b = true) : PySem.W.exmOne K (.ref A) (.ref C) = some b ∧ PySem.W.kitOne K (.ref A) (.ref C) = some b := by
  unfold xPairB at e
  obtain ⟨e1, e2⟩ := Bool.and_eq_true_iff.mp e
  exact ⟨of_decide_eq_true e1, of_decide_eq_true e2⟩
theorem xAll_of {al : List (Str × Addr)} {de : Addr} (names : al.map (·.1) = xCls) (ha : ∀ p ∈ al, mg p.1 = some (.ref p.2)) (hd : mg "DialError" = some (.ref de)) (t : xTabB K al de = true) : XAll K mg := by
  have at_ : ∀ a ∈ xCls, ∃ p ∈ al, p.1 = a := fun a h => by
    rw [← names] at h
    obtain ⟨p, hp, e⟩ := List.mem_map.mp h
    exact ⟨p, hp, e⟩
  have get : ∀ p ∈ al, xOneB K p.2 = true ∧ xPairB K p.2 de true = true ∧ ∀ q ∈ al, xPairB K p.2 q.2 (underX p.1 q.1) = true := fun p hp => by
    have := List.all_eq_true.mp t p hp
    obtain ⟨h1, h2⟩ := Bool.and_eq_true_iff.mp this
    obtain ⟨h3, h4⟩ := Bool.and_eq_true_iff.mp h1
    exact ⟨h3, h4, fun q hq => List.all_eq_true.mp h2 q hq⟩
  have ud : ∀ a : Str, underX a "DialError" = true := fun a => by unfold underX; simp
  have pr : ∀ a ∈ xCls, ∀ c ∈ ("DialError" : Str) :: xCls, ∃ A C, mg a = some (.ref A) ∧ mg c = some (.ref C) ∧ xPairB K A C (underX a c) = true := by
    intro a h c hc
    obtain ⟨p, hp, rfl⟩ := at_ a h
    obtain ⟨_, g1, g2⟩ := get p hp
    rcases List.mem_cons.mp hc with rfl | hc
    · exact ⟨p.2, de, ha p hp, hd, by rw [ud]; exact g1⟩
    · obtain ⟨q, hq, rfl⟩ := at_ c hc
      exact ⟨p.2, q.2, ha p hp, ha q hq, g2 q hq⟩
  refine ⟨fun a h c hc => ?_, fun a h c hc => ?_, fun a h => ?_⟩
  · obtain ⟨A, C, h1, h2, h3⟩ := pr a h c hc
    exact ⟨A, C, h1, h2, (xPair_of h3).1⟩
  · obtain ⟨A, C, h1, h2, h3⟩ := pr a h c hc
    exact ⟨A, C, h1, h2, (xPair_of h3).2⟩
  · obtain ⟨p, hp, rfl⟩ := at_ a h
    obtain ⟨g, _⟩ := get p hp
    unfold xOneB at g
    simp only [Bool.and_eq_true, decide_eq_true_eq] at g
    obtain ⟨⟨⟨⟨⟨⟨⟨⟨g1, g2⟩, g3⟩, g4⟩, g5⟩, g6⟩, g7⟩, g8⟩, g9⟩ := g
    have x := xfB_ok g1
    refine ⟨p.2, ha p hp, x, ⟨x.ga, x.gg, x.exC, x.hdC, g2, g3, g4, g5⟩, fun f hf => ?_, g9⟩
    simp only [List.mem_cons, List.not_mem_nil, or_false] at hf
    rcases hf with rfl | rfl | rfl
    · exact g6
    · exact g7
    · exact g8
theorem xall_ex {c1 c2 c3 c4 c5 c6 c7 c8 c9 c10 c11 c12 de : Addr} (X : K.In h) (G : h.Ns mainGlobals mg) (a1 : PySem.W.nsIn K mainGlobals "BadBelt" = some (some (.ref c1))) (a2 : PySem.W.nsIn K mainGlobals "BadGoal" = some (some (.ref c2))) (a3 : PySem.W.nsIn K mainGlobals "BadPress" = some (some (.ref c3)))
    (a4 : PySem.W.nsIn K mainGlobals "BadStep" = some (some (.ref c4))) (a5 : PySem.W.nsIn K mainGlobals "BadDeed" = some (some (.ref c5))) (a6 : PySem.W.nsIn K mainGlobals "BadCount" = some (some (.ref c6))) (a7 : PySem.W.nsIn K mainGlobals "TooMany" = some (some (.ref c7))) (a8 : PySem.W.nsIn K mainGlobals "NoWay" = some (some (.ref c8)))
    (a9 : PySem.W.nsIn K mainGlobals "BadName" = some (some (.ref c9))) (a10 : PySem.W.nsIn K mainGlobals "Known" = some (some (.ref c10))) (a11 : PySem.W.nsIn K mainGlobals "NoRoutine" = some (some (.ref c11))) (a12 : PySem.W.nsIn K mainGlobals "BadText" = some (some (.ref c12))) (a0 : PySem.W.nsIn K mainGlobals "DialError" = some (some (.ref de)))
    (t : xTabB K [("BadBelt", c1), ("BadGoal", c2), ("BadPress", c3), ("BadStep", c4), ("BadDeed", c5), ("BadCount", c6), ("TooMany", c7), ("NoWay", c8), ("BadName", c9), ("Known", c10), ("NoRoutine", c11), ("BadText", c12)] de = true) : XAll K mg :=
  xAll_of rfl (fun p hp => by
    simp only [List.mem_cons, List.not_mem_nil, or_false] at hp
    rcases hp with rfl | rfl | rfl | rfl | rfl | rfl | rfl | rfl | rfl | rfl | rfl | rfl
    · exact PySem.W.mg_of X G a1
    · exact PySem.W.mg_of X G a2
    · exact PySem.W.mg_of X G a3
    · exact PySem.W.mg_of X G a4
    · exact PySem.W.mg_of X G a5
    · exact PySem.W.mg_of X G a6
    · exact PySem.W.mg_of X G a7
    · exact PySem.W.mg_of X G a8
    · exact PySem.W.mg_of X G a9
    · exact PySem.W.mg_of X G a10
    · exact PySem.W.mg_of X G a11
    · exact PySem.W.mg_of X G a12) (PySem.W.mg_of X G a0) t
end
/-! the law's end -/
def spLawD (K : PySem.W.Frag) : Sp := fun vs H Q _ => ∃ (a : Addr) (ns : List Int), vs = [.ref a] ∧ ns.length ≤ 63 ∧ SqL K H a (ns.map V.int) ∧ ∀ H', Q (.bl true) H'
theorem ints_rp {R : RC} {G : Wd} : ∀ ns : List Int, Rps R G (ns.map D.int) (ns.map V.int)
  | [] => .nil
  | _ :: ns => .cons .int (ints_rp ns)
/-- all but the tables -/
def noT (H : Hp) : Hp := fun a => match H a with
  | some (.tbl _) => none
  | o => o
theorem noT_some {H : Hp} {a : Addr} {o : HO} (h : noT H a = some o) : H a = some o ∧ ∀ ps, o ≠ .tbl ps := by
  unfold noT at h
  cases e : H a with
  | none => rw [e] at h; cases h
  | some u =>
    rw [e] at h
    cases u with
    | tbl ps => cases h
    | _ => cases h; exact ⟨rfl, fun ps z => by cases z⟩
theorem noT_of {H : Hp} {a : Addr} {o : HO} (h : H a = some o) (n : ∀ ps, o ≠ .tbl ps) : noT H a = some o := by
  unfold noT
  rw [h]
  cases o with
  | tbl ps => exact (n ps rfl).elim
  | _ => rfl
theorem noT_sqL {K : PySem.W.Frag} {H : Hp} {a : Addr} {xs : List V} (h : SqL K H a xs) : SqL K (noT H) a xs := by
  rcases h with (h | ⟨o, h⟩) | h
  · exact .inl (.inl (noT_of h fun _ z => by cases z))
  · exact .inl (.inr ⟨o, noT_of h fun _ z => by cases z⟩)
  · exact .inr h
def spLawT (K : PySem.W.Frag) (T : List (Addr × Str)) : Sp := fun vs H Q _ => ∃ (a : Addr) (ns : List Int), vs = [.ref a] ∧ ns.length ≤ 63 ∧ SqL K H a (ns.map V.int) ∧ (∀ p ∈ T, H p.1 = some (.tbl #[])) ∧ ∀ H', Q (.bl true) H'
theorem law_impT {P : Program} {w : World} {K : PySem.W.Frag} {mg : Str → Option Value} {base : Heap} {k : Nat} {f : Addr} {fd : FuncData} {ps : List Str} {F : MF} {T : List (Addr × Str)} {fw : Nat → Addr → Wd → Prop} (Fn : FnOk P w K mg base (L2.CX P w) k f fd ps (spF ⟨K, mg, T, noL fw⟩ F))
    (hF : ∀ ns : List Int, ns.length ≤ 63 → ∃ S, F [.scr (ns.map D.int)] [] = .ok (.d (.bl true)) S) : FnOk P w K mg base (L2.CX P w) k f fd ps (spLawT K T) :=
  Fn.imp fun vs H Q E ⟨a, ns, ev, hl, hs, hT, q⟩ => by
    obtain ⟨S, e⟩ := hF ns hl
    refine ⟨⟨noT H, [], []⟩, [], [.scr (ns.map D.int)], ?_, ⟨⟨rfl, fun n c b h1 h2 => by simp at h1⟩, List.nodup_nil, fun b hb => by simp at hb, fun b o hb => (noT_some hb).1, ⟨fun p hp => .nil (hT p hp), fun p hp => by simp at hp, fun b ps hb => (noT_some hb).2 ps rfl⟩, .refl _ _ _⟩, ?_⟩
    · rw [ev]
      exact .cons (.scr (noT_sqL hs) (ints_rp ns)) .nil
    · rw [e]
      refine ⟨rfl, fun v G' H' bs b sl lo => ?_⟩
      cases sl with
      | d r => cases r; exact q H'
theorem law_imp {P : Program} {w : World} {K : PySem.W.Frag} {mg : Str → Option Value} {base : Heap} {k : Nat} {f : Addr} {fd : FuncData} {ps : List Str} {F : MF} {fw : Nat → Addr → Wd → Prop} (Fn : FnOk P w K mg base (L2.CX P w) k f fd ps (spF ⟨K, mg, [], noL fw⟩ F))
    (hF : ∀ ns : List Int, ns.length ≤ 63 → ∃ S, F [.scr (ns.map D.int)] [] = .ok (.d (.bl true)) S) : FnOk P w K mg base (L2.CX P w) k f fd ps (spLawD K) :=
  (law_impT Fn hF).imp fun vs H Q E ⟨a, ns, ev, hl, hs, q⟩ => ⟨a, ns, ev, hl, hs, fun p hp => by simp at hp, q⟩
theorem cx_none {P : Program} {w : World} {H : Hp} {s : Shared} {e : Value} {s' : Shared} (h : L2.CX P w [] H s (fun _ _ _ => False) e s') : False := by
  obtain ⟨_, _, _, _, _, _, _, _, _, _, _, _, z⟩ := h
  exact z
end DB

set_option Elab.async false
set_option linter.all false
set_option maxRecDepth 100000
set_option maxHeartbeats 4000000
namespace DB
open PySem PySem.Spec PyProof.Rows L2 LamX
/-! a lambda's names: its parameters, captured ones, globals -/
structure LamP (sc scope : Scope) (ps : List Str) : Prop where
  kind : scope.kind = .function
  co : scope.isCoroutine = false
  gen : scope.isGenerator = false
  own : ∀ y ∈ scope.names, y.2 ≠ .cell
  par : ∀ x ∈ ps, scope.names.lookup x = some .local
  free : ∀ y ∈ scope.names, y.2 = .free → sc.names.lookup y.1 = some .cell ∨ sc.names.lookup y.1 = some .free
def lamPB (sc scope : Scope) (ps : List Str) : Bool :=
  decide (scope.kind = .function) && !scope.isCoroutine && !scope.isGenerator && (scope.names.all fun y => !decide (y.2 = .cell) && (!decide (y.2 = .free) || decide (sc.names.lookup y.1 = some .cell) || decide (sc.names.lookup y.1 = some .free))) &&
    ps.all fun x => decide (scope.names.lookup x = some .local)
theorem lamP_by {sc scope : Scope} {ps : List Str} (h : lamPB sc scope ps = true) : LamP sc scope ps := by
  unfold lamPB at h
  simp only [Bool.and_eq_true, Bool.or_eq_true, Bool.not_eq_true', decide_eq_true_eq, decide_eq_false_iff_not, List.all_eq_true] at h
  obtain ⟨⟨⟨⟨e1, e2⟩, e3⟩, e4⟩, e5⟩ := h
  refine ⟨e1, e2, e3, fun y hy => (e4 y hy).1, e5, fun y hy e => ?_⟩
  rcases (e4 y hy).2 with (z | z) | z
  · exact absurd e z
  · exact .inl z
  · exact .inr z
theorem LamP.has {X : Cx} {scope : Scope} {ps : List Str} (L : LamP X.env.scope scope ps) (ok : X.Ok) : ∀ y ∈ scope.names, y.2 = .free → ∃ c, X.env.cells.lookup y.1 = some c := fun y hy e =>
  (L.free y hy e).elim (fun k => ok.has _ (.inl k)) fun k => ok.has _ (.inr k)
/-- what is known of a code object -/
def codeP (c : Addr) (q : Str) : Heap → Prop := fun h => ∃ (oc : Obj) (vs : Array Value) (t : Tok), h.get? c = some oc ∧ oc.data = .fields vs ∧ vs[1]? = some (.str q t)
theorem codeP_ext (c : Addr) (q : Str) : HO.ext (codeP c q) = CodeO c q := rfl
section
variable {X : Cx} {pins : List (Addr × Obj)} {σ σL : L2.St} {H HZ : Hp} {s s1 : Shared}
theorem lam_startP {A : Around} {outer : List Env} {E : XK} {scope : Scope} {ps : List Str} {binds : List (Str × Value)} {f c' : Addr} {hp : Heap} {tk : Nat} (I : Inv X pins σ H s) (L : LamP X.env.scope scope ps) (e0 : Env0 X.prog X.w X.K X.mg X.base A outer s1 HZ) (hd : A.handled = none)
    (un : Un (frs X.stack) [] H HZ s.heap s1.heap) (hns : hp.Ns s1.heap.objs.size fun y => binds.reverse.lookup y) (kp : ∀ b o, s1.heap.get? b = some o → hp.get? b = some o)
    (len : σL.length = X.N.length) (hfree : ∀ (i : Nat) (y : Str) (v : V), X.N[i]? = some y → scope.names.lookup y = some .free → σL[i]? = some (some v) → σ[i]? = some (some v))
    (hpar : ∀ (i : Nat) (y : Str) (v : V), X.N[i]? = some y → scope.names.lookup y = some .local → σL[i]? = some (some v) → ∃ u, RelV v u ∧ binds.reverse.lookup y = some u) :
    Inv (lamCx X A outer s1 HZ E scope f c') [] σL HZ { s1 with heap := hp, toks := tk } := by
  have caps := L.has I.ok
  have cm : ∀ {y c}, (cloFrom X.env.cells scope.names []).lookup y = some c → X.env.cells.lookup y = some c := fun {y c} e => by
    rcases cloFrom_mem (PySem.mem_of_lookup e) with hm | ⟨k1, k2⟩
    · cases hm
    · obtain ⟨c1, hc⟩ := caps _ k1 rfl
      have hc2 : X.env.cells.lookup y = some c1 := hc
      have ec : c = c1 := by
        rw [k2, hc2] <;> rfl
      rw [ec]
      exact hc2
  have look : ∀ {y}, scope.names.lookup y = some .free → ∃ c, (cloFrom X.env.cells scope.names []).lookup y = some c := fun {y} hl => by
    have hy : (y, NameKind.free) ∈ scope.names := PySem.mem_of_lookup hl
    exact mem_lookup (cloFrom_has (cells := X.env.cells) (acc := []) hy)
  have cellQ : ∀ {c : Addr} {v : Option Value}, H c = none → s.heap.IsCell c v → hp.IsCell c v := fun {c v} n ⟨o, ho, hdt⟩ => by
    obtain ⟨sl, q⟩ := un.any ho n (by simp)
    exact ⟨_, kp _ _ q, hdt⟩
  have none_ : ∀ b : Addr, b ∉ (lamCx X A outer s1 HZ E scope f c').ex := fun b z => absurd (show b ∈ ([] : List Addr) from z) (by simp)
  refine ⟨⟨e0.mod, L.kind, rfl, rfl, Nat.le_refl _, fun y z c e1 e2 => I.ok.inj y z c (cm e1) (cm e2), fun y hy => ?_, fun y c z _ => ?_, fun _ => hd, Around.frames_deeper e0.frames, .inr ⟨rfl, rfl⟩, fun b z => absurd z (none_ b), e0.bs, e0.bsz, fun b _ _ => none_ b,
      fun b z => absurd z (none_ b), e0.funs, e0.frf⟩,
    rfl, e0.bare, Un.kept kp, ⟨_, hns, fun i y v e1 e2 e3 => ?_⟩, fun y c e => ?_, e0.hok.fresh (Nat.le_refl _), fun y c e => ?_, fun q hq => absurd (show q ∈ ([] : List (Addr × Obj)) ++ [] from hq) (by simp), e0.hok.kept kp, len⟩
  · have hy2 : scope.names.lookup y = some .cell ∨ scope.names.lookup y = some .free := hy
    rcases hy2 with hy2 | hy2
    · exact absurd rfl (L.own _ (PySem.mem_of_lookup hy2))
    · exact look hy2
  · have z2 : false = true := z
    cases z2
  · have e4 : Vis scope y := e3
    rcases e4 with k | k | k
    · obtain ⟨u, ru, eu⟩ := hpar i y v e1 k e2
      exact ⟨u, ru, .inl ⟨k, eu⟩⟩
    · exact absurd rfl (L.own _ (PySem.mem_of_lookup k))
    · obtain ⟨m, hn, hl⟩ := I.loc
      have vis : Vis X.env.scope y := (L.free _ (PySem.mem_of_lookup k) rfl).elim (fun k => .inr (.inl k)) (fun k => .inr (.inr k))
      obtain ⟨u, ru, q⟩ := hl i y v e1 (hfree i y v e1 k e2) vis
      obtain ⟨c2, g2⟩ := look k
      refine ⟨u, ru, .inr ⟨.inr k, c2, g2, ?_⟩⟩
      have g1 := cm g2
      rcases q with ⟨k', _⟩ | ⟨_, c3, e', z⟩
      · have k2 : X.env.scope.names.lookup y = some .local := k'
        rcases L.free _ (PySem.mem_of_lookup k) rfl with k3 | k3 <;> rw [show X.env.scope.names.lookup y = _ from k3] at k2 <;> cases k2
      · rw [g1] at e'
        cases e'
        exact cellQ (I.freeC y _ g1) z
  · obtain ⟨v, z⟩ := I.cell y c (cm e)
    exact ⟨v, cellQ (I.freeC y c (cm e)) z⟩
  · obtain ⟨v, o, ho, hdt⟩ := I.cell y c (cm e)
    exact un.free c o ho (I.freeC y c (cm e)) (by simp)
/-- the object of a lambda that is made here -/
abbrev lamO (X : Cx) (params : Arguments) (body : Expr) (scope : Scope) (dV doc pm : Value) (c' : Addr) (ctv : Value) : Obj :=
  PySem.W.kdv_obj "<lambda>" (X.env.qual ++ "<lambda>") params (.expr body) scope (cloFrom X.env.cells scope.names []) dV doc pm c' ctv
/-- what stays beside it: the tuple of its defaults -/
def KeptO (X : Cx) (s : Shared) (H : Hp) (ko : List (Addr × Obj)) : Prop := ∀ p ∈ ko, s.heap.get? p.1 = some p.2 ∧ H p.1 = none ∧ p.1 ∉ frs X.stack
/-- how its arguments are bound, wherever what is kept stands -/
def LamB (X : Cx) (params : Arguments) (body : Expr) (scope : Scope) (dV doc pm : Value) (c' : Addr) (ctv : Value) (ko : List (Addr × Obj)) (us : List Value) (binds : List (Str × Value)) : Prop :=
  ∀ sZ : Shared, (∀ p ∈ ko, sZ.heap.get? p.1 = some p.2) → BindsTo sZ (PySem.W.kdv_fn "<lambda>" (X.env.qual ++ "<lambda>") params (.expr body) scope (cloFrom X.env.cells scope.names []) dV doc pm (.ref c') ctv) ⟨us, []⟩ binds
theorem act_runG {CXg : CXT} {Eg : XK} {Ng : List Str} {qg : Str} {sg : Scope} {g f c' : Addr} {cdg dV doc pm ctv : Value} {params : Arguments} {body : Expr} {scope : Scope} {ps : List Str} {k : Nat} {pn pinsZ : List (Addr × Obj)} {xe : Value → Shared → Prop} {Wz : WX} {tb : TE} {σZ : L2.St} {HZ : Hp} {sZ : Shared} {Q : VK} {us : List Value} {ko : List (Addr × Obj)} {binds : List (Str × Value)}
    (I : Inv X pins σ H s) (L : LamP X.env.scope scope ps) (of1 : sZ.heap.get? f = some (lamO X params body scope dV doc pm c' ctv)) (hkoZ : ∀ p ∈ ko, sZ.heap.get? p.1 = some p.2)
    (hbl : ∀ y ∈ binds, y.1 ∈ ps) (hbind : LamB X params body scope dV doc pm c' ctv ko us binds)
    (tk : Takes ((cxOf CXg X.prog X.w X.K X.mg X.base Ng qg sg g cdg X.A X.stack s H Eg).tr pn xe) Wz) (hr : Room (k + 1) (X.A.deeper (envOfC qg sg s.heap.objs.size g cdg)))
    (hbody : ∀ (A : Around) (outer : List Env) (s : Shared) (H : Hp), Room k (A.deeper (lamEnv X scope s.heap.objs.size f c')) → PE (lamCx X A outer s H (WE Wz σZ) scope f c') body tb)
    (IZ : Inv ((cxOf CXg X.prog X.w X.K X.mg X.base Ng qg sg g cdg X.A X.stack s H Eg).tr pn xe) pinsZ σZ HZ sZ) (hc : HZ c' = some (CodeO c' (X.env.qual ++ "<lambda>"))) (hlen : σL.length = X.N.length)
    (sl : ∀ (i : Nat) (y : Str) (v : V), X.N[i]? = some y → scope.names.lookup y = some .free → σL[i]? = some (some v) → σ[i]? = some (some v))
    (sl2 : ∀ (i : Nat) (y : Str) (v : V), X.N[i]? = some y → scope.names.lookup y = some .local → σL[i]? = some (some v) → ∃ u, RelV v u ∧ binds.reverse.lookup y = some u) (ht : tb σL HZ Q) :
    wpAny (model X.prog X.w) (X.A.deeper (envOfC qg sg s.heap.objs.size g cdg)) (call (.ref f) us) (EP ((cxOf CXg X.prog X.w X.K X.mg X.base Ng qg sg g cdg X.A X.stack s H Eg).tr pn xe) pinsZ σZ Q) xe sZ := by
  have un : Un (frs X.stack) [] H HZ s.heap sZ.heap := IZ.base
  obtain ⟨⟨oc, cs, t, hoc, hdc, hvc⟩, _, _⟩ := IZ.hok c' _ hc
  have rc : codeAny (model X.prog X.w) (X.A.deeper (envOfC qg sg s.heap.objs.size g cdg)) (.call (.ref f) ⟨us, []⟩) (CR (L2.CX X.prog X.w) (envOfC qg sg s.heap.objs.size g cdg :: X.stack) X.prog X.w HZ sZ Q (WE Wz σZ)) sZ := by
    refine PySem.W.kla_callFunE hr.depth of1 rfl L.co L.gen rfl ⟨c', oc, cs, t, rfl, hoc, hdc, hvc⟩ ?_
    refine hbind sZ hkoZ _ _ _ _ ?_
    refine wpAny_newFunctionEnv (fun y hy => L.own y hy) (fun y hy => L.par _ (hbl y hy)) (fun hq hns hsb => ⟨IZ.nolimit.fresh _ hsb, ?_⟩) L.kind
    show codeAny _ _ (.expr body (lamEnv X scope sZ.heap.objs.size f c')) _ _
    have kp : ∀ b o, sZ.heap.get? b = some o → hq.get? b = some o := fun b o e => hsb.extBut b o (Nat.ne_of_lt (Heap.lt_size e)) (Heap.get?_push_of_some _ e)
    have J : Inv (lamCx X (X.A.deeper (envOfC qg sg s.heap.objs.size g cdg)) (envOfC qg sg s.heap.objs.size g cdg :: X.stack) sZ HZ (WE Wz σZ) scope f c') [] σL HZ { sZ with heap := hq, toks := sZ.toks + binds.length } :=
      lam_startP I L IZ.env0 hr.hd un hns kp hlen sl sl2
    refine PySem.W.kla_codeExpr (wpAny_mono ((hbody _ _ sZ HZ (hr.deeper _)).run [] _ _ HZ Q J ht) (fun v s' hq => ?_) fun e s' hq => hq)
    obtain ⟨x, H', J', rx, q⟩ := hq
    exact ⟨x, H', J'.os, J'.bare, J'.base, J'.hok, rx, q⟩
  have hx := passAt tk σZ
  refine wpAny_call (codeAny_mono rc fun r s' hq => ?_)
  cases r with
  | error e => exact hx pinsZ HZ sZ e s' IZ hq
  | ok fl =>
    cases fl with
    | ret u => exact IZ.after hq
    | next => exact False.elim hq
    | brk => exact False.elim hq
    | cont => exact False.elim hq
theorem act_run {CXg : CXT} {Eg : XK} {Ng : List Str} {qg : Str} {sg : Scope} {g f c' : Addr} {cdg dV doc pm ctv : Value} {params : Arguments} {body : Expr} {scope : Scope} {ps : List Str} {k : Nat} {pn pinsZ : List (Addr × Obj)} {xe : Value → Shared → Prop} {Wz : WX} {tb : TE} {σZ : L2.St} {HZ : Hp} {sZ : Shared} {Q : VK} {us : List Value} {ko : List (Addr × Obj)} {binds : List (Str × Value)}
    (I : Inv X pins σ H s) (L : LamP X.env.scope scope ps) (hf : s.heap.get? f = some (lamO X params body scope dV doc pm c' ctv)) (hfn : H f = none) (hfr : f ∉ frs X.stack) (hko : KeptO X s H ko)
    (hbl : ∀ y ∈ binds, y.1 ∈ ps) (hbind : LamB X params body scope dV doc pm c' ctv ko us binds)
    (tk : Takes ((cxOf CXg X.prog X.w X.K X.mg X.base Ng qg sg g cdg X.A X.stack s H Eg).tr pn xe) Wz) (hr : Room (k + 1) (X.A.deeper (envOfC qg sg s.heap.objs.size g cdg)))
    (hbody : ∀ (A : Around) (outer : List Env) (s : Shared) (H : Hp), Room k (A.deeper (lamEnv X scope s.heap.objs.size f c')) → PE (lamCx X A outer s H (WE Wz σZ) scope f c') body tb)
    (IZ : Inv ((cxOf CXg X.prog X.w X.K X.mg X.base Ng qg sg g cdg X.A X.stack s H Eg).tr pn xe) pinsZ σZ HZ sZ) (hc : HZ c' = some (CodeO c' (X.env.qual ++ "<lambda>"))) (hlen : σL.length = X.N.length)
    (sl : ∀ (i : Nat) (y : Str) (v : V), X.N[i]? = some y → scope.names.lookup y = some .free → σL[i]? = some (some v) → σ[i]? = some (some v))
    (sl2 : ∀ (i : Nat) (y : Str) (v : V), X.N[i]? = some y → scope.names.lookup y = some .local → σL[i]? = some (some v) → ∃ u, RelV v u ∧ binds.reverse.lookup y = some u) (ht : tb σL HZ Q) :
    wpAny (model X.prog X.w) (X.A.deeper (envOfC qg sg s.heap.objs.size g cdg)) (call (.ref f) us) (EP ((cxOf CXg X.prog X.w X.K X.mg X.base Ng qg sg g cdg X.A X.stack s H Eg).tr pn xe) pinsZ σZ Q) xe sZ :=
  act_runG (σL := σL) I L (IZ.base.keep f _ hf hfn hfr (fun z => nomatch (show f ∈ ([] : List Addr) from z))) (fun p hp => IZ.base.keep p.1 p.2 (hko p hp).1 (hko p hp).2.1 (hko p hp).2.2 (fun z => nomatch (show p.1 ∈ ([] : List Addr) from z))) hbl hbind tk hr hbody IZ hc hlen sl sl2 ht
end
end DB

set_option Elab.async false
set_option linter.all false
set_option maxRecDepth 100000
set_option maxHeartbeats 4000000
namespace DB
open PySem PySem.Spec PyProof.Rows L2 LamX
section
variable {R R' : RC} {H0 H H' H1 H2 : Hp} {G0 G G' G1 G2 : Wd} {w w' w1 : W} {σ σ' : L2.St} {as as' as1 as2 bs : List Addr} {Wx : WX} {X : Cx}
def FinR (R' : RC) (H : Hp) (G : Wd) (Wx : WX) (σ : L2.St) (r : RF) (Q : VK) : Prop := match r with
  | .ok rv S' => rv.plain = true ∧ ∀ v G' H' bs, Bas R' H G G' S' H' → RSlot R' G' H' rv (some v) bs → Loose H G' [] bs → Q v H'
  | .ex x S' => ∀ cls d G' H', Bas R' H G G' S' H' → ExcR R' G' H' x cls d → Wx cls d σ H'
  | .bad => False
/-- what a call's end asks of the called one's results -/
theorem call_fin {r : RF} {Q : VK} (sm : Sim R R') (rel : Rel R H0 G0 G w σ H as)
    (h : PostE R H0 G0 Wx σ G H as (match r with
      | .ok rv S' => if rv.plain = true then .ok rv { w with S := S' } else .bad
      | .ex x S' => .ex x { w with S := S' }
      | .bad => .bad) Q) : FinR R' H G Wx σ r Q := by
  cases r with
  | bad => exact h
  | ex x S' => exact fun cls d G' H' b x => h cls d G' H' as (rel.call (b.conv sm.symm)) (x.conv sm.symm)
  | ok rv S' =>
    have h2 : PostE R H0 G0 Wx σ G H as (if rv.plain = true then .ok rv { w with S := S' } else .bad) Q := h
    by_cases p : rv.plain = true
    · rw [if_pos p] at h2
      refine ⟨p, fun v G' H' bs b sl lo => ?_⟩
      have b2 := b.conv sm.symm
      refine h2 v G' H' as bs (rel.call b2) (b2.ext.mono (by simp)) (fun _ h => h) (sl.conv sm.symm p) (fun c hc => ?_) (fun c hc => .inr (lo c hc).2.2.2)
      obtain ⟨l1, l2, l3, l4⟩ := lo c hc
      refine ⟨l1, l2, fun z => ?_, rel.bas.ext.dom c l4⟩
      obtain ⟨u, hu⟩ := rel.env.has c z
      rw [hu] at l4; cases l4
    · rw [if_neg p] at h2; exact h2.elim
/-- calling what a slot has got -/
def mAct (i : Nat) (act : MF) (r : MA) : ME := fun w => match w.env[i]? with
  | some (.fn 0) => mCall act r w
  | _ => .bad
/-- a lambda, as its body's mirror tells it: env0 the captured slots, ip the parameters' slots -/
def lamF (env0 : List RV) (ip : List Nat) (m : ME) : MF := fun ds S => if ds.length = ip.length then match m ⟨(ip.zip ds).foldl (fun e p => e.set p.1 (.d p.2)) env0, S⟩ with
  | .ok rv w' => if rv.plain = true then .ok rv w'.S else .bad
  | .ex x w' => .ex x w'.S
  | .bad => .bad else .bad
/-- the captured slots alone -/
def capE (caps : List Nat) (env : List RV) : List RV := (List.range env.length).map fun i => if i ∈ caps then (match env[i]? with
  | some (.d x) => .d x
  | _ => .un) else .un
def capS (caps : List Nat) (env : List RV) (σ : L2.St) : L2.St := (List.range env.length).map fun i => if i ∈ caps then (match env[i]? with
  | some (.d _) => (σ[i]?).getD none
  | _ => none) else none
theorem REnv.of_at : ∀ {l : List RV} {σ : L2.St}, l.length = σ.length → (∀ (i : Nat) (r : RV) (o : Option V), l[i]? = some r → σ[i]? = some o → RSlot R G H r o []) → REnv R G H l σ []
  | [], [], _, _ => .nil
  | r :: l, o :: σ, hl, h => REnv.cons (as := []) (bs := []) (h 0 r o rfl rfl) (REnv.of_at (by simpa using hl) fun i r o e1 e2 => h (i + 1) r o (by simpa using e1) (by simpa using e2))
theorem cap_env {caps : List Nat} (rel : Rel R H0 G0 G w σ H as) (sm : Sim R R') (le : Wle G G1) : REnv R' G1 H1 (capE caps w.env) (capS caps w.env σ) [] := by
  refine REnv.of_at (by simp [capE, capS]) fun i r o e1 e2 => ?_
  unfold capE at e1
  unfold capS at e2
  rw [List.getElem?_map] at e1 e2
  cases er : (List.range w.env.length)[i]? with
  | none => rw [er] at e1; cases e1
  | some j =>
    rw [er] at e1 e2
    obtain ⟨k1, k2⟩ := List.getElem?_eq_some_iff.mp er
    rw [List.getElem_range] at k2
    subst k2
    have e1' := Option.some.inj e1
    have e2' := Option.some.inj e2
    by_cases hc : i ∈ caps
    · simp only [hc, if_true] at e1' e2'
      cases ee : w.env[i]? with
      | none => rw [ee] at e1'; subst e1'; exact .un
      | some rv =>
        rw [ee] at e1' e2'
        cases rv with
        | d x =>
          simp only at e1' e2'
          subst e1'
          obtain ⟨o', bs, cs, g1, g2, _⟩ := rel.env.at ee
          rw [g1] at e2'
          subst e2'
          cases g2 with
          | d h => exact .d ((h.mono le).conv sm)
        | _ => simp only at e1'; subst e1'; exact .un
    · simp only [hc, if_false] at e1'
      subst e1'
      exact .un
theorem capS_at {caps : List Nat} {env : List RV} {i : Nat} {v : V} (e : (capS caps env σ)[i]? = some (some v)) : i ∈ caps ∧ σ[i]? = some (some v) := by
  unfold capS at e
  rw [List.getElem?_map] at e
  cases er : (List.range env.length)[i]? with
  | none => rw [er] at e; cases e
  | some j =>
    rw [er] at e
    obtain ⟨k1, k2⟩ := List.getElem?_eq_some_iff.mp er
    rw [List.getElem_range] at k2
    subst k2
    have e' := Option.some.inj e
    by_cases hc : i ∈ caps
    · refine ⟨hc, ?_⟩
      simp only [hc, if_true] at e'
      cases ee : env[i]? with
      | none => rw [ee] at e'; cases e'
      | some rv =>
        rw [ee] at e'
        cases rv with
        | d x =>
          simp only at e'
          cases es : σ[i]? with
          | none => rw [es] at e'; cases e'
          | some o => rw [es] at e'; exact congrArg some e'
        | _ => cases e'
    · simp only [hc, if_false] at e'; cases e'
theorem em_act1 {CXg : CXT} {Eg : XK} {Ng : List Str} {qg : Str} {sg : Scope} {g f c' : Addr} {cdg dV doc pm ctv : Value} {ko : List (Addr × Obj)} {params : Arguments} {body e : Expr} {scope : Scope} {p a : Str} {k i ip : Nat} {pins pn : List (Addr × Obj)} {xe : Value → Shared → Prop} {Wz : WX} {caps : List Nat} {m : ME} {RZ Rm : RC} {r : MA} {p1 p2 : Pos} {s : Shared} {H0m : Hp} {G0m Gm : Wd} {wm : W} {asm : List Addr}
    (I : Inv X pins σ H s) (relm : Rel Rm H0m G0m Gm wm σ H asm) (L : LamP X.env.scope scope [p]) (hf : s.heap.get? f = some (lamO X params body scope dV doc pm c' ctv)) (hfn : H f = none) (hfr : f ∉ frs X.stack) (hko : KeptO X s H ko)
    (hbind : ∀ u : Value, LamB X params body scope dV doc pm c' ctv ko [u] [(p, u)])
    (hip : X.N[ip]? = some p) (ndN : X.N.Nodup) (hloc : ∀ y, scope.names.lookup y = some .local → y = p)
    (sm : Sim Rm RZ) (hfa : RZ.lm.fa 0 = some f) (hfc : ∀ G1, RZ.lm.fc 0 G1 → Wle Gm G1 ∧ (c', codeP c' (X.env.qual ++ "<lambda>")) ∈ G1.C)
    (hr : Room (k + 1) (X.A.deeper (envOfC qg sg s.heap.objs.size g cdg)))
    (hbody : ∀ (A : Around) (outer : List Env) (s : Shared) (H : Hp) (E : XK), Room k (A.deeper (lamEnv X scope s.heap.objs.size f c')) → PEm (lamCx X A outer s H E scope f c') ⟨Rm.K, Rm.mg, Rm.T, noL Rm.lm.fw⟩ (fun cls d _ H => E cls d H) body m)
    (tk : Takes ((cxOf CXg X.prog X.w X.K X.mg X.base Ng qg sg g cdg X.A X.stack s H Eg).tr pn xe) Wz) (hN : Ng[i]? = some a) (hv : Vis sg a)
    (ha : PAm ((cxOf CXg X.prog X.w X.K X.mg X.base Ng qg sg g cdg X.A X.stack s H Eg).tr pn xe) RZ Wz [e] r) (hd : (a == ("__debug__" : Str)) = false := by decide) (hcd : (a == ("__classdict__" : Str)) = false := by decide)
    (he : starEach [e] ((cxOf CXg X.prog X.w X.K X.mg X.base Ng qg sg g cdg X.A X.stack s H Eg).tr pn xe).env = (false, eval e ((cxOf CXg X.prog X.w X.K X.mg X.base Ng qg sg g cdg X.A X.stack s H Eg).tr pn xe).env) :: starEach [] ((cxOf CXg X.prog X.w X.K X.mg X.base Ng qg sg g cdg X.A X.stack s H Eg).tr pn xe).env := by rfl) :
    PEm ((cxOf CXg X.prog X.w X.K X.mg X.base Ng qg sg g cdg X.A X.stack s H Eg).tr pn xe) RZ Wz (.Call (.Name a p1) [e] [] p2) (mAct i (lamF (capE caps wm.env) [ip] m) r) :=
  ⟨fun H0 G0 => ⟨fun pinsZ sZ σZ HZ Q IZ ⟨G, w, as, rel, h⟩ => by
    have hp : PostE RZ H0 G0 Wz σZ G HZ as (mAct i (lamF (capE caps wm.env) [ip] m) r w) Q := h
    unfold mAct at hp
    split at hp
    · rename_i ew
      obtain ⟨o, bs, cs, es, sl, _⟩ := rel.env.at ew
      cases sl with
      | @fn n f1 G1 g1 g2 g3 =>
        rw [hfa] at g1
        cases g1
        obtain ⟨le1, hC⟩ := hfc G1 g2
        have le : Wle Gm G := le1.trans g3
        refine wpAny_Call_Name_kw (thn ((pe_var (pos := p1) (i := i) hN hv hd hcd).run pinsZ sZ σZ HZ (fun v H1 => v = .ref f ∧ H1 = HZ) IZ ⟨.ref f, es, rfl, rfl⟩) fun u s1 ⟨v, H1, I1, r1, q1⟩ => ?_)
        obtain ⟨ev, eH⟩ := q1
        subst ev
        rw [eH] at I1
        obtain rfl : u = Value.ref f := r1
        have keep : ∀ {pz : List (Addr × Obj)} {σ2 : L2.St} {H2 : Hp} {s2 : Shared}, Inv ((cxOf CXg X.prog X.w X.K X.mg X.base Ng qg sg g cdg X.A X.stack s H Eg).tr pn xe) pz σ2 H2 s2 → PySem.W.FnAt f s2.heap := fun J => ⟨_, _, _, _, J.base.keep f _ hf hfn hfr (fun z => nomatch (show f ∈ ([] : List Addr) from z))⟩
        refine PySem.W.callWith_F (keep I1) ?_ he (by rfl)
        refine thn ((ha.pe H0 G0).run p2 pinsZ s1 σZ HZ (fun vs H2 => ∃ G2 as2 w2 ds, Rel RZ H0 G0 G2 w2 σZ H2 as2 ∧ Wle G G2 ∧ Rps RZ G2 ds vs ∧ PostE RZ H0 G0 Wz σZ G2 H2 as2 (match lamF (capE caps wm.env) [ip] m ds w2.S with
          | .ok rv S' => if rv.plain = true then .ok rv { w2 with S := S' } else .bad
          | .ex x S' => .ex x { w2 with S := S' }
          | .bad => .bad) Q) I1 (lift_ab rel hp fun vs ds G2 H2 as2 w2 rel2 ext rs h2 => ⟨G2, as2, w2, ds, rel2, ext.le, rs, h2⟩)) fun us s2 ⟨vs, H2, I2, rv, G2, as2, w2, ds, rel2, le2, rs, h2⟩ => ⟨keep I2, ?_⟩
        have h3 := call_fin (R' := ⟨Rm.K, Rm.mg, Rm.T, noL Rm.lm.fw⟩) (r := lamF (capE caps wm.env) [ip] m ds w2.S) ⟨sm.K.symm, sm.mg.symm, sm.T.symm, sm.fw.symm⟩ rel2 h2
        unfold lamF at h3
        by_cases hl : ds.length = [ip].length
        · rw [if_pos hl] at h3
          match ds, hl, rs with
          | [d0], _, .cons (v := v0) rp0 .nil =>
            cases rv with
            | @cons _ u0 _ _ rv0 rvn =>
              cases rvn
              have rel0 : Rel ⟨Rm.K, Rm.mg, Rm.T, noL Rm.lm.fw⟩ H2 G2 G2 ⟨capE caps wm.env, w2.S⟩ (capS caps wm.env σ) H2 [] := by
                have smz : Sim RZ ⟨Rm.K, Rm.mg, Rm.T, noL Rm.lm.fw⟩ := ⟨sm.K.symm, sm.mg.symm, sm.T.symm, sm.fw.symm⟩
                exact ⟨cap_env relm ⟨rfl, rfl, rfl, rfl⟩ (le.trans le2), Bas.conv smz ⟨rel2.bas.cells, rel2.bas.nd, rel2.bas.free, rel2.bas.sub, rel2.bas.tabs, .refl _ _ _⟩, by simpa using rel2.bas.nd, by simp, by simp⟩
              have hlen : wm.env.length = X.N.length := by rw [relm.env.len]; exact I.len
              have hlt : ip < (capE caps wm.env).length := by
                have := (List.getElem?_eq_some_iff.mp hip).1
                simp [capE]; omega
              have smz : Sim RZ ⟨Rm.K, Rm.mg, Rm.T, noL Rm.lm.fw⟩ := ⟨sm.K.symm, sm.mg.symm, sm.T.symm, sm.fw.symm⟩
              obtain ⟨as3, rel3, sub3⟩ := rel0.setS (i := ip) hlt (.d (rp0.conv smz)) (by intro b hb; simp at hb)
              refine act_run (ps := [p]) (k := k) (us := [u0]) (binds := [(p, u0)]) (σL := (capS caps wm.env σ).set ip (some v0)) (tb := fun σL H3 Q3 => ∃ H0' G0', liftE ⟨Rm.K, Rm.mg, Rm.T, noL Rm.lm.fw⟩ (fun cls d _ H => WE Wz σZ cls d H) H0' G0' m σL H3 Q3) I L hf hfn hfr hko (by simp) (hbind u0) tk hr (fun A outer s H hr2 => ⟨fun pins s σ H Q I ⟨H0', G0', h⟩ => ((hbody A outer _ _ (WE Wz σZ) hr2).pe H0' G0').run pins s σ H Q I h⟩) I2
                (rel2.bas.tabs.2.1 (c', codeP c' (X.env.qual ++ "<lambda>")) (le2.c _ (g3.c _ hC))) ?_ ?_ ?_ ⟨H2, G2, G2, _, as3, rel3, ?_⟩
              · rw [List.length_set]; simp [capS]; exact hlen
              · intro j y v e1 e2 e3
                by_cases hj : ip = j
                · subst hj
                  rw [hip] at e1
                  cases e1
                  rw [L.par p (by simp)] at e2
                  cases e2
                · rw [List.getElem?_set_ne hj] at e3
                  exact (capS_at e3).2
              · intro j y v e1 e2 e3
                have ey := hloc y e2
                subst ey
                have hj : j = ip := nodup_ix ndN e1 hip
                subst hj
                have hlt2 : j < (capS caps wm.env σ).length := by simpa [capS, capE] using hlt
                rw [List.getElem?_set_self hlt2] at e3
                cases e3
                exact ⟨u0, rv0, by simp [List.lookup]⟩
              · show PostE _ _ _ _ _ _ _ _ (m ⟨(capE caps wm.env).set ip (.d d0), w2.S⟩) Q
                have h4 : FinR ⟨Rm.K, Rm.mg, Rm.T, noL Rm.lm.fw⟩ H2 G2 Wz σZ (match m ⟨(capE caps wm.env).set ip (.d d0), w2.S⟩ with
                  | .ok rv w' => if rv.plain = true then RF.ok rv w'.S else .bad
                  | .ex x w' => .ex x w'.S
                  | .bad => .bad) Q := h3
                cases em : m ⟨(capE caps wm.env).set ip (.d d0), w2.S⟩ with
                | bad => rw [em] at h4; exact h4
                | ex x w' => rw [em] at h4; exact fun cls d G' H' as' rel' xr => h4 cls d G' H' rel'.bas xr
                | ok rv w' =>
                  rw [em] at h4
                  have h5 : FinR ⟨Rm.K, Rm.mg, Rm.T, noL Rm.lm.fw⟩ H2 G2 Wz σZ (if rv.plain = true then RF.ok rv w'.S else .bad) Q := h4
                  by_cases pl : rv.plain = true
                  · rw [if_pos pl] at h5
                    exact fun v G' H' as' bs rel' ext sub sl lo fr => h5.2 v G' H' bs rel'.bas sl lo.none
                  · rw [if_neg pl] at h5; exact h5.elim
        · rw [if_neg hl] at h3; exact h3.elim
    · exact hp.elim⟩⟩
theorem em_act0G {ps : List Str} {binds : List (Str × Value)} {CXg : CXT} {Eg : XK} {Ng : List Str} {qg : Str} {sg : Scope} {g f c' : Addr} {cdg dV doc pm ctv : Value} {ko : List (Addr × Obj)} {params : Arguments} {body : Expr} {scope : Scope} {a : Str} {k i : Nat} {pins pn : List (Addr × Obj)} {xe : Value → Shared → Prop} {Wz : WX} {caps : List Nat} {m : ME} {RZ Rm : RC} {p1 p2 : Pos} {s : Shared} {H0m : Hp} {G0m Gm : Wd} {wm : W} {asm : List Addr}
    (I : Inv X pins σ H s) (relm : Rel Rm H0m G0m Gm wm σ H asm) (L : LamP X.env.scope scope ps) (hlive : ∀ (pz : List (Addr × Obj)) (σ2 : L2.St) (H2 : Hp) (s2 : Shared) (H0 : Hp) (G0 G2 : Wd) (w2 : W) (as2 : List Addr), Inv ((cxOf CXg X.prog X.w X.K X.mg X.base Ng qg sg g cdg X.A X.stack s H Eg).tr pn xe) pz σ2 H2 s2 → Rel RZ H0 G0 G2 w2 σ2 H2 as2 → Wle Gm G2 → s2.heap.get? f = some (lamO X params body scope dV doc pm c' ctv) ∧ ∀ p ∈ ko, s2.heap.get? p.1 = some p.2)
    (hbind : LamB X params body scope dV doc pm c' ctv ko [] binds) (hbl : ∀ y ∈ binds, y.1 ∈ ps)
    (hloc : ∀ y, scope.names.lookup y = some .local → y ∉ X.N)
    (sm : Sim Rm RZ) (hfa : RZ.lm.fa 0 = some f) (hfc : ∀ G1, RZ.lm.fc 0 G1 → Wle Gm G1 ∧ (c', codeP c' (X.env.qual ++ "<lambda>")) ∈ G1.C)
    (hr : Room (k + 1) (X.A.deeper (envOfC qg sg s.heap.objs.size g cdg)))
    (hbody : ∀ (A : Around) (outer : List Env) (s : Shared) (H : Hp) (E : XK), Room k (A.deeper (lamEnv X scope s.heap.objs.size f c')) → PEm (lamCx X A outer s H E scope f c') ⟨Rm.K, Rm.mg, Rm.T, noL Rm.lm.fw⟩ (fun cls d _ H => E cls d H) body m)
    (tk : Takes ((cxOf CXg X.prog X.w X.K X.mg X.base Ng qg sg g cdg X.A X.stack s H Eg).tr pn xe) Wz) (hN : Ng[i]? = some a) (hv : Vis sg a)
    (hd : (a == ("__debug__" : Str)) = false := by decide) (hcd : (a == ("__classdict__" : Str)) = false := by decide) :
    PEm ((cxOf CXg X.prog X.w X.K X.mg X.base Ng qg sg g cdg X.A X.stack s H Eg).tr pn xe) RZ Wz (.Call (.Name a p1) [] [] p2) (mAct i (lamF (capE caps wm.env) [] m) mNil) :=
  ⟨fun H0 G0 => ⟨fun pinsZ sZ σZ HZ Q IZ ⟨G, w, as, rel, h⟩ => by
    have hp : PostE RZ H0 G0 Wz σZ G HZ as (mAct i (lamF (capE caps wm.env) [] m) mNil w) Q := h
    unfold mAct at hp
    split at hp
    · rename_i ew
      obtain ⟨o, bs, cs, es, sl, _⟩ := rel.env.at ew
      cases sl with
      | @fn n f1 G1 g1 g2 g3 =>
        rw [hfa] at g1
        cases g1
        obtain ⟨le1, hC⟩ := hfc G1 g2
        have le : Wle Gm G := le1.trans g3
        refine wpAny_Call_Name_kw (thn ((pe_var (pos := p1) (i := i) hN hv hd hcd).run pinsZ sZ σZ HZ (fun v H1 => v = .ref f ∧ H1 = HZ) IZ ⟨.ref f, es, rfl, rfl⟩) fun u s1 ⟨v, H1, I1, r1, q1⟩ => ?_)
        obtain ⟨ev, eH⟩ := q1
        subst ev
        rw [eH] at I1
        obtain rfl : u = Value.ref f := r1
        have lv := hlive _ _ _ _ _ _ _ _ _ I1 rel le
        refine PySem.W.callWith_F0 ⟨_, _, _, _, lv.1⟩ ?_
        have h3 : FinR ⟨Rm.K, Rm.mg, Rm.T, noL Rm.lm.fw⟩ HZ G Wz σZ (lamF (capE caps wm.env) [] m [] w.S) Q := call_fin ⟨sm.K.symm, sm.mg.symm, sm.T.symm, sm.fw.symm⟩ rel hp
        unfold lamF at h3
        rw [if_pos (show ([] : List D).length = ([] : List Nat).length from rfl)] at h3
        have smz : Sim RZ ⟨Rm.K, Rm.mg, Rm.T, noL Rm.lm.fw⟩ := ⟨sm.K.symm, sm.mg.symm, sm.T.symm, sm.fw.symm⟩
        have rel0 : Rel ⟨Rm.K, Rm.mg, Rm.T, noL Rm.lm.fw⟩ HZ G G ⟨capE caps wm.env, w.S⟩ (capS caps wm.env σ) HZ [] :=
          ⟨cap_env relm ⟨rfl, rfl, rfl, rfl⟩ le, Bas.conv smz ⟨rel.bas.cells, rel.bas.nd, rel.bas.free, rel.bas.sub, rel.bas.tabs, .refl _ _ _⟩, by simpa using rel.bas.nd, by simp, by simp⟩
        have hlen : wm.env.length = X.N.length := by rw [relm.env.len]; exact I.len
        refine act_runG (ps := ps) (k := k) (us := []) (binds := binds) (σL := capS caps wm.env σ) (tb := fun σL H3 Q3 => ∃ H0' G0', liftE ⟨Rm.K, Rm.mg, Rm.T, noL Rm.lm.fw⟩ (fun cls d _ H => WE Wz σZ cls d H) H0' G0' m σL H3 Q3) I L lv.1 lv.2 hbl hbind tk hr (fun A outer s H hr2 => ⟨fun pins s σ H Q I ⟨H0', G0', h⟩ => ((hbody A outer _ _ (WE Wz σZ) hr2).pe H0' G0').run pins s σ H Q I h⟩) I1
          (rel.bas.tabs.2.1 (c', codeP c' (X.env.qual ++ "<lambda>")) (g3.c _ hC)) ?_ ?_ ?_ ⟨HZ, G, G, _, [], rel0, ?_⟩
        · simp [capS]; exact hlen
        · intro j y v e1 e2 e3
          exact (capS_at e3).2
        · intro j y v e1 e2 e3
          exact absurd (List.mem_of_getElem? e1) (hloc y e2)
        · have h4 : FinR ⟨Rm.K, Rm.mg, Rm.T, noL Rm.lm.fw⟩ HZ G Wz σZ (match m ⟨capE caps wm.env, w.S⟩ with
            | .ok rv w' => if rv.plain = true then RF.ok rv w'.S else .bad
            | .ex x w' => .ex x w'.S
            | .bad => .bad) Q := h3
          cases em : m ⟨capE caps wm.env, w.S⟩ with
          | bad => rw [em] at h4; exact h4
          | ex x w' => rw [em] at h4; exact fun cls d G' H' as' rel' xr => h4 cls d G' H' rel'.bas xr
          | ok rv w' =>
            rw [em] at h4
            have h5 : FinR ⟨Rm.K, Rm.mg, Rm.T, noL Rm.lm.fw⟩ HZ G Wz σZ (if rv.plain = true then RF.ok rv w'.S else .bad) Q := h4
            by_cases pl : rv.plain = true
            · rw [if_pos pl] at h5
              exact fun v G' H' as' bs rel' ext sub sl lo fr => h5.2 v G' H' bs rel'.bas sl lo.none
            · rw [if_neg pl] at h5; exact h5.elim
    · exact hp.elim⟩⟩
theorem em_act0 {ps : List Str} {binds : List (Str × Value)} {CXg : CXT} {Eg : XK} {Ng : List Str} {qg : Str} {sg : Scope} {g f c' : Addr} {cdg dV doc pm ctv : Value} {ko : List (Addr × Obj)} {params : Arguments} {body e : Expr} {scope : Scope} {a : Str} {k i : Nat} {pins pn : List (Addr × Obj)} {xe : Value → Shared → Prop} {Wz : WX} {caps : List Nat} {m : ME} {RZ Rm : RC} {r : MA} {p1 p2 : Pos} {s : Shared} {H0m : Hp} {G0m Gm : Wd} {wm : W} {asm : List Addr}
    (I : Inv X pins σ H s) (relm : Rel Rm H0m G0m Gm wm σ H asm) (L : LamP X.env.scope scope ps) (hf : s.heap.get? f = some (lamO X params body scope dV doc pm c' ctv)) (hfn : H f = none) (hfr : f ∉ frs X.stack) (hko : KeptO X s H ko)
    (hbind : LamB X params body scope dV doc pm c' ctv ko [] binds) (hbl : ∀ y ∈ binds, y.1 ∈ ps)
    (hloc : ∀ y, scope.names.lookup y = some .local → y ∉ X.N)
    (sm : Sim Rm RZ) (hfa : RZ.lm.fa 0 = some f) (hfc : ∀ G1, RZ.lm.fc 0 G1 → Wle Gm G1 ∧ (c', codeP c' (X.env.qual ++ "<lambda>")) ∈ G1.C)
    (hr : Room (k + 1) (X.A.deeper (envOfC qg sg s.heap.objs.size g cdg)))
    (hbody : ∀ (A : Around) (outer : List Env) (s : Shared) (H : Hp) (E : XK), Room k (A.deeper (lamEnv X scope s.heap.objs.size f c')) → PEm (lamCx X A outer s H E scope f c') ⟨Rm.K, Rm.mg, Rm.T, noL Rm.lm.fw⟩ (fun cls d _ H => E cls d H) body m)
    (tk : Takes ((cxOf CXg X.prog X.w X.K X.mg X.base Ng qg sg g cdg X.A X.stack s H Eg).tr pn xe) Wz) (hN : Ng[i]? = some a) (hv : Vis sg a)
    (hd : (a == ("__debug__" : Str)) = false := by decide) (hcd : (a == ("__classdict__" : Str)) = false := by decide) :
    PEm ((cxOf CXg X.prog X.w X.K X.mg X.base Ng qg sg g cdg X.A X.stack s H Eg).tr pn xe) RZ Wz (.Call (.Name a p1) [] [] p2) (mAct i (lamF (capE caps wm.env) [] m) mNil) :=
  em_act0G (binds := binds) I relm L (fun pz σ2 H2 s2 _ _ _ _ _ J _ _ => ⟨J.base.keep f _ hf hfn hfr (fun z => nomatch (show f ∈ ([] : List Addr) from z)), fun p hp => J.base.keep p.1 p.2 (hko p hp).1 (hko p hp).2.1 (hko p hp).2.2 (fun z => nomatch (show p.1 ∈ ([] : List Addr) from z))⟩) hbind hbl hloc sm hfa hfc hr hbody tk hN hv hd hcd
end
end DB

set_option Elab.async false
set_option linter.all false
set_option maxRecDepth 100000
set_option maxHeartbeats 4000000
namespace DB
open PySem PySem.Spec PyProof.Rows L2
section
variable {R R' : RC} {H0 H H' H1 H2 : Hp} {G0 G G' G1 G2 : Wd} {w w' w1 : W} {σ σ' : L2.St} {as as' as1 as2 bs : List Addr} {Wx : WX} {X : Cx}
  {o e : Expr} {mo : ME} {es : List Expr} {mr : MA} {apos cpos : Pos} {name : Str}

/-! methods of strings and lists, by values -/
def VM (R : RC) (r : V → List V → Hp → VK → Prop) (g : D → List D → Option RV) : Prop := ∀ {G : Wd} {H : Hp} {x : D} {vx : V} {xs : List D} {vs : List V} {rv : RV} {Q : VK}, Same G.Z H → Live R G H x vx → Lives R G H xs vs → g x xs = some rv → NewP R G H rv Q → r vx vs H Q
structure MtM (X : Cx) (R : RC) (id : String) (g : D → List D → Option RV) : Prop where
  ex : ∃ r, MtR X id r ∧ VM R r g
/-- what has methods of the kind T -/
def isK (T : String) : D → Bool
  | .str _ => T == "str"
  | .lst _ => T == "list"
  | .scr _ => T == "list"
  | _ => false
theorem Live.tyV {T : String} {x : D} {v : V} (l : Live R G H x v) (s : Same G.Z H) (k : isK T x = true) : L2.tyV R.K T v H := by
  cases l with
  | own h _ _ => exact .inl ⟨beq_iff_eq.mp k, _, .inl (.inl h)⟩
  | odic _ _ _ _ => cases k
  | rp r =>
    cases r with
    | str => exact beq_iff_eq.mp k
    | lst h _ => exact .inl ⟨beq_iff_eq.mp k, _, .inl (.inl (s _ _ h))⟩
    | scr h _ => exact .inl ⟨beq_iff_eq.mp k, _, Same.seq s h⟩
    | _ => cases k
def mMth (T : String) (g : D → List D → Option RV) (m : ME) (r : MA) : ME := fun w => (m w).bd fun x w1 => if isK T x = true then (r w1).bd fun ds w2 => ofO (g x ds) w2 else .bad
theorem em_mth {T id : String} {g : D → List D → Option RV} (ag : Ag X R) (pa : PlainAttrs T) (slot : Slot T name id) (hty : typeOf (.builtin id) = pure (.type "method_descriptor")) (c : MtM X R id g) (ho : POm X R Wx o mo) (ha : PLm X R Wx (e :: es) mr)
    (hbase : attributeBase o name X.env (eval o X.env) = eval o X.env := by rfl)
    (hfew : ((backTo cpos (starEach (e :: es) X.env)).all (fun x => !x.1) && (backToKw cpos (keywordEach [] X.env)).all (fun x => x.1.isSome) && decide ((e :: es).length + ([] : List Keyword).length + (if ([] : List Keyword).isEmpty then 0 else 1) < 30)) = true := by rfl)
    (hline : (apos.endLine == cpos.line) = true := by rfl) (hs : starEach (e :: es) X.env = (false, eval e X.env) :: starEach es X.env := by rfl) (hplain : (backTo cpos (starEach es X.env)).any (·.1) = false := by rfl) :
    PEm X R Wx (.Call (.Attribute o name apos) (e :: es) [] cpos) (mMth T g mo mr) := by
  obtain ⟨r, hm, hv⟩ := c.ex
  exact ⟨fun H0 G0 => PE.cons (pe_bm pa slot hty hm (ho.pe H0 G0) (ha.pe H0 G0) hbase hfew hline hs hplain) fun σ H Q ⟨G, w, as, rel, h⟩ => by
    refine lift_bo rel h fun v x G1 H1 as1 w1 rel1 ext lv h1 => ?_
    by_cases k : isK T x = true
    · rw [if_pos k] at h1
      refine ⟨by rw [ag.K]; exact lv.tyV rel1.bas.sub k, ?_⟩
      refine lift_bb2 rel1 h1 fun vs ds G2 H2 as2 w2 rel2 ext2 lvs h2 => ?_
      obtain ⟨rv, eg, h3⟩ := h2.ofO
      exact hv rel2.bas.sub (lv.ext ext2) lvs eg (h3.new rel2)
    · rw [if_neg k] at h1; exact h1.elim⟩
/-! str.split -/
theorem strs_rp : ∀ ys : List Str, Rps R G (ys.map D.str) (ys.map V.str)
  | [] => .nil
  | _ :: ys => .cons .str (strs_rp ys)
def gSplit (x : D) (xs : List D) : Option RV := match x, xs with
  | .str a, [.str b] => if (b.length == 0) = false ∧ a.length + 2 ≤ sizeLine then some (.own ((Txt.split a b).map D.str)) else none
  | _, _ => none
theorem mm_split : MtM X R "str.split" gSplit := by
  refine ⟨_, mt_split, fun {G H x vx xs vs rv Q} s lx lxs e h => ?_⟩
  unfold gSplit at e
  split at e
  · cases lx.str
    cases lxs with
    | cons l1 l2 =>
      cases l2
      cases l1.str
      split at e
      · rename_i c
        cases e
        exact ⟨_, _, rfl, rfl, c.1, c.2, h.own s (strs_rp _)⟩
      · cases e
  · cases e
/-! list.count, list.index over flat data -/
def flatD : D → Bool
  | .non => true
  | .bl _ => true
  | .int _ => true
  | .str _ => true
  | _ => false
def eqF : D → D → Bool
  | .non, .non => true
  | .bl a, .bl b => a == b
  | .bl a, .int b => (if a then 1 else 0) == b
  | .int a, .bl b => a == (if b then 1 else 0)
  | .int a, .int b => a == b
  | .str a, .str b => a == b
  | _, _ => false
theorem flat_rp {x : D} {v : V} (r : Rp R G x v) (f : flatD x = true) : flatV v = true ∧ ∀ {y : D} {u : V}, Rp R G y u → flatD y = true → eqV u v = eqF y x := by
  cases r <;> first | (cases f; done) | (refine ⟨rfl, fun {y u} s g => ?_⟩; cases s <;> first | (cases g; done) | rfl)
theorem flats_rp {x : D} {v : V} (r : Rp R G x v) (f : flatD x = true) : ∀ {ys : List D} {us : List V}, Rps R G ys us → ys.all flatD = true → us.all flatV = true ∧ (us.countP fun z => eqV z v) = (ys.countP fun z => eqF z x)
  | _, _, .nil, _ => ⟨rfl, rfl⟩
  | d :: ds, _, .cons s t, h => by
    rw [List.all_cons] at h
    obtain ⟨h1, h2⟩ := Bool.and_eq_true_iff.mp h
    obtain ⟨g1, g2⟩ := flats_rp r f t h2
    refine ⟨by rw [List.all_cons, g1, (flat_rp s h1).1] <;> rfl, ?_⟩
    rw [List.countP_cons, List.countP_cons, g2, (flat_rp r f).2 s h1]
theorem mt_countF : MtR X "list.count" (fun x xs H Q => ∃ (a : Addr) (ys : List V) (y : V), x = V.ref a ∧ xs = [y] ∧ SqL X.K H a ys ∧ flatV y = true ∧ ys.all flatV = true ∧ Q (.int ((ys.countP fun z => eqV z y : Nat))) H) := by
  intro pins s σ H x xs v us Q I rx rxs h
  obtain ⟨a, ys, y, rfl, rfl, hs, fy, fys, q⟩ := h
  cases rx
  cases rxs with
  | cons ry rt =>
    rename_i uy ut
    cases rt
    obtain ⟨its, rv, ⟨⟨cls, dd, data, sl⟩, n, ho, hc, hdn, hd⟩, hlen⟩ := I.list hs
    simp only at hc hd
    subst hc hd
    refine call_meets PySem.F.slot_list_count ⟨_, ho, rfl⟩ PySem.F.entry_list_count (PySem.F.args_list_count_2 _ _)
      (SeqAt.list_countAt a its.toArray n dd sl uy (eqU y)) ⟨ho, fun u' hu' => mem_eqAt ry fy rv fys u' (by simpa using hu'), ?_⟩
    have cnt : ∀ {vs : List V} {us : List Value}, Vals vs us → vs.all flatV = true → us.countP (eqU y) = vs.countP fun z => eqV z y := fun {vs us} r => by
      induction r with
      | nil => intro _; rfl
      | cons r1 r2 ih =>
        intro f
        rw [List.all_cons] at f
        obtain ⟨f1, f2⟩ := Bool.and_eq_true_iff.mp f
        rw [List.countP_cons, List.countP_cons, ih f2, eqU_of r1 f1]
    refine ⟨.int ((ys.countP fun z => eqV z y : Nat)), H, I.tok _, ⟨s.toks, ?_⟩, q⟩
    show Value.int ((its.toArray.toList.countP (eqU y) : Nat) : Int) s.toks = Value.int ((ys.countP fun z => eqV z y : Nat) : Int) s.toks
    rw [show its.toArray.toList = its from rfl, cnt rv fys]
def gCount (x : D) (xs : List D) : Option RV := match x, xs with
  | .lst ds, [y] => if flatD y = true ∧ ds.all flatD = true then iO (ds.countP fun z => eqF z y) else none
  | _, _ => none
theorem mm_count (ag : Ag X R) : MtM X R "list.count" gCount := by
  refine ⟨_, mt_countF, fun {G H x vx xs vs rv Q} s lx lxs e h => ?_⟩
  unfold gCount at e
  split at e
  · obtain ⟨p, zs, rfl, hp, rs⟩ := lx.lst s
    cases lxs with
    | cons l1 l2 =>
      cases l2
      split at e
      · rename_i c
        cases e
        obtain ⟨c1, c2⟩ := c
        cases l1 with
        | rp r1 =>
          obtain ⟨g1, g2⟩ := flats_rp r1 c1 rs c2
          exact ⟨p, zs, _, rfl, rfl, .inl (.inl hp), (flat_rp r1 c1).1, g1, by rw [g2]; exact h.sc s .int⟩
        | own _ _ _ => cases c1
        | odic _ _ _ _ => cases c1
      · cases e
  · cases e
def gIndex (x : D) (xs : List D) : Option RV := match x, xs with
  | .lst ds, [y] => if flatD y = true ∧ ds.all flatD = true then (match ds.findIdx? (fun z => eqF z y) with
    | some j => iO j
    | none => none) else none
  | _, _ => none
theorem mm_index (ag : Ag X R) : MtM X R "list.index" gIndex := by
  refine ⟨_, mt_index, fun {G H x vx xs vs rv Q} s lx lxs e h => ?_⟩
  unfold gIndex at e
  split at e
  · rename_i ds y
    obtain ⟨p, zs, rfl, hp, rs⟩ := lx.lst s
    cases lxs with
    | cons l1 l2 =>
      cases l2
      split at e
      · rename_i c
        obtain ⟨c1, c2⟩ := c
        cases l1 with
        | rp r1 =>
          obtain ⟨g1, g2⟩ := flats_rp r1 c1 rs c2
          cases ef : ds.findIdx? (fun z => eqF z y) with
          | none => rw [ef] at e; cases e
          | some j =>
            rw [ef] at e
            cases e
            obtain ⟨hj, h1, h2⟩ := List.findIdx?_eq_some_iff_getElem.mp ef
            have fl : ∀ (m : Nat) (d : D), ds[m]? = some d → flatD d = true := fun m d hm => List.all_eq_true.mp c2 d (List.mem_of_getElem? hm)
            obtain ⟨z, ez, rz⟩ := rs.get (List.getElem?_eq_getElem hj)
            refine ⟨p, zs, _, j, z, rfl, rfl, .inl (.inl hp), (flat_rp r1 c1).1, g1, ez, ?_, fun m z' hm e' => ?_, h.sc s .int⟩
            · rw [(flat_rp r1 c1).2 rz (fl j _ (List.getElem?_eq_getElem hj))]; exact h1
            · obtain ⟨d, ed, rd⟩ := rs.getV e'
              rw [(flat_rp r1 c1).2 rd (fl m d ed)]
              have hml : m < ds.length := by omega
              have h3 := h2 m hm
              have ed2 : ds[m] = d := by
                have := List.getElem?_eq_getElem hml
                rw [ed] at this
                exact (Option.some.inj this).symm
              rw [ed2] at h3
              simpa using h3
        | own _ _ _ => cases c1
        | odic _ _ _ _ => cases c1
      · cases e
  · cases e
/-! isinstance(e, Own) in a suite -/
theorem em_isxC {a : Addr} {cls : Value} {d : Option Addr} {oe : Obj} {pn : List (Addr × Obj)} {pos : Pos} (i : Nat) {n t : Str} {p p1 p2 : Pos} (XA : XAll X.K X.mg) (mg : X.mg = R.mg) (hz : Zc cls d oe) (hv : ∃ vs, oe.data = .fields vs) (hg : Gl X "isinstance") (hm : X.mg "isinstance" = none)
    (hg2 : Gl X t) (ht : t ∈ ("DialError" : Str) :: xCls) (hN : X.N[i]? = some n) (vis : Vis X.env.scope n) (hd2 : (t == ("__debug__" : Str)) = false := by decide)
    (hd : (n == ("__debug__" : Str)) = false := by decide) (hcd : (n == ("__classdict__" : Str)) = false := by decide)
    (h1 : starEach [.Name n p1, .Name t p2] X.env = (false, eval (.Name n p1) X.env) :: starEach [.Name t p2] X.env := by rfl) (hpl : (backTo pos (starEach [.Name t p2] X.env)).any (·.1) = false := by rfl) :
    PEm (X.suite a ((a, oe) :: pn)) (R.cat a cls d) Wx (.Call (.Name "isinstance" p) [.Name n p1, .Name t p2] [] pos) (mIsx i t) := by
  obtain ⟨A0, C, _, gC, _⟩ := XA.kt "BadBelt" (by decide) t ht
  exact ⟨fun H0 G0 => PE.cons (pe_callB (X := X.suite a ((a, oe) :: pn)) (call_isX hz hv) hg hm (by decide +kernel) (pa_cons (pe_var hN vis hd hcd) (pa_cons (pe_glob (v := .ref C) hg2 gC rfl hd2) pa_nil) h1) (by decide) (by decide) h1 hpl) fun σ H Q h =>
    isx_post XA mg (fun u q => q) (fun x hx => by
      obtain ⟨A, C', gA, gC', k⟩ := XA.kt x hx t ht
      rw [gC] at gC'
      cases gC'
      exact ⟨A, gA, k⟩) h⟩
end
end DB

set_option Elab.async false
set_option linter.all false
set_option maxRecDepth 100000
set_option maxHeartbeats 4000000
namespace DB
open PySem PySem.Spec PyProof.Rows L2 LamX
/-! arguments ahead of one that is walked by hand -/
structure PAt (X : Cx) (es : List Expr) (t : TA) : Prop where
  run : ∀ (pos : Pos) (pins : List (Addr × Obj)) (s : Shared) (σ : L2.St) (H : Hp) (Q : List V → Hp → Prop) (tail : List (Bool × Sem Value)) (F : List Value → Shared → Prop), Inv X pins σ H s → t σ H Q →
    (∀ vs us H1 s1, Inv X pins σ H1 s1 → Vals vs us → Q vs H1 → wpAny (model X.prog X.w) X.A (spliced tail) (fun ws s2 => F (us ++ ws) s2) X.xe s1) → wpAny (model X.prog X.w) X.A (spliced (backTo pos (starEach es X.env) ++ tail)) F X.xe s
section
variable {X : Cx} {R : RC} {Wx : WX} {a : Expr} {es : List Expr} {m : ME} {r : MA} {H0 H H1 : Hp} {G0 G G1 : Wd} {w w1 : W} {σ : L2.St} {as as1 : List Addr}
theorem pt_nil : PAt X [] tNil := ⟨fun pos pins s σ H Q tail F I h k => k [] [] H s I .nil h⟩
theorem pt_cons {te : TE} {t : TA} (ha : PE X a te) (hr : PAt X es t) (hs : starEach (a :: es) X.env = (false, eval a X.env) :: starEach es X.env := by rfl) : PAt X (a :: es) (tCons te t) := by
  refine ⟨fun pos pins s σ H Q tail F I h k => ?_⟩
  rw [hs]
  show wpAny _ _ (spliced ((false, eval a X.env) :: (backTo pos (starEach es X.env) ++ tail))) _ _ s
  refine Calls.spliced_cons (thn (ha.run pins s σ H _ I h) fun u s1 ⟨x, H1, I1, r1, q1⟩ => ?_)
  exact hr.run pos pins s1 σ H1 _ tail (fun ws s2 => F (u :: ws) s2) I1 q1 fun vs us H2 s2 I2 r2 q2 => k (x :: vs) (u :: us) H2 s2 I2 (.cons r1 r2) q2
theorem PAt.cons {es : List Expr} {t t' : TA} (h : PAt X es t) (c : ∀ σ H Q, t' σ H Q → t σ H Q) : PAt X es t' := ⟨fun pos pins s σ H Q tail F I q k => h.run pos pins s σ H Q tail F I (c σ H Q q) k⟩
structure PAtm (X : Cx) (R : RC) (Wx : WX) (es : List Expr) (m : MA) : Prop where
  pe : ∀ H0 G0, PAt X es (liftA R Wx H0 G0 m)
theorem atm_nil : PAtm X R Wx [] mNil := ⟨fun H0 G0 => PAt.cons pt_nil fun σ H Q ⟨G, w, as, rel, h⟩ => h [] G H as rel (.refl _ _ _) (fun _ h => h) .nil⟩
theorem atm_cons (ha : PEm X R Wx a m) (hr : PAtm X R Wx es r) (hs : starEach (a :: es) X.env = (false, eval a X.env) :: starEach es X.env := by rfl) : PAtm X R Wx (a :: es) (mCons m r) :=
  ⟨fun H0 G0 => PAt.cons (pt_cons (ha.pe H0 G0) (hr.pe H0 G0) hs) fun σ H Q ⟨G, w, as, rel, h⟩ => by
    have hp : PostA R H0 G0 Wx σ G H as ((m w).bl fun x w1 => (r w1).cons x) Q := h
    refine lift_bdG (P := fun _ => True) rel (fun x w1 e => ?_) (fun e => ?_) (fun rv w1 e ef => ?_) (fun rv w1 e v x G1 H1 as1 ef rel1 ext sub rp => ?_)
    · rw [e] at hp; exact hp
    · rw [e] at hp; exact hp
    · rw [e] at hp
      have q : (Res.ok rv w1).bl (fun x w1 => (r w1).cons x) = .bad := by unfold Res.bl; simp only [ef]
      rw [q] at hp; exact hp
    · rw [e] at hp
      have q : (Res.ok rv w1).bl (fun x w1 => (r w1).cons x) = (r w1).cons x := by unfold Res.bl; simp only [ef]
      rw [q] at hp
      have h2 := PostA.shift hp ext sub
      refine ⟨G1, w1, as1, rel1, ?_⟩
      cases er : r w1 with
      | bad => rw [er] at h2; exact h2
      | ex x w2 => rw [er] at h2; exact h2
      | ok ds w2 =>
        rw [er] at h2
        exact fun vs G' H' as' rel' ext' sub' rs => h2 (v :: vs) G' H' as' rel' ext' sub' (.cons (rp.mono ext'.le) rs)⟩
end
end DB

set_option Elab.async false
set_option linter.all false
set_option maxRecDepth 100000
set_option maxHeartbeats 4000000
namespace DB
open PySem PySem.Spec PyProof.Rows L2 LamX
/-! a def whose last parameter is a function -/
def ActAt1 (Z : Cx) (R : RC) (a : Str) (i : Nat) (act : MF) : Prop := ∀ (pn : List (Addr × Obj)) (xe : Value → Shared → Prop) (Wz : WX), Takes (Z.tr pn xe) Wz → ∀ (e : Expr) (r : MA) (p1 p2 : Pos), PAm (Z.tr pn xe) R Wz [e] r →
  starEach [e] Z.env = (false, eval e Z.env) :: starEach [] Z.env → PEm (Z.tr pn xe) R Wz (.Call (.Name a p1) [e] [] p2) (mAct i act r)
def ActAt0 (Z : Cx) (R : RC) (a : Str) (i : Nat) (act : MF) : Prop := ∀ (pn : List (Addr × Obj)) (xe : Value → Shared → Prop) (Wz : WX), Takes (Z.tr pn xe) Wz → ∀ (p1 p2 : Pos), PEm (Z.tr pn xe) R Wz (.Call (.Name a p1) [] [] p2) (mAct i act mNil)
/-- the def's mirror, the function being act: k data, then the function -/
def bodyG (n k : Nat) (m : MS) : MF := fun ds S => if ds.length = k then match m ⟨ds.map .d ++ .fn 0 :: List.replicate (n - (k + 1)) .un, S⟩ with
  | .nx w => .ok (.d .non) w.S
  | .rt rv S' => if rv.plain = true then .ok rv S' else .bad
  | .ex x w => .ex x w.S
  | _ => .bad else .bad
structure HasA (P : Program) (w : World) (K : PySem.W.Frag) (mg : Str → Option Value) (base : Heap) (T : List (Addr × Str)) (x : Str) (k : Nat) (N ps : List Str) (a : Str) (At : Cx → RC → Str → Nat → MF → Prop) (G : MF → MS) : Prop where
  ex : ∃ (g : Addr) (st : Stmt) (od an : Option Addr) (osl : Array (Option Value)) (oc kV doc pm cdv ct : Value), mg x = some (.ref g) ∧ PySem.W.keepIn K (.ref g) = true ∧
    K.lookup g = some ⟨oc, od, .func (PySem.W.fnOf x x (defArgs st) (defBody st) (defScope st) .none kV doc pm an cdv ct), osl⟩ ∧ PySem.W.codeIn K cdv x = true ∧ L2.Binds K (PySem.W.fnOf x x (defArgs st) (defBody st) (defScope st) .none kV doc pm an cdv ct) (ps ++ [a]) [] ∧
    FnScope N (ps ++ [a]) (defScope st) ∧ N[ps.length]? = some a ∧ Vis (defScope st) a ∧
    ∀ (A : Around) (outer : List Env) (s : Shared) (H : Hp) (E : XK) (lm : Lm) (act : MF), Room k (A.deeper (envOfC x (defScope st) s.heap.objs.size g cdv)) →
      At (cxOf (L2.CX P w) P w K mg base N x (defScope st) g cdv A outer s H E) ⟨K, mg, T, lm⟩ a ps.length act →
      PBm (cxOf (L2.CX P w) P w K mg base N x (defScope st) g cdv A outer s H E) ⟨K, mg, T, lm⟩ (fun cls d _ H => E cls d H) (defBody st) (G act)
end DB

set_option Elab.async false
set_option linter.all false
set_option maxRecDepth 100000
set_option maxHeartbeats 4000000
namespace DB
open PySem PySem.Spec PyProof.Rows L2 LamX
/-! making a lambda, with defaults or without -/
section
variable {X : Cx} {pins : List (Addr × Obj)} {σ : L2.St} {H : Hp} {s : Shared}
/-- what is known once the lambda is made -/
def Made (X : Cx) (pins : List (Addr × Obj)) (σ : L2.St) (T : List (Addr × Str)) (H : Hp) (params : Arguments) (body : Expr) (scope : Scope) (dV : Value) (s : Shared) (Q : Value → Shared → Prop) : Prop :=
  ∀ (f c' : Addr) (doc pm ctv : Value) (H1 : Hp) (s' : Shared), Inv X pins σ H1 s' → ExtN H H1 → Tabs T H1 → s'.heap.get? f = some (lamO X params body scope dV doc pm c' ctv) → H1 f = none → f ∉ frs X.stack → s.heap.objs.size ≤ f → H1 c' = some (CodeO c' (X.env.qual ++ "<lambda>")) →
    (∀ b, H1 b = none → H b = none) → (∀ b o, s.heap.get? b = some o → H b = none → s'.heap.get? b = some o ∧ H1 b = none) → Q (.ref f) s'
theorem lam_tail {T : List (Addr × Str)} {c P : Addr} {params : Arguments} {body : Expr} {scope : Scope} {pos : Pos} {fl : Nat} {dV : Value} {E : Value → Shared → Prop} {Q : Value → Shared → Prop} (I : Inv X pins σ H s) (TB : TabB X.base X.mg c P) (hcode : X.env.code = .ref c)
    (hm : (P, X.env.qual ++ "<lambda>") ∈ T) (hu : ∀ p ∈ T, p.1 = P → p.2 = X.env.qual ++ "<lambda>") (hT : Tabs T H) (hfree : ∀ y ∈ scope.names, y.2 = .free → ∃ c, X.env.cells.lookup y.1 = some c)
    (h : Made X pins σ T H params body scope dV s Q) :
    wpAny (model X.prog X.w) X.A (makeTail "<lambda>" (X.env.qual ++ "<lambda>") params (.expr body) scope X.env dV .none none pos fl) Q E s := by
  obtain ⟨ps, hP, ht, ha⟩ := hT _ hm
  have bP : s.heap.BuiltinsAt X.mg P := TB.bm.keeps I.bk
  have hP' : s.heap.get? P = some { cls := .none, data := .fields ps } := I.hok P _ hP
  have nofr : ∀ f, s.heap.objs.size ≤ f → f ∉ frs X.stack := fun f hf z => by
    rcases List.mem_cons.mp (I.stkSub _ z) with e | e
    · have h1 := I.lt
      rw [← e] at h1
      exact Nat.lt_irrefl _ (Nat.lt_of_lt_of_le h1 hf)
    · exact I.nofs hf e
  cases hc : codeAmong pos ps.toList with
  | none =>
    refine PySem.W.kdv_makeTail (mg := X.mg) (c := c) (P := P) (ps := ps) (closure_ok hfree) I.ok.glob (I.mod.glob.keeps I.bk) hcode (TB.code.keeps I.bk) hP' ht hc TB.gP bP fun c' ctv doc h' tk hx hge hlt hrec htb => ?_
    obtain ⟨c2, oc, vs, t, e2, hoc, hd, hv⟩ := hrec
    cases e2
    have hsz : s.heap.objs.size ≤ h'.objs.size := Nat.le_trans hge (Nat.le_of_lt hlt)
    have nC : H c' = none := I.hok.fresh hge
    have I1 := inv_table (t' := tk) (more := #[rawInt pos.line, rawInt pos.col, .ref c']) (h' := h'.push (lamO X params body scope dV doc ((X.mg "__name__").getD .none) c' ctv)) I hP
      (fun b o hb e => Heap.get?_push_of_some _ (hx b o hb e)) (Heap.get?_push_of_some _ htb) hge ⟨oc, vs, t, Heap.get?_push_of_some _ hoc, hd, hv⟩
    have hE : ExtN H (upd (upd H P (.tbl (ps ++ #[rawInt pos.line, rawInt pos.col, .ref c']))) c' (CodeO c' (X.env.qual ++ "<lambda>"))) := fun b o e n => by
      rw [upd_ne (ne_of_none e nC), upd_ne (fun z => n ps (Option.some.inj (e.symm.trans (by rw [z]; exact hP))))]
      exact e
    have eL : (ps ++ #[rawInt pos.line, rawInt pos.col, .ref c']).toList = ps.toList ++ [rawInt pos.line, rawInt pos.col, .ref c'] := by simp
    refine h h'.objs.size c' doc ((X.mg "__name__").getD .none) ctv _ _ I1 hE (fun p hp => ?_) (Heap.get?_push_size _ rfl) ?_ (nofr _ hsz) hsz upd_same (fun b e => ?_) (fun b o e n => ?_)
    · by_cases hb : p.1 = P
      · rw [hu p hp hb, hb]
        refine ⟨_, by rw [upd_ne (ne_of_none hP nC), upd_same], by rw [eL]; exact PySem.TriplesOk_snoc _ _ _ _ ht, fun p' cv hcv => ?_⟩
        rw [eL] at hcv
        rcases among_app _ ht hcv with z | z
        · obtain ⟨c0, e1, e2⟩ := ha p' cv z
          exact ⟨c0, e1, hE _ _ e2 codeO_ne⟩
        · exact ⟨c', z, upd_same⟩
      · obtain ⟨ps', a1, a2, a3⟩ := hT p hp
        refine ⟨ps', by rw [upd_ne (ne_of_none a1 nC), upd_ne hb]; exact a1, a2, fun p' cv hcv => ?_⟩
        obtain ⟨c0, e1, e2⟩ := a3 p' cv hcv
        exact ⟨c0, e1, hE _ _ e2 codeO_ne⟩
    · have n1 : h'.objs.size ≠ c' := Nat.ne_of_gt hlt
      have n2 : h'.objs.size ≠ P := Nat.ne_of_gt (Nat.lt_of_lt_of_le (Heap.lt_size hP') hsz)
      rw [upd_ne n1, upd_ne n2]
      exact I.hok.fresh hsz
    · by_cases b1 : b = c'
      · rw [b1]; exact nC
      · rw [upd_ne b1] at e
        by_cases b2 : b = P
        · rw [b2, upd_same] at e; cases e
        · rw [upd_ne b2] at e; exact e
    · have b2 : b ≠ P := fun z => by rw [z, hP] at n; cases n
      have b1 : b ≠ c' := fun z => by
        rw [z] at e
        exact Nat.lt_irrefl _ (Nat.lt_of_lt_of_le (Heap.lt_size e) hge)
      exact ⟨Heap.get?_push_of_some _ (hx b o b2 e), by rw [upd_ne b1, upd_ne b2]; exact n⟩
  | some cv =>
    obtain ⟨c', e, hco⟩ := ha pos cv hc
    subst e
    refine PySem.W.kdv_makeTailHit (mg := X.mg) (c := c) (P := P) (ps := ps) (closure_ok hfree) I.ok.glob (I.mod.glob.keeps I.bk) hcode (TB.code.keeps I.bk) hP' ht hc bP fun ctv doc h' tk hx hsz => ?_
    have I1 : Inv X pins σ H { s with heap := h'.push (lamO X params body scope dV doc ((X.mg "__name__").getD .none) c' ctv), toks := tk } := I.kept fun b o e => Heap.get?_push_of_some _ (hx b o e)
    exact h h'.objs.size c' doc ((X.mg "__name__").getD .none) ctv H _ I1 (ExtN.refl H) hT (Heap.get?_push_size _ rfl) (I.hok.fresh hsz) (nofr _ hsz) hsz hco (fun _ e => e) fun b o e n => ⟨Heap.get?_push_of_some _ (hx b o e), n⟩
/-- a lambda is made; ko: what stays beside it -/
def MadeK (X : Cx) (pins : List (Addr × Obj)) (σ : L2.St) (T : List (Addr × Str)) (H : Hp) (params : Arguments) (body : Expr) (scope : Scope) (us : List Value → List (Str × Value) → Prop) (s : Shared) (Q : Value → Shared → Prop) : Prop :=
  ∀ (f c' : Addr) (dV doc pm ctv : Value) (ko : List (Addr × Obj)) (H1 : Hp) (s' : Shared), Inv X pins σ H1 s' → ExtN H H1 → Tabs T H1 → s'.heap.get? f = some (lamO X params body scope dV doc pm c' ctv) → H1 f = none → f ∉ frs X.stack → s.heap.objs.size ≤ f → H1 c' = some (CodeO c' (X.env.qual ++ "<lambda>")) →
    (∀ b, H1 b = none → H b = none) → KeptO X s' H1 ko → (∀ p ∈ ko, s.heap.objs.size ≤ p.1) → (∀ vs bs, us vs bs → ∃ bs, us vs bs ∧ LamB X params body scope dV doc pm c' ctv ko vs bs) → Q (.ref f) s'
structure LMk (X : Cx) (T : List (Addr × Str)) (e : Expr) (params : Arguments) (body : Expr) (scope : Scope) (us : List Value → List (Str × Value) → Prop) : Prop where
  run : ∀ (pins : List (Addr × Obj)) (s : Shared) (σ : L2.St) (H : Hp) (E Q), Inv X pins σ H s → Tabs T H → MadeK X pins σ T H params body scope us s Q → wpAny (model X.prog X.w) X.A (eval e X.env) Q E s
/-- where a def's lambdas get their code -/
structure MkX (X : Cx) (T : List (Addr × Str)) : Prop where
  ex : ∃ c P, X.env.code = .ref c ∧ TabB X.base X.mg c P ∧ (P, X.env.qual ++ "<lambda>") ∈ T ∧ ∀ p ∈ T, p.1 = P → p.2 = X.env.qual ++ "<lambda>"
theorem lmk0 {T : List (Addr × Str)} {params : Arguments} {body : Expr} {scope : Scope} {ps : List Str} {pos : Pos} {us : List Value → List (Str × Value) → Prop} (M : MkX X T) (L : LamP X.env.scope scope ps) (hdef : defaultsOf params X.env = ([], []))
    (hb : ∀ (q : Str) (cl : List (Str × Addr)) (doc pm cv ctv : Value) (vs : List Value) (bs : List (Str × Value)), us vs bs → bindArgs (PySem.W.kdv_fn "<lambda>" q params (.expr body) scope cl .none doc pm cv ctv) ⟨vs, []⟩ = pure bs) :
    LMk X T (.Lambda params body scope pos) params body scope us := by
  refine ⟨fun pins s σ H E Q I hT h => ?_⟩
  obtain ⟨c, P, hcode, TB, hm, hu⟩ := M.ex
  refine PySem.W.kla_eval hdef ?_
  rw [makeFunction_eq]
  simp only [List.zip_nil_right, List.filterMap_nil, List.isEmpty_nil, if_true, pure_bind]
  exact lam_tail I TB hcode hm hu hT (L.has I.ok) fun f c' doc pm ctv H1 s' I1 e1 t1 g1 g2 g3 gs g4 g5 _ => h f c' .none doc pm ctv [] H1 s' I1 e1 t1 g1 g2 g3 gs g4 g5 (fun p hp => by simp at hp) (fun p hp => by simp at hp) fun vs bs hv => ⟨bs, hv, fun sZ _ => .of_eq (hb _ _ _ _ _ _ vs bs hv)⟩
theorem lmkD {T : List (Addr × Str)} {params : Arguments} {body : Expr} {scope : Scope} {ps : List Str} {pn : Str} {pos p2 : Pos} {n : Int} {j : Nat} (M : MkX X T) (L : LamP X.env.scope scope ps) (hdef : params.defaults = [.Constant (.int n) j p2]) (hk : params.kw_defaults = [])
    (hb : ∀ (q : Str) (cl : List (Str × Addr)) (t : Addr) (tk : Tok) (doc pm cv ctv : Value) (sZ : Shared), sZ.heap.get? t = some (PySem.W.kdv_tup [.int n tk]) → BindsTo sZ (PySem.W.kdv_fn "<lambda>" q params (.expr body) scope cl (.ref t) doc pm cv ctv) ⟨[], []⟩ [(pn, .int n tk)]) :
    LMk X T (.Lambda params body scope pos) params body scope (fun vs bs => vs = [] ∧ ∃ tk, bs = [(pn, .int n tk)]) := by
  refine ⟨fun pins s σ H E Q I hT h => ?_⟩
  obtain ⟨c, P, hcode, TB, hm, hu⟩ := M.ex
  refine PySem.W.kdv_lam (by rw [hdef]; rfl) hk ?_
  rw [hdef]
  show wpAny _ _ (do let v ← eval (.Constant (.int n) j p2) X.env; return v :: (← holding [v] (evalAll []))) _ _ s
  refine wpAny_bind (wpAny_Constant_int ?_)
  refine wpAny_bind (wpAny_holding (wpAny_pure (wpAny_pure ?_)))
  rw [makeFunction_eq]
  simp only [List.zip_nil_right, List.filterMap_nil, List.isEmpty_nil, List.isEmpty_cons, Bool.false_eq_true, if_false, if_true, pure_bind]
  refine wpAny_bind (wpAny_newTextTuple ?_)
  have I1 : Inv X pins σ H { s with heap := s.heap.push (PySem.W.kdv_tup [.int n s.toks]), toks := s.toks + 1 } := I.kept fun b o e => Heap.get?_push_of_some _ e
  have nofr : ∀ f, s.heap.objs.size ≤ f → f ∉ frs X.stack := fun f hf z => by
    rcases List.mem_cons.mp (I.stkSub _ z) with e | e
    · have h1 := I.lt
      rw [← e] at h1
      exact Nat.lt_irrefl _ (Nat.lt_of_lt_of_le h1 hf)
    · exact I.nofs hf e
  refine lam_tail I1 TB hcode hm hu hT (L.has I.ok) fun f c' doc pm ctv H1 s' I1 e1 t1 g1 g2 g3 gs g4 g5 kp => ?_
  obtain ⟨k1, k2⟩ := kp s.heap.objs.size _ (Heap.get?_push_size _ rfl) (I.hok.fresh (Nat.le_refl _))
  refine h f c' (.ref s.heap.objs.size) doc pm ctv [(s.heap.objs.size, PySem.W.kdv_tup [.int n s.toks])] H1 s' I1 e1 t1 g1 g2 g3 (Nat.le_trans (by rw [Heap.size_push]; exact Nat.le_succ _) gs) g4 g5 (fun p hp => ?_) (fun p hp => by rw [List.mem_singleton.mp hp]; exact Nat.le_refl _) fun vs bs ⟨hv, _⟩ => ⟨[(pn, .int n s.toks)], ⟨hv, _, rfl⟩, fun sZ hz => ?_⟩
  · rw [List.mem_singleton.mp hp]
    exact ⟨k1, k2, nofr _ (Nat.le_refl _)⟩
  · subst hv
    exact hb _ _ _ _ _ _ _ _ sZ (hz _ (List.mem_singleton.mpr rfl))
end

/-! x(.., lambda) -/
def mCallL (GG : MF → MF) (caps ip : List Nat) (m : ME) (r : MA) : ME := fun w => (r w).bd fun ds w1 => match GG (lamF (capE caps w1.env) ip m) ds w1.S with
  | .ok rv S' => if rv.plain = true then .ok rv { w1 with S := S' } else .bad
  | .ex x S' => .ex x { w1 with S := S' }
  | .bad => .bad
section
variable {R : RC} {H0 H H' H1 H2 : Hp} {G0 G G' G1 G2 : Wd} {w w' w1 : W} {σ : L2.St} {as as' as1 bs : List Addr} {Wx : WX} {X : Cx}
theorem REnv.dsF {f : Addr} (hf : RSlot R G H (.fn 0) (some (.ref f)) []) : ∀ {ds : List D} {vs : List V}, Rps R G ds vs → ∀ k, REnv R G H (ds.map .d ++ .fn 0 :: List.replicate k .un) (vs.map some ++ some (.ref f) :: List.replicate k none) []
  | _, _, .nil, k => REnv.cons (as := []) (bs := []) hf (REnv.ds (ds := []) (vs := []) .nil k)
  | _, _, .cons r rs, k => REnv.cons (as := []) (bs := []) (.d r) (REnv.dsF hf rs k)
/-- a code object more is known -/
def Wd.code (G : Wd) (p : Addr × (Heap → Prop)) : Wd := ⟨G.Z, G.sas, p :: G.C⟩
theorem code_le {p : Addr × (Heap → Prop)} : Wle G (G.code p) := ⟨.refl _, List.prefix_refl _, fun _ h => List.mem_cons_of_mem _ h⟩
theorem code_ext {p : Addr × (Heap → Prop)} (eN : ExtN H H2) (hd : ∀ b, H2 b = none → H b = none) : Ext as G H (G.code p) H2 :=
  ⟨code_le, fun a o h t _ => eN a o h t, fun _ _ h => .inl h, fun _ h => .inl h, hd⟩
theorem Rel.code {c' : Addr} {q : Heap → Prop} (rel : Rel R H0 G0 G w σ H as) (eN : ExtN H H2) (hT : Tabs R.T H2) (hc : H2 c' = some (.ext q)) (hd : ∀ b, H2 b = none → H b = none) : Rel R H0 G0 (G.code (c', q)) w σ H2 as where
  env := rel.env.mono code_le fun a ha u hu => eN a u hu (rel.env.notbl a ha u hu)
  bas := {
    cells := ⟨rel.bas.cells.1, fun n c a h1 h2 => by
      have r := rel.bas.cells.2 n c a h1 h2
      cases c with
      | lst ds => obtain ⟨xs, q1, q2⟩ := r; exact ⟨xs, eN _ _ q1 (fun _ z => by cases z), q2.mono code_le⟩
      | dic ks vs => obtain ⟨xs, q1, q2, q3⟩ := r; exact ⟨xs, eN _ _ q1 (fun _ z => by cases z), q2, q3.mono code_le⟩
      | ins c ks vs => obtain ⟨C, dx, xs, q0, q1, q2, q3⟩ := r; exact ⟨C, dx, xs, q0, eN _ _ q1 (fun _ z => by cases z), q2, q3.mono code_le⟩⟩
    nd := rel.bas.nd
    free := rel.bas.free
    sub := fun b u hb => eN b u (rel.bas.sub b u hb) fun ps z => rel.bas.tabs.2.2 b ps (by rw [← z]; exact hb)
    tabs := ⟨hT, fun p hp => (List.mem_cons.mp hp).elim (fun e => by rw [e]; exact hc) fun h => eN _ _ (rel.bas.tabs.2.1 p h) (fun _ z => by cases z), rel.bas.tabs.2.2⟩
    ext := rel.bas.ext.trans (fun _ h => .inl h) (code_ext eN hd) }
  nd := rel.nd
  free := rel.free
  fresh := rel.fresh
theorem Vals.snoc {v : V} {u : Value} (h : RelV v u) : ∀ {vs : List V} {us : List Value}, Vals vs us → Vals (vs ++ [v]) (us ++ [u])
  | _, _, .nil => .cons h .nil
  | _, _, .cons a b => .cons a (Vals.snoc h b)
theorem em_callL {N ps : List Str} {a x : Str} {k kl : Nat} {At : Cx → RC → Str → Nat → MF → Prop} {GG : MF → MS} {T : List (Addr × Str)} {params : Arguments} {body lamE e0 : Expr} {scope : Scope} {us : List Value → List (Str × Value) → Prop} {es rest : List Expr} {caps ip : List Nat} {m : ME} {r : MA} {p pos : Pos}
    (D : HasA X.prog X.w X.K X.mg X.base T x k N ps a At GG) (tk : Takes X Wx) (hr1 : Room (k + 1) X.A) (hr2 : Room (kl + 2) X.A) (sm : Sim R ⟨X.K, X.mg, T, noL R.lm.fw⟩) (hg : Gl X x)
    (ha : PAtm X R Wx es r) (hmk : LMk X T lamE params body scope us)
    (hact : ∀ (f c' : Addr) (dV doc pm ctv : Value) (ko : List (Addr × Obj)) (pins : List (Addr × Obj)) (s : Shared) (H : Hp) (σ : L2.St) (g : Addr) (sg : Scope) (cdg : Value) (RZ : RC) (H0m : Hp) (G0m Gm : Wd) (wm : W) (asm : List Addr) (Eg : XK),
      Inv X pins σ H s → Rel R H0m G0m Gm wm σ H asm → s.heap.get? f = some (lamO X params body scope dV doc pm c' ctv) → H f = none → f ∉ frs X.stack → KeptO X s H ko → (∀ vs bs, us vs bs → ∃ bs, us vs bs ∧ LamB X params body scope dV doc pm c' ctv ko vs bs) →
      Sim R RZ → RZ.lm.fa 0 = some f → (∀ G1, RZ.lm.fc 0 G1 → Wle Gm G1 ∧ (c', codeP c' (X.env.qual ++ "<lambda>")) ∈ G1.C) → Room (kl + 1) (X.A.deeper (envOfC x sg s.heap.objs.size g cdg)) → N[ps.length]? = some a → Vis sg a →
      At (cxOf (L2.CX X.prog X.w) X.prog X.w X.K X.mg X.base N x sg g cdg X.A X.stack s H Eg) RZ a ps.length (lamF (capE caps wm.env) ip m))
    (hargs : starEach (e0 :: rest) X.env = starEach es X.env ++ [(false, eval lamE X.env)]) (hdb : (x == ("__debug__" : Str)) = false := by decide)
    (he : starEach (e0 :: rest) X.env = (false, eval e0 X.env) :: starEach rest X.env := by rfl) (hpl : (backTo pos (starEach rest X.env)).any (·.1) = false := by rfl) :
    PEm X R Wx (.Call (.Name x p) (e0 :: rest) [] pos) (mCallL (fun act => bodyG N.length ps.length (GG act)) caps ip m r) :=
  ⟨fun H0 G0 => ⟨fun pins s σ H Q I ⟨G, w, as, rel, h⟩ => by
    obtain ⟨g, st, od, an, osl, oc, kV, doc, pm, cdv, ct, hm, hk, lk, hcd, hb, Sg, hN, hv, hbody⟩ := D.ex
    refine wpAny_Call_Name_kw (ld_glob I hg hm ?_ hdb)
    refine PySem.W.callWith_K (h₀ := X.base) I.ok.mod.kin hk ?_ he hpl
    rw [hargs]
    have eb : backTo pos (starEach es X.env ++ [(false, eval lamE X.env)]) = backTo pos (starEach es X.env) ++ [(false, eval lamE X.env)] := by simp [backTo]
    rw [eb]
    refine (ha.pe H0 G0).run pos pins s σ H (fun vs H1 => ∃ G1 as1 w1 ds, Rel R H0 G0 G1 w1 σ H1 as1 ∧ Rps R G1 ds vs ∧ PostE R H0 G0 Wx σ G1 H1 as1 (match bodyG N.length ps.length (GG (lamF (capE caps w1.env) ip m)) ds w1.S with
      | .ok rv S' => if rv.plain = true then .ok rv { w1 with S := S' } else .bad
      | .ex x S' => .ex x { w1 with S := S' }
      | .bad => .bad) Q) _ _ I (lift_ab rel h fun vs ds G1 H1 as1 w1 rel1 ext rs h1 => ⟨G1, as1, w1, ds, rel1, rs, h1⟩) fun vs us H1 s1 I1 rv ⟨G1, as1, w1, ds, rel1, rs, h1⟩ => ?_
    refine Calls.spliced_cons (hmk.run pins s1 σ H1 _ _ I1 (by have t := rel1.bas.tabs.1; rw [sm.T] at t; exact t) ?_)
    intro f c' dV ldoc lpm lctv ko H2 s2 I2 eN T2 hf hfn hfr _ hco hdom hko _ hB
    refine Calls.spliced_nil ⟨I2.kIn, ?_⟩
    have rel2 := rel1.code (c' := c') (q := codeP c' (X.env.qual ++ "<lambda>")) eN (by rw [sm.T]; exact T2) hco hdom
    have h2 := PostE.shift h1 (code_ext (p := (c', codeP c' (X.env.qual ++ "<lambda>"))) eN hdom) (fun _ h => h)
    have smZ : Sim R ⟨X.K, X.mg, T, ⟨fun n => if n = 0 then some f else none, fun _ G' => Wle (G1.code (c', codeP c' (X.env.qual ++ "<lambda>"))) G', none, R.lm.fw⟩⟩ := ⟨sm.K, sm.mg, sm.T, sm.fw⟩
    have slZ : RSlot ⟨X.K, X.mg, T, ⟨fun n => if n = 0 then some f else none, fun _ G' => Wle (G1.code (c', codeP c' (X.env.qual ++ "<lambda>"))) G', none, R.lm.fw⟩⟩ (G1.code (c', codeP c' (X.env.qual ++ "<lambda>"))) H2 (.fn 0) (some (.ref f)) [] := .fn rfl (Wle.refl _) (Wle.refl _)
    have h3 := call_fin (R' := ⟨X.K, X.mg, T, ⟨fun n => if n = 0 then some f else none, fun _ G' => Wle (G1.code (c', codeP c' (X.env.qual ++ "<lambda>"))) G', none, R.lm.fw⟩⟩) smZ rel2 h2
    have rc : codeAny (model X.prog X.w) X.A (.call (.ref g) ⟨us ++ [.ref f], []⟩) (CR (L2.CX X.prog X.w) X.stack X.prog X.w H2 s2 Q (WE Wx σ)) s2 := by
      unfold bodyG at h3
      by_cases c : ds.length = ps.length
      · rw [if_pos c] at h3
        have hvl : vs.length = ps.length := by rw [← rs.length]; exact c
        have hul : (us ++ [Value.ref f]).length = (ps ++ [a]).length := by
          have e1 := rv.length
          simp only [List.length_append, List.length_cons, List.length_nil]
          omega
        have hvl2 : (vs ++ [V.ref f]).length = (ps ++ [a]).length := by
          simp only [List.length_append, List.length_cons, List.length_nil]
          omega
        refine run_ofS (N := N) (ps := ps ++ [a]) (us := us ++ [.ref f]) (vs := vs ++ [.ref f]) lk hcd Sg hr1 I2.env0 (by have q := hb s2 (us ++ [.ref f]) I2.kIn (by simpa using hul); rw [List.append_nil] at q; exact q) (Vals.snoc (show RelV (.ref f) (.ref f) from rfl) rv) hvl2 fun hr' => ?_
        refine ⟨_, (hbody X.A X.stack s2 H2 (WE Wx σ) ⟨fun n => if n = 0 then some f else none, fun _ G' => Wle (G1.code (c', codeP c' (X.env.qual ++ "<lambda>"))) G', none, R.lm.fw⟩ (lamF (capE caps w1.env) ip m) hr'
          (hact f c' dV ldoc lpm lctv ko pins s2 H2 σ g (defScope st) cdv ⟨X.K, X.mg, T, ⟨fun n => if n = 0 then some f else none, fun _ G' => Wle (G1.code (c', codeP c' (X.env.qual ++ "<lambda>"))) G', none, R.lm.fw⟩⟩ H0 G0 _ w1 as1 (WE Wx σ) I2 rel2 hf hfn hfr hko hB smZ rfl (fun G' hG => ⟨hG, hG.c _ (List.mem_cons_self ..)⟩) (hr2.deeper _) hN hv)).ps H2 (G1.code (c', codeP c' (X.env.qual ++ "<lambda>"))), ?_⟩
        have env : REnv ⟨X.K, X.mg, T, ⟨fun n => if n = 0 then some f else none, fun _ G' => Wle (G1.code (c', codeP c' (X.env.qual ++ "<lambda>"))) G', none, R.lm.fw⟩⟩ (G1.code (c', codeP c' (X.env.qual ++ "<lambda>"))) H2 (ds.map .d ++ .fn 0 :: List.replicate (N.length - (ps.length + 1)) .un) (L2.start N (vs ++ [.ref f])) [] := by
          unfold L2.start
          rw [List.length_append, hvl, List.map_append, List.append_assoc]
          exact REnv.dsF slZ ((rs.mono code_le).conv smZ) _
        refine ⟨G1.code (c', codeP c' (X.env.qual ++ "<lambda>")), ⟨ds.map .d ++ .fn 0 :: List.replicate (N.length - (ps.length + 1)) .un, w1.S⟩, [], ⟨env, Bas.conv (R := R) smZ ⟨rel2.bas.cells, rel2.bas.nd, rel2.bas.free, rel2.bas.sub, rel2.bas.tabs, .refl _ _ _⟩, by simpa using rel2.bas.nd, by simp, by simp⟩, ?_⟩
        cases e : GG (lamF (capE caps w1.env) ip m) ⟨ds.map .d ++ .fn 0 :: List.replicate (N.length - (ps.length + 1)) .un, w1.S⟩ with
        | bad => rw [e] at h3; exact h3
        | bk _ => rw [e] at h3; exact h3.elim
        | ct _ => rw [e] at h3; exact h3.elim
        | nx w' =>
          rw [e] at h3
          exact fun σ' G' H' as' rel _ => h3.2 .non G' H' [] rel.bas (.d .non) (by intro b hb; simp at hb)
        | ex x w' =>
          rw [e] at h3
          exact fun σ' cls d G' H' as' rel x => h3 cls d G' H' rel.bas x
        | rt rv S' =>
          rw [e] at h3
          have h4 : FinR ⟨X.K, X.mg, T, ⟨fun n => if n = 0 then some f else none, fun _ G' => Wle (G1.code (c', codeP c' (X.env.qual ++ "<lambda>"))) G', none, R.lm.fw⟩⟩ H2 (G1.code (c', codeP c' (X.env.qual ++ "<lambda>"))) Wx σ (if rv.plain = true then RF.ok rv S' else RF.bad) Q := h3
          cases pl : rv.plain with
          | false => rw [pl, if_neg Bool.false_ne_true] at h4; exact h4.elim
          | true => rw [pl, if_pos rfl] at h4; exact h4.2
      · rw [if_neg c] at h3; exact h3.elim
    refine wpAny_call (codeAny_mono rc fun r s' hq => ?_)
    cases r with
    | error e => exact passAt tk σ pins H2 s2 e s' I2 hq
    | ok fl =>
      cases fl with
      | ret u => exact I2.after hq
      | next => exact False.elim hq
      | brk => exact False.elim hq
      | cont => exact False.elim hq⟩⟩
end
end DB

set_option Elab.async false
set_option linter.all false
set_option maxRecDepth 100000
set_option maxHeartbeats 4000000
namespace DB
open PySem PySem.Spec PyProof.Rows L2 LamX
theorem loc_one {scope : Scope} {p : Str} (h : (scope.names.all fun y => !decide (y.2 = .local) || decide (y.1 = p)) = true) : ∀ y, scope.names.lookup y = some .local → y = p := fun y e => by
  have q := List.all_eq_true.mp h _ (PySem.mem_of_lookup e)
  simpa using q
theorem loc_no {scope : Scope} {N : List Str} (h : (scope.names.all fun y => !decide (y.2 = .local) || !N.contains y.1) = true) : ∀ y, scope.names.lookup y = some .local → y ∉ N := fun y e => by
  have q := List.all_eq_true.mp h _ (PySem.mem_of_lookup e)
  simpa using q
section
variable {R : RC} {Wx : WX} {X : Cx}
theorem em_callL1 {nN kN : Nat} {N ps : List Str} {a x : Str} {k kl ip : Nat} {GG : MF → MS} {T : List (Addr × Str)} {params : Arguments} {body e0 : Expr} {scope : Scope} {pn : Str} {es rest : List Expr} {m : ME} {r : MA} {p pos lpos : Pos} (caps : List Nat)
    (D : HasA X.prog X.w X.K X.mg X.base T x k N ps a ActAt1 GG) (tk : Takes X Wx) (hr1 : Room (k + 1) X.A) (hr2 : Room (kl + 2) X.A) (sm : Sim R ⟨X.K, X.mg, T, noL R.lm.fw⟩) (hg : Gl X x)
    (ha : PAtm X R Wx es r) (M : MkX X T) (L : LamP X.env.scope scope [pn]) (hdef : defaultsOf params X.env = ([], []))
    (hb : ∀ (q : Str) (cl : List (Str × Addr)) (doc pm cv ctv u : Value), bindArgs (PySem.W.kdv_fn "<lambda>" q params (.expr body) scope cl .none doc pm cv ctv) ⟨[u], []⟩ = pure [(pn, u)])
    (hip : X.N[ip]? = some pn) (ndN : X.N.Nodup) (hloc : (scope.names.all fun y => !decide (y.2 = .local) || decide (y.1 = pn)) = true)
    (hbody : ∀ (f c' : Addr) (A : Around) (outer : List Env) (s : Shared) (H : Hp) (E : XK), Room kl (A.deeper (lamEnv X scope s.heap.objs.size f c')) → PEm (lamCx X A outer s H E scope f c') ⟨R.K, R.mg, R.T, noL R.lm.fw⟩ (fun cls d _ H => E cls d H) body m)
    (hargs : starEach (e0 :: rest) X.env = starEach es X.env ++ [(false, eval (.Lambda params body scope lpos) X.env)]) (hd : (a == ("__debug__" : Str)) = false := by decide) (hcd : (a == ("__classdict__" : Str)) = false := by decide) (hdb : (x == ("__debug__" : Str)) = false := by decide)
    (he : starEach (e0 :: rest) X.env = (false, eval e0 X.env) :: starEach rest X.env := by rfl) (hpl : (backTo pos (starEach rest X.env)).any (·.1) = false := by rfl) (hnN : N.length = nN := by rfl) (hkN : ps.length = kN := by rfl) :
    PEm X R Wx (.Call (.Name x p) (e0 :: rest) [] pos) (mCallL (fun act => bodyG nN kN (GG act)) caps [ip] m r) := by
  subst hnN hkN
  exact em_callL (us := fun vs bs => ∃ u, vs = [u] ∧ bs = [(pn, u)]) D tk hr1 hr2 sm hg ha (lmk0 M L hdef fun q cl doc pm cv ctv vs bs ⟨u, e1, e2⟩ => by subst e1 e2; exact hb q cl doc pm cv ctv u)
    (fun f c' dV doc pm ctv ko pins s H σ g sg cdg RZ H0m G0m Gm wm asm Eg I rel hf hfn hfr hko hB sz hfa hfc hr hN hv pn2 xe Wz tk e r p1 p2 hpa hst =>
      em_act1 (caps := caps) I rel L hf hfn hfr hko (fun u => by obtain ⟨bs, ⟨u2, e1, e2⟩, hl⟩ := hB [u] _ ⟨u, rfl, rfl⟩; cases e1; subst e2; exact hl) hip ndN (loc_one hloc) sz hfa hfc hr (fun A outer s H E hr2 => hbody f c' A outer s H E hr2) tk hN hv hpa hd hcd hst) hargs hdb he hpl
theorem em_callL0 {nN kN : Nat} {N ps lps : List Str} {a x : Str} {k kl : Nat} {GG : MF → MS} {T : List (Addr × Str)} {params : Arguments} {body e0 : Expr} {scope : Scope} {es rest : List Expr} {m : ME} {r : MA} {p pos lpos : Pos} (caps : List Nat)
    (D : HasA X.prog X.w X.K X.mg X.base T x k N ps a ActAt0 GG) (tk : Takes X Wx) (hr1 : Room (k + 1) X.A) (hr2 : Room (kl + 2) X.A) (sm : Sim R ⟨X.K, X.mg, T, noL R.lm.fw⟩) (hg : Gl X x)
    (ha : PAtm X R Wx es r) (M : MkX X T) (L : LamP X.env.scope scope lps) (hdef : defaultsOf params X.env = ([], []))
    (hb : ∀ (q : Str) (cl : List (Str × Addr)) (doc pm cv ctv : Value), bindArgs (PySem.W.kdv_fn "<lambda>" q params (.expr body) scope cl .none doc pm cv ctv) ⟨[], []⟩ = pure [])
    (hloc : ∀ y, scope.names.lookup y = some .local → y ∉ X.N)
    (hbody : ∀ (f c' : Addr) (A : Around) (outer : List Env) (s : Shared) (H : Hp) (E : XK), Room kl (A.deeper (lamEnv X scope s.heap.objs.size f c')) → PEm (lamCx X A outer s H E scope f c') ⟨R.K, R.mg, R.T, noL R.lm.fw⟩ (fun cls d _ H => E cls d H) body m)
    (hargs : starEach (e0 :: rest) X.env = starEach es X.env ++ [(false, eval (.Lambda params body scope lpos) X.env)]) (hd : (a == ("__debug__" : Str)) = false := by decide) (hcd : (a == ("__classdict__" : Str)) = false := by decide) (hdb : (x == ("__debug__" : Str)) = false := by decide)
    (he : starEach (e0 :: rest) X.env = (false, eval e0 X.env) :: starEach rest X.env := by rfl) (hpl : (backTo pos (starEach rest X.env)).any (·.1) = false := by rfl) (hnN : N.length = nN := by rfl) (hkN : ps.length = kN := by rfl) :
    PEm X R Wx (.Call (.Name x p) (e0 :: rest) [] pos) (mCallL (fun act => bodyG nN kN (GG act)) caps [] m r) := by
  subst hnN hkN
  exact em_callL (us := fun vs bs => vs = [] ∧ bs = []) D tk hr1 hr2 sm hg ha (lmk0 M L hdef fun q cl doc pm cv ctv vs bs ⟨e1, e2⟩ => by subst e1 e2; exact hb q cl doc pm cv ctv)
    (fun f c' dV doc pm ctv ko pins s H σ g sg cdg RZ H0m G0m Gm wm asm Eg I rel hf hfn hfr hko hB sz hfa hfc hr hN hv pn2 xe Wz tk p1 p2 =>
      em_act0 (e := .Name a p1) (r := mNil) (caps := caps) (binds := []) I rel L hf hfn hfr hko (by obtain ⟨bs, ⟨e1, e2⟩, hl⟩ := hB [] _ ⟨rfl, rfl⟩; subst e2; exact hl) (by simp) hloc sz hfa hfc hr (fun A outer s H E hr2 => hbody f c' A outer s H E hr2) tk hN hv hd hcd) hargs hdb he hpl
/-- with a default that is never read -/
theorem em_callLD {nN kN : Nat} {N ps : List Str} {a x pn : Str} {k kl j : Nat} {n : Int} {GG : MF → MS} {T : List (Addr × Str)} {params : Arguments} {body e0 : Expr} {scope : Scope} {es rest : List Expr} {m : ME} {r : MA} {p pos lpos p2 : Pos} (caps : List Nat)
    (D : HasA X.prog X.w X.K X.mg X.base T x k N ps a ActAt0 GG) (tk : Takes X Wx) (hr1 : Room (k + 1) X.A) (hr2 : Room (kl + 2) X.A) (sm : Sim R ⟨X.K, X.mg, T, noL R.lm.fw⟩) (hg : Gl X x)
    (ha : PAtm X R Wx es r) (M : MkX X T) (L : LamP X.env.scope scope [pn]) (hdef : params.defaults = [.Constant (.int n) j p2]) (hk : params.kw_defaults = [])
    (hb : ∀ (q : Str) (cl : List (Str × Addr)) (t : Addr) (tk : Tok) (doc pm cv ctv : Value) (sZ : Shared), sZ.heap.get? t = some (PySem.W.kdv_tup [.int n tk]) → BindsTo sZ (PySem.W.kdv_fn "<lambda>" q params (.expr body) scope cl (.ref t) doc pm cv ctv) ⟨[], []⟩ [(pn, .int n tk)])
    (hloc : ∀ y, scope.names.lookup y = some .local → y ∉ X.N)
    (hbody : ∀ (f c' : Addr) (A : Around) (outer : List Env) (s : Shared) (H : Hp) (E : XK), Room kl (A.deeper (lamEnv X scope s.heap.objs.size f c')) → PEm (lamCx X A outer s H E scope f c') ⟨R.K, R.mg, R.T, noL R.lm.fw⟩ (fun cls d _ H => E cls d H) body m)
    (hargs : starEach (e0 :: rest) X.env = starEach es X.env ++ [(false, eval (.Lambda params body scope lpos) X.env)]) (hd : (a == ("__debug__" : Str)) = false := by decide) (hcd : (a == ("__classdict__" : Str)) = false := by decide) (hdb : (x == ("__debug__" : Str)) = false := by decide)
    (he : starEach (e0 :: rest) X.env = (false, eval e0 X.env) :: starEach rest X.env := by rfl) (hpl : (backTo pos (starEach rest X.env)).any (·.1) = false := by rfl) (hnN : N.length = nN := by rfl) (hkN : ps.length = kN := by rfl) :
    PEm X R Wx (.Call (.Name x p) (e0 :: rest) [] pos) (mCallL (fun act => bodyG nN kN (GG act)) caps [] m r) := by
  subst hnN hkN
  exact em_callL (us := fun vs bs => vs = [] ∧ ∃ tk, bs = [(pn, .int n tk)]) D tk hr1 hr2 sm hg ha (lmkD M L hdef hk hb)
    (fun f c' dV doc pm ctv ko pins s H σ g sg cdg RZ H0m G0m Gm wm asm Eg I rel hf hfn hfr hko hB sz hfa hfc hr hN hv pn2 xe Wz tk p1 p2 => by
      obtain ⟨bs, ⟨e1, t, e2⟩, hl⟩ := hB [] [(pn, .int n 0)] ⟨rfl, _, rfl⟩
      subst e2
      exact em_act0 (e := .Name a p1) (r := mNil) (caps := caps) I rel L hf hfn hfr hko hl (by simp) hloc sz hfa hfc hr (fun A outer s H E hr2 => hbody f c' A outer s H E hr2) tk hN hv hd hcd) hargs hdb he hpl
/-- three arguments, and the function -/
theorem em_callL1_3 {nN kN : Nat} {N ps : List Str} {a x : Str} {k kl ip : Nat} {GG : MF → MS} {T : List (Addr × Str)} {params : Arguments} {body e1 e2 e3 : Expr} {scope : Scope} {pn : Str} {m m1 m2 m3 : ME} {p pos lpos : Pos} (caps : List Nat)
    (D : HasA X.prog X.w X.K X.mg X.base T x k N ps a ActAt1 GG) (tk : Takes X Wx) (hr1 : Room (k + 1) X.A) (hr2 : Room (kl + 2) X.A) (sm : Sim R ⟨X.K, X.mg, T, noL R.lm.fw⟩) (hg : Gl X x)
    (h1 : PEm X R Wx e1 m1) (h2 : PEm X R Wx e2 m2) (h3 : PEm X R Wx e3 m3) (M : MkX X T) (L : LamP X.env.scope scope [pn]) (hdef : defaultsOf params X.env = ([], []))
    (hb : ∀ (q : Str) (cl : List (Str × Addr)) (doc pm cv ctv u : Value), bindArgs (PySem.W.kdv_fn "<lambda>" q params (.expr body) scope cl .none doc pm cv ctv) ⟨[u], []⟩ = pure [(pn, u)])
    (hip : X.N[ip]? = some pn) (ndN : X.N.Nodup) (hloc : (scope.names.all fun y => !decide (y.2 = .local) || decide (y.1 = pn)) = true)
    (hbody : ∀ (f c' : Addr) (A : Around) (outer : List Env) (s : Shared) (H : Hp) (E : XK), Room kl (A.deeper (lamEnv X scope s.heap.objs.size f c')) → PEm (lamCx X A outer s H E scope f c') ⟨R.K, R.mg, R.T, noL R.lm.fw⟩ (fun cls d _ H => E cls d H) body m)
    (s1 : starEach [e1, e2, e3] X.env = (false, eval e1 X.env) :: starEach [e2, e3] X.env := by rfl) (s2 : starEach [e2, e3] X.env = (false, eval e2 X.env) :: starEach [e3] X.env := by rfl) (s3 : starEach [e3] X.env = (false, eval e3 X.env) :: starEach [] X.env := by rfl)
    (hargs : starEach [e1, e2, e3, .Lambda params body scope lpos] X.env = starEach [e1, e2, e3] X.env ++ [(false, eval (.Lambda params body scope lpos) X.env)] := by rfl) (hd : (a == ("__debug__" : Str)) = false := by decide) (hcd : (a == ("__classdict__" : Str)) = false := by decide) (hdb : (x == ("__debug__" : Str)) = false := by decide)
    (he : starEach [e1, e2, e3, .Lambda params body scope lpos] X.env = (false, eval e1 X.env) :: starEach [e2, e3, .Lambda params body scope lpos] X.env := by rfl) (hpl : (backTo pos (starEach [e2, e3, .Lambda params body scope lpos] X.env)).any (·.1) = false := by rfl) (hnN : N.length = nN := by rfl) (hkN : ps.length = kN := by rfl) :
    PEm X R Wx (.Call (.Name x p) [e1, e2, e3, .Lambda params body scope lpos] [] pos) (mCallL (fun act => bodyG nN kN (GG act)) caps [ip] m (mCons m1 (mCons m2 (mCons m3 mNil)))) :=
  em_callL1 caps D tk hr1 hr2 sm hg (atm_cons h1 (atm_cons h2 (atm_cons h3 atm_nil s3) s2) s1) M L hdef hb hip ndN hloc hbody hargs hd hcd hdb he hpl hnN hkN
theorem em_callL0_0 {nN kN : Nat} {N ps lps : List Str} {a x : Str} {k kl : Nat} {GG : MF → MS} {T : List (Addr × Str)} {params : Arguments} {body : Expr} {scope : Scope} {m : ME} {p pos lpos : Pos} (caps : List Nat)
    (D : HasA X.prog X.w X.K X.mg X.base T x k N ps a ActAt0 GG) (tk : Takes X Wx) (hr1 : Room (k + 1) X.A) (hr2 : Room (kl + 2) X.A) (sm : Sim R ⟨X.K, X.mg, T, noL R.lm.fw⟩) (hg : Gl X x)
    (M : MkX X T) (L : LamP X.env.scope scope lps) (hdef : defaultsOf params X.env = ([], []))
    (hb : ∀ (q : Str) (cl : List (Str × Addr)) (doc pm cv ctv : Value), bindArgs (PySem.W.kdv_fn "<lambda>" q params (.expr body) scope cl .none doc pm cv ctv) ⟨[], []⟩ = pure [])
    (hloc : ∀ y, scope.names.lookup y = some .local → y ∉ X.N)
    (hbody : ∀ (f c' : Addr) (A : Around) (outer : List Env) (s : Shared) (H : Hp) (E : XK), Room kl (A.deeper (lamEnv X scope s.heap.objs.size f c')) → PEm (lamCx X A outer s H E scope f c') ⟨R.K, R.mg, R.T, noL R.lm.fw⟩ (fun cls d _ H => E cls d H) body m)
    (hargs : starEach [.Lambda params body scope lpos] X.env = starEach [] X.env ++ [(false, eval (.Lambda params body scope lpos) X.env)] := by rfl) (hd : (a == ("__debug__" : Str)) = false := by decide) (hcd : (a == ("__classdict__" : Str)) = false := by decide) (hdb : (x == ("__debug__" : Str)) = false := by decide)
    (he : starEach [.Lambda params body scope lpos] X.env = (false, eval (.Lambda params body scope lpos) X.env) :: starEach [] X.env := by rfl) (hpl : (backTo pos (starEach [] X.env)).any (·.1) = false := by rfl) (hnN : N.length = nN := by rfl) (hkN : ps.length = kN := by rfl) :
    PEm X R Wx (.Call (.Name x p) [.Lambda params body scope lpos] [] pos) (mCallL (fun act => bodyG nN kN (GG act)) caps [] m mNil) :=
  em_callL0 caps D tk hr1 hr2 sm hg atm_nil M L hdef hb hloc hbody hargs hd hcd hdb he hpl hnN hkN
theorem em_callLD_0 {nN kN : Nat} {N ps : List Str} {a x pn : Str} {k kl j : Nat} {n : Int} {GG : MF → MS} {T : List (Addr × Str)} {params : Arguments} {body : Expr} {scope : Scope} {m : ME} {p pos lpos p2 : Pos} (caps : List Nat)
    (D : HasA X.prog X.w X.K X.mg X.base T x k N ps a ActAt0 GG) (tk : Takes X Wx) (hr1 : Room (k + 1) X.A) (hr2 : Room (kl + 2) X.A) (sm : Sim R ⟨X.K, X.mg, T, noL R.lm.fw⟩) (hg : Gl X x)
    (M : MkX X T) (L : LamP X.env.scope scope [pn]) (hdef : params.defaults = [.Constant (.int n) j p2]) (hk : params.kw_defaults = [])
    (hb : ∀ (q : Str) (cl : List (Str × Addr)) (t : Addr) (tk : Tok) (doc pm cv ctv : Value) (sZ : Shared), sZ.heap.get? t = some (PySem.W.kdv_tup [.int n tk]) → BindsTo sZ (PySem.W.kdv_fn "<lambda>" q params (.expr body) scope cl (.ref t) doc pm cv ctv) ⟨[], []⟩ [(pn, .int n tk)])
    (hloc : ∀ y, scope.names.lookup y = some .local → y ∉ X.N)
    (hbody : ∀ (f c' : Addr) (A : Around) (outer : List Env) (s : Shared) (H : Hp) (E : XK), Room kl (A.deeper (lamEnv X scope s.heap.objs.size f c')) → PEm (lamCx X A outer s H E scope f c') ⟨R.K, R.mg, R.T, noL R.lm.fw⟩ (fun cls d _ H => E cls d H) body m)
    (hargs : starEach [.Lambda params body scope lpos] X.env = starEach [] X.env ++ [(false, eval (.Lambda params body scope lpos) X.env)] := by rfl) (hd : (a == ("__debug__" : Str)) = false := by decide) (hcd : (a == ("__classdict__" : Str)) = false := by decide) (hdb : (x == ("__debug__" : Str)) = false := by decide)
    (he : starEach [.Lambda params body scope lpos] X.env = (false, eval (.Lambda params body scope lpos) X.env) :: starEach [] X.env := by rfl) (hpl : (backTo pos (starEach [] X.env)).any (·.1) = false := by rfl) (hnN : N.length = nN := by rfl) (hkN : ps.length = kN := by rfl) :
    PEm X R Wx (.Call (.Name x p) [.Lambda params body scope lpos] [] pos) (mCallL (fun act => bodyG nN kN (GG act)) caps [] m mNil) :=
  em_callLD caps D tk hr1 hr2 sm hg atm_nil M L hdef hk hb hloc hbody hargs hd hcd hdb he hpl hnN hkN
end
end DB

set_option Elab.async false
set_option linter.all false
set_option maxRecDepth 100000
set_option maxHeartbeats 4000000
namespace DB
open PySem PySem.Spec PyProof.Rows L2 LamX
/-- fn_M, the code object being known -/
theorem fn_MC {P : Program} {w : World} {K : PySem.W.Frag} {mg : Str → Option Value} {base : Heap} {x qual : Str} {st : Stmt} {f : Addr} {fd : FuncData} {N ps : List Str} {k : Nat} {m : MS} {T : List (Addr × Str)} {lm : Lm}
    (Fu : Fun K x qual st f fd) (S : FnScope N ps (defScope st))
    (body : ∀ (cdv : Value) (A : Around) (outer : List Env) (s : Shared) (H : Hp) (E : XK), fd.code = cdv → Room k (A.deeper (envOfC qual (defScope st) s.heap.objs.size f cdv)) →
      PBm (cxOf (L2.CX P w) P w K mg base N qual (defScope st) f cdv A outer s H E) ⟨K, mg, T, lm⟩ (fun cls d _ H => E cls d H) (defBody st) m) :
    FnOk P w K mg base (L2.CX P w) (k + 1) f fd ps (spF ⟨K, mg, T, lm⟩ (bodyF N.length ps.length m)) := by
  obtain ⟨oc, od, kV, doc, pm, an, cdv, ct, osl, rfl, lk, hcd⟩ := Fu.ex
  refine L2.fn_of lk hcd S (fun vs H Q E h => ?_) fun A outer s H vs Q E hr h => ?_
  · obtain ⟨G, S, ds, rs, b, h⟩ := h
    unfold bodyF at h
    by_cases c : ds.length = ps.length
    · rw [← rs.length]; exact c
    · rw [if_neg c] at h; exact h.elim
  · obtain ⟨G, Sc, ds, rs, b, h⟩ := h
    refine ⟨_, (body cdv A outer s H E rfl hr).ps H G, ?_⟩
    unfold bodyF at h
    by_cases c : ds.length = ps.length
    · rw [if_pos c] at h
      have hv : vs.length = ps.length := by rw [← rs.length]; exact c
      have env : REnv ⟨K, mg, T, lm⟩ G H (ds.map .d ++ List.replicate (N.length - ps.length) .un) (L2.start N vs) [] := by
        unfold L2.start
        rw [hv]
        exact REnv.ds rs _
      refine ⟨G, ⟨ds.map .d ++ List.replicate (N.length - ps.length) .un, Sc⟩, [], ⟨env, b, by simpa using b.nd, by simp, by simp⟩, ?_⟩
      cases e : m ⟨ds.map .d ++ List.replicate (N.length - ps.length) .un, Sc⟩ with
      | bad => rw [e] at h; exact h
      | bk _ => rw [e] at h; exact h.elim
      | ct _ => rw [e] at h; exact h.elim
      | nx w' =>
        rw [e] at h
        exact fun σ' G' H' as' rel _ => h.2 .non G' H' [] rel.bas (.d .non) (by intro b hb; simp at hb)
      | ex x w' =>
        rw [e] at h
        exact fun σ' cls d G' H' as' rel x => h cls d G' H' rel.bas x
      | rt rv S' =>
        rw [e] at h
        have h2 : (match (if rv.plain = true then RF.ok rv S' else RF.bad) with
          | .ok rv S' => rv.plain = true ∧ ∀ v G' H' bs, Bas ⟨K, mg, T, lm⟩ H G G' S' H' → RSlot ⟨K, mg, T, lm⟩ G' H' rv (some v) bs → Loose H G' [] bs → Q v H'
          | .ex x S' => ∀ cls d G' H', Bas ⟨K, mg, T, lm⟩ H G G' S' H' → ExcR ⟨K, mg, T, lm⟩ G' H' x cls d → E cls d H'
          | .bad => False) := h
        cases pl : rv.plain with
        | false => rw [pl, if_neg Bool.false_ne_true] at h2; exact h2.elim
        | true => rw [pl, if_pos rfl] at h2; exact h2.2
    · rw [if_neg c] at h; exact h.elim
section
variable {R RZ R' : RC} {H0 H H' H1 H2 : Hp} {G0 G G' G1 G2 : Wd} {w w' w1 : W} {σ : L2.St} {as as' as1 bs : List Addr} {Wx Wz : WX} {X Z : Cx}
theorem act1_here {a : Str} {i : Nat} {act : MF} {e : Expr} {r : MA} {p1 p2 : Pos} (h : ActAt1 Z R a i act) (tk : Takes Z Wx) (ha : PAm Z R Wx [e] r) (he : starEach [e] Z.env = (false, eval e Z.env) :: starEach [] Z.env := by rfl) :
    PEm Z R Wx (.Call (.Name a p1) [e] [] p2) (mAct i act r) := h Z.pn Z.xe Wx tk e r p1 p2 ha he
theorem act1_tr {a : Str} {i : Nat} {act : MF} {e : Expr} {r : MA} {p1 p2 : Pos} {pn : List (Addr × Obj)} {xe : Value → Shared → Prop} (h : ActAt1 Z R a i act) (tk : Takes (Z.tr pn xe) Wx) (ha : PAm (Z.tr pn xe) R Wx [e] r) (he : starEach [e] Z.env = (false, eval e Z.env) :: starEach [] Z.env := by rfl) :
    PEm (Z.tr pn xe) R Wx (.Call (.Name a p1) [e] [] p2) (mAct i act r) := h pn xe Wx tk e r p1 p2 ha he
theorem act0_here {a : Str} {i : Nat} {act : MF} {p1 p2 : Pos} (h : ActAt0 Z R a i act) (tk : Takes Z Wx) : PEm Z R Wx (.Call (.Name a p1) [] [] p2) (mAct i act mNil) := h Z.pn Z.xe Wx tk p1 p2
theorem act0_tr {a : Str} {i : Nat} {act : MF} {p1 p2 : Pos} {pn : List (Addr × Obj)} {xe : Value → Shared → Prop} (h : ActAt0 Z R a i act) (tk : Takes (Z.tr pn xe) Wx) : PEm (Z.tr pn xe) R Wx (.Call (.Name a p1) [] [] p2) (mAct i act mNil) := h pn xe Wx tk p1 p2

/-! a def as a value -/
theorem em_actG {f : Addr} {fd : FuncData} {ps : List Str} {F : MF} {k i : Nat} {a : Str} {e : Expr} {r : MA} {p1 p2 : Pos} (Fn : FnOk Z.prog Z.w Z.K Z.mg Z.base (L2.CX Z.prog Z.w) k f fd ps (spF R' F)) (sm : Sim RZ R') (hk : PySem.W.keepIn Z.K (.ref f) = true) (hb : Binds Z.K fd ps []) (hfa : RZ.lm.fa 0 = some f)
    (hr : Room k Z.A) (tk : Takes Z Wz) (hN : Z.N[i]? = some a) (hv : Vis Z.env.scope a) (ha : PAm Z RZ Wz [e] r) (hd : (a == ("__debug__" : Str)) = false := by decide) (hcd : (a == ("__classdict__" : Str)) = false := by decide)
    (he : starEach [e] Z.env = (false, eval e Z.env) :: starEach [] Z.env := by rfl) : PEm Z RZ Wz (.Call (.Name a p1) [e] [] p2) (mAct i F r) :=
  ⟨fun H0 G0 => ⟨fun pins s σ H Q I ⟨G, w, as, rel, h⟩ => by
    have hp : PostE RZ H0 G0 Wz σ G H as (mAct i F r w) Q := h
    unfold mAct at hp
    split at hp
    · rename_i ew
      obtain ⟨o, bs, cs, es, sl, _⟩ := rel.env.at ew
      cases sl with
      | @fn n f1 G1 g1 g2 g3 =>
        rw [hfa] at g1
        cases g1
        refine wpAny_Call_Name_kw (thn ((pe_var (pos := p1) (i := i) hN hv hd hcd).run pins s σ H (fun v H1 => v = .ref f ∧ H1 = H) I ⟨.ref f, es, rfl, rfl⟩) fun u s1 ⟨v, H1, I1, r1, q1⟩ => ?_)
        obtain ⟨ev, eH⟩ := q1
        subst ev
        rw [eH] at I1
        obtain rfl : u = Value.ref f := r1
        refine PySem.W.callWith_K (h₀ := Z.base) I1.ok.mod.kin hk (thn ((ha.pe H0 G0).run p2 pins s1 σ H _ I1 (lift_ab rel hp fun vs ds G1 H1 as1 w1 rel1 ext rs h1 => call_post sm rel1 rs h1)) fun us s2 ⟨vs, H2, I2, r, q⟩ => ⟨I2.kIn, ?_⟩) he (by rfl)
        exact run_fnS Fn hr hb (passAt tk σ) I2 r q
    · exact hp.elim⟩⟩
def mCallV (GG : MF → MF) (F : MF) (r : MA) : ME := fun w => (r w).bd fun ds w1 => match GG F ds w1.S with
  | .ok rv S' => if rv.plain = true then .ok rv { w1 with S := S' } else .bad
  | .ex x S' => .ex x { w1 with S := S' }
  | .bad => .bad
theorem em_callV {nN kN : Nat} {N ps gps : List Str} {a x y : Str} {k kg : Nat} {GG : MF → MS} {F : MF} {T : List (Addr × Str)} {e0 : Expr} {es rest : List Expr} {r : MA} {p pos pg : Pos}
    (D : HasA X.prog X.w X.K X.mg X.base T x k N ps a ActAt1 GG) (Dg : HasF X.prog X.w X.K X.mg X.base T y kg gps F) (tk : Takes X Wx) (hr1 : Room (k + 1) X.A) (hr2 : Room (kg + 1) X.A) (sm : Sim R ⟨X.K, X.mg, T, noL R.lm.fw⟩) (hg : Gl X x) (hgy : Gl X y)
    (ha : PAtm X R Wx es r)
    (hargs : starEach (e0 :: rest) X.env = starEach es X.env ++ [(false, eval (.Name y pg) X.env)]) (hd : (a == ("__debug__" : Str)) = false := by decide) (hcd : (a == ("__classdict__" : Str)) = false := by decide) (hdb : (x == ("__debug__" : Str)) = false := by decide) (hdy : (y == ("__debug__" : Str)) = false := by decide)
    (he : starEach (e0 :: rest) X.env = (false, eval e0 X.env) :: starEach rest X.env := by rfl) (hpl : (backTo pos (starEach rest X.env)).any (·.1) = false := by rfl) (hnN : N.length = nN := by rfl) (hkN : ps.length = kN := by rfl) :
    PEm X R Wx (.Call (.Name x p) (e0 :: rest) [] pos) (mCallV (fun act => bodyG nN kN (GG act)) F r) := by
  subst hnN hkN
  exact
    ⟨fun H0 G0 => ⟨fun pins s σ H Q I ⟨G, w, as, rel, h⟩ => by
      obtain ⟨g, st, od, an, osl, oc, kV, doc, pm, cdv, ct, hm, hk, lk, hcd', hb, Sg, hN, hv, hbody⟩ := D.ex
      obtain ⟨f, fd, Fn, hmy, hky, hby⟩ := Dg.ex
      refine wpAny_Call_Name_kw (ld_glob I hg hm ?_ hdb)
      refine PySem.W.callWith_K (h₀ := X.base) I.ok.mod.kin hk ?_ he hpl
      rw [hargs]
      have eb : backTo pos (starEach es X.env ++ [(false, eval (.Name y pg) X.env)]) = backTo pos (starEach es X.env) ++ [(false, eval (.Name y pg) X.env)] := by simp [backTo]
      rw [eb]
      refine (ha.pe H0 G0).run pos pins s σ H (fun vs H1 => ∃ G1 as1 w1 ds, Rel R H0 G0 G1 w1 σ H1 as1 ∧ Rps R G1 ds vs ∧ PostE R H0 G0 Wx σ G1 H1 as1 (match bodyG N.length ps.length (GG F) ds w1.S with
        | .ok rv S' => if rv.plain = true then .ok rv { w1 with S := S' } else .bad
        | .ex x S' => .ex x { w1 with S := S' }
        | .bad => .bad) Q) _ _ I (lift_ab rel h fun vs ds G1 H1 as1 w1 rel1 ext rs h1 => ⟨G1, as1, w1, ds, rel1, rs, h1⟩) fun vs us H1 s2 I2 rv ⟨G1, as1, w1, ds, rel2, rs, h2⟩ => ?_
      refine Calls.spliced_cons (ld_glob I2 hgy hmy ?_ hdy)
      refine Calls.spliced_nil ⟨I2.kIn, ?_⟩
      have smZ : Sim R ⟨X.K, X.mg, T, ⟨fun n => if n = 0 then some f else none, fun _ _ => True, none, R.lm.fw⟩⟩ := ⟨sm.K, sm.mg, sm.T, sm.fw⟩
      have slZ : RSlot ⟨X.K, X.mg, T, ⟨fun n => if n = 0 then some f else none, fun _ _ => True, none, R.lm.fw⟩⟩ G1 H1 (.fn 0) (some (.ref f)) [] := .fn rfl trivial (Wle.refl _)
      have h3 := call_fin (R' := ⟨X.K, X.mg, T, ⟨fun n => if n = 0 then some f else none, fun _ _ => True, none, R.lm.fw⟩⟩) smZ rel2 h2
      have rc : codeAny (model X.prog X.w) X.A (.call (.ref g) ⟨us ++ [.ref f], []⟩) (CR (L2.CX X.prog X.w) X.stack X.prog X.w H1 s2 Q (WE Wx σ)) s2 := by
        unfold bodyG at h3
        by_cases c : ds.length = ps.length
        · rw [if_pos c] at h3
          have hvl : vs.length = ps.length := by rw [← rs.length]; exact c
          have hul : (us ++ [Value.ref f]).length = (ps ++ [a]).length := by
            have e1 := rv.length
            simp only [List.length_append, List.length_cons, List.length_nil]
            omega
          have hvl2 : (vs ++ [V.ref f]).length = (ps ++ [a]).length := by
            simp only [List.length_append, List.length_cons, List.length_nil]
            omega
          refine run_ofS (N := N) (ps := ps ++ [a]) (us := us ++ [.ref f]) (vs := vs ++ [.ref f]) lk hcd' Sg hr1 I2.env0 (by have q := hb s2 (us ++ [.ref f]) I2.kIn (by simpa using hul); rw [List.append_nil] at q; exact q) (Vals.snoc (show RelV (.ref f) (.ref f) from rfl) rv) hvl2 fun hr' => ?_
          refine ⟨_, (hbody X.A X.stack s2 H1 (WE Wx σ) ⟨fun n => if n = 0 then some f else none, fun _ _ => True, none, R.lm.fw⟩ F hr'
            (fun pn xe Wz tkz e r p1 p2 hpa hst => em_actG (R' := ⟨X.K, X.mg, T, noL R.lm.fw⟩) (Fn _) ⟨rfl, rfl, rfl, rfl⟩ hky hby rfl (hr2.deeper _) tkz hN hv hpa hd hcd hst)).ps H1 G1, ?_⟩
          have env : REnv ⟨X.K, X.mg, T, ⟨fun n => if n = 0 then some f else none, fun _ _ => True, none, R.lm.fw⟩⟩ G1 H1 (ds.map .d ++ .fn 0 :: List.replicate (N.length - (ps.length + 1)) .un) (L2.start N (vs ++ [.ref f])) [] := by
            unfold L2.start
            rw [List.length_append, hvl, List.map_append, List.append_assoc]
            exact REnv.dsF slZ (rs.conv smZ) _
          refine ⟨G1, ⟨ds.map .d ++ .fn 0 :: List.replicate (N.length - (ps.length + 1)) .un, w1.S⟩, [], ⟨env, Bas.conv (R := R) smZ ⟨rel2.bas.cells, rel2.bas.nd, rel2.bas.free, rel2.bas.sub, rel2.bas.tabs, .refl _ _ _⟩, by simpa using rel2.bas.nd, by simp, by simp⟩, ?_⟩
          cases e : GG F ⟨ds.map .d ++ .fn 0 :: List.replicate (N.length - (ps.length + 1)) .un, w1.S⟩ with
          | bad => rw [e] at h3; exact h3
          | bk _ => rw [e] at h3; exact h3.elim
          | ct _ => rw [e] at h3; exact h3.elim
          | nx w' =>
            rw [e] at h3
            exact fun σ' G' H' as' rel _ => h3.2 .non G' H' [] rel.bas (.d .non) (by intro b hb; simp at hb)
          | ex x w' =>
            rw [e] at h3
            exact fun σ' cls d G' H' as' rel x => h3 cls d G' H' rel.bas x
          | rt rv S' =>
            rw [e] at h3
            have h4 : FinR ⟨X.K, X.mg, T, ⟨fun n => if n = 0 then some f else none, fun _ _ => True, none, R.lm.fw⟩⟩ H1 G1 Wx σ (if rv.plain = true then RF.ok rv S' else RF.bad) Q := h3
            cases pl : rv.plain with
            | false => rw [pl, if_neg Bool.false_ne_true] at h4; exact h4.elim
            | true => rw [pl, if_pos rfl] at h4; exact h4.2
        · rw [if_neg c] at h3; exact h3.elim
      refine wpAny_call (codeAny_mono rc fun r s' hq => ?_)
      cases r with
      | error e => exact passAt tk σ pins H1 s2 e s' I2 hq
      | ok fl =>
        cases fl with
        | ret u => exact I2.after hq
        | next => exact False.elim hq
        | brk => exact False.elim hq
        | cont => exact False.elim hq⟩⟩
theorem em_callV_3 {nN kN : Nat} {N ps gps : List Str} {a x y : Str} {k kg : Nat} {GG : MF → MS} {F : MF} {T : List (Addr × Str)} {e1 e2 e3 : Expr} {m1 m2 m3 : ME} {p pos pg : Pos}
    (D : HasA X.prog X.w X.K X.mg X.base T x k N ps a ActAt1 GG) (Dg : HasF X.prog X.w X.K X.mg X.base T y kg gps F) (tk : Takes X Wx) (hr1 : Room (k + 1) X.A) (hr2 : Room (kg + 1) X.A) (sm : Sim R ⟨X.K, X.mg, T, noL R.lm.fw⟩) (hg : Gl X x) (hgy : Gl X y)
    (h1 : PEm X R Wx e1 m1) (h2 : PEm X R Wx e2 m2) (h3 : PEm X R Wx e3 m3)
    (s1 : starEach [e1, e2, e3] X.env = (false, eval e1 X.env) :: starEach [e2, e3] X.env := by rfl) (s2 : starEach [e2, e3] X.env = (false, eval e2 X.env) :: starEach [e3] X.env := by rfl) (s3 : starEach [e3] X.env = (false, eval e3 X.env) :: starEach [] X.env := by rfl)
    (hargs : starEach [e1, e2, e3, .Name y pg] X.env = starEach [e1, e2, e3] X.env ++ [(false, eval (.Name y pg) X.env)] := by rfl) (hd : (a == ("__debug__" : Str)) = false := by decide) (hcd : (a == ("__classdict__" : Str)) = false := by decide) (hdb : (x == ("__debug__" : Str)) = false := by decide) (hdy : (y == ("__debug__" : Str)) = false := by decide)
    (he : starEach [e1, e2, e3, .Name y pg] X.env = (false, eval e1 X.env) :: starEach [e2, e3, .Name y pg] X.env := by rfl) (hpl : (backTo pos (starEach [e2, e3, .Name y pg] X.env)).any (·.1) = false := by rfl) (hnN : N.length = nN := by rfl) (hkN : ps.length = kN := by rfl) :
    PEm X R Wx (.Call (.Name x p) [e1, e2, e3, .Name y pg] [] pos) (mCallV (fun act => bodyG nN kN (GG act)) F (mCons m1 (mCons m2 (mCons m3 mNil)))) :=
  em_callV D Dg tk hr1 hr2 sm hg hgy (atm_cons h1 (atm_cons h2 (atm_cons h3 atm_nil s3) s2) s1) hargs hd hcd hdb hdy he hpl hnN hkN
theorem em_lcv {tg iter elt : Expr} {ifs : List Expr} {own : List (Str × Nat)} {is vs : List Nat} {mi : MA} {g : MG} {mt me : ME} {scope : Scope} {pos : Pos} (hc : X.calm = true) (hN : X.N.Nodup) (hi : PIm X R Wx tg iter mi) (ok : BlkOk X.N X.env.scope scope own)
    (hg : ∀ (s : Shared) (H : Hp) (C : Addr) (cl : List (Str × Addr)) (fp : List Addr), PGm (X.blk s H scope (compEnvC scope cl C X.env) fp) R tg is g) (ht : ∀ (s : Shared) (H : Hp) (C : Addr) (cl : List (Str × Addr)) (fp : List Addr), PTsm (X.blk s H scope (compEnvC scope cl C X.env) fp) R WN ifs mt)
    (he : ∀ (s : Shared) (H : Hp) (C : Addr) (cl : List (Str × Addr)) (fp : List Addr), PEm (X.blk s H scope (compEnvC scope cl C X.env) fp) R WN elt me) (hvs : own.map (·.2) = vs) (his : ∀ i ∈ is, i ∈ vs) (hs : ∀ x, foldedSetIterable iter X.env x = pure x := by intro _; rfl) :
    PEm X R Wx (.ListComp elt [⟨tg, iter, ifs, 0⟩] scope pos) (mLc vs mi g mt me) := em_lc hc hN hi ok hg ht he hvs his hs
theorem sm_setLcv {tg iter elt : Expr} {ifs : List Expr} {own : List (Str × Nat)} {is vs : List Nat} {mi : MA} {g : MG} {mt me : ME} {scope : Scope} {i : Nat} {y : Str} {pos py spos : Pos} (hc : X.calm = true) (hN : X.N.Nodup) (hy : X.N[i]? = some y) (hyl : X.env.scope.names.lookup y = some .local)
    (hsw : swapsWith (.ListComp elt [⟨tg, iter, ifs, 0⟩] scope pos) (some (.Name y py)) spos.line X.env = pure true) (hi : PIm X R Wx tg iter mi) (ok : BlkOk X.N X.env.scope scope own)
    (hg : ∀ (s : Shared) (H : Hp) (C : Addr) (cl : List (Str × Addr)) (fp : List Addr), PGm (X.blk s H scope (compEnvC scope cl C X.env) fp) R tg is g) (ht : ∀ (s : Shared) (H : Hp) (C : Addr) (cl : List (Str × Addr)) (fp : List Addr), PTsm (X.blk s H scope (compEnvC scope cl C X.env) fp) R WN ifs mt)
    (he : ∀ (s : Shared) (H : Hp) (C : Addr) (cl : List (Str × Addr)) (fp : List Addr), PEm (X.blk s H scope (compEnvC scope cl C X.env) fp) R WN elt me) (hvs : own.map (·.2) = vs) (his : ∀ i ∈ is, i ∈ vs) (hs : ∀ x, foldedSetIterable iter X.env x = pure x := by intro _; rfl) :
    PSm X R Wx (.Assign [.Name y py] (.ListComp elt [⟨tg, iter, ifs, 0⟩] scope pos) spos) (mSet i (mLc vs mi g mt me)) := sm_setLc hc hN hy hyl hsw hi ok hg ht he hvs his hs
end
end DB

set_option Elab.async false
set_option linter.all false
set_option maxRecDepth 100000
set_option maxHeartbeats 4000000
namespace L2
open PySem PySem.Spec PyProof.Rows
theorem tuple_mul1 (l : Addr) (items : Array Value) (n : Nat) (u : Tok) (dd : Option Addr) (sl : Array (Option Value)) :
    Meets (Builtin.«tuple.__mul__» ⟨[.ref l, .int 1 u], []⟩) (fun _ R s => s.heap.get? l = some { cls := .type "tuple", dict := dd, data := .seq items n, slots := sl } ∧ R (.ok (.ret (Value.ref l))) s) :=
  .of_wp fun prog w A R s h => by
    obtain ⟨hp, g, d, tk, os⟩ := s
    obtain ⟨hl, h⟩ := h
    have f1 := AutoSeq1.idx_int
    wp_walk using wpAny_loadPart' hl
    repeat (first
      | (refine wpAny_ite_false (by decide) ?_; wp_walk using wpAny_loadPart' hl)
      | (refine wpAny_ite_true (by simp) ?_; wp_walk using wpAny_loadPart' hl))
    exact ⟨_, rfl, h⟩
def rRep1 (K : PySem.W.Frag) : R2 := fun x y H Q => ∃ l xs, x = .ref l ∧ y = .int 1 ∧ SqT K H l xs ∧ Q (.ref l) H
theorem op_rep1T {X : Cx} : OpR X (binaryOp .Mult) (rRep1 X.K) := by
  intro pins s σ H x y v u Q I rx ry h
  obtain ⟨l, xs, rfl, rfl, hT, q⟩ := h
  cases rx
  obtain ⟨t, rfl⟩ := ry
  obtain ⟨its, r, ⟨⟨cls, dd, data, sl⟩, ho, hc, n, hd⟩, hs⟩ := I.tuple hT
  simp only at hc hd
  subst hc hd
  refine wpAny_binaryOp_repeat_ref (T := "tuple") (U := "int") (by decide) ⟨_, ho, rfl⟩ (fun s' => typeIs_int s' 1 t) noFill_tuple_mul F.fills_int_mul F.slot_int_rmul repeat_tuple F.slot_int_index.lookup
    (call_meets F.slot_int_rmul (typeIs_int s 1 t) F.entry_int_rmul (F.args_int_rmul_2 _ _) (int_rmul_tuple 1 t l its.toArray n dd sl)
      ⟨ho, rfl, ⟨_, ho, rfl⟩, call_meets F.slot_tuple_mul ⟨_, ho, rfl⟩ F.entry_tuple_mul (F.args_tuple_mul_2 _ _) (tuple_mul1 l its.toArray n t dd sl) ⟨ho, ?_⟩⟩)
  exact ⟨.ref l, H, I, rfl, q⟩
end L2
namespace DB
open PySem PySem.Spec PyProof.Rows L2
section
variable {R : RC} {G : Wd} {H : Hp} {X : Cx}
def gMulT (x y : D) : Option RV := match x, y with
  | .tup i, .int k => if k = 1 then some (.d (.tup i)) else if 2 ≤ k ∧ k ≤ 1000 ∧ i ≠ [] ∧ i.length ≤ 1000 then some (.d (.tup (repD k i))) else none
  | _, _ => none
theorem om_mulT (ag : Ag X R) : OpM X R (binaryOp .Mult) gMulT := by
  refine ⟨_, op_rep1T.or op_repT, fun {G H x y vx vy rv Q} s rx ry e h => ?_⟩
  unfold gMulT at e
  split at e
  · obtain ⟨a, xs, rfl, hx, rs, px⟩ := rx.tup s
    cases ry.int
    split at e
    · rename_i c
      subst c
      cases e
      exact .inl ⟨a, xs, rfl, rfl, by rw [ag.K]; exact hx, h.sc s px⟩
    · split at e
      · rename_i c
        cases e
        refine .inr ⟨a, _, xs, rfl, rfl, by rw [ag.K]; exact hx, fun z => ?_, c.1, c.2.1, by rw [← rs.length]; exact c.2.2.2, h.tup s (rep_flat rs _)⟩
        subst z
        cases rs
        exact c.2.2.1 rfl
      · cases e
  · cases e
/-! str(int), join -/
def gStr (x : D) : Option RV := match x with
  | .int i => if i.natAbs.log2 < 1920 then some (.d (.str (toString i))) else none
  | _ => none
theorem cm_str : CalM X R (.type "str") (g1 gStr) := by
  refine ⟨_, call_str_int, fun {G H xs vs rv Q} s ls e h => ?_⟩
  obtain ⟨x, rfl, e2⟩ := g1_inv e
  clear e
  have e := e2
  clear e2
  obtain ⟨v, rfl, l⟩ := ls.one
  unfold gStr at e
  split at e
  · cases l.int
    split at e
    · rename_i c
      cases e
      exact ⟨_, rfl, c, h.sc s .str⟩
    · cases e
  · cases e
def strOf : D → Option Str
  | .str x => some x
  | _ => none
def strsOf : List D → Option (List Str)
  | [] => some []
  | d :: ds => match strOf d, strsOf ds with
    | some x, some xs => some (x :: xs)
    | _, _ => none
theorem strsOf_rps : ∀ {ds : List D} {xs : List Str} {vs : List V}, strsOf ds = some xs → Rps R G ds vs → vs = xs.map V.str
  | [], _, _, e, .nil => by cases e; rfl
  | d :: ds, xs, _, e, .cons r rs => by
    unfold strsOf at e
    split at e
    · rename_i x ys e1 e2
      cases e
      cases d with
      | str y =>
        cases e1
        cases r
        rw [strsOf_rps e2 rs]; rfl
      | _ => cases e1
    · cases e
def gJoin (x : D) (xs : List D) : Option RV := match x, xs with
  | .str a, [.lst ds] => (match strsOf ds with
    | some ys => if (ys.map (·.length)).sum + ys.length * a.length ≤ 16777216 then some (.d (.str (Txt.join a ys))) else none
    | none => none)
  | _, _ => none
theorem mm_join : MtM X R "str.join" gJoin := by
  refine ⟨_, mt_join, fun {G H x vx xs vs rv Q} s lx lxs e h => ?_⟩
  unfold gJoin at e
  split at e
  · cases lx.str
    cases lxs with
    | cons l1 l2 =>
      cases l2
      split at e
      · rename_i ys ey
        split at e
        · rename_i c
          cases e
          obtain ⟨p, us, rfl, hp, rs⟩ := l1.lst s
          rw [strsOf_rps ey rs] at hp
          exact ⟨_, p, ys, rfl, rfl, .inl (SqL.of hp), c, h.sc s .str⟩
        · cases e
      · cases e
  · cases e
end
end DB

set_option Elab.async false
set_option linter.all false
set_option maxRecDepth 100000
set_option maxHeartbeats 4000000
namespace DB
open PySem PySem.Spec PyProof.Rows L2 LamX
/-! the head, with tables of code objects -/
def mkB (K : PySem.W.Frag) (x : Str) (P : Addr) : Bool := match PySem.W.tabIn K x with
  | some (c, P') => P' == P && PySem.W.codeHdIn K c P
  | none => false
theorem mk_of {K : PySem.W.Frag} {h : Heap} {mg : Str → Option Value} {x : Str} {P f : Addr} {fd : FuncData} {st : Stmt} (KX : K.In h) (G : h.Ns mainGlobals mg) (e : mkB K x P = true) (U : Fun K x x st f fd) (g : mg x = some (.ref f)) :
    ∃ c, fd.code = .ref c ∧ PySem.W.codeHdIn K c P = true := by
  unfold mkB at e
  split at e
  · rename_i c P' et
    simp only [Bool.and_eq_true, beq_iff_eq] at e
    obtain ⟨e1, e2⟩ := e
    subst e1
    obtain ⟨oc, od, kV, doc, pm, an, cdv, ct, osl, ef, lk, hcd⟩ := U.ex
    exact ⟨c, PySem.W.law_code KX G et g (KX _ _ lk) rfl, e2⟩
  · cases e
theorem law_atT {l : PySem.W.OpenLaw} {w : World} {K : PySem.W.Frag} {k : Nat} {x : Str} {mg : Str → Option Value} {fa : Addr} {h : Heap} {fd : FuncData} {cs : List (Addr × Addr)} {ts : List Addr} {T : List (Addr × Str)} (KX : K.In h)
    (hY : ∀ P ∈ ts, h.get? P = some (PySem.W.tabObj #[])) (hts : ∀ p ∈ cs, p.2 ∈ ts) (hK : ∀ p ∈ cs, K.lookup p.2 = none) (hd : ∀ p ∈ cs, PySem.W.codeHdIn K p.1 p.2 = true) (hb : ∀ (s : Shared) (u : Value), BindsTo s fd ⟨[u], []⟩ [(x, u)]) (hT : ∀ p ∈ T, p.1 ∈ cs.map (·.2))
    (hF : ∀ base : Heap, K.In base → base.Ns mainGlobals mg → (∀ p ∈ cs, TabB base mg p.1 p.2) → FnOk l.prog w K mg base (L2.CX l.prog w) k fa fd [x] (spLawT K T)) : LawAtS l w K (L2.CX l.prog w) k 63 x mg fa h :=
  ⟨fd, cs, spLawT K T, fun p hp => hY _ (hts p hp), hK, fun p hp => PySem.W.codeHd_of_K KX (hd p hp), hb, fun H a ns hl _ hTab hS => ⟨a, ns, rfl, hl, hS, fun p hp => by
    obtain ⟨q, hq, e⟩ := List.mem_map.mp (hT p hp)
    rw [← e]; exact hTab q hq, fun _ => rfl⟩, hF⟩
theorem gint_ex {K : PySem.W.Frag} {h : Heap} {mg : Str → Option Value} {n : Str} {v : Int} {t : Tok} (X : K.In h) (G : h.Ns mainGlobals mg) (z : PySem.W.nsIn K mainGlobals n = some (some (.int v t))) : ∃ t, mg n = some (.int v t) := ⟨t, PySem.W.mg_of X G z⟩
theorem gstr_ex {K : PySem.W.Frag} {h : Heap} {mg : Str → Option Value} {n v : Str} {t : Tok} (X : K.In h) (G : h.Ns mainGlobals mg) (z : PySem.W.nsIn K mainGlobals n = some (some (.str v t))) : ∃ t, mg n = some (.str v t) := ⟨t, PySem.W.mg_of X G z⟩
end DB

set_option Elab.async false
set_option linter.all false
set_option maxRecDepth 100000
set_option maxHeartbeats 4000000
namespace DB
open PySem PySem.Spec PyProof.Rows L2 LamX
section
variable {R R' : RC} {H0 H H' H1 H2 : Hp} {G0 G G' G1 G2 : Wd} {w w' w1 : W} {σ σ' : L2.St} {as as' as1 as2 bs : List Addr} {Wx : WX} {X : Cx}
  {a b c e : Expr} {ma mb mc m : ME} {pos : Pos} {es : List Expr} {st : Stmt} {sts : List Stmt}

/-! isinstance(x, (T, U)) -/
def mIsi2 (T U : String) (m : ME) : ME := fun w => (m w).bd fun x w1 => if hasTy x = true then .ok (.d (.bl (isTy T x || isTy U x))) w1 else .bad
theorem em_isi2 {T U : String} {t u : Str} {p p2 p3 tp : Pos} {kx} (ag : Ag X R) (hT : T ∈ ["int", "bool", "str", "tuple", "list"]) (hU : U ∈ ["int", "bool", "str", "tuple", "list"]) (hg : Gl X "isinstance") (hm : X.mg "isinstance" = none) (hg2 : Gl X t) (hm2 : X.mg t = none) (hv2 : bootBuiltins t = some (.type T))
    (hg3 : Gl X u) (hm3 : X.mg u = none) (hv3 : bootBuiltins u = some (.type U)) (ha : POm X R Wx a m)
    (hn2 : t ≠ "__name__" := by decide) (hd2 : (t == ("__debug__" : Str)) = false := by decide) (hn3 : u ≠ "__name__" := by decide) (hd3 : (u == ("__debug__" : Str)) = false := by decide)
    (s1 : starEach [.Name t p2, .Name u p3] X.env = (false, eval (.Name t p2) X.env) :: starEach [.Name u p3] X.env := by rfl) (s2 : starEach [.Name u p3] X.env = (false, eval (.Name u p3) X.env) :: starEach [] X.env := by rfl)
    (h1 : starEach [a, .Tuple [.Name t p2, .Name u p3] kx tp] X.env = (false, eval a X.env) :: starEach [.Tuple [.Name t p2, .Name u p3] kx tp] X.env := by rfl) (h2 : starEach [.Tuple [.Name t p2, .Name u p3] kx tp] X.env = (false, eval (.Tuple [.Name t p2, .Name u p3] kx tp) X.env) :: starEach [] X.env := by rfl)
    (hpl : (backTo pos (starEach [.Tuple [.Name t p2, .Name u p3] kx tp] X.env)).any (·.1) = false := by rfl) :
    PEm X R Wx (.Call (.Name "isinstance" p) [a, .Tuple [.Name t p2, .Name u p3] kx tp] [] pos) (mIsi2 T U m) :=
  ⟨fun H0 G0 => PE.cons (pe_callB call_isiT hg hm (by decide +kernel) (pa_cons (ha.pe H0 G0) (pa_cons (pe_tup (pa_cons (pe_bltn hg2 hm2 hv2 (v := .ty T) rfl hn2 hd2) (pa_cons (pe_bltn hg3 hm3 hv3 (v := .ty U) rfl hn3 hd3) pa_nil s2) s1)) pa_nil h2) h1) (by decide) (by decide) h1 hpl) fun σ H Q ⟨G, w, as, rel, h⟩ => by
    refine lift_bo rel h fun v x G1 H1 as1 w1 rel1 ext lv h1 => ?_
    by_cases c : hasTy x = true
    · rw [if_pos c] at h1
      refine ⟨by show 2 ≤ sizeLine; rw [sizeLine_eq]; omega, fun q hq => ?_⟩
      have px : PExt G1 H1 G1 (upd H1 q (.tup [.ty T, .ty U])) := PExt.own rel1.bas.sub hq
      have rel2 := rel1.pext px
      have h2 := PostE.shift h1 (px.ext as1) (fun _ h => h)
      refine ⟨v, q, [.ty T, .ty U], .type (tyN x), [.type T, .type U], isTy T x || isTy U x, rfl, upd_same, .cons (.ty T) (.cons (.ty U) .nil), by rw [ag.K]; exact (lv.ext (px.ext as1)).ty rel2.bas.sub c, ?_, PostE.bl rel2 h2⟩
      refine kitAny_cons (kit_D hT x c) (fun e => ?_) (fun e => by rw [e] <;> rfl)
      rw [e, Bool.false_or]
      exact kitAny_cons (kit_D hU x c) (fun e2 => by rw [e2]; exact kitAny_nil) (fun e2 => e2)
    · rw [if_neg c] at h1; exact h1.elim⟩

/-! what is never reached -/
def mBad : ME := fun _ => .bad
def sBad : MS := fun _ => .bad
theorem em_bad : PEm X R Wx e mBad := ⟨fun H0 G0 => ⟨fun pins s σ H Q I ⟨_, _, _, _, h⟩ => h.elim⟩⟩
theorem sm_bad : PSm X R Wx st sBad := ⟨fun H0 G0 => ⟨fun pins s σ H D I ⟨_, _, _, _, h⟩ => h.elim⟩⟩
theorem bm_bad : PBm X R Wx sts sBad := ⟨fun H0 G0 => ⟨fun pins s σ H D I ⟨_, _, _, _, h⟩ => h.elim⟩⟩
/-- a def of which nothing is said -/
theorem HasF.none' {P : Program} {w : World} {K : PySem.W.Frag} {mg : Str → Option Value} {base : Heap} {T : List (Addr × Str)} {x qual : Str} {st : Stmt} {f : Addr} {fd : FuncData} {N ps : List Str} {k : Nat}
    (Fu : Fun K x qual st f fd) (S : FnScope N ps (defScope st)) (gf : mg x = some (.ref f)) (hb : L2.Binds K fd ps []) : HasF P w K mg base T x (k + 1) ps (fun _ _ => .bad) :=
  ⟨⟨f, fd, fun fw => (fn_M (k := k) (T := T) (lm := noL fw) (m := sBad) Fu S fun cdv A outer s H E hr => bm_bad).imp fun vs H Q E ⟨G, S, ds, r, b, h⟩ => h.elim, gf, Fu.kp, hb⟩⟩

/-! functions as data -/
def objP (a : Addr) (o : Obj) : Heap → Prop := fun h => h.get? a = some o
/-- what is known of the objects of L is put down -/
def trackH (L : List (Addr × Obj)) (H : Hp) : Hp := fun a => match L.lookup a with
  | some o => some (.ext (objP a o))
  | none => H a
theorem lookup_some {α β : Type} [BEq α] [LawfulBEq α] : ∀ {L : List (α × β)} {p : α × β}, p ∈ L → ∃ o, L.lookup p.1 = some o ∧ (p.1, o) ∈ L
  | (k, v) :: L, p, h => by
    by_cases e : p.1 = k
    · exact ⟨v, by rw [List.lookup_cons, e]; simp, by rw [e]; exact List.mem_cons_self⟩
    · have hm : p ∈ L := (List.mem_cons.mp h).elim (fun z => absurd (by rw [z]) e) id
      obtain ⟨o, h1, h2⟩ := lookup_some hm
      exact ⟨o, by rw [List.lookup_cons]; simp only [beq_eq_false_iff_ne.mpr e]; exact h1, List.mem_cons_of_mem _ h2⟩
theorem lookup_in {α β : Type} [BEq α] [LawfulBEq α] : ∀ {L : List (α × β)} {a : α} {b : β}, L.lookup a = some b → (a, b) ∈ L
  | (k, v) :: L, a, b, h => by
    by_cases e : a = k
    · rw [List.lookup_cons, e] at h
      simp only [beq_self_eq_true] at h
      rw [e, Option.some.inj h]; exact List.mem_cons_self
    · rw [List.lookup_cons] at h
      simp only [beq_eq_false_iff_ne.mpr e] at h
      exact List.mem_cons_of_mem _ (lookup_in h)
theorem trackH_mem {L : List (Addr × Obj)} {p : Addr × Obj} {h : Heap} (hp : p ∈ L) (hk : ∀ q ∈ L, h.get? q.1 = some q.2) : trackH L H p.1 = some (.ext (objP p.1 p.2)) := by
  obtain ⟨o, h1, h2⟩ := lookup_some hp
  have e : o = p.2 := Option.some.inj ((hk _ h2).symm.trans (hk _ hp))
  unfold trackH
  rw [h1, e] <;> rfl
theorem trackH_no {L : List (Addr × Obj)} {a : Addr} (h : a ∉ L.map (·.1)) : trackH L H a = H a := by
  unfold trackH
  cases e : L.lookup a with
  | none => rfl
  | some o => exact absurd (List.mem_map.mpr ⟨(a, o), lookup_in e, rfl⟩) h
theorem trackH_some {L : List (Addr × Obj)} {a : Addr} {o : HO} (hn : ∀ q ∈ L, H q.1 = none) (h : H a = some o) : trackH L H a = some o := by
  rw [trackH_no (fun z => by
    obtain ⟨q, hq, e⟩ := List.mem_map.mp z
    have := hn q hq
    rw [show q.1 = a from e, h] at this
    cases this)]
  exact h
theorem trackH_dom {L : List (Addr × Obj)} {a : Addr} (h : trackH L H a = none) : H a = none := by
  unfold trackH at h
  split at h
  · cases h
  · exact h
theorem Inv.track {pins : List (Addr × Obj)} {s s1 : Shared} {L : List (Addr × Obj)} (I0 : Inv X pins σ' H' s) (I : Inv X pins σ H s1) (hk : ∀ q ∈ L, s1.heap.get? q.1 = some q.2) (hn : ∀ q ∈ L, H q.1 = none) (hs : ∀ q ∈ L, s.heap.objs.size ≤ q.1) : Inv X pins σ (trackH L H) s1 := by
  have hch : ∀ b ∈ L.map (·.1), s.heap.objs.size ≤ b := fun b hb => by
    obtain ⟨q, hq, e⟩ := List.mem_map.mp hb
    rw [← show q.1 = b from e]; exact hs q hq
  refine I.step (h' := s1.heap) (g' := s1.gens) (d' := s1.drawn) (t' := s1.toks) (ch := L.map (·.1)) (fun b hb => ?_) (fun b o _ _ _ e _ => e) (fun b o _ _ _ e _ => ⟨o.slots, e⟩) (fun b o hb e n => by rw [trackH_no hb]; exact n) (fun b o _ e => ⟨o, e⟩)
    (fun b xs e => trackH_some hn e) (fun b o u e => trackH_some hn e) (fun b ps e => ⟨#[], by rw [trackH_some hn e]; simp⟩) (fun m h => h) (fun a o e => ?_) I.bare
  · have hb2 := hch b hb
    refine ⟨.inr (Nat.le_trans I0.sz hb2), Nat.ne_of_gt (Nat.lt_of_lt_of_le I0.lt hb2), fun x c e z => ?_, fun p hp z => ?_⟩
    · obtain ⟨v, q⟩ := I0.cell x c e
      exact absurd (Nat.lt_of_lt_of_le q.lt (by rw [z]; exact hb2)) (Nat.lt_irrefl _)
    · exact absurd (Nat.lt_of_lt_of_le (Heap.lt_size (I0.pin p hp).1) (by rw [z]; exact hb2)) (Nat.lt_irrefl _)
  · by_cases hb : a ∈ L.map (·.1)
    · obtain ⟨q, hq, rfl⟩ := List.mem_map.mp hb
      rw [trackH_mem hq hk] at e
      cases e
      exact ⟨hk q hq, ⟨_, hk q hq⟩, fun h1 h2 p1 k => k _ p1⟩
    · rw [trackH_no hb] at e
      exact (I.hok a o e).stay (fun _ _ _ q => q) (fun b q => trackH_some hn q) (fun b xs q => trackH_some hn q)
/-- facts more are known -/
def Wd.codes (G : Wd) (L : List (Addr × (Heap → Prop))) : Wd := ⟨G.Z, G.sas, L ++ G.C⟩
theorem codes_le {L : List (Addr × (Heap → Prop))} : Wle G (G.codes L) := ⟨.refl _, List.prefix_refl _, fun _ h => List.mem_append_right _ h⟩
theorem codes_ext {L : List (Addr × (Heap → Prop))} (eN : ExtN H H2) (hd : ∀ b, H2 b = none → H b = none) : Ext as G H (G.codes L) H2 :=
  ⟨codes_le, fun a o h t _ => eN a o h t, fun _ _ h => .inl h, fun _ h => .inl h, hd⟩
theorem Rel.codes {L : List (Addr × (Heap → Prop))} (rel : Rel R H0 G0 G w σ H as) (eN : ExtN H H2) (hT : Tabs R.T H2) (hc : ∀ p ∈ L, H2 p.1 = some (.ext p.2)) (hd : ∀ b, H2 b = none → H b = none) : Rel R H0 G0 (G.codes L) w σ H2 as where
  env := rel.env.mono codes_le fun a ha u hu => eN a u hu (rel.env.notbl a ha u hu)
  bas := {
    cells := ⟨rel.bas.cells.1, fun n c a h1 h2 => by
      have r := rel.bas.cells.2 n c a h1 h2
      cases c with
      | lst ds => obtain ⟨xs, q1, q2⟩ := r; exact ⟨xs, eN _ _ q1 (fun _ z => by cases z), q2.mono codes_le⟩
      | dic ks vs => obtain ⟨xs, q1, q2, q3⟩ := r; exact ⟨xs, eN _ _ q1 (fun _ z => by cases z), q2, q3.mono codes_le⟩
      | ins c ks vs => obtain ⟨C, dx, xs, q0, q1, q2, q3⟩ := r; exact ⟨C, dx, xs, q0, eN _ _ q1 (fun _ z => by cases z), q2, q3.mono codes_le⟩⟩
    nd := rel.bas.nd
    free := rel.bas.free
    sub := fun b u hb => eN b u (rel.bas.sub b u hb) fun ps z => rel.bas.tabs.2.2 b ps (by rw [← z]; exact hb)
    tabs := ⟨hT, fun p hp => (List.mem_append.mp hp).elim (fun h => hc p h) fun h => eN _ _ (rel.bas.tabs.2.1 p h) (fun _ z => by cases z), rel.bas.tabs.2.2⟩
    ext := rel.bas.ext.trans (fun _ h => .inl h) (codes_ext eN hd) }
  nd := rel.nd
  free := rel.free
  fresh := rel.fresh
/-- a lambda of the text: parameters, body, scope, names of its parameters -/
abbrev LamI := Arguments × Expr × Scope × List Str
/-- the j-th lambda of a def, made here -/
def fwOf (X : Cx) (LT : List LamI) : Nat → Addr → Wd → Prop := fun j f G => ∃ (q : LamI) (c' : Addr) (dV doc pm ctv : Value) (ko : List (Addr × Obj)) (binds : List (Str × Value)), LT[j]? = some q ∧
  (f, objP f (lamO X q.1 q.2.1 q.2.2.1 dV doc pm c' ctv)) ∈ G.C ∧ (c', codeP c' (X.env.qual ++ "<lambda>")) ∈ G.C ∧ (∀ p ∈ ko, (p.1, objP p.1 p.2) ∈ G.C) ∧ LamB X q.1 q.2.1 q.2.2.1 dV doc pm c' ctv ko [] binds ∧ ∀ y ∈ binds, y.1 ∈ q.2.2.2
def mMkF (j : Nat) : ME := fun w => .ok (.d (.fn j)) w
theorem em_mkF {T : List (Addr × Str)} {LT : List LamI} {j : Nat} {params : Arguments} {body : Expr} {scope : Scope} {ps : List Str} {us : List Value → List (Str × Value) → Prop} {bs0 : List (Str × Value)} (hmk : LMk X T e params body scope us) (hT : R.T = T) (hfw : R.lm.fw = fwOf X LT) (hj : LT[j]? = some (params, body, scope, ps))
    (hu : us [] bs0) (hub : ∀ bs, us [] bs → ∀ y ∈ bs, y.1 ∈ ps) : PEm X R Wx e (mMkF j) :=
  ⟨fun H0 G0 => ⟨fun pins s σ H Q I ⟨G, w, as, rel, h⟩ => by
    have hp : PostE R H0 G0 Wx σ G H as (.ok (.d (.fn j)) w) Q := h
    refine hmk.run pins s σ H X.xe _ I (by rw [← hT]; exact rel.bas.tabs.1) ?_
    intro f c' dV doc pm ctv ko H1 s' I1 eN T1 hf hfn hfr hfs hco hdom hko hkos hB
    obtain ⟨bs, hbs, hl⟩ := hB [] bs0 hu
    have hk : ∀ q ∈ (f, lamO X params body scope dV doc pm c' ctv) :: ko, s'.heap.get? q.1 = some q.2 := fun q hq => (List.mem_cons.mp hq).elim (fun z => by rw [z]; exact hf) fun z => (hko q z).1
    have hn : ∀ q ∈ (f, lamO X params body scope dV doc pm c' ctv) :: ko, H1 q.1 = none := fun q hq => (List.mem_cons.mp hq).elim (fun z => by rw [z]; exact hfn) fun z => (hko q z).2.1
    have hs : ∀ q ∈ (f, lamO X params body scope dV doc pm c' ctv) :: ko, s.heap.objs.size ≤ q.1 := fun q hq => (List.mem_cons.mp hq).elim (fun z => by rw [z]; exact hfs) fun z => hkos q z
    have I2 := Inv.track I I1 hk hn hs
    have same : ∀ b o, H1 b = some o → trackH ((f, lamO X params body scope dV doc pm c' ctv) :: ko) H1 b = some o := fun b o e => trackH_some hn e
    have eN2 : ExtN H (trackH ((f, lamO X params body scope dV doc pm c' ctv) :: ko) H1) := fun b o e t => same _ _ (eN b o e t)
    have hT2 : Tabs R.T (trackH ((f, lamO X params body scope dV doc pm c' ctv) :: ko) H1) := by rw [hT]; exact T1.ext same
    have hd2 : ∀ b, trackH ((f, lamO X params body scope dV doc pm c' ctv) :: ko) H1 b = none → H b = none := fun b e => hdom b (trackH_dom e)
    have rel2 := rel.codes (L := (c', codeP c' (X.env.qual ++ "<lambda>")) :: (((f, lamO X params body scope dV doc pm c' ctv) :: ko).map fun p => (p.1, objP p.1 p.2))) eN2 hT2 (fun p hp => by
      rcases List.mem_cons.mp hp with z | z
      · rw [z]; exact same _ _ hco
      · obtain ⟨q, hq, e⟩ := List.mem_map.mp z
        rw [← e]
        exact trackH_mem hq hk) hd2
    refine ⟨.ref f, _, I2, rfl, hp (.ref f) _ _ as [] rel2 (codes_ext eN2 hd2) (fun _ h => h) (.d (.fn (G1 := _) ?_ (Wle.refl _))) (by intro b hb; simp at hb) (by intro b hb; simp at hb)⟩
    rw [hfw]
    refine ⟨(params, body, scope, ps), c', dV, doc, pm, ctv, ko, bs, hj, ?_, ?_, fun p hp => ?_, hl, hub bs hbs⟩
    · exact List.mem_append_left _ (List.mem_cons_of_mem _ (List.mem_map.mpr ⟨_, List.mem_cons_self, rfl⟩))
    · exact List.mem_append_left _ List.mem_cons_self
    · exact List.mem_append_left _ (List.mem_cons_of_mem _ (List.mem_map.mpr ⟨p, List.mem_cons_of_mem _ hp, rfl⟩))⟩⟩
end
end DB

set_option Elab.async false
set_option linter.all false
set_option maxRecDepth 100000
set_option maxHeartbeats 4000000
namespace DB
open PySem PySem.Spec PyProof.Rows L2 LamX
/-! a comprehension whose element leans on what holds in the def at its start -/
section
variable {X : Cx}
/-- a place in the block is a place in the def -/
theorem blk_back {pins pz : List (Addr × Obj)} {s3 s' : Shared} {σ σ' : L2.St} {H3 H' : Hp} {scope : Scope} {ce : Env} {fp : List Addr} (I3 : Inv X pins σ H3 s3) (f3 : ∀ b ∈ fp, FpOk X pins H3 b) (J : Inv (X.blk s3 H3 scope ce fp) pz σ' H' s') : Inv X pins σ H' s' :=
  I3.call' (ch := fp) J.os J.base J.hok J.bare fun b hb => ⟨(f3 b hb).2.2.2.1, (f3 b hb).2.1, (f3 b hb).2.2.2.2.1, (f3 b hb).2.2.2.2.2⟩
/-- what an element is to be, given the def's state at the start -/
def EltI (X : Cx) (pins : List (Addr × Obj)) (σ : L2.St) (vs : List Nat) (scope : Scope) (elt : Expr) (te : TE) : Prop := ∀ (s : Shared) (H : Hp) (C : Addr) (cl : List (Str × Addr)) (fp : List Addr), Inv X pins σ H s → (∀ b ∈ fp, FpOk X pins H b) →
  PE (X.blk s H scope (compEnvC scope cl C X.env) fp) elt fun σ2 H Q => wipe σ2 vs = wipe σ vs ∧ te σ2 H Q
theorem lcI {pins : List (Addr × Obj)} {s : Shared} {σ : L2.St} {H : Hp} {Q : VK} {elt tg iter : Expr} {ifs : List Expr} {scope : Scope} {own : List (Str × Nat)} {pos pos' : Pos} {wi : TI} {g : TG} {tt : TT} {te : TE} {use : Option (Value → Sem Unit)} {Qf : Value → Shared → Prop}
    (hc : X.calm = true) (hN : X.N.Nodup) (I : Inv X pins σ H s) (hi : PI X tg iter wi) (ok : BlkOk X.N X.env.scope scope own)
    (hg : ∀ (s : Shared) (H : Hp) (C : Addr) (cl : List (Str × Addr)) (fp : List Addr), PG (X.blk s H scope (compEnvC scope cl C X.env) fp) tg g) (ht : ∀ (s : Shared) (H : Hp) (C : Addr) (cl : List (Str × Addr)) (fp : List Addr), PTs (X.blk s H scope (compEnvC scope cl C X.env) fp) ifs tt)
    (he : EltI X pins σ (own.map (·.2)) scope elt te) (hs : ∀ x, foldedSetIterable iter X.env x = pure x) (h : tLc wi g tt te (own.map (·.2)) σ H Q)
    (hR : ∀ D C s' m H', Inv X pins σ H' s' → Q (.ref D) H' → s'.heap.Ns C m → FpOk X pins H' C → compPost (model X.prog X.w) X.A X.xe use Qf (.ref D) C (.ok .next) s') :
    wpAny (model X.prog X.w) X.A (comprehension (.ListComp elt [⟨tg, iter, ifs, 0⟩] scope pos) scope X.env pos' (newList []) false (eval iter X.env) use) Qf X.xe s := by
  have caps : ∀ y ∈ scope.names, y.2 = .free → ∃ c, X.env.cells.lookup y.1 = some c := fun y hy e => (ok.free y hy e).elim (fun k => I.ok.has _ (.inl k)) fun k => I.ok.has _ (.inr k)
  refine wpAny_comprehension_free (use := use) rfl hs (closure_ok caps) ok.kind (fun y hy e => by rw [ok.uniq y hy, e]) (thn (hi.run pins s σ H _ I h) fun xv s1 hx => thn hx fun itv s2 ⟨it, fp, tn, J, H2, e, I2, T, st2, f2, q⟩ => ?_)
  subst e
  refine wpAny_newObj_type (newEnv_comp ?_) (by show 0 ≤ sizeLine; decide)
  have hDn : H2 s2.heap.objs.size = none := I2.hok.fresh (Nat.le_refl _)
  obtain ⟨W, ⟨m0, w0⟩, turn⟩ := q _ hDn
  have I3 := I2.laid (a := s2.heap.objs.size) (o := .lst []) (h' := s2.heap.push { cls := .type "list", data := .seq ([] : List Value).toArray }) (t' := s2.toks) (fun b o e => Heap.get?_push_of_some _ e) (Nat.le_refl _) ⟨Nat.zero_le _, [], 0, .nil, Heap.get?_push_size _ rfl⟩
  have lt2 : ∀ b ∈ fp, b < s2.heap.objs.size := fun b hb => by
    obtain ⟨o, e, _⟩ := T.obj _ _ st2 b hb
    exact Heap.lt_size e
  have fD : ∀ b ∈ fp, FpOk X pins (upd H2 s2.heap.objs.size (.lst [])) b := fun b hb => ⟨(upd_ne (Nat.ne_of_lt (lt2 b hb))).trans (f2 b hb).1, (f2 b hb).2⟩
  generalize hs3 : ({ s2 with heap := s2.heap.push { cls := .type "list", data := .seq ([] : List Value).toArray }, toks := s2.toks } : Shared) = s3 at I3
  have h3 : s3.heap = s2.heap.push { cls := .type "list", data := .seq ([] : List Value).toArray } := by rw [← hs3]
  have hD3 : upd H2 s2.heap.objs.size (.lst []) s2.heap.objs.size = some (.lst []) := upd_same
  generalize hH3 : upd H2 s2.heap.objs.size (.lst []) = H3 at I3 fD w0 hD3
  generalize hD : s2.heap.objs.size = D at *
  have lt3 : ∀ b ∈ fp, FpOk X pins H3 b ∧ b < s3.heap.objs.size := fun b hb => ⟨fD b hb, by rw [h3, Heap.size_push, hD]; exact Nat.lt_succ_of_lt (lt2 b hb)⟩
  have B4 := block_start I3 ok hN lt3
  have pg := hg s3 H3 s3.heap.objs.size (cellsFrom (s3.heap.objs.size + 1) scope.names (cloFrom X.env.cells scope.names [])) fp
  have pt := ht s3 H3 s3.heap.objs.size (cellsFrom (s3.heap.objs.size + 1) scope.names (cloFrom X.env.cells scope.names [])) fp
  have pe := he s3 H3 s3.heap.objs.size (cellsFrom (s3.heap.objs.size + 1) scope.names (cloFrom X.env.cells scope.names [])) fp I3 fD
  have cL : (compEnvC scope (cellsFrom (s3.heap.objs.size + 1) scope.names (cloFrom X.env.cells scope.names [])) s3.heap.objs.size X.env).locals = s3.heap.objs.size := rfl
  generalize hce : compEnvC scope (cellsFrom (s3.heap.objs.size + 1) scope.names (cloFrom X.env.cells scope.names [])) s3.heap.objs.size X.env = ce at B4 pg pt pe cL
  have st4 : tn 0 (pushCells (s3.heap.push { cls := .type "dict", data := .dict #[] }) scope.names) := T.keep _ _ _ st2 fun b _ o e => pushCells_keeps _ _ _ _ (Heap.get?_push_of_some _ (by rw [h3]; exact Heap.get?_push_of_some _ e))
  have fB : ∀ {σ' : L2.St} {H' : Hp} {s' : Shared}, Inv (X.blk s3 H3 scope ce fp) [] σ' H' s' → (∀ b ∈ fp, H' b = none) → ∀ b ∈ fp, FpOk (X.blk s3 H3 scope ce fp) [] H' b := fun {σ' H' s'} K hn b hb =>
    ⟨hn b hb, (K.ok.exf b hb).1, K.ok.exfs b hb, .inl hb, fun x c e => (K.ok.exf b hb).2 x c e, fun p hp => absurd (show p ∈ ([] : List (Addr × Obj)) ++ [] from hp) (by simp)⟩
  have go : codeAny (model X.prog X.w) X.A (.compLoop (.ListComp elt [⟨tg, iter, ifs, 0⟩] scope pos) 0 (.ref it) (.ref D) ce) (compPost (model X.prog X.w) X.A X.xe use Qf (.ref D) s3.heap.objs.size) { s3 with heap := pushCells (s3.heap.push { cls := .type "dict", data := .dict #[] }) scope.names } := by
    refine compLoop_any (fun n s' => ∃ i H', Inv (X.blk s3 H3 scope ce fp) [] (wipe σ (own.map (·.2))) H' s' ∧ tn i s'.heap ∧ (∀ b ∈ fp, H' b = none) ∧ W i n H') ?_ m0 ⟨0, H3, B4, st4, fun b hb => (fD b hb).1, w0⟩
    rintro n s5 ⟨i, H5, I5, st5, n5, w5⟩
    rcases turn i n H5 w5 with ⟨stop, qq⟩ | ⟨gon, Nx, hNx, step⟩
    · refine thnF (T.done (X.blk s3 H3 scope ce fp) rfl rfl rfl hc i [] s5 _ H5 (fun _ _ => False) I5 (fB I5 n5) st5 stop) fun r s6 ⟨hr, I6⟩ => ?_
      subst hr
      obtain ⟨m, hn, _⟩ := I6.loc
      have hn2 : s6.heap.Ns ce.locals m := hn
      have hf2 : H5 ce.locals = none := I6.free
      rw [cL] at hn2 hf2
      exact hR D _ s6 m H5 (blk_back I3 fD I6) qq hn2 (I3.fpOk (Nat.le_refl _) hf2)
    · refine thnF (T.item (X.blk s3 H3 scope ce fp) rfl rfl rfl hc i [] s5 _ H5 (fun _ _ => False) I5 (fB I5 n5) st5 gon) fun r s6 ⟨u, hr, h6⟩ => ?_
      subst hr
      refine thnF h6 fun _ s7 ⟨x, H7, I7, r7, y7, st7, n7⟩ => ?_
      refine thnF (pg.run _ s7 _ H7 x u _ (I7.pinned (fB I7 n7) (T.obj _ _ st7)) r7 (step x H7 y7)) fun _ s8 ⟨σ8, H8, I8, hw8, q8⟩ => ?_
      refine thnF (pt.run _ s8 σ8 H8 _ I8 q8) fun b s9 ⟨H9, I9, q9⟩ => ?_
      have fin : ∀ {s' : Shared} {H' : Hp}, Inv (X.blk s3 H3 scope ce fp) ([] ++ pinsAt fp s7.heap) σ8 H' s' → Nx H' → ∃ m, m < n ∧ ∃ i H', Inv (X.blk s3 H3 scope ce fp) [] (wipe σ (own.map (·.2))) H' s' ∧ tn i s'.heap ∧ (∀ b ∈ fp, H' b = none) ∧ W i m H' := fun {s' H'} K nx => by
        obtain ⟨m', hm, w'⟩ := hNx H' nx
        have pin : ∀ b ∈ fp, ∀ o, s7.heap.get? b = some o → s'.heap.get? b = some o ∧ H' b = none := fun b hb o e =>
          have z := K.pin (b, o) (List.mem_append_right _ (List.mem_append_right _ (mem_pinsAt hb e)))
          ⟨z.1, z.2.1⟩
        refine ⟨m', hm, i + 1, H', (K.unpinned (pins := [])).weak (by rw [← hw8, wipe_length]) (fun j v e => by rw [← hw8] at e; exact (wipe_some e).1), T.keep _ _ _ st7 fun b hb o e => (pin b hb o e).1, fun b hb => ?_, w'⟩
        obtain ⟨o, e, _⟩ := T.obj _ _ st7 b hb
        exact (pin b hb o e).2
      cases b with
      | false =>
        simp only [Bool.false_eq_true, if_false] at q9 ⊢
        exact fin I9 q9
      | true =>
        simp only [if_true] at q9 ⊢
        refine thnF (pe.run _ s9 σ8 H9 _ I9 ⟨hw8, q9⟩) fun z s10 ⟨yv, H10, I10, r10, acc, hD10, hz10, nx⟩ => ?_
        exact app_ok (X := X.blk s3 H3 scope ce fp) I10 hD10 hz10 r10 fun s11 I11 => fin I11 nx
  show codeAny _ _ (.compStart (.ListComp elt [⟨tg, iter, ifs, 0⟩] scope pos) 0 (.ref it) (.ref D) (compEnvC scope (cellsFrom (s3.heap.objs.size + 1) scope.names (cloFrom X.env.cells scope.names [])) s3.heap.objs.size X.env)) (compPost (model X.prog X.w) X.A X.xe use Qf (.ref D) s3.heap.objs.size) _
  rw [hce]
  exact codeAny_compStart_list go (T.self X.A 0 _ _ _ st4 go)
end
end DB

set_option Elab.async false
set_option linter.all false
set_option maxRecDepth 100000
set_option maxHeartbeats 4000000
namespace DB
open PySem PySem.Spec PyProof.Rows L2 LamX
section
variable {R R' : RC} {H0 H H' H1 H2 : Hp} {G0 G G' G1 G2 : Wd} {w w' w1 : W} {σ σ' : L2.St} {as as' as1 as2 bs : List Addr} {Wx : WX} {X : Cx}
  {elt tg iter : Expr} {ifs : List Expr} {scope : Scope} {own : List (Str × Nat)} {mi : MA} {g : MG} {mt me : ME} {is vs : List Nat} {pos : Pos}
/-- an element, as its mirror tells it, given the def's state at the start -/
structure EltM (X : Cx) (R : RC) (vs : List Nat) (scope : Scope) (elt : Expr) (me : ME) : Prop where
  pe : ∀ (pins : List (Addr × Obj)) (σ : L2.St) (H0 : Hp) (G0 : Wd), EltI X pins σ vs scope elt (liftE R WN H0 G0 me)
theorem em_lcI (hc : X.calm = true) (hN : X.N.Nodup) (hi : PIm X R Wx tg iter mi) (ok : BlkOk X.N X.env.scope scope own)
    (hg : ∀ (s : Shared) (H : Hp) (C : Addr) (cl : List (Str × Addr)) (fp : List Addr), PGm (X.blk s H scope (compEnvC scope cl C X.env) fp) R tg is g) (ht : ∀ (s : Shared) (H : Hp) (C : Addr) (cl : List (Str × Addr)) (fp : List Addr), PTsm (X.blk s H scope (compEnvC scope cl C X.env) fp) R WN ifs mt)
    (he : EltM X R vs scope elt me) (hvs : own.map (·.2) = vs) (his : ∀ i ∈ is, i ∈ vs) (hs : ∀ x, foldedSetIterable iter X.env x = pure x := by intro _; rfl) :
    PEm X R Wx (.ListComp elt [⟨tg, iter, ifs, 0⟩] scope pos) (mLc vs mi g mt me) := by
  subst hvs
  exact ⟨fun H0 G0 => ⟨fun pins s σ H Q I h => by
    rw [eval_ListComp]
    refine lcI hc hN I (hi.pi H0 G0) ok (fun s H C cl fp => (hg s H C cl fp).pg H0 G0) (fun s H C cl fp => (ht s H C cl fp).pe H0 G0) (he.pe pins σ H0 G0) hs (lc_run his h) fun D C s' m H' I' q hn ⟨f0, f1, f2, f3, f4, f5⟩ => ⟨m, hn, fun h'' sb => ?_⟩
    exact ⟨.ref D, H', I'.turned (t' := s'.toks) (fun b o hb e => (sb.2 b hb).trans e) f0 f1 f3 f4 f5, rfl, q⟩⟩⟩
theorem sm_setLcI {i : Nat} {y : Str} {py spos : Pos} (hc : X.calm = true) (hN : X.N.Nodup) (hy : X.N[i]? = some y) (hyl : X.env.scope.names.lookup y = some .local)
    (hsw : swapsWith (.ListComp elt [⟨tg, iter, ifs, 0⟩] scope pos) (some (.Name y py)) spos.line X.env = pure true) (hi : PIm X R Wx tg iter mi) (ok : BlkOk X.N X.env.scope scope own)
    (hg : ∀ (s : Shared) (H : Hp) (C : Addr) (cl : List (Str × Addr)) (fp : List Addr), PGm (X.blk s H scope (compEnvC scope cl C X.env) fp) R tg is g) (ht : ∀ (s : Shared) (H : Hp) (C : Addr) (cl : List (Str × Addr)) (fp : List Addr), PTsm (X.blk s H scope (compEnvC scope cl C X.env) fp) R WN ifs mt)
    (he : EltM X R vs scope elt me) (hvs : own.map (·.2) = vs) (his : ∀ i ∈ is, i ∈ vs) (hs : ∀ x, foldedSetIterable iter X.env x = pure x := by intro _; rfl) :
    PSm X R Wx (.Assign [.Name y py] (.ListComp elt [⟨tg, iter, ifs, 0⟩] scope pos) spos) (mSet i (mLc vs mi g mt me)) := by
  subst hvs
  exact ⟨fun H0 G0 => ⟨fun pins s σ H D I ⟨G, w, as, rel, h⟩ => by
    have h : tLc (liftI R Wx H0 G0 mi) (liftG R H0 G0 is g) (liftT R WN H0 G0 mt) (liftE R WN H0 G0 me) (own.map (·.2)) σ H (fun x H1 => gName i x σ H1 D.nx) := by
      refine lc_run (Wx := Wx) (R := R) his ?_
      refine lift_sd rel h fun rv v G1 H1 as1 bs w1 rel1 _ _ sl lo _ h1 => ?_
      exact set_post rel1 sl lo h1
    rw [exec_Assign_Name_used _ _ _ _ hsw]
    refine wpAny_bind (wpAny_standAt (wpAny_bind ?_))
    show wpAny _ X.A (do let _ ← comprehension (.ListComp elt [⟨tg, iter, ifs, 0⟩] scope pos) scope X.env (firstIterPos [⟨tg, iter, ifs, 0⟩] pos) (newList []) false (eval iter X.env) (some (assign (.Name y py) X.env))) _ _ s
    refine wpAny_bind (thn (lcI (Qf := fun _ s' => SP X pins D .next s') hc hN I (hi.pi H0 G0) ok (fun s H C cl fp => (hg s H C cl fp).pg H0 G0) (fun s H C cl fp => (ht s H C cl fp).pe H0 G0) (he.pe pins σ H0 G0) hs h fun L C s' m H' I' q hn ⟨f0, f1, f2, f3, f4, f5⟩ => ?_) fun _ s' hq => wpAny_pure (wpAny_pure hq))
    show wpAny _ _ (assign (.Name y py) X.env (.ref L)) _ _ _
    refine wpAny_assign_Name (store_ok2 (v := V.ref L) I' hN hy (.inl hyl) rfl (fun s2 I2 ⟨a, sb, ha⟩ => ?_) (.inr hyl))
    have haC : C ≠ a := ha.elim (fun z => by rw [z]; exact f1) fun z e => f4 y a z e.symm
    exact ⟨m, hn.sameBut sb haC, fun h3 sb3 => ⟨_, H', I2.turned (t' := s2.toks) (fun b o hb e => (sb3.2 b hb).trans e) f0 f1 f3 f4 f5, q⟩⟩⟩⟩

/-! calling a def with data and a function -/
theorem callG_run {N ps : List Str} {a x : Str} {k : Nat} {At : Cx → RC → Str → Nat → MF → Prop} {GG : MF → MS} {T : List (Addr × Str)} (Dg : HasA X.prog X.w X.K X.mg X.base T x k N ps a At GG) : ∃ (g : Addr) (sg : Scope) (cdg : Value), X.mg x = some (.ref g) ∧ PySem.W.keepIn X.K (.ref g) = true ∧ N[ps.length]? = some a ∧ Vis sg a ∧
    ∀ {R : RC} {Wx : WX} {f : Addr} {us : List Value} {vs : List V} {ds : List D} {pins : List (Addr × Obj)} {s : Shared} {H H0 : Hp} {G0 G : Wd} {w : W} {σ : L2.St} {as : List Addr} {Q : VK} {act : MF}, Room (k + 1) X.A → Takes X Wx → Sim R ⟨X.K, X.mg, T, noL R.lm.fw⟩ →
      Inv X pins σ H s → Rel R H0 G0 G w σ H as → Rps R G ds vs → Vals vs us →
      PostE R H0 G0 Wx σ G H as (match bodyG N.length ps.length (GG act) ds w.S with
        | .ok rv S' => if rv.plain = true then .ok rv { w with S := S' } else .bad
        | .ex x S' => .ex x { w with S := S' }
        | .bad => .bad) Q →
      At (cxOf (L2.CX X.prog X.w) X.prog X.w X.K X.mg X.base N x sg g cdg X.A X.stack s H (WE Wx σ)) ⟨X.K, X.mg, T, ⟨fun n => if n = 0 then some f else none, fun _ G' => Wle G G', none, R.lm.fw⟩⟩ a ps.length act →
      wpAny (model X.prog X.w) X.A (call (.ref g) (us ++ [.ref f])) (EP X pins σ Q) X.xe s := by
  obtain ⟨g, st, od, an, osl, oc, kV, doc, pm, cdv, ct, hm, hk, lk, hcd, hb, Sg, hN, hv, hbody⟩ := Dg.ex
  refine ⟨g, defScope st, cdv, hm, hk, hN, hv, fun {R Wx f us vs ds pins s H H0 G0 G w σ as Q act} hr1 tk sm I2 rel2 rs rv h2 hact => ?_⟩
  have smZ : Sim R ⟨X.K, X.mg, T, ⟨fun n => if n = 0 then some f else none, fun _ G' => Wle G G', none, R.lm.fw⟩⟩ := ⟨sm.K, sm.mg, sm.T, sm.fw⟩
  have slZ : RSlot ⟨X.K, X.mg, T, ⟨fun n => if n = 0 then some f else none, fun _ G' => Wle G G', none, R.lm.fw⟩⟩ G H (.fn 0) (some (.ref f)) [] := .fn rfl (Wle.refl _) (Wle.refl _)
  have h3 := call_fin (R' := ⟨X.K, X.mg, T, ⟨fun n => if n = 0 then some f else none, fun _ G' => Wle G G', none, R.lm.fw⟩⟩) smZ rel2 h2
  have rc : codeAny (model X.prog X.w) X.A (.call (.ref g) ⟨us ++ [.ref f], []⟩) (CR (L2.CX X.prog X.w) X.stack X.prog X.w H s Q (WE Wx σ)) s := by
    unfold bodyG at h3
    by_cases c : ds.length = ps.length
    · rw [if_pos c] at h3
      have hvl : vs.length = ps.length := by rw [← rs.length]; exact c
      have hul : (us ++ [Value.ref f]).length = (ps ++ [a]).length := by
        have e1 := rv.length
        simp only [List.length_append, List.length_cons, List.length_nil]
        omega
      have hvl2 : (vs ++ [V.ref f]).length = (ps ++ [a]).length := by
        simp only [List.length_append, List.length_cons, List.length_nil]
        omega
      refine run_ofS (N := N) (ps := ps ++ [a]) (us := us ++ [.ref f]) (vs := vs ++ [.ref f]) lk hcd Sg hr1 I2.env0 (by have q := hb s (us ++ [.ref f]) I2.kIn (by simpa using hul); rw [List.append_nil] at q; exact q) (Vals.snoc (show RelV (.ref f) (.ref f) from rfl) rv) hvl2 fun hr' => ?_
      refine ⟨_, (hbody X.A X.stack s H (WE Wx σ) ⟨fun n => if n = 0 then some f else none, fun _ G' => Wle G G', none, R.lm.fw⟩ act hr' hact).ps H G, ?_⟩
      have env : REnv ⟨X.K, X.mg, T, ⟨fun n => if n = 0 then some f else none, fun _ G' => Wle G G', none, R.lm.fw⟩⟩ G H (ds.map .d ++ .fn 0 :: List.replicate (N.length - (ps.length + 1)) .un) (L2.start N (vs ++ [.ref f])) [] := by
        unfold L2.start
        rw [List.length_append, hvl, List.map_append, List.append_assoc]
        exact REnv.dsF slZ (rs.conv smZ) _
      refine ⟨G, ⟨ds.map .d ++ .fn 0 :: List.replicate (N.length - (ps.length + 1)) .un, w.S⟩, [], ⟨env, Bas.conv (R := R) smZ ⟨rel2.bas.cells, rel2.bas.nd, rel2.bas.free, rel2.bas.sub, rel2.bas.tabs, .refl _ _ _⟩, by simpa using rel2.bas.nd, by simp, by simp⟩, ?_⟩
      cases e : GG act ⟨ds.map .d ++ .fn 0 :: List.replicate (N.length - (ps.length + 1)) .un, w.S⟩ with
      | bad => rw [e] at h3; exact h3
      | bk _ => rw [e] at h3; exact h3.elim
      | ct _ => rw [e] at h3; exact h3.elim
      | nx w' =>
        rw [e] at h3
        exact fun σ' G' H' as' rel _ => h3.2 .non G' H' [] rel.bas (.d .non) (by intro b hb; simp at hb)
      | ex x w' =>
        rw [e] at h3
        exact fun σ' cls d G' H' as' rel x => h3 cls d G' H' rel.bas x
      | rt rv S' =>
        rw [e] at h3
        have h4 : FinR ⟨X.K, X.mg, T, ⟨fun n => if n = 0 then some f else none, fun _ G' => Wle G G', none, R.lm.fw⟩⟩ H G Wx σ (if rv.plain = true then RF.ok rv S' else RF.bad) Q := h3
        cases pl : rv.plain with
        | false => rw [pl, if_neg Bool.false_ne_true] at h4; exact h4.elim
        | true => rw [pl, if_pos rfl] at h4; exact h4.2
    · rw [if_neg c] at h3; exact h3.elim
  refine wpAny_call (codeAny_mono rc fun r s' hq => ?_)
  cases r with
  | error e => exact passAt tk σ pins H s e s' I2 hq
  | ok fl =>
    cases fl with
    | ret u => exact I2.after hq
    | next => exact False.elim hq
    | brk => exact False.elim hq
    | cont => exact False.elim hq

/-! x(work), work one of the def's lambdas -/
def mCallW (GG : MF → MF) (tbl : List (List Nat × ME)) (i : Nat) : ME := fun w => match w.env[i]? with
  | some (.d (.fn j)) => match tbl[j]? with
    | some cm => match GG (lamF (capE cm.1 (w.env.set i .un)) [] cm.2) [] w.S with
      | .ok rv S' => if rv.plain = true then .ok rv { w with S := S' } else .bad
      | .ex x S' => .ex x { w with S := S' }
      | .bad => .bad
    | none => .bad
  | _ => .bad
/-- a lambda of the def, and its mirror -/
structure LamD (X : Cx) (R : RC) (kl : Nat) (q : LamI) (cm : List Nat × ME) : Prop where
  L : LamP X.env.scope q.2.2.1 q.2.2.2
  loc : ∀ y, q.2.2.1.names.lookup y = some .local → y ∉ X.N
  body : ∀ (f c' : Addr) (A : Around) (outer : List Env) (s : Shared) (H : Hp) (E : XK), Room kl (A.deeper (lamEnv X q.2.2.1 s.heap.objs.size f c')) → PEm (lamCx X A outer s H E q.2.2.1 f c') ⟨R.K, R.mg, R.T, noL R.lm.fw⟩ (fun cls d _ H => E cls d H) q.2.1 cm.2
inductive LamDs (X : Cx) (R : RC) (kl : Nat) : List LamI → List (List Nat × ME) → Prop
  | nil : LamDs X R kl [] []
  | cons {q cm qs cms} : LamD X R kl q cm → LamDs X R kl qs cms → LamDs X R kl (q :: qs) (cm :: cms)
theorem LamDs.get {kl : Nat} : ∀ {qs : List LamI} {cms : List (List Nat × ME)} {j : Nat} {q : LamI} {cm : List Nat × ME}, LamDs X R kl qs cms → qs[j]? = some q → cms[j]? = some cm → LamD X R kl q cm
  | _, _, _, _, _, .nil, e, _ => by simp at e
  | _, _, 0, _, _, .cons h _, e1, e2 => by simp at e1 e2; subst e1 e2; exact h
  | _, _, j + 1, _, _, .cons _ t, e1, e2 => LamDs.get (j := j) t (by simpa using e1) (by simpa using e2)
theorem elt_callW {nN iv k kl : Nat} {N : List Str} {a x v : Str} {GG : MF → MS} {T : List (Addr × Str)} {LT : List LamI} {tbl : List (List Nat × ME)} {p p1 : Pos} (D : HasA X.prog X.w X.K X.mg X.base T x k N [] a ActAt0 GG) (hr1 : Room (k + 1) X.A) (hr2 : Room (kl + 2) X.A) (sm : Sim R ⟨X.K, X.mg, T, noL R.lm.fw⟩)
    (hfw : R.lm.fw = fwOf X LT) (hW : LamDs X R kl LT tbl) (hv : X.N[iv]? = some v) (hg : ∀ (s : Shared) (H : Hp) (C : Addr) (cl : List (Str × Addr)) (fp : List Addr), Gl (X.blk s H scope (compEnvC scope cl C X.env) fp) x) (hvis : Vis (relabel scope X.env) v)
    (hd : (v == ("__debug__" : Str)) = false := by decide) (hcd : (v == ("__classdict__" : Str)) = false := by decide) (had : (a == ("__debug__" : Str)) = false := by decide) (hacd : (a == ("__classdict__" : Str)) = false := by decide) (hdb : (x == ("__debug__" : Str)) = false := by decide) (hnN : N.length = nN := by rfl)
    (he : ∀ (s : Shared) (H : Hp) (C : Addr) (cl : List (Str × Addr)) (fp : List Addr), starEach [.Name v p1] (compEnvC scope cl C X.env) = (false, eval (.Name v p1) (compEnvC scope cl C X.env)) :: starEach [] (compEnvC scope cl C X.env) := by intros; rfl) :
    EltM X R [iv] scope (.Call (.Name x p) [.Name v p1] [] pos) (mCallW (fun act => bodyG nN 0 (GG act)) tbl iv) := by
  subst hnN
  refine ⟨fun pins σ H0 G0 s3 H3 C cl fp I3 f3 => ⟨fun pz s σY H Q J ⟨hw, G, w, as, rel, h⟩ => ?_⟩⟩
  have hp : PostE R H0 G0 WN σY G H as (mCallW (fun act => bodyG N.length 0 (GG act)) tbl iv w) Q := h
  unfold mCallW at hp
  split at hp
  · rename_i j ew
    obtain ⟨o, bs, cs, es, sl, _⟩ := rel.env.at ew
    cases sl with
    | d rp =>
      cases rp with
      | @fn n f G1 hf le =>
        rw [hfw] at hf
        obtain ⟨q, c', dV, doc, pm, ctv, ko, binds, hLT, ho, hcode, hko, hB, hbl⟩ := hf
        cases ht : tbl[j]? with
        | none => rw [ht] at hp; exact hp.elim
        | some cm =>
          rw [ht] at hp
          simp only at hp
          have LD := hW.get hLT ht
          obtain ⟨g, sg, cdg, hm, hk, hN, hva, run⟩ := callG_run (X := X.blk s3 H3 scope (compEnvC scope cl C X.env) fp) D
          refine wpAny_Call_Name_kw (ld_glob J (hg s3 H3 C cl fp) hm ?_ hdb)
          refine PySem.W.callWith_K (h₀ := X.base) J.ok.mod.kin hk (thn ((pa_cons (pe_var (X := X.blk s3 H3 scope (compEnvC scope cl C X.env) fp) (pos := p1) (i := iv) hv hvis hd hcd) pa_nil (he s3 H3 C cl fp)).run pos pz s σY H (fun vs H1 => vs = [.ref f] ∧ H1 = H) J ⟨.ref f, es, rfl, rfl⟩) fun us s2 ⟨vs, H2, I2, rv, ev, eH⟩ => ⟨I2.kIn, ?_⟩) (he s3 H3 C cl fp) (by rfl)
          subst ev
          rw [eH] at I2
          cases rv with
          | @cons _ u _ _ r0 rn =>
            cases rn
            cases r0
            have hop : okVs w.env [iv] = true := by simp [okVs, ew, plainRV]
            obtain ⟨asw, q1, q2, q3⟩ := rel.env.wipe hop
            obtain ⟨n1, n2, n3⟩ := List.nodup_append.mp rel.nd
            have relw : Rel R H0 G0 G { w with env := wipeE w.env [iv] } (wipe σY [iv]) H asw := ⟨q1, rel.bas, List.nodup_append.mpr ⟨q3 n1, n2, fun a ha b hb => n3 a ((q2 a).mp ha) b hb⟩, fun a ha => rel.free a ((q2 a).mp ha), fun a ha => rel.fresh a ((q2 a).mp ha)⟩
            have IX : Inv X pins (wipe σY [iv]) H s2 := (blk_back I3 f3 I2).weak (by rw [hw, wipe_length]) fun i v e => by rw [hw] at e; exact (wipe_some e).1
            have hC : ∀ {p : Addr × (Heap → Prop)}, p ∈ G1.C → p ∈ G.C := fun {p} z => le.c p z
            refine run (us := []) (vs := []) (ds := []) hr1 L2.takes0 sm I2 rel .nil .nil hp ?_
            intro pn xe Wz tk pa pb
            exact em_act0G (X := X) (caps := cm.1) (wm := { w with env := wipeE w.env [iv] }) (Gm := G) IX relw LD.L (fun pz σ2 H2 s2 H0' G0' G2 w2 as2 K rel2 le2 => ⟨(K.hok f _ (rel2.bas.tabs.2.1 _ (le2.c _ (hC ho)))).1, fun p hp => (K.hok p.1 _ (rel2.bas.tabs.2.1 _ (le2.c _ (hC (hko p hp))))).1⟩)
              hB hbl LD.loc ⟨sm.K, sm.mg, sm.T, sm.fw⟩ rfl (fun G1 hG => ⟨hG, hG.c _ (hC hcode)⟩) (hr2.deeper _) (fun A outer s H E hr => LD.body f c' A outer s H E hr) tk hN hva had hacd
  · exact hp.elim
end
end DB

set_option Elab.async false
set_option linter.all false
set_option maxRecDepth 100000
set_option maxHeartbeats 4000000
namespace DB
open PySem PySem.Spec PyProof.Rows L2 LamX
/-! a def that makes lists of functions: nothing that it gets or tells is one -/
def spFX (K : PySem.W.Frag) (mg : Str → Option Value) (T : List (Addr × Str)) (F : MF) : Sp := fun vs H Q E => ∃ G S ds, (∀ fw, Rps ⟨K, mg, T, noL fw⟩ G ds vs) ∧ (∀ fw, Bas ⟨K, mg, T, noL fw⟩ H G G S H) ∧ (match F ds S with
  | .ok rv S' => rv.plain = true ∧ ∀ fw v G' H' bs, Bas ⟨K, mg, T, noL fw⟩ H G G' S' H' → RSlot ⟨K, mg, T, noL fw⟩ G' H' rv (some v) bs → Loose H G' [] bs → Q v H'
  | .ex x S' => ∀ fw cls d G' H', Bas ⟨K, mg, T, noL fw⟩ H G G' S' H' → ExcR ⟨K, mg, T, noL fw⟩ G' H' x cls d → E cls d H'
  | .bad => False)
theorem fn_MX {P : Program} {w : World} {K : PySem.W.Frag} {mg : Str → Option Value} {base : Heap} {x qual : Str} {st : Stmt} {f : Addr} {fd : FuncData} {N ps : List Str} {k : Nat} {m : MS} {T : List (Addr × Str)} (fwc : Cx → Nat → Addr → Wd → Prop)
    (Fu : Fun K x qual st f fd) (S : FnScope N ps (defScope st))
    (body : ∀ (cdv : Value) (A : Around) (outer : List Env) (s : Shared) (H : Hp) (E : XK), fd.code = cdv → Room k (A.deeper (envOfC qual (defScope st) s.heap.objs.size f cdv)) →
      PBm (cxOf (L2.CX P w) P w K mg base N qual (defScope st) f cdv A outer s H E) ⟨K, mg, T, noL (fwc (cxOf (L2.CX P w) P w K mg base N qual (defScope st) f cdv A outer s H E))⟩ (fun cls d _ H => E cls d H) (defBody st) m) :
    FnOk P w K mg base (L2.CX P w) (k + 1) f fd ps (spFX K mg T (bodyF N.length ps.length m)) := by
  obtain ⟨oc, od, kV, doc, pm, an, cdv, ct, osl, rfl, lk, hcd⟩ := Fu.ex
  refine L2.fn_of lk hcd S (fun vs H Q E h => ?_) fun A outer s H vs Q E hr h => ?_
  · obtain ⟨G, S, ds, rs, b, h⟩ := h
    unfold bodyF at h
    by_cases c : ds.length = ps.length
    · rw [← (rs fun _ _ _ => False).length]; exact c
    · rw [if_neg c] at h; exact h.elim
  · obtain ⟨G, Sc, ds, rs, b, h⟩ := h
    refine ⟨_, (body cdv A outer s H E rfl hr).ps H G, ?_⟩
    unfold bodyF at h
    generalize fwc (cxOf (L2.CX P w) P w K mg base N qual (defScope st) f cdv A outer s H E) = fw
    by_cases c : ds.length = ps.length
    · rw [if_pos c] at h
      have hv : vs.length = ps.length := by rw [← (rs fw).length]; exact c
      have env : REnv ⟨K, mg, T, noL fw⟩ G H (ds.map .d ++ List.replicate (N.length - ps.length) .un) (L2.start N vs) [] := by
        unfold L2.start
        rw [hv]
        exact REnv.ds (rs fw) _
      refine ⟨G, ⟨ds.map .d ++ List.replicate (N.length - ps.length) .un, Sc⟩, [], ⟨env, b fw, by simpa using (b fw).nd, by simp, by simp⟩, ?_⟩
      cases e : m ⟨ds.map .d ++ List.replicate (N.length - ps.length) .un, Sc⟩ with
      | bad => rw [e] at h; exact h
      | bk _ => rw [e] at h; exact h.elim
      | ct _ => rw [e] at h; exact h.elim
      | nx w' =>
        rw [e] at h
        exact fun σ' G' H' as' rel _ => h.2 fw .non G' H' [] rel.bas (.d .non) (by intro b hb; simp at hb)
      | ex x w' =>
        rw [e] at h
        exact fun σ' cls d G' H' as' rel x => h fw cls d G' H' rel.bas x
      | rt rv S' =>
        rw [e] at h
        have h2 : (match (if rv.plain = true then RF.ok rv S' else RF.bad) with
          | .ok rv S' => rv.plain = true ∧ ∀ fw v G' H' bs, Bas ⟨K, mg, T, noL fw⟩ H G G' S' H' → RSlot ⟨K, mg, T, noL fw⟩ G' H' rv (some v) bs → Loose H G' [] bs → Q v H'
          | .ex x S' => ∀ fw cls d G' H', Bas ⟨K, mg, T, noL fw⟩ H G G' S' H' → ExcR ⟨K, mg, T, noL fw⟩ G' H' x cls d → E cls d H'
          | .bad => False) := h
        cases pl : rv.plain with
        | false => rw [pl, if_neg Bool.false_ne_true] at h2; exact h2.elim
        | true => rw [pl, if_pos rfl] at h2; exact h2.2 fw
    · rw [if_neg c] at h; exact h.elim
theorem law_impX {P : Program} {w : World} {K : PySem.W.Frag} {mg : Str → Option Value} {base : Heap} {k : Nat} {f : Addr} {fd : FuncData} {ps : List Str} {F : MF} {T : List (Addr × Str)} (Fn : FnOk P w K mg base (L2.CX P w) k f fd ps (spFX K mg T F))
    (hF : ∀ ns : List Int, ns.length ≤ 63 → ∃ S, F [.scr (ns.map D.int)] [] = .ok (.d (.bl true)) S) : FnOk P w K mg base (L2.CX P w) k f fd ps (spLawT K T) :=
  Fn.imp fun vs H Q E ⟨a, ns, ev, hl, hs, hT, q⟩ => by
    obtain ⟨S, e⟩ := hF ns hl
    refine ⟨⟨noT H, [], []⟩, [], [.scr (ns.map D.int)], fun fw => ?_, fun fw => ⟨⟨rfl, fun n c b h1 h2 => by simp at h1⟩, List.nodup_nil, fun b hb => by simp at hb, fun b o hb => (noT_some hb).1, ⟨fun p hp => .nil (hT p hp), fun p hp => by simp at hp, fun b ps hb => (noT_some hb).2 ps rfl⟩, .refl _ _ _⟩, ?_⟩
    · rw [ev]
      exact .cons (.scr (noT_sqL hs) (ints_rp ns)) .nil
    · rw [e]
      refine ⟨rfl, fun fw v G' H' bs b sl lo => ?_⟩
      cases sl with
      | d r => cases r; exact q H'
/-- a lambda as a value -/
theorem em_mkF0 {X : Cx} {R : RC} {Wx : WX} {T : List (Addr × Str)} {LT : List LamI} {j : Nat} {params : Arguments} {body : Expr} {scope : Scope} {pos : Pos} (M : MkX X T) (hT : R.T = T) (hfw : R.lm.fw = fwOf X LT) (hj : LT[j]? = some (params, body, scope, [])) (L : LamP X.env.scope scope []) (hdef : defaultsOf params X.env = ([], []))
    (hb : ∀ (q : Str) (cl : List (Str × Addr)) (doc pm cv ctv : Value), bindArgs (PySem.W.kdv_fn "<lambda>" q params (.expr body) scope cl .none doc pm cv ctv) ⟨[], []⟩ = pure []) : PEm X R Wx (.Lambda params body scope pos) (mMkF j) :=
  em_mkF (us := fun vs bs => vs = [] ∧ bs = []) (bs0 := []) (lmk0 M L hdef fun q cl doc pm cv ctv vs bs ⟨e1, e2⟩ => by subst e1 e2; exact hb q cl doc pm cv ctv) hT hfw hj ⟨rfl, rfl⟩ fun bs h y hy => by rw [h.2] at hy; simp at hy
theorem em_mkFD {X : Cx} {R : RC} {Wx : WX} {T : List (Addr × Str)} {LT : List LamI} {j i : Nat} {n : Int} {pn : Str} {params : Arguments} {body : Expr} {scope : Scope} {pos p2 : Pos} (M : MkX X T) (hT : R.T = T) (hfw : R.lm.fw = fwOf X LT) (hj : LT[j]? = some (params, body, scope, [pn])) (L : LamP X.env.scope scope [pn]) (hdef : params.defaults = [.Constant (.int n) i p2]) (hk : params.kw_defaults = [])
    (hb : ∀ (q : Str) (cl : List (Str × Addr)) (t : Addr) (tk : Tok) (doc pm cv ctv : Value) (sZ : Shared), sZ.heap.get? t = some (PySem.W.kdv_tup [.int n tk]) → BindsTo sZ (PySem.W.kdv_fn "<lambda>" q params (.expr body) scope cl (.ref t) doc pm cv ctv) ⟨[], []⟩ [(pn, .int n tk)]) : PEm X R Wx (.Lambda params body scope pos) (mMkF j) :=
  em_mkF (us := fun vs bs => vs = [] ∧ ∃ tk, bs = [(pn, .int n tk)]) (bs0 := [(pn, .int n 0)]) (lmkD M L hdef hk hb) hT hfw hj ⟨rfl, _, rfl⟩ fun bs h y hy => by
    obtain ⟨_, tk, e⟩ := h
    rw [e] at hy
    rw [List.mem_singleton.mp hy]
    exact List.mem_singleton.mpr rfl
/-! where in the text a lambda stands -/
def stBody : Stmt → List Stmt
  | .For _ _ b _ _ => b
  | .FunctionDef _ _ b _ _ _ _ _ _ _ => b
  | _ => []
abbrev sNo : Stmt := .Pass ⟨0, 0, 0, 0⟩
def lamI (ps : List Str) : Expr → LamI
  | .Lambda params body scope _ => (params, body, scope, ps)
  | e => (⟨[], [], .none, [], [], .none, []⟩, e, defScope sNo, ps)
abbrev eNo : Expr := .Name "" ⟨0, 0, 0, 0⟩
def stVal : Stmt → Expr
  | .Assign _ v _ => v
  | .Expr v _ => v
  | _ => eNo
def eElts : Expr → List Expr
  | .List es _ => es
  | _ => []
def eArgs : Expr → List Expr
  | .Call _ es _ _ => es
  | _ => []
def eLeft : Expr → Expr
  | .BinOp a _ _ _ => a
  | _ => eNo
def eRight : Expr → Expr
  | .BinOp _ _ b _ => b
  | _ => eNo
end DB

set_option Elab.async false
set_option linter.all false
set_option maxRecDepth 100000
set_option maxHeartbeats 4000000
namespace DB
open PySem PySem.Spec PyProof.Rows L2 LamX
section
variable {R R' : RC} {H0 H H' H1 H2 : Hp} {G0 G G' G1 G2 : Wd} {w w' w1 : W} {σ σ' : L2.St} {as as' as1 as2 bs : List Addr} {Wx : WX} {X : Cx}
  {a b c e : Expr} {ma mb mc m : ME} {pos : Pos} {es : List Expr} {st : Stmt} {sts : List Stmt}
/-! what a lambda captures is nobody's own from then on -/
def frz1 (i : Nat) (w : W) : W := match w.env[i]? with
  | some (.own ds) => { w with env := w.env.set i (.d (.lst ds)) }
  | some (.odic ks vs) => { w with env := w.env.set i (.d (.dic ks vs)) }
  | _ => w
def frzs : List Nat → W → W
  | [], w => w
  | i :: is, w => frzs is (frz1 i w)
def mFrz (caps : List Nat) (m : ME) : ME := fun w => m (frzs caps w)
theorem Rel.frz1 (i : Nat) (rel : Rel R H0 G0 G w σ H as) : ∃ G' as', Rel R H0 G0 G' (frz1 i w) σ H as' ∧ (∀ a ∈ as', a ∈ as) ∧ Ext as G H G' H := by
  unfold DB.frz1
  cases e : w.env[i]? with
  | none => exact ⟨G, as, rel, fun _ h => h, .refl _ _ _⟩
  | some r =>
    obtain ⟨o, bs, cs, e1, e2, e3, e4, e5⟩ := rel.env.at e
    cases e2 with
    | un => exact ⟨G, as, rel, fun _ h => h, .refl _ _ _⟩
    | fn _ _ _ => exact ⟨G, as, rel, fun _ h => h, .refl _ _ _⟩
    | xc _ _ => exact ⟨G, as, rel, fun _ h => h, .refl _ _ _⟩
    | d _ => exact ⟨G, as, rel, fun _ h => h, .refl _ _ _⟩
    | @own p ds xs hp rs =>
      have hz : G.Z p = none := rel.free p ((e3 p).mpr (.inl (List.mem_singleton.mpr rfl)))
      have rp : Rp R (G.put p (.lst xs)) (.lst ds) (.ref p) := .lst put_at (rs.mono (put_le hz))
      obtain ⟨as', rel', sub, ext, _⟩ := rel.letgo (r' := .d (.lst ds)) e e1 hp (fun {o' bs'} s z => by cases s; cases z; rfl) (.d rp)
      exact ⟨_, as', rel', sub, ext⟩
    | @odic p ks ds xs hp hl rs =>
      have hz : G.Z p = none := rel.free p ((e3 p).mpr (.inl (List.mem_singleton.mpr rfl)))
      have rp : Rp R (G.put p (.dK (ks.zip xs))) (.dic ks ds) (.ref p) := .dic (.inl put_at) hl (rs.mono (put_le hz))
      obtain ⟨as', rel', sub, ext, _⟩ := rel.letgo (r' := .d (.dic ks ds)) e e1 hp (fun {o' bs'} s z => by cases s; cases z; rfl) (.d rp)
      exact ⟨_, as', rel', sub, ext⟩
theorem Rel.frzs : ∀ (is : List Nat) {G : Wd} {w : W} {as : List Addr}, Rel R H0 G0 G w σ H as → ∃ G' as', Rel R H0 G0 G' (frzs is w) σ H as' ∧ (∀ a ∈ as', a ∈ as) ∧ Ext as G H G' H
  | [], G, w, as, rel => ⟨G, as, rel, fun _ h => h, .refl _ _ _⟩
  | i :: is, G, w, as, rel => by
    obtain ⟨G1, as1, r1, s1, x1⟩ := rel.frz1 i
    obtain ⟨G2, as2, r2, s2, x2⟩ := Rel.frzs is r1
    exact ⟨G2, as2, r2, fun a h => s1 a (s2 a h), x1.trans (fun a h => .inl (s1 a h)) x2⟩
theorem em_frz (caps : List Nat) (h : PEm X R Wx e m) : PEm X R Wx e (mFrz caps m) :=
  ⟨fun H0 G0 => PE.cons (h.pe H0 G0) fun σ H Q ⟨G, w, as, rel, h⟩ => by
    obtain ⟨G1, as1, r1, s1, x1⟩ := Rel.frzs caps rel
    exact ⟨G1, frzs caps w, as1, r1, PostE.shift h x1 s1⟩⟩
end
end DB

set_option Elab.async false
set_option linter.all false
set_option maxRecDepth 100000
set_option maxHeartbeats 4000000
namespace DB
open PySem PySem.Spec PyProof.Rows L2 LamX
section
variable {R R' : RC} {H0 H H' H1 H2 : Hp} {G0 G G' G1 G2 : Wd} {w w' w1 : W} {σ σ' : L2.St} {as as' as1 as2 bs : List Addr} {Wx : WX} {X : Cx}
  {a b c e o : Expr} {ma mb mc m : ME} {pos : Pos} {es : List Expr} {st : Stmt} {sts : List Stmt}

/-! a method of what is never there -/
def mExO (m : ME) : ME := fun w => match m w with
  | .ex x w1 => .ex x w1
  | _ => .bad
theorem em_exo {name : Str} {apos : Pos} (h : PEm X R Wx o m) (hbase : attributeBase o name X.env (eval o X.env) = eval o X.env := by rfl) (hline : (apos.endLine == pos.line) = true := by rfl) : PEm X R Wx (.Call (.Attribute o name apos) [] [] pos) (mExO m) :=
  ⟨fun H0 G0 => ⟨fun pins s σ H Q I ⟨G, w, as, rel, hp⟩ => by
    have hp : PostE R H0 G0 Wx σ G H as (mExO m w) Q := hp
    refine Call_method0 hbase hline (thn ((h.pe H0 G0).run pins s σ H (fun _ _ => False) I ⟨G, w, as, rel, ?_⟩) fun u s1 ⟨x, H1, I1, r1, q1⟩ => q1.elim)
    unfold mExO at hp
    cases e : m w with
    | bad => rw [e] at hp; exact hp
    | ex x w1 => rw [e] at hp; exact hp
    | ok rv w1 => rw [e] at hp; exact hp.elim⟩⟩

/-! range(i, j, c) -/
def rngC (i c : Int) (n : Nat) : List D := (List.range n).map fun k : Nat => .int (i + (k : Nat) * c)
/-- how many items -/
def sizC (i j c : Int) : Nat := (Builtin.Range.rangeSize i j c).toNat
def okC (i j c : Int) : Bool := decide (c ≠ 0) && decide (c.natAbs < 1073741824) && Builtin.Range.small i j c && decide (0 ≤ Builtin.Range.rangeSize i j c)
def mRng3 (r : MA) : MA := fun w => match r w with
  | .ok [.int i, .int j, .int c] w1 => if okC i j c = true then .ok (rngC i c (sizC i j c)) w1 else .bad
  | .ok _ _ => .bad
  | .ex x w1 => .ex x w1
  | .bad => .bad
theorem walks_rangeC {lo c : Int} {n : Nat} : Walks R (Itc lo c n) (rngC lo c n) G := fun G2 H2 le s => by
  refine ⟨fun i d e => ?_, ?_⟩
  · unfold rngC at e
    rw [List.getElem?_map] at e
    obtain ⟨k, e1, rfl⟩ := Option.map_eq_some_iff.mp e
    obtain ⟨hi, e2⟩ := List.getElem?_eq_some_iff.mp e1
    rw [List.getElem_range] at e2
    subst e2
    refine ⟨(by simpa using hi : i < n), fun x H3 ⟨e3, q⟩ => ?_⟩
    rw [e3, q]
    exact ⟨G2, .refl s, .int⟩
  · show n ≤ _
    simp [rngC]
theorem im_range3 {tg : Expr} {mr : MA} {p : Pos} (hg : Gl X "range") (hm : X.mg "range" = none) (ha : PLm X R Wx [a, b, c] mr) (hs : starEach [a, b, c] X.env = (false, eval a X.env) :: starEach [b, c] X.env := by rfl) (hpl : (backTo pos (starEach [b, c] X.env)).any (·.1) = false := by rfl) :
    PIm X R Wx tg (.Call (.Name "range" p) [a, b, c] [] pos) (mRng3 mr) :=
  ⟨fun H0 G0 => PI.cons (pi_range3 hg hm (ha.pe H0 G0) hs hpl) fun σ H Q ⟨G, w, as, rel, h⟩ => by
    refine ⟨G, w, as, rel, ?_⟩
    have h' : (match mRng3 mr w with
      | .ok ds w' => ∀ J G' H' as', Rel R H0 G0 G' w' σ H' as' → Ext as G H G' H' → (∀ a ∈ as', a ∈ as) → Walks R J ds G' → Q J H'
      | .ex x w' => ∀ cls d G' H' as', Rel R H0 G0 G' w' σ H' as' → ExcR R G' H' x cls d → Wx cls d σ H'
      | .bad => False) := h
    unfold mRng3 at h'
    cases e : mr w with
    | bad => rw [e] at h'; exact h'
    | ex x w1 => rw [e] at h'; exact h'
    | ok ds w1 =>
      rw [e] at h'
      intro vs G' H' as' rel' ext sub ls
      split at h'
      · rename_i ds' w' heq
        split at heq
        · rename_i i j k w2 e2
          cases e2
          split at heq
          · rename_i c
            cases heq
            cases ls with
            | cons l1 ls =>
              cases ls with
              | cons l2 ls =>
                cases ls with
                | cons l3 ls =>
                  cases ls
                  cases l1.int
                  cases l2.int
                  cases l3.int
                  unfold okC at c
                  simp only [Bool.and_eq_true, decide_eq_true_eq] at c
                  obtain ⟨⟨⟨c1, c2⟩, c3⟩, c4⟩ := c
                  exact ⟨i, j, k, sizC i j k, rfl, ⟨c1, c2, c3, by unfold sizC; omega⟩, h' _ G' H' as' rel' ext sub walks_rangeC⟩
          · cases heq
        · cases heq
        · cases heq
        · cases heq
      · rename_i heq
        split at heq
        · split at heq <;> cases heq
        · cases heq
        · rename_i e2; cases e2
        · cases heq
      · exact h'.elim⟩

/-! what is only looked at -/
/-- all that is known, but what may change -/
noncomputable def viewS (G : Wd) (H : Hp) : Wd := open Classical in ⟨fun a => if a ∈ G.sas then none else noT H a, G.sas, G.C⟩
theorem view_at {p : Addr} {o : HO} (h : H p = some o) (n : ∀ ps, o ≠ .tbl ps) (hs : p ∉ G.sas) : (viewS G H).Z p = some o := by
  unfold viewS
  simp only [hs, if_false]
  exact noT_of h n
theorem view_some {p : Addr} {o : HO} (h : (viewS G H).Z p = some o) : H p = some o ∧ (∀ ps, o ≠ .tbl ps) ∧ p ∉ G.sas := by
  unfold viewS at h
  simp only at h
  by_cases c : p ∈ G.sas
  · rw [if_pos c] at h; cases h
  · rw [if_neg c] at h
    exact ⟨(noT_some h).1, (noT_some h).2, c⟩
theorem Bas.view {S : List Cell} (b : Bas R H0 G0 G S H) : Wle G (viewS G H) :=
  ⟨fun a o h => view_at (b.sub a o h) (fun ps z => b.tabs.2.2 a ps (by rw [← z]; exact h)) (fun z => by rw [b.free a z] at h; cases h), List.prefix_refl _, fun _ h => h⟩
theorem view_mono (x : Ext as G H G' H') : Wle (viewS G H) (viewS G' H') :=
  ⟨fun a o h => by
    obtain ⟨h1, h2, h3⟩ := view_some h
    exact view_at (x.keep a o h1 h2 h3) h2 (x.nosas h1 h3), x.le.s, x.le.c⟩
theorem Live.view {S : List Cell} {x : D} {v : V} (l : Live R G H x v) (b : Bas R H0 G0 G S H) : Rp R (viewS G H) x v := by
  cases l with
  | rp r => exact r.mono b.view
  | own h hs r => exact .lst (view_at h (fun _ z => by cases z) hs) (r.mono b.view)
  | odic h hs l r => exact .dic (.inl (view_at h (fun _ z => by cases z) hs)) l (r.mono b.view)
def PostV (R : RC) (H0 : Hp) (G0 : Wd) (Wx : WX) (σ : L2.St) (G : Wd) (H : Hp) (as : List Addr) (r : Res) (Q : VK) : Prop :=
  match r with
  | .ok rv w' => match rv.frz with
    | some x => ∀ v G' H' as', Rel R H0 G0 G' w' σ H' as' → Ext as G H G' H' → (∀ a ∈ as', a ∈ as) → Rp R (viewS G' H') x v → Q v H'
    | none => False
  | .ex x w' => ∀ cls d G' H' as', Rel R H0 G0 G' w' σ H' as' → ExcR R G' H' x cls d → Wx cls d σ H'
  | .bad => False
def PostW (R : RC) (H0 : Hp) (G0 : Wd) (Wx : WX) (σ : L2.St) (G : Wd) (H : Hp) (as : List Addr) (r : RL) (Q : List V → Hp → Prop) : Prop :=
  match r with
  | .ok ds w' => ∀ vs G' H' as', Rel R H0 G0 G' w' σ H' as' → Ext as G H G' H' → (∀ a ∈ as', a ∈ as) → Rps R (viewS G' H') ds vs → Q vs H'
  | .ex x w' => ∀ cls d G' H' as', Rel R H0 G0 G' w' σ H' as' → ExcR R G' H' x cls d → Wx cls d σ H'
  | .bad => False
def liftV (R : RC) (Wx : WX) (H0 : Hp) (G0 : Wd) (m : ME) : TE := fun σ H Q => ∃ G w as, Rel R H0 G0 G w σ H as ∧ PostV R H0 G0 Wx σ G H as (m w) Q
def liftW (R : RC) (Wx : WX) (H0 : Hp) (G0 : Wd) (m : MA) : TA := fun σ H Q => ∃ G w as, Rel R H0 G0 G w σ H as ∧ PostW R H0 G0 Wx σ G H as (m w) Q
structure PVm (X : Cx) (R : RC) (Wx : WX) (e : Expr) (m : ME) : Prop where
  pe : ∀ H0 G0, PE X e (liftV R Wx H0 G0 m)
structure PVs (X : Cx) (R : RC) (Wx : WX) (es : List Expr) (m : MA) : Prop where
  pe : ∀ H0 G0, PA X es (liftW R Wx H0 G0 m)
theorem PostW.shift {r : RL} {Q : List V → Hp → Prop} (h : PostW R H0 G0 Wx σ G H as r Q) (x : Ext as G H G1 H1) (s : ∀ a ∈ as1, a ∈ as) : PostW R H0 G0 Wx σ G1 H1 as1 r Q := by
  cases r with
  | ok ds w' => exact fun vs G' H' as' rel ext sub rs => h vs G' H' as' rel (x.trans (fun a ha => .inl (s a ha)) ext) (fun a ha => s a (sub a ha)) rs
  | ex x w' => exact h
  | bad => exact h
theorem vm_o (h : POm X R Wx e m) : PVm X R Wx e m := ⟨fun H0 G0 => PE.cons (h.pe H0 G0) fun σ H Q ⟨G, w, as, rel, h⟩ => by
  refine ⟨G, w, as, rel, ?_⟩
  cases e : m w with
  | bad => rw [e] at h; exact h
  | ex x w1 => rw [e] at h; exact h
  | ok rv w1 =>
    rw [e] at h
    have h' : (match rv.frz with
      | some x => ∀ v G' H' as', Rel R H0 G0 G' w1 σ H' as' → Ext as G H G' H' → (∀ a ∈ as', a ∈ as) → Rp R (viewS G' H') x v → Q v H'
      | none => False) := h
    show (match rv.frz with
      | some x => ∀ v G' H' as', Rel R H0 G0 G' w1 σ H' as' → Ext as G H G' H' → (∀ a ∈ as', a ∈ as) → Live R G' H' x v → Q v H'
      | none => False)
    cases ef : rv.frz with
    | none => rw [ef] at h'; exact h'.elim
    | some x =>
      rw [ef] at h'
      exact fun v G' H' as' rel' ext sub lv => h' v G' H' as' rel' ext sub (lv.view rel'.bas)⟩
theorem vs_nil : PVs X R Wx [] mNil := ⟨fun H0 G0 => PA.cons pa_nil fun σ H Q ⟨G, w, as, rel, h⟩ => h [] G H as rel (.refl _ _ _) (fun _ h => h) .nil⟩
theorem vs_cons {r : MA} (ha : PVm X R Wx a m) (hr : PVs X R Wx es r) (hs : starEach (a :: es) X.env = (false, eval a X.env) :: starEach es X.env := by rfl) : PVs X R Wx (a :: es) (mCons m r) :=
  ⟨fun H0 G0 => PA.cons (pa_cons (ha.pe H0 G0) (hr.pe H0 G0) hs) fun σ H Q ⟨G, w, as, rel, h⟩ => by
    have h' : PostW R H0 G0 Wx σ G H as ((m w).bl fun x w1 => (r w1).cons x) Q := h
    refine ⟨G, w, as, rel, ?_⟩
    cases e : m w with
    | bad => rw [e] at h'; exact h'
    | ex x w1 => rw [e] at h'; exact h'
    | ok rv w1 =>
      rw [e] at h'
      show match rv.frz with | some x => _ | none => False
      cases ef : rv.frz with
      | none =>
        have : (Res.ok rv w1).bl (fun x w1 => (r w1).cons x) = .bad := by unfold Res.bl; simp only [ef]
        rw [this] at h'; exact h'
      | some x =>
        have : (Res.ok rv w1).bl (fun x w1 => (r w1).cons x) = (r w1).cons x := by unfold Res.bl; simp only [ef]
        rw [this] at h'
        intro v G1 H1 as1 rel1 ext sub rp
        have h2 := PostW.shift h' ext sub
        refine ⟨G1, w1, as1, rel1, ?_⟩
        cases er : r w1 with
        | bad => rw [er] at h2; exact h2
        | ex x w2 => rw [er] at h2; exact h2
        | ok ds w2 =>
          rw [er] at h2
          exact fun vs G' H' as' rel' ext' sub' rs => h2 (v :: vs) G' H' as' rel' ext' sub' (.cons (rp.mono (view_mono ext')) rs)⟩
theorem lift_wb {r : MA} {k : List D → W → Res} {Q1 : List V → Hp → Prop} {Q : VK} (rel : Rel R H0 G0 G w σ H as) (h : PostE R H0 G0 Wx σ G H as ((r w).bd k) Q)
    (c : ∀ vs ds G1 H1 as1 w1, Rel R H0 G0 G1 w1 σ H1 as1 → Rps R (viewS G1 H1) ds vs → PostE R H0 G0 Wx σ G1 H1 as1 (k ds w1) Q → Q1 vs H1) : liftW R Wx H0 G0 r σ H Q1 := by
  refine ⟨G, w, as, rel, ?_⟩
  cases e : r w with
  | bad => rw [e] at h; exact h
  | ex x w1 => rw [e] at h; exact h
  | ok ds w1 =>
    rw [e] at h
    exact fun vs G' H' as' rel' ext sub rs => c vs ds G' H' as' w1 rel' rs (PostE.shift (show PostE R H0 G0 Wx σ G H as (k ds w1) Q from h) ext sub)
/-- [..], what is only looked at within -/
theorem vm_lst {r : MA} (h : PVs X R Wx es r) : PVm X R Wx (.List es pos) (mLst r) :=
  ⟨fun H0 G0 => PE.cons (pe_lst (h.pe H0 G0)) fun σ H Q ⟨G, w, as, rel, h⟩ => by
    have h' : PostV R H0 G0 Wx σ G H as ((r w).bd fun ds w1 => if ds.length ≤ sizeLine then .ok (.own ds) w1 else .bad) Q := h
    refine ⟨G, w, as, rel, ?_⟩
    cases e : r w with
    | bad => rw [e] at h'; exact h'
    | ex x w1 => rw [e] at h'; exact h'
    | ok ds w1 =>
      rw [e] at h'
      have h2 : PostV R H0 G0 Wx σ G H as (if ds.length ≤ sizeLine then .ok (.own ds) w1 else .bad) Q := h'
      by_cases c : ds.length ≤ sizeLine
      · rw [if_pos c] at h2
        intro vs G1 H1 as1 rel1 ext sub rs
        refine ⟨by rw [← rs.length]; exact c, fun p hp => ?_⟩
        have px : PExt G1 H1 G1 (upd H1 p (.lst vs)) := PExt.own rel1.bas.sub hp
        have hps : p ∉ G1.sas := fun z => by
          obtain ⟨u, hu⟩ := rel1.bas.cells.has p z
          rw [hp] at hu; cases hu
        exact h2 (.ref p) G1 _ as1 (rel1.pext px) (ext.trans (fun a ha => .inl (sub a ha)) (px.ext as1)) sub (.lst (view_at upd_same (fun _ z => by cases z) hps) (rs.mono (view_mono (px.ext as1))))
      · rw [if_neg c] at h2; exact h2.elim⟩
/-- data without cells and functions -/
def pureD : D → Bool
  | .cell _ => false
  | .fn _ => false
  | .tup ds => pureDs ds
  | .lst ds => pureDs ds
  | .scr ds => pureDs ds
  | .dic _ vs => pureDs vs
  | .obj _ _ vs => pureDs vs
  | _ => true
where pureDs : List D → Bool
  | [] => true
  | d :: ds => pureD d && pureDs ds
mutual
theorem Rp.pure {Z : Hp} {sas sas' : List Addr} {C C' : List (Addr × (Heap → Prop))} : ∀ {d : D} {v : V}, Rp R ⟨Z, sas, C⟩ d v → pureD d = true → Rp R ⟨Z, sas', C'⟩ d v
  | _, _, .non, _ => .non
  | _, _, .bl, _ => .bl
  | _, _, .int, _ => .int
  | _, _, .str, _ => .str
  | _, _, .tup h r, p => .tup h (Rps.pure r (by simpa [pureD] using p))
  | _, _, .lst h r, p => .lst h (Rps.pure r (by simpa [pureD] using p))
  | _, _, .scr h r, p => .scr h (Rps.pure r (by simpa [pureD] using p))
  | _, _, .dic h l r, p => .dic h l (Rps.pure r (by simpa [pureD] using p))
  | _, _, .obj h z l r, p => .obj h z l (Rps.pure r (by simpa [pureD] using p))
  | _, _, .cell h, p => by simp [pureD] at p
  | _, _, .fn h l, p => by simp [pureD] at p
theorem Rps.pure {Z : Hp} {sas sas' : List Addr} {C C' : List (Addr × (Heap → Prop))} : ∀ {ds : List D} {vs : List V}, Rps R ⟨Z, sas, C⟩ ds vs → pureD.pureDs ds = true → Rps R ⟨Z, sas', C'⟩ ds vs
  | _, _, .nil, _ => .nil
  | _, _, .cons h r, p => by
    obtain ⟨a, b⟩ := Bool.and_eq_true_iff.mp (show (pureD _ && pureD.pureDs _) = true from p)
    exact .cons (Rp.pure h a) (Rps.pure r b)
end
/-- a call that looks at things, and tells yes or no -/
def mCallP (F : MF) (r : MA) : ME := fun w => (r w).bd fun ds w1 => if pureD.pureDs ds = true then match F ds [] with
  | .ok (.d (.bl b)) _ => .ok (.d (.bl b)) w1
  | _ => .bad else .bad
theorem em_callP {k : Nat} {ps : List Str} {F : MF} {x : Str} {p : Pos} {r : MA} {T : List (Addr × Str)} (D : HasF X.prog X.w X.K X.mg X.base T x k ps F) (tk : Takes X Wx) (hr : Room k X.A) (sm : Sim R ⟨X.K, X.mg, T, noL R.lm.fw⟩) (hg : Gl X x)
    (ha : PVs X R Wx (a :: es) r) (hdb : (x == ("__debug__" : Str)) = false := by decide) (he : starEach (a :: es) X.env = (false, eval a X.env) :: starEach es X.env := by rfl) (hpl : (backTo pos (starEach es X.env)).any (·.1) = false := by rfl) :
    PEm X R Wx (.Call (.Name x p) (a :: es) [] pos) (mCallP F r) := by
  obtain ⟨f, fd, Fn, hm, hk, hb⟩ := D.ex
  exact ⟨fun H0 G0 => PE.cons (pe_callS (Fn R.lm.fw) hr hg hm hk hb (fun σ => passAt tk σ) (ha.pe H0 G0) hdb he hpl) fun σ H Q ⟨G, w, as, rel, h⟩ => by
    refine lift_wb rel h fun vs ds G1 H1 as1 w1 rel1 rs h1 => ?_
    by_cases c : pureD.pureDs ds = true
    · rw [if_pos c] at h1
      have rs2 : Rps R ⟨(viewS G1 H1).Z, [], []⟩ ds vs := Rps.pure (sas := G1.sas) (C := G1.C) (show Rps R ⟨(viewS G1 H1).Z, G1.sas, G1.C⟩ ds vs from rs) c
      have bas : Bas R H1 ⟨(viewS G1 H1).Z, [], []⟩ ⟨(viewS G1 H1).Z, [], []⟩ [] H1 :=
        ⟨⟨rfl, fun n c a h1 _ => by simp at h1⟩, List.nodup_nil, fun a ha => by simp at ha, fun a o h => (view_some h).1, ⟨rel1.bas.tabs.1, fun p hp => by simp at hp, fun a ps h => (view_some h).2.1 ps rfl⟩, .refl _ _ _⟩
      refine ⟨⟨(viewS G1 H1).Z, [], []⟩, [], ds, rs2.conv sm, bas.conv sm, ?_⟩
      cases e : F ds [] with
      | bad => rw [e] at h1; exact h1.elim
      | ex x S' => rw [e] at h1; exact h1.elim
      | ok rv S' =>
        rw [e] at h1
        cases rv with
        | d z =>
          cases z with
          | bl b =>
            refine ⟨rfl, fun v G' H' bs bs' sl lo => ?_⟩
            have rel2 : Rel R H0 G0 (G1.codes []) w1 σ H' as1 := rel1.codes (fun b o hb t => bs'.ext.keep b o hb t (by simp)) (by have t := bs'.tabs.1; rw [sm.T]; exact t) (fun p hp => by simp at hp) bs'.ext.dom
            have ev : v = .bl b := by cases sl with | d r => cases r; rfl
            subst ev
            exact h1 (.bl b) (G1.codes []) H' as1 [] rel2 (codes_ext (fun b o hb t => bs'.ext.keep b o hb t (by simp)) bs'.ext.dom) (fun _ h => h) (.d .bl) (by intro b hb; simp at hb) (by intro b hb; simp at hb)
          | _ => exact h1.elim
        | _ => exact h1.elim
    · rw [if_neg c] at h1; exact h1.elim⟩
end
end DB

set_option Elab.async false
set_option linter.all false
set_option maxRecDepth 100000
set_option maxHeartbeats 4000000
namespace DB
open PySem PySem.Spec PyProof.Rows L2 LamX
def top (i : Nat) : Stmt := PySem.Challenge.pw_dialbands_k06_classes_told.main.body.getD i (.Pass ⟨0, 0, 0, 0⟩)
def inCls (s : Stmt) (j : Nat) : Stmt := match s with
  | .ClassDef _ _ _ body _ _ _ _ _ _ _ => body.getD j (.Pass ⟨0, 0, 0, 0⟩)
  | _ => .Pass ⟨0, 0, 0, 0⟩
section
variable {P : Program} {w : World} {K : PySem.W.Frag} {mg : Str → Option Value} {base : Heap} {T : List (Addr × Str)}
abbrev i_BadBelt : Stmt := inCls (top 3) 0
theorem ic_BadBelt : FnScope ["self", "part", "number"] ["self", "part", "number"] (defScope i_BadBelt) := ⟨rfl, rfl, rfl, by decide +kernel, rfl, by decide +kernel, by decide +kernel⟩
theorem oi_BadBelt {C fI : Addr} {fd : FuncData} (Fu : Fun K "__init__" "BadBelt.__init__" i_BadBelt fI fd) (B : XBase K mg "DialError") (gC : mg "BadBelt" = some (.ref C)) (T : OexC K C) (iC : PySem.W.findIn K (.ref C) "__init__" = some (some (.ref fI))) (tI : PySem.W.typeIn K (.ref fI) = some (.type "function"))
    (hno : ∀ f ∈ (["part", "number"] : List Str), PySem.W.findIn K (.ref C) f = some none) : OwnX P w K mg base "BadBelt" 1 ["part", "number"] := by
  refine ⟨C, fI, fd, ["self", "part", "number"], gC, T, iC, tI, hno, Fu.okX ic_BadBelt (fun vs H Q E h => ?_) (fun cdv A outer s H vs Q E hr h => ⟨_, (pss_cons (ps_expr (pe_ownInit B rfl (pa_cons (pe_var (i := 0) rfl (Or.inl rfl)) (pa_cons pe_str pa_nil)))) (pss_cons (ps_ost (pe_var (i := 0) rfl (Or.inl rfl)) (pe_var (i := 1) rfl (Or.inl rfl))) (pss_one (ps_ost (pe_var (i := 0) rfl (Or.inl rfl)) (pe_var (i := 2) rfl (Or.inl rfl)))))), init_run2 h⟩), ?_⟩
  · obtain ⟨a, C, zs, rfl, lz, _⟩ := h
    rw [List.length_cons, lz] <;> rfl
  · obtain ⟨oc, od, kV, doc, pm, an, cdv, ct, osl, rfl, lk, hcd⟩ := Fu.ex
    exact ⟨fun s us ws X l1 l2 => match us, l1, ws, l2 with | [_], _, [_, _], _ => .of_eq rfl, fun r1 r2 => r1.append r2⟩
abbrev i_BadGoal : Stmt := inCls (top 4) 0
theorem ic_BadGoal : FnScope ["self", "number"] ["self", "number"] (defScope i_BadGoal) := ⟨rfl, rfl, rfl, by decide +kernel, rfl, by decide +kernel, by decide +kernel⟩
theorem oi_BadGoal {C fI : Addr} {fd : FuncData} (Fu : Fun K "__init__" "BadGoal.__init__" i_BadGoal fI fd) (B : XBase K mg "DialError") (gC : mg "BadGoal" = some (.ref C)) (T : OexC K C) (iC : PySem.W.findIn K (.ref C) "__init__" = some (some (.ref fI))) (tI : PySem.W.typeIn K (.ref fI) = some (.type "function"))
    (hno : ∀ f ∈ (["number"] : List Str), PySem.W.findIn K (.ref C) f = some none) : OwnX P w K mg base "BadGoal" 1 ["number"] := by
  refine ⟨C, fI, fd, ["self", "number"], gC, T, iC, tI, hno, Fu.okX ic_BadGoal (fun vs H Q E h => ?_) (fun cdv A outer s H vs Q E hr h => ⟨_, (pss_cons (ps_expr (pe_ownInit B rfl (pa_cons (pe_var (i := 0) rfl (Or.inl rfl)) (pa_cons pe_str pa_nil)))) (pss_one (ps_ost (pe_var (i := 0) rfl (Or.inl rfl)) (pe_var (i := 1) rfl (Or.inl rfl))))), init_run1 h⟩), ?_⟩
  · obtain ⟨a, C, zs, rfl, lz, _⟩ := h
    rw [List.length_cons, lz] <;> rfl
  · obtain ⟨oc, od, kV, doc, pm, an, cdv, ct, osl, rfl, lk, hcd⟩ := Fu.ex
    exact ⟨fun s us ws X l1 l2 => match us, l1, ws, l2 with | [_], _, [_], _ => .of_eq rfl, fun r1 r2 => r1.append r2⟩
abbrev s_is_number : Stmt := top 22
theorem sc_is_number : FnScope ["thing", "low", "high"] ["thing", "low", "high"] (defScope s_is_number) := ⟨rfl, rfl, rfl, by decide +kernel, rfl, by decide +kernel, by decide +kernel⟩
noncomputable def m_is_number : MS :=
  (mRet (mAnd (mIsi "int" (mPk 0)) (mAnd (mNot (mIsi "bool" (mPk 0))) (mChain gLe gLe (mPk 1) (mPk 0) (mPk 2)))))
noncomputable def F_is_number : MF := bodyF 3 3 m_is_number
theorem fo_is_number {f : Addr} {fd : FuncData} {fw : Nat → Addr → Wd → Prop} (Fu : Fun K "is_number" "is_number" s_is_number f fd) (ntbool : mg "bool" = none) (ntint : mg "int" = none) (ntisinstance : mg "isinstance" = none) : FnOk P w K mg base (L2.CX P w) 1 f fd ["thing", "low", "high"] (spF ⟨K, mg, T, noL fw⟩ F_is_number) := by
  refine fn_M Fu sc_is_number (fun cdv A outer s H E hr => ?_)
  have ag : Ag (cxOf (L2.CX P w) P w K mg base ["thing", "low", "high"] "is_number" (defScope s_is_number) f cdv A outer s H E) ⟨K, mg, T, noL fw⟩ := ⟨rfl, rfl⟩
  have nd := sc_is_number.nd
  have tk : Takes (cxOf (L2.CX P w) P w K mg base ["thing", "low", "high"] "is_number" (defScope s_is_number) f cdv A outer s H E) (fun cls d _ H => E cls d H) := takes_of rfl rfl rfl rfl
  exact (bm_on (sm_ret (em_and (em_isi ag (by decide) rfl ntisinstance rfl ntint (by decide +kernel) (om_var 0)) (em_and (em_not (em_isi ag (by decide) rfl ntisinstance rfl ntbool (by decide +kernel) (om_var 0))) (em_one (em_chain om_le om_le (om_var 1) (om_var 0) (om_var 2)))))))
theorem ok_is_number {f : Addr} {fd : FuncData} (Fu : Fun K "is_number" "is_number" s_is_number f fd) (gf : mg "is_number" = some (.ref f)) (ntbool : mg "bool" = none) (ntint : mg "int" = none) (ntisinstance : mg "isinstance" = none) : HasF P w K mg base T "is_number" 1 ["thing", "low", "high"] F_is_number :=
  ⟨f, fd, fun fw => fo_is_number Fu ntbool ntint ntisinstance, gf, Fu.kp, Fu.binds (ps := ["thing", "low", "high"]) fun _ _ _ _ _ _ us hl => match us, hl with | [_, _, _], _ => rfl⟩
abbrev s_bands_of : Stmt := top 23
theorem sc_bands_of : FnScope ["shape", "wide", "many"] ["shape", "wide", "many"] (defScope s_bands_of) := ⟨rfl, rfl, rfl, by decide +kernel, rfl, by decide +kernel, by decide +kernel⟩
noncomputable def m_bands_of : MS :=
  (mRet (mIfE (mBin gEq (mPk 0) (mC (.str "ring"))) (mVar 2) (mBin gAdd (mBin gSub (mPk 2) (mPk 1)) (mC (.int 1)))))
noncomputable def F_bands_of : MF := bodyF 3 3 m_bands_of
theorem fo_bands_of {f : Addr} {fd : FuncData} {fw : Nat → Addr → Wd → Prop} (Fu : Fun K "bands_of" "bands_of" s_bands_of f fd) {tRING : Tok} (gtRING : mg "RING" = some (.str "ring" tRING)) : FnOk P w K mg base (L2.CX P w) 1 f fd ["shape", "wide", "many"] (spF ⟨K, mg, T, noL fw⟩ F_bands_of) := by
  refine fn_M Fu sc_bands_of (fun cdv A outer s H E hr => ?_)
  have ag : Ag (cxOf (L2.CX P w) P w K mg base ["shape", "wide", "many"] "bands_of" (defScope s_bands_of) f cdv A outer s H E) ⟨K, mg, T, noL fw⟩ := ⟨rfl, rfl⟩
  have nd := sc_bands_of.nd
  have tk : Takes (cxOf (L2.CX P w) P w K mg base ["shape", "wide", "many"] "bands_of" (defScope s_bands_of) f cdv A outer s H E) (fun cls d _ H => E cls d H) := takes_of rfl rfl rfl rfl
  exact (bm_on (sm_ret (em_if (tm_cmp (om_eq ag hr.units) (om_var 0) (om (em_gstr rfl (gtRING))) (nomark _)) (em_var 2) (em_bin (om_add ag) (om (em_bin om_sub (om_var 2) (om_var 1))) (om em_int)))))
theorem ok_bands_of {f : Addr} {fd : FuncData} (Fu : Fun K "bands_of" "bands_of" s_bands_of f fd) (gf : mg "bands_of" = some (.ref f)) {tRING : Tok} (gtRING : mg "RING" = some (.str "ring" tRING)) : HasF P w K mg base T "bands_of" 1 ["shape", "wide", "many"] F_bands_of :=
  ⟨f, fd, fun fw => fo_bands_of Fu gtRING, gf, Fu.kp, Fu.binds (ps := ["shape", "wide", "many"]) fun _ _ _ _ _ _ us hl => match us, hl with | [_, _, _], _ => rfl⟩
abbrev s_first_wrong : Stmt := top 24
theorem sc_first_wrong : FnScope ["some", "least", "most", "is_good", "number", "one"] ["some", "least", "most", "is_good"] (defScope s_first_wrong) := ⟨rfl, rfl, rfl, by decide +kernel, rfl, by decide +kernel, by decide +kernel⟩
noncomputable def m_first_wrong (act : MF) : MS :=
  (mSeq (mIf (mNot (mIsi "tuple" (mPk 0))) (mRet (mC (.int 0))) mNext)
  (mSeq (mFor (mEnum (mVar 0)) (gTp 2 (gsCons (gNm 4) (gsCons (gNm 5) gsNil))) (mIf (mOr (mBin gEq (mPk 4) (mPk 2)) (mNot (mAct 3 act (mCons (mVar 5) mNil)))) (mMv 4) mNext))
  (mRet (mIfE (mBin gLt (mCB (g1 gLen) (mCons (mPk 0) mNil)) (mPk 1)) (mCB (g1 gLen) (mCons (mPk 0) mNil)) (mC .non)))))
theorem ha_first_wrong {f : Addr} {fd : FuncData} (Fu : Fun K "first_wrong" "first_wrong" s_first_wrong f fd) (gf : mg "first_wrong" = some (.ref f)) (ntenumerate : mg "enumerate" = none) (ntisinstance : mg "isinstance" = none) (ntlen : mg "len" = none) (nttuple : mg "tuple" = none) : HasA P w K mg base T "first_wrong" 0 ["some", "least", "most", "is_good", "number", "one"] ["some", "least", "most"] "is_good" ActAt1 m_first_wrong := by
  have hb : L2.Binds K fd ["some", "least", "most", "is_good"] [] := Fu.binds (ps := ["some", "least", "most", "is_good"]) fun _ _ _ _ _ _ us hl => match us, hl with | [_, _, _, _], _ => rfl
  have kp := Fu.kp
  obtain ⟨oc, od, kV, doc, pm, an, cdv, ct, osl, rfl, lk, hcd⟩ := Fu.ex
  refine ⟨f, s_first_wrong, od, an, osl, oc, kV, doc, pm, cdv, ct, gf, kp, lk, hcd, hb, sc_first_wrong, rfl, (by first | exact Or.inl rfl | exact Or.inr (Or.inl rfl) | exact Or.inr (Or.inr rfl)), fun A outer s H E lm act hr hact => ?_⟩
  have ag : Ag (cxOf (L2.CX P w) P w K mg base ["some", "least", "most", "is_good", "number", "one"] "first_wrong" (defScope s_first_wrong) f cdv A outer s H E) ⟨K, mg, T, lm⟩ := ⟨rfl, rfl⟩
  have nd := sc_first_wrong.nd
  have tk : Takes (cxOf (L2.CX P w) P w K mg base ["some", "least", "most", "is_good", "number", "one"] "first_wrong" (defScope s_first_wrong) f cdv A outer s H E) (fun cls d _ H => E cls d H) := takes_of rfl rfl rfl rfl
  exact (bm_cs (sm_if (tm_not (tm_val (em_isi ag (by decide) rfl ntisinstance rfl nttuple (by decide +kernel) (om_var 0)))) (bm_on (sm_ret em_int)) bm_nl)
  (bm_cs (sm_for (passes_of rfl) rfl (jm (im_enum ag rfl ntenumerate (em_var 0))) (gm_tup ag rfl (gms_cons (gm_name nd rfl (Or.inl rfl)) (gms_cons (gm_name nd rfl (Or.inl rfl)) gms_nil))) (bm_on (sm_if (tm_w (wm_or (tm_cmp (om_eq ag hr.units) (om_var 4) (om_var 2) (nomark _)) (wm_or1 (tm_not (tm_val (act1_here hact tk (am_cons (em_var 5) am_nil))))))) (bm_on (sm_retV 4)) bm_nl)))
  (bm_on (sm_ret (em_if (tm_cmp om_lt (om (em_callB (cm_len ag) rfl ntlen PySem.boot_len (bm_cons (om_var 0) bm_nil))) (om_var 1) (nomark _)) (em_callB (cm_len ag) rfl ntlen PySem.boot_len (bm_cons (om_var 0) bm_nil)) em_non)))))
abbrev s_is_price : Stmt := top 25
theorem sc_is_price : FnScope ["thing"] ["thing"] (defScope s_is_price) := ⟨rfl, rfl, rfl, by decide +kernel, rfl, by decide +kernel, by decide +kernel⟩
noncomputable def m_is_price : MS :=
  (mRet (mOr (mBin gIs (mPk 0) (mC .non)) (mCall F_is_number (mCons (mVar 0) (mCons (mC (.int 1)) (mCons (mC (.int 99)) mNil))))))
noncomputable def F_is_price : MF := bodyF 1 1 m_is_price
theorem fo_is_price {f : Addr} {fd : FuncData} {fw : Nat → Addr → Wd → Prop} (Fu : Fun K "is_price" "is_price" s_is_price f fd) {tMOST_PRICE : Tok} (gtMOST_PRICE : mg "MOST_PRICE" = some (.int 99 tMOST_PRICE)) (D_is_number : HasF P w K mg base T "is_number" 1 ["thing", "low", "high"] F_is_number) : FnOk P w K mg base (L2.CX P w) 2 f fd ["thing"] (spF ⟨K, mg, T, noL fw⟩ F_is_price) := by
  refine fn_M Fu sc_is_price (fun cdv A outer s H E hr => ?_)
  have ag : Ag (cxOf (L2.CX P w) P w K mg base ["thing"] "is_price" (defScope s_is_price) f cdv A outer s H E) ⟨K, mg, T, noL fw⟩ := ⟨rfl, rfl⟩
  have nd := sc_is_price.nd
  have tk : Takes (cxOf (L2.CX P w) P w K mg base ["thing"] "is_price" (defScope s_is_price) f cdv A outer s H E) (fun cls d _ H => E cls d H) := takes_of rfl rfl rfl rfl
  exact (bm_on (sm_ret (em_or (em_cmp om_is (om_var 0) (om em_non) (nomark _)) (em_one (em_callD D_is_number tk (hr.mono (by decide)) ⟨rfl, rfl, rfl, rfl⟩ rfl (am_cons (em_var 0) (am_cons em_int (am_cons (em_gint rfl (gtMOST_PRICE)) am_nil))))))))
theorem ok_is_price {f : Addr} {fd : FuncData} (Fu : Fun K "is_price" "is_price" s_is_price f fd) (gf : mg "is_price" = some (.ref f)) {tMOST_PRICE : Tok} (gtMOST_PRICE : mg "MOST_PRICE" = some (.int 99 tMOST_PRICE)) (D_is_number : HasF P w K mg base T "is_number" 1 ["thing", "low", "high"] F_is_number) : HasF P w K mg base T "is_price" 2 ["thing"] F_is_price :=
  ⟨f, fd, fun fw => fo_is_price Fu gtMOST_PRICE D_is_number, gf, Fu.kp, Fu.binds (ps := ["thing"]) fun _ _ _ _ _ _ us hl => match us, hl with | [_], _ => rfl⟩
abbrev s_need_belt : Stmt := top 26
theorem sc_need_belt : FnScope ["belt", "shape", "figures", "wide", "dials", "prices", "heads", "part", "is_good", "wrong", "many", "one"] ["belt"] (defScope s_need_belt) := ⟨rfl, rfl, rfl, by decide +kernel, rfl, by decide +kernel, by decide +kernel⟩
noncomputable def m_need_belt : MS :=
  (mSeq (mIf (mOr (mNot (mIsi "tuple" (mPk 0))) (mBin gNe (mCB (g1 gLen) (mCons (mPk 0) mNil)) (mC (.int 5)))) (mRaise "BadBelt" ["part", "number"] (mCons (mNeg (mC (.int 1))) (mCons (mC (.int 0)) mNil))) mNext)
  (mSeq (mAsg (gTp 5 (gsCons (gNm 1) (gsCons (gNm 2) (gsCons (gNm 3) (gsCons (gNm 4) (gsCons (gNm 5) gsNil)))))) (mVar 0))
  (mSeq (mSet 6 (mLst (mCons (mAnd (mIsi "str" (mPk 1)) (mBin gIn (mPk 1) (mTup (mCons (mC (.str "row")) (mCons (mC (.str "ring")) mNil))))) (mCons (mCall F_is_number (mCons (mVar 2) (mCons (mC (.int 2)) (mCons (mC (.int 9)) mNil)))) mNil))))
  (mSeq (mFor (mEnum (mBin gAdd (mPk 6) (mLst (mCons (mCall F_is_number (mCons (mVar 3) (mCons (mC (.int 1)) (mCons (mC (.int 12)) mNil)))) mNil)))) (gTp 2 (gsCons (gNm 7) (gsCons (gNm 8) gsNil))) (mIf (mNot (mVar 8)) (mRaise "BadBelt" ["part", "number"] (mCons (mVar 7) (mCons (mC (.int 0)) mNil))) mNext))
  (mSeq (mSet 9 (mCallL (fun act => bodyG 6 3 (m_first_wrong act)) [2] [11] (mCall F_is_number (mCons (mVar 11) (mCons (mC (.int 0)) (mCons (mBin gSub (mPk 2) (mC (.int 1))) mNil)))) (mCons (mVar 4) (mCons (mVar 3) (mCons (mC (.int 12)) mNil)))))
  (mSeq (mIf (mBin gIsNot (mPk 9) (mC .non)) (mRaise "BadBelt" ["part", "number"] (mCons (mC (.int 3)) (mCons (mVar 9) mNil))) mNext)
  (mSeq (mSet 10 (mCall F_bands_of (mCons (mVar 1) (mCons (mVar 3) (mCons (mCB (g1 gLen) (mCons (mPk 4) mNil)) mNil)))))
  (mSeq (mSet 9 (mCallV (fun act => bodyG 6 3 (m_first_wrong act)) F_is_price (mCons (mVar 5) (mCons (mVar 10) (mCons (mVar 10) mNil)))))
  (mIf (mBin gIsNot (mPk 9) (mC .non)) (mRaise "BadBelt" ["part", "number"] (mCons (mC (.int 4)) (mCons (mVar 9) mNil))) mNext)))))))))
noncomputable def F_need_belt : MF := bodyF 12 1 m_need_belt
theorem fo_need_belt {f : Addr} {fd : FuncData} {fw : Nat → Addr → Wd → Prop} (Fu : Fun K "need_belt" "need_belt" s_need_belt f fd) {tLEAST_FIGURES : Tok} (gtLEAST_FIGURES : mg "LEAST_FIGURES" = some (.int 2 tLEAST_FIGURES)) {tMOST_DIALS : Tok} (gtMOST_DIALS : mg "MOST_DIALS" = some (.int 12 tMOST_DIALS)) {tMOST_FIGURES : Tok} (gtMOST_FIGURES : mg "MOST_FIGURES" = some (.int 9 tMOST_FIGURES)) {tRING : Tok} (gtRING : mg "RING" = some (.str "ring" tRING)) {tROW : Tok} (gtROW : mg "ROW" = some (.str "row" tROW)) (ntenumerate : mg "enumerate" = none) (ntisinstance : mg "isinstance" = none) (ntlen : mg "len" = none) (ntstr : mg "str" = none) (nttuple : mg "tuple" = none) (D_is_number : HasF P w K mg base T "is_number" 1 ["thing", "low", "high"] F_is_number) (D_first_wrong : HasA P w K mg base T "first_wrong" 0 ["some", "least", "most", "is_good", "number", "one"] ["some", "least", "most"] "is_good" ActAt1 m_first_wrong) (D_bands_of : HasF P w K mg base T "bands_of" 1 ["shape", "wide", "many"] F_bands_of) (D_is_price : HasF P w K mg base T "is_price" 2 ["thing"] F_is_price) (O_BadBelt : OwnX P w K mg base "BadBelt" 1 ["part", "number"]) (MK_need_belt : ∃ c P, fd.code = .ref c ∧ LamX.TabB base mg c P ∧ (P, ("need_belt" : Str) ++ ".<locals>." ++ "<lambda>") ∈ T ∧ ∀ p ∈ T, p.1 = P → p.2 = ("need_belt" : Str) ++ ".<locals>." ++ "<lambda>") : FnOk P w K mg base (L2.CX P w) 4 f fd ["belt"] (spF ⟨K, mg, T, noL fw⟩ F_need_belt) := by
  refine fn_MC Fu sc_need_belt (fun cdv A outer s H E hcv hr => ?_)
  have ag : Ag (cxOf (L2.CX P w) P w K mg base ["belt", "shape", "figures", "wide", "dials", "prices", "heads", "part", "is_good", "wrong", "many", "one"] "need_belt" (defScope s_need_belt) f cdv A outer s H E) ⟨K, mg, T, noL fw⟩ := ⟨rfl, rfl⟩
  have MK : MkX (cxOf (L2.CX P w) P w K mg base ["belt", "shape", "figures", "wide", "dials", "prices", "heads", "part", "is_good", "wrong", "many", "one"] "need_belt" (defScope s_need_belt) f cdv A outer s H E) T := by
    obtain ⟨c, Pt, m1, m2, m3, m4⟩ := MK_need_belt
    exact ⟨c, Pt, hcv.symm.trans m1, m2, m3, m4⟩
  have nd := sc_need_belt.nd
  have tk : Takes (cxOf (L2.CX P w) P w K mg base ["belt", "shape", "figures", "wide", "dials", "prices", "heads", "part", "is_good", "wrong", "many", "one"] "need_belt" (defScope s_need_belt) f cdv A outer s H E) (fun cls d _ H => E cls d H) := takes_of rfl rfl rfl rfl
  exact (bm_cs (sm_if (tm_w (wm_or (tm_not (tm_val (em_isi ag (by decide) rfl ntisinstance rfl nttuple (by decide +kernel) (om_var 0)))) (wm_or1 (tm_cmp (om_ne ag hr.units) (om (em_callB (cm_len ag) rfl ntlen PySem.boot_len (bm_cons (om_var 0) bm_nil))) (om em_int) (nomark _))))) (bm_on (sm_raiseK rfl tk rfl O_BadBelt (hr.mono (by decide)) rfl (km_cons (em_neg (om em_int)) (km_cons em_int km_nil)))) bm_nl)
  (bm_cs (sm_asg (em_var 0) (gm_tup ag rfl (gms_cons (gm_name nd rfl (Or.inl rfl)) (gms_cons (gm_name nd rfl (Or.inr rfl)) (gms_cons (gm_name nd rfl (Or.inl rfl)) (gms_cons (gm_name nd rfl (Or.inl rfl)) (gms_cons (gm_name nd rfl (Or.inl rfl)) gms_nil)))))))
  (bm_cs (sm_set (i := 6) nd rfl (Or.inl rfl) (em_lst (am_cons (em_and (em_isi ag (by decide) rfl ntisinstance rfl ntstr (by decide +kernel) (om_var 1)) (em_one (em_cmp (om_in ag (hr66 hr)) (om_var 1) (om (em_tup (am_cons (em_gstr rfl (gtROW)) (am_cons (em_gstr rfl (gtRING)) am_nil)))) (by with_unfolding_all rfl)))) (am_cons (em_callD D_is_number tk (hr.mono (by decide)) ⟨rfl, rfl, rfl, rfl⟩ rfl (am_cons (em_var 2) (am_cons (em_gint rfl (gtLEAST_FIGURES)) (am_cons (em_gint rfl (gtMOST_FIGURES)) am_nil)))) am_nil))))
  (bm_cs (sm_for (passes_of rfl) rfl (jm (im_enum ag rfl ntenumerate (em_bin (om_add ag) (om_var 6) (om (em_lst (am_cons (em_callD D_is_number tk (hr.mono (by decide)) ⟨rfl, rfl, rfl, rfl⟩ rfl (am_cons (em_var 3) (am_cons em_int (am_cons (em_gint rfl (gtMOST_DIALS)) am_nil)))) am_nil)))))) (gm_tup ag rfl (gms_cons (gm_name nd rfl (Or.inl rfl)) (gms_cons (gm_name nd rfl (Or.inl rfl)) gms_nil))) (bm_on (sm_if (tm_not (tm_val (em_var 8))) (bm_on (sm_raiseK rfl tk rfl O_BadBelt (hr.mono (by decide)) rfl (km_cons (em_var 7) (km_cons em_int km_nil)))) bm_nl)))
  (bm_cs (sm_set (i := 9) nd rfl (Or.inl rfl) (em_callL1_3 (ip := 11) (kl := 1) [2] D_first_wrong tk (hr.mono (by decide)) (hr.mono (by decide)) ⟨rfl, rfl, rfl, rfl⟩ rfl (em_var 4) (em_var 3) (em_gint rfl (gtMOST_DIALS)) MK (lamP_by (sc := defScope s_need_belt) (ps := ["one"]) (by decide +kernel)) rfl (fun _ _ _ _ _ _ _ => rfl) rfl nd (by decide +kernel) (fun f c' A outer s H E hr => (em_callD D_is_number (takes_of rfl rfl rfl rfl) (hr.mono (by decide)) ⟨rfl, rfl, rfl, rfl⟩ rfl (am_cons (em_var 11) (am_cons em_int (am_cons (em_bin om_sub (om_var 2) (om em_int)) am_nil)))))))
  (bm_cs (sm_if (tm_cmp om_isNot (om_var 9) (om em_non) (nomark _)) (bm_on (sm_raiseK rfl tk rfl O_BadBelt (hr.mono (by decide)) rfl (km_cons em_int (km_cons (em_var 9) km_nil)))) bm_nl)
  (bm_cs (sm_set (i := 10) nd rfl (Or.inl rfl) (em_callD D_bands_of tk (hr.mono (by decide)) ⟨rfl, rfl, rfl, rfl⟩ rfl (am_cons (em_var 1) (am_cons (em_var 3) (am_cons (em_callB (cm_len ag) rfl ntlen PySem.boot_len (bm_cons (om_var 4) bm_nil)) am_nil)))))
  (bm_cs (sm_set (i := 9) nd rfl (Or.inl rfl) (em_callV_3 D_first_wrong D_is_price tk (hr.mono (by decide)) (hr.mono (by decide)) ⟨rfl, rfl, rfl, rfl⟩ rfl rfl (em_var 5) (em_var 10) (em_var 10)))
  (bm_on (sm_if (tm_cmp om_isNot (om_var 9) (om em_non) (nomark _)) (bm_on (sm_raiseK rfl tk rfl O_BadBelt (hr.mono (by decide)) rfl (km_cons em_int (km_cons (em_var 9) km_nil)))) bm_nl))))))))))
theorem ok_need_belt {f : Addr} {fd : FuncData} (Fu : Fun K "need_belt" "need_belt" s_need_belt f fd) (gf : mg "need_belt" = some (.ref f)) {tLEAST_FIGURES : Tok} (gtLEAST_FIGURES : mg "LEAST_FIGURES" = some (.int 2 tLEAST_FIGURES)) {tMOST_DIALS : Tok} (gtMOST_DIALS : mg "MOST_DIALS" = some (.int 12 tMOST_DIALS)) {tMOST_FIGURES : Tok} (gtMOST_FIGURES : mg "MOST_FIGURES" = some (.int 9 tMOST_FIGURES)) {tRING : Tok} (gtRING : mg "RING" = some (.str "ring" tRING)) {tROW : Tok} (gtROW : mg "ROW" = some (.str "row" tROW)) (ntenumerate : mg "enumerate" = none) (ntisinstance : mg "isinstance" = none) (ntlen : mg "len" = none) (ntstr : mg "str" = none) (nttuple : mg "tuple" = none) (D_is_number : HasF P w K mg base T "is_number" 1 ["thing", "low", "high"] F_is_number) (D_first_wrong : HasA P w K mg base T "first_wrong" 0 ["some", "least", "most", "is_good", "number", "one"] ["some", "least", "most"] "is_good" ActAt1 m_first_wrong) (D_bands_of : HasF P w K mg base T "bands_of" 1 ["shape", "wide", "many"] F_bands_of) (D_is_price : HasF P w K mg base T "is_price" 2 ["thing"] F_is_price) (O_BadBelt : OwnX P w K mg base "BadBelt" 1 ["part", "number"]) (MK_need_belt : ∃ c P, fd.code = .ref c ∧ LamX.TabB base mg c P ∧ (P, ("need_belt" : Str) ++ ".<locals>." ++ "<lambda>") ∈ T ∧ ∀ p ∈ T, p.1 = P → p.2 = ("need_belt" : Str) ++ ".<locals>." ++ "<lambda>") : HasF P w K mg base T "need_belt" 4 ["belt"] F_need_belt :=
  ⟨f, fd, fun fw => fo_need_belt Fu gtLEAST_FIGURES gtMOST_DIALS gtMOST_FIGURES gtRING gtROW ntenumerate ntisinstance ntlen ntstr nttuple D_is_number D_first_wrong D_bands_of D_is_price O_BadBelt MK_need_belt, gf, Fu.kp, Fu.binds (ps := ["belt"]) fun _ _ _ _ _ _ us hl => match us, hl with | [_], _ => rfl⟩
abbrev s_need_goal : Stmt := top 27
theorem sc_need_goal : FnScope ["belt", "goal", "many", "wrong", "one"] ["belt", "goal"] (defScope s_need_goal) := ⟨rfl, rfl, rfl, by decide +kernel, rfl, by decide +kernel, by decide +kernel⟩
noncomputable def m_need_goal : MS :=
  (mSeq (mSet 2 (mCB (g1 gLen) (mCons (mBin gIx (mPk 0) (mC (.int 3))) mNil)))
  (mSeq (mSet 3 (mCallL (fun act => bodyG 6 3 (m_first_wrong act)) [0] [4] (mCall F_is_number (mCons (mVar 4) (mCons (mC (.int 0)) (mCons (mBin gSub (mBin gIx (mPk 0) (mC (.int 1))) (mC (.int 1))) mNil)))) (mCons (mVar 1) (mCons (mVar 2) (mCons (mVar 2) mNil)))))
  (mIf (mBin gIsNot (mPk 3) (mC .non)) (mRaise "BadGoal" ["number"] (mCons (mVar 3) mNil)) mNext)))
noncomputable def F_need_goal : MF := bodyF 5 2 m_need_goal
theorem fo_need_goal {f : Addr} {fd : FuncData} {fw : Nat → Addr → Wd → Prop} (Fu : Fun K "need_goal" "need_goal" s_need_goal f fd) (ntlen : mg "len" = none) (D_first_wrong : HasA P w K mg base T "first_wrong" 0 ["some", "least", "most", "is_good", "number", "one"] ["some", "least", "most"] "is_good" ActAt1 m_first_wrong) (D_is_number : HasF P w K mg base T "is_number" 1 ["thing", "low", "high"] F_is_number) (O_BadGoal : OwnX P w K mg base "BadGoal" 1 ["number"]) (MK_need_goal : ∃ c P, fd.code = .ref c ∧ LamX.TabB base mg c P ∧ (P, ("need_goal" : Str) ++ ".<locals>." ++ "<lambda>") ∈ T ∧ ∀ p ∈ T, p.1 = P → p.2 = ("need_goal" : Str) ++ ".<locals>." ++ "<lambda>") : FnOk P w K mg base (L2.CX P w) 4 f fd ["belt", "goal"] (spF ⟨K, mg, T, noL fw⟩ F_need_goal) := by
  refine fn_MC Fu sc_need_goal (fun cdv A outer s H E hcv hr => ?_)
  have ag : Ag (cxOf (L2.CX P w) P w K mg base ["belt", "goal", "many", "wrong", "one"] "need_goal" (defScope s_need_goal) f cdv A outer s H E) ⟨K, mg, T, noL fw⟩ := ⟨rfl, rfl⟩
  have MK : MkX (cxOf (L2.CX P w) P w K mg base ["belt", "goal", "many", "wrong", "one"] "need_goal" (defScope s_need_goal) f cdv A outer s H E) T := by
    obtain ⟨c, Pt, m1, m2, m3, m4⟩ := MK_need_goal
    exact ⟨c, Pt, hcv.symm.trans m1, m2, m3, m4⟩
  have nd := sc_need_goal.nd
  have tk : Takes (cxOf (L2.CX P w) P w K mg base ["belt", "goal", "many", "wrong", "one"] "need_goal" (defScope s_need_goal) f cdv A outer s H E) (fun cls d _ H => E cls d H) := takes_of rfl rfl rfl rfl
  exact (bm_cs (sm_set (i := 2) nd rfl (Or.inl rfl) (em_callB (cm_len ag) rfl ntlen PySem.boot_len (bm_cons (om (em_ix ag (om_var 0) (om em_int) (fun _ _ => rfl))) bm_nil)))
  (bm_cs (sm_set (i := 3) nd rfl (Or.inl rfl) (em_callL1_3 (ip := 4) (kl := 1) [0] D_first_wrong tk (hr.mono (by decide)) (hr.mono (by decide)) ⟨rfl, rfl, rfl, rfl⟩ rfl (em_var 1) (em_var 2) (em_var 2) MK (lamP_by (sc := defScope s_need_goal) (ps := ["one"]) (by decide +kernel)) rfl (fun _ _ _ _ _ _ _ => rfl) rfl nd (by decide +kernel) (fun f c' A outer s H E hr => (em_callD D_is_number (takes_of rfl rfl rfl rfl) (hr.mono (by decide)) ⟨rfl, rfl, rfl, rfl⟩ rfl (am_cons (em_var 4) (am_cons em_int (am_cons (em_bin om_sub (om (em_ix ⟨rfl, rfl⟩ (om_var 0) (om em_int) (fun _ _ => rfl))) (om em_int)) am_nil)))))))
  (bm_on (sm_if (tm_cmp om_isNot (om_var 3) (om em_non) (nomark _)) (bm_on (sm_raiseK rfl tk rfl O_BadGoal (hr.mono (by decide)) rfl (km_cons (em_var 3) km_nil))) bm_nl))))
theorem ok_need_goal {f : Addr} {fd : FuncData} (Fu : Fun K "need_goal" "need_goal" s_need_goal f fd) (gf : mg "need_goal" = some (.ref f)) (ntlen : mg "len" = none) (D_first_wrong : HasA P w K mg base T "first_wrong" 0 ["some", "least", "most", "is_good", "number", "one"] ["some", "least", "most"] "is_good" ActAt1 m_first_wrong) (D_is_number : HasF P w K mg base T "is_number" 1 ["thing", "low", "high"] F_is_number) (O_BadGoal : OwnX P w K mg base "BadGoal" 1 ["number"]) (MK_need_goal : ∃ c P, fd.code = .ref c ∧ LamX.TabB base mg c P ∧ (P, ("need_goal" : Str) ++ ".<locals>." ++ "<lambda>") ∈ T ∧ ∀ p ∈ T, p.1 = P → p.2 = ("need_goal" : Str) ++ ".<locals>." ++ "<lambda>") : HasF P w K mg base T "need_goal" 4 ["belt", "goal"] F_need_goal :=
  ⟨f, fd, fun fw => fo_need_goal Fu ntlen D_first_wrong D_is_number O_BadGoal MK_need_goal, gf, Fu.kp, Fu.binds (ps := ["belt", "goal"]) fun _ _ _ _ _ _ us hl => match us, hl with | [_, _], _ => rfl⟩
abbrev s_under : Stmt := top 28
theorem sc_under : FnScope ["belt", "band", "far"] ["belt", "band"] (defScope s_under) := ⟨rfl, rfl, rfl, by decide +kernel, rfl, by decide +kernel, by decide +kernel⟩
noncomputable def m_under : MS :=
  (mRet (mLc [2] (mRng1 (mCons (mBin gIx (mPk 0) (mC (.int 2))) mNil)) (gNm 2) mT (mBin gMod (mBin gAdd (mPk 1) (mPk 2)) (mCB (g1 gLen) (mCons (mBin gIx (mPk 0) (mC (.int 3))) mNil)))))
noncomputable def F_under : MF := bodyF 3 2 m_under
theorem fo_under {f : Addr} {fd : FuncData} {fw : Nat → Addr → Wd → Prop} (Fu : Fun K "under" "under" s_under f fd) (ntlen : mg "len" = none) (ntrange : mg "range" = none) : FnOk P w K mg base (L2.CX P w) 1 f fd ["belt", "band"] (spF ⟨K, mg, T, noL fw⟩ F_under) := by
  refine fn_M Fu sc_under (fun cdv A outer s H E hr => ?_)
  have ag : Ag (cxOf (L2.CX P w) P w K mg base ["belt", "band", "far"] "under" (defScope s_under) f cdv A outer s H E) ⟨K, mg, T, noL fw⟩ := ⟨rfl, rfl⟩
  have nd := sc_under.nd
  have tk : Takes (cxOf (L2.CX P w) P w K mg base ["belt", "band", "far"] "under" (defScope s_under) f cdv A outer s H E) (fun cls d _ H => E cls d H) := takes_of rfl rfl rfl rfl
  exact (bm_on (sm_ret (em_lcv rfl nd (im_range1 rfl ntrange (bm_cons (om (em_ix ag (om_var 0) (om em_int) (fun _ _ => rfl))) bm_nil)) (blkOk_by (N := ["belt", "band", "far"]) (sc := defScope s_under) (own := [("far", 2)]) (by decide +kernel)) (fun _ _ _ _ _ => (gm_name nd rfl (Or.inl rfl))) (fun _ _ _ _ _ => tsm_nil) (fun _ _ _ _ _ => (em_bin om_mod (om (em_bin (om_add ⟨rfl, rfl⟩) (om_var 1) (om_var 2))) (om (em_callB (cm_len ⟨rfl, rfl⟩) rfl ntlen PySem.boot_len (bm_cons (om (em_ix ⟨rfl, rfl⟩ (om_var 0) (om em_int) (fun _ _ => rfl))) bm_nil))))) rfl (by decide))))
theorem ok_under {f : Addr} {fd : FuncData} (Fu : Fun K "under" "under" s_under f fd) (gf : mg "under" = some (.ref f)) (ntlen : mg "len" = none) (ntrange : mg "range" = none) : HasF P w K mg base T "under" 1 ["belt", "band"] F_under :=
  ⟨f, fd, fun fw => fo_under Fu ntlen ntrange, gf, Fu.kp, Fu.binds (ps := ["belt", "band"]) fun _ _ _ _ _ _ us hl => match us, hl with | [_, _], _ => rfl⟩
abbrev s_divisor : Stmt := top 29
theorem sc_divisor : FnScope ["one", "other"] ["one", "other"] (defScope s_divisor) := ⟨rfl, rfl, rfl, by decide +kernel, rfl, by decide +kernel, by decide +kernel⟩
noncomputable def m_divisor : MS :=
  (mSeq (mWhile (mBin gNe (mPk 1) (mC (.int 0))) (mPar2 0 1 (mVar 1) (mBin gMod (mPk 0) (mPk 1))))
  (mMv 0))
noncomputable def F_divisor : MF := bodyF 2 2 m_divisor
theorem fo_divisor {f : Addr} {fd : FuncData} {fw : Nat → Addr → Wd → Prop} (Fu : Fun K "divisor" "divisor" s_divisor f fd)  : FnOk P w K mg base (L2.CX P w) 1 f fd ["one", "other"] (spF ⟨K, mg, T, noL fw⟩ F_divisor) := by
  refine fn_M Fu sc_divisor (fun cdv A outer s H E hr => ?_)
  have ag : Ag (cxOf (L2.CX P w) P w K mg base ["one", "other"] "divisor" (defScope s_divisor) f cdv A outer s H E) ⟨K, mg, T, noL fw⟩ := ⟨rfl, rfl⟩
  have nd := sc_divisor.nd
  have tk : Takes (cxOf (L2.CX P w) P w K mg base ["one", "other"] "divisor" (defScope s_divisor) f cdv A outer s H E) (fun cls d _ H => E cls d H) := takes_of rfl rfl rfl rfl
  exact (bm_cs (sm_while (passes_of rfl) (tm_cmp (om_ne ag hr.units) (om_var 1) (om em_int) (nomark _)) (bm_on (sm_par2 rfl nd rfl rfl (by decide) rfl rfl (em_var 1) (em_bin om_mod (om_var 0) (om_var 1)) (by rfl))))
  (bm_on (sm_retV 0)))
theorem ok_divisor {f : Addr} {fd : FuncData} (Fu : Fun K "divisor" "divisor" s_divisor f fd) (gf : mg "divisor" = some (.ref f))  : HasF P w K mg base T "divisor" 1 ["one", "other"] F_divisor :=
  ⟨f, fd, fun fw => fo_divisor Fu , gf, Fu.kp, Fu.binds (ps := ["one", "other"]) fun _ _ _ _ _ _ us hl => match us, hl with | [_, _], _ => rfl⟩
abbrev s_steps_to : Stmt := top 30
theorem sc_steps_to : FnScope ["belt", "goal", "first", "last"] ["belt", "goal"] (defScope s_steps_to) := ⟨rfl, rfl, rfl, by decide +kernel, rfl, by decide +kernel, by decide +kernel⟩
noncomputable def m_steps_to : MS :=
  (mRet (mLc [2, 3] (mZip (mCons (mBin gIx (mPk 0) (mC (.int 3))) (mCons (mVar 1) mNil))) (gTp 2 (gsCons (gNm 2) (gsCons (gNm 3) gsNil))) mT (mBin gMod (mBin gSub (mPk 3) (mPk 2)) (mBin gIx (mPk 0) (mC (.int 1))))))
noncomputable def F_steps_to : MF := bodyF 4 2 m_steps_to
theorem fo_steps_to {f : Addr} {fd : FuncData} {fw : Nat → Addr → Wd → Prop} (Fu : Fun K "steps_to" "steps_to" s_steps_to f fd) (ntzip : mg "zip" = none) : FnOk P w K mg base (L2.CX P w) 1 f fd ["belt", "goal"] (spF ⟨K, mg, T, noL fw⟩ F_steps_to) := by
  refine fn_M Fu sc_steps_to (fun cdv A outer s H E hr => ?_)
  have ag : Ag (cxOf (L2.CX P w) P w K mg base ["belt", "goal", "first", "last"] "steps_to" (defScope s_steps_to) f cdv A outer s H E) ⟨K, mg, T, noL fw⟩ := ⟨rfl, rfl⟩
  have nd := sc_steps_to.nd
  have tk : Takes (cxOf (L2.CX P w) P w K mg base ["belt", "goal", "first", "last"] "steps_to" (defScope s_steps_to) f cdv A outer s H E) (fun cls d _ H => E cls d H) := takes_of rfl rfl rfl rfl
  exact (bm_on (sm_ret (em_lcv rfl nd (im_zip ag rfl ntzip (am_cons (em_ix ag (om_var 0) (om em_int) (fun _ _ => rfl)) (am_cons (em_var 1) am_nil))) (blkOk_by (N := ["belt", "goal", "first", "last"]) (sc := defScope s_steps_to) (own := [("first", 2), ("last", 3)]) (by decide +kernel)) (fun _ _ _ _ _ => (gm_tup ⟨rfl, rfl⟩ rfl (gms_cons (gm_name nd rfl (Or.inl rfl)) (gms_cons (gm_name nd rfl (Or.inl rfl)) gms_nil)))) (fun _ _ _ _ _ => tsm_nil) (fun _ _ _ _ _ => (em_bin om_mod (om (em_bin om_sub (om_var 3) (om_var 2))) (om (em_ix ⟨rfl, rfl⟩ (om_var 0) (om em_int) (fun _ _ => rfl))))) rfl (by decide))))
theorem ok_steps_to {f : Addr} {fd : FuncData} (Fu : Fun K "steps_to" "steps_to" s_steps_to f fd) (gf : mg "steps_to" = some (.ref f)) (ntzip : mg "zip" = none) : HasF P w K mg base T "steps_to" 1 ["belt", "goal"] F_steps_to :=
  ⟨f, fd, fun fw => fo_steps_to Fu ntzip, gf, Fu.kp, Fu.binds (ps := ["belt", "goal"]) fun _ _ _ _ _ _ us hl => match us, hl with | [_, _], _ => rfl⟩
abbrev s_classes_of : Stmt := top 34
theorem sc_classes_of : FnScope ["belt", "shape", "figures", "wide", "dials", "prices"] ["belt"] (defScope s_classes_of) := ⟨rfl, rfl, rfl, by decide +kernel, rfl, by decide +kernel, by decide +kernel⟩
noncomputable def m_classes_of : MS :=
  (mSeq (mAsg (gTp 5 (gsCons (gNm 1) (gsCons (gNm 2) (gsCons (gNm 3) (gsCons (gNm 4) (gsCons (gNm 5) gsNil)))))) (mVar 0))
  (mRet (mIfE (mBin gEq (mPk 1) (mC (.str "ring"))) (mCall F_divisor (mCons (mVar 3) (mCons (mCB (g1 gLen) (mCons (mPk 4) mNil)) mNil))) (mVar 3))))
noncomputable def F_classes_of : MF := bodyF 6 1 m_classes_of
theorem fo_classes_of {f : Addr} {fd : FuncData} {fw : Nat → Addr → Wd → Prop} (Fu : Fun K "classes_of" "classes_of" s_classes_of f fd) {tRING : Tok} (gtRING : mg "RING" = some (.str "ring" tRING)) (ntlen : mg "len" = none) (D_divisor : HasF P w K mg base T "divisor" 1 ["one", "other"] F_divisor) : FnOk P w K mg base (L2.CX P w) 2 f fd ["belt"] (spF ⟨K, mg, T, noL fw⟩ F_classes_of) := by
  refine fn_M Fu sc_classes_of (fun cdv A outer s H E hr => ?_)
  have ag : Ag (cxOf (L2.CX P w) P w K mg base ["belt", "shape", "figures", "wide", "dials", "prices"] "classes_of" (defScope s_classes_of) f cdv A outer s H E) ⟨K, mg, T, noL fw⟩ := ⟨rfl, rfl⟩
  have nd := sc_classes_of.nd
  have tk : Takes (cxOf (L2.CX P w) P w K mg base ["belt", "shape", "figures", "wide", "dials", "prices"] "classes_of" (defScope s_classes_of) f cdv A outer s H E) (fun cls d _ H => E cls d H) := takes_of rfl rfl rfl rfl
  exact (bm_cs (sm_asg (em_var 0) (gm_tup ag rfl (gms_cons (gm_name nd rfl (Or.inl rfl)) (gms_cons (gm_name nd rfl (Or.inl rfl)) (gms_cons (gm_name nd rfl (Or.inl rfl)) (gms_cons (gm_name nd rfl (Or.inl rfl)) (gms_cons (gm_name nd rfl (Or.inl rfl)) gms_nil)))))))
  (bm_on (sm_ret (em_if (tm_cmp (om_eq ag hr.units) (om_var 1) (om (em_gstr rfl (gtRING))) (nomark _)) (em_callD D_divisor tk (hr.mono (by decide)) ⟨rfl, rfl, rfl, rfl⟩ rfl (am_cons (em_var 3) (am_cons (em_callB (cm_len ag) rfl ntlen PySem.boot_len (bm_cons (om_var 4) bm_nil)) am_nil))) (em_var 3)))))
theorem ok_classes_of {f : Addr} {fd : FuncData} (Fu : Fun K "classes_of" "classes_of" s_classes_of f fd) (gf : mg "classes_of" = some (.ref f)) {tRING : Tok} (gtRING : mg "RING" = some (.str "ring" tRING)) (ntlen : mg "len" = none) (D_divisor : HasF P w K mg base T "divisor" 1 ["one", "other"] F_divisor) : HasF P w K mg base T "classes_of" 2 ["belt"] F_classes_of :=
  ⟨f, fd, fun fw => fo_classes_of Fu gtRING ntlen D_divisor, gf, Fu.kp, Fu.binds (ps := ["belt"]) fun _ _ _ _ _ _ us hl => match us, hl with | [_], _ => rfl⟩
abbrev s_share_of : Stmt := top 35
theorem sc_share_of : FnScope ["belt"] ["belt"] (defScope s_share_of) := ⟨rfl, rfl, rfl, by decide +kernel, rfl, by decide +kernel, by decide +kernel⟩
noncomputable def m_share_of : MS :=
  (mRet (mCall F_divisor (mCons (mBin gIx (mPk 0) (mC (.int 1))) (mCons (mBin gDiv (mBin gIx (mPk 0) (mC (.int 2))) (mCall F_classes_of (mCons (mVar 0) mNil))) mNil))))
noncomputable def F_share_of : MF := bodyF 1 1 m_share_of
theorem fo_share_of {f : Addr} {fd : FuncData} {fw : Nat → Addr → Wd → Prop} (Fu : Fun K "share_of" "share_of" s_share_of f fd) (D_classes_of : HasF P w K mg base T "classes_of" 2 ["belt"] F_classes_of) (D_divisor : HasF P w K mg base T "divisor" 1 ["one", "other"] F_divisor) : FnOk P w K mg base (L2.CX P w) 3 f fd ["belt"] (spF ⟨K, mg, T, noL fw⟩ F_share_of) := by
  refine fn_M Fu sc_share_of (fun cdv A outer s H E hr => ?_)
  have ag : Ag (cxOf (L2.CX P w) P w K mg base ["belt"] "share_of" (defScope s_share_of) f cdv A outer s H E) ⟨K, mg, T, noL fw⟩ := ⟨rfl, rfl⟩
  have nd := sc_share_of.nd
  have tk : Takes (cxOf (L2.CX P w) P w K mg base ["belt"] "share_of" (defScope s_share_of) f cdv A outer s H E) (fun cls d _ H => E cls d H) := takes_of rfl rfl rfl rfl
  exact (bm_on (sm_ret (em_callD D_divisor tk (hr.mono (by decide)) ⟨rfl, rfl, rfl, rfl⟩ rfl (am_cons (em_ix ag (om_var 0) (om em_int) (fun _ _ => rfl)) (am_cons (em_bin om_div (om (em_ix ag (om_var 0) (om em_int) (fun _ _ => rfl))) (om (em_callD D_classes_of tk (hr.mono (by decide)) ⟨rfl, rfl, rfl, rfl⟩ rfl (am_cons (em_var 0) am_nil)))) am_nil)))))
theorem ok_share_of {f : Addr} {fd : FuncData} (Fu : Fun K "share_of" "share_of" s_share_of f fd) (gf : mg "share_of" = some (.ref f)) (D_classes_of : HasF P w K mg base T "classes_of" 2 ["belt"] F_classes_of) (D_divisor : HasF P w K mg base T "divisor" 1 ["one", "other"] F_divisor) : HasF P w K mg base T "share_of" 3 ["belt"] F_share_of :=
  ⟨f, fd, fun fw => fo_share_of Fu D_classes_of D_divisor, gf, Fu.kp, Fu.binds (ps := ["belt"]) fun _ _ _ _ _ _ us hl => match us, hl with | [_], _ => rfl⟩
abbrev s_changed : Stmt := top 36
theorem sc_changed : FnScope ["belt", "goal", "found", "dial", "step", "number"] ["belt", "goal"] (defScope s_changed) := ⟨rfl, rfl, rfl, by decide +kernel, rfl, by decide +kernel, by decide +kernel⟩
noncomputable def m_changed : MS :=
  (mSeq (mSet 2 (mBin gMul (mLst (mCons (mC (.int 0)) mNil)) (mCall F_classes_of (mCons (mVar 0) mNil))))
  (mSeq (mFor (mEnum (mCall F_steps_to (mCons (mVar 0) (mCons (mVar 1) mNil)))) (gTp 2 (gsCons (gNm 3) (gsCons (gNm 4) gsNil))) (mSeq (mSet 5 (mBin gMod (mPk 3) (mCB (g1 gLen) (mCons (mPk 2) mNil))))
  (mSetIx 2 (mVar 5) (mBin gMod (mBin gAdd (mBin gIx (mPk 2) (mPk 5)) (mPk 4)) (mBin gIx (mPk 0) (mC (.int 1)))))))
  (mMv 2)))
noncomputable def F_changed : MF := bodyF 6 2 m_changed
theorem fo_changed {f : Addr} {fd : FuncData} {fw : Nat → Addr → Wd → Prop} (Fu : Fun K "changed" "changed" s_changed f fd) (ntenumerate : mg "enumerate" = none) (ntlen : mg "len" = none) (D_classes_of : HasF P w K mg base T "classes_of" 2 ["belt"] F_classes_of) (D_steps_to : HasF P w K mg base T "steps_to" 1 ["belt", "goal"] F_steps_to) : FnOk P w K mg base (L2.CX P w) 3 f fd ["belt", "goal"] (spF ⟨K, mg, T, noL fw⟩ F_changed) := by
  refine fn_M Fu sc_changed (fun cdv A outer s H E hr => ?_)
  have ag : Ag (cxOf (L2.CX P w) P w K mg base ["belt", "goal", "found", "dial", "step", "number"] "changed" (defScope s_changed) f cdv A outer s H E) ⟨K, mg, T, noL fw⟩ := ⟨rfl, rfl⟩
  have nd := sc_changed.nd
  have tk : Takes (cxOf (L2.CX P w) P w K mg base ["belt", "goal", "found", "dial", "step", "number"] "changed" (defScope s_changed) f cdv A outer s H E) (fun cls d _ H => E cls d H) := takes_of rfl rfl rfl rfl
  exact (bm_cs (sm_set (i := 2) nd rfl (Or.inl rfl) (em_bin om_mul (om (em_lst (am_cons em_int am_nil))) (om (em_callD D_classes_of tk (hr.mono (by decide)) ⟨rfl, rfl, rfl, rfl⟩ rfl (am_cons (em_var 0) am_nil)))))
  (bm_cs (sm_for (passes_of rfl) rfl (jm (im_enum ag rfl ntenumerate (em_callD D_steps_to tk (hr.mono (by decide)) ⟨rfl, rfl, rfl, rfl⟩ rfl (am_cons (em_var 0) (am_cons (em_var 1) am_nil))))) (gm_tup ag rfl (gms_cons (gm_name nd rfl (Or.inl rfl)) (gms_cons (gm_name nd rfl (Or.inl rfl)) gms_nil))) (bm_cs (sm_set (i := 5) nd rfl (Or.inl rfl) (em_bin om_mod (om_var 3) (om (em_callB (cm_len ag) rfl ntlen PySem.boot_len (bm_cons (om_var 2) bm_nil)))))
  (bm_on (sm_setIx 2 (hk := (em_var 5)) (he := (em_bin om_mod (om (em_bin (om_add ag) (om (em_ix ag (om_var 2) (om_var 5) (fun _ _ => rfl))) (om_var 4))) (om (em_ix ag (om_var 0) (om em_int) (fun _ _ => rfl)))))))))
  (bm_on (sm_retV 2))))
theorem ok_changed {f : Addr} {fd : FuncData} (Fu : Fun K "changed" "changed" s_changed f fd) (gf : mg "changed" = some (.ref f)) (ntenumerate : mg "enumerate" = none) (ntlen : mg "len" = none) (D_classes_of : HasF P w K mg base T "classes_of" 2 ["belt"] F_classes_of) (D_steps_to : HasF P w K mg base T "steps_to" 1 ["belt", "goal"] F_steps_to) : HasF P w K mg base T "changed" 3 ["belt", "goal"] F_changed :=
  ⟨f, fd, fun fw => fo_changed Fu ntenumerate ntlen D_classes_of D_steps_to, gf, Fu.kp, Fu.binds (ps := ["belt", "goal"]) fun _ _ _ _ _ _ us hl => match us, hl with | [_, _], _ => rfl⟩
abbrev s_parted : Stmt := top 37
theorem sc_parted : FnScope ["belt"] ["belt"] (defScope s_parted) := ⟨rfl, rfl, rfl, by decide +kernel, rfl, by decide +kernel, by decide +kernel⟩
noncomputable def m_parted : MS :=
  (mSeq (mEx (mCall F_need_belt (mCons (mVar 0) mNil)))
  (mRet (mTup (mCons (mCall F_classes_of (mCons (mVar 0) mNil)) (mCons (mCall F_share_of (mCons (mVar 0) mNil)) mNil)))))
noncomputable def F_parted : MF := bodyF 1 1 m_parted
theorem fo_parted {f : Addr} {fd : FuncData} {fw : Nat → Addr → Wd → Prop} (Fu : Fun K "parted" "parted" s_parted f fd) (D_need_belt : HasF P w K mg base T "need_belt" 4 ["belt"] F_need_belt) (D_share_of : HasF P w K mg base T "share_of" 3 ["belt"] F_share_of) (D_classes_of : HasF P w K mg base T "classes_of" 2 ["belt"] F_classes_of) : FnOk P w K mg base (L2.CX P w) 5 f fd ["belt"] (spF ⟨K, mg, T, noL fw⟩ F_parted) := by
  refine fn_M Fu sc_parted (fun cdv A outer s H E hr => ?_)
  have ag : Ag (cxOf (L2.CX P w) P w K mg base ["belt"] "parted" (defScope s_parted) f cdv A outer s H E) ⟨K, mg, T, noL fw⟩ := ⟨rfl, rfl⟩
  have nd := sc_parted.nd
  have tk : Takes (cxOf (L2.CX P w) P w K mg base ["belt"] "parted" (defScope s_parted) f cdv A outer s H E) (fun cls d _ H => E cls d H) := takes_of rfl rfl rfl rfl
  exact (bm_cs (sm_expr (em_callD D_need_belt tk (hr.mono (by decide)) ⟨rfl, rfl, rfl, rfl⟩ rfl (am_cons (em_var 0) am_nil)))
  (bm_on (sm_ret (em_tup (am_cons (em_callD D_classes_of tk (hr.mono (by decide)) ⟨rfl, rfl, rfl, rfl⟩ rfl (am_cons (em_var 0) am_nil)) (am_cons (em_callD D_share_of tk (hr.mono (by decide)) ⟨rfl, rfl, rfl, rfl⟩ rfl (am_cons (em_var 0) am_nil)) am_nil))))))
theorem ok_parted {f : Addr} {fd : FuncData} (Fu : Fun K "parted" "parted" s_parted f fd) (gf : mg "parted" = some (.ref f)) (D_need_belt : HasF P w K mg base T "need_belt" 4 ["belt"] F_need_belt) (D_share_of : HasF P w K mg base T "share_of" 3 ["belt"] F_share_of) (D_classes_of : HasF P w K mg base T "classes_of" 2 ["belt"] F_classes_of) : HasF P w K mg base T "parted" 5 ["belt"] F_parted :=
  ⟨f, fd, fun fw => fo_parted Fu D_need_belt D_share_of D_classes_of, gf, Fu.kp, Fu.binds (ps := ["belt"]) fun _ _ _ _ _ _ us hl => match us, hl with | [_], _ => rfl⟩
abbrev s_changes : Stmt := top 38
theorem sc_changes : FnScope ["belt", "goal"] ["belt", "goal"] (defScope s_changes) := ⟨rfl, rfl, rfl, by decide +kernel, rfl, by decide +kernel, by decide +kernel⟩
noncomputable def m_changes : MS :=
  (mSeq (mEx (mCall F_need_belt (mCons (mVar 0) mNil)))
  (mSeq (mEx (mCall F_need_goal (mCons (mVar 0) (mCons (mVar 1) mNil))))
  (mRet (mCall F_changed (mCons (mVar 0) (mCons (mVar 1) mNil))))))
noncomputable def F_changes : MF := bodyF 2 2 m_changes
theorem fo_changes {f : Addr} {fd : FuncData} {fw : Nat → Addr → Wd → Prop} (Fu : Fun K "changes" "changes" s_changes f fd) (D_need_belt : HasF P w K mg base T "need_belt" 4 ["belt"] F_need_belt) (D_need_goal : HasF P w K mg base T "need_goal" 4 ["belt", "goal"] F_need_goal) (D_changed : HasF P w K mg base T "changed" 3 ["belt", "goal"] F_changed) : FnOk P w K mg base (L2.CX P w) 5 f fd ["belt", "goal"] (spF ⟨K, mg, T, noL fw⟩ F_changes) := by
  refine fn_M Fu sc_changes (fun cdv A outer s H E hr => ?_)
  have ag : Ag (cxOf (L2.CX P w) P w K mg base ["belt", "goal"] "changes" (defScope s_changes) f cdv A outer s H E) ⟨K, mg, T, noL fw⟩ := ⟨rfl, rfl⟩
  have nd := sc_changes.nd
  have tk : Takes (cxOf (L2.CX P w) P w K mg base ["belt", "goal"] "changes" (defScope s_changes) f cdv A outer s H E) (fun cls d _ H => E cls d H) := takes_of rfl rfl rfl rfl
  exact (bm_cs (sm_expr (em_callD D_need_belt tk (hr.mono (by decide)) ⟨rfl, rfl, rfl, rfl⟩ rfl (am_cons (em_var 0) am_nil)))
  (bm_cs (sm_expr (em_callD D_need_goal tk (hr.mono (by decide)) ⟨rfl, rfl, rfl, rfl⟩ rfl (am_cons (em_var 0) (am_cons (em_var 1) am_nil))))
  (bm_on (sm_ret (em_callD D_changed tk (hr.mono (by decide)) ⟨rfl, rfl, rfl, rfl⟩ rfl (am_cons (em_var 0) (am_cons (em_var 1) am_nil)))))))
theorem ok_changes {f : Addr} {fd : FuncData} (Fu : Fun K "changes" "changes" s_changes f fd) (gf : mg "changes" = some (.ref f)) (D_need_belt : HasF P w K mg base T "need_belt" 4 ["belt"] F_need_belt) (D_need_goal : HasF P w K mg base T "need_goal" 4 ["belt", "goal"] F_need_goal) (D_changed : HasF P w K mg base T "changed" 3 ["belt", "goal"] F_changed) : HasF P w K mg base T "changes" 5 ["belt", "goal"] F_changes :=
  ⟨f, fd, fun fw => fo_changes Fu D_need_belt D_need_goal D_changed, gf, Fu.kp, Fu.binds (ps := ["belt", "goal"]) fun _ _ _ _ _ _ us hl => match us, hl with | [_, _], _ => rfl⟩
abbrev s_bar_of : Stmt := top 39
theorem sc_bar_of : FnScope ["belt", "goal", "some", "number", "change", "rest"] ["belt", "goal"] (defScope s_bar_of) := ⟨rfl, rfl, rfl, by decide +kernel, rfl, by decide +kernel, by decide +kernel⟩
noncomputable def m_bar_of : MS :=
  (mSeq (mSet 2 (mCall F_changed (mCons (mVar 0) (mCons (mVar 1) mNil))))
  (mSeq (mFor (mEnum (mVar 2)) (gTp 2 (gsCons (gNm 3) (gsCons (gNm 4) gsNil))) (mIf (mBin gNe (mPk 4) (mBin gIx (mPk 2) (mC (.int 0)))) (mRet (mTup (mCons (mC (.str "class")) (mCons (mVar 3) mNil)))) mNext))
  (mSeq (mSet 5 (mBin gMod (mBin gIx (mPk 2) (mC (.int 0))) (mCall F_share_of (mCons (mVar 0) mNil))))
  (mRet (mIfE (mBin gNe (mPk 5) (mC (.int 0))) (mTup (mCons (mC (.str "share")) (mCons (mVar 5) mNil))) (mC .non))))))
noncomputable def F_bar_of : MF := bodyF 6 2 m_bar_of
theorem fo_bar_of {f : Addr} {fd : FuncData} {fw : Nat → Addr → Wd → Prop} (Fu : Fun K "bar_of" "bar_of" s_bar_of f fd) {tCLASS : Tok} (gtCLASS : mg "CLASS" = some (.str "class" tCLASS)) {tSHARE : Tok} (gtSHARE : mg "SHARE" = some (.str "share" tSHARE)) (ntenumerate : mg "enumerate" = none) (D_changed : HasF P w K mg base T "changed" 3 ["belt", "goal"] F_changed) (D_share_of : HasF P w K mg base T "share_of" 3 ["belt"] F_share_of) : FnOk P w K mg base (L2.CX P w) 4 f fd ["belt", "goal"] (spF ⟨K, mg, T, noL fw⟩ F_bar_of) := by
  refine fn_M Fu sc_bar_of (fun cdv A outer s H E hr => ?_)
  have ag : Ag (cxOf (L2.CX P w) P w K mg base ["belt", "goal", "some", "number", "change", "rest"] "bar_of" (defScope s_bar_of) f cdv A outer s H E) ⟨K, mg, T, noL fw⟩ := ⟨rfl, rfl⟩
  have nd := sc_bar_of.nd
  have tk : Takes (cxOf (L2.CX P w) P w K mg base ["belt", "goal", "some", "number", "change", "rest"] "bar_of" (defScope s_bar_of) f cdv A outer s H E) (fun cls d _ H => E cls d H) := takes_of rfl rfl rfl rfl
  exact (bm_cs (sm_set (i := 2) nd rfl (Or.inl rfl) (em_callD D_changed tk (hr.mono (by decide)) ⟨rfl, rfl, rfl, rfl⟩ rfl (am_cons (em_var 0) (am_cons (em_var 1) am_nil))))
  (bm_cs (sm_for (passes_of rfl) rfl (jm (im_enum ag rfl ntenumerate (em_var 2))) (gm_tup ag rfl (gms_cons (gm_name nd rfl (Or.inl rfl)) (gms_cons (gm_name nd rfl (Or.inl rfl)) gms_nil))) (bm_on (sm_if (tm_cmp (om_ne ag hr.units) (om_var 4) (om (em_ix ag (om_var 2) (om em_int) (fun _ _ => rfl))) (nomark _)) (bm_on (sm_ret (em_tup (am_cons (em_gstr rfl (gtCLASS)) (am_cons (em_var 3) am_nil))))) bm_nl)))
  (bm_cs (sm_set (i := 5) nd rfl (Or.inl rfl) (em_bin om_mod (om (em_ix ag (om_var 2) (om em_int) (fun _ _ => rfl))) (om (em_callD D_share_of tk (hr.mono (by decide)) ⟨rfl, rfl, rfl, rfl⟩ rfl (am_cons (em_var 0) am_nil)))))
  (bm_on (sm_ret (em_if (tm_cmp (om_ne ag hr.units) (om_var 5) (om em_int) (nomark _)) (em_tup (am_cons (em_gstr rfl (gtSHARE)) (am_cons (em_var 5) am_nil))) em_non))))))
theorem ok_bar_of {f : Addr} {fd : FuncData} (Fu : Fun K "bar_of" "bar_of" s_bar_of f fd) (gf : mg "bar_of" = some (.ref f)) {tCLASS : Tok} (gtCLASS : mg "CLASS" = some (.str "class" tCLASS)) {tSHARE : Tok} (gtSHARE : mg "SHARE" = some (.str "share" tSHARE)) (ntenumerate : mg "enumerate" = none) (D_changed : HasF P w K mg base T "changed" 3 ["belt", "goal"] F_changed) (D_share_of : HasF P w K mg base T "share_of" 3 ["belt"] F_share_of) : HasF P w K mg base T "bar_of" 4 ["belt", "goal"] F_bar_of :=
  ⟨f, fd, fun fw => fo_bar_of Fu gtCLASS gtSHARE ntenumerate D_changed D_share_of, gf, Fu.kp, Fu.binds (ps := ["belt", "goal"]) fun _ _ _ _ _ _ us hl => match us, hl with | [_, _], _ => rfl⟩
abbrev s_barred : Stmt := top 40
theorem sc_barred : FnScope ["belt", "goal"] ["belt", "goal"] (defScope s_barred) := ⟨rfl, rfl, rfl, by decide +kernel, rfl, by decide +kernel, by decide +kernel⟩
noncomputable def m_barred : MS :=
  (mSeq (mEx (mCall F_need_belt (mCons (mVar 0) mNil)))
  (mSeq (mEx (mCall F_need_goal (mCons (mVar 0) (mCons (mVar 1) mNil))))
  (mRet (mCall F_bar_of (mCons (mVar 0) (mCons (mVar 1) mNil))))))
noncomputable def F_barred : MF := bodyF 2 2 m_barred
theorem fo_barred {f : Addr} {fd : FuncData} {fw : Nat → Addr → Wd → Prop} (Fu : Fun K "barred" "barred" s_barred f fd) (D_need_belt : HasF P w K mg base T "need_belt" 4 ["belt"] F_need_belt) (D_need_goal : HasF P w K mg base T "need_goal" 4 ["belt", "goal"] F_need_goal) (D_bar_of : HasF P w K mg base T "bar_of" 4 ["belt", "goal"] F_bar_of) : FnOk P w K mg base (L2.CX P w) 5 f fd ["belt", "goal"] (spF ⟨K, mg, T, noL fw⟩ F_barred) := by
  refine fn_M Fu sc_barred (fun cdv A outer s H E hr => ?_)
  have ag : Ag (cxOf (L2.CX P w) P w K mg base ["belt", "goal"] "barred" (defScope s_barred) f cdv A outer s H E) ⟨K, mg, T, noL fw⟩ := ⟨rfl, rfl⟩
  have nd := sc_barred.nd
  have tk : Takes (cxOf (L2.CX P w) P w K mg base ["belt", "goal"] "barred" (defScope s_barred) f cdv A outer s H E) (fun cls d _ H => E cls d H) := takes_of rfl rfl rfl rfl
  exact (bm_cs (sm_expr (em_callD D_need_belt tk (hr.mono (by decide)) ⟨rfl, rfl, rfl, rfl⟩ rfl (am_cons (em_var 0) am_nil)))
  (bm_cs (sm_expr (em_callD D_need_goal tk (hr.mono (by decide)) ⟨rfl, rfl, rfl, rfl⟩ rfl (am_cons (em_var 0) (am_cons (em_var 1) am_nil))))
  (bm_on (sm_ret (em_callD D_bar_of tk (hr.mono (by decide)) ⟨rfl, rfl, rfl, rfl⟩ rfl (am_cons (em_var 0) (am_cons (em_var 1) am_nil)))))))
theorem ok_barred {f : Addr} {fd : FuncData} (Fu : Fun K "barred" "barred" s_barred f fd) (gf : mg "barred" = some (.ref f)) (D_need_belt : HasF P w K mg base T "need_belt" 4 ["belt"] F_need_belt) (D_need_goal : HasF P w K mg base T "need_goal" 4 ["belt", "goal"] F_need_goal) (D_bar_of : HasF P w K mg base T "bar_of" 4 ["belt", "goal"] F_bar_of) : HasF P w K mg base T "barred" 5 ["belt", "goal"] F_barred :=
  ⟨f, fd, fun fw => fo_barred Fu D_need_belt D_need_goal D_bar_of, gf, Fu.kp, Fu.binds (ps := ["belt", "goal"]) fun _ _ _ _ _ _ us hl => match us, hl with | [_, _], _ => rfl⟩
abbrev s_task_of : Stmt := top 47
theorem sc_task_of : FnScope ["belt", "goal"] ["belt", "goal"] (defScope s_task_of) := ⟨rfl, rfl, rfl, by decide +kernel, rfl, by decide +kernel, by decide +kernel⟩
noncomputable def m_task_of : MS :=
  (mSeq (mEx (mCall F_need_belt (mCons (mVar 0) mNil)))
  (mSeq (mEx (mCall F_need_goal (mCons (mVar 0) (mCons (mVar 1) mNil))))
  (mRet mBad)))
noncomputable def F_task_of : MF := bodyF 2 2 m_task_of
theorem fo_task_of {f : Addr} {fd : FuncData} {fw : Nat → Addr → Wd → Prop} (Fu : Fun K "task_of" "task_of" s_task_of f fd) (D_need_belt : HasF P w K mg base T "need_belt" 4 ["belt"] F_need_belt) (D_need_goal : HasF P w K mg base T "need_goal" 4 ["belt", "goal"] F_need_goal) : FnOk P w K mg base (L2.CX P w) 5 f fd ["belt", "goal"] (spF ⟨K, mg, T, noL fw⟩ F_task_of) := by
  refine fn_M Fu sc_task_of (fun cdv A outer s H E hr => ?_)
  have ag : Ag (cxOf (L2.CX P w) P w K mg base ["belt", "goal"] "task_of" (defScope s_task_of) f cdv A outer s H E) ⟨K, mg, T, noL fw⟩ := ⟨rfl, rfl⟩
  have nd := sc_task_of.nd
  have tk : Takes (cxOf (L2.CX P w) P w K mg base ["belt", "goal"] "task_of" (defScope s_task_of) f cdv A outer s H E) (fun cls d _ H => E cls d H) := takes_of rfl rfl rfl rfl
  exact (bm_cs (sm_expr (em_callD D_need_belt tk (hr.mono (by decide)) ⟨rfl, rfl, rfl, rfl⟩ rfl (am_cons (em_var 0) am_nil)))
  (bm_cs (sm_expr (em_callD D_need_goal tk (hr.mono (by decide)) ⟨rfl, rfl, rfl, rfl⟩ rfl (am_cons (em_var 0) (am_cons (em_var 1) am_nil))))
  (bm_on (sm_ret em_bad))))
theorem ok_task_of {f : Addr} {fd : FuncData} (Fu : Fun K "task_of" "task_of" s_task_of f fd) (gf : mg "task_of" = some (.ref f)) (D_need_belt : HasF P w K mg base T "need_belt" 4 ["belt"] F_need_belt) (D_need_goal : HasF P w K mg base T "need_goal" 4 ["belt", "goal"] F_need_goal) : HasF P w K mg base T "task_of" 5 ["belt", "goal"] F_task_of :=
  ⟨f, fd, fun fw => fo_task_of Fu D_need_belt D_need_goal, gf, Fu.kp, Fu.binds (ps := ["belt", "goal"]) fun _ _ _ _ _ _ us hl => match us, hl with | [_, _], _ => rfl⟩
abbrev s_tally : Stmt := top 48
theorem sc_tally : FnScope ["belt", "goal"] ["belt", "goal"] (defScope s_tally) := ⟨rfl, rfl, rfl, by decide +kernel, rfl, by decide +kernel, by decide +kernel⟩
noncomputable def m_tally : MS :=
  (mRet (mExO (mCall F_task_of (mCons (mVar 0) (mCons (mVar 1) mNil)))))
noncomputable def F_tally : MF := bodyF 2 2 m_tally
theorem fo_tally {f : Addr} {fd : FuncData} {fw : Nat → Addr → Wd → Prop} (Fu : Fun K "tally" "tally" s_tally f fd) (D_task_of : HasF P w K mg base T "task_of" 5 ["belt", "goal"] F_task_of) : FnOk P w K mg base (L2.CX P w) 6 f fd ["belt", "goal"] (spF ⟨K, mg, T, noL fw⟩ F_tally) := by
  refine fn_M Fu sc_tally (fun cdv A outer s H E hr => ?_)
  have ag : Ag (cxOf (L2.CX P w) P w K mg base ["belt", "goal"] "tally" (defScope s_tally) f cdv A outer s H E) ⟨K, mg, T, noL fw⟩ := ⟨rfl, rfl⟩
  have nd := sc_tally.nd
  have tk : Takes (cxOf (L2.CX P w) P w K mg base ["belt", "goal"] "tally" (defScope s_tally) f cdv A outer s H E) (fun cls d _ H => E cls d H) := takes_of rfl rfl rfl rfl
  exact (bm_on (sm_ret (em_exo (em_callD D_task_of tk (hr.mono (by decide)) ⟨rfl, rfl, rfl, rfl⟩ rfl (am_cons (em_var 0) (am_cons (em_var 1) am_nil))))))
theorem ok_tally {f : Addr} {fd : FuncData} (Fu : Fun K "tally" "tally" s_tally f fd) (gf : mg "tally" = some (.ref f)) (D_task_of : HasF P w K mg base T "task_of" 5 ["belt", "goal"] F_task_of) : HasF P w K mg base T "tally" 6 ["belt", "goal"] F_tally :=
  ⟨f, fd, fun fw => fo_tally Fu D_task_of, gf, Fu.kp, Fu.binds (ps := ["belt", "goal"]) fun _ _ _ _ _ _ us hl => match us, hl with | [_, _], _ => rfl⟩
abbrev s__law_start : Stmt := top 50
theorem sc__law_start : FnScope ["_law_script", "_law_mixed", "_law_cell"] ["_law_script"] (defScope s__law_start) := ⟨rfl, rfl, rfl, by decide +kernel, rfl, by decide +kernel, by decide +kernel⟩
noncomputable def m__law_start : MS :=
  (mSeq (mSet 1 (mC (.int 1)))
  (mSeq (mFor (mSeqI (mVar 0)) (gNm 2) (mSet 1 (mBin gMod (mBin gAdd (mBin gAdd (mBin gMul (mPk 1) (mC (.int 48271))) (mPk 2)) (mC (.int 7))) (mC (.int 2147483647)))))
  (mRet (mLst (mCons (mVar 0) (mCons (mC (.int 0)) (mCons (mVar 1) (mCons (mC (.int 0)) mNil))))))))
noncomputable def F__law_start : MF := bodyF 3 1 m__law_start
theorem fo__law_start {f : Addr} {fd : FuncData} {fw : Nat → Addr → Wd → Prop} (Fu : Fun K "_law_start" "_law_start" s__law_start f fd)  : FnOk P w K mg base (L2.CX P w) 1 f fd ["_law_script"] (spF ⟨K, mg, T, noL fw⟩ F__law_start) := by
  refine fn_M Fu sc__law_start (fun cdv A outer s H E hr => ?_)
  have ag : Ag (cxOf (L2.CX P w) P w K mg base ["_law_script", "_law_mixed", "_law_cell"] "_law_start" (defScope s__law_start) f cdv A outer s H E) ⟨K, mg, T, noL fw⟩ := ⟨rfl, rfl⟩
  have nd := sc__law_start.nd
  have tk : Takes (cxOf (L2.CX P w) P w K mg base ["_law_script", "_law_mixed", "_law_cell"] "_law_start" (defScope s__law_start) f cdv A outer s H E) (fun cls d _ H => E cls d H) := takes_of rfl rfl rfl rfl
  exact (bm_cs (sm_set (i := 1) nd rfl (Or.inl rfl) em_int)
  (bm_cs (sm_for (passes_of rfl) rfl (jm (im_seq ag (em_var 0))) (gm_name nd rfl (Or.inl rfl)) (bm_on (sm_set (i := 1) nd rfl (Or.inl rfl) (em_bin om_mod (om (em_bin (om_add ag) (om (em_bin (om_add ag) (om (em_bin om_mul (om_var 1) (om em_int))) (om_var 2))) (om em_int))) (om em_int)))))
  (bm_on (sm_ret (em_lst (am_cons (em_var 0) (am_cons em_int (am_cons (em_var 1) (am_cons em_int am_nil)))))))))
theorem ok__law_start {f : Addr} {fd : FuncData} (Fu : Fun K "_law_start" "_law_start" s__law_start f fd) (gf : mg "_law_start" = some (.ref f))  : HasF P w K mg base T "_law_start" 1 ["_law_script"] F__law_start :=
  ⟨f, fd, fun fw => fo__law_start Fu , gf, Fu.kp, Fu.binds (ps := ["_law_script"]) fun _ _ _ _ _ _ us hl => match us, hl with | [_], _ => rfl⟩
abbrev s__law_drawn : Stmt := top 51
theorem sc__law_drawn : FnScope ["_law_state", "_law_many", "_law_found", "_law_cell"] ["_law_state", "_law_many"] (defScope s__law_drawn) := ⟨rfl, rfl, rfl, by decide +kernel, rfl, by decide +kernel, by decide +kernel⟩
noncomputable def m__law_drawn : MS :=
  (mSeq (mIf (mBin gGt (mCIx 0 (mC (.int 3))) (mC (.int 0))) (mSeq (mSet 2 (mBin gMod (mCIx 0 (mC (.int 3))) (mPk 1)))
  (mSeq (mCSet 0 (mC (.int 3)) (mBin gDiv (mCIx 0 (mC (.int 3))) (mPk 1)))
  (mMv 2))) mNext)
  (mSeq (mCSet 0 (mC (.int 1)) (mBin gAdd (mCIx 0 (mC (.int 1))) (mC (.int 1))))
  (mSeq (mIf (mBin gLe (mCIx 0 (mC (.int 1))) (mCB (g1 gLen) (mCons (mCIx 0 (mC (.int 0))) mNil))) (mSeq (mSet 3 (mBin gIx (mCIx 0 (mC (.int 0))) (mBin gSub (mCIx 0 (mC (.int 1))) (mC (.int 1)))))
  (mSeq (mCSet 0 (mC (.int 3)) (mIfE (mBin gGe (mPk 3) (mBin gPow (mC (.int 10)) (mC (.int 18)))) (mBin gDiv (mPk 3) (mPk 1)) (mC (.int 0))))
  (mRet (mBin gMod (mPk 3) (mPk 1))))) mNext)
  (mSeq (mCSet 0 (mC (.int 2)) (mBin gMod (mBin gAdd (mBin gMul (mCIx 0 (mC (.int 2))) (mC (.int 48271))) (mC (.int 11))) (mC (.int 2147483647))))
  (mRet (mBin gMod (mBin gDiv (mCIx 0 (mC (.int 2))) (mC (.int 7))) (mPk 1)))))))
noncomputable def F__law_drawn : MF := bodyF 4 2 m__law_drawn
theorem fo__law_drawn {f : Addr} {fd : FuncData} {fw : Nat → Addr → Wd → Prop} (Fu : Fun K "_law_drawn" "_law_drawn" s__law_drawn f fd) (ntlen : mg "len" = none) : FnOk P w K mg base (L2.CX P w) 1 f fd ["_law_state", "_law_many"] (spF ⟨K, mg, T, noL fw⟩ F__law_drawn) := by
  refine fn_M Fu sc__law_drawn (fun cdv A outer s H E hr => ?_)
  have ag : Ag (cxOf (L2.CX P w) P w K mg base ["_law_state", "_law_many", "_law_found", "_law_cell"] "_law_drawn" (defScope s__law_drawn) f cdv A outer s H E) ⟨K, mg, T, noL fw⟩ := ⟨rfl, rfl⟩
  have nd := sc__law_drawn.nd
  have tk : Takes (cxOf (L2.CX P w) P w K mg base ["_law_state", "_law_many", "_law_found", "_law_cell"] "_law_drawn" (defScope s__law_drawn) f cdv A outer s H E) (fun cls d _ H => E cls d H) := takes_of rfl rfl rfl rfl
  exact (bm_cs (sm_if (tm_cmp om_gt (om (em_cix 0 ag em_int (fun _ _ => rfl))) (om em_int) (nomark _)) (bm_cs (sm_set (i := 2) nd rfl (Or.inl rfl) (em_bin om_mod (om (em_cix 0 ag em_int (fun _ _ => rfl))) (om_var 1)))
  (bm_cs (sm_cset 0 (hk := em_int) (he := (em_bin om_div (om (em_cix 0 ag em_int (fun _ _ => rfl))) (om_var 1))))
  (bm_on (sm_retV 2)))) bm_nl)
  (bm_cs (sm_cset 0 (hk := em_int) (he := (em_bin (om_add ag) (om (em_cix 0 ag em_int (fun _ _ => rfl))) (om em_int))))
  (bm_cs (sm_if (tm_cmp om_le (om (em_cix 0 ag em_int (fun _ _ => rfl))) (om (em_callB (cm_len ag) rfl ntlen PySem.boot_len (bm_cons (om (em_cix 0 ag em_int (fun _ _ => rfl))) bm_nil))) (nomark _)) (bm_cs (sm_set (i := 3) nd rfl (Or.inl rfl) (em_ix ag (om (em_cix 0 ag em_int (fun _ _ => rfl))) (om (em_bin om_sub (om (em_cix 0 ag em_int (fun _ _ => rfl))) (om em_int))) (fun _ _ => rfl)))
  (bm_cs (sm_cset 0 (hk := em_int) (he := (em_if (tm_cmp om_ge (om_var 3) (om (em_bin om_pow (om em_int) (om em_int))) (nomark _)) (em_bin om_div (om_var 3) (om_var 1)) em_int)))
  (bm_on (sm_ret (em_bin om_mod (om_var 3) (om_var 1)))))) bm_nl)
  (bm_cs (sm_cset 0 (hk := em_int) (he := (em_bin om_mod (om (em_bin (om_add ag) (om (em_bin om_mul (om (em_cix 0 ag em_int (fun _ _ => rfl))) (om em_int))) (om em_int))) (om em_int))))
  (bm_on (sm_ret (em_bin om_mod (om (em_bin om_div (om (em_cix 0 ag em_int (fun _ _ => rfl))) (om em_int))) (om_var 1))))))))
theorem ok__law_drawn {f : Addr} {fd : FuncData} (Fu : Fun K "_law_drawn" "_law_drawn" s__law_drawn f fd) (gf : mg "_law_drawn" = some (.ref f)) (ntlen : mg "len" = none) : HasF P w K mg base T "_law_drawn" 1 ["_law_state", "_law_many"] F__law_drawn :=
  ⟨f, fd, fun fw => fo__law_drawn Fu ntlen, gf, Fu.kp, Fu.binds (ps := ["_law_state", "_law_many"]) fun _ _ _ _ _ _ us hl => match us, hl with | [_, _], _ => rfl⟩
abbrev s__law_same : Stmt := top 52
theorem sc__law_same : FnScope ["_law_found", "_law_due", "_law_alike", "_law_k"] ["_law_found", "_law_due"] (defScope s__law_same) := ⟨rfl, rfl, rfl, by decide +kernel, rfl, by decide +kernel, by decide +kernel⟩
noncomputable def m__law_same (Frec : MF) : MS :=
  (mSeq (mIf (mIsi2 "tuple" "list" (mPk 1)) (mSeq (mIf (mOr (mNot (mIsi2 "tuple" "list" (mPk 0))) (mBin gNe (mIsi "list" (mPk 0)) (mIsi "list" (mPk 1)))) (mRet (mC (.bl false))) mNext)
  (mSeq (mIf (mBin gNe (mCB (g1 gLen) (mCons (mPk 0) mNil)) (mCB (g1 gLen) (mCons (mPk 1) mNil))) (mRet (mC (.bl false))) mNext)
  (mRet (mBin gEq (mLc [3] (mRng1 (mCons (mCB (g1 gLen) (mCons (mPk 1) mNil)) mNil)) (gNm 3) (mNot (mCall Frec (mCons (mBin gIx (mPk 0) (mPk 3)) (mCons (mBin gIx (mPk 1) (mPk 3)) mNil)))) (mVar 3)) (mLst mNil))))) mNext)
  (mSeq (mSet 2 (mAnd (mBin gEq (mIsi "bool" (mPk 0)) (mIsi "bool" (mPk 1))) (mBin gEq (mIsi "int" (mPk 0)) (mIsi "int" (mPk 1)))))
  (mRet (mAnd (mVar 2) (mBin gEq (mPk 0) (mPk 1))))))
noncomputable def Fr__law_same : Nat → MF
  | 0 => fun _ _ => .bad
  | n + 1 => bodyF 4 2 (m__law_same (Fr__law_same n))
noncomputable def F__law_same : MF := Fr__law_same 6
theorem fo__law_same {f : Addr} {fd : FuncData} {fw : Nat → Addr → Wd → Prop} (Fu : Fun K "_law_same" "_law_same" s__law_same f fd) (ntbool : mg "bool" = none) (ntint : mg "int" = none) (ntisinstance : mg "isinstance" = none) (ntlen : mg "len" = none) (ntlist : mg "list" = none) (ntrange : mg "range" = none) (nttuple : mg "tuple" = none) {kR : Nat} {Frec : MF} (D_rec : HasF P w K mg base T "_law_same" kR ["_law_found", "_law_due"] Frec) : FnOk P w K mg base (L2.CX P w) (kR + 0 + 1) f fd ["_law_found", "_law_due"] (spF ⟨K, mg, T, noL fw⟩ (bodyF 4 2 (m__law_same Frec))) := by
  refine fn_M Fu sc__law_same (fun cdv A outer s H E hr => ?_)
  have ag : Ag (cxOf (L2.CX P w) P w K mg base ["_law_found", "_law_due", "_law_alike", "_law_k"] "_law_same" (defScope s__law_same) f cdv A outer s H E) ⟨K, mg, T, noL fw⟩ := ⟨rfl, rfl⟩
  have nd := sc__law_same.nd
  have tk : Takes (cxOf (L2.CX P w) P w K mg base ["_law_found", "_law_due", "_law_alike", "_law_k"] "_law_same" (defScope s__law_same) f cdv A outer s H E) (fun cls d _ H => E cls d H) := takes_of rfl rfl rfl rfl
  exact (bm_cs (sm_if (tm_val (em_isi2 ag (by decide) (by decide) rfl ntisinstance rfl nttuple (by decide +kernel) rfl ntlist (by decide +kernel) (om_var 1))) (bm_cs (sm_if (tm_w (wm_or (tm_not (tm_val (em_isi2 ag (by decide) (by decide) rfl ntisinstance rfl nttuple (by decide +kernel) rfl ntlist (by decide +kernel) (om_var 0)))) (wm_or1 (tm_cmp (om_ne ag hr.units) (om (em_isi ag (by decide) rfl ntisinstance rfl ntlist (by decide +kernel) (om_var 0))) (om (em_isi ag (by decide) rfl ntisinstance rfl ntlist (by decide +kernel) (om_var 1))) (nomark _))))) (bm_on (sm_ret em_bl)) bm_nl)
  (bm_cs (sm_if (tm_cmp (om_ne ag hr.units) (om (em_callB (cm_len ag) rfl ntlen PySem.boot_len (bm_cons (om_var 0) bm_nil))) (om (em_callB (cm_len ag) rfl ntlen PySem.boot_len (bm_cons (om_var 1) bm_nil))) (nomark _)) (bm_on (sm_ret em_bl)) bm_nl)
  (bm_on (sm_ret (em_cmp (om_eq ag hr.units) (om (em_lcv rfl nd (im_range1 rfl ntrange (bm_cons (om (em_callB (cm_len ag) rfl ntlen PySem.boot_len (bm_cons (om_var 1) bm_nil))) bm_nil)) (blkOk_by (N := ["_law_found", "_law_due", "_law_alike", "_law_k"]) (sc := defScope s__law_same) (own := [("_law_k", 3)]) (by decide +kernel)) (fun _ _ _ _ _ => (gm_name nd rfl (Or.inl rfl))) (fun _ _ _ _ _ => (tsm_one (tm_not (tm_val (em_callD D_rec L2.takes0 (hr.mono (by omega)) ⟨rfl, rfl, rfl, rfl⟩ rfl (am_cons (em_ix ⟨rfl, rfl⟩ (om_var 0) (om_var 3) (fun _ _ => rfl)) (am_cons (em_ix ⟨rfl, rfl⟩ (om_var 1) (om_var 3) (fun _ _ => rfl)) am_nil))))))) (fun _ _ _ _ _ => (em_var 3)) rfl (by decide))) (om (em_lst am_nil)) (nomark _)))))) bm_nl)
  (bm_cs (sm_set (i := 2) nd rfl (Or.inl rfl) (em_and (em_cmp (om_eq ag hr.units) (om (em_isi ag (by decide) rfl ntisinstance rfl ntbool (by decide +kernel) (om_var 0))) (om (em_isi ag (by decide) rfl ntisinstance rfl ntbool (by decide +kernel) (om_var 1))) (nomark _)) (em_one (em_cmp (om_eq ag hr.units) (om (em_isi ag (by decide) rfl ntisinstance rfl ntint (by decide +kernel) (om_var 0))) (om (em_isi ag (by decide) rfl ntisinstance rfl ntint (by decide +kernel) (om_var 1))) (nomark _)))))
  (bm_on (sm_ret (em_and (em_var 2) (em_one (em_cmp (om_eq ag hr.units) (om_var 0) (om_var 1) (nomark _))))))))
theorem okr__law_same {f : Addr} {fd : FuncData} (Fu : Fun K "_law_same" "_law_same" s__law_same f fd) (gf : mg "_law_same" = some (.ref f)) (ntbool : mg "bool" = none) (ntint : mg "int" = none) (ntisinstance : mg "isinstance" = none) (ntlen : mg "len" = none) (ntlist : mg "list" = none) (ntrange : mg "range" = none) (nttuple : mg "tuple" = none) : ∀ n : Nat, HasF P w K mg base T "_law_same" (n * 1 + 1) ["_law_found", "_law_due"] (Fr__law_same n)
  | 0 => HasF.none' (k := 0 * 1) Fu sc__law_same gf (Fu.binds (ps := ["_law_found", "_law_due"]) fun _ _ _ _ _ _ us hl => match us, hl with | [_, _], _ => rfl)
  | n + 1 => ⟨f, fd, fun fw => (fo__law_same Fu ntbool ntint ntisinstance ntlen ntlist ntrange nttuple (okr__law_same Fu gf ntbool ntint ntisinstance ntlen ntlist ntrange nttuple n)).mono (by omega), gf, Fu.kp, Fu.binds (ps := ["_law_found", "_law_due"]) fun _ _ _ _ _ _ us hl => match us, hl with | [_, _], _ => rfl⟩
theorem ok__law_same {f : Addr} {fd : FuncData} (Fu : Fun K "_law_same" "_law_same" s__law_same f fd) (gf : mg "_law_same" = some (.ref f)) (ntbool : mg "bool" = none) (ntint : mg "int" = none) (ntisinstance : mg "isinstance" = none) (ntlen : mg "len" = none) (ntlist : mg "list" = none) (ntrange : mg "range" = none) (nttuple : mg "tuple" = none) : HasF P w K mg base T "_law_same" 7 ["_law_found", "_law_due"] F__law_same := okr__law_same Fu gf ntbool ntint ntisinstance ntlen ntlist ntrange nttuple 6
abbrev s__law_kind : Stmt := top 53
theorem sc__law_kind : FnScope ["_law_work", "e", "_law_kinds", "_law_words", "_law_word"] ["_law_work"] (defScope s__law_kind) := ⟨rfl, rfl, rfl, by decide +kernel, rfl, by decide +kernel, by decide +kernel⟩
noncomputable def m__law_kind (act : MF) : MS :=
  (mTry (mRet (mAct 0 act mNil)) (("DialError", some 1, (mSeq (mSet 2 (mLst (mCons (mIsx 1 "BadBelt") (mCons (mIsx 1 "BadGoal") (mCons (mIsx 1 "BadPress") (mCons (mIsx 1 "BadStep") mNil))))))
  (mSeq (mSet 2 (mBin gAdd (mPk 2) (mLst (mCons (mIsx 1 "BadDeed") (mCons (mIsx 1 "BadCount") (mCons (mIsx 1 "TooMany") mNil))))))
  (mSeq (mSet 2 (mBin gAdd (mPk 2) (mLst (mCons (mIsx 1 "NoWay") (mCons (mIsx 1 "BadName") (mCons (mIsx 1 "Known") mNil))))))
  (mSeq (mSet 2 (mBin gAdd (mPk 2) (mLst (mCons (mIsx 1 "NoRoutine") (mCons (mIsx 1 "BadText") mNil)))))
  (mSeq (mSet 3 (mC (.str "BadBelt BadGoal BadPress BadStep BadDeed BadCount TooMany NoWay BadName Known NoRoutine BadText")))
  (mSeq (mIf (mOr (mBin gNe (mMth "list" gCount (mPk 2) (mCons (mC (.bl true)) mNil)) (mC (.int 1))) (mNot (mIsx 1 "ValueError"))) (mRet (mC (.str "other"))) mNext)
  (mSeq (mSet 4 (mBin gIx (mMth "str" gSplit (mPk 3) (mCons (mC (.str " ")) mNil)) (mMth "list" gIndex (mPk 2) (mCons (mC (.bl true)) mNil))))
  (mSeq (mIf (mBin gEq (mPk 4) (mC (.str "BadBelt"))) (mRet (mTup (mCons (mVar 4) (mCons (mXf 1 "part") (mCons (mXf 1 "number") mNil))))) mNext)
  (mSeq (mIf (mBin gIn (mPk 4) (mTup (mCons (mC (.str "BadGoal")) (mCons (mC (.str "BadPress")) (mCons (mC (.str "BadStep")) (mCons (mC (.str "BadDeed")) mNil)))))) (mRet (mTup (mCons (mVar 4) (mCons (mXf 1 "number") mNil)))) mNext)
  (mRet (mIfE (mBin gEq (mPk 4) (mC (.str "BadText"))) (mTup (mCons (mVar 4) (mCons (mXf 1 "row") mNil))) (mVar 4))))))))))))) :: []))
theorem ha__law_kind {f : Addr} {fd : FuncData} (Fu : Fun K "_law_kind" "_law_kind" s__law_kind f fd) (gf : mg "_law_kind" = some (.ref f)) (ntValueError : mg "ValueError" = none) (ntisinstance : mg "isinstance" = none) (XA : XAll K mg) : HasA P w K mg base T "_law_kind" 0 ["_law_work", "e", "_law_kinds", "_law_words", "_law_word"] [] "_law_work" ActAt0 m__law_kind := by
  have hb : L2.Binds K fd ["_law_work"] [] := Fu.binds (ps := ["_law_work"]) fun _ _ _ _ _ _ us hl => match us, hl with | [_], _ => rfl
  have kp := Fu.kp
  obtain ⟨oc, od, kV, doc, pm, an, cdv, ct, osl, rfl, lk, hcd⟩ := Fu.ex
  refine ⟨f, s__law_kind, od, an, osl, oc, kV, doc, pm, cdv, ct, gf, kp, lk, hcd, hb, sc__law_kind, rfl, (by first | exact Or.inl rfl | exact Or.inr (Or.inl rfl) | exact Or.inr (Or.inr rfl)), fun A outer s H E lm act hr hact => ?_⟩
  have ag : Ag (cxOf (L2.CX P w) P w K mg base ["_law_work", "e", "_law_kinds", "_law_words", "_law_word"] "_law_kind" (defScope s__law_kind) f cdv A outer s H E) ⟨K, mg, T, lm⟩ := ⟨rfl, rfl⟩
  have nd := sc__law_kind.nd
  have tk : Takes (cxOf (L2.CX P w) P w K mg base ["_law_work", "e", "_law_kinds", "_law_words", "_law_word"] "_law_kind" (defScope s__law_kind) f cdv A outer s H E) (fun cls d _ H => E cls d H) := takes_of rfl rfl rfl rfl
  exact (bm_on (sm_try rfl rfl nd tk XA ag (fun Wx pn xe tk' po' => (bm_on (sm_ret (act0_tr hact tk')))) (.nam (i := 1) rfl rfl rfl (by decide) (by decide) (fun a oe cls d pn hz hv => (bm_cs (sm_set (i := 2) nd rfl (Or.inl rfl) (em_lst (am_cons (em_isxC 1 XA rfl hz hv rfl ntisinstance rfl (by decide) rfl (by first | exact Or.inl rfl | exact Or.inr (Or.inl rfl) | exact Or.inr (Or.inr rfl))) (am_cons (em_isxC 1 XA rfl hz hv rfl ntisinstance rfl (by decide) rfl (by first | exact Or.inl rfl | exact Or.inr (Or.inl rfl) | exact Or.inr (Or.inr rfl))) (am_cons (em_isxC 1 XA rfl hz hv rfl ntisinstance rfl (by decide) rfl (by first | exact Or.inl rfl | exact Or.inr (Or.inl rfl) | exact Or.inr (Or.inr rfl))) (am_cons (em_isxC 1 XA rfl hz hv rfl ntisinstance rfl (by decide) rfl (by first | exact Or.inl rfl | exact Or.inr (Or.inl rfl) | exact Or.inr (Or.inr rfl))) am_nil))))))
  (bm_cs (sm_set (i := 2) nd rfl (Or.inl rfl) (em_bin (om_add ⟨rfl, rfl⟩) (om_var 2) (om (em_lst (am_cons (em_isxC 1 XA rfl hz hv rfl ntisinstance rfl (by decide) rfl (by first | exact Or.inl rfl | exact Or.inr (Or.inl rfl) | exact Or.inr (Or.inr rfl))) (am_cons (em_isxC 1 XA rfl hz hv rfl ntisinstance rfl (by decide) rfl (by first | exact Or.inl rfl | exact Or.inr (Or.inl rfl) | exact Or.inr (Or.inr rfl))) (am_cons (em_isxC 1 XA rfl hz hv rfl ntisinstance rfl (by decide) rfl (by first | exact Or.inl rfl | exact Or.inr (Or.inl rfl) | exact Or.inr (Or.inr rfl))) am_nil)))))))
  (bm_cs (sm_set (i := 2) nd rfl (Or.inl rfl) (em_bin (om_add ⟨rfl, rfl⟩) (om_var 2) (om (em_lst (am_cons (em_isxC 1 XA rfl hz hv rfl ntisinstance rfl (by decide) rfl (by first | exact Or.inl rfl | exact Or.inr (Or.inl rfl) | exact Or.inr (Or.inr rfl))) (am_cons (em_isxC 1 XA rfl hz hv rfl ntisinstance rfl (by decide) rfl (by first | exact Or.inl rfl | exact Or.inr (Or.inl rfl) | exact Or.inr (Or.inr rfl))) (am_cons (em_isxC 1 XA rfl hz hv rfl ntisinstance rfl (by decide) rfl (by first | exact Or.inl rfl | exact Or.inr (Or.inl rfl) | exact Or.inr (Or.inr rfl))) am_nil)))))))
  (bm_cs (sm_set (i := 2) nd rfl (Or.inl rfl) (em_bin (om_add ⟨rfl, rfl⟩) (om_var 2) (om (em_lst (am_cons (em_isxC 1 XA rfl hz hv rfl ntisinstance rfl (by decide) rfl (by first | exact Or.inl rfl | exact Or.inr (Or.inl rfl) | exact Or.inr (Or.inr rfl))) (am_cons (em_isxC 1 XA rfl hz hv rfl ntisinstance rfl (by decide) rfl (by first | exact Or.inl rfl | exact Or.inr (Or.inl rfl) | exact Or.inr (Or.inr rfl))) am_nil))))))
  (bm_cs (sm_set (i := 3) nd rfl (Or.inl rfl) em_str)
  (bm_cs (sm_if (tm_w (wm_or (tm_cmp (om_ne ⟨rfl, rfl⟩ hr.units) (om (em_mth ⟨rfl, rfl⟩ PySem.F.plainAttrs_list PySem.F.slot_list_count PySem.F.type_list_count (mm_count ⟨rfl, rfl⟩) (om_var 2) (bm_cons (om em_bl) bm_nil))) (om em_int) (nomark _)) (wm_or1 (tm_not (tm_val (em_isxV 1 XA rfl hz hv rfl ntisinstance rfl ntValueError rfl (by first | exact Or.inl rfl | exact Or.inr (Or.inl rfl) | exact Or.inr (Or.inr rfl)))))))) (bm_on (sm_ret em_str)) bm_nl)
  (bm_cs (sm_set (i := 4) nd rfl (Or.inl rfl) (em_ix ⟨rfl, rfl⟩ (om (em_mth ⟨rfl, rfl⟩ PySem.F.plainAttrs_str PySem.F.slot_str_split PySem.F.type_str_split mm_split (om_var 3) (bm_cons (om em_str) bm_nil))) (om (em_mth ⟨rfl, rfl⟩ PySem.F.plainAttrs_list PySem.F.slot_list_index PySem.F.type_list_index (mm_index ⟨rfl, rfl⟩) (om_var 2) (bm_cons (om em_bl) bm_nil))) (fun _ _ => rfl)))
  (bm_cs (sm_if (tm_cmp (om_eq ⟨rfl, rfl⟩ hr.units) (om_var 4) (om em_str) (nomark _)) (bm_on (sm_ret (em_tup (am_cons (em_var 4) (am_cons (em_xf 1 XA rfl hz hv rfl (by first | exact Or.inl rfl | exact Or.inr (Or.inl rfl) | exact Or.inr (Or.inr rfl)) (by decide)) (am_cons (em_xf 1 XA rfl hz hv rfl (by first | exact Or.inl rfl | exact Or.inr (Or.inl rfl) | exact Or.inr (Or.inr rfl)) (by decide)) am_nil)))))) bm_nl)
  (bm_cs (sm_if (tm_cmp (om_in ⟨rfl, rfl⟩ (hr66 hr :)) (om_var 4) (om (em_tup (am_cons em_str (am_cons em_str (am_cons em_str (am_cons em_str am_nil)))))) (by with_unfolding_all rfl)) (bm_on (sm_ret (em_tup (am_cons (em_var 4) (am_cons (em_xf 1 XA rfl hz hv rfl (by first | exact Or.inl rfl | exact Or.inr (Or.inl rfl) | exact Or.inr (Or.inr rfl)) (by decide)) am_nil))))) bm_nl)
  (bm_on (sm_ret (em_if (tm_cmp (om_eq ⟨rfl, rfl⟩ hr.units) (om_var 4) (om em_str) (nomark _)) (em_tup (am_cons (em_var 4) (am_cons (em_xf 1 XA rfl hz hv rfl (by first | exact Or.inl rfl | exact Or.inr (Or.inl rfl) | exact Or.inr (Or.inr rfl)) (by decide)) am_nil))) (em_var 4)))))))))))))) .nil)))
abbrev s__law_belt : Stmt := top 54
theorem sc__law_belt : FnScope ["_law_state", "_law_most_here", "_law_figures", "_law_shape", "_law_many", "_law_wide", "_law_dials", "_law_rare", "_law_dear", "_law_prices", "_law_k"] ["_law_state", "_law_most_here", "_law_figures"] (defScope s__law_belt) := ⟨rfl, rfl, rfl, by decide +kernel, rfl, by decide +kernel, by decide +kernel⟩
noncomputable def m__law_belt : MS :=
  (mSeq (mAsg (gTp 2 (gsCons (gNm 3) (gsCons (gNm 2) gsNil))) (mTup (mCons (mBin gIx (mLst (mCons (mC (.str "row")) (mCons (mC (.str "ring")) (mCons (mC (.str "ring")) mNil)))) (mCall F__law_drawn (mCons (mVar 0) (mCons (mC (.int 3)) mNil)))) (mCons (mBin gAdd (mC (.int 2)) (mCall F__law_drawn (mCons (mVar 0) (mCons (mBin gSub (mPk 2) (mC (.int 1))) mNil)))) mNil))))
  (mSeq (mSet 4 (mBin gAdd (mC (.int 1)) (mCall F__law_drawn (mCons (mVar 0) (mCons (mVar 1) mNil)))))
  (mSeq (mSet 5 (mBin gIx (mLst (mCons (mBin gAdd (mC (.int 1)) (mCall F__law_drawn (mCons (mVar 0) (mCons (mVar 4) mNil)))) (mCons (mBin gAdd (mC (.int 1)) (mCall F__law_drawn (mCons (mVar 0) (mCons (mCB (g2 gMin2) (mCons (mPk 4) (mCons (mC (.int 4)) mNil))) mNil)))) (mCons (mVar 4) mNil)))) (mBin gDiv (mCall F__law_drawn (mCons (mVar 0) (mCons (mC (.int 8)) mNil))) (mC (.int 3)))))
  (mSeq (mSet 6 (mCB (g1 gTuple) (mCons (mLc [10] (mRng1 (mCons (mPk 4) mNil)) (gNm 10) mT (mCall F__law_drawn (mCons (mVar 0) (mCons (mVar 2) mNil)))) mNil)))
  (mSeq (mPar3 7 8 9 (mBin gIx (mLst (mCons (mC (.int 4)) (mCons (mC (.int 30)) (mCons (mC (.int 90)) mNil)))) (mCall F__law_drawn (mCons (mVar 0) (mCons (mC (.int 3)) mNil)))) (mBin gIx (mLst (mCons (mC (.int 3)) (mCons (mC (.int 99)) mNil))) (mCall F__law_drawn (mCons (mVar 0) (mCons (mC (.int 2)) mNil)))) (mLst mNil))
  (mSeq (mFor (mRng1 (mCons (mIfE (mBin gEq (mPk 3) (mC (.str "ring"))) (mVar 4) (mBin gAdd (mBin gSub (mPk 4) (mPk 5)) (mC (.int 1)))) mNil)) (gNm 10) (mApp 9 (mIfE (mBin gEq (mCall F__law_drawn (mCons (mVar 0) (mCons (mVar 7) mNil))) (mC (.int 0))) (mC .non) (mBin gAdd (mC (.int 1)) (mCall F__law_drawn (mCons (mVar 0) (mCons (mVar 8) mNil)))))))
  (mRet (mTup (mCons (mVar 3) (mCons (mVar 2) (mCons (mVar 5) (mCons (mVar 6) (mCons (mCB (g1 gTuple) (mCons (mPk 9) mNil)) mNil)))))))))))))
noncomputable def F__law_belt : MF := bodyF 11 3 m__law_belt
theorem fo__law_belt {f : Addr} {fd : FuncData} {fw : Nat → Addr → Wd → Prop} (Fu : Fun K "_law_belt" "_law_belt" s__law_belt f fd) (ntmin : mg "min" = none) (ntrange : mg "range" = none) (nttuple : mg "tuple" = none) (D__law_drawn : HasF P w K mg base T "_law_drawn" 1 ["_law_state", "_law_many"] F__law_drawn) : FnOk P w K mg base (L2.CX P w) 2 f fd ["_law_state", "_law_most_here", "_law_figures"] (spF ⟨K, mg, T, noL fw⟩ F__law_belt) := by
  refine fn_M Fu sc__law_belt (fun cdv A outer s H E hr => ?_)
  have ag : Ag (cxOf (L2.CX P w) P w K mg base ["_law_state", "_law_most_here", "_law_figures", "_law_shape", "_law_many", "_law_wide", "_law_dials", "_law_rare", "_law_dear", "_law_prices", "_law_k"] "_law_belt" (defScope s__law_belt) f cdv A outer s H E) ⟨K, mg, T, noL fw⟩ := ⟨rfl, rfl⟩
  have nd := sc__law_belt.nd
  have tk : Takes (cxOf (L2.CX P w) P w K mg base ["_law_state", "_law_most_here", "_law_figures", "_law_shape", "_law_many", "_law_wide", "_law_dials", "_law_rare", "_law_dear", "_law_prices", "_law_k"] "_law_belt" (defScope s__law_belt) f cdv A outer s H E) (fun cls d _ H => E cls d H) := takes_of rfl rfl rfl rfl
  exact (bm_cs (sm_asg (em_tup (am_cons (em_ix ag (om (em_lst (am_cons em_str (am_cons em_str (am_cons em_str am_nil))))) (om (em_callD D__law_drawn tk (hr.mono (by decide)) ⟨rfl, rfl, rfl, rfl⟩ rfl (am_cons (em_var 0) (am_cons em_int am_nil)))) (fun _ _ => rfl)) (am_cons (em_bin (om_add ag) (om em_int) (om (em_callD D__law_drawn tk (hr.mono (by decide)) ⟨rfl, rfl, rfl, rfl⟩ rfl (am_cons (em_var 0) (am_cons (em_bin om_sub (om_var 2) (om em_int)) am_nil))))) am_nil))) (gm_tup ag rfl (gms_cons (gm_name nd rfl (Or.inl rfl)) (gms_cons (gm_name nd rfl (Or.inr rfl)) gms_nil))))
  (bm_cs (sm_set (i := 4) nd rfl (Or.inl rfl) (em_bin (om_add ag) (om em_int) (om (em_callD D__law_drawn tk (hr.mono (by decide)) ⟨rfl, rfl, rfl, rfl⟩ rfl (am_cons (em_var 0) (am_cons (em_var 1) am_nil))))))
  (bm_cs (sm_set (i := 5) nd rfl (Or.inl rfl) (em_ix ag (om (em_lst (am_cons (em_bin (om_add ag) (om em_int) (om (em_callD D__law_drawn tk (hr.mono (by decide)) ⟨rfl, rfl, rfl, rfl⟩ rfl (am_cons (em_var 0) (am_cons (em_var 4) am_nil))))) (am_cons (em_bin (om_add ag) (om em_int) (om (em_callD D__law_drawn tk (hr.mono (by decide)) ⟨rfl, rfl, rfl, rfl⟩ rfl (am_cons (em_var 0) (am_cons (em_callB (cm_min2 rfl) rfl ntmin (by decide +kernel) (bm_cons (om_var 4) (bm_cons (om em_int) bm_nil))) am_nil))))) (am_cons (em_var 4) am_nil))))) (om (em_bin om_div (om (em_callD D__law_drawn tk (hr.mono (by decide)) ⟨rfl, rfl, rfl, rfl⟩ rfl (am_cons (em_var 0) (am_cons em_int am_nil)))) (om em_int))) (fun _ _ => rfl)))
  (bm_cs (sm_set (i := 6) nd rfl (Or.inl rfl) (em_callT (cm_tuple ag) rfl nttuple (by decide +kernel) (bm_cons (om (em_lcv rfl nd (im_range1 rfl ntrange (bm_cons (om_var 4) bm_nil)) (blkOk_by (N := ["_law_state", "_law_most_here", "_law_figures", "_law_shape", "_law_many", "_law_wide", "_law_dials", "_law_rare", "_law_dear", "_law_prices", "_law_k"]) (sc := defScope s__law_belt) (own := [("_law_k", 10)]) (by decide +kernel)) (fun _ _ _ _ _ => (gm_name nd rfl (Or.inl rfl))) (fun _ _ _ _ _ => tsm_nil) (fun _ _ _ _ _ => (em_callD D__law_drawn L2.takes0 (hr.mono (by decide)) ⟨rfl, rfl, rfl, rfl⟩ rfl (am_cons (em_var 0) (am_cons (em_var 2) am_nil)))) rfl (by decide))) bm_nil)))
  (bm_cs (sm_par3 rfl nd rfl rfl rfl (by decide) (by decide) (by decide) rfl rfl rfl (em_ix ag (om (em_lst (am_cons em_int (am_cons em_int (am_cons em_int am_nil))))) (om (em_callD D__law_drawn tk (hr.mono (by decide)) ⟨rfl, rfl, rfl, rfl⟩ rfl (am_cons (em_var 0) (am_cons em_int am_nil)))) (fun _ _ => rfl)) (em_ix ag (om (em_lst (am_cons em_int (am_cons em_int am_nil)))) (om (em_callD D__law_drawn tk (hr.mono (by decide)) ⟨rfl, rfl, rfl, rfl⟩ rfl (am_cons (em_var 0) (am_cons em_int am_nil)))) (fun _ _ => rfl)) (em_lst am_nil) (by rfl))
  (bm_cs (sm_for (passes_of rfl) rfl (jm (im_range1 rfl ntrange (bm_cons (om (em_if (tm_cmp (om_eq ag hr.units) (om_var 3) (om em_str) (nomark _)) (em_var 4) (em_bin (om_add ag) (om (em_bin om_sub (om_var 4) (om_var 5))) (om em_int)))) bm_nil))) (gm_name nd rfl (Or.inl rfl)) (bm_on (sm_app 9 (he := (em_if (tm_cmp (om_eq ag hr.units) (om (em_callD D__law_drawn tk (hr.mono (by decide)) ⟨rfl, rfl, rfl, rfl⟩ rfl (am_cons (em_var 0) (am_cons (em_var 7) am_nil)))) (om em_int) (nomark _)) em_non (em_bin (om_add ag) (om em_int) (om (em_callD D__law_drawn tk (hr.mono (by decide)) ⟨rfl, rfl, rfl, rfl⟩ rfl (am_cons (em_var 0) (am_cons (em_var 8) am_nil))))))))))
  (bm_on (sm_ret (em_tup (am_cons (em_var 3) (am_cons (em_var 2) (am_cons (em_var 5) (am_cons (em_var 6) (am_cons (em_callT (cm_tuple ag) rfl nttuple (by decide +kernel) (bm_cons (om_var 9) bm_nil)) am_nil))))))))))))))
theorem ok__law_belt {f : Addr} {fd : FuncData} (Fu : Fun K "_law_belt" "_law_belt" s__law_belt f fd) (gf : mg "_law_belt" = some (.ref f)) (ntmin : mg "min" = none) (ntrange : mg "range" = none) (nttuple : mg "tuple" = none) (D__law_drawn : HasF P w K mg base T "_law_drawn" 1 ["_law_state", "_law_many"] F__law_drawn) : HasF P w K mg base T "_law_belt" 2 ["_law_state", "_law_most_here", "_law_figures"] F__law_belt :=
  ⟨f, fd, fun fw => fo__law_belt Fu ntmin ntrange nttuple D__law_drawn, gf, Fu.kp, Fu.binds (ps := ["_law_state", "_law_most_here", "_law_figures"]) fun _ _ _ _ _ _ us hl => match us, hl with | [_, _, _], _ => rfl⟩
abbrev s__law_behind : Stmt := top 55
theorem sc__law_behind : FnScope ["_law_belt_here", "_law_counts", "_law_found", "_law_k", "_law_far", "_law_at"] ["_law_belt_here", "_law_counts"] (defScope s__law_behind) := ⟨rfl, rfl, rfl, by decide +kernel, rfl, by decide +kernel, by decide +kernel⟩
noncomputable def m__law_behind : MS :=
  (mSeq (mSet 2 (mCB (g1 gList) (mCons (mBin gIx (mPk 0) (mC (.int 3))) mNil)))
  (mSeq (mFor (mRng1 (mCons (mCB (g1 gLen) (mCons (mPk 1) mNil)) mNil)) (gNm 3) (mFor (mRng1 (mCons (mBin gIx (mPk 0) (mC (.int 2))) mNil)) (gNm 4) (mSeq (mSet 5 (mBin gMod (mBin gAdd (mPk 3) (mPk 4)) (mCB (g1 gLen) (mCons (mPk 2) mNil))))
  (mSetIx 2 (mVar 5) (mBin gMod (mBin gAdd (mBin gIx (mPk 2) (mPk 5)) (mBin gIx (mPk 1) (mPk 3))) (mBin gIx (mPk 0) (mC (.int 1))))))))
  (mRet (mCB (g1 gTuple) (mCons (mPk 2) mNil)))))
noncomputable def F__law_behind : MF := bodyF 6 2 m__law_behind
theorem fo__law_behind {f : Addr} {fd : FuncData} {fw : Nat → Addr → Wd → Prop} (Fu : Fun K "_law_behind" "_law_behind" s__law_behind f fd) (ntlen : mg "len" = none) (ntlist : mg "list" = none) (ntrange : mg "range" = none) (nttuple : mg "tuple" = none) : FnOk P w K mg base (L2.CX P w) 1 f fd ["_law_belt_here", "_law_counts"] (spF ⟨K, mg, T, noL fw⟩ F__law_behind) := by
  refine fn_M Fu sc__law_behind (fun cdv A outer s H E hr => ?_)
  have ag : Ag (cxOf (L2.CX P w) P w K mg base ["_law_belt_here", "_law_counts", "_law_found", "_law_k", "_law_far", "_law_at"] "_law_behind" (defScope s__law_behind) f cdv A outer s H E) ⟨K, mg, T, noL fw⟩ := ⟨rfl, rfl⟩
  have nd := sc__law_behind.nd
  have tk : Takes (cxOf (L2.CX P w) P w K mg base ["_law_belt_here", "_law_counts", "_law_found", "_law_k", "_law_far", "_law_at"] "_law_behind" (defScope s__law_behind) f cdv A outer s H E) (fun cls d _ H => E cls d H) := takes_of rfl rfl rfl rfl
  exact (bm_cs (sm_set (i := 2) nd rfl (Or.inl rfl) (em_callT (cm_list ag) rfl ntlist (by decide +kernel) (bm_cons (om (em_ix ag (om_var 0) (om em_int) (fun _ _ => rfl))) bm_nil)))
  (bm_cs (sm_for (passes_of rfl) rfl (jm (im_range1 rfl ntrange (bm_cons (om (em_callB (cm_len ag) rfl ntlen PySem.boot_len (bm_cons (om_var 1) bm_nil))) bm_nil))) (gm_name nd rfl (Or.inl rfl)) (bm_on (sm_for (passes_of rfl) rfl (jm (im_range1 rfl ntrange (bm_cons (om (em_ix ag (om_var 0) (om em_int) (fun _ _ => rfl))) bm_nil))) (gm_name nd rfl (Or.inl rfl)) (bm_cs (sm_set (i := 5) nd rfl (Or.inl rfl) (em_bin om_mod (om (em_bin (om_add ag) (om_var 3) (om_var 4))) (om (em_callB (cm_len ag) rfl ntlen PySem.boot_len (bm_cons (om_var 2) bm_nil)))))
  (bm_on (sm_setIx 2 (hk := (em_var 5)) (he := (em_bin om_mod (om (em_bin (om_add ag) (om (em_ix ag (om_var 2) (om_var 5) (fun _ _ => rfl))) (om (em_ix ag (om_var 1) (om_var 3) (fun _ _ => rfl))))) (om (em_ix ag (om_var 0) (om em_int) (fun _ _ => rfl)))))))))))
  (bm_on (sm_ret (em_callT (cm_tuple ag) rfl nttuple (by decide +kernel) (bm_cons (om_var 2) bm_nil))))))
theorem ok__law_behind {f : Addr} {fd : FuncData} (Fu : Fun K "_law_behind" "_law_behind" s__law_behind f fd) (gf : mg "_law_behind" = some (.ref f)) (ntlen : mg "len" = none) (ntlist : mg "list" = none) (ntrange : mg "range" = none) (nttuple : mg "tuple" = none) : HasF P w K mg base T "_law_behind" 1 ["_law_belt_here", "_law_counts"] F__law_behind :=
  ⟨f, fd, fun fw => fo__law_behind Fu ntlen ntlist ntrange nttuple, gf, Fu.kp, Fu.binds (ps := ["_law_belt_here", "_law_counts"]) fun _ _ _ _ _ _ us hl => match us, hl with | [_, _], _ => rfl⟩
abbrev s__law_goal : Stmt := top 56
theorem sc__law_goal : FnScope ["_law_state", "_law_belt_here", "_law_way", "_law_found", "_law_at", "_law_more", "_law_one", "_law_dial", "_law_price"] ["_law_state", "_law_belt_here"] (defScope s__law_goal) := ⟨rfl, rfl, rfl, by decide +kernel, rfl, by decide +kernel, by decide +kernel⟩
noncomputable def m__law_goal : MS :=
  (mSeq (mSet 2 (mCall F__law_drawn (mCons (mVar 0) (mCons (mC (.int 5)) mNil))))
  (mSeq (mIf (mBin gEq (mPk 2) (mC (.int 0))) (mRet (mCB (g1 gTuple) (mCons (mLc [7] (mSeqI (mBin gIx (mPk 1) (mC (.int 3)))) (gNm 7) mT (mCall F__law_drawn (mCons (mVar 0) (mCons (mBin gIx (mPk 1) (mC (.int 1))) mNil)))) mNil))) mNext)
  (mSeq (mSet 3 (mCall F__law_behind (mCons (mVar 1) (mCons (mLc [8] (mSeqI (mBin gIx (mPk 1) (mC (.int 4)))) (gNm 8) mT (mBin gMul (mCall F__law_drawn (mCons (mVar 0) (mCons (mBin gIx (mPk 1) (mC (.int 1))) mNil))) (mCB (g1 gInt) (mCons (mBin gIsNot (mPk 8) (mC .non)) mNil)))) mNil))))
  (mSeq (mIf (mBin gEq (mPk 2) (mC (.int 1))) (mSeq (mSet 4 (mCall F__law_drawn (mCons (mVar 0) (mCons (mCB (g1 gLen) (mCons (mPk 3) mNil)) mNil))))
  (mSeq (mSet 5 (mBin gAdd (mC (.int 1)) (mCall F__law_drawn (mCons (mVar 0) (mCons (mBin gSub (mBin gIx (mPk 1) (mC (.int 1))) (mC (.int 1))) mNil)))))
  (mSeq (mSet 6 (mBin gMod (mBin gAdd (mBin gIx (mPk 3) (mPk 4)) (mPk 5)) (mBin gIx (mPk 1) (mC (.int 1)))))
  (mSet 3 (mBin gAdd (mBin gAdd (mSl (mPk 3) mNo (mPt (mVar 4))) (mTup (mCons (mVar 6) mNil))) (mSl (mPk 3) (mPt (mBin gAdd (mPk 4) (mC (.int 1)))) mNo)))))) mNext)
  (mMv 3)))))
noncomputable def F__law_goal : MF := bodyF 9 2 m__law_goal
theorem fo__law_goal {f : Addr} {fd : FuncData} {fw : Nat → Addr → Wd → Prop} (Fu : Fun K "_law_goal" "_law_goal" s__law_goal f fd) (ntint : mg "int" = none) (ntlen : mg "len" = none) (nttuple : mg "tuple" = none) (D__law_drawn : HasF P w K mg base T "_law_drawn" 1 ["_law_state", "_law_many"] F__law_drawn) (D__law_behind : HasF P w K mg base T "_law_behind" 1 ["_law_belt_here", "_law_counts"] F__law_behind) : FnOk P w K mg base (L2.CX P w) 2 f fd ["_law_state", "_law_belt_here"] (spF ⟨K, mg, T, noL fw⟩ F__law_goal) := by
  refine fn_M Fu sc__law_goal (fun cdv A outer s H E hr => ?_)
  have ag : Ag (cxOf (L2.CX P w) P w K mg base ["_law_state", "_law_belt_here", "_law_way", "_law_found", "_law_at", "_law_more", "_law_one", "_law_dial", "_law_price"] "_law_goal" (defScope s__law_goal) f cdv A outer s H E) ⟨K, mg, T, noL fw⟩ := ⟨rfl, rfl⟩
  have nd := sc__law_goal.nd
  have tk : Takes (cxOf (L2.CX P w) P w K mg base ["_law_state", "_law_belt_here", "_law_way", "_law_found", "_law_at", "_law_more", "_law_one", "_law_dial", "_law_price"] "_law_goal" (defScope s__law_goal) f cdv A outer s H E) (fun cls d _ H => E cls d H) := takes_of rfl rfl rfl rfl
  exact (bm_cs (sm_set (i := 2) nd rfl (Or.inl rfl) (em_callD D__law_drawn tk (hr.mono (by decide)) ⟨rfl, rfl, rfl, rfl⟩ rfl (am_cons (em_var 0) (am_cons em_int am_nil))))
  (bm_cs (sm_if (tm_cmp (om_eq ag hr.units) (om_var 2) (om em_int) (nomark _)) (bm_on (sm_ret (em_callT (cm_tuple ag) rfl nttuple (by decide +kernel) (bm_cons (om (em_lcv rfl nd (im_seq ag (em_ix ag (om_var 1) (om em_int) (fun _ _ => rfl))) (blkOk_by (N := ["_law_state", "_law_belt_here", "_law_way", "_law_found", "_law_at", "_law_more", "_law_one", "_law_dial", "_law_price"]) (sc := defScope s__law_goal) (own := [("_law_dial", 7)]) (by decide +kernel)) (fun _ _ _ _ _ => (gm_name nd rfl (Or.inl rfl))) (fun _ _ _ _ _ => tsm_nil) (fun _ _ _ _ _ => (em_callD D__law_drawn L2.takes0 (hr.mono (by decide)) ⟨rfl, rfl, rfl, rfl⟩ rfl (am_cons (em_var 0) (am_cons (em_ix ⟨rfl, rfl⟩ (om_var 1) (om em_int) (fun _ _ => rfl)) am_nil)))) rfl (by decide))) bm_nil)))) bm_nl)
  (bm_cs (sm_set (i := 3) nd rfl (Or.inl rfl) (em_callD D__law_behind tk (hr.mono (by decide)) ⟨rfl, rfl, rfl, rfl⟩ rfl (am_cons (em_var 1) (am_cons (em_lcv rfl nd (im_seq ag (em_ix ag (om_var 1) (om em_int) (fun _ _ => rfl))) (blkOk_by (N := ["_law_state", "_law_belt_here", "_law_way", "_law_found", "_law_at", "_law_more", "_law_one", "_law_dial", "_law_price"]) (sc := defScope s__law_goal) (own := [("_law_price", 8)]) (by decide +kernel)) (fun _ _ _ _ _ => (gm_name nd rfl (Or.inl rfl))) (fun _ _ _ _ _ => tsm_nil) (fun _ _ _ _ _ => (em_bin om_mul (om (em_callD D__law_drawn L2.takes0 (hr.mono (by decide)) ⟨rfl, rfl, rfl, rfl⟩ rfl (am_cons (em_var 0) (am_cons (em_ix ⟨rfl, rfl⟩ (om_var 1) (om em_int) (fun _ _ => rfl)) am_nil)))) (om (em_callT cm_int rfl ntint (by decide +kernel) (bm_cons (om (em_cmp om_isNot (om_var 8) (om em_non) (nomark _))) bm_nil))))) rfl (by decide)) am_nil))))
  (bm_cs (sm_if (tm_cmp (om_eq ag hr.units) (om_var 2) (om em_int) (nomark _)) (bm_cs (sm_set (i := 4) nd rfl (Or.inl rfl) (em_callD D__law_drawn tk (hr.mono (by decide)) ⟨rfl, rfl, rfl, rfl⟩ rfl (am_cons (em_var 0) (am_cons (em_callB (cm_len ag) rfl ntlen PySem.boot_len (bm_cons (om_var 3) bm_nil)) am_nil))))
  (bm_cs (sm_set (i := 5) nd rfl (Or.inl rfl) (em_bin (om_add ag) (om em_int) (om (em_callD D__law_drawn tk (hr.mono (by decide)) ⟨rfl, rfl, rfl, rfl⟩ rfl (am_cons (em_var 0) (am_cons (em_bin om_sub (om (em_ix ag (om_var 1) (om em_int) (fun _ _ => rfl))) (om em_int)) am_nil))))))
  (bm_cs (sm_set (i := 6) nd rfl (Or.inl rfl) (em_bin om_mod (om (em_bin (om_add ag) (om (em_ix ag (om_var 3) (om_var 4) (fun _ _ => rfl))) (om_var 5))) (om (em_ix ag (om_var 1) (om em_int) (fun _ _ => rfl)))))
  (bm_on (sm_set (i := 3) nd rfl (Or.inl rfl) (em_bin (om_add ag) (om (em_bin (om_add ag) (om (em_sl ag (om_var 3) pm_no (pm_some (em_var 4)))) (om (em_tup (am_cons (em_var 6) am_nil))))) (om (em_sl ag (om_var 3) (pm_some (em_bin (om_add ag) (om_var 4) (om em_int))) pm_no)))))))) bm_nl)
  (bm_on (sm_retV 3))))))
theorem ok__law_goal {f : Addr} {fd : FuncData} (Fu : Fun K "_law_goal" "_law_goal" s__law_goal f fd) (gf : mg "_law_goal" = some (.ref f)) (ntint : mg "int" = none) (ntlen : mg "len" = none) (nttuple : mg "tuple" = none) (D__law_drawn : HasF P w K mg base T "_law_drawn" 1 ["_law_state", "_law_many"] F__law_drawn) (D__law_behind : HasF P w K mg base T "_law_behind" 1 ["_law_belt_here", "_law_counts"] F__law_behind) : HasF P w K mg base T "_law_goal" 2 ["_law_state", "_law_belt_here"] F__law_goal :=
  ⟨f, fd, fun fw => fo__law_goal Fu ntint ntlen nttuple D__law_drawn D__law_behind, gf, Fu.kp, Fu.binds (ps := ["_law_state", "_law_belt_here"]) fun _ _ _ _ _ _ us hl => match us, hl with | [_, _], _ => rfl⟩
abbrev s__law_most : Stmt := top 57
theorem sc__law_most : FnScope ["_law_one", "_law_other", "_law_k"] ["_law_one", "_law_other"] (defScope s__law_most) := ⟨rfl, rfl, rfl, by decide +kernel, rfl, by decide +kernel, by decide +kernel⟩
noncomputable def m__law_most : MS :=
  (mRet (mBin gIx (mLc [2] (mRng2 (mCons (mC (.int 1)) (mCons (mBin gAdd (mPk 0) (mC (.int 1))) mNil))) (gNm 2) (mAnd (mBin gEq (mBin gMod (mPk 0) (mPk 2)) (mC (.int 0))) (mBin gEq (mBin gMod (mPk 1) (mPk 2)) (mC (.int 0)))) (mVar 2)) (mBin gSub (mC (.int 0)) (mC (.int 1)))))
noncomputable def F__law_most : MF := bodyF 3 2 m__law_most
theorem fo__law_most {f : Addr} {fd : FuncData} {fw : Nat → Addr → Wd → Prop} (Fu : Fun K "_law_most" "_law_most" s__law_most f fd) (ntrange : mg "range" = none) : FnOk P w K mg base (L2.CX P w) 1 f fd ["_law_one", "_law_other"] (spF ⟨K, mg, T, noL fw⟩ F__law_most) := by
  refine fn_M Fu sc__law_most (fun cdv A outer s H E hr => ?_)
  have ag : Ag (cxOf (L2.CX P w) P w K mg base ["_law_one", "_law_other", "_law_k"] "_law_most" (defScope s__law_most) f cdv A outer s H E) ⟨K, mg, T, noL fw⟩ := ⟨rfl, rfl⟩
  have nd := sc__law_most.nd
  have tk : Takes (cxOf (L2.CX P w) P w K mg base ["_law_one", "_law_other", "_law_k"] "_law_most" (defScope s__law_most) f cdv A outer s H E) (fun cls d _ H => E cls d H) := takes_of rfl rfl rfl rfl
  exact (bm_on (sm_ret (em_ix ag (om (em_lcv rfl nd (im_range2 rfl ntrange (bm_cons (om em_int) (bm_cons (om (em_bin (om_add ag) (om_var 0) (om em_int))) bm_nil))) (blkOk_by (N := ["_law_one", "_law_other", "_law_k"]) (sc := defScope s__law_most) (own := [("_law_k", 2)]) (by decide +kernel)) (fun _ _ _ _ _ => (gm_name nd rfl (Or.inl rfl))) (fun _ _ _ _ _ => (tsm_one (tm_w (wm_and (tm_cmp (om_eq ⟨rfl, rfl⟩ hr.units) (om (em_bin om_mod (om_var 0) (om_var 2))) (om em_int) (nomark _)) (wm_and1 (tm_cmp (om_eq ⟨rfl, rfl⟩ hr.units) (om (em_bin om_mod (om_var 1) (om_var 2))) (om em_int) (nomark _))))))) (fun _ _ _ _ _ => (em_var 2)) rfl (by decide))) (om (em_bin om_sub (om em_int) (om em_int))) (fun _ _ => rfl))))
theorem ok__law_most {f : Addr} {fd : FuncData} (Fu : Fun K "_law_most" "_law_most" s__law_most f fd) (gf : mg "_law_most" = some (.ref f)) (ntrange : mg "range" = none) : HasF P w K mg base T "_law_most" 1 ["_law_one", "_law_other"] F__law_most :=
  ⟨f, fd, fun fw => fo__law_most Fu ntrange, gf, Fu.kp, Fu.binds (ps := ["_law_one", "_law_other"]) fun _ _ _ _ _ _ us hl => match us, hl with | [_, _], _ => rfl⟩
abbrev s__law_wrong : Stmt := top 58
theorem sc__law_wrong : FnScope ["_law_goal_here", "_law_belt_here", "_law_k", "_law_good"] ["_law_goal_here", "_law_belt_here"] (defScope s__law_wrong) := ⟨rfl, rfl, rfl, by decide +kernel, rfl, by decide +kernel, by decide +kernel⟩
noncomputable def m__law_wrong : MS :=
  (mSeq (mIf (mNot (mIsi "tuple" (mPk 0))) (mRet (mC (.int 0))) mNext)
  (mSeq (mFor (mRng1 (mCons (mCB (g1 gLen) (mCons (mPk 0) mNil)) mNil)) (gNm 2) (mSeq (mSet 3 (mAnd (mIsi "int" (mBin gIx (mPk 0) (mPk 2))) (mAnd (mNot (mIsi "bool" (mBin gIx (mPk 0) (mPk 2)))) (mChain gLe gLt (mC (.int 0)) (mBin gIx (mPk 0) (mPk 2)) (mBin gIx (mPk 1) (mC (.int 1)))))))
  (mIf (mOr (mBin gEq (mPk 2) (mCB (g1 gLen) (mCons (mBin gIx (mPk 1) (mC (.int 3))) mNil))) (mNot (mVar 3))) (mMv 2) mNext)))
  (mRet (mIfE (mBin gLt (mCB (g1 gLen) (mCons (mPk 0) mNil)) (mCB (g1 gLen) (mCons (mBin gIx (mPk 1) (mC (.int 3))) mNil))) (mCB (g1 gLen) (mCons (mPk 0) mNil)) (mC .non)))))
noncomputable def F__law_wrong : MF := bodyF 4 2 m__law_wrong
theorem fo__law_wrong {f : Addr} {fd : FuncData} {fw : Nat → Addr → Wd → Prop} (Fu : Fun K "_law_wrong" "_law_wrong" s__law_wrong f fd) (ntbool : mg "bool" = none) (ntint : mg "int" = none) (ntisinstance : mg "isinstance" = none) (ntlen : mg "len" = none) (ntrange : mg "range" = none) (nttuple : mg "tuple" = none) : FnOk P w K mg base (L2.CX P w) 1 f fd ["_law_goal_here", "_law_belt_here"] (spF ⟨K, mg, T, noL fw⟩ F__law_wrong) := by
  refine fn_M Fu sc__law_wrong (fun cdv A outer s H E hr => ?_)
  have ag : Ag (cxOf (L2.CX P w) P w K mg base ["_law_goal_here", "_law_belt_here", "_law_k", "_law_good"] "_law_wrong" (defScope s__law_wrong) f cdv A outer s H E) ⟨K, mg, T, noL fw⟩ := ⟨rfl, rfl⟩
  have nd := sc__law_wrong.nd
  have tk : Takes (cxOf (L2.CX P w) P w K mg base ["_law_goal_here", "_law_belt_here", "_law_k", "_law_good"] "_law_wrong" (defScope s__law_wrong) f cdv A outer s H E) (fun cls d _ H => E cls d H) := takes_of rfl rfl rfl rfl
  exact (bm_cs (sm_if (tm_not (tm_val (em_isi ag (by decide) rfl ntisinstance rfl nttuple (by decide +kernel) (om_var 0)))) (bm_on (sm_ret em_int)) bm_nl)
  (bm_cs (sm_for (passes_of rfl) rfl (jm (im_range1 rfl ntrange (bm_cons (om (em_callB (cm_len ag) rfl ntlen PySem.boot_len (bm_cons (om_var 0) bm_nil))) bm_nil))) (gm_name nd rfl (Or.inl rfl)) (bm_cs (sm_set (i := 3) nd rfl (Or.inl rfl) (em_and (em_isi ag (by decide) rfl ntisinstance rfl ntint (by decide +kernel) (om (em_ix ag (om_var 0) (om_var 2) (fun _ _ => rfl)))) (em_and (em_not (em_isi ag (by decide) rfl ntisinstance rfl ntbool (by decide +kernel) (om (em_ix ag (om_var 0) (om_var 2) (fun _ _ => rfl))))) (em_one (em_chain om_le om_lt (om em_int) (om (em_ix ag (om_var 0) (om_var 2) (fun _ _ => rfl))) (om (em_ix ag (om_var 1) (om em_int) (fun _ _ => rfl))))))))
  (bm_on (sm_if (tm_w (wm_or (tm_cmp (om_eq ag hr.units) (om_var 2) (om (em_callB (cm_len ag) rfl ntlen PySem.boot_len (bm_cons (om (em_ix ag (om_var 1) (om em_int) (fun _ _ => rfl))) bm_nil))) (nomark _)) (wm_or1 (tm_not (tm_val (em_var 3)))))) (bm_on (sm_retV 2)) bm_nl))))
  (bm_on (sm_ret (em_if (tm_cmp om_lt (om (em_callB (cm_len ag) rfl ntlen PySem.boot_len (bm_cons (om_var 0) bm_nil))) (om (em_callB (cm_len ag) rfl ntlen PySem.boot_len (bm_cons (om (em_ix ag (om_var 1) (om em_int) (fun _ _ => rfl))) bm_nil))) (nomark _)) (em_callB (cm_len ag) rfl ntlen PySem.boot_len (bm_cons (om_var 0) bm_nil)) em_non)))))
theorem ok__law_wrong {f : Addr} {fd : FuncData} (Fu : Fun K "_law_wrong" "_law_wrong" s__law_wrong f fd) (gf : mg "_law_wrong" = some (.ref f)) (ntbool : mg "bool" = none) (ntint : mg "int" = none) (ntisinstance : mg "isinstance" = none) (ntlen : mg "len" = none) (ntrange : mg "range" = none) (nttuple : mg "tuple" = none) : HasF P w K mg base T "_law_wrong" 1 ["_law_goal_here", "_law_belt_here"] F__law_wrong :=
  ⟨f, fd, fun fw => fo__law_wrong Fu ntbool ntint ntisinstance ntlen ntrange nttuple, gf, Fu.kp, Fu.binds (ps := ["_law_goal_here", "_law_belt_here"]) fun _ _ _ _ _ _ us hl => match us, hl with | [_, _], _ => rfl⟩
abbrev s_law : Stmt := top 59
theorem sc_law : FnScope ["_law_script", "_law_state", "_law_turn", "_law_belt_here", "_law_goal_here", "_law_many", "_law_classes", "_law_share", "_law_some", "_law_k", "_law_unlike", "_law_due", "_law_told", "_law_at", "_law_odd", "_law_bad", "_law_wrong_here", "_law_works", "_law_j", "_law_work"] ["_law_script"] (defScope s_law) := ⟨rfl, rfl, rfl, by decide +kernel, rfl, by decide +kernel, by decide +kernel⟩
abbrev l_law : List LamI := [lamI ["_law_b"] ((eElts (stVal ((stBody ((defBody s_law).getD 1 sNo)).getD 17 sNo))).getD 2 eNo), lamI ["_law_a"] ((eElts (stVal ((stBody ((defBody s_law).getD 1 sNo)).getD 17 sNo))).getD 1 eNo), lamI [] ((eElts (stVal ((stBody ((defBody s_law).getD 1 sNo)).getD 17 sNo))).getD 0 eNo)]
noncomputable def t_law : List (List Nat × ME) := [([3, 15], (mCall F_tally (mCons (mVar 3) (mCons (mVar 15) mNil)))), ([3, 15], (mCall F_barred (mCons (mVar 3) (mCons (mVar 15) mNil)))), ([3, 15], (mCall F_changes (mCons (mVar 3) (mCons (mVar 15) mNil))))]
noncomputable def m_law : MS :=
  (mSeq (mSetC 1 (mCall F__law_start (mCons (mVar 0) mNil)))
  (mSeq (mFor (mRng1 (mCons (mC (.int 6)) mNil)) (gNm 2) (mSeq (mSet 3 (mCall F__law_belt (mCons (mVar 1) (mCons (mC (.int 12)) (mCons (mC (.int 9)) mNil)))))
  (mSeq (mAsg (gTp 2 (gsCons (gNm 4) (gsCons (gNm 5) gsNil))) (mTup (mCons (mCall F__law_goal (mCons (mVar 1) (mCons (mVar 3) mNil))) (mCons (mCB (g1 gLen) (mCons (mBin gIx (mPk 3) (mC (.int 3))) mNil)) mNil))))
  (mSeq (mSet 6 (mIfE (mBin gEq (mBin gIx (mPk 3) (mC (.int 0))) (mC (.str "row"))) (mBin gIx (mPk 3) (mC (.int 2))) (mCall F__law_most (mCons (mBin gIx (mPk 3) (mC (.int 2))) (mCons (mVar 5) mNil)))))
  (mSeq (mSet 7 (mCall F__law_most (mCons (mBin gIx (mPk 3) (mC (.int 1))) (mCons (mBin gDiv (mBin gIx (mPk 3) (mC (.int 2))) (mPk 6)) mNil))))
  (mSeq (mSet 8 (mLst mNil))
  (mSeq (mFor (mRng1 (mCons (mPk 6) mNil)) (gNm 9) (mApp 8 (mBin gMod (mCB (g1 gSum) (mCons (mLc [18] (mRng3 (mCons (mPk 9) (mCons (mPk 5) (mCons (mPk 6) mNil)))) (gNm 18) mT (mBin gSub (mBin gIx (mPk 4) (mPk 18)) (mBin gIx (mBin gIx (mPk 3) (mC (.int 3))) (mPk 18)))) mNil)) (mBin gIx (mPk 3) (mC (.int 1))))))
  (mSeq (mSet 10 (mLc [9] (mRng1 (mCons (mPk 6) mNil)) (gNm 9) (mBin gNe (mBin gIx (mPk 8) (mPk 9)) (mBin gIx (mPk 8) (mC (.int 0)))) (mVar 9)))
  (mSeq (mSet 11 (mIfE (mBin gNe (mPk 10) (mLst mNil)) (mTup (mCons (mC (.str "class")) (mCons (mBin gIx (mPk 10) (mC (.int 0))) mNil))) (mC .non)))
  (mSeq (mIf (mAnd (mBin gEq (mPk 10) (mLst mNil)) (mBin gNe (mBin gMod (mBin gIx (mPk 8) (mC (.int 0))) (mPk 7)) (mC (.int 0)))) (mSet 11 (mTup (mCons (mC (.str "share")) (mCons (mBin gMod (mBin gIx (mPk 8) (mC (.int 0))) (mPk 7)) mNil)))) mNext)
  (mSeq (mSet 12 (mCall F_changes (mCons (mVar 3) (mCons (mVar 4) mNil))))
  (mSeq (mIf (mNot (mCallP F__law_same (mCons (mLst (mCons (mCall F_parted (mCons (mVar 3) mNil)) (mCons (mPk 12) (mCons (mCall F_barred (mCons (mVar 3) (mCons (mVar 4) mNil))) mNil)))) (mCons (mLst (mCons (mTup (mCons (mVar 6) (mCons (mVar 7) mNil))) (mCons (mPk 8) (mCons (mPk 11) mNil)))) mNil)))) (mRet (mC (.bl false))) mNext)
  (mSeq (mApp 12 (mC (.int 0)))
  (mSeq (mIf (mBin gNe (mCall F_changes (mCons (mVar 3) (mCons (mVar 4) mNil))) (mPk 8)) (mRet (mC (.bl false))) mNext)
  (mSeq (mPar2 13 14 (mCall F__law_drawn (mCons (mVar 1) (mCons (mBin gAdd (mPk 5) (mC (.int 1))) mNil))) (mBin gIx (mLst (mCons (mBin gSub (mC (.int 0)) (mC (.int 1))) (mCons (mBin gIx (mPk 3) (mC (.int 1))) (mCons (mC (.bl true)) (mCons (mC .non) (mCons (mC (.str "0")) (mCons (mBin gPow (mC (.int 10)) (mC (.int 18))) mNil))))))) (mCall F__law_drawn (mCons (mVar 1) (mCons (mC (.int 6)) mNil)))))
  (mSeq (mSet 15 (mLst (mCons (mBin gAdd (mBin gAdd (mSl (mPk 4) mNo (mPt (mVar 13))) (mTup (mCons (mVar 14) mNil))) (mSl (mPk 4) (mPt (mVar 13)) mNo)) (mCons (mSl (mPk 4) mNo (mPt (mVar 13))) (mCons (mCB (g1 gList) (mCons (mPk 4) mNil)) (mCons (mC .non) (mCons (mBin gAdd (mBin gAdd (mSl (mPk 4) mNo (mPt (mVar 13))) (mTup (mCons (mVar 14) mNil))) (mSl (mPk 4) (mPt (mBin gAdd (mPk 13) (mC (.int 1)))) mNo)) mNil)))))))
  (mSeq (mSet 15 (mBin gIx (mPk 15) (mCall F__law_drawn (mCons (mVar 1) (mCons (mC (.int 5)) mNil)))))
  (mSeq (mSet 16 (mCall F__law_wrong (mCons (mVar 15) (mCons (mVar 3) mNil))))
  (mSeq (mSet 17 (mLst (mCons (mFrz [3, 15] (mMkF 2)) (mCons (mFrz [3, 15] (mMkF 1)) (mCons (mFrz [3, 15] (mMkF 0)) mNil)))))
  (mSeq (mIf (mAnd (mBin gIsNot (mPk 16) (mC .non)) (mBin gNe (mLc [19] (mSeqI (mVar 17)) (gNm 19) mT (mCallW (fun act => bodyG 5 0 (m__law_kind act)) t_law 19)) (mBin gMul (mLst (mCons (mTup (mCons (mC (.str "BadGoal")) (mCons (mVar 16) mNil))) mNil)) (mC (.int 3))))) (mRet (mC (.bl false))) mNext)
  (mIf (mBin gNe (mFrz [3, 15] (mCallL (fun act => bodyG 5 0 (m__law_kind act)) [3, 15] [] (mCall F_barred (mCons (mSl (mPk 3) mNo (mPt (mC (.int 4)))) (mCons (mVar 15) mNil))) mNil)) (mTup (mCons (mC (.str "BadBelt")) (mCons (mBin gSub (mC (.int 0)) (mC (.int 1))) (mCons (mC (.int 0)) mNil))))) (mRet (mC (.bl false))) mNext)))))))))))))))))))))
  (mRet (mC (.bl true)))))
noncomputable def F_law : MF := bodyF 20 1 m_law
theorem fo_law {f : Addr} {fd : FuncData} (Fu : Fun K "law" "law" s_law f fd) (ntlen : mg "len" = none) (ntlist : mg "list" = none) (ntrange : mg "range" = none) (ntsum : mg "sum" = none) (D__law_start : HasF P w K mg base T "_law_start" 1 ["_law_script"] F__law_start) (D__law_belt : HasF P w K mg base T "_law_belt" 2 ["_law_state", "_law_most_here", "_law_figures"] F__law_belt) (D__law_goal : HasF P w K mg base T "_law_goal" 2 ["_law_state", "_law_belt_here"] F__law_goal) (D__law_most : HasF P w K mg base T "_law_most" 1 ["_law_one", "_law_other"] F__law_most) (D_changes : HasF P w K mg base T "changes" 5 ["belt", "goal"] F_changes) (D_barred : HasF P w K mg base T "barred" 5 ["belt", "goal"] F_barred) (D_parted : HasF P w K mg base T "parted" 5 ["belt"] F_parted) (D__law_same : HasF P w K mg base T "_law_same" 7 ["_law_found", "_law_due"] F__law_same) (D__law_drawn : HasF P w K mg base T "_law_drawn" 1 ["_law_state", "_law_many"] F__law_drawn) (D__law_wrong : HasF P w K mg base T "_law_wrong" 1 ["_law_goal_here", "_law_belt_here"] F__law_wrong) (D_tally : HasF P w K mg base T "tally" 6 ["belt", "goal"] F_tally) (D__law_kind : HasA P w K mg base T "_law_kind" 0 ["_law_work", "e", "_law_kinds", "_law_words", "_law_word"] [] "_law_work" ActAt0 m__law_kind) (MK_law : ∃ c P, fd.code = .ref c ∧ LamX.TabB base mg c P ∧ (P, ("law" : Str) ++ ".<locals>." ++ "<lambda>") ∈ T ∧ ∀ p ∈ T, p.1 = P → p.2 = ("law" : Str) ++ ".<locals>." ++ "<lambda>") : FnOk P w K mg base (L2.CX P w) 9 f fd ["_law_script"] (spFX K mg T F_law) := by
  refine fn_MX (fun X => fwOf X l_law) Fu sc_law (fun cdv A outer s H E hcv hr => ?_)
  have ag : Ag (cxOf (L2.CX P w) P w K mg base ["_law_script", "_law_state", "_law_turn", "_law_belt_here", "_law_goal_here", "_law_many", "_law_classes", "_law_share", "_law_some", "_law_k", "_law_unlike", "_law_due", "_law_told", "_law_at", "_law_odd", "_law_bad", "_law_wrong_here", "_law_works", "_law_j", "_law_work"] "law" (defScope s_law) f cdv A outer s H E) ⟨K, mg, T, noL (fwOf (cxOf (L2.CX P w) P w K mg base ["_law_script", "_law_state", "_law_turn", "_law_belt_here", "_law_goal_here", "_law_many", "_law_classes", "_law_share", "_law_some", "_law_k", "_law_unlike", "_law_due", "_law_told", "_law_at", "_law_odd", "_law_bad", "_law_wrong_here", "_law_works", "_law_j", "_law_work"] "law" (defScope s_law) f cdv A outer s H E) l_law)⟩ := ⟨rfl, rfl⟩
  have MK : MkX (cxOf (L2.CX P w) P w K mg base ["_law_script", "_law_state", "_law_turn", "_law_belt_here", "_law_goal_here", "_law_many", "_law_classes", "_law_share", "_law_some", "_law_k", "_law_unlike", "_law_due", "_law_told", "_law_at", "_law_odd", "_law_bad", "_law_wrong_here", "_law_works", "_law_j", "_law_work"] "law" (defScope s_law) f cdv A outer s H E) T := by
    obtain ⟨c, Pt, m1, m2, m3, m4⟩ := MK_law
    exact ⟨c, Pt, hcv.symm.trans m1, m2, m3, m4⟩
  have nd := sc_law.nd
  have tk : Takes (cxOf (L2.CX P w) P w K mg base ["_law_script", "_law_state", "_law_turn", "_law_belt_here", "_law_goal_here", "_law_many", "_law_classes", "_law_share", "_law_some", "_law_k", "_law_unlike", "_law_due", "_law_told", "_law_at", "_law_odd", "_law_bad", "_law_wrong_here", "_law_works", "_law_j", "_law_work"] "law" (defScope s_law) f cdv A outer s H E) (fun cls d _ H => E cls d H) := takes_of rfl rfl rfl rfl
  have hW : LamDs (cxOf (L2.CX P w) P w K mg base ["_law_script", "_law_state", "_law_turn", "_law_belt_here", "_law_goal_here", "_law_many", "_law_classes", "_law_share", "_law_some", "_law_k", "_law_unlike", "_law_due", "_law_told", "_law_at", "_law_odd", "_law_bad", "_law_wrong_here", "_law_works", "_law_j", "_law_work"] "law" (defScope s_law) f cdv A outer s H E) ⟨K, mg, T, noL (fwOf (cxOf (L2.CX P w) P w K mg base ["_law_script", "_law_state", "_law_turn", "_law_belt_here", "_law_goal_here", "_law_many", "_law_classes", "_law_share", "_law_some", "_law_k", "_law_unlike", "_law_due", "_law_told", "_law_at", "_law_odd", "_law_bad", "_law_wrong_here", "_law_works", "_law_j", "_law_work"] "law" (defScope s_law) f cdv A outer s H E) l_law)⟩ 6 l_law t_law := (.cons ⟨lamP_by (sc := defScope s_law) (ps := ["_law_b"]) (by decide +kernel), (loc_no (N := ["_law_script", "_law_state", "_law_turn", "_law_belt_here", "_law_goal_here", "_law_many", "_law_classes", "_law_share", "_law_some", "_law_k", "_law_unlike", "_law_due", "_law_told", "_law_at", "_law_odd", "_law_bad", "_law_wrong_here", "_law_works", "_law_j", "_law_work"]) (by decide +kernel)), fun f c' A outer s H E hr => (em_callD D_tally (takes_of rfl rfl rfl rfl) (hr.mono (by decide)) ⟨rfl, rfl, rfl, rfl⟩ rfl (am_cons (em_var 3) (am_cons (em_var 15) am_nil)))⟩ (.cons ⟨lamP_by (sc := defScope s_law) (ps := ["_law_a"]) (by decide +kernel), (loc_no (N := ["_law_script", "_law_state", "_law_turn", "_law_belt_here", "_law_goal_here", "_law_many", "_law_classes", "_law_share", "_law_some", "_law_k", "_law_unlike", "_law_due", "_law_told", "_law_at", "_law_odd", "_law_bad", "_law_wrong_here", "_law_works", "_law_j", "_law_work"]) (by decide +kernel)), fun f c' A outer s H E hr => (em_callD D_barred (takes_of rfl rfl rfl rfl) (hr.mono (by decide)) ⟨rfl, rfl, rfl, rfl⟩ rfl (am_cons (em_var 3) (am_cons (em_var 15) am_nil)))⟩ (.cons ⟨lamP_by (sc := defScope s_law) (ps := []) (by decide +kernel), (loc_no (N := ["_law_script", "_law_state", "_law_turn", "_law_belt_here", "_law_goal_here", "_law_many", "_law_classes", "_law_share", "_law_some", "_law_k", "_law_unlike", "_law_due", "_law_told", "_law_at", "_law_odd", "_law_bad", "_law_wrong_here", "_law_works", "_law_j", "_law_work"]) (by decide +kernel)), fun f c' A outer s H E hr => (em_callD D_changes (takes_of rfl rfl rfl rfl) (hr.mono (by decide)) ⟨rfl, rfl, rfl, rfl⟩ rfl (am_cons (em_var 3) (am_cons (em_var 15) am_nil)))⟩ .nil)))
  exact (bm_cs (sm_setC (i := 1) nd rfl (Or.inl rfl) (em_callD D__law_start tk (hr.mono (by decide)) ⟨rfl, rfl, rfl, rfl⟩ rfl (am_cons (em_var 0) am_nil)))
  (bm_cs (sm_for (passes_of rfl) rfl (jm (im_range1 rfl ntrange (bm_cons (om em_int) bm_nil))) (gm_name nd rfl (Or.inl rfl)) (bm_cs (sm_set (i := 3) nd rfl (Or.inr rfl) (em_callD D__law_belt tk (hr.mono (by decide)) ⟨rfl, rfl, rfl, rfl⟩ rfl (am_cons (em_var 1) (am_cons em_int (am_cons em_int am_nil)))))
  (bm_cs (sm_asg (em_tup (am_cons (em_callD D__law_goal tk (hr.mono (by decide)) ⟨rfl, rfl, rfl, rfl⟩ rfl (am_cons (em_var 1) (am_cons (em_var 3) am_nil))) (am_cons (em_callB (cm_len ag) rfl ntlen PySem.boot_len (bm_cons (om (em_ix ag (om_var 3) (om em_int) (fun _ _ => rfl))) bm_nil)) am_nil))) (gm_tup ag rfl (gms_cons (gm_name nd rfl (Or.inr rfl)) (gms_cons (gm_name nd rfl (Or.inl rfl)) gms_nil))))
  (bm_cs (sm_set (i := 6) nd rfl (Or.inl rfl) (em_if (tm_cmp (om_eq ag hr.units) (om (em_ix ag (om_var 3) (om em_int) (fun _ _ => rfl))) (om em_str) (nomark _)) (em_ix ag (om_var 3) (om em_int) (fun _ _ => rfl)) (em_callD D__law_most tk (hr.mono (by decide)) ⟨rfl, rfl, rfl, rfl⟩ rfl (am_cons (em_ix ag (om_var 3) (om em_int) (fun _ _ => rfl)) (am_cons (em_var 5) am_nil)))))
  (bm_cs (sm_set (i := 7) nd rfl (Or.inl rfl) (em_callD D__law_most tk (hr.mono (by decide)) ⟨rfl, rfl, rfl, rfl⟩ rfl (am_cons (em_ix ag (om_var 3) (om em_int) (fun _ _ => rfl)) (am_cons (em_bin om_div (om (em_ix ag (om_var 3) (om em_int) (fun _ _ => rfl))) (om_var 6)) am_nil))))
  (bm_cs (sm_set (i := 8) nd rfl (Or.inr rfl) (em_lst am_nil))
  (bm_cs (sm_for (passes_of rfl) rfl (jm (im_range1 rfl ntrange (bm_cons (om_var 6) bm_nil))) (gm_name nd rfl (Or.inl rfl)) (bm_on (sm_app 8 (he := (em_bin om_mod (om (em_callB (cm_sum rfl) rfl ntsum (by decide +kernel) (bm_cons (om (em_lcv rfl nd (im_range3 rfl ntrange (bm_cons (om_var 9) (bm_cons (om_var 5) (bm_cons (om_var 6) bm_nil)))) (blkOk_by (N := ["_law_script", "_law_state", "_law_turn", "_law_belt_here", "_law_goal_here", "_law_many", "_law_classes", "_law_share", "_law_some", "_law_k", "_law_unlike", "_law_due", "_law_told", "_law_at", "_law_odd", "_law_bad", "_law_wrong_here", "_law_works", "_law_j", "_law_work"]) (sc := defScope s_law) (own := [("_law_j", 18)]) (by decide +kernel)) (fun _ _ _ _ _ => (gm_name nd rfl (Or.inl rfl))) (fun _ _ _ _ _ => tsm_nil) (fun _ _ _ _ _ => (em_bin om_sub (om (em_ix ⟨rfl, rfl⟩ (om_var 4) (om_var 18) (fun _ _ => rfl))) (om (em_ix ⟨rfl, rfl⟩ (om (em_ix ⟨rfl, rfl⟩ (om_var 3) (om em_int) (fun _ _ => rfl))) (om_var 18) (fun _ _ => rfl))))) rfl (by decide))) bm_nil))) (om (em_ix ag (om_var 3) (om em_int) (fun _ _ => rfl))))))))
  (bm_cs (sm_setLcv (i := 10) rfl nd rfl rfl (by rfl) (im_range1 rfl ntrange (bm_cons (om_var 6) bm_nil)) (blkOk_by (N := ["_law_script", "_law_state", "_law_turn", "_law_belt_here", "_law_goal_here", "_law_many", "_law_classes", "_law_share", "_law_some", "_law_k", "_law_unlike", "_law_due", "_law_told", "_law_at", "_law_odd", "_law_bad", "_law_wrong_here", "_law_works", "_law_j", "_law_work"]) (sc := defScope s_law) (own := [("_law_k", 9)]) (by decide +kernel)) (fun _ _ _ _ _ => (gm_name nd rfl (Or.inl rfl))) (fun _ _ _ _ _ => (tsm_one (tm_cmp (om_ne ⟨rfl, rfl⟩ hr.units) (om (em_ix ⟨rfl, rfl⟩ (om_var 8) (om_var 9) (fun _ _ => rfl))) (om (em_ix ⟨rfl, rfl⟩ (om_var 8) (om em_int) (fun _ _ => rfl))) (nomark _)))) (fun _ _ _ _ _ => (em_var 9)) rfl (by decide))
  (bm_cs (sm_set (i := 11) nd rfl (Or.inl rfl) (em_if (tm_cmp (om_ne ag hr.units) (om_var 10) (om (em_lst am_nil)) (nomark _)) (em_tup (am_cons em_str (am_cons (em_ix ag (om_var 10) (om em_int) (fun _ _ => rfl)) am_nil))) em_non))
  (bm_cs (sm_if (tm_w (wm_and (tm_cmp (om_eq ag hr.units) (om_var 10) (om (em_lst am_nil)) (nomark _)) (wm_and1 (tm_cmp (om_ne ag hr.units) (om (em_bin om_mod (om (em_ix ag (om_var 8) (om em_int) (fun _ _ => rfl))) (om_var 7))) (om em_int) (nomark _))))) (bm_on (sm_set (i := 11) nd rfl (Or.inl rfl) (em_tup (am_cons em_str (am_cons (em_bin om_mod (om (em_ix ag (om_var 8) (om em_int) (fun _ _ => rfl))) (om_var 7)) am_nil))))) bm_nl)
  (bm_cs (sm_set (i := 12) nd rfl (Or.inl rfl) (em_callD D_changes tk (hr.mono (by decide)) ⟨rfl, rfl, rfl, rfl⟩ rfl (am_cons (em_var 3) (am_cons (em_var 4) am_nil))))
  (bm_cs (sm_if (tm_not (tm_val (em_callP D__law_same tk (hr.mono (by decide)) ⟨rfl, rfl, rfl, rfl⟩ rfl (vs_cons (vm_lst (vs_cons (vm_o (om (em_callD D_parted tk (hr.mono (by decide)) ⟨rfl, rfl, rfl, rfl⟩ rfl (am_cons (em_var 3) am_nil)))) (vs_cons (vm_o (om_var 12)) (vs_cons (vm_o (om (em_callD D_barred tk (hr.mono (by decide)) ⟨rfl, rfl, rfl, rfl⟩ rfl (am_cons (em_var 3) (am_cons (em_var 4) am_nil))))) vs_nil)))) (vs_cons (vm_lst (vs_cons (vm_o (om (em_tup (am_cons (em_var 6) (am_cons (em_var 7) am_nil))))) (vs_cons (vm_o (om_var 8)) (vs_cons (vm_o (om_var 11)) vs_nil)))) vs_nil))))) (bm_on (sm_ret em_bl)) bm_nl)
  (bm_cs (sm_app 12 (he := em_int))
  (bm_cs (sm_if (tm_cmp (om_ne ag hr.units) (om (em_callD D_changes tk (hr.mono (by decide)) ⟨rfl, rfl, rfl, rfl⟩ rfl (am_cons (em_var 3) (am_cons (em_var 4) am_nil)))) (om_var 8) (nomark _)) (bm_on (sm_ret em_bl)) bm_nl)
  (bm_cs (sm_par2 rfl nd rfl rfl (by decide) rfl rfl (em_callD D__law_drawn tk (hr.mono (by decide)) ⟨rfl, rfl, rfl, rfl⟩ rfl (am_cons (em_var 1) (am_cons (em_bin (om_add ag) (om_var 5) (om em_int)) am_nil))) (em_ix ag (om (em_lst (am_cons (em_bin om_sub (om em_int) (om em_int)) (am_cons (em_ix ag (om_var 3) (om em_int) (fun _ _ => rfl)) (am_cons em_bl (am_cons em_non (am_cons em_str (am_cons (em_bin om_pow (om em_int) (om em_int)) am_nil)))))))) (om (em_callD D__law_drawn tk (hr.mono (by decide)) ⟨rfl, rfl, rfl, rfl⟩ rfl (am_cons (em_var 1) (am_cons em_int am_nil)))) (fun _ _ => rfl)) (by rfl))
  (bm_cs (sm_set (i := 15) nd rfl (Or.inr rfl) (em_lst (am_cons (em_bin (om_add ag) (om (em_bin (om_add ag) (om (em_sl ag (om_var 4) pm_no (pm_some (em_var 13)))) (om (em_tup (am_cons (em_var 14) am_nil))))) (om (em_sl ag (om_var 4) (pm_some (em_var 13)) pm_no))) (am_cons (em_sl ag (om_var 4) pm_no (pm_some (em_var 13))) (am_cons (em_callT (cm_list ag) rfl ntlist (by decide +kernel) (bm_cons (om_var 4) bm_nil)) (am_cons em_non (am_cons (em_bin (om_add ag) (om (em_bin (om_add ag) (om (em_sl ag (om_var 4) pm_no (pm_some (em_var 13)))) (om (em_tup (am_cons (em_var 14) am_nil))))) (om (em_sl ag (om_var 4) (pm_some (em_bin (om_add ag) (om_var 13) (om em_int))) pm_no))) am_nil)))))))
  (bm_cs (sm_set (i := 15) nd rfl (Or.inr rfl) (em_ix ag (om_var 15) (om (em_callD D__law_drawn tk (hr.mono (by decide)) ⟨rfl, rfl, rfl, rfl⟩ rfl (am_cons (em_var 1) (am_cons em_int am_nil)))) (fun _ _ => rfl)))
  (bm_cs (sm_set (i := 16) nd rfl (Or.inl rfl) (em_callD D__law_wrong tk (hr.mono (by decide)) ⟨rfl, rfl, rfl, rfl⟩ rfl (am_cons (em_var 15) (am_cons (em_var 3) am_nil))))
  (bm_cs (sm_set (i := 17) nd rfl (Or.inl rfl) (em_lst (am_cons (em_frz [3, 15] (em_mkF0 MK rfl rfl rfl (lamP_by (sc := defScope s_law) (ps := []) (by decide +kernel)) rfl (fun _ _ _ _ _ _ => rfl))) (am_cons (em_frz [3, 15] (em_mkFD MK rfl rfl rfl (lamP_by (sc := defScope s_law) (ps := ["_law_a"]) (by decide +kernel)) rfl rfl (fun q cl t tk doc pm cv ctv sZ h => .of_defaults rfl h rfl rfl rfl))) (am_cons (em_frz [3, 15] (em_mkFD MK rfl rfl rfl (lamP_by (sc := defScope s_law) (ps := ["_law_b"]) (by decide +kernel)) rfl rfl (fun q cl t tk doc pm cv ctv sZ h => .of_defaults rfl h rfl rfl rfl))) am_nil)))))
  (bm_cs (sm_if (tm_w (wm_and (tm_cmp om_isNot (om_var 16) (om em_non) (nomark _)) (wm_and1 (tm_cmp (om_ne ag hr.units) (om (em_lcI rfl nd (im_seq ag (em_var 17)) (blkOk_by (N := ["_law_script", "_law_state", "_law_turn", "_law_belt_here", "_law_goal_here", "_law_many", "_law_classes", "_law_share", "_law_some", "_law_k", "_law_unlike", "_law_due", "_law_told", "_law_at", "_law_odd", "_law_bad", "_law_wrong_here", "_law_works", "_law_j", "_law_work"]) (sc := defScope s_law) (own := [("_law_work", 19)]) (by decide +kernel)) (fun _ _ _ _ _ => (gm_name nd rfl (Or.inl rfl))) (fun _ _ _ _ _ => tsm_nil) (elt_callW (kl := 6) D__law_kind (hr.mono (by decide)) (hr.mono (by decide)) ⟨rfl, rfl, rfl, rfl⟩ rfl hW rfl (fun _ _ _ _ _ => rfl) (by first | exact Or.inl rfl | exact Or.inr (Or.inl rfl) | exact Or.inr (Or.inr rfl))) rfl (by decide))) (om (em_bin om_mul (om (em_lst (am_cons (em_tup (am_cons em_str (am_cons (em_var 16) am_nil))) am_nil))) (om em_int))) (nomark _))))) (bm_on (sm_ret em_bl)) bm_nl)
  (bm_on (sm_if (tm_cmp (om_ne ag hr.units) (om (em_frz [3, 15] (em_callL0_0 (kl := 5) [3, 15] D__law_kind tk (hr.mono (by decide)) (hr.mono (by decide)) ⟨rfl, rfl, rfl, rfl⟩ rfl  MK (lamP_by (sc := defScope s_law) (ps := []) (by decide +kernel)) rfl (fun _ _ _ _ _ _ => rfl) (loc_no (N := ["_law_script", "_law_state", "_law_turn", "_law_belt_here", "_law_goal_here", "_law_many", "_law_classes", "_law_share", "_law_some", "_law_k", "_law_unlike", "_law_due", "_law_told", "_law_at", "_law_odd", "_law_bad", "_law_wrong_here", "_law_works", "_law_j", "_law_work"]) (by decide +kernel)) (fun f c' A outer s H E hr => (em_callD D_barred (takes_of rfl rfl rfl rfl) (hr.mono (by decide)) ⟨rfl, rfl, rfl, rfl⟩ rfl (am_cons (em_sl ⟨rfl, rfl⟩ (om_var 3) pm_no (pm_some em_int)) (am_cons (em_var 15) am_nil))))))) (om (em_tup (am_cons em_str (am_cons (em_bin om_sub (om em_int) (om em_int)) (am_cons em_int am_nil))))) (nomark _)) (bm_on (sm_ret em_bl)) bm_nl))))))))))))))))))))))
  (bm_on (sm_ret em_bl))))

end
end DB

set_option Elab.async false
set_option linter.all false
set_option maxRecDepth 100000
set_option maxHeartbeats 4000000
namespace DB
open PySem PySem.Spec PyProof.Rows L2
/-! plain: numbers, first_wrong, need_belt -/
theorem mSeq_nx {a b : MS} {w w1 : W} (h : a w = .nx w1) : mSeq a b w = b w1 := by unfold mSeq; rw [h]
theorem mSeq_rt {a b : MS} {w : W} {v : RV} {S : List Cell} (h : a w = .rt v S) : mSeq a b w = .rt v S := by unfold mSeq; rw [h]
theorem mSeq_ex {a b : MS} {w w1 : W} {x : Exc} (h : a w = .ex x w1) : mSeq a b w = .ex x w1 := by unfold mSeq; rw [h]
theorem mFor_at {mi : MA} {g : MG} {b : MS} {w w1 : W} {ds : List D} (h : mi w = .ok ds w1) : mFor mi g b w = forL g b ds w1 := by unfold mFor; rw [h]
theorem mRng1_at {r : MA} {w w1 : W} {j : Int} (h : r w = .ok [.int j] w1) (h1 : -(2 ^ 62) ≤ j) (h2 : j < 2 ^ 62) : mRng1 r w = .ok (rngD 0 j) w1 := by
  unfold mRng1; rw [h]; exact if_pos ⟨h1, h2⟩
theorem mRng2_at {r : MA} {w w1 : W} {i j : Int} (h : r w = .ok [.int i, .int j] w1) (h1 : -(2 ^ 62) ≤ i) (h2 : i < 2 ^ 62) (h3 : -(2 ^ 62) ≤ j) (h4 : j < 2 ^ 62) : mRng2 r w = .ok (rngD i j) w1 := by
  unfold mRng2; rw [h]; exact if_pos ⟨h1, h2, h3, h4⟩
theorem bodyF_at {n k : Nat} {m : MS} {ds : List D} {S : List Cell} (h : ds.length = k) : bodyF n k m ds S = match m ⟨ds.map .d ++ List.replicate (n - k) .un, S⟩ with
  | .nx w => .ok (.d .non) w.S
  | .rt rv S' => if rv.plain = true then .ok rv S' else .bad
  | .ex x w => .ex x w.S
  | _ => .bad := if_pos h
theorem bodyG_at {n k : Nat} {m : MS} {ds : List D} {S : List Cell} (h : ds.length = k) : bodyG n k m ds S = match m ⟨ds.map .d ++ .fn 0 :: List.replicate (n - (k + 1)) .un, S⟩ with
  | .nx w => .ok (.d .non) w.S
  | .rt rv S' => if rv.plain = true then .ok rv S' else .bad
  | .ex x w => .ex x w.S
  | _ => .bad := if_pos h
/-- a value of the ordinary kinds -/
theorem dok_ty : ∀ {n : Nat} {d : D}, dok n d = true → hasTy d = true
  | _, .non, _ => rfl
  | _, .bl _, _ => rfl
  | _, .int _, _ => rfl
  | _, .str _, _ => rfl
  | _, .tup _, _ => rfl
  | _, .lst _, _ => rfl
  | _, .scr _, _ => rfl
  | 0, .dic _ _, h => by simp [dok] at h
  | _ + 1, .dic _ _, h => by simp [dok] at h
  | 0, .obj _ _ _, h => by simp [dok] at h
  | _ + 1, .obj _ _ _, h => by simp [dok] at h
  | 0, .cell _, h => by simp [dok] at h
  | _ + 1, .cell _, h => by simp [dok] at h
  | 0, .fn _, h => by simp [dok] at h
  | _ + 1, .fn _, h => by simp [dok] at h
theorem doks_mem {n : Nat} : ∀ {ds : List D}, doks n ds = true → ∀ d ∈ ds, dok n d = true
  | [], _, _, hd => by simp at hd
  | e :: ds, h, d, hd => by
    simp only [doks] at h
    obtain ⟨a, b⟩ := Bool.and_eq_true_iff.mp h
    rcases List.mem_cons.mp hd with e | e
    · rw [e]; exact a
    · exact doks_mem b d e
theorem doks_all {n : Nat} : ∀ {ds : List D}, (∀ d ∈ ds, dok n d = true) → doks n ds = true
  | [], _ => by simp [doks]
  | e :: ds, h => by
    simp only [doks]
    exact Bool.and_eq_true_iff.mpr ⟨h e (List.mem_cons_self ..), doks_all fun d hd => h d (List.mem_cons_of_mem _ hd)⟩
/-- a whole number between two -/
def isN (x : D) (lo hi : Int) : Bool := match x with
  | .int i => decide (lo ≤ i) && decide (i ≤ hi)
  | _ => false
theorem isN_inv {x : D} {lo hi : Int} (h : isN x lo hi = true) : ∃ i, x = .int i ∧ lo ≤ i ∧ i ≤ hi := by
  cases x with
  | int i =>
    simp only [isN, Bool.and_eq_true, decide_eq_true_eq] at h
    exact ⟨i, rfl, h.1, h.2⟩
  | _ => simp [isN] at h
theorem is_number_ok {x : D} {lo hi : Int} {S : List Cell} (h : hasTy x = true) : F_is_number [x, .int lo, .int hi] S = .ok (.d (.bl (isN x lo hi))) S := by
  cases x with
  | int i =>
    by_cases c : lo ≤ i
    · by_cases c2 : i ≤ hi <;> simp [F_is_number, bodyF, m_is_number, mRet, mAnd, mIsi, mPk, Res.bd, Res.bind, RV.frz, isTy, isTyN, tyN, hasTy, Res.bb, mNot, mF, mT, mChain, gLe, gCmpI, bO, c, c2, ofO, isN, Res.sd, RV.plain]
    · simp [F_is_number, bodyF, m_is_number, mRet, mAnd, mIsi, mPk, Res.bd, Res.bind, RV.frz, isTy, isTyN, tyN, hasTy, Res.bb, mNot, mF, mT, mChain, gLe, gCmpI, bO, c, ofO, isN, Res.sd, RV.plain]
  | dic ks vs => simp [hasTy, tyN] at h
  | obj c ks vs => simp [hasTy, tyN] at h
  | cell n => simp [hasTy, tyN] at h
  | fn n => simp [hasTy, tyN] at h
  | _ => simp [F_is_number, bodyF, m_is_number, mRet, mAnd, mIsi, mPk, Res.bd, Res.bind, RV.frz, isTy, isTyN, tyN, hasTy, Res.bb, mNot, mF, mT, isN, Res.sd, RV.plain]
/-- the first that can't be -/
def fwGo (p : D → Bool) (most : Int) : Nat → List D → Option Nat
  | _, [] => none
  | k, d :: ds => if decide ((k : Int) = most) || !p d then some k else fwGo p most (k + 1) ds
def fw (p : D → Bool) (x : D) (least most : Int) : Option Nat := match x with
  | .tup ds => (match fwGo p most 0 ds with
    | some k => some k
    | none => if (ds.length : Int) < least then some ds.length else none)
  | _ => some 0
def optN (o : Option Nat) : D := match o with
  | some k => .int (k : Nat)
  | none => .non
noncomputable def fwBody (act : MF) : MS := (mIf (mOr (mBin gEq (mPk 4) (mPk 2)) (mNot (mAct 3 act (mCons (mVar 5) mNil)))) (mMv 4) mNext)
theorem fw_loop {act : MF} {p : D → Bool} {S : List Cell} {x : D} {least most : Int} : ∀ (ds : List D) (k : Nat) (x4 x5 : RV), (∀ d ∈ ds, act [d] S = .ok (.d (.bl (p d))) S) →
    (∃ j, fwGo p most k ds = some j ∧ forL (gTp 2 (gsCons (gNm 4) (gsCons (gNm 5) gsNil))) (fwBody act) (enumD k ds) ⟨[.d x, .d (.int least), .d (.int most), .fn 0, x4, x5], S⟩ = .rt (.d (.int (j : Nat))) S) ∨
    (fwGo p most k ds = none ∧ ∃ y4 y5, forL (gTp 2 (gsCons (gNm 4) (gsCons (gNm 5) gsNil))) (fwBody act) (enumD k ds) ⟨[.d x, .d (.int least), .d (.int most), .fn 0, x4, x5], S⟩ = .nx ⟨[.d x, .d (.int least), .d (.int most), .fn 0, y4, y5], S⟩)
  | [], k, x4, x5, _ => .inr ⟨rfl, x4, x5, rfl⟩
  | d :: ds, k, x4, x5, h => by
    have hd := h d (List.mem_cons_self ..)
    have e1 : enumD k (d :: ds) = .tup [.int (k : Nat), d] :: enumD (k + 1) ds := rfl
    rw [e1]
    by_cases c : (k : Int) = most
    · refine .inl ⟨k, by simp [fwGo, c], ?_⟩
      simp [forL, gTp, gsCons, gNm, gsNil, W.put, fwBody, mIf, mOr, mBin, mPk, Res.bd, Res.bind, RV.frz, gEq, c, bO, ofO, Res.bb, mT, Res.sb, mMv, RV.plain]
    · cases hp : p d with
      | false =>
        refine .inl ⟨k, by simp [fwGo, hp], ?_⟩
        rw [hp] at hd
        simp [forL, gTp, gsCons, gNm, gsNil, W.put, fwBody, mIf, mOr, mBin, mPk, Res.bd, Res.bind, RV.frz, gEq, c, bO, ofO, Res.bb, mT, Res.sb, mMv, RV.plain, mNot, mAct, mCall, mCons, mVar, mNil, Res.bl, RL.cons, RL.bd, hd]
      | true =>
        rw [hp] at hd
        have e2 : fwGo p most k (d :: ds) = fwGo p most (k + 1) ds := by simp [fwGo, hp, c]
        rw [e2]
        have e3 : forL (gTp 2 (gsCons (gNm 4) (gsCons (gNm 5) gsNil))) (fwBody act) (.tup [.int (k : Nat), d] :: enumD (k + 1) ds) ⟨[.d x, .d (.int least), .d (.int most), .fn 0, x4, x5], S⟩ =
            forL (gTp 2 (gsCons (gNm 4) (gsCons (gNm 5) gsNil))) (fwBody act) (enumD (k + 1) ds) ⟨[.d x, .d (.int least), .d (.int most), .fn 0, .d (.int (k : Nat)), .d d], S⟩ := by
          simp [forL, gTp, gsCons, gNm, gsNil, W.put, fwBody, mIf, mOr, mBin, mPk, Res.bd, Res.bind, RV.frz, gEq, c, bO, ofO, Res.bb, mT, mF, Res.sb, mNext, RV.plain, mNot, mAct, mCall, mCons, mVar, mNil, Res.bl, RL.cons, RL.bd, hd]
        rw [e3]
        exact fw_loop ds (k + 1) _ _ fun e he => h e (List.mem_cons_of_mem _ he)
theorem first_wrong_ok {act : MF} {p : D → Bool} {S : List Cell} {x : D} {least most : Int} (hx : hasTy x = true) (h : ∀ ds, x = .tup ds → ∀ d ∈ ds, act [d] S = .ok (.d (.bl (p d))) S) :
    bodyG 6 3 (m_first_wrong act) [x, .int least, .int most] S = .ok (.d (optN (fw p x least most))) S := by
  rw [bodyG_at (k := 3) (ds := [x, .int least, .int most]) rfl]
  by_cases ht : ∃ ds, x = .tup ds
  · obtain ⟨ds, rfl⟩ := ht
    have q1 : ∀ w : W, w = ⟨[.d (.tup ds), .d (.int least), .d (.int most), .fn 0, .un, .un], S⟩ → (mIf (mNot (mIsi "tuple" (mPk 0))) (mRet (mC (.int 0))) mNext) w = .nx w := by
      rintro w rfl
      simp [mIf, mNot, mIsi, mPk, Res.bd, Res.bind, RV.frz, hasTy, tyN, isTy, isTyN, Res.bb, mF, Res.sb, mNext]
    have q2 : mFor (mEnum (mVar 0)) (gTp 2 (gsCons (gNm 4) (gsCons (gNm 5) gsNil))) (fwBody act) ⟨[.d (.tup ds), .d (.int least), .d (.int most), .fn 0, .un, .un], S⟩ = forL (gTp 2 (gsCons (gNm 4) (gsCons (gNm 5) gsNil))) (fwBody act) (enumD 0 ds) ⟨[.d (.tup ds), .d (.int least), .d (.int most), .fn 0, .un, .un], S⟩ :=
      mFor_at (by simp [mEnum, mVar, Res.bd, Res.bind, RV.frz, enItems, seqItems])
    show (match mSeq _ (mSeq (mFor (mEnum (mVar 0)) (gTp 2 (gsCons (gNm 4) (gsCons (gNm 5) gsNil))) (fwBody act)) _) ⟨[.d (.tup ds), .d (.int least), .d (.int most), .fn 0, .un, .un], S⟩ with
      | .nx w => RF.ok (.d .non) w.S
      | .rt rv S' => if rv.plain = true then .ok rv S' else .bad
      | .ex x w => .ex x w.S
      | _ => .bad) = _
    rw [mSeq_nx (q1 _ rfl)]
    rcases fw_loop (x := .tup ds) (least := least) (most := most) ds 0 .un .un (h ds rfl) with ⟨j, e1, e2⟩ | ⟨e1, y4, y5, e2⟩
    · rw [mSeq_rt (q2.trans e2)]
      simp [RV.plain, fw, e1, optN]
    · rw [mSeq_nx (q2.trans e2)]
      by_cases c : (ds.length : Int) < least
      · simp [mRet, mIfE, mBin, mCB, g1, gLen, mCons, mPk, mNil, Res.bl, RL.cons, RL.bd, Res.bd, Res.bind, RV.frz, iO, ofO, gLt, gCmpI, c, bO, Res.bb, Res.sd, RV.plain, fw, e1, optN]
      · simp [mRet, mIfE, mBin, mCB, g1, gLen, mCons, mPk, mNil, Res.bl, RL.cons, RL.bd, Res.bd, Res.bind, RV.frz, iO, ofO, gLt, gCmpI, c, bO, Res.bb, Res.sd, RV.plain, fw, e1, optN, mC]
  · have hf : isTy "tuple" x = false := by
      cases x with
      | tup ds => exact (ht ⟨ds, rfl⟩).elim
      | _ => rfl
    have hw : fw p x least most = some 0 := by
      cases x with
      | tup ds => exact (ht ⟨ds, rfl⟩).elim
      | _ => rfl
    rw [hw]
    simp [m_first_wrong, mSeq, mIf, mNot, mIsi, mPk, Res.bd, Res.bind, RV.frz, hx, hf, Res.bb, mT, Res.sb, mRet, mC, Res.sd, RV.plain, optN]
def priceOk (d : D) : Bool := isNon d || isN d 1 99
theorem is_price_ok {x : D} {S : List Cell} (h : hasTy x = true) : F_is_price [x] S = .ok (.d (.bl (priceOk x))) S := by
  have hn := is_number_ok (lo := 1) (hi := 99) (S := S) h
  cases hx : isNon x with
  | true => simp [F_is_price, bodyF, m_is_price, mRet, mOr, mBin, mPk, mC, Res.bd, Res.bind, RV.frz, gIs, hx, bO, ofO, Res.bb, mT, Res.sd, RV.plain, priceOk]
  | false => simp [F_is_price, bodyF, m_is_price, mRet, mOr, mBin, mPk, mC, Res.bd, Res.bind, RV.frz, gIs, hx, bO, ofO, Res.bb, mT, Res.sd, RV.plain, priceOk, mCall, mCons, mVar, mNil, Res.bl, RL.cons, RL.bd, hn]
end DB

set_option Elab.async false
set_option linter.all false
set_option maxRecDepth 100000
set_option maxHeartbeats 4000000
namespace DB
open PySem PySem.Spec PyProof.Rows L2
/-! plain: need_belt -/
def isRow (x : D) : Bool := match x with
  | .str s => decide (s = "row") || decide (s = "ring")
  | _ => false
def isRing (x : D) : Bool := match x with
  | .str s => decide (s = "ring")
  | _ => false
def isTup (x : D) : Bool := match x with
  | .tup _ => true
  | _ => false
def lenD (x : D) : Int := match x with
  | .tup ds => ds.length
  | _ => 0
def intD (x : D) : Int := match x with
  | .int i => i
  | _ => 0
/-- how many bands lie over the dials -/
def manyOf (s w ds : D) : Int := if isRing s then lenD ds else lenD ds - intD w + 1
def badOf (b : D) : Option (Int × Int) := match b with
  | .tup [s, f, w, ds, ps] => if isRow s = false then some (0, 0) else if isN f 2 9 = false then some (1, 0) else if isN w 1 12 = false then some (2, 0) else
    (match fw (fun d => isN d 0 (intD f - 1)) ds (intD w) 12 with
    | some k => some (3, (k : Int))
    | none => (match fw priceOk ps (manyOf s w ds) (manyOf s w ds) with
      | some k => some (4, (k : Int))
      | none => none))
  | _ => some (-1, 0)
theorem eqB_str (a b : Str) : eqB (.str a) (.str b) = decide (a = b) := by
  by_cases h : a = b
  · subst h; simp [eqB, toPy, PyData.eqv]
  · simp [eqB, toPy, PyData.eqv, h]
theorem fw_tup {p : D → Bool} {x : D} {least most : Int} (h : fw p x least most = none) : ∃ ds, x = .tup ds := by
  cases x with
  | tup ds => exact ⟨ds, rfl⟩
  | _ => simp [fw] at h
theorem rr_ok : okE (.tup [.str "row", .str "ring"]) = true := okE_of (n := 1) (by simp only [dok, doks]; decide +kernel) (by decide)
theorem str_or {n : Nat} {x : D} (h : dok n x = true) : (∃ z, x = .str z) ∨ (isTy "str" x = false ∧ isRow x = false ∧ isRing x = false) := by
  cases x with
  | str s => exact .inl ⟨s, rfl⟩
  | _ => exact .inr ⟨rfl, rfl, rfl⟩
theorem in_row {n : Nat} {s : Str} (h : dok n (.str s) = true) (hn : n ≤ 63) : gIn (.str s) (.tup [.str "row", .str "ring"]) = bO (isRow (.str s)) := by
  have e1 : eqB (.str "row") (.str s) = decide (s = "row") := by rw [eqB_str]; exact decide_eq_decide.mpr ⟨Eq.symm, Eq.symm⟩
  have e2 : eqB (.str "ring") (.str s) = decide (s = "ring") := by rw [eqB_str]; exact decide_eq_decide.mpr ⟨Eq.symm, Eq.symm⟩
  simp [gIn, okE_of h hn, rr_ok, e1, e2, isRow]
/-- the lambda of the dials -/
theorem lam_dial {e0 e1 e3 e4 e5 e6 e7 e8 e9 e10 e11 : RV} {fi : Int} {d : D} {S : List Cell} (h : hasTy d = true) :
    lamF (capE [2] [e0, e1, .d (.int fi), e3, e4, e5, e6, e7, e8, e9, e10, e11]) [11] (mCall F_is_number (mCons (mVar 11) (mCons (mC (.int 0)) (mCons (mBin gSub (mPk 2) (mC (.int 1))) mNil)))) [d] S = .ok (.d (.bl (isN d 0 (fi - 1)))) S := by
  have ec : capE [2] [e0, e1, .d (.int fi), e3, e4, e5, e6, e7, e8, e9, e10, e11] = [.un, .un, .d (.int fi), .un, .un, .un, .un, .un, .un, .un, .un, .un] := rfl
  have hn := is_number_ok (lo := 0) (hi := fi - 1) (S := S) h
  rw [ec]
  simp [lamF, mCall, mCons, mVar, mC, mBin, mPk, mNil, Res.bl, RL.cons, RL.bd, Res.bd, Res.bind, RV.frz, gSub, iO, ofO, hn, RV.plain]
theorem need_belt_ok {b : D} {S : List Cell} (h : dok 3 b = true) : F_need_belt [b] S = (match badOf b with
    | none => .ok (.d .non) S
    | some (p, n) => .ex ⟨"BadBelt", ["number", "part"], [.int n, .int p]⟩ S) := by
  have hb := dok_ty h
  unfold F_need_belt
  rw [bodyF_at (k := 1) (ds := [b]) rfl]
  by_cases h5 : ∃ s f w ds ps, b = .tup [s, f, w, ds, ps]
  · obtain ⟨s, f, w, ds, ps, rfl⟩ := h5
    simp only [dok, doks, Bool.and_eq_true] at h
    obtain ⟨k1, k2, k3, k4, k5, _⟩ := h
    have t1 := dok_ty k1
    have t2 := dok_ty k2
    have t3 := dok_ty k3
    have t4 := dok_ty k4
    have t5 := dok_ty k5
    have hf := is_number_ok (lo := 2) (hi := 9) (S := S) t2
    have hw := is_number_ok (lo := 1) (hi := 12) (S := S) t3
    have hs : ∀ n : Nat, n ≤ 7 → n ≤ sizeLine := fun n h => Nat.le_trans h (by decide)
    have hs1 := hs 1 (by decide)
    have hs2 := hs 2 (by decide)
    have hs3 := hs 3 (by decide)
    let b : D := .tup [s, f, w, ds, ps]
    let e1 : W := ⟨[.d b, .un, .un, .un, .un, .un, .un, .un, .un, .un, .un, .un], S⟩
    let e2 : W := ⟨[.d b, .d s, .d f, .d w, .d ds, .d ps, .un, .un, .un, .un, .un, .un], S⟩
    let e3 : W := ⟨[.d b, .d s, .d f, .d w, .d ds, .d ps, .own [.bl (isRow s), .bl (isN f 2 9)], .un, .un, .un, .un, .un], S⟩
    have q1 : (mIf (mOr (mNot (mIsi "tuple" (mPk 0))) (mBin gNe (mCB (g1 gLen) (mCons (mPk 0) mNil)) (mC (.int 5)))) (mRaise "BadBelt" ["part", "number"] (mCons (mNeg (mC (.int 1))) (mCons (mC (.int 0)) mNil))) mNext) e1 = .nx e1 := by
      simp [e1, b, mIf, mOr, mNot, mIsi, mPk, Res.bd, Res.bind, RV.frz, hasTy, tyN, isTy, isTyN, Res.bb, mF, mT, mBin, mCB, g1, gLen, mCons, mNil, Res.bl, RL.cons, RL.bd, iO, ofO, mC, gNe, bO, Res.sb, mNext]
    have q2 : (mAsg (gTp 5 (gsCons (gNm 1) (gsCons (gNm 2) (gsCons (gNm 3) (gsCons (gNm 4) (gsCons (gNm 5) gsNil)))))) (mVar 0)) e1 = .nx e2 := by
      simp [e1, e2, b, mAsg, mVar, Res.sd, RV.frz, gTp, gsCons, gNm, gsNil, W.put]
    have q3 : (mSet 6 (mLst (mCons (mAnd (mIsi "str" (mPk 1)) (mBin gIn (mPk 1) (mTup (mCons (mC (.str "row")) (mCons (mC (.str "ring")) mNil))))) (mCons (mCall F_is_number (mCons (mVar 2) (mCons (mC (.int 2)) (mCons (mC (.int 9)) mNil)))) mNil)))) e2 = .nx e3 := by
      have q : mAnd (mIsi "str" (mPk 1)) (mBin gIn (mPk 1) (mTup (mCons (mC (.str "row")) (mCons (mC (.str "ring")) mNil)))) e2 = .ok (.d (.bl (isRow s))) e2 := by
        rcases str_or k1 with ⟨z, rfl⟩ | ⟨z1, z2, _⟩
        · have z := in_row k1 (by decide)
          simp [e2, mAnd, mIsi, mPk, Res.bd, Res.bind, RV.frz, t1, mBin, mTup, mCons, mC, mNil, Res.bl, RL.cons, RL.bd, hs2, isTy, isTyN, tyN, Res.bb, z, bO, ofO]
        · simp [e2, mAnd, mIsi, mPk, Res.bd, Res.bind, RV.frz, t1, z1, z2, Res.bb, mF]
      simp [mSet, mLst, mCons, q, Res.bl, RL.cons, RL.bd, RV.frz]
      simp [e2, e3, mCall, mCons, mVar, mC, mNil, Res.bl, RL.cons, RL.bd, RV.frz, hf, Res.bd, Res.bind, RV.plain, hs2, Res.sd, setRV, W.put]
    let lp : MS := mFor (mEnum (mBin gAdd (mPk 6) (mLst (mCons (mCall F_is_number (mCons (mVar 3) (mCons (mC (.int 1)) (mCons (mC (.int 12)) mNil)))) mNil)))) (gTp 2 (gsCons (gNm 7) (gsCons (gNm 8) gsNil))) (mIf (mNot (mVar 8)) (mRaise "BadBelt" ["part", "number"] (mCons (mVar 7) (mCons (mC (.int 0)) mNil))) mNext)
    let body : MS := mIf (mNot (mVar 8)) (mRaise "BadBelt" ["part", "number"] (mCons (mVar 7) (mCons (mC (.int 0)) mNil))) mNext
    have q4 : lp e3 = forL (gTp 2 (gsCons (gNm 7) (gsCons (gNm 8) gsNil))) body [.tup [.int 0, .bl (isRow s)], .tup [.int 1, .bl (isN f 2 9)], .tup [.int 2, .bl (isN w 1 12)]] e3 := by
      refine mFor_at ?_
      simp [e3, mEnum, mBin, mPk, mLst, mCons, mCall, mVar, mC, mNil, Res.bl, RL.cons, RL.bd, Res.bd, Res.bind, RV.frz, hw, RV.plain, hs1, gAdd, hs3, ofO, enItems, seqItems, enumD]
    let fin : MS := (mSeq (mSet 9 (mCallL (fun act => bodyG 6 3 (m_first_wrong act)) [2] [11] (mCall F_is_number (mCons (mVar 11) (mCons (mC (.int 0)) (mCons (mBin gSub (mPk 2) (mC (.int 1))) mNil)))) (mCons (mVar 4) (mCons (mVar 3) (mCons (mC (.int 12)) mNil)))))
      (mSeq (mIf (mBin gIsNot (mPk 9) (mC .non)) (mRaise "BadBelt" ["part", "number"] (mCons (mC (.int 3)) (mCons (mVar 9) mNil))) mNext)
      (mSeq (mSet 10 (mCall F_bands_of (mCons (mVar 1) (mCons (mVar 3) (mCons (mCB (g1 gLen) (mCons (mPk 4) mNil)) mNil)))))
      (mSeq (mSet 9 (mCallV (fun act => bodyG 6 3 (m_first_wrong act)) F_is_price (mCons (mVar 5) (mCons (mVar 10) (mCons (mVar 10) mNil)))))
      (mIf (mBin gIsNot (mPk 9) (mC .non)) (mRaise "BadBelt" ["part", "number"] (mCons (mC (.int 4)) (mCons (mVar 9) mNil))) mNext)))))
    show (match mSeq _ (mSeq _ (mSeq _ (mSeq lp fin))) e1 with
      | .nx w => RF.ok (.d .non) w.S
      | .rt rv S' => if rv.plain = true then .ok rv S' else .bad
      | .ex x w => .ex x w.S
      | _ => .bad) = _
    rw [mSeq_nx q1, mSeq_nx q2, mSeq_nx q3]
    cases c1 : isRow s with
    | false =>
      have q : lp e3 = .ex ⟨"BadBelt", ["number", "part"], [.int 0, .int 0]⟩ ⟨[.d b, .d s, .d f, .d w, .d ds, .d ps, .own [.bl (isRow s), .bl (isN f 2 9)], .d (.int 0), .d (.bl false), .un, .un, .un], S⟩ := by
        rw [q4]
        simp [forL, gTp, gsCons, gNm, gsNil, W.put, body, e3, c1, mIf, mNot, mVar, Res.bb, mT, Res.sb, mRaise, mCons, mC, mNil, Res.bl, RL.cons, RL.bd, RV.frz]
      rw [mSeq_ex q]
      simp [badOf, c1]
    | true =>
      cases c2 : isN f 2 9 with
      | false =>
        have q : lp e3 = .ex ⟨"BadBelt", ["number", "part"], [.int 0, .int 1]⟩ ⟨[.d b, .d s, .d f, .d w, .d ds, .d ps, .own [.bl (isRow s), .bl (isN f 2 9)], .d (.int 1), .d (.bl false), .un, .un, .un], S⟩ := by
          rw [q4]
          simp [forL, gTp, gsCons, gNm, gsNil, W.put, body, e3, c1, c2, mIf, mNot, mVar, Res.bb, mT, mF, Res.sb, mNext, mRaise, mCons, mC, mNil, Res.bl, RL.cons, RL.bd, RV.frz]
        rw [mSeq_ex q]
        simp [badOf, c1, c2]
      | true =>
        cases c3 : isN w 1 12 with
        | false =>
          have q : lp e3 = .ex ⟨"BadBelt", ["number", "part"], [.int 0, .int 2]⟩ ⟨[.d b, .d s, .d f, .d w, .d ds, .d ps, .own [.bl (isRow s), .bl (isN f 2 9)], .d (.int 2), .d (.bl false), .un, .un, .un], S⟩ := by
            rw [q4]
            simp [forL, gTp, gsCons, gNm, gsNil, W.put, body, e3, c1, c2, c3, mIf, mNot, mVar, Res.bb, mT, mF, Res.sb, mNext, mRaise, mCons, mC, mNil, Res.bl, RL.cons, RL.bd, RV.frz]
          rw [mSeq_ex q]
          simp [badOf, c1, c2, c3]
        | true =>
          obtain ⟨fi, rfl, _, _⟩ := isN_inv c2
          obtain ⟨wi, rfl, _, _⟩ := isN_inv c3
          have q : lp e3 = .nx ⟨[.d b, .d s, .d (.int fi), .d (.int wi), .d ds, .d ps, .own [.bl true, .bl true], .d (.int 2), .d (.bl true), .un, .un, .un], S⟩ := by
            rw [q4]
            simp [forL, gTp, gsCons, gNm, gsNil, W.put, body, e3, c1, c2, c3, mIf, mNot, mVar, Res.bb, mT, mF, Res.sb, mNext]
          rw [mSeq_nx q]
          have hact : ∀ dl, ds = .tup dl → ∀ d ∈ dl, lamF (capE [2] [.d b, .d s, .d (.int fi), .d (.int wi), .d ds, .d ps, .own [.bl true, .bl true], .d (.int 2), .d (.bl true), .un, .un, .un]) [11] (mCall F_is_number (mCons (mVar 11) (mCons (mC (.int 0)) (mCons (mBin gSub (mPk 2) (mC (.int 1))) mNil)))) [d] S = .ok (.d (.bl (isN d 0 (fi - 1)))) S := by
            rintro dl rfl d hd
            simp only [dok] at k4
            exact lam_dial (dok_ty (doks_mem k4 d hd))
          have hfw := first_wrong_ok (least := wi) (most := 12) t4 hact
          have q5 : (mSet 9 (mCallL (fun act => bodyG 6 3 (m_first_wrong act)) [2] [11] (mCall F_is_number (mCons (mVar 11) (mCons (mC (.int 0)) (mCons (mBin gSub (mPk 2) (mC (.int 1))) mNil)))) (mCons (mVar 4) (mCons (mVar 3) (mCons (mC (.int 12)) mNil)))))
              ⟨[.d b, .d s, .d (.int fi), .d (.int wi), .d ds, .d ps, .own [.bl true, .bl true], .d (.int 2), .d (.bl true), .un, .un, .un], S⟩ =
              .nx ⟨[.d b, .d s, .d (.int fi), .d (.int wi), .d ds, .d ps, .own [.bl true, .bl true], .d (.int 2), .d (.bl true), .d (optN (fw (fun d => isN d 0 (fi - 1)) ds wi 12)), .un, .un], S⟩ := by
            simp [mSet, mCallL, mCons, mVar, mC, mNil, Res.bl, RL.cons, RL.bd, RV.frz, hfw, RV.plain, Res.sd, setRV, W.put]
          simp only [fin]
          rw [mSeq_nx q5]
          cases c4 : fw (fun d => isN d 0 (fi - 1)) ds wi 12 with
          | some k =>
            simp [mSeq, mIf, mBin, mPk, mC, Res.bd, Res.bind, RV.frz, gIsNot, isNon, optN, bO, ofO, Res.sb, mRaise, mCons, mVar, mNil, Res.bl, RL.cons, RL.bd, badOf, c1, c2, c3, intD, c4]
          | none =>
            obtain ⟨dl, rfl⟩ := fw_tup c4
            obtain ⟨z, rfl⟩ : ∃ z, s = .str z := by
              rcases str_or k1 with h | ⟨_, h, _⟩
              · exact h
              · rw [c1] at h; cases h
            have hbo : F_bands_of [.str z, .int wi, .int (dl.length : Nat)] S = .ok (.d (.int (manyOf (.str z) (.int wi) (.tup dl)))) S := by
              by_cases cz : z = "ring"
              · simp [F_bands_of, bodyF, m_bands_of, mRet, mIfE, mBin, mPk, mC, mVar, Res.bd, Res.bind, RV.frz, gEq, cz, bO, ofO, Res.bb, Res.sd, RV.plain, manyOf, isRing, lenD]
              · simp [F_bands_of, bodyF, m_bands_of, mRet, mIfE, mBin, mPk, mC, mVar, Res.bd, Res.bind, RV.frz, gEq, cz, bO, ofO, Res.bb, Res.sd, RV.plain, manyOf, isRing, lenD, intD, gSub, gAdd, iO]
            have hpr := first_wrong_ok (act := F_is_price) (p := priceOk) (S := S) (least := manyOf (.str z) (.int wi) (.tup dl)) (most := manyOf (.str z) (.int wi) (.tup dl)) t5 (by
              rintro pl rfl d hd
              simp only [dok] at k5
              exact is_price_ok (dok_ty (doks_mem k5 d hd)))
            have q6 : (mIf (mBin gIsNot (mPk 9) (mC .non)) (mRaise "BadBelt" ["part", "number"] (mCons (mC (.int 3)) (mCons (mVar 9) mNil))) mNext) ⟨[.d b, .d (.str z), .d (.int fi), .d (.int wi), .d (.tup dl), .d ps, .own [.bl true, .bl true], .d (.int 2), .d (.bl true), .d (optN none), .un, .un], S⟩ =
                .nx ⟨[.d b, .d (.str z), .d (.int fi), .d (.int wi), .d (.tup dl), .d ps, .own [.bl true, .bl true], .d (.int 2), .d (.bl true), .d (optN none), .un, .un], S⟩ := by
              simp [mIf, mBin, mPk, mC, Res.bd, Res.bind, RV.frz, gIsNot, isNon, optN, bO, ofO, Res.sb, mNext]
            have q7 : (mSet 10 (mCall F_bands_of (mCons (mVar 1) (mCons (mVar 3) (mCons (mCB (g1 gLen) (mCons (mPk 4) mNil)) mNil))))) ⟨[.d b, .d (.str z), .d (.int fi), .d (.int wi), .d (.tup dl), .d ps, .own [.bl true, .bl true], .d (.int 2), .d (.bl true), .d (optN none), .un, .un], S⟩ =
                .nx ⟨[.d b, .d (.str z), .d (.int fi), .d (.int wi), .d (.tup dl), .d ps, .own [.bl true, .bl true], .d (.int 2), .d (.bl true), .d (optN none), .d (.int (manyOf (.str z) (.int wi) (.tup dl))), .un], S⟩ := by
              simp [mSet, mCall, mCons, mVar, mCB, g1, gLen, mPk, mNil, Res.bl, RL.cons, RL.bd, Res.bd, Res.bind, RV.frz, iO, ofO, hbo, RV.plain, Res.sd, setRV, W.put]
            have q8 : (mSet 9 (mCallV (fun act => bodyG 6 3 (m_first_wrong act)) F_is_price (mCons (mVar 5) (mCons (mVar 10) (mCons (mVar 10) mNil))))) ⟨[.d b, .d (.str z), .d (.int fi), .d (.int wi), .d (.tup dl), .d ps, .own [.bl true, .bl true], .d (.int 2), .d (.bl true), .d (optN none), .d (.int (manyOf (.str z) (.int wi) (.tup dl))), .un], S⟩ =
                .nx ⟨[.d b, .d (.str z), .d (.int fi), .d (.int wi), .d (.tup dl), .d ps, .own [.bl true, .bl true], .d (.int 2), .d (.bl true), .d (optN (fw priceOk ps (manyOf (.str z) (.int wi) (.tup dl)) (manyOf (.str z) (.int wi) (.tup dl)))), .d (.int (manyOf (.str z) (.int wi) (.tup dl))), .un], S⟩ := by
              simp [mSet, mCallV, mCons, mVar, mC, mNil, Res.bl, RL.cons, RL.bd, RV.frz, hpr, RV.plain, Res.sd, setRV, W.put]
            rw [mSeq_nx q6, mSeq_nx q7, mSeq_nx q8]
            cases c5 : fw priceOk ps (manyOf (.str z) (.int wi) (.tup dl)) (manyOf (.str z) (.int wi) (.tup dl)) with
            | some k => simp [mIf, mBin, mPk, mC, Res.bd, Res.bind, RV.frz, gIsNot, isNon, optN, bO, ofO, Res.sb, mRaise, mCons, mVar, mNil, Res.bl, RL.cons, RL.bd, badOf, c1, c2, c3, intD, c4, c5]
            | none => simp [mIf, mBin, mPk, mC, Res.bd, Res.bind, RV.frz, gIsNot, isNon, optN, bO, ofO, Res.sb, mNext, badOf, c1, c2, c3, intD, c4, c5]
  · have hbad : badOf b = some (-1, 0) := by
      unfold badOf
      split
      · rename_i s f w ds ps
        exact (h5 ⟨s, f, w, ds, ps, rfl⟩).elim
      · rfl
    rw [hbad]
    cases b with
    | tup l =>
      have hl : ¬ (l.length : Int) = 5 := fun e => by
        have e' : l.length = 5 := by omega
        match l, e' with
        | [s, f, w, ds, ps], _ => exact h5 ⟨s, f, w, ds, ps, rfl⟩
      simp [m_need_belt, mSeq, mIf, mOr, mNot, mIsi, mPk, Res.bd, Res.bind, RV.frz, hasTy, tyN, isTy, isTyN, Res.bb, mF, mT, mBin, mCB, g1, gLen, mCons, mNil, Res.bl, RL.cons, RL.bd, iO, ofO, mC, gNe, hl, bO, Res.sb, mRaise, mNeg, gNeg]
    | dic ks vs => simp [dok] at h
    | obj c ks vs => simp [dok] at h
    | cell n => simp [dok] at h
    | fn n => simp [dok] at h
    | _ => simp [m_need_belt, mSeq, mIf, mOr, mNot, mIsi, mPk, Res.bd, Res.bind, RV.frz, hasTy, tyN, isTy, isTyN, Res.bb, mF, mT, mRaise, mNeg, gNeg, mC, mCons, mNil, Res.bl, RL.cons, RL.bd, iO, ofO, Res.sb]
end DB

set_option Elab.async false
set_option linter.all false
set_option maxRecDepth 100000
set_option maxHeartbeats 4000000
namespace DB
open PySem PySem.Spec PyProof.Rows L2
/-! plain: _law_kind -/
theorem kind_ok {act : MF} {rv : RV} {S S' : List Cell} (h : act [] S = .ok rv S') (hp : rv.plain = true) : bodyG 5 0 (m__law_kind act) [] S = .ok rv S' := by
  rw [bodyG_at (k := 0) (ds := []) rfl]
  simp [m__law_kind, mTry, mRet, mAct, mCall, mNil, RL.bd, Res.bd, h, hp, Res.sd]
def kindL (c : Str) : List D := (["BadBelt", "BadGoal", "BadPress", "BadStep", "BadDeed", "BadCount", "TooMany", "NoWay", "BadName", "Known", "NoRoutine", "BadText"] : List Str).map fun t => D.bl (underX c t)
noncomputable def kindSuite : MS := (mSeq (mSet 2 (mLst (mCons (mIsx 1 "BadBelt") (mCons (mIsx 1 "BadGoal") (mCons (mIsx 1 "BadPress") (mCons (mIsx 1 "BadStep") mNil))))))
  (mSeq (mSet 2 (mBin gAdd (mPk 2) (mLst (mCons (mIsx 1 "BadDeed") (mCons (mIsx 1 "BadCount") (mCons (mIsx 1 "TooMany") mNil))))))
  (mSeq (mSet 2 (mBin gAdd (mPk 2) (mLst (mCons (mIsx 1 "NoWay") (mCons (mIsx 1 "BadName") (mCons (mIsx 1 "Known") mNil))))))
  (mSeq (mSet 2 (mBin gAdd (mPk 2) (mLst (mCons (mIsx 1 "NoRoutine") (mCons (mIsx 1 "BadText") mNil)))))
  (mSeq (mSet 3 (mC (.str "BadBelt BadGoal BadPress BadStep BadDeed BadCount TooMany NoWay BadName Known NoRoutine BadText")))
  (mSeq (mIf (mOr (mBin gNe (mMth "list" gCount (mPk 2) (mCons (mC (.bl true)) mNil)) (mC (.int 1))) (mNot (mIsx 1 "ValueError"))) (mRet (mC (.str "other"))) mNext)
  (mSeq (mSet 4 (mBin gIx (mMth "str" gSplit (mPk 3) (mCons (mC (.str " ")) mNil)) (mMth "list" gIndex (mPk 2) (mCons (mC (.bl true)) mNil))))
  (mSeq (mIf (mBin gEq (mPk 4) (mC (.str "BadBelt"))) (mRet (mTup (mCons (mVar 4) (mCons (mXf 1 "part") (mCons (mXf 1 "number") mNil))))) mNext)
  (mSeq (mIf (mBin gIn (mPk 4) (mTup (mCons (mC (.str "BadGoal")) (mCons (mC (.str "BadPress")) (mCons (mC (.str "BadStep")) (mCons (mC (.str "BadDeed")) mNil)))))) (mRet (mTup (mCons (mVar 4) (mCons (mXf 1 "number") mNil)))) mNext)
  (mRet (mIfE (mBin gEq (mPk 4) (mC (.str "BadText"))) (mTup (mCons (mVar 4) (mCons (mXf 1 "row") mNil))) (mVar 4))))))))))))
theorem kind_eq (act : MF) : m__law_kind act = mTry (mRet (mAct 0 act mNil)) [("DialError", some 1, kindSuite)] := rfl
/-- the refusal's name is found -/
theorem kind_word {x : Exc} {S : List Cell} (hc : x.cls ∈ xCls) : ∀ k, kindSuite ⟨[.fn 0, .xc x, .un, .un, .un], S⟩ = k → k = (mSeq (mIf (mBin gEq (mPk 4) (mC (.str "BadBelt"))) (mRet (mTup (mCons (mVar 4) (mCons (mXf 1 "part") (mCons (mXf 1 "number") mNil))))) mNext)
  (mSeq (mIf (mBin gIn (mPk 4) (mTup (mCons (mC (.str "BadGoal")) (mCons (mC (.str "BadPress")) (mCons (mC (.str "BadStep")) (mCons (mC (.str "BadDeed")) mNil)))))) (mRet (mTup (mCons (mVar 4) (mCons (mXf 1 "number") mNil)))) mNext)
  (mRet (mIfE (mBin gEq (mPk 4) (mC (.str "BadText"))) (mTup (mCons (mVar 4) (mCons (mXf 1 "row") mNil))) (mVar 4))))) ⟨[.fn 0, .xc x, .own (kindL x.cls), .d (.str "BadBelt BadGoal BadPress BadStep BadDeed BadCount TooMany NoWay BadName Known NoRoutine BadText"), .d (.str x.cls)], S⟩ := by
  rintro k rfl
  have hz : ∀ n : Nat, n ≤ 12 → n ≤ sizeLine := fun n h => Nat.le_trans h (by decide)
  have h2 := hz 2 (by decide)
  have h3 := hz 3 (by decide)
  have h4 := hz 4 (by decide)
  have h7 := hz 7 (by decide)
  have h10 := hz 10 (by decide)
  have h12 := hz 12 (by decide)
  have all : ∀ c ∈ xCls, (kindL c).all flatD = true ∧ ((kindL c).countP fun z => eqF z (.bl true)) = 1 ∧ (kindL c).findIdx? (fun z => eqF z (.bl true)) = some (xCls.findIdx (· == c)) ∧ xCls[xCls.findIdx (· == c)]? = some c ∧ xCls.findIdx (· == c) < 12 := by decide +kernel
  obtain ⟨a1, a2, a3, a4, a5⟩ := all _ hc
  have hcnt : gCount (.lst (kindL x.cls)) [.bl true] = some (.d (.int 1)) := by
    have fl : flatD (.bl true) = true ∧ (kindL x.cls).all flatD = true := ⟨rfl, a1⟩
    show (if flatD (.bl true) = true ∧ (kindL x.cls).all flatD = true then iO ((kindL x.cls).countP fun z => eqF z (.bl true)) else none) = _
    rw [if_pos fl, a2]; rfl
  have hidx : gIndex (.lst (kindL x.cls)) [.bl true] = some (.d (.int (xCls.findIdx (· == x.cls) : Nat))) := by
    have fl : flatD (.bl true) = true ∧ (kindL x.cls).all flatD = true := ⟨rfl, a1⟩
    show (if flatD (.bl true) = true ∧ (kindL x.cls).all flatD = true then (match (kindL x.cls).findIdx? (fun z => eqF z (.bl true)) with
      | some j => iO j
      | none => none) else none) = _
    rw [if_pos fl, a3]; rfl
  have hat : gIx (.lst (xCls.map D.str)) (.int (xCls.findIdx (· == x.cls) : Nat)) = some (.d (.str x.cls)) := by
    show (atI (xCls.map D.str) _).map RV.d = _
    have : atI (xCls.map D.str) (xCls.findIdx (· == x.cls) : Nat) = some (.str x.cls) := by
      unfold atI ixN
      have h0 : (0 : Int) ≤ (xCls.findIdx (· == x.cls) : Nat) := by omega
      have h1 : ((xCls.findIdx (· == x.cls) : Nat) : Int) < (xCls.map D.str).length := by
        have : (xCls.map D.str).length = 12 := rfl
        omega
      rw [if_pos h0, if_pos h1]
      have h2 : (((xCls.findIdx (· == x.cls) : Nat) : Int)).toNat = xCls.findIdx (· == x.cls) := by omega
      show (xCls.map D.str)[_]? = _
      rw [h2, List.getElem?_map, a4]; rfl
    rw [this]; rfl
  have hws : Txt.split "BadBelt BadGoal BadPress BadStep BadDeed BadCount TooMany NoWay BadName Known NoRoutine BadText" " " = xCls := by decide +kernel
  have hsp : gSplit (.str "BadBelt BadGoal BadPress BadStep BadDeed BadCount TooMany NoWay BadName Known NoRoutine BadText") [.str " "] = some (.own (xCls.map D.str)) := by
    rw [← hws]
    have c : (((" " : Str).length == 0) = false ∧ ("BadBelt BadGoal BadPress BadStep BadDeed BadCount TooMany NoWay BadName Known NoRoutine BadText" : Str).length + 2 ≤ sizeLine) := by decide +kernel
    exact if_pos (e := (none : Option RV)) c
  have hv : underX x.cls "ValueError" = true := by simp [underX]
  have hl4 : ([.bl (underX x.cls "BadBelt"), .bl (underX x.cls "BadGoal"), .bl (underX x.cls "BadPress"), .bl (underX x.cls "BadStep")] : List D).length = 4 := rfl
  let wd : RV := .d (.str "BadBelt BadGoal BadPress BadStep BadDeed BadCount TooMany NoWay BadName Known NoRoutine BadText")
  have q1 : (mSet 2 (mLst (mCons (mIsx 1 "BadBelt") (mCons (mIsx 1 "BadGoal") (mCons (mIsx 1 "BadPress") (mCons (mIsx 1 "BadStep") mNil)))))) ⟨[.fn 0, .xc x, .un, .un, .un], S⟩ =
      .nx ⟨[.fn 0, .xc x, .own [.bl (underX x.cls "BadBelt"), .bl (underX x.cls "BadGoal"), .bl (underX x.cls "BadPress"), .bl (underX x.cls "BadStep")], .un, .un], S⟩ := by
    simp [mSet, mLst, mCons, mIsx, hc, mNil, Res.bl, RL.cons, RL.bd, RV.frz, h4, Res.sd, setRV, W.put]
  have q2 : (mSet 2 (mBin gAdd (mPk 2) (mLst (mCons (mIsx 1 "BadDeed") (mCons (mIsx 1 "BadCount") (mCons (mIsx 1 "TooMany") mNil)))))) ⟨[.fn 0, .xc x, .own [.bl (underX x.cls "BadBelt"), .bl (underX x.cls "BadGoal"), .bl (underX x.cls "BadPress"), .bl (underX x.cls "BadStep")], .un, .un], S⟩ =
      .nx ⟨[.fn 0, .xc x, .own [.bl (underX x.cls "BadBelt"), .bl (underX x.cls "BadGoal"), .bl (underX x.cls "BadPress"), .bl (underX x.cls "BadStep"), .bl (underX x.cls "BadDeed"), .bl (underX x.cls "BadCount"), .bl (underX x.cls "TooMany")], .un, .un], S⟩ := by
    simp [mSet, mBin, mPk, mLst, mCons, mIsx, hc, mNil, Res.bl, RL.cons, RL.bd, RV.frz, Res.bd, Res.bind, h3, gAdd, h7, ofO, Res.sd, setRV, W.put]
  have q3 : (mSet 2 (mBin gAdd (mPk 2) (mLst (mCons (mIsx 1 "NoWay") (mCons (mIsx 1 "BadName") (mCons (mIsx 1 "Known") mNil)))))) ⟨[.fn 0, .xc x, .own [.bl (underX x.cls "BadBelt"), .bl (underX x.cls "BadGoal"), .bl (underX x.cls "BadPress"), .bl (underX x.cls "BadStep"), .bl (underX x.cls "BadDeed"), .bl (underX x.cls "BadCount"), .bl (underX x.cls "TooMany")], .un, .un], S⟩ =
      .nx ⟨[.fn 0, .xc x, .own [.bl (underX x.cls "BadBelt"), .bl (underX x.cls "BadGoal"), .bl (underX x.cls "BadPress"), .bl (underX x.cls "BadStep"), .bl (underX x.cls "BadDeed"), .bl (underX x.cls "BadCount"), .bl (underX x.cls "TooMany"), .bl (underX x.cls "NoWay"), .bl (underX x.cls "BadName"), .bl (underX x.cls "Known")], .un, .un], S⟩ := by
    simp [mSet, mBin, mPk, mLst, mCons, mIsx, hc, mNil, Res.bl, RL.cons, RL.bd, RV.frz, Res.bd, Res.bind, h3, gAdd, h10, ofO, Res.sd, setRV, W.put]
  have q4 : (mSet 2 (mBin gAdd (mPk 2) (mLst (mCons (mIsx 1 "NoRoutine") (mCons (mIsx 1 "BadText") mNil))))) ⟨[.fn 0, .xc x, .own [.bl (underX x.cls "BadBelt"), .bl (underX x.cls "BadGoal"), .bl (underX x.cls "BadPress"), .bl (underX x.cls "BadStep"), .bl (underX x.cls "BadDeed"), .bl (underX x.cls "BadCount"), .bl (underX x.cls "TooMany"), .bl (underX x.cls "NoWay"), .bl (underX x.cls "BadName"), .bl (underX x.cls "Known")], .un, .un], S⟩ =
      .nx ⟨[.fn 0, .xc x, .own (kindL x.cls), .un, .un], S⟩ := by
    simp [mSet, mBin, mPk, mLst, mCons, mIsx, hc, mNil, Res.bl, RL.cons, RL.bd, RV.frz, Res.bd, Res.bind, h2, gAdd, h12, ofO, Res.sd, setRV, W.put, kindL]
  have q5 : (mSet 3 (mC (.str "BadBelt BadGoal BadPress BadStep BadDeed BadCount TooMany NoWay BadName Known NoRoutine BadText"))) ⟨[.fn 0, .xc x, .own (kindL x.cls), .un, .un], S⟩ = .nx ⟨[.fn 0, .xc x, .own (kindL x.cls), wd, .un], S⟩ := by
    simp [mSet, mC, Res.sd, setRV, W.put, wd]
  have q6 : (mIf (mOr (mBin gNe (mMth "list" gCount (mPk 2) (mCons (mC (.bl true)) mNil)) (mC (.int 1))) (mNot (mIsx 1 "ValueError"))) (mRet (mC (.str "other"))) mNext) ⟨[.fn 0, .xc x, .own (kindL x.cls), wd, .un], S⟩ = .nx ⟨[.fn 0, .xc x, .own (kindL x.cls), wd, .un], S⟩ := by
    simp [mIf, mOr, mBin, mMth, mPk, Res.bd, Res.bind, RV.frz, isK, mCons, mC, mNil, Res.bl, RL.cons, RL.bd, hcnt, ofO, gNe, bO, Res.bb, mNot, mIsx, hc, hv, mF, Res.sb, mNext]
  have q7 : (mSet 4 (mBin gIx (mMth "str" gSplit (mPk 3) (mCons (mC (.str " ")) mNil)) (mMth "list" gIndex (mPk 2) (mCons (mC (.bl true)) mNil)))) ⟨[.fn 0, .xc x, .own (kindL x.cls), wd, .un], S⟩ = .nx ⟨[.fn 0, .xc x, .own (kindL x.cls), wd, .d (.str x.cls)], S⟩ := by
    simp [mSet, mBin, mMth, mPk, Res.bd, Res.bind, RV.frz, isK, mCons, mC, mNil, Res.bl, RL.cons, RL.bd, hsp, hidx, hat, ofO, Res.sd, setRV, W.put, wd]
  unfold kindSuite
  rw [mSeq_nx q1, mSeq_nx q2, mSeq_nx q3, mSeq_nx q4, mSeq_nx q5, mSeq_nx q6, mSeq_nx q7]
/-- what is told of a refusal -/
def kindD (x : Exc) : Option D :=
  if x.cls = "BadBelt" then (match (x.ks.zip x.vs).lookup ("part" : Str), (x.ks.zip x.vs).lookup ("number" : Str) with
    | some p, some n => some (.tup [.str x.cls, p, n])
    | _, _ => none)
  else if x.cls = "BadGoal" ∨ x.cls = "BadPress" ∨ x.cls = "BadStep" ∨ x.cls = "BadDeed" then (match (x.ks.zip x.vs).lookup ("number" : Str) with
    | some n => some (.tup [.str x.cls, n])
    | none => none)
  else if x.cls = "BadText" then (match (x.ks.zip x.vs).lookup ("row" : Str) with
    | some n => some (.tup [.str x.cls, n])
    | none => none)
  else some (.str x.cls)
theorem kind_ex {act : MF} {x : Exc} {d : D} {S S' : List Cell} (h : act [] S = .ex x S') (hc : x.cls ∈ xCls) (hd : kindD x = some d) : bodyG 5 0 (m__law_kind act) [] S = .ok (.d d) S' := by
  have hz : ∀ n : Nat, n ≤ 12 → n ≤ sizeLine := fun n h => Nat.le_trans h (by decide)
  have h2 := hz 2 (by decide)
  have h3 := hz 3 (by decide)
  have h4 := hz 4 (by decide)
  rw [bodyG_at (k := 0) (ds := []) rfl, kind_eq]
  have hu : underX x.cls "DialError" = true := by simp [underX]
  have hk := kind_word (S := S') hc _ rfl
  have hstr : ∀ c ∈ xCls, PyData.strOk c = true := by decide +kernel
  have okw : okE (.str x.cls) = true := okE_of (n := 0) (by simp only [dok]; exact hstr _ hc) (by decide)
  have okt : okE (.tup [.str "BadGoal", .str "BadPress", .str "BadStep", .str "BadDeed"]) = true := okE_of (n := 1) (by simp only [dok, doks]; decide +kernel) (by decide)
  have hin : gIn (.str x.cls) (.tup [.str "BadGoal", .str "BadPress", .str "BadStep", .str "BadDeed"]) = bO (decide (x.cls = "BadGoal" ∨ x.cls = "BadPress" ∨ x.cls = "BadStep" ∨ x.cls = "BadDeed")) := by
    simp [gIn, okw, okt, eqB_str, eq_comm (a := x.cls)]
  have hres : kindSuite ⟨[.fn 0, .xc x, .un, .un, .un], S'⟩ = .rt (.d d) S' := by
    rw [hk]
    unfold kindD at hd
    by_cases c1 : x.cls = "BadBelt"
    · rw [if_pos c1] at hd
      split at hd
      · rename_i p n e1 e2
        cases hd
        have hc1 : ("BadBelt" : Str) ∈ xCls := by rw [← c1]; exact hc
        simp [mSeq, mIf, mBin, mPk, mC, Res.bd, Res.bind, RV.frz, gEq, c1, bO, ofO, Res.sb, mRet, mTup, mCons, mVar, mXf, e1, e2, hc1, mNil, Res.bl, RL.cons, RL.bd, h3, Res.sd]
      · cases hd
    · rw [if_neg c1] at hd
      by_cases c2 : x.cls = "BadGoal" ∨ x.cls = "BadPress" ∨ x.cls = "BadStep" ∨ x.cls = "BadDeed"
      · rw [if_pos c2] at hd
        split at hd
        · rename_i n e1
          cases hd
          have hin2 : gIn (.str x.cls) (.tup [.str "BadGoal", .str "BadPress", .str "BadStep", .str "BadDeed"]) = some (.d (.bl true)) := by rw [hin, decide_eq_true c2]; rfl
          simp [mSeq, mIf, mBin, mPk, mC, Res.bd, Res.bind, RV.frz, gEq, c1, bO, ofO, Res.sb, mNext, mRet, mTup, mCons, mVar, mXf, e1, mNil, Res.bl, RL.cons, RL.bd, h4, h2, hin2, Res.sd, hc]
        · cases hd
      · rw [if_neg c2] at hd
        have hin2 : gIn (.str x.cls) (.tup [.str "BadGoal", .str "BadPress", .str "BadStep", .str "BadDeed"]) = some (.d (.bl false)) := by rw [hin, decide_eq_false c2]; rfl
        by_cases c3 : x.cls = "BadText"
        · rw [if_pos c3] at hd
          split at hd
          · rename_i n e1
            cases hd
            have hc3 : ("BadText" : Str) ∈ xCls := by rw [← c3]; exact hc
            rw [c3] at hin2 c1
            simp [mSeq, mIf, mBin, mPk, mC, Res.bd, Res.bind, RV.frz, gEq, c3, c1, bO, ofO, Res.sb, mNext, mRet, mTup, mCons, mVar, mXf, e1, mNil, Res.bl, RL.cons, RL.bd, h4, h2, hin2, Res.sd, hc3, mIfE, Res.bb]
          · cases hd
        · rw [if_neg c3] at hd
          cases hd
          simp [mSeq, mIf, mBin, mPk, mC, Res.bd, Res.bind, RV.frz, gEq, c1, c3, bO, ofO, Res.sb, mNext, mRet, mTup, mCons, mVar, mNil, Res.bl, RL.cons, RL.bd, h4, h2, hin2, Res.sd, mIfE, Res.bb]
  simp [mTry, mRet, mAct, mCall, mNil, RL.bd, Res.bd, h, Res.sd, hc, goCl, hu, noXc, isXc, W.put, hres, leaveX, RV.plain]
end DB

set_option Elab.async false
set_option linter.all false
set_option maxRecDepth 100000
set_option maxHeartbeats 4000000
namespace DB
open PySem PySem.Spec PyProof.Rows L2
/-! plain: divisor, classes, shares, parted -/
theorem div_turns : ∀ (n a b : Nat) (S : List Cell), b ≤ n → whN (mBin gNe (mPk 1) (mC (.int 0))) (mPar2 0 1 (mVar 1) (mBin gMod (mPk 0) (mPk 1))) (n + 1) ⟨[.d (.int a), .d (.int b)], S⟩ = some (.nx ⟨[.d (.int (Nat.gcd a b)), .d (.int 0)], S⟩)
  | n, a, 0, S, _ => by
    have gn : gNe (.int ((0 : Nat) : Int)) (.int 0) = some (.d (.bl false)) := rfl
    simp [whN, mBin, mPk, mC, Res.bd, Res.bind, RV.frz, gNe, bO, ofO]
  | 0, a, b + 1, S, h => by omega
  | n + 1, a, b + 1, S, h => by
    have hlt : a % (b + 1) < b + 1 := Nat.mod_lt _ (by omega)
    have ih := div_turns n (b + 1) (a % (b + 1)) S (by omega)
    have e0 : ¬ ((b : Int) + 1 = 0) := by omega
    have e1 : (0 : Int) < (b : Int) + 1 := by omega
    have e2 : ((a % (b + 1) : Nat) : Int) = (a : Int) % ((b : Int) + 1) := by simp
    have eg : Nat.gcd (b + 1) (a % (b + 1)) = Nat.gcd a (b + 1) := by
      rw [Nat.gcd_comm a (b + 1), Nat.gcd_rec (b + 1) a, Nat.gcd_comm]
    rw [eg] at ih
    rw [← ih]
    rw [whN]
    simp [mBin, mPk, mC, Res.bd, Res.bind, RV.frz, gNe, bO, ofO, e0, mPar2, mVar, Res.sd, gMod, e1, iO, setRV, W.put, e2]
theorem divisor_ok (a b : Nat) (S : List Cell) : F_divisor [.int a, .int b] S = .ok (.d (.int (Nat.gcd a b))) S := by
  have h := mWhile_of (div_turns b a b S (Nat.le_refl _))
  unfold F_divisor
  rw [bodyF_at (k := 2) (ds := [.int a, .int b]) rfl]
  have e : (⟨[D.int a, D.int b].map RV.d ++ List.replicate (2 - 2) .un, S⟩ : W) = ⟨[.d (.int a), .d (.int b)], S⟩ := rfl
  rw [e]
  unfold m_divisor
  rw [mSeq_nx h]
  rfl
/-- a belt that can be -/
structure Belt where
  ring : Bool
  f : Nat
  w : Nat
  ds : List Nat
  ps : List (Option Nat)
def Belt.many (b : Belt) : Nat := if b.ring then b.ds.length else b.ds.length - b.w + 1
structure Belt.Ok (b : Belt) : Prop where
  f2 : 2 ≤ b.f
  f9 : b.f ≤ 9
  w1 : 1 ≤ b.w
  w12 : b.w ≤ 12
  wl : b.w ≤ b.ds.length
  l12 : b.ds.length ≤ 12
  dl : ∀ d ∈ b.ds, d < b.f
  pl : b.ps.length = b.many
  pr : ∀ p ∈ b.ps, ∀ n, p = some n → 1 ≤ n ∧ n ≤ 99
def ringD (b : Bool) : Str := if b then "ring" else "row"
def priceD (p : Option Nat) : D := match p with
  | some n => .int (n : Nat)
  | none => .non
def Belt.d (b : Belt) : D := .tup [.str (ringD b.ring), .int (b.f : Nat), .int (b.w : Nat), .tup (b.ds.map fun n : Nat => D.int (n : Nat)), .tup (b.ps.map priceD)]
theorem fwGo_none {p : D → Bool} {most : Int} : ∀ (ds : List D) (k : Nat), fwGo p most k ds = none → (∀ d ∈ ds, p d = true) ∧ ∀ i, k ≤ i → i < k + ds.length → (i : Int) ≠ most
  | [], k, _ => ⟨by simp, fun i h1 h2 => by simp at h2; omega⟩
  | d :: ds, k, h => by
    unfold fwGo at h
    split at h
    · cases h
    · rename_i c
      simp only [Bool.or_eq_true, decide_eq_true_eq, Bool.not_eq_true', not_or, Bool.not_eq_false] at c
      obtain ⟨h1, h2⟩ := fwGo_none ds (k + 1) h
      refine ⟨fun e he => ?_, fun i hi1 hi2 => ?_⟩
      · rcases List.mem_cons.mp he with e1 | e1
        · rw [e1]; exact c.2
        · exact h1 e e1
      · by_cases hk : i = k
        · rw [hk]; exact c.1
        · exact h2 i (by omega) (by simp at hi2; omega)
theorem fw_none {p : D → Bool} {x : D} {least most : Int} (h : fw p x least most = none) : ∃ ds, x = .tup ds ∧ (∀ d ∈ ds, p d = true) ∧ least ≤ (ds.length : Int) ∧ ((0 : Int) ≤ most → (ds.length : Int) ≤ most) := by
  obtain ⟨ds, rfl⟩ := fw_tup h
  unfold fw at h
  simp only at h
  split at h
  · cases h
  · rename_i e
    obtain ⟨h1, h2⟩ := fwGo_none ds 0 e
    split at h
    · cases h
    · rename_i c
      refine ⟨ds, rfl, h1, by omega, fun hm => ?_⟩
      by_cases hlt : (ds.length : Int) ≤ most
      · exact hlt
      · have := h2 most.toNat (by omega) (by omega)
        omega
theorem nats_of {hi : Int} : ∀ {ds : List D}, (∀ d ∈ ds, isN d 0 hi = true) → ∃ ns : List Nat, ds = ns.map (fun n : Nat => D.int (n : Nat)) ∧ ∀ n ∈ ns, (n : Int) ≤ hi
  | [], _ => ⟨[], rfl, by simp⟩
  | d :: ds, h => by
    obtain ⟨i, rfl, h0, h1⟩ := isN_inv (h d (List.mem_cons_self ..))
    obtain ⟨ns, e, hn⟩ := nats_of fun x hx => h x (List.mem_cons_of_mem _ hx)
    refine ⟨i.toNat :: ns, ?_, fun n hn2 => ?_⟩
    · rw [List.map_cons, ← e]
      have : ((i.toNat : Nat) : Int) = i := by omega
      rw [this]
    · rcases List.mem_cons.mp hn2 with z | z
      · rw [z]; omega
      · exact hn n z
theorem prices_of : ∀ {ds : List D}, (∀ d ∈ ds, priceOk d = true) → ∃ ns : List (Option Nat), ds = ns.map priceD ∧ ∀ p ∈ ns, ∀ n, p = some n → 1 ≤ n ∧ n ≤ 99
  | [], _ => ⟨[], rfl, by simp⟩
  | d :: ds, h => by
    obtain ⟨ns, e, hn⟩ := prices_of fun x hx => h x (List.mem_cons_of_mem _ hx)
    have hd := h d (List.mem_cons_self ..)
    cases d with
    | non => exact ⟨none :: ns, by rw [List.map_cons, ← e]; rfl, fun p hp n e2 => by
        rcases List.mem_cons.mp hp with z | z
        · rw [z] at e2; cases e2
        · exact hn p z n e2⟩
    | int i =>
      simp only [priceOk, isNon, isN, Bool.false_or, Bool.and_eq_true, decide_eq_true_eq] at hd
      refine ⟨some i.toNat :: ns, ?_, fun p hp n e2 => ?_⟩
      · rw [List.map_cons, ← e]
        have : ((i.toNat : Nat) : Int) = i := by omega
        show _ = D.int (i.toNat : Nat) :: ds
        rw [this]
      · rcases List.mem_cons.mp hp with z | z
        · rw [z] at e2; cases e2; omega
        · exact hn p z n e2
    | _ => simp [priceOk, isNon, isN] at hd
/-- what is let by is a belt -/
theorem belt_of {b : D} (h : badOf b = none) : ∃ B : Belt, B.Ok ∧ b = B.d := by
  unfold badOf at h
  split at h
  · rename_i s f w ds ps
    split at h
    · cases h
    · rename_i c1
      split at h
      · cases h
      · rename_i c2
        split at h
        · cases h
        · rename_i c3
          simp only [Bool.not_eq_false] at c1 c2 c3
          obtain ⟨fi, rfl, f1, f2⟩ := isN_inv c2
          obtain ⟨wi, rfl, w1, w2⟩ := isN_inv c3
          split at h
          · cases h
          · rename_i c4
            obtain ⟨dl, rfl, d1, d2, d3⟩ := fw_none c4
            obtain ⟨ns, rfl, hns⟩ := nats_of d1
            split at h
            · cases h
            · rename_i c5
              have hm : manyOf s (.int wi) (.tup (ns.map fun n : Nat => D.int (n : Nat))) = (if isRing s then (ns.length : Int) else (ns.length : Int) - wi + 1) := by
                simp [manyOf, lenD, intD]
              obtain ⟨pl, rfl, p1, p2, p3⟩ := fw_none c5
              obtain ⟨qs, rfl, hqs⟩ := prices_of p1
              have d2' : wi ≤ (ns.length : Int) := by simpa [intD] using d2
              have d3' : (ns.length : Int) ≤ 12 := by simpa using d3 (by omega)
              have fin : ∀ (r : Bool), s = .str (ringD r) → isRing s = r → ∃ B : Belt, B.Ok ∧ D.tup [s, .int fi, .int wi, .tup (ns.map fun n : Nat => D.int (n : Nat)), .tup (qs.map priceD)] = B.d := by
                intro r hs hr
                rw [hm, hr] at p2 p3
                simp only [List.length_map] at p2 p3
                refine ⟨⟨r, fi.toNat, wi.toNat, ns, qs⟩, ⟨by show 2 ≤ fi.toNat; omega, by show fi.toNat ≤ 9; omega, by show 1 ≤ wi.toNat; omega, by show wi.toNat ≤ 12; omega, by show wi.toNat ≤ ns.length; omega, by show ns.length ≤ 12; omega, fun d hd => ?_, ?_, hqs⟩, ?_⟩
                · have := hns d hd
                  simp only [intD] at this
                  show d < fi.toNat
                  omega
                · show qs.length = if r then ns.length else ns.length - wi.toNat + 1
                  cases r with
                  | true => simp only [if_true] at p2 p3 ⊢; have := p3 (by omega); omega
                  | false => simp only [Bool.false_eq_true, if_false] at p2 p3 ⊢; have := p3 (by omega); omega
                · have e1 : ((fi.toNat : Nat) : Int) = fi := by omega
                  have e2 : ((wi.toNat : Nat) : Int) = wi := by omega
                  simp only [Belt.d, e1, e2, hs]
              cases s with
              | str z =>
                simp only [isRow, Bool.or_eq_true, decide_eq_true_eq] at c1
                rcases c1 with rfl | rfl
                · exact fin false rfl (by show decide (("row" : Str) = "ring") = false; decide +kernel)
                · exact fin true rfl (by show decide (("ring" : Str) = "ring") = true; decide +kernel)
              | _ => simp [isRow] at c1
  · cases h
theorem Belt.ok_bad {b : D} (h : dok 3 b = true) (hb : badOf b = none) (S : List Cell) : F_need_belt [b] S = .ok (.d .non) S := by
  rw [need_belt_ok h, hb]
end DB

set_option Elab.async false
set_option linter.all false
set_option maxRecDepth 100000
set_option maxHeartbeats 4000000
namespace DB
open PySem PySem.Spec PyProof.Rows L2
def Belt.classes (b : Belt) : Nat := if b.ring then Nat.gcd b.w b.ds.length else b.w
def Belt.share (b : Belt) : Nat := Nat.gcd b.f (b.w / b.classes)
theorem ring_ne : ¬ (("row" : Str) = "ring") := by decide +kernel
theorem classes_ok (b : Belt) (S : List Cell) : F_classes_of [b.d] S = .ok (.d (.int (b.classes : Nat))) S := by
  have hd := divisor_ok b.w b.ds.length S
  cases hr : b.ring with
  | true => simp [F_classes_of, bodyF, m_classes_of, mSeq, mAsg, mVar, Res.sd, RV.frz, Belt.d, gTp, gsCons, gNm, gsNil, W.put, mRet, mIfE, mBin, mPk, mC, Res.bd, Res.bind, gEq, hr, ringD, bO, ofO, Res.bb, mCall, mCons, mCB, g1, gLen, mNil, Res.bl, RL.cons, RL.bd, iO, hd, RV.plain, Belt.classes]
  | false => simp [F_classes_of, bodyF, m_classes_of, mSeq, mAsg, mVar, Res.sd, RV.frz, Belt.d, gTp, gsCons, gNm, gsNil, W.put, mRet, mIfE, mBin, mPk, mC, Res.bd, Res.bind, gEq, hr, ringD, ring_ne, bO, ofO, Res.bb, RV.plain, Belt.classes]
theorem Belt.Ok.cl {b : Belt} (h : b.Ok) : 1 ≤ b.classes ∧ b.classes ≤ 12 := by
  have w1 := h.w1
  have w12 := h.w12
  unfold Belt.classes
  split
  · exact ⟨Nat.gcd_pos_of_pos_left _ w1, Nat.le_trans (Nat.gcd_le_left _ w1) w12⟩
  · exact ⟨w1, w12⟩
theorem share_ok {b : Belt} (h : b.Ok) (S : List Cell) : F_share_of [b.d] S = .ok (.d (.int (b.share : Nat))) S := by
  have hc := classes_ok b S
  obtain ⟨c1, c2⟩ := h.cl
  have hd := divisor_ok b.f (b.w / b.classes) S
  have a1 : atI [D.str (ringD b.ring), .int (b.f : Nat), .int (b.w : Nat), .tup (b.ds.map fun n : Nat => D.int (n : Nat)), .tup (b.ps.map priceD)] 1 = some (.int (b.f : Nat)) := rfl
  have a2 : atI [D.str (ringD b.ring), .int (b.f : Nat), .int (b.w : Nat), .tup (b.ds.map fun n : Nat => D.int (n : Nat)), .tup (b.ps.map priceD)] 2 = some (.int (b.w : Nat)) := rfl
  have hq : CDiv (b.w : Int) (b.classes : Int) := ⟨by omega, by omega⟩
  have hdv : ((b.w / b.classes : Nat) : Int) = (b.w : Int) / (b.classes : Int) := by simp
  rw [hdv] at hd
  unfold Belt.d at hc
  simp [F_share_of, bodyF, m_share_of, mRet, mCall, mCons, mBin, mPk, mC, mVar, mNil, Res.bl, RL.cons, RL.bd, Res.bd, Res.bind, RV.frz, Belt.d, gIx, a1, a2, ofO, hc, RV.plain, gDiv, hq, iO, hd, Res.sd, Belt.share]
theorem parted_good {B : Belt} (h : B.Ok) (hk : dok 3 B.d = true) (hb : badOf B.d = none) (S : List Cell) : F_parted [B.d] S = .ok (.d (.tup [.int (B.classes : Nat), .int (B.share : Nat)])) S := by
  have h1 := Belt.ok_bad hk hb S
  have h2 := classes_ok B S
  have h3 := share_ok h S
  have hz : 2 ≤ sizeLine := by decide
  simp [F_parted, bodyF, m_parted, mSeq, mEx, mCall, mCons, mVar, mNil, Res.bl, RL.cons, RL.bd, Res.bd, RV.frz, h1, RV.plain, Res.sd, mRet, mTup, h2, h3, hz]
theorem parted_bad {b : D} {p n : Int} (hk : dok 3 b = true) (hb : badOf b = some (p, n)) (S : List Cell) : F_parted [b] S = .ex ⟨"BadBelt", ["number", "part"], [.int n, .int p]⟩ S := by
  have h1 := need_belt_ok (S := S) hk
  rw [hb] at h1
  simp [F_parted, bodyF, m_parted, mSeq, mEx, mCall, mCons, mVar, mNil, Res.bl, RL.cons, RL.bd, RV.frz, h1, Res.sd]
end DB

set_option Elab.async false
set_option linter.all false
set_option maxRecDepth 100000
set_option maxHeartbeats 4000000
namespace DB
open PySem PySem.Spec PyProof.Rows L2
/-! helpers -/
theorem lcL_map {α : Type} {vs : List Nat} {g : MG} {t e : ME} {w : W} (inp out : α → D) (hv : okVs w.env vs = true) : ∀ (xs : List α) (acc : List D),
    (∀ a ∈ xs, ∃ w1 w2 rv w3, g (inp a) { w with env := wipeE w.env vs } = some w1 ∧ t w1 = .ok (.d (.bl true)) w2 ∧ e w2 = .ok rv w3 ∧ rv.frz = some (out a) ∧ mixE w.env w3.env vs = w.env ∧ w3.S = w.S) →
    acc.length + xs.length ≤ sizeLine → lcL vs g t e (xs.map inp) acc w = .ok (.own (acc ++ xs.map out)) w
  | [], acc, _, _ => by simp [lcL]
  | d :: ds, acc, h, hl => by
    obtain ⟨w1, w2, rv, w3, e1, e2, e3, e4, e5, e6⟩ := h d (List.mem_cons_self ..)
    have ih := lcL_map inp out hv ds (acc ++ [out d]) (fun x hx => h x (List.mem_cons_of_mem _ hx)) (by simp at hl ⊢; omega)
    have hlt : acc.length < sizeLine := by simp at hl; omega
    rw [List.map_cons]
    unfold lcL
    rw [if_pos hv, e1]
    simp only [e2, e3, Res.bd, Res.bind, e4, if_pos hlt, e5, e6]
    rw [ih, List.append_assoc]; rfl
theorem mLc_map {α : Type} {vs : List Nat} {mi : MA} {g : MG} {t e : ME} {w0 w : W} (inp out : α → D) (xs : List α) (hi : mi w0 = .ok (xs.map inp) w) (hv : okVs w.env vs = true)
    (h : ∀ a ∈ xs, ∃ w1 w2 rv w3, g (inp a) { w with env := wipeE w.env vs } = some w1 ∧ t w1 = .ok (.d (.bl true)) w2 ∧ e w2 = .ok rv w3 ∧ rv.frz = some (out a) ∧ mixE w.env w3.env vs = w.env ∧ w3.S = w.S) (hl : xs.length ≤ sizeLine) :
    mLc vs mi g t e w0 = .ok (.own (xs.map out)) w := by
  unfold mLc
  rw [hi]
  have q := lcL_map (g := g) (t := t) (e := e) inp out hv xs [] h (by simpa using hl)
  exact q
theorem mCons_ok {m : ME} {r : MA} {w w1 w2 : W} {rv : RV} {x : D} {ds : List D} (h1 : m w = .ok rv w1) (hf : rv.frz = some x) (h2 : r w1 = .ok ds w2) : mCons m r w = .ok (x :: ds) w2 := by
  unfold mCons; rw [h1]; unfold Res.bl; simp only [hf, h2]; rfl
theorem mLst_ok {r : MA} {w w1 : W} {ds : List D} (h : r w = .ok ds w1) (hl : ds.length ≤ sizeLine) : mLst r w = .ok (.own ds) w1 := by
  unfold mLst; rw [h]; exact if_pos hl
theorem mTup_ok {r : MA} {w w1 : W} {ds : List D} (h : r w = .ok ds w1) (hl : ds.length ≤ sizeLine) : mTup r w = .ok (.d (.tup ds)) w1 := by
  unfold mTup; rw [h]; exact if_pos hl
theorem mBin_ok {g : D → D → Option RV} {a b : ME} {w w1 w2 : W} {u v rv : RV} {x y : D} (h1 : a w = .ok u w1) (hu : u.frz = some x) (h2 : b w1 = .ok v w2) (hv : v.frz = some y) (hg : g x y = some rv) : mBin g a b w = .ok rv w2 := by
  unfold mBin; rw [h1]; simp only [Res.bd, Res.bind, hu, h2, hv, hg, ofO]
theorem mCB_ok {g : List D → Option RV} {r : MA} {w w1 : W} {ds : List D} {rv : RV} (h : r w = .ok ds w1) (hg : g ds = some rv) : mCB g r w = .ok rv w1 := by
  unfold mCB; rw [h]; simp only [RL.bd, hg, ofO]
theorem mMth_ok {T : String} {g : D → List D → Option RV} {m : ME} {r : MA} {w w1 w2 : W} {u rv : RV} {x : D} {ds : List D} (h : m w = .ok u w1) (hu : u.frz = some x) (hk : isK T x = true) (hr : r w1 = .ok ds w2) (hg : g x ds = some rv) : mMth T g m r w = .ok rv w2 := by
  unfold mMth; rw [h]; simp only [Res.bd, Res.bind, hu, hk, if_true, hr, RL.bd, hg, ofO]
theorem mSet_ok {i : Nat} {m : ME} {w w1 : W} {rv : RV} (h : m w = .ok rv w1) (hi : i < w1.env.length) : mSet i m w = .nx (w1.put i rv) := by
  unfold mSet; rw [h]; exact if_pos hi
theorem mRet_ok {m : ME} {w w1 : W} {rv : RV} (h : m w = .ok rv w1) : mRet m w = .rt rv w1.S := by
  unfold mRet; rw [h]; rfl
theorem mCall_ok {F : MF} {r : MA} {w w1 : W} {ds : List D} {rv : RV} {S' : List Cell} (h : r w = .ok ds w1) (hF : F ds w1.S = .ok rv S') (hp : rv.plain = true) : mCall F r w = .ok rv { w1 with S := S' } := by
  unfold mCall; rw [h]; simp only [RL.bd, hF, hp, if_true]
end DB

set_option Elab.async false
set_option linter.all false
set_option maxRecDepth 100000
set_option maxHeartbeats 4000000
namespace DB
open PySem PySem.Spec PyProof.Rows L2
/-! plain: what is drawn -/
theorem mNil_ok {w : W} : mNil w = .ok [] w := rfl
theorem drawn_eq : F__law_drawn = F_drawn := rfl
theorem draw_at {i n : Nat} {m : ME} {w : W} {k : Int} {ns : List Int} (hc : w.env[i]? = some (.d (.cell n))) (hm : m w = .ok (.d (.int k)) w) (h0 : 0 < k) (h1 : k < 1073741824) (hS : SOK ns w.S n) :
    ∃ v S', mCall F__law_drawn (mCons (mVar i) (mCons m mNil)) w = .ok (.d (.int v)) { w with S := S' } ∧ 0 ≤ v ∧ v < k ∧ SOK ns S' n := by
  obtain ⟨v, c, e, a, b, s⟩ := drawn_ok hS h0 h1
  refine ⟨v, w.S.set n c, ?_, a, b, s⟩
  have hv : mVar i w = .ok (.d (.cell n)) w := by unfold mVar; rw [hc]
  rw [drawn_eq]
  exact mCall_ok (mCons_ok hv rfl (mCons_ok hm rfl mNil_ok)) e rfl
theorem lcL_st {vs : List Nat} {g : MG} {t e : ME} {env : List RV} (P : D → Prop) (J : List Cell → Prop) (hv : okVs env vs = true) : ∀ (ds acc : List D) (S : List Cell), J S →
    (∀ d ∈ ds, ∀ S, J S → ∃ w1 w2 rv x w3, g d ⟨wipeE env vs, S⟩ = some w1 ∧ t w1 = .ok (.d (.bl true)) w2 ∧ e w2 = .ok rv w3 ∧ rv.frz = some x ∧ P x ∧ mixE env w3.env vs = env ∧ J w3.S) →
    acc.length + ds.length ≤ sizeLine → ∃ xs S', lcL vs g t e ds acc ⟨env, S⟩ = .ok (.own (acc ++ xs)) ⟨env, S'⟩ ∧ xs.length = ds.length ∧ (∀ x ∈ xs, P x) ∧ J S'
  | [], acc, S, hJ, _, _ => ⟨[], S, by simp [lcL], rfl, by simp, hJ⟩
  | d :: ds, acc, S, hJ, h, hl => by
    obtain ⟨w1, w2, rv, x, w3, e1, e2, e3, e4, e5, e6, e7⟩ := h d (List.mem_cons_self ..) S hJ
    obtain ⟨xs, S', ih, l, p, j⟩ := lcL_st P J hv ds (acc ++ [x]) w3.S e7 (fun y hy => h y (List.mem_cons_of_mem _ hy)) (by simp at hl ⊢; omega)
    have hlt : acc.length < sizeLine := by simp at hl; omega
    refine ⟨x :: xs, S', ?_, by simp [l], fun y hy => (List.mem_cons.mp hy).elim (fun z => by rw [z]; exact e5) (p y), j⟩
    unfold lcL
    rw [if_pos hv, e1]
    simp only [e2, e3, Res.bd, Res.bind, e4, if_pos hlt, e6]
    rw [ih, List.append_assoc]; rfl
theorem mLc_st {vs : List Nat} {mi : MA} {g : MG} {t e : ME} {w0 : W} {env : List RV} {S : List Cell} {ds : List D} (P : D → Prop) (J : List Cell → Prop) (hi : mi w0 = .ok ds ⟨env, S⟩) (hv : okVs env vs = true) (hJ : J S)
    (h : ∀ d ∈ ds, ∀ S, J S → ∃ w1 w2 rv x w3, g d ⟨wipeE env vs, S⟩ = some w1 ∧ t w1 = .ok (.d (.bl true)) w2 ∧ e w2 = .ok rv w3 ∧ rv.frz = some x ∧ P x ∧ mixE env w3.env vs = env ∧ J w3.S) (hl : ds.length ≤ sizeLine) :
    ∃ xs S', mLc vs mi g t e w0 = .ok (.own xs) ⟨env, S'⟩ ∧ xs.length = ds.length ∧ (∀ x ∈ xs, P x) ∧ J S' := by
  obtain ⟨xs, S', e1, l, p, j⟩ := lcL_st (g := g) (t := t) (e := e) P J hv ds [] S hJ h (by simpa using hl)
  refine ⟨xs, S', ?_, l, p, j⟩
  unfold mLc
  rw [hi]
  simpa using e1
theorem belt_drawn {ns : List Int} {S : List Cell} {most figs : Int} (hS : SOK ns S 0) (m0 : 1 ≤ most) (m1 : most ≤ 12) (f0 : 2 ≤ figs) (f1 : figs ≤ 9) : ∃ (B : Belt) (S' : List Cell), F__law_belt [.cell 0, .int most, .int figs] S = .ok (.d B.d) S' ∧ B.Ok ∧ SOK ns S' 0 := by
  have hz : ∀ n : Nat, n ≤ 1000 → n ≤ sizeLine := fun n h => Nat.le_trans h (by decide)
  have z2 := hz 2 (by decide)
  have z3 := hz 3 (by decide)
  have z5 := hz 5 (by decide)
  have z0 := hz 0 (by decide)
  -- shape, figures
  obtain ⟨v1, S1, d1, a1, b1, h1⟩ := draw_at (i := 0) (n := 0) (m := mC (.int 3)) (w := ⟨[.d (.cell 0), .d (.int most), .d (.int figs), .un, .un, .un, .un, .un, .un, .un, .un], S⟩) rfl rfl (by decide) (by decide) hS
  obtain ⟨v2, S2, d2, a2, b2, h2⟩ := draw_at (i := 0) (n := 0) (m := mBin gSub (mPk 2) (mC (.int 1))) (w := ⟨[.d (.cell 0), .d (.int most), .d (.int figs), .un, .un, .un, .un, .un, .un, .un, .un], S1⟩) rfl (k := figs - 1) rfl (by omega) (by omega) h1
  have hr : ∃ r : Bool, gIx (.lst [.str "row", .str "ring", .str "ring"]) (.int v1) = some (.d (.str (ringD r))) := by
    have c : v1 = 0 ∨ v1 = 1 ∨ v1 = 2 := by omega
    rcases c with rfl | rfl | rfl
    · exact ⟨false, rfl⟩
    · exact ⟨true, rfl⟩
    · exact ⟨true, rfl⟩
  obtain ⟨r, er⟩ := hr
  have q1 : (mAsg (gTp 2 (gsCons (gNm 3) (gsCons (gNm 2) gsNil))) (mTup (mCons (mBin gIx (mLst (mCons (mC (.str "row")) (mCons (mC (.str "ring")) (mCons (mC (.str "ring")) mNil)))) (mCall F__law_drawn (mCons (mVar 0) (mCons (mC (.int 3)) mNil)))) (mCons (mBin gAdd (mC (.int 2)) (mCall F__law_drawn (mCons (mVar 0) (mCons (mBin gSub (mPk 2) (mC (.int 1))) mNil)))) mNil))))
      ⟨[.d (.cell 0), .d (.int most), .d (.int figs), .un, .un, .un, .un, .un, .un, .un, .un], S⟩ = .nx ⟨[.d (.cell 0), .d (.int most), .d (.int (2 + v2)), .d (.str (ringD r)), .un, .un, .un, .un, .un, .un, .un], S2⟩ := by
    have p1 := mBin_ok (mLst_ok (r := mCons (mC (.str "row")) (mCons (mC (.str "ring")) (mCons (mC (.str "ring")) mNil))) rfl z3) rfl d1 rfl er
    have p2 := mBin_ok (a := mC (.int 2)) rfl rfl d2 rfl (show gAdd (.int 2) (.int v2) = some (.d (.int (2 + v2))) from rfl)
    have p3 := mTup_ok (mCons_ok p1 rfl (mCons_ok p2 rfl mNil_ok)) z2
    unfold mAsg
    rw [p3]
    rfl
  -- many
  obtain ⟨v3, S3, d3, a3, b3, h3⟩ := draw_at (i := 0) (n := 0) (m := mVar 1) (w := ⟨[.d (.cell 0), .d (.int most), .d (.int (2 + v2)), .d (.str (ringD r)), .un, .un, .un, .un, .un, .un, .un], S2⟩) rfl (k := most) rfl (by omega) (by omega) h2
  let E (wide dials rare dear prices k : RV) : List RV := [.d (.cell 0), .d (.int most), .d (.int (2 + v2)), .d (.str (ringD r)), .d (.int (1 + v3)), wide, dials, rare, dear, prices, k]
  have q2 : mSet 4 (mBin gAdd (mC (.int 1)) (mCall F__law_drawn (mCons (mVar 0) (mCons (mVar 1) mNil)))) ⟨[.d (.cell 0), .d (.int most), .d (.int (2 + v2)), .d (.str (ringD r)), .un, .un, .un, .un, .un, .un, .un], S2⟩ = .nx ⟨E .un .un .un .un .un .un, S3⟩ :=
    mSet_ok (i := 4) (mBin_ok (a := mC (.int 1)) rfl rfl d3 rfl (show gAdd (.int 1) (.int v3) = some (.d (.int (1 + v3))) from rfl)) (by show 4 < 11; decide)
  -- wide
  obtain ⟨v4, S4, d4, a4, b4, h4⟩ := draw_at (i := 0) (n := 0) (m := mVar 4) (w := ⟨E .un .un .un .un .un .un, S3⟩) rfl (k := 1 + v3) rfl (by omega) (by omega) h3
  obtain ⟨v5, S5, d5, a5, b5, h5⟩ := draw_at (i := 0) (n := 0) (m := mCB (g2 gMin2) (mCons (mPk 4) (mCons (mC (.int 4)) mNil))) (w := ⟨E .un .un .un .un .un .un, S4⟩) rfl (k := if 4 < 1 + v3 then 4 else 1 + v3) rfl (by split <;> omega) (by split <;> omega) h4
  obtain ⟨v6, S6, d6, a6, b6, h6⟩ := draw_at (i := 0) (n := 0) (m := mC (.int 8)) (w := ⟨E .un .un .un .un .un .un, S5⟩) rfl rfl (by decide) (by decide) h5
  have hw : ∃ wd : Int, gIx (.lst [.int (1 + v4), .int (1 + v5), .int (1 + v3)]) (.int (v6 / 3)) = some (.d (.int wd)) ∧ 1 ≤ wd ∧ wd ≤ 1 + v3 := by
    have c : v6 / 3 = 0 ∨ v6 / 3 = 1 ∨ v6 / 3 = 2 := by omega
    have b5' : v5 < 1 + v3 := by
      split at b5 <;> omega
    rcases c with c | c | c <;> rw [c]
    · exact ⟨1 + v4, rfl, by omega, by omega⟩
    · exact ⟨1 + v5, rfl, by omega, by omega⟩
    · exact ⟨1 + v3, rfl, by omega, by omega⟩
  obtain ⟨wd, ew, w1, w2⟩ := hw
  have q3 : (mSet 5 (mBin gIx (mLst (mCons (mBin gAdd (mC (.int 1)) (mCall F__law_drawn (mCons (mVar 0) (mCons (mVar 4) mNil)))) (mCons (mBin gAdd (mC (.int 1)) (mCall F__law_drawn (mCons (mVar 0) (mCons (mCB (g2 gMin2) (mCons (mPk 4) (mCons (mC (.int 4)) mNil))) mNil)))) (mCons (mVar 4) mNil)))) (mBin gDiv (mCall F__law_drawn (mCons (mVar 0) (mCons (mC (.int 8)) mNil))) (mC (.int 3))))) ⟨E .un .un .un .un .un .un, S3⟩ = .nx ⟨E (.d (.int wd)) .un .un .un .un .un, S6⟩ := by
    have p1 := mBin_ok (a := mC (.int 1)) rfl rfl d4 rfl (show gAdd (.int 1) (.int v4) = some (.d (.int (1 + v4))) from rfl)
    have p2 := mBin_ok (a := mC (.int 1)) rfl rfl d5 rfl (show gAdd (.int 1) (.int v5) = some (.d (.int (1 + v5))) from rfl)
    have p3 : mVar 4 ⟨E .un .un .un .un .un .un, S5⟩ = .ok (.d (.int (1 + v3))) ⟨E .un .un .un .un .un .un, S5⟩ := rfl
    have p4 := mLst_ok (mCons_ok p1 rfl (mCons_ok p2 rfl (mCons_ok p3 rfl mNil_ok))) z3
    have p5 := mBin_ok (g := gDiv) d6 rfl (b := mC (.int 3)) rfl rfl (show (if CDiv v6 3 then iO (v6 / 3) else none) = some (.d (.int (v6 / 3))) from if_pos ⟨by decide, by decide⟩)
    exact mSet_ok (mBin_ok p4 rfl p5 rfl ew) (by show 5 < 11; decide)
  -- dials
  have hrl : (rngD 0 (1 + v3)).length = (1 + v3).toNat := by simp [rngD]
  have hrg : mRng1 (mCons (mPk 4) mNil) ⟨E (.d (.int wd)) .un .un .un .un .un, S6⟩ = .ok (rngD 0 (1 + v3)) ⟨E (.d (.int wd)) .un .un .un .un .un, S6⟩ := mRng1_at (j := 1 + v3) rfl (by omega) (by omega)
  obtain ⟨xs, S7, d7, l7, p7, h7⟩ := mLc_st (vs := [10]) (g := gNm 10) (t := mT) (e := mCall F__law_drawn (mCons (mVar 0) (mCons (mVar 2) mNil))) (fun x => isN x 0 (1 + v2) = true) (fun S => SOK ns S 0) hrg rfl h6 (fun d _ S hS => by
    obtain ⟨v, S', dv, av, bv, hv⟩ := draw_at (i := 0) (n := 0) (m := mVar 2) (w := ⟨E (.d (.int wd)) .un .un .un .un (.d d), S⟩) rfl (k := 2 + v2) rfl (by omega) (by omega) hS
    refine ⟨⟨E (.d (.int wd)) .un .un .un .un (.d d), S⟩, ⟨E (.d (.int wd)) .un .un .un .un (.d d), S⟩, _, .int v, _, rfl, rfl, dv, rfl, ?_, rfl, hv⟩
    simp only [isN, Bool.and_eq_true, decide_eq_true_eq]
    omega) (by rw [hrl]; exact hz _ (by omega))
  have q4 : (mSet 6 (mCB (g1 gTuple) (mCons (mLc [10] (mRng1 (mCons (mPk 4) mNil)) (gNm 10) mT (mCall F__law_drawn (mCons (mVar 0) (mCons (mVar 2) mNil)))) mNil))) ⟨E (.d (.int wd)) .un .un .un .un .un, S6⟩ = .nx ⟨E (.d (.int wd)) (.d (.tup xs)) .un .un .un .un, S7⟩ :=
    mSet_ok (mCB_ok (mCons_ok d7 rfl mNil_ok) (show g1 gTuple [.lst xs] = some (.d (.tup xs)) from rfl)) (by show 6 < 11; decide)
  -- prices
  obtain ⟨v8, S8, d8, a8, b8, h8⟩ := draw_at (i := 0) (n := 0) (m := mC (.int 3)) (w := ⟨E (.d (.int wd)) (.d (.tup xs)) .un .un .un .un, S7⟩) rfl rfl (by decide) (by decide) h7
  obtain ⟨v9, S9, d9, a9, b9, h9⟩ := draw_at (i := 0) (n := 0) (m := mC (.int 2)) (w := ⟨E (.d (.int wd)) (.d (.tup xs)) .un .un .un .un, S8⟩) rfl rfl (by decide) (by decide) h8
  have hra : ∃ ra : Int, gIx (.lst [.int 4, .int 30, .int 90]) (.int v8) = some (.d (.int ra)) ∧ 0 < ra ∧ ra ≤ 90 := by
    have c : v8 = 0 ∨ v8 = 1 ∨ v8 = 2 := by omega
    rcases c with rfl | rfl | rfl
    · exact ⟨4, rfl, by decide, by decide⟩
    · exact ⟨30, rfl, by decide, by decide⟩
    · exact ⟨90, rfl, by decide, by decide⟩
  obtain ⟨ra, era, r0, r1⟩ := hra
  have hde : ∃ de : Int, gIx (.lst [.int 3, .int 99]) (.int v9) = some (.d (.int de)) ∧ 0 < de ∧ de ≤ 99 := by
    have c : v9 = 0 ∨ v9 = 1 := by omega
    rcases c with rfl | rfl
    · exact ⟨3, rfl, by decide, by decide⟩
    · exact ⟨99, rfl, by decide, by decide⟩
  obtain ⟨de, ede, e0, e1⟩ := hde
  have q5 : (mPar3 7 8 9 (mBin gIx (mLst (mCons (mC (.int 4)) (mCons (mC (.int 30)) (mCons (mC (.int 90)) mNil)))) (mCall F__law_drawn (mCons (mVar 0) (mCons (mC (.int 3)) mNil)))) (mBin gIx (mLst (mCons (mC (.int 3)) (mCons (mC (.int 99)) mNil))) (mCall F__law_drawn (mCons (mVar 0) (mCons (mC (.int 2)) mNil)))) (mLst mNil)) ⟨E (.d (.int wd)) (.d (.tup xs)) .un .un .un .un, S7⟩ =
      .nx ⟨E (.d (.int wd)) (.d (.tup xs)) (.d (.int ra)) (.d (.int de)) (.own []) .un, S9⟩ := by
    have p1 := mBin_ok (mLst_ok (w := ⟨E (.d (.int wd)) (.d (.tup xs)) .un .un .un .un, S7⟩) (r := mCons (mC (.int 4)) (mCons (mC (.int 30)) (mCons (mC (.int 90)) mNil))) rfl z3) rfl d8 rfl era
    have p2 := mBin_ok (mLst_ok (w := ⟨E (.d (.int wd)) (.d (.tup xs)) .un .un .un .un, S8⟩) (r := mCons (mC (.int 3)) (mCons (mC (.int 99)) mNil)) rfl z2) rfl d9 rfl ede
    have p3 := mLst_ok (w := ⟨E (.d (.int wd)) (.d (.tup xs)) .un .un .un .un, S9⟩) (r := mNil) rfl z0
    unfold mPar3
    rw [p1]
    simp only [Res.sd]
    rw [p2]
    simp only [Res.sd]
    rw [p3]
    rfl
  let cnt : Int := if r then 1 + v3 else 1 + v3 - wd + 1
  have hc0 : 0 ≤ cnt ∧ cnt ≤ 12 := by
    show 0 ≤ (if r then 1 + v3 else 1 + v3 - wd + 1) ∧ (if r then 1 + v3 else 1 + v3 - wd + 1) ≤ 12
    cases r <;> simp <;> omega
  have hcl : (rngD 0 cnt).length = cnt.toNat := by simp [rngD]
  have hri : mRng1 (mCons (mIfE (mBin gEq (mPk 3) (mC (.str "ring"))) (mVar 4) (mBin gAdd (mBin gSub (mPk 4) (mPk 5)) (mC (.int 1)))) mNil) ⟨E (.d (.int wd)) (.d (.tup xs)) (.d (.int ra)) (.d (.int de)) (.own []) .un, S9⟩ = .ok (rngD 0 cnt) ⟨E (.d (.int wd)) (.d (.tup xs)) (.d (.int ra)) (.d (.int de)) (.own []) .un, S9⟩ := by
    refine mRng1_at (j := cnt) ?_ (by omega) (by omega)
    cases r with
    | true => rfl
    | false => rfl
  let body : MS := mApp 9 (mIfE (mBin gEq (mCall F__law_drawn (mCons (mVar 0) (mCons (mVar 7) mNil))) (mC (.int 0))) (mC .non) (mBin gAdd (mC (.int 1)) (mCall F__law_drawn (mCons (mVar 0) (mCons (mVar 8) mNil)))))
  obtain ⟨wf, ef, ps, k, Sf, rfl, lp, pp, hf⟩ := forL_inv (g := gNm 10) (b := body) (fun i w => ∃ ps k S', w = ⟨E (.d (.int wd)) (.d (.tup xs)) (.d (.int ra)) (.d (.int de)) (.own ps) k, S'⟩ ∧ ps.length = i ∧ (∀ p ∈ ps, priceOk p = true) ∧ SOK ns S' 0) (rngD 0 cnt) 0 ⟨E (.d (.int wd)) (.d (.tup xs)) (.d (.int ra)) (.d (.int de)) (.own []) .un, S9⟩ ⟨[], .un, S9, rfl, rfl, by simp, h9⟩ (by
    rintro i d hi w ⟨ps, k, S', rfl, lp, pp, hS'⟩
    have hi12 : i < 12 := by
      have := (List.getElem?_eq_some_iff.mp hi).1
      rw [hcl] at this
      omega
    have hlt : ps.length < sizeLine := Nat.lt_of_lt_of_le (by omega : ps.length < 13) (hz 13 (by decide))
    obtain ⟨u, T1, du, au, bu, hu⟩ := draw_at (i := 0) (n := 0) (m := mVar 7) (w := ⟨E (.d (.int wd)) (.d (.tup xs)) (.d (.int ra)) (.d (.int de)) (.own ps) (.d d), S'⟩) rfl (k := ra) rfl r0 (by omega) hS'
    by_cases cu : u = 0
    · refine ⟨⟨E (.d (.int wd)) (.d (.tup xs)) (.d (.int ra)) (.d (.int de)) (.own ps) (.d d), S'⟩, ⟨E (.d (.int wd)) (.d (.tup xs)) (.d (.int ra)) (.d (.int de)) (.own (ps ++ [.non])) (.d d), T1⟩, rfl, .inl ?_, ps ++ [.non], .d d, T1, rfl, by simp; omega, ?_, hu⟩
      · have p1 := mBin_ok du rfl (b := mC (.int 0)) rfl rfl (show gEq (.int u) (.int 0) = some (.d (.bl true)) by rw [cu]; rfl)
        have p2 : mIfE (mBin gEq (mCall F__law_drawn (mCons (mVar 0) (mCons (mVar 7) mNil))) (mC (.int 0))) (mC .non) (mBin gAdd (mC (.int 1)) (mCall F__law_drawn (mCons (mVar 0) (mCons (mVar 8) mNil)))) ⟨E (.d (.int wd)) (.d (.tup xs)) (.d (.int ra)) (.d (.int de)) (.own ps) (.d d), S'⟩ = .ok (.d .non) ⟨E (.d (.int wd)) (.d (.tup xs)) (.d (.int ra)) (.d (.int de)) (.own ps) (.d d), T1⟩ := by
          unfold mIfE; rw [p1]; rfl
        show body _ = _
        simp only [body, mApp]
        rw [p2]
        simp [hasOwn, appRS, Res.sdd, Res.sd, RV.frz, E, hlt, W.put]
      · intro p hp
        rcases List.mem_append.mp hp with z | z
        · exact pp p z
        · rw [List.mem_singleton.mp z]; rfl
    · obtain ⟨t, T2, dt, at', bt, ht⟩ := draw_at (i := 0) (n := 0) (m := mVar 8) (w := ⟨E (.d (.int wd)) (.d (.tup xs)) (.d (.int ra)) (.d (.int de)) (.own ps) (.d d), T1⟩) rfl (k := de) rfl e0 (by omega) hu
      refine ⟨⟨E (.d (.int wd)) (.d (.tup xs)) (.d (.int ra)) (.d (.int de)) (.own ps) (.d d), S'⟩, ⟨E (.d (.int wd)) (.d (.tup xs)) (.d (.int ra)) (.d (.int de)) (.own (ps ++ [.int (1 + t)])) (.d d), T2⟩, rfl, .inl ?_, ps ++ [.int (1 + t)], .d d, T2, rfl, by simp; omega, ?_, ht⟩
      · have p1 := mBin_ok du rfl (b := mC (.int 0)) rfl rfl (show gEq (.int u) (.int 0) = some (.d (.bl false)) by show bO (decide (u = 0)) = _; rw [decide_eq_false cu]; rfl)
        have p3 := mBin_ok (a := mC (.int 1)) rfl rfl dt rfl (show gAdd (.int 1) (.int t) = some (.d (.int (1 + t))) from rfl)
        have p2 : mIfE (mBin gEq (mCall F__law_drawn (mCons (mVar 0) (mCons (mVar 7) mNil))) (mC (.int 0))) (mC .non) (mBin gAdd (mC (.int 1)) (mCall F__law_drawn (mCons (mVar 0) (mCons (mVar 8) mNil)))) ⟨E (.d (.int wd)) (.d (.tup xs)) (.d (.int ra)) (.d (.int de)) (.own ps) (.d d), S'⟩ = .ok (.d (.int (1 + t))) ⟨E (.d (.int wd)) (.d (.tup xs)) (.d (.int ra)) (.d (.int de)) (.own ps) (.d d), T2⟩ := by
          unfold mIfE; rw [p1]; exact p3
        show body _ = _
        simp only [body, mApp]
        rw [p2]
        simp [hasOwn, appRS, Res.sdd, Res.sd, RV.frz, E, hlt, W.put]
      · intro p hp
        rcases List.mem_append.mp hp with z | z
        · exact pp p z
        · rw [List.mem_singleton.mp z]
          simp only [priceOk, isN, Bool.or_eq_true, Bool.and_eq_true, decide_eq_true_eq]
          exact .inr (by omega))
  have q6 := mFor_at (g := gNm 10) (b := body) hri
  rw [ef] at q6
  obtain ⟨nd, rfl, hnd⟩ := nats_of p7
  obtain ⟨qs, rfl, hqs⟩ := prices_of pp
  rw [hcl] at lp
  simp only [List.length_map] at lp l7
  rw [hrl] at l7
  refine ⟨⟨r, (2 + v2).toNat, wd.toNat, nd, qs⟩, Sf, ?_, ⟨by show 2 ≤ (2 + v2).toNat; omega, by show (2 + v2).toNat ≤ 9; omega, by show 1 ≤ wd.toNat; omega, by show wd.toNat ≤ 12; omega, by show wd.toNat ≤ nd.length; omega, by show nd.length ≤ 12; omega, fun d hd => ?_, ?_, hqs⟩, hf⟩
  · have p1 : mTup (mCons (mVar 3) (mCons (mVar 2) (mCons (mVar 5) (mCons (mVar 6) (mCons (mCB (g1 gTuple) (mCons (mPk 9) mNil)) mNil))))) ⟨E (.d (.int wd)) (.d (.tup (nd.map fun n : Nat => D.int (n : Nat)))) (.d (.int ra)) (.d (.int de)) (.own (qs.map priceD)) k, Sf⟩ =
        .ok (.d (.tup [.str (ringD r), .int (2 + v2), .int wd, .tup (nd.map fun n : Nat => D.int (n : Nat)), .tup (qs.map priceD)])) ⟨E (.d (.int wd)) (.d (.tup (nd.map fun n : Nat => D.int (n : Nat)))) (.d (.int ra)) (.d (.int de)) (.own (qs.map priceD)) k, Sf⟩ :=
      mTup_ok (mCons_ok rfl rfl (mCons_ok rfl rfl (mCons_ok rfl rfl (mCons_ok rfl rfl (mCons_ok (rv := .d (.tup (qs.map priceD))) rfl rfl mNil_ok))))) z5
    have q7 := mRet_ok p1
    unfold F__law_belt
    rw [bodyF_at (k := 3) (ds := [.cell 0, .int most, .int figs]) rfl]
    unfold m__law_belt
    have en : (⟨[D.cell 0, .int most, .int figs].map RV.d ++ List.replicate (11 - 3) .un, S⟩ : W) = ⟨[.d (.cell 0), .d (.int most), .d (.int figs), .un, .un, .un, .un, .un, .un, .un, .un], S⟩ := rfl
    rw [en, mSeq_nx q1, mSeq_nx q2, mSeq_nx q3, mSeq_nx q4, mSeq_nx q5, mSeq_nx q6, q7]
    have e2 : (((2 + v2).toNat : Nat) : Int) = 2 + v2 := by omega
    have e3 : ((wd.toNat : Nat) : Int) = wd := by omega
    simp only [Belt.d, e2, e3]
    rfl
  · have := hnd d hd
    show d < (2 + v2).toNat
    omega
  · show qs.length = if r then nd.length else nd.length - wd.toNat + 1
    have hcnt : cnt = if r then 1 + v3 else 1 + v3 - wd + 1 := rfl
    cases r with
    | true => simp only [if_true] at hcnt ⊢; omega
    | false => simp only [Bool.false_eq_true, if_false] at hcnt ⊢; omega
end DB

set_option Elab.async false
set_option linter.all false
set_option maxRecDepth 100000
set_option maxHeartbeats 4000000
namespace DB
open PySem PySem.Spec PyProof.Rows L2
/-! plain: presses -/
theorem atI_nat {α : Type} (xs : List α) (i : Nat) : atI xs (i : Int) = xs[i]? := by
  unfold atI ixN
  have h0 : (0 : Int) ≤ (i : Int) := by omega
  rw [if_pos h0]
  by_cases h : (i : Int) < xs.length
  · rw [if_pos h]
    show xs[(i : Int).toNat]? = _
    simp
  · rw [if_neg h]
    have : xs.length ≤ i := by omega
    rw [List.getElem?_eq_none this]; rfl
theorem forL_nx {g : MG} {b : MS} {d : D} {ds : List D} {w w1 w2 : W} (h1 : g d w = some w1) (h2 : b w1 = .nx w2) : forL g b (d :: ds) w = forL g b ds w2 := by
  show (match g d w with
    | none => RS.bad
    | some w1 => match b w1 with
      | .nx w2 => forL g b ds w2
      | .ct w2 => forL g b ds w2
      | .bk w2 => .nx w2
      | r => r) = _
  rw [h1]; simp only [h2]
theorem hasOwn_of {w : W} {i : Nat} {ds : List D} (h : w.env[i]? = some (.own ds)) : hasOwn w i = true := by unfold hasOwn; rw [h]
theorem mAugIx_ok {i n : Nat} {j : Int} {g : D → D → Option RV} {mk m : ME} {w w1 w2 : W} {u v : RV} {x y z : D} {ds0 ds ds2 : List D} (h0 : w.env[i]? = some (.own ds0)) (hk : mk w = .ok u w1) (hu : u.frz = some (.int j)) (h1 : w1.env[i]? = some (.own ds)) (ha : atI ds j = some x)
    (hm : m w1 = .ok v w2) (hv : v.frz = some y) (hg : g x y = some (.d z)) (h2 : w2.env[i]? = some (.own ds2)) (hx : ixN ds2.length j = some n) : mAugIx i g mk m w = .nx (w2.put i (.own (ds2.set n z))) := by
  unfold mAugIx
  rw [if_pos (hasOwn_of h0), hk]
  simp only [Res.sdd, Res.sd, hu, h1, ha, hm, hv, augIx, hg, setIx, h2, hx]
theorem mSetIx_ok {i n : Nat} {j : Int} {mk m : ME} {w w1 w2 : W} {u v : RV} {y : D} {ds ds2 : List D} (hm : m w = .ok u w1) (hu : u.frz = some y) (h1 : w1.env[i]? = some (.own ds)) (hk : mk w1 = .ok v w2) (hv : v.frz = some (.int j)) (h2 : w2.env[i]? = some (.own ds2)) (hx : ixN ds2.length j = some n) :
    mSetIx i mk m w = .nx (w2.put i (.own (ds2.set n y))) := by
  unfold mSetIx
  rw [hm]
  simp only [Res.sdd, Res.sd, hu, if_pos (hasOwn_of h1), hk, hv, setIx, h2, hx]
theorem ixN_nat {n i : Nat} (h : i < n) : ixN n (i : Int) = some i := by
  unfold ixN
  rw [if_pos (by omega), if_pos (by omega)]
  simp
def upS (u : Bool) : Str := if u then "up" else "down"
def pressD (p : Nat × Bool) : D := .tup [.int (p.1 : Nat), .str (upS p.2)]
def PrOk (B : Belt) (p : Nat × Bool) : Prop := ∃ n, B.ps[p.1]? = some (some n)
theorem PrOk.lt {B : Belt} {p : Nat × Bool} (h : PrOk B p) : p.1 < B.ps.length := by
  obtain ⟨n, e⟩ := h
  exact (List.getElem?_eq_some_iff.mp e).1
theorem up_ok : okE (.tup [.str "up", .str "down"]) = true := okE_of (n := 1) (by simp only [dok, doks]; decide +kernel) (by decide)
theorem in_up (u : Bool) : gIn (.str (upS u)) (.tup [.str "up", .str "down"]) = some (.d (.bl true)) := by
  have h1 : okE (.str (upS u)) = true := okE_of (n := 0) (by simp only [dok]; cases u <;> decide +kernel) (by decide)
  cases u with
  | true =>
    have h1' : okE (.str "up") = true := h1
    simp [gIn, up_ok, h1', upS, eqB_str, bO]
  | false =>
    have h1' : okE (.str "down") = true := h1
    simp [gIn, up_ok, h1', upS, eqB_str, bO]
def Belt.l5 (B : Belt) : List D := [.str (ringD B.ring), .int (B.f : Nat), .int (B.w : Nat), .tup (B.ds.map fun n : Nat => D.int (n : Nat)), .tup (B.ps.map priceD)]
theorem Belt.d_eq (B : Belt) : B.d = .tup B.l5 := rfl
/-! counted -/
theorem gMul_rep {i : List D} {k : Int} (h : -(2 ^ 63) ≤ k ∧ k < 2 ^ 63 ∧ i.length * k.toNat ≤ sizeLine) : gMul (.lst i) (.int k) = some (.own (repD k i)) := if_pos h
theorem small63 {k : Int} (h0 : 0 ≤ k) (h1 : k ≤ 1000) : -(2 ^ 63) ≤ k ∧ k < 2 ^ 63 := by
  have e : (2 : Int) ^ 63 = 9223372036854775808 := rfl
  rw [e]
  omega
theorem rep_zero (n : Nat) : repD (n : Int) [.int 0] = (List.replicate n (0 : Int)).map D.int := by
  unfold repD
  rw [show ((n : Int)).toNat = n by omega, List.map_replicate]
  induction n with
  | zero => rfl
  | succ n ih => rw [List.replicate_succ, List.flatten_cons, ih]; rfl
theorem zeros_ok {n : Nat} (h : n ≤ 1000) : gMul (.lst [.int 0]) (.int (n : Nat)) = some (.own ((List.replicate n (0 : Int)).map D.int)) := by
  rw [← rep_zero]
  obtain ⟨a, b⟩ := small63 (k := (n : Int)) (by omega) (by omega)
  exact gMul_rep ⟨a, b, Nat.le_trans (by simp; omega) (show 1000 ≤ sizeLine by decide)⟩
def cntStep (c : List Int) (p : Nat × Bool) : List Int := c.set p.1 ((c[p.1]?).getD 0 + (if p.2 then 1 else -1))
def cntL (m : Nat) (l : List (Nat × Bool)) : List Int := l.foldl cntStep (List.replicate m 0)
theorem cnt_len : ∀ (l : List (Nat × Bool)) (c : List Int), (l.foldl cntStep c).length = c.length
  | [], _ => rfl
  | p :: l, c => by
    show (l.foldl cntStep (cntStep c p)).length = _
    rw [cnt_len l]
    simp [cntStep]
noncomputable def cBody : MS := (mAugIx 2 gIAdd (mVar 3) (mIfE (mBin gEq (mPk 4) (mC (.str "up"))) (mC (.int 1)) (mNeg (mC (.int 1)))))
theorem up_eq (u : Bool) : gEq (.str (upS u)) (.str "up") = some (.d (.bl u)) := by
  cases u with
  | true => rfl
  | false => show bO (decide (("down" : Str) = "up")) = _; rw [show decide (("down" : Str) = "up") = false by decide +kernel]; rfl
theorem cnt_loop {B prs : D} {S : List Cell} : ∀ (l : List (Nat × Bool)) (c : List Int) (x3 x4 : RV), (∀ p ∈ l, p.1 < c.length) →
    ∃ y3 y4, forL (gTp 2 (gsCons (gNm 3) (gsCons (gNm 4) gsNil))) cBody (l.map pressD) ⟨[.d B, .d prs, .own (c.map D.int), x3, x4], S⟩ = .nx ⟨[.d B, .d prs, .own ((l.foldl cntStep c).map D.int), y3, y4], S⟩
  | [], c, x3, x4, _ => ⟨x3, x4, rfl⟩
  | p :: l, c, x3, x4, h => by
    have hp := h p (List.mem_cons_self ..)
    obtain ⟨i, u⟩ := p
    have hi : i < c.length := hp
    obtain ⟨y3, y4, e⟩ := cnt_loop (B := B) (prs := prs) (S := S) l (cntStep c (i, u)) (.d (.int (i : Nat))) (.d (.str (upS u))) fun q hq => by
      have := h q (List.mem_cons_of_mem _ hq)
      simpa [cntStep] using this
    refine ⟨y3, y4, ?_⟩
    have e2 : (((i, u) :: l).foldl cntStep c) = l.foldl cntStep (cntStep c (i, u)) := rfl
    rw [e2, ← e]
    have ha : atI (c.map D.int) (i : Nat) = some (.int c[i]) := by
      rw [atI_nat, List.getElem?_map, List.getElem?_eq_getElem hi]; rfl
    have hx : ixN (c.map D.int).length (i : Nat) = some i := ixN_nat (by rw [List.length_map]; exact hi)
    have hg : (c[i]?).getD 0 = c[i] := by rw [List.getElem?_eq_getElem hi]; rfl
    let w0 : W := ⟨[.d B, .d prs, .own (c.map D.int), .d (.int (i : Nat)), .d (.str (upS u))], S⟩
    have hm : (mIfE (mBin gEq (mPk 4) (mC (.str "up"))) (mC (.int 1)) (mNeg (mC (.int 1)))) w0 = .ok (.d (.int (if u then 1 else -1))) w0 := by
      have q := mBin_ok (a := mPk 4) (b := mC (.str "up")) (w := w0) (u := .d (.str (upS u))) rfl rfl rfl rfl (up_eq u)
      unfold mIfE
      rw [q]
      cases u <;> rfl
    have hb := mAugIx_ok (i := 2) (g := gIAdd) (mk := mVar 3) (w := w0) (u := .d (.int (i : Nat))) rfl rfl rfl rfl ha hm rfl (show gIAdd (.int c[i]) (.int (if u then 1 else -1)) = some (.d (.int (c[i] + if u then 1 else -1))) from rfl) rfl hx
    have hgt : gTp 2 (gsCons (gNm 3) (gsCons (gNm 4) gsNil)) (pressD (i, u)) ⟨[.d B, .d prs, .own (c.map D.int), x3, x4], S⟩ = some w0 := rfl
    rw [List.map_cons, forL_nx (b := cBody) hgt hb]
    have hs : (c.map D.int).set i (.int (c[i] + if u then 1 else -1)) = (cntStep c (i, u)).map D.int := by
      unfold cntStep
      rw [List.map_set, hg]
    rw [hs]
    rfl
theorem cnt_p1 {B l : D} {B' : Belt} {S : List Cell} (hb : B = B'.d) {x2 x3 x4 : RV} : mCB (g1 gLen) (mCons (mBin gIx (mPk 0) (mC (.int 4))) mNil) ⟨[.d B, .d l, x2, x3, x4], S⟩ = .ok (.d (.int (B'.ps.length : Nat))) ⟨[.d B, .d l, x2, x3, x4], S⟩ := by
  subst hb
  refine mCB_ok (mCons_ok (mBin_ok (a := mPk 0) (u := .d B'.d) rfl rfl (b := mC (.int 4)) rfl rfl (show gIx B'.d (.int 4) = some (.d (.tup (B'.ps.map priceD))) from rfl)) rfl mNil_ok) ?_
  show gLen (.tup (B'.ps.map priceD)) = _
  simp [gLen, iO]
theorem cnt_q1 {B : Belt} {l : D} {S : List Cell} (hm : B.ps.length ≤ 12) : mSet 2 (mBin gMul (mLst (mCons (mC (.int 0)) mNil)) (mCB (g1 gLen) (mCons (mBin gIx (mPk 0) (mC (.int 4))) mNil))) ⟨[.d B.d, .d l, .un, .un, .un], S⟩ = .nx ⟨[.d B.d, .d l, .own ((List.replicate B.ps.length (0 : Int)).map D.int), .un, .un], S⟩ := by
  have hg := zeros_ok (n := B.ps.length) (by omega)
  have p0 : mLst (mCons (mC (.int 0)) mNil) ⟨[.d B.d, .d l, .un, .un, .un], S⟩ = .ok (.own [.int 0]) ⟨[.d B.d, .d l, .un, .un, .un], S⟩ := mLst_ok (mCons_ok rfl rfl mNil_ok) (show 1 ≤ sizeLine by decide)
  exact mSet_ok (mBin_ok p0 rfl (cnt_p1 rfl) rfl hg) (by show 2 < 5; decide)
/-! price_of -/
theorem intsD_map : ∀ (l : List Int), intsD (l.map D.int) = some l
  | [] => rfl
  | x :: l => by
    show (intsD (l.map D.int)).map (x :: ·) = _
    rw [intsD_map l]; rfl
def priceOfL (B : Belt) (l : List (Nat × Bool)) : List Int := l.map fun p => (((B.ps[p.1]?).getD none).getD 0 : Nat)
end DB

set_option Elab.async false
set_option linter.all false
set_option maxRecDepth 100000
set_option maxHeartbeats 4000000
namespace DB
open PySem PySem.Spec PyProof.Rows L2
/-! plain: moved -/
theorem rngD_range (n : Nat) : rngD 0 (n : Int) = (List.range n).map fun i : Nat => D.int (i : Int) := by
  unfold rngD
  simp
def undL (B : Belt) (b : Nat) : List Nat := (List.range B.w).map fun i => (b + i) % B.ds.length
theorem und_i {B : Belt} (h : B.Ok) {b x2 : RV} {S : List Cell} : mRng1 (mCons (mBin gIx (mPk 0) (mC (.int 2))) mNil) ⟨[.d B.d, b, x2], S⟩ = .ok ((List.range B.w).map fun i : Nat => D.int (i : Int)) ⟨[.d B.d, b, x2], S⟩ := by
  have w12 := h.w12
  rw [← rngD_range]
  have p : mCons (mBin gIx (mPk 0) (mC (.int 2))) mNil ⟨[.d B.d, b, x2], S⟩ = .ok [.int (B.w : Nat)] ⟨[.d B.d, b, x2], S⟩ := mCons_ok (mBin_ok (a := mPk 0) (u := .d B.d) rfl rfl (b := mC (.int 2)) rfl rfl (show gIx B.d (.int 2) = some (.d (.int (B.w : Nat))) from rfl)) rfl mNil_ok
  exact mRng1_at p (by omega) (by omega)
theorem und_l {B : Belt} {b x2 : RV} {S : List Cell} : mCB (g1 gLen) (mCons (mBin gIx (mPk 0) (mC (.int 3))) mNil) ⟨[.d B.d, b, x2], S⟩ = .ok (.d (.int (B.ds.length : Nat))) ⟨[.d B.d, b, x2], S⟩ := by
  refine mCB_ok (mCons_ok (mBin_ok (a := mPk 0) (u := .d B.d) rfl rfl (b := mC (.int 3)) rfl rfl (show gIx B.d (.int 3) = some (.d (.tup (B.ds.map fun n : Nat => D.int (n : Nat)))) from rfl)) rfl mNil_ok) ?_
  show gLen (.tup (B.ds.map fun n : Nat => D.int (n : Nat))) = _
  simp [gLen, iO]
theorem gMod_at {i j : Int} (h : 0 < j) : gMod (.int i) (.int j) = some (.d (.int (i % j))) := if_pos h
theorem und_e {B : Belt} (h : B.Ok) {b i : Nat} {S : List Cell} : (mBin gMod (mBin gAdd (mPk 1) (mPk 2)) (mCB (g1 gLen) (mCons (mBin gIx (mPk 0) (mC (.int 3))) mNil))) ⟨[.d B.d, .d (.int (b : Nat)), .d (.int (i : Nat))], S⟩ = .ok (.d (.int (((b + i) % B.ds.length : Nat) : Int))) ⟨[.d B.d, .d (.int (b : Nat)), .d (.int (i : Nat))], S⟩ := by
  have w1 := h.w1
  have wl := h.wl
  have e : (((b + i) % B.ds.length : Nat) : Int) = ((b : Int) + (i : Int)) % ((B.ds.length : Nat) : Int) := by simp
  rw [e]
  exact mBin_ok (mBin_ok (a := mPk 1) (u := .d (.int (b : Nat))) rfl rfl (b := mPk 2) (v := .d (.int (i : Nat))) rfl rfl (show gAdd (.int (b : Nat)) (.int (i : Nat)) = some (.d (.int ((b : Int) + (i : Int)))) from rfl)) rfl und_l rfl (gMod_at (by omega))
theorem und_lc {B : Belt} (h : B.Ok) (b : Nat) (S : List Cell) : mLc [2] (mRng1 (mCons (mBin gIx (mPk 0) (mC (.int 2))) mNil)) (gNm 2) mT (mBin gMod (mBin gAdd (mPk 1) (mPk 2)) (mCB (g1 gLen) (mCons (mBin gIx (mPk 0) (mC (.int 3))) mNil))) ⟨[.d B.d, .d (.int (b : Nat)), .un], S⟩ = .ok (.own ((List.range B.w).map fun i => D.int (((b + i) % B.ds.length : Nat) : Int))) ⟨[.d B.d, .d (.int (b : Nat)), .un], S⟩ := by
  have w12 := h.w12
  have hz : B.w ≤ sizeLine := Nat.le_trans (by omega : B.w ≤ 1000) (by decide)
  exact mLc_map (fun i : Nat => D.int (i : Int)) (fun i => D.int (((b + i) % B.ds.length : Nat) : Int)) (List.range B.w) (und_i h) rfl (fun i _ => ⟨⟨[.d B.d, .d (.int (b : Nat)), .d (.int (i : Nat))], S⟩, ⟨[.d B.d, .d (.int (b : Nat)), .d (.int (i : Nat))], S⟩, _, ⟨[.d B.d, .d (.int (b : Nat)), .d (.int (i : Nat))], S⟩, rfl, rfl, und_e h, rfl, rfl, rfl⟩) (by rw [List.length_range]; exact hz)
theorem und_map {B : Belt} (b : Nat) : (List.range B.w).map (fun i => D.int (((b + i) % B.ds.length : Nat) : Int)) = (undL B b).map fun i : Nat => D.int (i : Nat) := by
  unfold undL
  rw [List.map_map]
  rfl
theorem bodyF_rt {n k : Nat} {m : MS} {ds : List D} {S S' : List Cell} {w : W} {rv : RV} (h : ds.length = k) (hw : (⟨ds.map .d ++ List.replicate (n - k) .un, S⟩ : W) = w) (hm : m w = .rt rv S') (hp : rv.plain = true) : bodyF n k m ds S = .ok rv S' := by
  rw [bodyF_at h, hw, hm]
  exact if_pos hp
theorem m_under_eq : m_under = mRet (mLc [2] (mRng1 (mCons (mBin gIx (mPk 0) (mC (.int 2))) mNil)) (gNm 2) mT (mBin gMod (mBin gAdd (mPk 1) (mPk 2)) (mCB (g1 gLen) (mCons (mBin gIx (mPk 0) (mC (.int 3))) mNil)))) := by
  unfold m_under
  rfl
theorem under_ok {B : Belt} (h : B.Ok) (b : Nat) (S : List Cell) : F_under [B.d, .int (b : Nat)] S = .ok (.own ((undL B b).map fun i : Nat => D.int (i : Nat))) S := by
  have q := mRet_ok (und_lc h b S)
  rw [und_map, ← m_under_eq] at q
  exact bodyF_rt rfl rfl q rfl
def at0 (l : List Int) (d : Nat) : Int := (l[d]?).getD 0
theorem at0_set {l : List Int} {i d : Nat} {v : Int} (hi : i < l.length) : at0 (l.set i v) d = if i = d then v else at0 l d := by
  unfold at0
  by_cases h : i = d
  · subst h; rw [if_pos rfl, List.getElem?_set_self hi]; rfl
  · rw [if_neg h, List.getElem?_set_ne h]
def mvStep (f : Nat) (c : Int) (l : List Int) (i : Nat) : List Int := l.set i ((at0 l i + c) % (f : Int))
noncomputable def inB : MS := (mSetIx 3 (mVar 6) (mBin gMod (mBin gAdd (mBin gIx (mPk 3) (mPk 6)) (mPk 5)) (mBin gIx (mPk 0) (mC (.int 1)))))
theorem in_loop {B : Belt} {X Y x4 : RV} {c : Int} {S : List Cell} (hf : 0 < B.f) : ∀ (idx : List Nat) (cur : List Int) (x6 : RV), (∀ i ∈ idx, i < cur.length) →
    ∃ y6, forL (gNm 6) inB (idx.map fun i : Nat => D.int (i : Nat)) ⟨[.d B.d, X, Y, .own (cur.map D.int), x4, .d (.int c), x6], S⟩ = .nx ⟨[.d B.d, X, Y, .own ((idx.foldl (mvStep B.f c) cur).map D.int), x4, .d (.int c), y6], S⟩
  | [], cur, x6, _ => ⟨x6, rfl⟩
  | i :: idx, cur, x6, h => by
    have hi : i < cur.length := h i (List.mem_cons_self ..)
    obtain ⟨y6, e⟩ := in_loop (B := B) (X := X) (Y := Y) (x4 := x4) (c := c) (S := S) hf idx (mvStep B.f c cur i) (.d (.int (i : Nat))) fun j hj => by
      have := h j (List.mem_cons_of_mem _ hj)
      simpa [mvStep] using this
    refine ⟨y6, ?_⟩
    have e2 : ((i :: idx).foldl (mvStep B.f c) cur) = idx.foldl (mvStep B.f c) (mvStep B.f c cur i) := rfl
    rw [e2, ← e, List.map_cons]
    let w0 : W := ⟨[.d B.d, X, Y, .own (cur.map D.int), x4, .d (.int c), .d (.int (i : Nat))], S⟩
    have ha : at0 cur i = cur[i] := by unfold at0; rw [List.getElem?_eq_getElem hi]; rfl
    have g1 : gIx (.lst (cur.map D.int)) (.int (i : Nat)) = some (.d (.int (at0 cur i))) := by
      show (atI (cur.map D.int) (i : Nat)).map RV.d = _
      rw [atI_nat, List.getElem?_map, List.getElem?_eq_getElem hi, ha]; rfl
    have g2 : gMod (.int (at0 cur i + c)) (.int (B.f : Nat)) = some (.d (.int ((at0 cur i + c) % (B.f : Int)))) := if_pos (e := (none : Option RV)) (show (0 : Int) < (B.f : Nat) by omega)
    have hm : (mBin gMod (mBin gAdd (mBin gIx (mPk 3) (mPk 6)) (mPk 5)) (mBin gIx (mPk 0) (mC (.int 1)))) w0 = .ok (.d (.int ((at0 cur i + c) % (B.f : Int)))) w0 :=
      mBin_ok (mBin_ok (mBin_ok (a := mPk 3) (u := .own (cur.map D.int)) rfl rfl (b := mPk 6) (v := .d (.int (i : Nat))) rfl rfl g1) rfl (b := mPk 5) (v := .d (.int c)) rfl rfl (show gAdd (.int (at0 cur i)) (.int c) = some (.d (.int (at0 cur i + c))) from rfl)) rfl
        (mBin_ok (a := mPk 0) (u := .d B.d) rfl rfl (b := mC (.int 1)) rfl rfl (show gIx B.d (.int 1) = some (.d (.int (B.f : Nat))) from rfl)) rfl g2
    have hb := mSetIx_ok (i := 3) (mk := mVar 6) (w := w0) hm rfl rfl (v := .d (.int (i : Nat))) rfl rfl rfl (ixN_nat (n := (cur.map D.int).length) (i := i) (by rw [List.length_map]; exact hi))
    rw [forL_nx (b := inB) (w1 := w0) rfl hb]
    have hs : (cur.map D.int).set i (.int ((at0 cur i + c) % (B.f : Int))) = (mvStep B.f c cur i).map D.int := by unfold mvStep; rw [List.map_set]
    rw [hs]
    rfl
def mvAll (B : Belt) : Nat → List Int → List Int → List Int
  | _, [], cur => cur
  | k, c :: cs, cur => mvAll B (k + 1) cs ((undL B k).foldl (mvStep B.f c) cur)
theorem mvFold_len (f : Nat) (c : Int) : ∀ (idx : List Nat) (cur : List Int), (idx.foldl (mvStep f c) cur).length = cur.length
  | [], _ => rfl
  | i :: idx, cur => by
    show (idx.foldl (mvStep f c) (mvStep f c cur i)).length = _
    rw [mvFold_len f c idx]; simp [mvStep]
theorem und_lt {B : Belt} (h : B.Ok) (k : Nat) : ∀ i ∈ undL B k, i < B.ds.length := fun i hi => by
  obtain ⟨j, _, rfl⟩ := List.mem_map.mp hi
  have w1 := h.w1
  have wl := h.wl
  exact Nat.mod_lt _ (by omega)
noncomputable def outB : MS := (mFor (mSeqI (mCall F_under (mCons (mVar 0) (mCons (mVar 4) mNil)))) (gNm 6) inB)
theorem mSeqI_own {m : ME} {w w1 : W} {ds : List D} (h : m w = .ok (.own ds) w1) : mSeqI m w = .ok ds w1 := by
  unfold mSeqI; rw [h]; rfl
theorem out_hu {B : Belt} (h : B.Ok) {X : D} {x2 x3 x5 x6 : RV} {S : List Cell} (k : Nat) : mCall F_under (mCons (mVar 0) (mCons (mVar 4) mNil)) ⟨[.d B.d, .d X, x2, x3, .d (.int (k : Nat)), x5, x6], S⟩ = .ok (.own ((undL B k).map fun i : Nat => D.int (i : Nat))) ⟨[.d B.d, .d X, x2, x3, .d (.int (k : Nat)), x5, x6], S⟩ := by
  have a : mCons (mVar 0) (mCons (mVar 4) mNil) ⟨[.d B.d, .d X, x2, x3, .d (.int (k : Nat)), x5, x6], S⟩ = .ok [B.d, .int (k : Nat)] ⟨[.d B.d, .d X, x2, x3, .d (.int (k : Nat)), x5, x6], S⟩ := mCons_ok (rv := .d B.d) rfl rfl (mCons_ok (rv := .d (.int (k : Nat))) rfl rfl mNil_ok)
  exact mCall_ok a (under_ok h k S) rfl
theorem outB_eq : outB = mFor (mSeqI (mCall F_under (mCons (mVar 0) (mCons (mVar 4) mNil)))) (gNm 6) inB := by
  unfold outB
  rfl
theorem out_step {B : Belt} (h : B.Ok) {X : D} {Y : RV} {S : List Cell} {c : Int} {k : Nat} {cur : List Int} (x6 : RV) (hl : cur.length = B.ds.length) :
    ∃ z6, outB ⟨[.d B.d, .d X, Y, .own (cur.map D.int), .d (.int (k : Nat)), .d (.int c), x6], S⟩ = .nx ⟨[.d B.d, .d X, Y, .own (((undL B k).foldl (mvStep B.f c) cur).map D.int), .d (.int (k : Nat)), .d (.int c), z6], S⟩ := by
  have f2 := h.f2
  obtain ⟨z6, e6⟩ := in_loop (B := B) (X := .d X) (Y := Y) (x4 := .d (.int (k : Nat))) (c := c) (S := S) (by omega) (undL B k) cur x6 fun i hi => by rw [hl]; exact und_lt h k i hi
  refine ⟨z6, ?_⟩
  rw [outB_eq, mFor_at (mSeqI_own (out_hu h k)), e6]
theorem mv_loop {B : Belt} (h : B.Ok) {X : D} {Y : RV} {S : List Cell} (cs : List Int) : ∀ (k : Nat) (cur : List Int) (x4 x5 x6 : RV), cur.length = B.ds.length →
    ∃ y4 y5 y6, forL (gTp 2 (gsCons (gNm 4) (gsCons (gNm 5) gsNil))) outB (enumD k (cs.map D.int)) ⟨[.d B.d, .d X, Y, .own (cur.map D.int), x4, x5, x6], S⟩ = .nx ⟨[.d B.d, .d X, Y, .own ((mvAll B k cs cur).map D.int), y4, y5, y6], S⟩ := by
  induction cs with
  | nil => exact fun k cur x4 x5 x6 _ => ⟨x4, x5, x6, rfl⟩
  | cons c cs ih =>
    intro k cur x4 x5 x6 hl
    obtain ⟨z6, hb⟩ := out_step h (X := X) (Y := Y) (S := S) (c := c) (k := k) (cur := cur) x6 hl
    obtain ⟨y4, y5, y6, e⟩ := ih (k + 1) ((undL B k).foldl (mvStep B.f c) cur) (.d (.int (k : Nat))) (.d (.int c)) z6 (by rw [mvFold_len]; exact hl)
    refine ⟨y4, y5, y6, ?_⟩
    have e1 : enumD k ((c :: cs).map D.int) = .tup [.int (k : Nat), .int c] :: enumD (k + 1) (cs.map D.int) := rfl
    have e2 : mvAll B k (c :: cs) cur = mvAll B (k + 1) cs ((undL B k).foldl (mvStep B.f c) cur) := rfl
    rw [e1, e2, ← e]
    exact forL_nx (g := gTp 2 (gsCons (gNm 4) (gsCons (gNm 5) gsNil))) (b := outB) (w1 := ⟨[.d B.d, .d X, Y, .own (cur.map D.int), .d (.int (k : Nat)), .d (.int c), x6], S⟩) rfl hb
/-! what that comes to -/
def hitN (B : Belt) (k d : Nat) : Int := ((undL B k).countP fun i => i == d : Nat)
def dl (B : Belt) : Nat → List Int → Nat → Int
  | _, [], _ => 0
  | k, c :: cs, d => hitN B k d * c + dl B (k + 1) cs d
theorem dl_mul (B : Belt) (m : Int) (d : Nat) : ∀ (cs : List Int) (k : Nat), dl B k (cs.map (· * m)) d = dl B k cs d * m
  | [], _ => by simp [dl]
  | c :: cs, k => by
    simp only [List.map_cons, dl, dl_mul B m d cs (k + 1)]
    rw [Int.add_mul, Int.mul_assoc]
theorem fold_at {f : Nat} {c : Int} {d : Nat} (hf : 0 < f) : ∀ (idx : List Nat) (cur : List Int), (∀ i ∈ idx, i < cur.length) → (0 ≤ at0 cur d ∧ at0 cur d < f) →
    at0 (idx.foldl (mvStep f c) cur) d = (at0 cur d + ((idx.countP fun i => i == d : Nat) : Int) * c) % (f : Int)
  | [], cur, _, h => by
    have : at0 cur d % (f : Int) = at0 cur d := Int.emod_eq_of_lt h.1 h.2
    simp [this]
  | i :: idx, cur, hi, h => by
    have hi0 := hi i (List.mem_cons_self ..)
    have hb : 0 ≤ at0 (mvStep f c cur i) d ∧ at0 (mvStep f c cur i) d < f := by
      unfold mvStep
      rw [at0_set hi0]
      split
      · exact ⟨Int.emod_nonneg _ (by omega), Int.emod_lt_of_pos _ (by omega)⟩
      · exact h
    have ih := fold_at (f := f) (c := c) (d := d) hf idx (mvStep f c cur i) (fun j hj => by
      have := hi j (List.mem_cons_of_mem _ hj)
      simpa [mvStep] using this) hb
    show at0 (idx.foldl (mvStep f c) (mvStep f c cur i)) d = _
    rw [ih]
    unfold mvStep
    rw [at0_set hi0]
    by_cases e : i = d
    · subst e
      rw [if_pos rfl, List.countP_cons]
      simp only [beq_self_eq_true, if_true]
      have e3 : ((idx.countP (fun j => j == i) + 1 : Nat) : Int) * c = c + ((idx.countP (fun j => j == i) : Nat) : Int) * c := by
        rw [Int.natCast_add, Int.add_mul]; simp; rw [Int.add_comm]
      rw [e3, ← Int.add_assoc, Int.emod_add_emod]
    · rw [if_neg e, List.countP_cons]
      have : (i == d) = false := by simpa using e
      simp [this]
theorem mv_at {B : Belt} (h : B.Ok) {d : Nat} : ∀ (cs : List Int) (k : Nat) (cur : List Int), cur.length = B.ds.length → (0 ≤ at0 cur d ∧ at0 cur d < B.f) →
    at0 (mvAll B k cs cur) d = (at0 cur d + dl B k cs d) % (B.f : Int) ∧ (mvAll B k cs cur).length = B.ds.length
  | [], k, cur, hl, hb => by
    have : at0 cur d % (B.f : Int) = at0 cur d := Int.emod_eq_of_lt hb.1 hb.2
    exact ⟨by simp [mvAll, dl, this], hl⟩
  | c :: cs, k, cur, hl, hb => by
    have f2 := h.f2
    have e1 := fold_at (f := B.f) (c := c) (d := d) (by omega) (undL B k) cur (fun i hi => by rw [hl]; exact und_lt h k i hi) hb
    have hb2 : 0 ≤ at0 ((undL B k).foldl (mvStep B.f c) cur) d ∧ at0 ((undL B k).foldl (mvStep B.f c) cur) d < B.f := by
      rw [e1]
      exact ⟨Int.emod_nonneg _ (by omega), Int.emod_lt_of_pos _ (by omega)⟩
    obtain ⟨i1, i2⟩ := mv_at h (d := d) cs (k + 1) ((undL B k).foldl (mvStep B.f c) cur) (by rw [mvFold_len]; exact hl) hb2
    refine ⟨?_, i2⟩
    show at0 (mvAll B (k + 1) cs ((undL B k).foldl (mvStep B.f c) cur)) d = _
    rw [i1, e1, Int.emod_add_emod]
    simp only [dl, hitN]
    rw [Int.add_assoc]
end DB

set_option Elab.async false
set_option linter.all false
set_option maxRecDepth 100000
set_option maxHeartbeats 4000000
namespace DB
open PySem PySem.Spec PyProof.Rows L2
/-! plain: a belt that can be is let by -/
theorem fwGo_ok {p : D → Bool} {most : Int} : ∀ (ds : List D) (k : Nat), (∀ d ∈ ds, p d = true) → ((k + ds.length : Nat) : Int) ≤ most → fwGo p most k ds = none
  | [], _, _, _ => rfl
  | d :: ds, k, h, hm => by
    have hd := h d (List.mem_cons_self ..)
    have hk : ¬ ((k : Int) = most) := by simp at hm; omega
    unfold fwGo
    rw [hd, decide_eq_false hk]
    exact fwGo_ok ds (k + 1) (fun e he => h e (List.mem_cons_of_mem _ he)) (by simp at hm ⊢; omega)
theorem fw_ok {p : D → Bool} {ds : List D} {least most : Int} (h : ∀ d ∈ ds, p d = true) (hm : (ds.length : Int) ≤ most) (hl : least ≤ (ds.length : Int)) : fw p (.tup ds) least most = none := by
  unfold fw
  simp only [fwGo_ok ds 0 h (by simpa using hm)]
  exact if_neg (by omega)
theorem Belt.Ok.good {B : Belt} (h : B.Ok) : badOf B.d = none := by
  have f2 := h.f2
  have f9 := h.f9
  have w1 := h.w1
  have w12 := h.w12
  have wl := h.wl
  have l12 := h.l12
  have pl := h.pl
  have c1 : isRow (.str (ringD B.ring)) = true := by
    cases B.ring with
    | true => show (decide (("ring" : Str) = "row") || decide (("ring" : Str) = "ring")) = true; decide +kernel
    | false => show (decide (("row" : Str) = "row") || decide (("row" : Str) = "ring")) = true; decide +kernel
  have c2 : isN (.int (B.f : Nat)) 2 9 = true := by simp only [isN, Bool.and_eq_true, decide_eq_true_eq]; omega
  have c3 : isN (.int (B.w : Nat)) 1 12 = true := by simp only [isN, Bool.and_eq_true, decide_eq_true_eq]; omega
  have c4 : fw (fun d => isN d 0 (intD (.int (B.f : Nat)) - 1)) (.tup (B.ds.map fun n : Nat => D.int (n : Nat))) (intD (.int (B.w : Nat))) 12 = none := by
    refine fw_ok (fun d hd => ?_) (by rw [List.length_map]; omega) (by simp only [intD, List.length_map]; omega)
    obtain ⟨n, hn, rfl⟩ := List.mem_map.mp hd
    have := h.dl n hn
    show isN (.int (n : Nat)) 0 ((B.f : Int) - 1) = true
    simp only [isN, Bool.and_eq_true, decide_eq_true_eq]
    omega
  have hm : manyOf (.str (ringD B.ring)) (.int (B.w : Nat)) (.tup (B.ds.map fun n : Nat => D.int (n : Nat))) = (B.many : Int) := by
    have hr : isRing (.str (ringD B.ring)) = B.ring := by
      cases B.ring with
      | true => show decide (("ring" : Str) = "ring") = true; decide +kernel
      | false => show decide (("row" : Str) = "ring") = false; decide +kernel
    unfold manyOf Belt.many
    rw [hr]
    cases B.ring with
    | true => simp [lenD]
    | false => simp [lenD, intD]; omega
  have c5 : fw priceOk (.tup (B.ps.map priceD)) (manyOf (.str (ringD B.ring)) (.int (B.w : Nat)) (.tup (B.ds.map fun n : Nat => D.int (n : Nat)))) (manyOf (.str (ringD B.ring)) (.int (B.w : Nat)) (.tup (B.ds.map fun n : Nat => D.int (n : Nat)))) = none := by
    rw [hm]
    refine fw_ok (fun d hd => ?_) (by rw [List.length_map]; omega) (by rw [List.length_map]; omega)
    obtain ⟨p, hp, rfl⟩ := List.mem_map.mp hd
    cases p with
    | none => rfl
    | some n =>
      have := h.pr _ hp n rfl
      simp only [priceOk, priceD, isNon, isN, Bool.false_or, Bool.and_eq_true, decide_eq_true_eq]
      omega
  simp only [badOf, Belt.d, c1, c2, c3, c4, c5]
  rfl
theorem Belt.Ok.dok {B : Belt} (h : B.Ok) : dok 3 B.d = true := by
  have nd : ∀ l : List Nat, doks 1 (l.map fun n : Nat => D.int (n : Nat)) = true := fun l => doks_all fun d hd => by obtain ⟨n, _, rfl⟩ := List.mem_map.mp hd; rfl
  have pd : ∀ l : List (Option Nat), doks 1 (l.map priceD) = true := fun l => doks_all fun d hd => by
    obtain ⟨n, _, rfl⟩ := List.mem_map.mp hd
    cases n <;> rfl
  have rd : PyData.strOk (ringD B.ring) = true := by cases B.ring <;> decide +kernel
  simp only [Belt.d, DB.dok, doks, nd, pd, rd]
  rfl
theorem need_ok {B : Belt} (h : B.Ok) (S : List Cell) : F_need_belt [B.d] S = .ok (.d .non) S := Belt.ok_bad h.dok h.good S
/-! presses done so many times -/
def posL (B : Belt) (δ : Nat → Int) (m : Int) : List Nat := (List.range B.ds.length).map fun d => ((((B.ds[d]?).getD 0 : Nat) : Int) + δ d * m) % (B.f : Int) |>.toNat
def Belt.at_ (B : Belt) (δ : Nat → Int) (m : Int) : Belt := { B with ds := posL B δ m }
theorem posL_get {B : Belt} {δ : Nat → Int} {m : Int} {d : Nat} (hd : d < B.ds.length) : (posL B δ m)[d]? = some (((((B.ds[d]?).getD 0 : Nat) : Int) + δ d * m) % (B.f : Int)).toNat := by
  unfold posL
  rw [List.getElem?_map, List.getElem?_range hd]; rfl
theorem posL_len {B : Belt} {δ : Nat → Int} {m : Int} : (posL B δ m).length = B.ds.length := by simp [posL]
theorem at_ok {B : Belt} (h : B.Ok) (δ : Nat → Int) (m : Int) : (B.at_ δ m).Ok := by
  have f2 := h.f2
  refine ⟨h.f2, h.f9, h.w1, h.w12, by show B.w ≤ (posL B δ m).length; rw [posL_len]; exact h.wl, by show (posL B δ m).length ≤ 12; rw [posL_len]; exact h.l12, fun d hd => ?_, ?_, h.pr⟩
  · obtain ⟨i, hi, rfl⟩ := List.mem_map.mp (show d ∈ posL B δ m from hd)
    have h1 := Int.emod_nonneg ((((B.ds[i]?).getD 0 : Nat) : Int) + δ i * m) (show (B.f : Int) ≠ 0 by omega)
    have h2 := Int.emod_lt_of_pos ((((B.ds[i]?).getD 0 : Nat) : Int) + δ i * m) (show (0 : Int) < (B.f : Int) by omega)
    show _ < B.f
    omega
  · show B.ps.length = (B.at_ δ m).many
    rw [h.pl]
    unfold Belt.many
    show _ = if B.ring then (posL B δ m).length else (posL B δ m).length - B.w + 1
    rw [posL_len]
def curL (B : Belt) : List Int := B.ds.map fun n : Nat => (n : Int)
theorem cur_at {B : Belt} {d : Nat} : at0 (curL B) d = (((B.ds[d]?).getD 0 : Nat) : Int) := by
  unfold at0 curL
  rw [List.getElem?_map]
  cases B.ds[d]? <;> rfl
theorem cur_bd {B : Belt} (h : B.Ok) (d : Nat) : 0 ≤ at0 (curL B) d ∧ at0 (curL B) d < B.f := by
  have f2 := h.f2
  rw [cur_at]
  cases e : B.ds[d]? with
  | none => simp; omega
  | some n =>
    have := h.dl n (List.mem_of_getElem? e)
    simp
    omega
/-- what moved tells of m times the counts -/
theorem mv_pos {B : Belt} (h : B.Ok) (cs : List Int) (m : Int) : (mvAll B 0 (cs.map (· * m)) (curL B)).map D.int = (B.at_ (dl B 0 cs) m).ds.map fun n : Nat => D.int (n : Nat) := by
  have f2 := h.f2
  have hl : (curL B).length = B.ds.length := by simp [curL]
  have e : mvAll B 0 (cs.map (· * m)) (curL B) = (posL B (dl B 0 cs) m).map fun n : Nat => (n : Int) := by
    obtain ⟨_, l1⟩ := mv_at h (d := 0) (cs.map (· * m)) 0 (curL B) hl (cur_bd h 0)
    refine List.ext_getElem? fun d => ?_
    by_cases hd : d < B.ds.length
    · obtain ⟨a, _⟩ := mv_at h (d := d) (cs.map (· * m)) 0 (curL B) hl (cur_bd h d)
      rw [dl_mul, cur_at] at a
      rw [List.getElem?_map, posL_get hd]
      have hlt : d < (mvAll B 0 (cs.map (· * m)) (curL B)).length := by rw [l1]; exact hd
      have hg : (mvAll B 0 (cs.map (· * m)) (curL B))[d]? = some (at0 (mvAll B 0 (cs.map (· * m)) (curL B)) d) := by
        unfold at0; rw [List.getElem?_eq_getElem hlt]; rfl
      rw [hg, a]
      have h1 := Int.emod_nonneg ((((B.ds[d]?).getD 0 : Nat) : Int) + dl B 0 cs d * m) (show (B.f : Int) ≠ 0 by omega)
      show some _ = some (((((((B.ds[d]?).getD 0 : Nat) : Int) + dl B 0 cs d * m) % (B.f : Int)).toNat : Nat) : Int)
      rw [Int.toNat_of_nonneg h1]
    · rw [List.getElem?_eq_none (by rw [l1]; omega), List.getElem?_eq_none (by rw [List.length_map, posL_len]; omega)]
  rw [e, List.map_map]
  rfl
theorem gMul_int {i j : Int} (h : CMul i j) : gMul (.int i) (.int j) = some (.d (.int (i * j))) := if_pos h
theorem cmul_r {i j : Int} (h0 : 0 ≤ j) (h1 : j ≤ 1000000000000000000) : CMul i j := by
  refine .inr ?_
  have e : (2 : Int) ^ 64 = 18446744073709551616 := rfl
  rw [e]
  omega
/-! turned, after -/
end DB

set_option Elab.async false
set_option linter.all false
set_option maxRecDepth 100000
set_option maxHeartbeats 4000000
namespace DB
open PySem PySem.Spec PyProof.Rows L2
/-! plain: any press -/
def isUD (x : D) : Bool := match x with
  | .str s => decide (s = "up") || decide (s = "down")
  | _ => false
def priceAt (B : Belt) (i : Int) : Bool := match atI B.ps i with
  | some (some _) => true
  | _ => false
def pAt (B : Belt) (a : D) : Bool := match a with
  | .int i => priceAt B i
  | _ => false
def pGood (B : Belt) (x : D) : Bool := match x with
  | .tup [a, b] => isN a 0 ((B.ps.length : Int) - 1) && isUD b && pAt B a
  | _ => false
theorem eqB_strN {s : Str} {x : D} (h : ∀ z, x ≠ .str z) : eqB (.str s) x = false := by
  cases x with
  | str z => exact (h z rfl).elim
  | _ => simp [eqB, toPy, PyData.eqv]
theorem any_ud {x : D} : ([D.str "up", D.str "down"].any fun z => eqB z x) = isUD x := by
  cases x with
  | str s =>
    simp only [List.any_cons, List.any_nil, eqB_str, Bool.or_false, isUD]
    rw [decide_eq_decide.mpr (show (("up" : Str) = s) ↔ (s = "up") from eq_comm), decide_eq_decide.mpr (show (("down" : Str) = s) ↔ (s = "down") from eq_comm)]
  | _ =>
    simp only [List.any_cons, List.any_nil, Bool.or_false, isUD]
    rw [eqB_strN (by intro z h; cases h), eqB_strN (by intro z h; cases h)]
    rfl
theorem in_ud {n : Nat} {x : D} (h : dok n x = true) (hn : n ≤ 63) : gIn x (.tup [.str "up", .str "down"]) = some (.d (.bl (isUD x))) := by
  show (if okE x && okE (.tup [.str "up", .str "down"]) then bO ([D.str "up", D.str "down"].any fun z => eqB z x) else none) = _
  rw [okE_of h hn, up_ok, any_ud]
  rfl
theorem notin_ud {n : Nat} {x : D} (h : dok n x = true) (hn : n ≤ 63) : gNotIn x (.tup [.str "up", .str "down"]) = some (.d (.bl (!isUD x))) := by
  show (if okE x && okE (.tup [.str "up", .str "down"]) then bO (![D.str "up", D.str "down"].any fun z => eqB z x) else none) = _
  rw [okE_of h hn, up_ok, any_ud]
  rfl
theorem ud_str {x : D} (h : isUD x = true) : isTy "str" x = true := by
  cases x <;> first | rfl | (simp [isUD] at h)
theorem price_ix {B : Belt} {i : Int} (h0 : 0 ≤ i) (h1 : i ≤ (B.ps.length : Int) - 1) : ∃ p : Option Nat, atI B.ps i = some p ∧ gIx (.tup (B.ps.map priceD)) (.int i) = some (.d (priceD p)) := by
  obtain ⟨n, rfl⟩ : ∃ n : Nat, i = (n : Int) := ⟨i.toNat, by omega⟩
  have hn : n < B.ps.length := by omega
  refine ⟨B.ps[n], by rw [atI_nat, List.getElem?_eq_getElem hn], ?_⟩
  show (atI (B.ps.map priceD) (n : Int)).map RV.d = _
  rw [atI_nat, List.getElem?_map, List.getElem?_eq_getElem hn]
  rfl
theorem isnot_price (p : Option Nat) : gIsNot (priceD p) .non = some (.d (.bl p.isSome)) := by
  cases p <;> rfl
/-- the shapes of a thing that is asked whether it is a press -/
theorem press_shape (x : D) : (∃ a b, x = .tup [a, b]) ∨ ((∃ ds, x = .tup ds ∧ (ds.length : Int) ≠ 2) ∨ isTy "tuple" x = false) := by
  cases x with
  | tup ds =>
    match ds with
    | [a, b] => exact .inl ⟨a, b, rfl⟩
    | [] => exact .inr (.inl ⟨_, rfl, by simp⟩)
    | [_] => exact .inr (.inl ⟨_, rfl, by simp⟩)
    | _ :: _ :: _ :: _ => exact .inr (.inl ⟨_, rfl, by simp; omega⟩)
  | _ => exact .inr (.inr rfl)
theorem pGood_len {B : Belt} {ds : List D} (h : (ds.length : Int) ≠ 2) : pGood B (.tup ds) = false := by
  match ds with
  | [] => rfl
  | [_] => rfl
  | [a, b] => exact (h rfl).elim
  | _ :: _ :: _ :: _ => rfl
theorem pGood_no {B : Belt} {x : D} (h : isTy "tuple" x = false) : pGood B x = false := by
  cases x <;> first | rfl | (simp [isTy, isTyN, tyN] at h)
theorem ne2 {ds : List D} {w : W} {i : Nat} (e : w.env[i]? = some (.d (.tup ds))) : mBin gNe (mCB (g1 gLen) (mCons (mPk i) mNil)) (mC (.int 2)) w = .ok (.d (.bl (!decide ((ds.length : Int) = 2)))) w := by
  have p : mPk i w = .ok (.d (.tup ds)) w := by unfold mPk; rw [e]
  exact mBin_ok (mCB_ok (mCons_ok p rfl mNil_ok) (show gLen (.tup ds) = some (.d (.int ds.length)) from rfl)) rfl (b := mC (.int 2)) rfl rfl rfl
theorem mOr_t {a b : ME} {w w1 : W} (h : a w = .ok (.d (.bl true)) w1) : mOr a b w = .ok (.d (.bl true)) w1 := by unfold mOr; rw [h]; rfl
theorem mOr_f {a b : ME} {w w1 : W} (h : a w = .ok (.d (.bl false)) w1) : mOr a b w = b w1 := by unfold mOr; rw [h]; rfl
theorem mAnd_t {a b : ME} {w w1 : W} (h : a w = .ok (.d (.bl true)) w1) : mAnd a b w = b w1 := by unfold mAnd; rw [h]; rfl
theorem mAnd_f {a b : ME} {w w1 : W} (h : a w = .ok (.d (.bl false)) w1) : mAnd a b w = .ok (.d (.bl false)) w1 := by unfold mAnd; rw [h]; rfl
theorem mNot_ok {a : ME} {w w1 : W} {b : Bool} (h : a w = .ok (.d (.bl b)) w1) : mNot a w = .ok (.d (.bl (!b))) w1 := by unfold mNot; rw [h]; cases b <;> rfl
theorem mIsi_ok {T : String} {a : ME} {w w1 : W} {x : D} {u : RV} (h : a w = .ok u w1) (hu : u.frz = some x) (ht : hasTy x = true) : mIsi T a w = .ok (.d (.bl (isTy T x))) w1 := by
  unfold mIsi Res.bd Res.bind
  rw [h]; simp only [hu, ht, if_true]
theorem mIf_t' {c : ME} {a b : MS} {w w1 : W} (h : c w = .ok (.d (.bl true)) w1) : mIf c a b w = a w1 := by unfold mIf; rw [h]; rfl
theorem mIf_f' {c : ME} {a b : MS} {w w1 : W} (h : c w = .ok (.d (.bl false)) w1) : mIf c a b w = b w1 := by unfold mIf; rw [h]; rfl
end DB

set_option Elab.async false
set_option linter.all false
set_option maxRecDepth 100000
set_option maxHeartbeats 4000000
namespace DB
open PySem PySem.Spec PyProof.Rows L2
theorem nx_rt {c : ME} {a rest : MS} {w : W} {rv : RV} {S : List Cell} (h : c w = .ok (.d (.bl true)) w) (ha : a w = .rt rv S) : mSeq (mIf c a mNext) rest w = .rt rv S := by
  unfold mSeq; rw [mIf_t' h, ha]
theorem nx_nx {c : ME} {a rest : MS} {w : W} (h : c w = .ok (.d (.bl false)) w) : mSeq (mIf c a mNext) rest w = rest w := by
  unfold mSeq; rw [mIf_f' h]; rfl
theorem nx_nx' {c : ME} {a rest : MS} {w : W} (h : c w = .ok (.d (.bl false)) w) : mSeq (mIf c a mNext) rest w = rest w := nx_nx h
theorem retb {b : Bool} {w : W} : mRet (mC (.bl b)) w = .rt (.d (.bl b)) w.S := rfl
theorem last2 {i : Nat} {w : W} {a b : D} (e : w.env[i]? = some (.d (.tup [a, b]))) : mBin gIx (mPk i) (mC (.int 0)) w = .ok (.d a) w ∧ mBin gIx (mPk i) (mC (.int 1)) w = .ok (.d b) w := by
  have p : mPk i w = .ok (.d (.tup [a, b])) w := by unfold mPk; rw [e]
  exact ⟨mBin_ok p rfl (b := mC (.int 0)) rfl rfl rfl, mBin_ok p rfl (b := mC (.int 1)) rfl rfl rfl⟩
theorem len4 {B : Belt} {x1 : RV} {S : List Cell} : mCB (g1 gLen) (mCons (mBin gIx (mPk 0) (mC (.int 4))) mNil) ⟨[.d B.d, x1], S⟩ = .ok (.d (.int (B.ps.length : Nat))) ⟨[.d B.d, x1], S⟩ := by
  refine mCB_ok (mCons_ok (mBin_ok (a := mPk 0) (u := .d B.d) rfl rfl (b := mC (.int 4)) rfl rfl (show gIx B.d (.int 4) = some (.d (.tup (B.ps.map priceD))) from rfl)) rfl mNil_ok) ?_
  show gLen (.tup (B.ps.map priceD)) = _
  simp [gLen, iO]
theorem ix4 {B : Belt} {x1 : RV} {S : List Cell} : mBin gIx (mPk 0) (mC (.int 4)) ⟨[.d B.d, x1], S⟩ = .ok (.d (.tup (B.ps.map priceD))) ⟨[.d B.d, x1], S⟩ := mBin_ok (a := mPk 0) (u := .d B.d) rfl rfl (b := mC (.int 4)) rfl rfl (show gIx B.d (.int 4) = some (.d (.tup (B.ps.map priceD))) from rfl)
theorem price_last {B : Belt} {a b : D} {S : List Cell} (ha : isN a 0 ((B.ps.length : Int) - 1) = true) : mBin gIsNot (mBin gIx (mBin gIx (mPk 0) (mC (.int 4))) (mBin gIx (mPk 1) (mC (.int 0)))) (mC .non) ⟨[.d B.d, .d (.tup [a, b])], S⟩ = .ok (.d (.bl (pAt B a))) ⟨[.d B.d, .d (.tup [a, b])], S⟩ := by
  obtain ⟨i, rfl, i0, i1⟩ := isN_inv ha
  obtain ⟨p, e1, e2⟩ := price_ix i0 i1
  have q := mBin_ok (mBin_ok ix4 rfl (last2 (i := 1) (w := ⟨[.d B.d, .d (.tup [.int i, b])], S⟩) rfl).1 rfl e2) rfl (b := mC .non) rfl rfl (isnot_price p)
  rw [q]
  have : pAt B (.int i) = p.isSome := by show priceAt B i = _; unfold priceAt; rw [e1]; cases p <;> rfl
  rw [this]
theorem ud_tup {w : W} : mTup (mCons (mC (.str "up")) (mCons (mC (.str "down")) mNil)) w = .ok (.d (.tup [.str "up", .str "down"])) w := mTup_ok (mCons_ok rfl rfl (mCons_ok rfl rfl mNil_ok)) (show 2 ≤ sizeLine by decide)
theorem isn_no {a : D} {lo hi : Int} (h : isTy "int" a = false ∨ isTy "bool" a = true) : isN a lo hi = false := by
  cases a <;> first | rfl | (simp [isTy, isTyN, tyN] at h)
theorem int_of {a : D} (h1 : isTy "int" a = true) (h2 : isTy "bool" a = false) : ∃ i, a = .int i := by
  cases a <;> first | exact ⟨_, rfl⟩ | (simp [isTy, isTyN, tyN] at h1; done) | (simp [isTy, isTyN, tyN] at h2; done)
theorem chain_ok {a b c : ME} {w : W} {i j k : Int} (ha : a w = .ok (.d (.int i)) w) (hb : b w = .ok (.d (.int j)) w) (hc : c w = .ok (.d (.int k)) w) : mChain gLe gLt a b c w = .ok (.d (.bl (decide (i ≤ j) && decide (j < k)))) w := by
  unfold mChain
  rw [ha]
  simp only [Res.bd, Res.bind, RV.frz, hb, gLe, gCmpI, bO, ofO]
  by_cases h : i ≤ j
  · simp [h, hc, gLt, gCmpI, bO, ofO, Res.bd, Res.bind, RV.frz, Res.bb]
  · simp [h, hc, gLt, gCmpI, bO, ofO, Res.bd, Res.bind, RV.frz, Res.bb]
end DB

set_option Elab.async false
set_option linter.all false
set_option maxRecDepth 100000
set_option maxHeartbeats 4000000
namespace DB
open PySem PySem.Spec PyProof.Rows L2
/-! plain: comprehensions with a test -/
theorem lcL_filt {α : Type} {vs : List Nat} {g : MG} {t e : ME} {w : W} (inp out : α → D) (p : α → Bool) (hv : okVs w.env vs = true) : ∀ (xs : List α) (acc : List D),
    (∀ x ∈ xs, ∃ w1 w2, g (inp x) { w with env := wipeE w.env vs } = some w1 ∧ t w1 = .ok (.d (.bl (p x))) w2 ∧ (p x = true → ∃ rv w3, e w2 = .ok rv w3 ∧ rv.frz = some (out x) ∧ mixE w.env w3.env vs = w.env ∧ w3.S = w.S) ∧ (p x = false → mixE w.env w2.env vs = w.env ∧ w2.S = w.S)) →
    acc.length + xs.length ≤ sizeLine → lcL vs g t e (xs.map inp) acc w = .ok (.own (acc ++ (xs.filter p).map out)) w
  | [], acc, _, _ => by simp [lcL]
  | x :: xs, acc, h, hl => by
    obtain ⟨w1, w2, e1, e2, e3, e4⟩ := h x (List.mem_cons_self ..)
    have hlt : acc.length < sizeLine := by simp at hl; omega
    cases b : p x with
    | true =>
      obtain ⟨rv, w3, f1, f2, f4, f5⟩ := e3 b
      have ih := lcL_filt inp out p hv xs (acc ++ [out x]) (fun y hy => h y (List.mem_cons_of_mem _ hy)) (by simp at hl ⊢; omega)
      rw [List.map_cons]
      unfold lcL
      rw [if_pos hv, e1]
      rw [b] at e2
      simp only [e2, f1, Res.bd, Res.bind, f2, if_pos hlt, f4, f5]
      rw [ih, List.filter_cons_of_pos b, List.map_cons, List.append_assoc]; rfl
    | false =>
      obtain ⟨f4, f5⟩ := e4 b
      have ih := lcL_filt inp out p hv xs acc (fun y hy => h y (List.mem_cons_of_mem _ hy)) (by simp at hl ⊢; omega)
      rw [List.map_cons]
      unfold lcL
      rw [if_pos hv, e1]
      rw [b] at e2
      simp only [e2, f4, f5]
      rw [ih, List.filter_cons_of_neg (by simp [b])]
theorem mLc_filt {α : Type} {vs : List Nat} {mi : MA} {g : MG} {t e : ME} {w0 w : W} (inp out : α → D) (p : α → Bool) (xs : List α) (hi : mi w0 = .ok (xs.map inp) w) (hv : okVs w.env vs = true)
    (h : ∀ x ∈ xs, ∃ w1 w2, g (inp x) { w with env := wipeE w.env vs } = some w1 ∧ t w1 = .ok (.d (.bl (p x))) w2 ∧ (p x = true → ∃ rv w3, e w2 = .ok rv w3 ∧ rv.frz = some (out x) ∧ mixE w.env w3.env vs = w.env ∧ w3.S = w.S) ∧ (p x = false → mixE w.env w2.env vs = w.env ∧ w2.S = w.S)) (hl : xs.length ≤ sizeLine) :
    mLc vs mi g t e w0 = .ok (.own ((xs.filter p).map out)) w := by
  unfold mLc
  rw [hi]
  simpa using lcL_filt (g := g) (t := t) (e := e) inp out p hv xs [] h (by simpa using hl)
theorem mRng_nat {r : MA} {w w1 : W} {n : Nat} (h : r w = .ok [.int (n : Int)] w1) (h2 : n < 1000000) : mRng1 r w = .ok ((List.range n).map fun i : Nat => D.int (i : Int)) w1 := by
  rw [← rngD_range]
  exact mRng1_at h (by omega) (by omega)
theorem mAnd_ok {a b : ME} {w : W} {x y : Bool} (h : a w = .ok (.d (.bl x)) w) (h2 : x = true → b w = .ok (.d (.bl y)) w) : mAnd a b w = .ok (.d (.bl (x && y))) w := by
  cases x with
  | true => exact (mAnd_t h).trans (h2 rfl)
  | false => exact mAnd_f h
/-! _law_same tells that a thing is the same as itself -/
theorem same_eq (F : MF) : m__law_same F = (mSeq (mIf (mIsi2 "tuple" "list" (mPk 1)) (mSeq (mIf (mOr (mNot (mIsi2 "tuple" "list" (mPk 0))) (mBin gNe (mIsi "list" (mPk 0)) (mIsi "list" (mPk 1)))) (mRet (mC (.bl false))) mNext)
  (mSeq (mIf (mBin gNe (mCB (g1 gLen) (mCons (mPk 0) mNil)) (mCB (g1 gLen) (mCons (mPk 1) mNil))) (mRet (mC (.bl false))) mNext)
  (mRet (mBin gEq (mLc [3] (mRng1 (mCons (mCB (g1 gLen) (mCons (mPk 1) mNil)) mNil)) (gNm 3) (mNot (mCall F (mCons (mBin gIx (mPk 0) (mPk 3)) (mCons (mBin gIx (mPk 1) (mPk 3)) mNil)))) (mVar 3)) (mLst mNil))))) mNext)
  (mSeq (mSet 2 (mAnd (mBin gEq (mIsi "bool" (mPk 0)) (mIsi "bool" (mPk 1))) (mBin gEq (mIsi "int" (mPk 0)) (mIsi "int" (mPk 1)))))
  (mRet (mAnd (mVar 2) (mBin gEq (mPk 0) (mPk 1)))))) := by
  unfold m__law_same; rfl
theorem mIsi2_ok {T U : String} {a : ME} {w w1 : W} {x : D} {u : RV} (h : a w = .ok u w1) (hu : u.frz = some x) (ht : hasTy x = true) : mIsi2 T U a w = .ok (.d (.bl (isTy T x || isTy U x))) w1 := by
  unfold mIsi2 Res.bd Res.bind
  rw [h]; simp only [hu, ht, if_true]
theorem gNe_bl (b : Bool) : gNe (.bl b) (.bl b) = some (.d (.bl false)) := by
  exact gNe_self (okE_of (n := 0) (by simp [dok]) (by decide))
theorem gEq_bl (b : Bool) : gEq (.bl b) (.bl b) = some (.d (.bl true)) := gEq_self (okE_of (n := 0) (by simp [dok]) (by decide))
theorem nil_okE : okE (.lst []) = true := okE_of (n := 1) (by simp [dok, doks]) (by decide)
/-- a sequence: its items, all of them the same as themselves -/
theorem same_seq {F : MF} {x : D} {ds : List D} {S : List Cell} (ty : hasTy x = true) (h1 : isTy "tuple" x = true ∨ isTy "list" x = true) (hlen : gLen x = some (.d (.int (ds.length : Nat)))) (hix : ∀ k : Nat, k < ds.length → ∃ d, gIx x (.int (k : Nat)) = some (.d d) ∧ F [d, d] S = .ok (.d (.bl true)) S) (hl : ds.length ≤ 1000) :
    bodyF 4 2 (m__law_same F) [x, x] S = .ok (.d (.bl true)) S := by
  let w0 : W := ⟨[.d x, .d x, .un, .un], S⟩
  have t0 := mIsi2_ok (T := "tuple") (U := "list") (a := mPk 0) (w := w0) (u := .d x) rfl rfl ty
  have t1 := mIsi2_ok (T := "tuple") (U := "list") (a := mPk 1) (w := w0) (u := .d x) rfl rfl ty
  have hor : (isTy "tuple" x || isTy "list" x) = true := by rcases h1 with h | h <;> simp [h]
  rw [hor] at t0 t1
  have l0 := mIsi_ok (T := "list") (a := mPk 0) (w := w0) (u := .d x) rfl rfl ty
  have l1 := mIsi_ok (T := "list") (a := mPk 1) (w := w0) (u := .d x) rfl rfl ty
  have c1 := (mOr_f (b := mBin gNe (mIsi "list" (mPk 0)) (mIsi "list" (mPk 1))) (mNot_ok t0)).trans (mBin_ok l0 rfl l1 rfl (gNe_bl _))
  have n0 : mCB (g1 gLen) (mCons (mPk 0) mNil) w0 = .ok (.d (.int (ds.length : Nat))) w0 := mCB_ok (mCons_ok (rv := .d x) rfl rfl mNil_ok) hlen
  have n1 : mCB (g1 gLen) (mCons (mPk 1) mNil) w0 = .ok (.d (.int (ds.length : Nat))) w0 := mCB_ok (mCons_ok (rv := .d x) rfl rfl mNil_ok) hlen
  have c2 : mBin gNe (mCB (g1 gLen) (mCons (mPk 0) mNil)) (mCB (g1 gLen) (mCons (mPk 1) mNil)) w0 = .ok (.d (.bl false)) w0 := mBin_ok n0 rfl n1 rfl (by show some (RV.d (.bl (!decide _))) = _; simp)
  have lc : mLc [3] (mRng1 (mCons (mCB (g1 gLen) (mCons (mPk 1) mNil)) mNil)) (gNm 3) (mNot (mCall F (mCons (mBin gIx (mPk 0) (mPk 3)) (mCons (mBin gIx (mPk 1) (mPk 3)) mNil)))) (mVar 3) w0 = .ok (.own []) w0 := by
    have q := mLc_filt (vs := [3]) (g := gNm 3) (t := mNot (mCall F (mCons (mBin gIx (mPk 0) (mPk 3)) (mCons (mBin gIx (mPk 1) (mPk 3)) mNil)))) (e := mVar 3) (w0 := w0) (w := w0) (fun i : Nat => D.int (i : Int)) (fun i : Nat => D.int (i : Int)) (fun _ => false) (List.range ds.length)
      (mRng_nat (mCons_ok n1 rfl mNil_ok) (by omega)) rfl (fun k hk => by
        have hk := List.mem_range.mp hk
        obtain ⟨d, e1, e2⟩ := hix k hk
        let w1 : W := ⟨[.d x, .d x, .un, .d (.int (k : Nat))], S⟩
        have i0 : mBin gIx (mPk 0) (mPk 3) w1 = .ok (.d d) w1 := mBin_ok (a := mPk 0) (u := .d x) rfl rfl (b := mPk 3) (v := .d (.int (k : Nat))) rfl rfl e1
        have i1 : mBin gIx (mPk 1) (mPk 3) w1 = .ok (.d d) w1 := mBin_ok (a := mPk 1) (u := .d x) rfl rfl (b := mPk 3) (v := .d (.int (k : Nat))) rfl rfl e1
        exact ⟨w1, w1, rfl, mNot_ok (mCall_ok (mCons_ok i0 rfl (mCons_ok i1 rfl mNil_ok)) e2 rfl), fun h => by simp at h, fun _ => ⟨rfl, rfl⟩⟩) (by simp; exact Nat.le_trans hl (by decide))
    have ef : (List.range ds.length).filter (fun _ => false) = [] := List.filter_eq_nil_iff.mpr (by simp)
    rw [ef] at q
    exact q
  have fin : mBin gEq (mLc [3] (mRng1 (mCons (mCB (g1 gLen) (mCons (mPk 1) mNil)) mNil)) (gNm 3) (mNot (mCall F (mCons (mBin gIx (mPk 0) (mPk 3)) (mCons (mBin gIx (mPk 1) (mPk 3)) mNil)))) (mVar 3)) (mLst mNil) w0 = .ok (.d (.bl true)) w0 :=
    mBin_ok lc rfl (mLst_ok mNil_ok (show 0 ≤ sizeLine by decide)) rfl (gEq_self nil_okE)
  have body : m__law_same F w0 = .rt (.d (.bl true)) S := by
    rw [same_eq]
    refine mSeq_rt ?_
    rw [mIf_t' t1, nx_nx c1, nx_nx c2]
    exact mRet_ok (w1 := w0) fin
  exact bodyF_rt rfl rfl body rfl
theorem same_sc {F : MF} {x : D} {S : List Cell} (ty : hasTy x = true) (h1 : isTy "tuple" x = false) (h2 : isTy "list" x = false) (ok : okE x = true) : bodyF 4 2 (m__law_same F) [x, x] S = .ok (.d (.bl true)) S := by
  let w0 : W := ⟨[.d x, .d x, .un, .un], S⟩
  have t1 := mIsi2_ok (T := "tuple") (U := "list") (a := mPk 1) (w := w0) (u := .d x) rfl rfl ty
  rw [h1, h2] at t1
  have b0 := fun T : String => mIsi_ok (T := T) (a := mPk 0) (w := w0) (u := .d x) rfl rfl ty
  have b1 := fun T : String => mIsi_ok (T := T) (a := mPk 1) (w := w0) (u := .d x) rfl rfl ty
  have q1 := mSet_ok (i := 2) (mAnd_ok (mBin_ok (b0 "bool") rfl (b1 "bool") rfl (gEq_bl _)) fun _ => mBin_ok (b0 "int") rfl (b1 "int") rfl (gEq_bl _)) (show 2 < 4 by decide)
  let w2 : W := ⟨[.d x, .d x, .d (.bl true), .un], S⟩
  have fin : mAnd (mVar 2) (mBin gEq (mPk 0) (mPk 1)) w2 = .ok (.d (.bl true)) w2 := mAnd_ok (x := true) rfl fun _ => mBin_ok (a := mPk 0) (u := .d x) rfl rfl (b := mPk 1) (v := .d x) rfl rfl (gEq_self ok)
  have body : m__law_same F w0 = .rt (.d (.bl true)) S := by
    rw [same_eq, nx_nx t1, mSeq_nx q1]
    exact mRet_ok (w1 := w2) fin
  exact bodyF_rt rfl rfl body rfl
theorem gIx_tup {ds : List D} {k : Nat} (h : k < ds.length) : gIx (.tup ds) (.int (k : Nat)) = some (.d ds[k]) := by
  show (atI ds (k : Int)).map RV.d = _
  rw [atI_nat, List.getElem?_eq_getElem h]; rfl
theorem gIx_lst {ds : List D} {k : Nat} (h : k < ds.length) : gIx (.lst ds) (.int (k : Nat)) = some (.d ds[k]) := by
  show (atI ds (k : Int)).map RV.d = _
  rw [atI_nat, List.getElem?_eq_getElem h]; rfl
/-- simple data, n deep -/
def smp : Nat → D → Bool
  | _, .non => true
  | _, .bl _ => true
  | _, .int _ => true
  | _, .str x => PyData.strOk x
  | n + 1, .tup ds => decide (ds.length ≤ 1000) && ds.all (smp n)
  | n + 1, .lst ds => decide (ds.length ≤ 1000) && ds.all (smp n)
  | _, _ => false
theorem smp_seq {n : Nat} {ds : List D} (h : (decide (ds.length ≤ 1000) && ds.all (smp n)) = true) : ds.length ≤ 1000 ∧ ∀ d ∈ ds, smp n d = true := by
  obtain ⟨a, b⟩ := Bool.and_eq_true_iff.mp h
  exact ⟨of_decide_eq_true a, List.all_eq_true.mp b⟩
theorem same_smp : ∀ (n m : Nat) (d : D) (S : List Cell), smp n d = true → Fr__law_same (n + m + 1) [d, d] S = .ok (.d (.bl true)) S
  | n, m, .non, S, _ => same_sc rfl rfl rfl (okE_of (n := 0) (by simp [dok]) (by decide))
  | n, m, .bl b, S, _ => same_sc rfl rfl rfl (okE_of (n := 0) (by simp [dok]) (by decide))
  | n, m, .int b, S, _ => same_sc rfl rfl rfl (okE_of (n := 0) (by simp [dok]) (by decide))
  | n, m, .str b, S, h => same_sc rfl rfl rfl (okE_of (n := 0) (by cases n <;> simpa [dok, smp] using h) (by decide))
  | n + 1, m, .tup ds, S, h => by
    obtain ⟨h1, h2⟩ := smp_seq (by simpa only [smp] using h)
    rw [show n + 1 + m + 1 = (n + m + 1) + 1 by omega]
    exact same_seq (ds := ds) rfl (.inl rfl) rfl (fun k hk => ⟨ds[k], gIx_tup hk, same_smp n m _ S (h2 _ (List.getElem_mem hk))⟩) h1
  | n + 1, m, .lst ds, S, h => by
    obtain ⟨h1, h2⟩ := smp_seq (by simpa only [smp] using h)
    rw [show n + 1 + m + 1 = (n + m + 1) + 1 by omega]
    exact same_seq (ds := ds) rfl (.inr rfl) rfl (fun k hk => ⟨ds[k], gIx_lst hk, same_smp n m _ S (h2 _ (List.getElem_mem hk))⟩) h1
  | 0, _, .tup _, _, h => by simp [smp] at h
  | 0, _, .lst _, _, h => by simp [smp] at h
  | 0, _, .dic _ _, _, h => by simp [smp] at h
  | _ + 1, _, .dic _ _, _, h => by simp [smp] at h
  | 0, _, .obj _ _ _, _, h => by simp [smp] at h
  | _ + 1, _, .obj _ _ _, _, h => by simp [smp] at h
  | 0, _, .cell _, _, h => by simp [smp] at h
  | _ + 1, _, .cell _, _, h => by simp [smp] at h
  | 0, _, .scr _, _, h => by simp [smp] at h
  | _ + 1, _, .scr _, _, h => by simp [smp] at h
  | 0, _, .fn _, _, h => by simp [smp] at h
  | _ + 1, _, .fn _, _, h => by simp [smp] at h
theorem same_ok {n : Nat} {d : D} (h : smp n d = true) (hn : n ≤ 5) (S : List Cell) : F__law_same [d, d] S = .ok (.d (.bl true)) S := by
  have q := same_smp n (5 - n) d S h
  rw [show n + (5 - n) + 1 = 6 by omega] at q
  exact q
theorem smp_dok : ∀ {n : Nat} {d : D}, smp n d = true → dok n d = true
  | n, .non, _ => by cases n <;> simp [dok]
  | n, .bl b, _ => by cases n <;> simp [dok]
  | n, .int b, _ => by cases n <;> simp [dok]
  | n, .str b, h => by cases n <;> simpa [dok, smp] using h
  | n + 1, .tup ds, h => by
    obtain ⟨h1, h2⟩ := smp_seq (by simpa only [smp] using h)
    simp only [dok]
    exact doks_all fun d hd => smp_dok (h2 d hd)
  | n + 1, .lst ds, h => by
    obtain ⟨h1, h2⟩ := smp_seq (by simpa only [smp] using h)
    simp only [dok]
    exact doks_all fun d hd => smp_dok (h2 d hd)
  | 0, .tup _, h => by simp [smp] at h
  | 0, .lst _, h => by simp [smp] at h
  | 0, .dic _ _, h => by simp [smp] at h
  | _ + 1, .dic _ _, h => by simp [smp] at h
  | 0, .obj _ _ _, h => by simp [smp] at h
  | _ + 1, .obj _ _ _, h => by simp [smp] at h
  | 0, .cell _, h => by simp [smp] at h
  | _ + 1, .cell _, h => by simp [smp] at h
  | 0, .scr _, h => by simp [smp] at h
  | _ + 1, .scr _, h => by simp [smp] at h
  | 0, .fn _, h => by simp [smp] at h
  | _ + 1, .fn _, h => by simp [smp] at h
end DB

set_option Elab.async false
set_option linter.all false
set_option maxRecDepth 100000
set_option maxHeartbeats 4000000
namespace DB
open PySem PySem.Spec PyProof.Rows L2
/-! plain: lists of presses, some that can't be -/
def firstBad (B : Belt) : Nat → List D → Option Nat
  | _, [] => none
  | k, x :: xs => if pGood B x = true then firstBad B (k + 1) xs else some k
def badPress (k : Nat) : Exc := ⟨"BadPress", ["number"], [.int (k : Nat)]⟩
theorem forL_ex {g : MG} {b : MS} {d : D} {ds : List D} {w w1 w2 : W} {x : Exc} (h1 : g d w = some w1) (h2 : b w1 = .ex x w2) : forL g b (d :: ds) w = .ex x w2 := by
  show (match g d w with
    | none => RS.bad
    | some w1 => match b w1 with
      | .nx w2 => forL g b ds w2
      | .ct w2 => forL g b ds w2
      | .bk w2 => .nx w2
      | r => r) = _
  rw [h1]; simp only [h2]
theorem bodyF_ex {n k : Nat} {m : MS} {ds : List D} {S : List Cell} {w w' : W} {x : Exc} (h : ds.length = k) (hw : (⟨ds.map .d ++ List.replicate (n - k) .un, S⟩ : W) = w) (hm : m w = .ex x w') : bodyF n k m ds S = .ex x w'.S := by
  rw [bodyF_at h, hw, hm]
theorem bodyF_nx {n k : Nat} {m : MS} {ds : List D} {S : List Cell} {w w' : W} (h : ds.length = k) (hw : (⟨ds.map .d ++ List.replicate (n - k) .un, S⟩ : W) = w) (hm : m w = .nx w') : bodyF n k m ds S = .ok (.d .non) w'.S := by
  rw [bodyF_at h, hw, hm]
/-! all good: bands and ways -/
theorem good_press {B : Belt} {x : D} (h : pGood B x = true) : ∃ p : Nat × Bool, x = pressD p ∧ PrOk B p := by
  rcases press_shape x with ⟨a, b, rfl⟩ | ⟨ds, rfl, hd⟩ | hd
  · have h' : (isN a 0 ((B.ps.length : Int) - 1) && isUD b && pAt B a) = true := h
    obtain ⟨h1, h3⟩ := Bool.and_eq_true_iff.mp h'
    obtain ⟨h1, h2⟩ := Bool.and_eq_true_iff.mp h1
    obtain ⟨i, rfl, i0, i1⟩ := isN_inv h1
    obtain ⟨p, e1, e2⟩ := price_ix i0 i1
    have hp : p.isSome = true := by
      have h4 : priceAt B i = true := h3
      unfold priceAt at h4
      rw [e1] at h4
      cases p <;> simp at h4 ⊢
    obtain ⟨n, rfl⟩ : ∃ n : Nat, i = (n : Int) := ⟨i.toNat, by omega⟩
    rw [atI_nat] at e1
    obtain ⟨m, rfl⟩ := Option.isSome_iff_exists.mp hp
    cases b with
    | str s =>
      have hs : s = "up" ∨ s = "down" := by simpa [isUD] using h2
      rcases hs with rfl | rfl
      · exact ⟨(n, true), rfl, ⟨m, e1⟩⟩
      · exact ⟨(n, false), rfl, ⟨m, e1⟩⟩
    | _ => simp [isUD] at h2
  · rw [pGood_len hd] at h; cases h
  · rw [pGood_no hd] at h; cases h
theorem good_list {B : Belt} : ∀ {xs : List D}, (∀ x ∈ xs, pGood B x = true) → ∃ l : List (Nat × Bool), xs = l.map pressD ∧ ∀ p ∈ l, PrOk B p
  | [], _ => ⟨[], rfl, by simp⟩
  | x :: xs, h => by
    obtain ⟨p, e, hp⟩ := good_press (h x (List.mem_cons_self ..))
    obtain ⟨l, e2, hl⟩ := good_list (xs := xs) fun y hy => h y (List.mem_cons_of_mem _ hy)
    exact ⟨p :: l, by rw [e, e2]; rfl, fun q hq => (List.mem_cons.mp hq).elim (fun z => by rw [z]; exact hp) (hl q)⟩
/-- the places of what can't be -/
def badIx (B : Belt) (xs : List D) : List Nat := (List.range xs.length).filter fun k => !pGood B ((xs[k]?).getD .non)
theorem bad_first {B : Belt} : ∀ (xs : List D) (k : Nat), firstBad B k xs = ((badIx B xs).head?).map (· + k)
  | [], k => rfl
  | x :: xs, k => by
    have ih := bad_first (B := B) xs (k + 1)
    have e : badIx B (x :: xs) = (if !pGood B x then [0] else []) ++ (badIx B xs).map (· + 1) := by
      unfold badIx
      rw [List.length_cons, List.range_succ_eq_map, List.filter_cons]
      have e2 : ((List.range xs.length).map Nat.succ).filter (fun k => !pGood B (((x :: xs)[k]?).getD .non)) = ((List.range xs.length).filter fun k => !pGood B ((xs[k]?).getD .non)).map (· + 1) := by
        rw [List.filter_map]; rfl
      rw [e2, show ((x :: xs)[0]?).getD D.non = x from rfl]
      cases pGood B x <;> rfl
    rw [e]
    by_cases c : pGood B x = true
    · show (if pGood B x = true then firstBad B (k + 1) xs else some k) = _
      rw [if_pos c, ih, c]
      cases badIx B xs with
      | nil => rfl
      | cons a l => show some (a + (k + 1)) = some (a + 1 + k); congr 1; omega
    · show (if pGood B x = true then firstBad B (k + 1) xs else some k) = _
      rw [if_neg c]
      have c' : pGood B x = false := by simpa using c
      rw [c']
      show some k = some (0 + k)
      congr 1; omega
theorem bad_nil {B : Belt} {xs : List D} (h : badIx B xs = []) : ∀ x ∈ xs, pGood B x = true := fun x hx => by
  obtain ⟨k, hk, e⟩ := List.getElem_of_mem hx
  have := List.filter_eq_nil_iff.mp h k (List.mem_range.mpr hk)
  rw [List.getElem?_eq_getElem hk] at this
  simpa [e] using this
theorem kind_press (k : Nat) : kindD (badPress k) = some (.tup [.str "BadPress", .int (k : Nat)]) := rfl
end DB

set_option Elab.async false
set_option linter.all false
set_option maxRecDepth 100000
set_option maxHeartbeats 4000000
namespace DB
open PySem PySem.Spec PyProof.Rows L2
/-! plain: where bands lead, as the law reckons it -/
noncomputable def bIn : MS := (mSeq (mSet 5 (mBin gMod (mBin gAdd (mPk 3) (mPk 4)) (mCB (g1 gLen) (mCons (mPk 2) mNil))))
  (mSetIx 2 (mVar 5) (mBin gMod (mBin gAdd (mBin gIx (mPk 2) (mPk 5)) (mBin gIx (mPk 1) (mPk 3))) (mBin gIx (mPk 0) (mC (.int 1))))))
noncomputable def bOut : MS := (mFor (mRng1 (mCons (mBin gIx (mPk 0) (mC (.int 2))) mNil)) (gNm 4) bIn)
theorem behind_eq : m__law_behind = mSeq (mSet 2 (mCB (g1 gList) (mCons (mBin gIx (mPk 0) (mC (.int 3))) mNil))) (mSeq (mFor (mRng1 (mCons (mCB (g1 gLen) (mCons (mPk 1) mNil)) mNil)) (gNm 3) bOut) (mRet (mCB (g1 gTuple) (mCons (mPk 2) mNil)))) := by
  unfold m__law_behind bOut bIn; rfl
theorem gAdd_int (i j : Int) : gAdd (.int i) (.int j) = some (.d (.int (i + j))) := rfl
theorem cur_get {cur : List Int} {i : Nat} (h : i < cur.length) : gIx (.lst (cur.map D.int)) (.int (i : Nat)) = some (.d (.int (at0 cur i))) := by
  show (atI (cur.map D.int) (i : Int)).map RV.d = _
  rw [atI_nat, List.getElem?_map, List.getElem?_eq_getElem h]
  unfold at0
  rw [List.getElem?_eq_getElem h]; rfl
theorem b_step {B : Belt} (hf : 0 < B.f) (hn : 0 < B.ds.length) {cs cur : List Int} {k i : Nat} {x5 : RV} {S : List Cell} (hk : k < cs.length) (hc : cur.length = B.ds.length) :
    ∃ z5, bIn ⟨[.d B.d, .d (.lst (cs.map D.int)), .own (cur.map D.int), .d (.int (k : Nat)), .d (.int (i : Nat)), x5], S⟩ = .nx ⟨[.d B.d, .d (.lst (cs.map D.int)), .own ((mvStep B.f (at0 cs k) cur ((k + i) % B.ds.length)).map D.int), .d (.int (k : Nat)), .d (.int (i : Nat)), z5], S⟩ := by
  let E (x : RV) : W := ⟨[.d B.d, .d (.lst (cs.map D.int)), .own (cur.map D.int), .d (.int (k : Nat)), .d (.int (i : Nat)), x], S⟩
  have hlt : (k + i) % B.ds.length < cur.length := by rw [hc]; exact Nat.mod_lt _ hn
  have pl : ∀ x, mCB (g1 gLen) (mCons (mPk 2) mNil) (E x) = .ok (.d (.int (B.ds.length : Nat))) (E x) := fun x => mCB_ok (mCons_ok (m := mPk 2) (rv := .own (cur.map D.int)) rfl rfl mNil_ok) (by show some (RV.d (.int ((cur.map D.int).length : Nat))) = _; rw [List.length_map, hc])
  have p1 : mBin gMod (mBin gAdd (mPk 3) (mPk 4)) (mCB (g1 gLen) (mCons (mPk 2) mNil)) (E x5) = .ok (.d (.int (((k + i) % B.ds.length : Nat) : Int))) (E x5) := by
    have q := mBin_ok (mBin_ok (a := mPk 3) (b := mPk 4) (w := E x5) (u := .d (.int (k : Nat))) (v := .d (.int (i : Nat))) rfl rfl rfl rfl (gAdd_int _ _)) rfl (pl x5) rfl (gMod_at (by omega))
    rw [q]
    congr 3
  have q1 := mSet_ok (i := 5) p1 (show 5 < 6 by decide)
  have i1 : mBin gIx (mPk 2) (mPk 5) (E (.d (.int (((k + i) % B.ds.length : Nat) : Int)))) = .ok (.d (.int (at0 cur ((k + i) % B.ds.length)))) (E (.d (.int (((k + i) % B.ds.length : Nat) : Int)))) := mBin_ok (a := mPk 2) (u := .own (cur.map D.int)) rfl rfl (b := mPk 5) (v := .d (.int (((k + i) % B.ds.length : Nat) : Int))) rfl rfl (cur_get hlt)
  have i2 : mBin gIx (mPk 1) (mPk 3) (E (.d (.int (((k + i) % B.ds.length : Nat) : Int)))) = .ok (.d (.int (at0 cs k))) (E (.d (.int (((k + i) % B.ds.length : Nat) : Int)))) := mBin_ok (a := mPk 1) (u := .d (.lst (cs.map D.int))) rfl rfl (b := mPk 3) (v := .d (.int (k : Nat))) rfl rfl (cur_get hk)
  have i3 : mBin gIx (mPk 0) (mC (.int 1)) (E (.d (.int (((k + i) % B.ds.length : Nat) : Int)))) = .ok (.d (.int (B.f : Nat))) (E (.d (.int (((k + i) % B.ds.length : Nat) : Int)))) := mBin_ok (a := mPk 0) (u := .d B.d) rfl rfl (b := mC (.int 1)) rfl rfl rfl
  have p2 := mBin_ok (mBin_ok i1 rfl i2 rfl (gAdd_int _ _)) rfl i3 rfl (gMod_at (by omega))
  have q2 := mSetIx_ok (i := 2) (mk := mVar 5) (ds := cur.map D.int) (ds2 := cur.map D.int) (n := (k + i) % B.ds.length) (j := (((k + i) % B.ds.length : Nat) : Int)) (v := .d (.int (((k + i) % B.ds.length : Nat) : Int))) p2 rfl rfl rfl rfl rfl (ixN_nat (by rw [List.length_map]; exact hlt))
  refine ⟨.d (.int (((k + i) % B.ds.length : Nat) : Int)), ?_⟩
  unfold bIn
  rw [mSeq_nx q1, show ((E x5).put 5 (.d (.int (((k + i) % B.ds.length : Nat) : Int)))) = E (.d (.int (((k + i) % B.ds.length : Nat) : Int))) from rfl, q2]
  have es : (cur.map D.int).set ((k + i) % B.ds.length) (.int ((at0 cur ((k + i) % B.ds.length) + at0 cs k) % (B.f : Int))) = (mvStep B.f (at0 cs k) cur ((k + i) % B.ds.length)).map D.int := by
    unfold mvStep; rw [List.map_set]
  rw [es]
  rfl
theorem b_in {B : Belt} (hf : 0 < B.f) (hn : 0 < B.ds.length) {cs : List Int} {k : Nat} {S : List Cell} (hk : k < cs.length) : ∀ (is : List Nat) (cur : List Int) (x4 x5 : RV), cur.length = B.ds.length →
    ∃ y4 y5, forL (gNm 4) bIn (is.map fun i : Nat => D.int (i : Int)) ⟨[.d B.d, .d (.lst (cs.map D.int)), .own (cur.map D.int), .d (.int (k : Nat)), x4, x5], S⟩ = .nx ⟨[.d B.d, .d (.lst (cs.map D.int)), .own (((is.map fun i => (k + i) % B.ds.length).foldl (mvStep B.f (at0 cs k)) cur).map D.int), .d (.int (k : Nat)), y4, y5], S⟩
  | [], cur, x4, x5, _ => ⟨x4, x5, rfl⟩
  | i :: is, cur, x4, x5, hc => by
    obtain ⟨z5, e1⟩ := b_step hf hn (S := S) (i := i) (x5 := x5) hk hc
    obtain ⟨y4, y5, e2⟩ := b_in hf hn (S := S) hk is (mvStep B.f (at0 cs k) cur ((k + i) % B.ds.length)) (.d (.int (i : Nat))) z5 (by simp [mvStep, hc])
    refine ⟨y4, y5, ?_⟩
    rw [List.map_cons, forL_nx (g := gNm 4) (w1 := ⟨[.d B.d, .d (.lst (cs.map D.int)), .own (cur.map D.int), .d (.int (k : Nat)), .d (.int (i : Nat)), x5], S⟩) rfl e1]
    exact e2
theorem b_out {B : Belt} (h : B.Ok) {cs : List Int} {S : List Cell} : ∀ (n k : Nat) (cur : List Int) (x3 x4 x5 : RV), k + n = cs.length → cur.length = B.ds.length →
    ∃ y3 y4 y5, forL (gNm 3) bOut ((List.range' k n).map fun i : Nat => D.int (i : Int)) ⟨[.d B.d, .d (.lst (cs.map D.int)), .own (cur.map D.int), x3, x4, x5], S⟩ = .nx ⟨[.d B.d, .d (.lst (cs.map D.int)), .own ((mvAll B k (cs.drop k) cur).map D.int), y3, y4, y5], S⟩
  | 0, k, cur, x3, x4, x5, hk, _ => ⟨x3, x4, x5, by rw [List.drop_of_length_le (by omega)]; rfl⟩
  | n + 1, k, cur, x3, x4, x5, hk, hc => by
    have f2 := h.f2
    have w1 := h.w1
    have wl := h.wl
    have l12 := h.l12
    have hlt : k < cs.length := by omega
    obtain ⟨z4, z5, e1⟩ := b_in (B := B) (S := S) (by omega) (by omega) hlt (List.range B.w) cur x4 x5 hc
    have hi : mRng1 (mCons (mBin gIx (mPk 0) (mC (.int 2))) mNil) ⟨[.d B.d, .d (.lst (cs.map D.int)), .own (cur.map D.int), .d (.int (k : Nat)), x4, x5], S⟩ = .ok ((List.range B.w).map fun i : Nat => D.int (i : Int)) ⟨[.d B.d, .d (.lst (cs.map D.int)), .own (cur.map D.int), .d (.int (k : Nat)), x4, x5], S⟩ :=
      mRng_nat (mCons_ok (mBin_ok (a := mPk 0) (u := .d B.d) rfl rfl (b := mC (.int 2)) rfl rfl (show gIx B.d (.int 2) = some (.d (.int (B.w : Nat))) from rfl)) rfl mNil_ok) (by omega)
    have hb : bOut ⟨[.d B.d, .d (.lst (cs.map D.int)), .own (cur.map D.int), .d (.int (k : Nat)), x4, x5], S⟩ = .nx ⟨[.d B.d, .d (.lst (cs.map D.int)), .own (((undL B k).foldl (mvStep B.f (at0 cs k)) cur).map D.int), .d (.int (k : Nat)), z4, z5], S⟩ := by
      unfold bOut
      rw [mFor_at hi]
      exact e1
    obtain ⟨y3, y4, y5, e2⟩ := b_out h (cs := cs) (S := S) n (k + 1) ((undL B k).foldl (mvStep B.f (at0 cs k)) cur) (.d (.int (k : Nat))) z4 z5 (by omega) (by rw [mvFold_len]; exact hc)
    refine ⟨y3, y4, y5, ?_⟩
    rw [List.range'_succ, List.map_cons, forL_nx (g := gNm 3) (w1 := ⟨[.d B.d, .d (.lst (cs.map D.int)), .own (cur.map D.int), .d (.int (k : Nat)), x4, x5], S⟩) rfl hb, e2]
    have ed : cs.drop k = cs[k] :: cs.drop (k + 1) := List.drop_eq_getElem_cons hlt
    have ea : at0 cs k = cs[k] := by unfold at0; rw [List.getElem?_eq_getElem hlt]; rfl
    rw [ed, ea]
    rfl
theorem behind_ok {B : Belt} (h : B.Ok) (cs : List Int) (hl : cs.length ≤ 1000) (S : List Cell) : F__law_behind [B.d, .lst (cs.map D.int)] S = .ok (.d (.tup ((mvAll B 0 cs (curL B)).map D.int))) S := by
  let w0 : W := ⟨[.d B.d, .d (.lst (cs.map D.int)), .un, .un, .un, .un], S⟩
  have hcur : (B.ds.map fun n : Nat => D.int (n : Nat)) = (curL B).map D.int := by unfold curL; rw [List.map_map]; rfl
  have ix : mBin gIx (mPk 0) (mC (.int 3)) w0 = .ok (.d (.tup ((curL B).map D.int))) w0 := mBin_ok (a := mPk 0) (u := .d B.d) rfl rfl (b := mC (.int 3)) rfl rfl (show gIx B.d (.int 3) = _ by rw [← hcur]; rfl)
  have q1 := mSet_ok (i := 2) (mCB_ok (g := g1 gList) (mCons_ok ix rfl mNil_ok) (rv := .own ((curL B).map D.int)) rfl) (show 2 < 6 by decide)
  obtain ⟨y3, y4, y5, e⟩ := b_out h (cs := cs) (S := S) cs.length 0 (curL B) .un .un .un (by omega) (by simp [curL])
  have hi : mRng1 (mCons (mCB (g1 gLen) (mCons (mPk 1) mNil)) mNil) ⟨[.d B.d, .d (.lst (cs.map D.int)), .own ((curL B).map D.int), .un, .un, .un], S⟩ = .ok ((List.range' 0 cs.length).map fun i : Nat => D.int (i : Int)) ⟨[.d B.d, .d (.lst (cs.map D.int)), .own ((curL B).map D.int), .un, .un, .un], S⟩ := by
    rw [← List.range_eq_range']
    exact mRng_nat (mCons_ok (mCB_ok (mCons_ok (m := mPk 1) (rv := .d (.lst (cs.map D.int))) rfl rfl mNil_ok) (show g1 gLen [.lst (cs.map D.int)] = some (.d (.int (cs.length : Nat))) by show some (RV.d (.int ((cs.map D.int).length : Nat))) = _; rw [List.length_map])) rfl mNil_ok) (by omega)
  have q2 := mFor_at (g := gNm 3) (b := bOut) hi
  rw [e] at q2
  have q3 : mRet (mCB (g1 gTuple) (mCons (mPk 2) mNil)) ⟨[.d B.d, .d (.lst (cs.map D.int)), .own ((mvAll B 0 (cs.drop 0) (curL B)).map D.int), y3, y4, y5], S⟩ = .rt (.d (.tup ((mvAll B 0 cs (curL B)).map D.int))) S :=
    mRet_ok (w1 := ⟨[.d B.d, .d (.lst (cs.map D.int)), .own ((mvAll B 0 (cs.drop 0) (curL B)).map D.int), y3, y4, y5], S⟩) (mCB_ok (mCons_ok (m := mPk 2) (rv := .own ((mvAll B 0 cs (curL B)).map D.int)) rfl rfl mNil_ok) rfl)
  have body : m__law_behind w0 = .rt (.d (.tup ((mvAll B 0 cs (curL B)).map D.int))) S := by
    rw [behind_eq, mSeq_nx q1]
    exact (mSeq_nx q2).trans q3
  exact bodyF_rt rfl rfl body rfl
end DB

set_option Elab.async false
set_option linter.all false
set_option maxRecDepth 100000
set_option maxHeartbeats 4000000
namespace DB
open PySem PySem.Spec PyProof.Rows L2
mutual
theorem dok_mono : ∀ {n : Nat} {d : D}, dok n d = true → dok (n + 1) d = true
  | _, .non, _ => rfl
  | _, .bl _, _ => rfl
  | _, .int _, _ => rfl
  | 0, .str x, h => by simp only [dok] at h ⊢; exact h
  | n + 1, .str x, h => by simp only [dok] at h ⊢; exact h
  | n + 1, .tup ds, h => by simp only [dok] at h ⊢; exact doks_mono h
  | n + 1, .lst ds, h => by simp only [dok] at h ⊢; exact doks_mono h
  | n + 1, .scr ds, h => by simp only [dok] at h ⊢; exact doks_mono h
  | 0, .tup _, h => by simp [dok] at h
  | 0, .lst _, h => by simp [dok] at h
  | 0, .scr _, h => by simp [dok] at h
  | 0, .dic _ _, h => by simp [dok] at h
  | _ + 1, .dic _ _, h => by simp [dok] at h
  | 0, .obj _ _ _, h => by simp [dok] at h
  | _ + 1, .obj _ _ _, h => by simp [dok] at h
  | 0, .cell _, h => by simp [dok] at h
  | _ + 1, .cell _, h => by simp [dok] at h
  | 0, .fn _, h => by simp [dok] at h
  | _ + 1, .fn _, h => by simp [dok] at h
theorem doks_mono : ∀ {n : Nat} {ds : List D}, doks n ds = true → doks (n + 1) ds = true
  | _, [], _ => by simp [doks]
  | n, d :: ds, h => by
    simp only [doks] at h ⊢
    obtain ⟨a, b⟩ := Bool.and_eq_true_iff.mp h
    exact Bool.and_eq_true_iff.mpr ⟨dok_mono a, doks_mono b⟩
end
/-! plain: what _law_kind tells of a lambda -/
/-- the body tells d, or a refusal that is told as d -/
def Told (d : D) (m : ME) (w : W) : Prop := m w = .ok (.d d) w ∨ ∃ x, m w = .ex x w ∧ x.cls ∈ xCls ∧ kindD x = some d
theorem kind_told {d : D} {m : ME} {env0 : List RV} {S : List Cell} (h : Told d m ⟨env0, S⟩) : bodyG 5 0 (m__law_kind (lamF env0 [] m)) [] S = .ok (.d d) S := by
  rcases h with h | ⟨x, h, hc, hd⟩
  · refine kind_ok ?_ rfl
    simp [lamF, h, RV.plain]
  · refine kind_ex ?_ hc hd
    simp [lamF, h]
theorem kindL_ok {caps : List Nat} {m : ME} {d : D} {env : List RV} {S : List Cell} (h : Told d m ⟨capE caps env, S⟩) : mCallL (fun act => bodyG 5 0 (m__law_kind act)) caps [] m mNil ⟨env, S⟩ = .ok (.d d) ⟨env, S⟩ := by
  have q := kind_told h
  unfold mCallL
  simp only [mNil, RL.bd, q]
  rfl
theorem kindW_ok {tbl : List (List Nat × ME)} {i j : Nat} {caps : List Nat} {m : ME} {d : D} {env : List RV} {S : List Cell} (hi : env[i]? = some (.d (.fn j))) (ht : tbl[j]? = some (caps, m)) (h : Told d m ⟨capE caps (env.set i .un), S⟩) :
    mCallW (fun act => bodyG 5 0 (m__law_kind act)) tbl i ⟨env, S⟩ = .ok (.d d) ⟨env, S⟩ := by
  have q := kind_told h
  unfold mCallW
  simp only [hi, ht, q]
  rfl
/-- a call's telling, by values -/
theorem told_call {F : MF} {r : MA} {w : W} {ds : List D} {d : D} (hr : r w = .ok ds w) (h : F ds w.S = .ok (.d d) w.S ∨ ∃ x, F ds w.S = .ex x w.S ∧ x.cls ∈ xCls ∧ kindD x = some d) : Told d (mCall F r) w := by
  rcases h with h | ⟨x, h, hc, hd⟩
  · exact .inl (mCall_ok hr h rfl)
  · refine .inr ⟨x, ?_, hc, hd⟩
    unfold mCall
    rw [hr]
    simp only [RL.bd, h]
/-- [_law_kind(w) for w in works] -/
theorem works_ok {tbl : List (List Nat × ME)} {v i : Nat} {fs : List (Nat × D)} {env : List RV} {S : List Cell} (hi : env[i]? = some (.own (fs.map fun p => D.fn p.1))) (hne : v ≠ i) (hv : env[v]? = some .un) (hl : fs.length ≤ 1000)
    (h : ∀ p ∈ fs, ∃ caps m, tbl[p.1]? = some (caps, m) ∧ Told p.2 m ⟨capE caps (env.set i (.d (.lst (fs.map fun p => D.fn p.1)))), S⟩) :
    mLc [v] (mSeqI (mVar i)) (gNm v) mT (mCallW (fun act => bodyG 5 0 (m__law_kind act)) tbl v) ⟨env, S⟩ = .ok (.own (fs.map (·.2))) ⟨env.set i (.d (.lst (fs.map fun p => D.fn p.1))), S⟩ := by
  let E : List RV := env.set i (.d (.lst (fs.map fun p => D.fn p.1)))
  have hiE : mSeqI (mVar i) ⟨env, S⟩ = .ok (fs.map fun p => D.fn p.1) ⟨E, S⟩ := by
    have q : mVar i ⟨env, S⟩ = .ok (.d (.lst (fs.map fun p => D.fn p.1))) ⟨E, S⟩ := by unfold mVar; rw [hi]
    unfold mSeqI
    rw [q]; rfl
  have hvE : E[v]? = some .un := by rw [List.getElem?_set_ne (fun z => hne z.symm)]; exact hv
  have hlt : v < E.length := (List.getElem?_eq_some_iff.mp hvE).1
  have hw : wipeE E [v] = E := by
    show E.set v .un = E
    exact List.ext_getElem? fun j => by
      by_cases c : v = j
      · subst c; rw [List.getElem?_set_self hlt, hvE]
      · rw [List.getElem?_set_ne c]
  refine mLc_map (fun p : Nat × D => D.fn p.1) (fun p => p.2) fs hiE (by show ((match E[v]? with | some r => plainRV r | none => true) && true) = true; rw [hvE]; rfl) (fun p hp => ?_) (Nat.le_trans hl (by decide))
  obtain ⟨caps, m, ht, q⟩ := h p hp
  have hs : (E.set v (.d (.fn p.1))).set v .un = E := by rw [List.set_set]; exact hw
  have q2 : Told p.2 m ⟨capE caps ((E.set v (.d (.fn p.1))).set v .un), S⟩ := by rw [hs]; exact q
  have k := kindW_ok (i := v) (env := E.set v (.d (.fn p.1))) (S := S) (List.getElem?_set_self hlt) ht q2
  refine ⟨⟨E.set v (.d (.fn p.1)), S⟩, ⟨E.set v (.d (.fn p.1)), S⟩, _, _, ?_, rfl, k, rfl, ?_, rfl⟩
  · show gNm v (.fn p.1) ⟨wipeE E [v], S⟩ = _
    rw [hw]
    unfold gNm
    rw [if_pos hlt]; rfl
  · show (match E[v]? with | some r => (E.set v (.d (.fn p.1))).set v r | none => E.set v (.d (.fn p.1))) = E
    rw [hvE]
    exact hs
/-- drawn by a number that is drawn itself -/
theorem draw_in {i n : Nat} {m : ME} {w w1 : W} {k : Int} {ns : List Int} (hc : w.env[i]? = some (.d (.cell n))) (hm : m w = .ok (.d (.int k)) w1) (h0 : 0 < k) (h1 : k < 1073741824) (hS : SOK ns w1.S n) :
    ∃ v S', mCall F__law_drawn (mCons (mVar i) (mCons m mNil)) w = .ok (.d (.int v)) { w1 with S := S' } ∧ 0 ≤ v ∧ v < k ∧ SOK ns S' n := by
  obtain ⟨v, c, e, a, b, s⟩ := drawn_ok hS h0 h1
  refine ⟨v, w1.S.set n c, ?_, a, b, s⟩
  have hv : mVar i w = .ok (.d (.cell n)) w := by unfold mVar; rw [hc]
  rw [drawn_eq]
  exact mCall_ok (mCons_ok hv rfl (mCons_ok hm rfl mNil_ok)) e rfl
theorem eqB_cons {x : D} {l : List D} : eqB (.lst (x :: l)) (.lst []) = false := by
  simp [eqB, toPy, toPys, PyData.eqv, PyData.eqvAll]
theorem eq_nil {l : List D} (h : okE (.lst l) = true) : gEq (.lst l) (.lst []) = some (.d (.bl l.isEmpty)) := by
  cases l with
  | nil => exact gEq_self nil_okE
  | cons x l =>
    show (if okE (.lst (x :: l)) && okE (.lst []) then bO (eqB (.lst (x :: l)) (.lst [])) else none) = _
    rw [h, nil_okE, eqB_cons]; rfl
theorem ne_nil {l : List D} (h : okE (.lst l) = true) : gNe (.lst l) (.lst []) = some (.d (.bl (!l.isEmpty))) := by
  cases l with
  | nil => exact gNe_self nil_okE
  | cons x l =>
    show (if okE (.lst (x :: l)) && okE (.lst []) then bO (!eqB (.lst (x :: l)) (.lst [])) else none) = _
    rw [h, nil_okE, eqB_cons]; rfl
theorem ints_okE (l : List Nat) : okE (.lst (l.map fun n : Nat => D.int (n : Nat))) = true := okE_of (n := 1) (by
  simp only [dok]
  exact doks_all fun d hd => by obtain ⟨n, _, rfl⟩ := List.mem_map.mp hd; rfl) (by decide)
theorem rep1 (l : List D) : repD 1 l = l := by simp [repD]
theorem rep0 (l : List D) : repD 0 l = [] := by simp [repD]
end DB

set_option linter.all false
namespace DB
/-! plain: sums -/
def sm : Nat → (Nat → Int) → Int
  | 0, _ => 0
  | k + 1, g => sm k g + g k
theorem sm_congr {k : Nat} {g h : Nat → Int} (e : ∀ i, i < k → g i = h i) : sm k g = sm k h := by
  induction k with
  | zero => rfl
  | succ k ih => simp only [sm]; rw [ih (fun i hi => e i (by omega)), e k (by omega)]
theorem sm_add {k : Nat} {g h : Nat → Int} : sm k (fun i => g i + h i) = sm k g + sm k h := by
  induction k with
  | zero => rfl
  | succ k ih => simp only [sm]; rw [ih]; omega
theorem sm_sub {k : Nat} {g h : Nat → Int} : sm k (fun i => g i - h i) = sm k g - sm k h := by
  induction k with
  | zero => rfl
  | succ k ih => simp only [sm]; rw [ih]; omega
theorem sm_mul {k : Nat} {a : Int} {g : Nat → Int} : sm k (fun i => a * g i) = a * sm k g := by
  induction k with
  | zero => simp [sm]
  | succ k ih => simp only [sm]; rw [ih, Int.mul_add]
theorem sm_mulR {k : Nat} {a : Int} {g : Nat → Int} : sm k (fun i => g i * a) = sm k g * a := by
  induction k with
  | zero => simp [sm]
  | succ k ih => simp only [sm]; rw [ih, Int.add_mul]
theorem sm_zero {k : Nat} : sm k (fun _ => 0) = 0 := by
  induction k with
  | zero => rfl
  | succ k ih => simp only [sm]; rw [ih]; rfl
theorem sm_const {k : Nat} {a : Int} : sm k (fun _ => a) = (k : Int) * a := by
  induction k with
  | zero => simp [sm]
  | succ k ih => simp only [sm]; rw [ih]; simp [Int.add_mul]
theorem sm_swap {k l : Nat} {g : Nat → Nat → Int} : sm k (fun i => sm l (fun j => g i j)) = sm l (fun j => sm k (fun i => g i j)) := by
  induction k with
  | zero => simp only [sm]; exact sm_zero.symm
  | succ k ih => simp only [sm]; rw [ih, ← sm_add]
theorem sm_one {k a : Nat} {g : Nat → Int} (h : a < k) : sm k (fun i => if i = a then g i else 0) = g a := by
  induction k with
  | zero => omega
  | succ k ih =>
    simp only [sm]
    by_cases e : k = a
    · subst e
      rw [if_pos rfl, sm_congr (h := fun _ => 0) (fun i hi => if_neg (by omega)), sm_zero]; omega
    · rw [ih (by omega), if_neg e]; omega
theorem sm_one' {k a : Nat} {g : Nat → Int} (h : a < k) : sm k (fun i => if a = i then g i else 0) = g a := by
  refine Eq.trans (sm_congr (h := fun i => if i = a then g i else 0) fun i _ => ?_) (sm_one h)
  by_cases e : i = a
  · subst e; rfl
  · show (if a = i then g i else 0) = if i = a then g i else 0
    rw [if_neg e, if_neg (fun h => e h.symm)]
theorem sm_none {k a : Nat} {g : Nat → Int} (h : k ≤ a) : sm k (fun i => if i = a then g i else 0) = 0 := by
  rw [sm_congr (h := fun _ => 0) (fun i hi => if_neg (by omega)), sm_zero]
theorem sm_first {k : Nat} {g : Nat → Int} : sm (k + 1) g = g 0 + sm k (fun i => g (i + 1)) := by
  induction k with
  | zero => simp [sm]
  | succ k ih => rw [sm, ih]; simp only [sm]; omega
theorem sm_cat {k l : Nat} {g : Nat → Int} : sm (k + l) g = sm k g + sm l (fun i => g (k + i)) := by
  induction l with
  | zero => simp [sm]
  | succ l ih => rw [← Nat.add_assoc]; simp only [sm]; rw [ih]; omega
theorem sm_blocks {q l : Nat} {g : Nat → Int} : sm (q * l) g = sm q (fun t => sm l (fun r => g (t * l + r))) := by
  induction q with
  | zero => simp [sm]
  | succ q ih => rw [Nat.succ_mul, sm_cat, ih]; rfl
/-- what is left by the figures -/
def cg (f a b : Int) : Prop := f ∣ a - b
theorem cg.refl {f a : Int} : cg f a a := ⟨0, by omega⟩
theorem cg.of_eq {f a b : Int} (h : a = b) : cg f a b := h ▸ cg.refl
theorem cg.symm {f a b : Int} (h : cg f a b) : cg f b a := by
  obtain ⟨k, h⟩ := h; exact ⟨-k, by rw [Int.mul_neg]; omega⟩
theorem cg.trans {f a b c : Int} (h : cg f a b) (h' : cg f b c) : cg f a c := by
  obtain ⟨k, h⟩ := h; obtain ⟨l, h'⟩ := h'; exact ⟨k + l, by rw [Int.mul_add]; omega⟩
theorem cg.add {f a b c d : Int} (h : cg f a b) (h' : cg f c d) : cg f (a + c) (b + d) := by
  obtain ⟨k, h⟩ := h; obtain ⟨l, h'⟩ := h'; exact ⟨k + l, by rw [Int.mul_add]; omega⟩
theorem cg.sub {f a b c d : Int} (h : cg f a b) (h' : cg f c d) : cg f (a - c) (b - d) := by
  obtain ⟨k, h⟩ := h; obtain ⟨l, h'⟩ := h'; exact ⟨k - l, by rw [Int.mul_sub]; omega⟩
theorem cg.mul {f a b : Int} (c : Int) (h : cg f a b) : cg f (c * a) (c * b) := by
  obtain ⟨k, h⟩ := h; exact ⟨c * k, by rw [← Int.mul_sub, h, Int.mul_left_comm]⟩
theorem cg.mod {f a : Int} : cg f (a % f) a := ⟨-(a / f), by have := Int.mul_ediv_add_emod a f; rw [Int.mul_neg]; omega⟩
theorem cg.sum {f : Int} {k : Nat} {g h : Nat → Int} (e : ∀ i, i < k → cg f (g i) (h i)) : cg f (sm k g) (sm k h) := by
  induction k with
  | zero => exact .refl
  | succ k ih => simp only [sm]; exact (ih fun i hi => e i (by omega)).add (e k (by omega))
theorem cg.eq {f a b : Int} (h : cg f a b) (a0 : 0 ≤ a) (a1 : a < f) (b0 : 0 ≤ b) (b1 : b < f) : a = b := by
  obtain ⟨k, h⟩ := h
  have f0 : 0 < f := by omega
  have : k = 0 := by
    rcases Int.lt_trichotomy k 0 with z | z | z
    · have := Int.mul_le_mul_of_nonneg_left (show k ≤ -1 by omega) (Int.le_of_lt f0); omega
    · exact z
    · have := Int.mul_le_mul_of_nonneg_left (show 1 ≤ k by omega) (Int.le_of_lt f0); omega
  subst this; omega
theorem cg.iff_mod {f a b : Int} : cg f a b ↔ a % f = b % f := by
  unfold cg
  constructor
  · intro h; exact Int.emod_eq_emod_iff_emod_sub_eq_zero.mpr (Int.emod_eq_zero_of_dvd h)
  · intro h; exact Int.dvd_of_emod_eq_zero (Int.emod_eq_emod_iff_emod_sub_eq_zero.mp h)
theorem cg.zero {f a : Int} : cg f a 0 ↔ f ∣ a := by unfold cg; rw [Int.sub_zero]
theorem cg.dvd {f g a b : Int} (h : cg f a b) (d : g ∣ f) : cg g a b := Int.dvd_trans d h
end DB

set_option linter.all false
namespace DB
/-! plain: what bands do to dials -/
theorem mod2 {a n : Nat} (h : a < 2 * n) : a % n = if a < n then a else a - n := by
  split
  · exact Nat.mod_eq_of_lt ‹_›
  · rw [Nat.mod_eq_sub_mod (by omega)]; exact Nat.mod_eq_of_lt (by omega)
/-- what counts of bands come to at a dial -/
def eff (n w m : Nat) (c : Nat → Int) (i : Nat) : Int := sm m fun b => sm w fun j => if (b + j) % n = i then c b else 0
theorem eff_congr {n w m : Nat} {c d : Nat → Int} {i : Nat} (h : ∀ b, b < m → c b = d b) : eff n w m c i = eff n w m d i :=
  sm_congr fun b hb => sm_congr fun j _ => by rw [h b hb]
theorem eff_cg {n w m : Nat} {f : Int} {c d : Nat → Int} {i : Nat} (h : ∀ b, b < m → cg f (c b) (d b)) : cg f (eff n w m c i) (eff n w m d i) :=
  cg.sum fun b hb => cg.sum fun j _ => by
    split
    · exact h b hb
    · exact .refl
theorem eff_add {n w m : Nat} {c d : Nat → Int} {i : Nat} : eff n w m (fun b => c b + d b) i = eff n w m c i + eff n w m d i := by
  unfold eff
  rw [← sm_add]
  exact sm_congr fun b _ => by rw [← sm_add]; exact sm_congr fun j _ => by dsimp only; split <;> omega
theorem eff_sub {n w m : Nat} {c d : Nat → Int} {i : Nat} : eff n w m (fun b => c b - d b) i = eff n w m c i - eff n w m d i := by
  unfold eff
  rw [← sm_sub]
  exact sm_congr fun b _ => by rw [← sm_sub]; exact sm_congr fun j _ => by dsimp only; split <;> omega
theorem sm_per {g : Nat} (h : Nat → Int) : ∀ b : Nat, sm g (fun j => h ((b + j) % g)) = sm g h
  | 0 => sm_congr fun j hj => by rw [Nat.zero_add, Nat.mod_eq_of_lt hj]
  | b + 1 => by
    have e1 : sm (g + 1) (fun j => h ((b + j) % g)) = h (b % g) + sm g (fun j => h ((b + (j + 1)) % g)) := sm_first
    have e2 : sm (g + 1) (fun j => h ((b + j) % g)) = sm g (fun j => h ((b + j) % g)) + h ((b + g) % g) := rfl
    rw [Nat.add_mod_right] at e2
    have e3 : sm g (fun j => h ((b + 1 + j) % g)) = sm g (fun j => h ((b + (j + 1)) % g)) := sm_congr fun j _ => by rw [show b + 1 + j = b + (j + 1) by omega]
    have e4 := sm_per (g := g) h b
    rw [e3, ← e4]
    omega
theorem sm_perq {g q : Nat} (h : Nat → Int) (b : Nat) : sm (q * g) (fun j => h ((b + j) % g)) = q * sm g h := by
  rw [sm_blocks, sm_congr (h := fun _ => sm g h) (fun t _ => ?_), sm_const]
  rw [← sm_per h b]
  exact sm_congr fun r _ => by rw [show b + (t * g + r) = b + r + g * t by rw [Nat.mul_comm]; omega, Nat.add_mul_mod_self_left]
/-- each band turns each class alike -/
theorem class_sum {n w m g q : Nat} {c : Nat → Int} {k : Nat} (hw : w = q * g) (hn : 0 < n) (hg : ∀ b, b < m → ∀ j, j < w → (b + j) % n % g = (b + j) % g) (hk : k < g) :
    sm n (fun i => if i % g = k then eff n w m c i else 0) = q * sm m c := by
  have e1 : sm n (fun i => if i % g = k then eff n w m c i else 0) = sm n (fun i => sm m fun b => sm w fun j => if (b + j) % n = i then (if i % g = k then c b else 0) else 0) := sm_congr fun i _ => by
    split
    · exact sm_congr fun b _ => sm_congr fun j _ => rfl
    · exact (Eq.trans (sm_congr fun b _ => Eq.trans (sm_congr fun j _ => by split <;> rfl) sm_zero) sm_zero).symm
  rw [e1, sm_swap, ← sm_mul]
  refine sm_congr fun b hb => ?_
  rw [sm_swap]
  have e2 : sm w (fun j => sm n fun i => if (b + j) % n = i then (if i % g = k then c b else 0) else 0) = sm w (fun j => if (b + j) % g = k then c b else 0) := sm_congr fun j hj => by
    rw [sm_one' (Nat.mod_lt _ hn), hg b hb j hj]
  rw [e2, hw, sm_perq (fun r => if r = k then c b else 0) b, sm_one (g := fun _ => c b) hk]
/-! the ring -/
theorem effR {n w : Nat} {c : Nat → Int} {i : Nat} (hw : w ≤ n) (hi : i < n) : eff n w n c i = sm w fun j => c ((i + n - j) % n) := by
  unfold eff
  rw [sm_swap]
  refine sm_congr fun j hj => ?_
  rw [sm_congr (h := fun b => if b = (i + n - j) % n then c b else 0) (fun b hb => ?_), sm_one (Nat.mod_lt _ (by omega))]
  have e : ((b + j) % n = i) ↔ (b = (i + n - j) % n) := by
    rw [mod2 (by omega : b + j < 2 * n), mod2 (by omega : i + n - j < 2 * n)]
    split <;> split <;> omega
  by_cases z : b = (i + n - j) % n
  · rw [if_pos z, if_pos (e.mpr z)]
  · rw [if_neg z, if_neg (fun y => z (e.mp y))]
/-- the ring's counts at any place -/
def rE (n w : Nat) (c : Nat → Int) (i : Nat) : Int := sm w fun j => c ((i + n - j) % n)
theorem rE_per {n w : Nat} {c : Nat → Int} {i : Nat} (hw : w ≤ n) : rE n w c (i + n) = rE n w c i := sm_congr fun j hj => by
  rw [show i + n + n - j = i + n - j + n by omega, Nat.add_mod_right]
theorem rE_mod {n w : Nat} {c : Nat → Int} (hw : w ≤ n) (i : Nat) : rE n w c (i % n) = rE n w c i := by
  have e := Nat.mod_add_div i n
  have : ∀ k x, rE n w c (x + n * k) = rE n w c x := by
    intro k
    induction k with
    | zero => intro x; rfl
    | succ k ih => intro x; rw [Nat.mul_succ, ← Nat.add_assoc, rE_per hw, ih]
  rw [← this (i / n) (i % n), e]
theorem rE_step {n w : Nat} {c : Nat → Int} {i : Nat} (hw : w ≤ n) : rE n w c (i + 1) - rE n w c i = c ((i + 1) % n) - c ((i + 1 + n - w) % n) := by
  have e1 := sm_first (k := w) (g := fun j => c ((i + 1 + n - j) % n))
  have e2 : sm (w + 1) (fun j => c ((i + 1 + n - j) % n)) = rE n w c (i + 1) + c ((i + 1 + n - w) % n) := rfl
  have e3 : sm w (fun j => c ((i + 1 + n - (j + 1)) % n)) = rE n w c i := sm_congr fun j _ => by rw [show i + 1 + n - (j + 1) = i + n - j by omega]
  rw [e3] at e1
  have e4 : (i + 1 + n - 0) % n = (i + 1) % n := by rw [Nat.sub_zero, Nat.add_mod_right]
  rw [e4] at e1
  omega
theorem mod_shift {n a b : Nat} (h : a % n = b % n) (y : Nat) : (y + a) % n = (y + b) % n := by rw [Nat.add_mod y a, Nat.add_mod y b, h]
theorem bez : ∀ n, n < 13 → ∀ w, w < 13 → 1 ≤ w → w ≤ n → ∃ a, a < 13 ∧ (a * w) % n = Nat.gcd w n % n := by decide +kernel
/-- what leads nowhere is alike in each class -/
theorem ker_ring {n w : Nat} {f : Int} {c : Nat → Int} (h13 : n < 13) (w1 : 1 ≤ w) (hw : w ≤ n) (h : ∀ i, i < n → cg f (eff n w n c i) 0) : ∀ i, i < n → cg f (c i) (c (i % Nat.gcd w n)) := by
  have hE : ∀ x, cg f (rE n w c x) 0 := fun x => by
    rw [← rE_mod hw x]
    have hx := Nat.mod_lt x (by omega : n > 0)
    have := h _ hx
    rw [effR hw hx] at this
    exact this
  have s1 : ∀ y, cg f (c ((y + w) % n)) (c (y % n)) := fun y => by
    have e := rE_step (c := c) (i := y + w + n - 1) hw
    rw [show y + w + n - 1 + 1 = y + w + n by omega, Nat.add_mod_right, show y + w + n + n - w = y + n + n by omega, Nat.add_mod_right, Nat.add_mod_right] at e
    have z := (hE (y + w + n)).sub (hE (y + w + n - 1))
    rw [e] at z
    have z2 := z.add (cg.refl (a := c (y % n)))
    rw [show c ((y + w) % n) - c (y % n) + c (y % n) = c ((y + w) % n) by omega] at z2
    rw [show (0 : Int) - 0 + c (y % n) = c (y % n) by omega] at z2
    exact z2
  have s2 : ∀ k y, cg f (c ((y + k * w) % n)) (c (y % n)) := by
    intro k
    induction k with
    | zero => intro y; rw [Nat.zero_mul]; exact .refl
    | succ k ih => intro y; rw [Nat.succ_mul, ← Nat.add_assoc]; exact (s1 _).trans (ih y)
  obtain ⟨a, _, ha⟩ := bez n h13 w (by omega) w1 hw
  have s3 : ∀ y, cg f (c ((y + Nat.gcd w n) % n)) (c (y % n)) := fun y => by
    have := s2 a y
    rw [mod_shift ha y] at this
    exact this
  have s4 : ∀ k y, cg f (c ((y + Nat.gcd w n * k) % n)) (c (y % n)) := by
    intro k
    induction k with
    | zero => intro y; exact .refl
    | succ k ih => intro y; rw [Nat.mul_succ, ← Nat.add_assoc]; exact (s3 _).trans (ih y)
  intro i hi
  have g0 : 0 < Nat.gcd w n := Nat.gcd_pos_of_pos_left _ w1
  have z := s4 (i / Nat.gcd w n) (i % Nat.gcd w n)
  rw [Nat.mod_add_div, Nat.mod_eq_of_lt hi] at z
  rw [Nat.mod_eq_of_lt (Nat.lt_of_le_of_lt (Nat.mod_le _ _) hi)] at z
  exact z
/-- counts that are alike in each class come to the same at every dial -/
theorem eff_class {n w g q : Nat} {t : Nat → Int} {i : Nat} (hw : w ≤ n) (hi : i < n) (e : w = q * g) (d : g ∣ n) (g0 : 0 < g) : eff n w n (fun b => t (b % g)) i = q * sm g t := by
  rw [effR hw hi]
  have hr : sm w (fun j => t ((i + n - j) % n % g)) = sm w (fun j => t ((i + n - (w - 1) + j) % g)) := by
    have rv : ∀ (k : Nat) (F : Nat → Int), sm k (fun j => F (k - 1 - j)) = sm k F := by
      intro k
      induction k with
      | zero => intro F; rfl
      | succ k ih =>
        intro F
        rw [sm_first]
        have e1 : sm k (fun j => F (k + 1 - 1 - (j + 1))) = sm k (fun j => F (k - 1 - j)) := sm_congr fun j _ => by rw [show k + 1 - 1 - (j + 1) = k - 1 - j by omega]
        rw [e1, ih F]
        simp only [sm]
        rw [show k + 1 - 1 - 0 = k by omega]; omega
    rw [← rv w]
    refine sm_congr fun j hj => ?_
    rw [Nat.mod_mod_of_dvd _ d, show i + n - (w - 1 - j) = i + n - (w - 1) + j by omega]
  rw [hr]
  rw (occs := .pos [1]) [e]
  exact sm_perq t _
end DB

set_option linter.all false
namespace DB
/-! plain: a count row of a ring -/
set_option synthInstance.maxHeartbeats 1000000 in
set_option synthInstance.maxSize 10000 in
theorem orb_once : ∀ n, n < 13 → ∀ w, w < 13 → 1 ≤ w → w ≤ n → ∀ r, r < Nat.gcd w n → ∀ i, i < n → i % Nat.gcd w n = r → ((List.range (n / Nat.gcd w n)).filter fun k => (r + k * w) % n == i).length = 1 := by decide +kernel
set_option synthInstance.maxHeartbeats 1000000 in
set_option synthInstance.maxSize 10000 in
theorem orb_cls : ∀ n, n < 13 → ∀ w, w < 13 → 1 ≤ w → w ≤ n → ∀ r, r < Nat.gcd w n → ∀ k, k < n / Nat.gcd w n → (r + k * w) % n % Nat.gcd w n = r := by decide +kernel
theorem orb_end : ∀ n, n < 13 → ∀ w, w < 13 → 1 ≤ w → w ≤ n → ∀ r, r < Nat.gcd w n → (r + n / Nat.gcd w n * w) % n = r := by decide +kernel
theorem sm_count {k : Nat} {p : Nat → Bool} {a : Int} : sm k (fun t => if p t = true then a else 0) = (((List.range k).filter p).length : Nat) * a := by
  induction k with
  | zero => simp [sm]
  | succ k ih =>
    simp only [sm]
    rw [ih, List.range_succ, List.filter_append, List.length_append]
    cases h : p k <;> simp [h, Int.add_mul]
/-- a class gone through by steps of wide -/
theorem orb_sum {n w r : Nat} (h13 : n < 13) (w1 : 1 ≤ w) (hw : w ≤ n) (hr : r < Nat.gcd w n) (F : Nat → Int) : sm (n / Nat.gcd w n) (fun k => F ((r + k * w) % n)) = sm n (fun i => if i % Nat.gcd w n = r then F i else 0) := by
  have e1 : sm (n / Nat.gcd w n) (fun k => F ((r + k * w) % n)) = sm (n / Nat.gcd w n) (fun k => sm n fun i => if (r + k * w) % n = i then F i else 0) :=
    sm_congr fun k _ => (sm_one' (Nat.mod_lt _ (by omega))).symm
  rw [e1, sm_swap]
  refine sm_congr fun i hi => ?_
  have e2 : sm (n / Nat.gcd w n) (fun k => if (r + k * w) % n = i then F i else 0) = sm (n / Nat.gcd w n) (fun k => if ((r + k * w) % n == i) = true then F i else 0) := sm_congr fun k _ => by simp [beq_iff_eq]
  rw [e2, sm_count (p := fun k => (r + k * w) % n == i)]
  by_cases e : i % Nat.gcd w n = r
  · rw [if_pos e, orb_once n h13 w (by omega) w1 hw r hr i hi e]; simp
  · rw [if_neg e]
    have : (List.range (n / Nat.gcd w n)).filter (fun k => (r + k * w) % n == i) = [] := by
      rw [List.filter_eq_nil_iff]
      intro k hk z
      exact e (by rw [← beq_iff_eq.mp z]; exact orb_cls n h13 w (by omega) w1 hw r hr k (List.mem_range.mp hk))
    rw [this]; simp
/-- the steps of a dial less those of the one ahead -/
def dif (n : Nat) (s : Nat → Int) (i : Nat) : Int := s i - s ((i + n - 1) % n)
/-- a shift round the ring -/
theorem cls_shift {n g k : Nat} (hn : 0 < n) (d : g ∣ n) (hk : k < g) (s : Nat → Int) : sm n (fun i => if i % g = k then s ((i + n - 1) % n) else 0) = sm n (fun i => if i % g = (k + g - 1) % g then s i else 0) := by
  have e1 := sm_per (g := n) (fun i => if i % g = (k + g - 1) % g then s i else 0) (n - 1)
  rw [← e1]
  refine sm_congr fun i hi => ?_
  have e2 : n - 1 + i = i + n - 1 := by omega
  rw [e2, Nat.mod_mod_of_dvd _ d]
  have e3 : (i % g = k) ↔ ((i + n - 1) % g = (k + g - 1) % g) := by
    obtain ⟨q, rfl⟩ := d
    have q0 : 0 < q := Nat.pos_of_mul_pos_left hn |> fun h => by
      rcases Nat.eq_zero_or_pos q with z | z
      · subst z; simp at hn
      · exact z
    have e4 : (i + g * q - 1) % g = (i % g + g - 1) % g := by
      have : i + g * q - 1 = (i % g + g - 1) + g * (i / g + (q - 1)) := by
        have := Nat.mod_add_div i g
        rw [Nat.mul_add, Nat.mul_sub, Nat.mul_one]
        have : g ≤ g * q := Nat.le_mul_of_pos_right g q0
        omega
      rw [this, Nat.add_mul_mod_self_left]
    rw [e4]
    have hi2 : i % g < g := Nat.mod_lt _ (by omega)
    rw [mod2 (by omega : i % g + g - 1 < 2 * g), mod2 (by omega : k + g - 1 < 2 * g)]
    split <;> split <;> omega
  by_cases z : i % g = k
  · rw [if_pos z, if_pos (e3.mp z)]
  · rw [if_neg z, if_neg (fun y => z (e3.mpr y))]
/-- what counts of a ring need so that they lead by the same everywhere -/
structure RingC (n w : Nat) (f : Int) (s c : Nat → Int) : Prop where
  zero : ∀ r, r < Nat.gcd w n → c r = 0
  step : ∀ r, r < Nat.gcd w n → ∀ k, k + 1 < n / Nat.gcd w n → cg f (c ((r + (k + 1) * w) % n)) (c ((r + k * w) % n) + dif n s ((r + (k + 1) * w) % n))
/-- class sums -/
def cls (n g : Nat) (s : Nat → Int) (k : Nat) : Int := sm n fun i => if i % g = k then s i else 0
theorem cls_sub {n g k : Nat} {s t : Nat → Int} : cls n g (fun i => s i - t i) k = cls n g s k - cls n g t k := by
  unfold cls
  rw [← sm_sub]
  exact sm_congr fun i _ => by
    by_cases h : i % g = k
    · simp only [if_pos h]
    · simp only [if_neg h]; rfl
theorem cls_cg {n g k : Nat} {f : Int} {s t : Nat → Int} (h : ∀ i, i < n → cg f (s i) (t i)) : cg f (cls n g s k) (cls n g t k) := cg.sum fun i hi => by
  split
  · exact h i hi
  · exact .refl
theorem ring_steps {n w : Nat} {f : Int} {s c : Nat → Int} (h13 : n < 13) (w1 : 1 ≤ w) (hw : w ≤ n) (R : RingC n w f s c)
    (hs : ∀ k, k < Nat.gcd w n → cg f (cls n (Nat.gcd w n) s k) (cls n (Nat.gcd w n) s 0)) : ∀ i, i < n → cg f (c i) (c ((i + n - w) % n) + dif n s i) := by
  have g0 : 0 < Nat.gcd w n := Nat.gcd_pos_of_pos_left _ w1
  have gn : Nat.gcd w n ∣ n := Nat.gcd_dvd_right w n
  intro i hi
  let r := i % Nat.gcd w n
  have hr : r < Nat.gcd w n := Nat.mod_lt _ g0
  have hN : 0 < n / Nat.gcd w n := Nat.div_pos (Nat.le_of_dvd (by omega) gn) g0
  -- the place of i on its way
  have ho := orb_once n h13 w (by omega) w1 hw r hr i hi rfl
  obtain ⟨k, hk⟩ : ∃ k, k ∈ (List.range (n / Nat.gcd w n)).filter fun k => (r + k * w) % n == i := by
    cases h : (List.range (n / Nat.gcd w n)).filter fun k => (r + k * w) % n == i with
    | nil => rw [h] at ho; cases ho
    | cons x xs => exact ⟨x, List.mem_cons_self ..⟩
  have hk1 : k < n / Nat.gcd w n := List.mem_range.mp (List.mem_filter.mp hk).1
  have hk2 : (r + k * w) % n = i := beq_iff_eq.mp (List.mem_filter.mp hk).2
  have back : ∀ y x, (y + w) % n = x → y < n → (x + n - w) % n = y := fun y x e hy => by
    rw [mod2 (by omega : y + w < 2 * n)] at e
    have hx : x < n := by split at e <;> omega
    rw [mod2 (by omega : x + n - w < 2 * n)]
    split <;> split at e <;> omega
  have nxt : ∀ k, ((r + k * w) % n + w) % n = (r + (k + 1) * w) % n := fun k => by rw [Nat.mod_add_mod, Nat.succ_mul, Nat.add_assoc]
  cases k with
  | succ k =>
    have z := R.step r hr k hk1
    rw [hk2] at z
    rw [back _ i ((nxt k).trans hk2) (Nat.mod_lt _ (by omega))]
    exact z
  | zero =>
    have er : i = r := by rw [← hk2, Nat.zero_mul, Nat.add_zero, Nat.mod_eq_of_lt]; exact Nat.lt_of_lt_of_le hr (Nat.le_of_dvd (by omega) gn)
    -- round the ring
    have tele : ∀ N, N < n / Nat.gcd w n → cg f (c ((r + N * w) % n)) (sm N fun k => dif n s ((r + (k + 1) * w) % n)) := by
      intro N
      induction N with
      | zero =>
        intro _
        rw [Nat.zero_mul, Nat.add_zero, Nat.mod_eq_of_lt (by omega), R.zero r hr]; exact .refl
      | succ N ih =>
        intro hN'
        exact (R.step r hr N hN').trans ((ih (by omega)).add .refl)
    have hlast := tele (n / Nat.gcd w n - 1) (by omega)
    have all := orb_sum h13 w1 hw hr (dif n s)
    rw [show n / Nat.gcd w n = (n / Nat.gcd w n - 1) + 1 by omega, sm_first] at all
    rw [show (r + 0 * w) % n = i by rw [Nat.zero_mul, Nat.add_zero, Nat.mod_eq_of_lt (by omega), er]] at all
    have cz : cg f (sm n (fun i => if i % Nat.gcd w n = r then dif n s i else 0)) 0 := by
      have e1 : sm n (fun i => if i % Nat.gcd w n = r then dif n s i else 0) = cls n (Nat.gcd w n) s r - cls n (Nat.gcd w n) s ((r + Nat.gcd w n - 1) % Nat.gcd w n) := by
        unfold cls
        rw [← cls_shift (by omega) gn hr s, ← sm_sub]
        exact sm_congr fun i _ => by unfold dif; split <;> omega
      rw [e1]
      have := (hs r hr).sub (hs ((r + Nat.gcd w n - 1) % Nat.gcd w n) (Nat.mod_lt _ g0))
      rw [Int.sub_self] at this
      exact this
    rw [← all] at cz
    have hb : (i + n - w) % n = (r + (n / Nat.gcd w n - 1) * w) % n := back _ i (by rw [nxt, show n / Nat.gcd w n - 1 + 1 = n / Nat.gcd w n by omega, orb_end n h13 w (by omega) w1 hw r hr, er]) (Nat.mod_lt _ (by omega))
    rw [hb, er, R.zero r hr]
    have z := (hlast.add (cg.refl (a := dif n s r)))
    refine cg.symm (z.trans ?_)
    rw [Int.add_comm, ← er]
    rw [← er] at cz
    exact cz
/-- so they lead by the same everywhere -/
theorem ring_same {n w : Nat} {f : Int} {s c : Nat → Int} (h13 : n < 13) (w1 : 1 ≤ w) (hw : w ≤ n) (R : RingC n w f s c)
    (hs : ∀ k, k < Nat.gcd w n → cg f (cls n (Nat.gcd w n) s k) (cls n (Nat.gcd w n) s 0)) : ∀ i, i < n → cg f (s i - eff n w n c i) (s 0 - eff n w n c 0) := by
  intro i
  induction i with
  | zero => intro _; exact .refl
  | succ i ih =>
    intro hi
    refine cg.trans ?_ (ih (by omega))
    rw [effR hw hi, effR hw (by omega : i < n)]
    have e := rE_step (c := c) (i := i) hw
    unfold rE at e
    rw [Nat.mod_eq_of_lt hi] at e
    have z := ring_steps h13 w1 hw R hs (i + 1) hi
    unfold dif at z
    rw [show (i + 1 + n - 1) % n = i by rw [show i + 1 + n - 1 = i + n by omega, Nat.add_mod_right, Nat.mod_eq_of_lt (by omega)]] at z
    obtain ⟨k, z⟩ := z
    exact ⟨-k, by rw [Int.mul_neg]; omega⟩
end DB

set_option linter.all false
namespace DB
/-! plain: which settings can be come to -/
theorem lin_sol : ∀ f, f < 10 → ∀ q, q < 13 → ∀ l, l < f → l % Nat.gcd f q = 0 → ∃ m, m < f ∧ (m * q) % f = l := by decide +kernel
set_option synthInstance.maxHeartbeats 1000000 in
set_option synthInstance.maxSize 10000 in
theorem cop_div : ∀ n, n < 13 → ∀ w, w < 13 → 1 ≤ w → w ≤ n → ∀ f, f < 10 → ∀ l, l < f → (n / Nat.gcd w n * l) % Nat.gcd f (w / Nat.gcd w n) = 0 → l % Nat.gcd f (w / Nat.gcd w n) = 0 := by decide +kernel
/-- a way there: each dial turns by what it has to -/
def Leads (n w m : Nat) (f : Int) (s c : Nat → Int) : Prop := ∀ i, i < n → cg f (eff n w m c i) (s i)
/-- the classes change alike, by the share -/
def NoBar (n g q : Nat) (f : Nat) (s : Nat → Int) : Prop := (∀ k, k < g → cg f (cls n g s k) (cls n g s 0)) ∧ (Nat.gcd f q : Int) ∣ cls n g s 0
theorem leads_bar {n w m g q f : Nat} {s c : Nat → Int} (hw : w = q * g) (hn : 0 < n) (g0 : 0 < g) (hg : ∀ b, b < m → ∀ j, j < w → (b + j) % n % g = (b + j) % g) (h : Leads n w m f s c) : NoBar n g q f s := by
  have e : ∀ k, k < g → cg f (cls n g s k) (q * sm m c) := fun k hk => by
    rw [← class_sum hw hn hg hk]
    exact (cls_cg (g := g) (k := k) h).symm
  refine ⟨fun k hk => (e k hk).trans (e 0 g0).symm, ?_⟩
  have d1 : (Nat.gcd f q : Int) ∣ (f : Int) := Int.natCast_dvd_natCast.mpr (Nat.gcd_dvd_left f q)
  have d2 : (Nat.gcd f q : Int) ∣ (q : Int) * sm m c := Int.dvd_trans (Int.natCast_dvd_natCast.mpr (Nat.gcd_dvd_right f q)) (Int.dvd_mul_right ..)
  have z := (e 0 g0).dvd d1
  unfold cg at z
  have := Int.dvd_add z d2
  rw [Int.sub_add_cancel] at this
  exact this
/-- the shift that class 0 lacks -/
theorem ring_more {n w f : Nat} {s c : Nat → Int} (h13 : n < 13) (w1 : 1 ≤ w) (hw : w ≤ n) (f1 : 1 ≤ f) (f9 : f < 10) (R : RingC n w f s c) (hb : NoBar n (Nat.gcd w n) (w / Nat.gcd w n) f s) :
    ∃ m, m < f ∧ ((m : Int) * ((w / Nat.gcd w n : Nat) : Int) - (s 0 - eff n w n c 0)) % f = 0 := by
  have g0 : 0 < Nat.gcd w n := Nat.gcd_pos_of_pos_left _ w1
  have gn : Nat.gcd w n ∣ n := Nat.gcd_dvd_right w n
  have gw : w = w / Nat.gcd w n * Nat.gcd w n := (Nat.div_mul_cancel (Nat.gcd_dvd_left w n)).symm
  have same := ring_same h13 w1 hw R hb.1
  generalize hL : s 0 - eff n w n c 0 = L at same ⊢
  -- class 0
  have e1 := class_sum (n := n) (m := n) (c := c) (k := 0) gw (by omega) (fun b _ j _ => Nat.mod_mod_of_dvd _ gn) g0
  have e2 : cg f (cls n (Nat.gcd w n) s 0) ((w / Nat.gcd w n : Nat) * sm n c + (n / Nat.gcd w n : Nat) * L) := by
    have a1 : cg f (cls n (Nat.gcd w n) s 0) (cls n (Nat.gcd w n) (fun i => eff n w n c i + L) 0) := cls_cg fun i hi => by
      have := (same i hi).add (cg.refl (a := eff n w n c i))
      rw [Int.sub_add_cancel] at this
      rw [Int.add_comm]; exact this
    refine a1.trans (cg.of_eq ?_)
    have a2 : cls n (Nat.gcd w n) (fun i => eff n w n c i + L) 0 = cls n (Nat.gcd w n) (fun i => eff n w n c i) 0 + sm n (fun i => if i % Nat.gcd w n = 0 then L else 0) := by
      unfold cls
      rw [← sm_add]
      exact sm_congr fun i _ => by
        by_cases h : i % Nat.gcd w n = 0
        · simp only [if_pos h]
        · simp only [if_neg h]; rfl
    rw [a2]
    have a3 : sm n (fun i => if i % Nat.gcd w n = 0 then L else 0) = (n / Nat.gcd w n : Nat) * L := by
      have := sm_perq (g := Nat.gcd w n) (q := n / Nat.gcd w n) (fun r => if r = 0 then L else 0) 0
      rw [Nat.div_mul_cancel gn, sm_one (g := fun _ => L) g0] at this
      rw [← this]
      exact sm_congr fun i _ => by rw [Nat.zero_add]
    rw [a3]
    unfold cls
    rw [e1]
  have d0 : (Nat.gcd f (w / Nat.gcd w n) : Int) ∣ ((n / Nat.gcd w n : Nat) : Int) * L := by
    have d1 : (Nat.gcd f (w / Nat.gcd w n) : Int) ∣ (f : Int) := Int.natCast_dvd_natCast.mpr (Nat.gcd_dvd_left ..)
    have d2 : (Nat.gcd f (w / Nat.gcd w n) : Int) ∣ ((w / Nat.gcd w n : Nat) : Int) * sm n c := Int.dvd_trans (Int.natCast_dvd_natCast.mpr (Nat.gcd_dvd_right ..)) (Int.dvd_mul_right ..)
    have z := e2.dvd d1
    unfold cg at z
    have y := Int.dvd_sub (Int.dvd_sub hb.2 z) d2
    have : cls n (Nat.gcd w n) s 0 - (cls n (Nat.gcd w n) s 0 - (((w / Nat.gcd w n : Nat) : Int) * sm n c + ((n / Nat.gcd w n : Nat) : Int) * L)) - ((w / Nat.gcd w n : Nat) : Int) * sm n c = ((n / Nat.gcd w n : Nat) : Int) * L := by omega
    rw [this] at y
    exact y
  have f0 : (0 : Int) < f := by omega
  have l0 := Int.emod_nonneg L (by omega : (f : Int) ≠ 0)
  have l1 := Int.emod_lt_of_pos L f0
  obtain ⟨l, hl⟩ : ∃ l : Nat, L % f = l := ⟨(L % f).toNat, by omega⟩
  have lf : l < f := by omega
  have d3 : (n / Nat.gcd w n * l) % Nat.gcd f (w / Nat.gcd w n) = 0 := by
    have d1 : (Nat.gcd f (w / Nat.gcd w n) : Int) ∣ (f : Int) := Int.natCast_dvd_natCast.mpr (Nat.gcd_dvd_left ..)
    have z : cg (Nat.gcd f (w / Nat.gcd w n) : Int) (((n / Nat.gcd w n : Nat) : Int) * L) (((n / Nat.gcd w n : Nat) : Int) * (l : Int)) := by
      have := (cg.mod (f := (f : Int)) (a := L)).symm
      rw [hl] at this
      exact (this.mul _).dvd d1
    have y := Int.dvd_sub d0 z
    have e : ((n / Nat.gcd w n : Nat) : Int) * L - (((n / Nat.gcd w n : Nat) : Int) * L - ((n / Nat.gcd w n : Nat) : Int) * (l : Int)) = ((n / Nat.gcd w n * l : Nat) : Int) := by rw [Int.natCast_mul]; omega
    rw [e] at y
    exact Nat.mod_eq_zero_of_dvd (Int.natCast_dvd_natCast.mp y)
  have gq : w / Nat.gcd w n < 13 := Nat.lt_of_le_of_lt (Nat.div_le_self ..) (by omega)
  obtain ⟨m, m1, m2⟩ := lin_sol f f9 _ gq l lf (cop_div n h13 w (by omega) w1 hw f f9 l lf d3)
  refine ⟨m, m1, ?_⟩
  have z : cg f (((m * (w / Nat.gcd w n) : Nat) : Int)) L := by
    refine cg.trans (cg.mod (f := (f : Int))).symm ?_
    rw [← Int.natCast_emod, m2, ← hl]
    exact cg.mod
  rw [Int.natCast_mul] at z
  exact Int.emod_eq_zero_of_dvd z
/-- and so they lead there -/
theorem ring_leads {n w f : Nat} {s c : Nat → Int} {m : Nat} (h13 : n < 13) (w1 : 1 ≤ w) (hw : w ≤ n) (R : RingC n w f s c) (hb : NoBar n (Nat.gcd w n) (w / Nat.gcd w n) f s)
    (hm : ((m : Int) * ((w / Nat.gcd w n : Nat) : Int) - (s 0 - eff n w n c 0)) % f = 0) : Leads n w n f s (fun b => c b + if b % Nat.gcd w n = 0 then (m : Int) else 0) := by
  have g0 : 0 < Nat.gcd w n := Nat.gcd_pos_of_pos_left _ w1
  have gn : Nat.gcd w n ∣ n := Nat.gcd_dvd_right w n
  have gw : w = w / Nat.gcd w n * Nat.gcd w n := (Nat.div_mul_cancel (Nat.gcd_dvd_left w n)).symm
  intro i hi
  rw [eff_add, eff_class (t := fun r => if r = 0 then (m : Int) else 0) hw hi gw gn g0, sm_one (g := fun _ => (m : Int)) g0]
  have z := ring_same h13 w1 hw R hb.1 i hi
  have y : cg (f : Int) ((w / Nat.gcd w n : Nat) * (m : Int)) (s 0 - eff n w n c 0) := by
    rw [Int.mul_comm]; exact Int.dvd_of_emod_eq_zero hm
  have x := (cg.refl (f := (f : Int)) (a := eff n w n c i)).add (y.trans z.symm)
  rw [show eff n w n c i + (s i - eff n w n c i) = s i by omega] at x
  exact x
/-! the row -/
theorem row_one {n w i : Nat} {c : Nat → Int} (hw : w ≤ n) (w1 : 1 ≤ w) : eff n w (n - w + 1) c i = sm (n - w + 1) (fun b => if b ≤ i ∧ i < b + w then c b else 0) := by
  refine sm_congr fun b hb => ?_
  have e : sm w (fun j => if (b + j) % n = i then c b else 0) = sm w (fun j => if b + j = i then c b else 0) := sm_congr fun j hj => by rw [Nat.mod_eq_of_lt (by omega)]
  rw [e]
  by_cases h : b ≤ i ∧ i < b + w
  · rw [if_pos h]
    have := sm_one (k := w) (a := i - b) (g := fun _ => c b) (by omega)
    refine Eq.trans (sm_congr fun j _ => ?_) this
    by_cases z : j = i - b
    · rw [if_pos z, if_pos (by omega)]
    · rw [if_neg z, if_neg (by omega)]
  · rw [if_neg h, sm_congr (h := fun _ => 0) (fun j hj => if_neg (by omega)), sm_zero]
theorem sm_cut {k l : Nat} {g : Nat → Int} (hl : k ≤ l) (h : ∀ i, k ≤ i → i < l → g i = 0) : sm l g = sm k g := by
  obtain ⟨d, rfl⟩ : ∃ d, l = k + d := ⟨l - k, by omega⟩
  rw [sm_cat, sm_congr (h := fun _ => 0) (fun i hi => h (k + i) (by omega) (by omega)), sm_zero]; omega
/-- what the bands up to one come to at its first dial -/
theorem row_at {n w i : Nat} {c : Nat → Int} (hw : w ≤ n) (w1 : 1 ≤ w) (hi : i < n - w + 1) : eff n w (n - w + 1) c i = sm i (fun b => if i < b + w then c b else 0) + c i := by
  rw [row_one hw w1, sm_cut (k := i + 1) (by omega) (fun b h1 _ => if_neg (by omega))]
  simp only [sm]
  rw [if_pos ⟨Nat.le_refl _, by omega⟩, sm_congr (h := fun b => if i < b + w then c b else 0) (fun b hb => ?_)]
  by_cases z : i < b + w
  · rw [if_pos z, if_pos ⟨by omega, z⟩]
  · rw [if_neg z, if_neg (fun y => z y.2)]
theorem ker_row {n w : Nat} {f : Int} {c : Nat → Int} (hw : w ≤ n) (w1 : 1 ≤ w) (h : ∀ i, i < n - w + 1 → cg f (eff n w (n - w + 1) c i) 0) : ∀ i, i < n - w + 1 → cg f (c i) 0 := by
  intro i
  induction i using Nat.strongRecOn with
  | _ i ih =>
    intro hi
    have z := h i hi
    rw [row_at hw w1 hi] at z
    have y : cg f (sm i (fun b => if i < b + w then c b else 0)) 0 := by
      rw (occs := .pos [2]) [← sm_zero (k := i)]
      exact cg.sum fun b hb => by
        split
        · exact ih b hb (by omega)
        · exact .refl
    have x := z.sub y
    rw [Int.sub_self] at x
    rw [show ∀ a b : Int, a + b - a = b by intros; omega] at x
    exact x
/-- where the first dials are right, all are, if nothing bars -/
theorem row_leads {n w f : Nat} {s c : Nat → Int} (hw : w ≤ n) (w1 : 1 ≤ w) (hb : NoBar n w 1 f s) (h : ∀ i, i < n - w + 1 → cg f (eff n w (n - w + 1) c i) (s i)) : Leads n w (n - w + 1) f s c := by
  have cs : ∀ k, k < w → cg f (cls n w (fun i => s i - eff n w (n - w + 1) c i) k) (cls n w (fun i => s i - eff n w (n - w + 1) c i) 0) := fun k hk => by
    have e : ∀ k, k < w → cls n w (fun i => eff n w (n - w + 1) c i) k = (1 : Nat) * sm (n - w + 1) c := fun k hk =>
      class_sum (q := 1) (by omega) (by omega) (fun b hb j hj => by rw [Nat.mod_eq_of_lt (by omega : b + j < n)]) hk
    rw [cls_sub, cls_sub, e k hk, e 0 (by omega)]
    exact (hb.1 k hk).sub .refl
  intro i hi
  by_cases hm : i < n - w + 1
  · exact h i hm
  have hr : ∀ i, i < n - w + 1 → cg f (s i - eff n w (n - w + 1) c i) 0 := fun i hi => by
    have := (cg.refl (f := (f : Int)) (a := s i)).sub (h i hi)
    rw [Int.sub_self] at this; exact this
  have z0 : cg f (cls n w (fun i => s i - eff n w (n - w + 1) c i) ((n - w) % w)) 0 := by
    rw [← sm_zero (k := n)]
    refine cg.sum fun j hj => ?_
    split
    · rename_i e
      refine hr j ?_
      apply Classical.byContradiction
      intro hj2
      have : j % w = (n - w) % w → False := fun e => by
        have a1 := Nat.mod_add_div j w
        have a2 := Nat.mod_add_div (n - w) w
        rw [e] at a1
        have : j / w < (n - w) / w + 1 := by
          rcases Nat.lt_or_ge (j / w) ((n - w) / w + 1) with h | h
          · exact h
          · have := Nat.mul_le_mul_left w h
            rw [Nat.mul_add] at this
            omega
        have : w * (j / w) ≤ w * ((n - w) / w) := Nat.mul_le_mul_left w (by omega)
        omega
      exact this e
    · exact .refl
  have wpos : 0 < w := w1
  have z1 : cg f (cls n w (fun i => s i - eff n w (n - w + 1) c i) (i % w)) 0 := (cs _ (Nat.mod_lt _ wpos)).trans ((cs _ (Nat.mod_lt _ wpos)).symm.trans z0)
  have z2 : cg f (cls n w (fun i => s i - eff n w (n - w + 1) c i) (i % w)) (s i - eff n w (n - w + 1) c i) := by
    have := sm_one (k := n) (a := i) (g := fun i => s i - eff n w (n - w + 1) c i) hi
    rw [← this]
    refine cg.sum fun j hj => ?_
    by_cases e : j = i
    · subst e; rw [if_pos rfl, if_pos rfl]; exact .refl
    · rw [if_neg e]
      split
      · rename_i e2
        refine hr j ?_
        apply Classical.byContradiction
        intro hj2
        have a1 := Nat.mod_add_div j w
        have a2 := Nat.mod_add_div i w
        rw [e2] at a1
        rcases Nat.lt_trichotomy (j / w) (i / w) with h | h | h
        · have := Nat.mul_le_mul_left w (show j / w + 1 ≤ i / w from h)
          rw [Nat.mul_add] at this; omega
        · rw [h] at a1; omega
        · have := Nat.mul_le_mul_left w (show i / w + 1 ≤ j / w from h)
          rw [Nat.mul_add] at this; omega
      · exact .refl
  have z3 := z2.symm.trans z1
  have z4 := (cg.refl (f := (f : Int)) (a := s i)).sub z3
  rw [show s i - (s i - eff n w (n - w + 1) c i) = eff n w (n - w + 1) c i by omega, Int.sub_zero] at z4
  exact z4
end DB

set_option Elab.async false
set_option linter.all false
set_option maxRecDepth 100000
set_option maxHeartbeats 4000000
namespace DB
open PySem PySem.Spec PyProof.Rows L2
/-! plain: mirrors reckoned by simp -/
@[simp] theorem ev_size : sizeLine = 16777216 := Eq.trans (by decide) (Eq.refl 16777216)
section
variable {w w1 : W} {i j l : Nat} {x y : D} {ds : List D} {rv : RV} {m m1 m2 m3 c a b : ME} {r : MA} {k : D → W → Res} {s s1 s2 : MS} {S : List Cell} {env : List RV} {e : Exc}
@[simp] theorem ev_bd_d {k : D → W → Res} : (Res.ok (.d x) w).bd k = k x w := rfl
@[simp] theorem ev_bd_own {k : D → W → Res} : (Res.ok (.own ds) w).bd k = k (.lst ds) w := rfl
@[simp] theorem ev_bd_ex {k : D → W → Res} : (Res.ex e w).bd k = .ex e w := rfl
@[simp] theorem ev_bl_d {k : D → W → RL} : (Res.ok (.d x) w).bl k = k x w := rfl
@[simp] theorem ev_bl_own {k : D → W → RL} : (Res.ok (.own ds) w).bl k = k (.lst ds) w := rfl
@[simp] theorem ev_bl_ex {k : D → W → RL} : (Res.ex e w).bl k = .ex e w := rfl
@[simp] theorem ev_rbd {k : List D → W → Res} : (RL.ok ds w).bd k = k ds w := rfl
@[simp] theorem ev_rbd_ex {k : List D → W → Res} : (RL.ex e w).bd k = .ex e w := rfl
@[simp] theorem ev_cons : RL.cons x (.ok ds w) = .ok (x :: ds) w := rfl
@[simp] theorem ev_cons_ex : RL.cons x (.ex e w) = .ex e w := rfl
@[simp] theorem ev_bb {b : Bool} {t f : W → Res} : (Res.ok (.d (.bl b)) w).bb t f = if b = true then t w else f w := by cases b <;> rfl
@[simp] theorem ev_bb_ex {t f : W → Res} : (Res.ex e w).bb t f = .ex e w := rfl
@[simp] theorem ev_sb {b : Bool} {t f : W → RS} : (Res.ok (.d (.bl b)) w).sb t f = if b = true then t w else f w := by cases b <;> rfl
@[simp] theorem ev_sb_ex {t f : W → RS} : (Res.ex e w).sb t f = .ex e w := rfl
@[simp] theorem ev_sd {k : RV → W → RS} : (Res.ok rv w).sd k = k rv w := rfl
@[simp] theorem ev_sd_ex {k : RV → W → RS} : (Res.ex e w).sd k = .ex e w := rfl
@[simp] theorem ev_sdd_d {k : D → W → RS} : (Res.ok (.d x) w).sdd k = k x w := rfl
@[simp] theorem ev_sdd_own {k : D → W → RS} : (Res.ok (.own ds) w).sdd k = k (.lst ds) w := rfl
@[simp] theorem ev_sdd_ex {k : D → W → RS} : (Res.ex e w).sdd k = .ex e w := rfl
@[simp] theorem ev_ofO : ofO (some rv) w = .ok rv w := rfl
@[simp] theorem ev_robd {o : Option Int} {k : Option Int → W → Res} : (RO.ok o w).bd k = k o w := rfl
@[simp] theorem ev_bin {g : D → D → Option RV} : mBin g a b w = (a w).bd fun x w1 => (b w1).bd fun y w2 => ofO (g x y) w2 := rfl
@[simp] theorem ev_C : mC x w = .ok (.d x) w := rfl
@[simp] theorem ev_mF : mF w = .ok (.d (.bl false)) w := rfl
@[simp] theorem ev_mT : mT w = .ok (.d (.bl true)) w := rfl
@[simp] theorem ev_and : mAnd a b w = (a w).bb b mF := rfl
@[simp] theorem ev_or : mOr a b w = (a w).bb mT b := rfl
@[simp] theorem ev_not : mNot a w = (a w).bb mF mT := rfl
@[simp] theorem ev_ife : mIfE c a b w = (c w).bb a b := rfl
@[simp] theorem ev_nil : mNil w = .ok [] w := rfl
@[simp] theorem ev_mcons : mCons m r w = (m w).bl fun x w1 => (r w1).cons x := rfl
@[simp] theorem ev_tup : mTup r w = (r w).bd fun ds w => if ds.length ≤ sizeLine then .ok (.d (.tup ds)) w else .bad := rfl
@[simp] theorem ev_lst : mLst r w = (r w).bd fun ds w => if ds.length ≤ sizeLine then .ok (.own ds) w else .bad := rfl
@[simp] theorem ev_cb {g : List D → Option RV} : mCB g r w = (r w).bd fun ds w1 => ofO (g ds) w1 := rfl
@[simp] theorem ev_g1 {g : D → Option RV} : g1 g [x] = g x := rfl
@[simp] theorem ev_g2 {g : D → D → Option RV} : g2 g [x, y] = g x y := rfl
@[simp] theorem ev_next : mNext w = .nx w := rfl
@[simp] theorem ev_seq : mSeq s1 s2 w = match s1 w with | .nx w1 => s2 w1 | r => r := rfl
@[simp] theorem ev_set : mSet i m w = (m w).sd (setRV i) := rfl
@[simp] theorem ev_setRV : setRV i rv w = if i < w.env.length then .nx (w.put i rv) else .bad := rfl
@[simp] theorem ev_put : W.put w i rv = { w with env := w.env.set i rv } := rfl
@[simp] theorem ev_ret : mRet m w = (m w).sd fun rv w => .rt rv w.S := rfl
@[simp] theorem ev_if : mIf c s1 s2 w = (c w).sb s1 s2 := rfl
@[simp] theorem ev_ex : mEx m w = (m w).sd fun _ w => .nx w := rfl
@[simp] theorem ev_var : mVar i w = match w.env[i]? with
  | some (.d x) => .ok (.d x) w
  | some (.own ds) => .ok (.d (.lst ds)) { w with env := w.env.set i (.d (.lst ds)) }
  | some (.odic ks vs) => .ok (.d (.dic ks vs)) { w with env := w.env.set i (.d (.dic ks vs)) }
  | _ => .bad := rfl
@[simp] theorem ev_pk : mPk i w = match w.env[i]? with
  | some (.d x) => .ok (.d x) w
  | some (.own ds) => .ok (.own ds) w
  | some (.odic ks vs) => .ok (.odic ks vs) w
  | _ => .bad := rfl
@[simp] theorem ev_mv : mMv i w = match w.env[i]? with
  | some rv => if rv.plain = true then .rt rv w.S else .bad
  | none => .bad := rfl
@[simp] theorem ev_plain_d : RV.plain (.d x) = true := rfl
@[simp] theorem ev_plain_own : RV.plain (.own ds) = true := rfl
@[simp] theorem ev_frz_d : RV.frz (.d x) = some x := rfl
@[simp] theorem ev_frz_own : RV.frz (.own ds) = some (.lst ds) := rfl
@[simp] theorem ev_call {F : MF} : mCall F r w = (r w).bd fun ds w1 => match F ds w1.S with
  | .ok rv S' => if rv.plain = true then .ok rv { w1 with S := S' } else .bad
  | .ex x S' => .ex x { w1 with S := S' }
  | .bad => .bad := rfl
@[simp] theorem ev_sl {lo hi : MO} : mSl m lo hi w = (m w).bd fun x w1 => (lo w1).bd fun l w2 => (hi w2).bd fun u w3 => ofO (gSl x l u) w3 := rfl
@[simp] theorem ev_no : mNo w = .ok none w := rfl
@[simp] theorem ev_pt : mPt m w = match m w with
  | .ok (.d (.int i)) w => .ok (some i) w
  | .ok _ _ => .bad
  | .ex x w => .ex x w
  | .bad => .bad := rfl
@[simp] theorem ev_asg {g : MG} : mAsg g m w = (m w).sd fun rv w1 => match rv.frz with
  | some x => match g x w1 with
    | some w2 => .nx w2
    | none => .bad
  | none => .bad := rfl
@[simp] theorem ev_gNm : gNm i x w = if i < w.env.length then some (w.put i (.d x)) else none := rfl
@[simp] theorem ev_gsNil : gsNil [] w = some w := rfl
@[simp] theorem ev_gsCons {g : MG} {gs : MGs} : gsCons g gs (x :: ds) w = match g x w with
    | some w1 => gs ds w1
    | none => none := rfl
@[simp] theorem ev_gTp {gs : MGs} : gTp i gs (.tup ds) w = if ds.length = i then gs ds w else none := rfl
@[simp] theorem ev_app : mApp i m w = if hasOwn w i = true then (m w).sdd (appRS i) else .bad := rfl
@[simp] theorem ev_hasOwn : hasOwn w i = match w.env[i]? with
  | some (.own _) => true
  | _ => false := rfl
@[simp] theorem ev_appRS : appRS i y w = match w.env[i]? with
  | some (.own ds) => if ds.length < sizeLine then .nx (w.put i (.own (ds ++ [y]))) else .bad
  | _ => .bad := rfl
@[simp] theorem ev_par2 : mPar2 i j m1 m2 w = (m1 w).sd fun u w1 => (m2 w1).sd fun v w2 => match setRV i u w2 with
  | .nx w3 => setRV j v w3
  | r => r := rfl
@[simp] theorem ev_par3 : mPar3 i j l m1 m2 m3 w = (m1 w).sd fun u w1 => (m2 w1).sd fun v w2 => (m3 w2).sd fun t w3 => match setRV i u w3 with
  | .nx w4 => match setRV j v w4 with
    | .nx w5 => setRV l t w5
    | r => r
  | r => r := rfl
@[simp] theorem ev_aug {g : D → D → Option RV} : mAug i g m w = match w.env[i]? with
  | some (.d x) => (m w).sdd fun y w1 => augRS i g x y w1
  | _ => .bad := rfl
@[simp] theorem ev_augRS {g : D → D → Option RV} : augRS i g x y w = match g x y with
  | some rv => setRV i rv w
  | none => .bad := rfl
@[simp] theorem ev_neg : mNeg m w = (m w).bd fun x w1 => ofO (gNeg x) w1 := rfl
@[simp] theorem ev_raise {cls : Str} {fs : List Str} : mRaise cls fs r w = match r w with
  | .ok ds w1 => if ds.length = fs.length then .ex ⟨cls, fs.reverse, ds.reverse⟩ w1 else .bad
  | .ex x w1 => .ex x w1
  | .bad => .bad := rfl
@[simp] theorem ev_raise0 {cls : Str} : mRaise0 cls w = .ex ⟨cls, [], []⟩ w := rfl
@[simp] theorem ev_isi {T : String} : mIsi T m w = (m w).bd fun x w1 => if hasTy x = true then .ok (.d (.bl (isTy T x))) w1 else .bad := rfl
@[simp] theorem ev_chain {g g' : D → D → Option RV} : mChain g g' a b c w = (a w).bd fun x w1 => (b w1).bd fun y w2 => match g x y with
  | some (.d (.bl true)) => (c w2).bd fun z w3 => ofO (g' y z) w3
  | some (.d (.bl false)) => .ok (.d (.bl false)) w2
  | _ => .bad := rfl
@[simp] theorem ev_seqI : mSeqI m w = match (m w).bd fun x w1 => .ok (.d x) w1 with
  | .ok (.d x) w1 => match seqItems x with
    | some ds => .ok ds w1
    | none => .bad
  | .ok _ _ => .bad
  | .ex x w1 => .ex x w1
  | .bad => .bad := rfl
@[simp] theorem ev_setIx {mk : ME} : mSetIx i mk m w = (m w).sdd fun y w1 => if hasOwn w1 i = true then (mk w1).sdd fun k w2 => setIx i y k w2 else .bad := rfl
@[simp] theorem ev_bodyF {n : Nat} : bodyF n j s ds S = if ds.length = j then match s ⟨ds.map .d ++ List.replicate (n - j) .un, S⟩ with
  | .nx w => .ok (.d .non) w.S
  | .rt rv S' => if rv.plain = true then .ok rv S' else .bad
  | .ex x w => .ex x w.S
  | _ => .bad else .bad := rfl
end
@[simp] theorem ev_add {i j : Int} : gAdd (.int i) (.int j) = some (.d (.int (i + j))) := rfl
@[simp] theorem ev_sub {i j : Int} : gSub (.int i) (.int j) = some (.d (.int (i - j))) := rfl
theorem ev_mod {i j : Int} (h : 0 < j) : gMod (.int i) (.int j) = some (.d (.int (i % j))) := if_pos h
theorem ev_div {i j : Int} (h : 0 < j) (h' : j < 1073741824) : gDiv (.int i) (.int j) = some (.d (.int (i / j))) := if_pos ⟨h, h'⟩
@[simp] theorem ev_modn {i : Int} {n : Nat} [h : NeZero n] : gMod (.int i) (.int (n : Int)) = some (.d (.int (i % (n : Int)))) := if_pos (by have := h.out; omega)
@[simp] theorem ev_eqi {i j : Int} : gEq (.int i) (.int j) = some (.d (.bl (decide (i = j)))) := rfl
@[simp] theorem ev_nei {i j : Int} : gNe (.int i) (.int j) = some (.d (.bl (!decide (i = j)))) := rfl
@[simp] theorem ev_eqs {i j : Str} : gEq (.str i) (.str j) = some (.d (.bl (decide (i = j)))) := rfl
@[simp] theorem ev_nes {i j : Str} : gNe (.str i) (.str j) = some (.d (.bl (!decide (i = j)))) := rfl
@[simp] theorem ev_cmp {p : Int → Int → Bool} {i j : Int} : gCmpI p (.int i) (.int j) = some (.d (.bl (p i j))) := rfl
@[simp] theorem ev_is {x : D} : gIs x .non = some (.d (.bl (isNon x))) := rfl
@[simp] theorem ev_isNot {x : D} : gIsNot x .non = some (.d (.bl (!isNon x))) := rfl
@[simp] theorem ev_lenL {ds : List D} : gLen (.lst ds) = some (.d (.int ds.length)) := rfl
@[simp] theorem ev_lenT {ds : List D} : gLen (.tup ds) = some (.d (.int ds.length)) := rfl
@[simp] theorem ev_listL {ds : List D} : gList (.lst ds) = some (.own ds) := rfl
@[simp] theorem ev_listT {ds : List D} : gList (.tup ds) = some (.own ds) := rfl
@[simp] theorem ev_tupL {ds : List D} : gTuple (.lst ds) = some (.d (.tup ds)) := rfl
@[simp] theorem ev_tupT {ds : List D} : gTuple (.tup ds) = some (.d (.tup ds)) := rfl
@[simp] theorem ev_ixT {ds : List D} {i : Int} : gIx (.tup ds) (.int i) = (atI ds i).map .d := rfl
@[simp] theorem ev_ixL {ds : List D} {i : Int} : gIx (.lst ds) (.int i) = (atI ds i).map .d := rfl
@[simp] theorem ev_at {ds : List D} {i : Nat} : atI ds (i : Int) = ds[i]? := atI_nat ds i
@[simp] theorem ev_at0 {ds : List D} : atI ds 0 = ds[0]? := atI_nat ds 0
@[simp] theorem ev_atL {ds : List D} {i : Nat} : atI ds (no_index (OfNat.ofNat i)) = ds[i]? := atI_nat ds i
@[simp] theorem ev_iO {i : Int} : iO i = some (.d (.int i)) := rfl
@[simp] theorem ev_addT {i j : List D} : gAdd (.tup i) (.tup j) = if i.length + j.length ≤ sizeLine then some (.d (.tup (i ++ j))) else none := rfl
@[simp] theorem ev_addL {i j : List D} : gAdd (.lst i) (.lst j) = if i.length + j.length ≤ sizeLine then some (.own (i ++ j)) else none := rfl
@[simp] theorem ev_slT {i : List D} {lo hi : Option Int} : gSl (.tup i) lo hi = some (.d (.tup (cutD i lo hi))) := rfl
@[simp] theorem ev_slL {i : List D} {lo hi : Option Int} : gSl (.lst i) lo hi = some (.own (cutD i lo hi)) := rfl
@[simp] theorem ev_intB {b : Bool} : gInt (.bl b) = some (.d (.int (if b then 1 else 0))) := rfl
@[simp] theorem ev_intI {i : Int} : gInt (.int i) = some (.d (.int i)) := rfl
@[simp] theorem ev_mul {i j : Int} : gMul (.int i) (.int j) = if CMul i j then some (.d (.int (i * j))) else none := rfl
@[simp] theorem ev_min {i j : Int} : gMin2 (.int i) (.int j) = some (.d (.int (if j < i then j else i))) := rfl
@[simp] theorem ev_items {ds : List D} : seqItems (.lst ds) = some ds := rfl
@[simp] theorem ev_itemsT {ds : List D} : seqItems (.tup ds) = some ds := rfl
theorem cmul_le {i j : Int} (h : -1000000 ≤ i) (h' : i ≤ 1000000) : CMul i j := .inl ⟨Int.lt_of_lt_of_le (by decide) h, Int.lt_of_le_of_lt h' (by decide)⟩
theorem cmul_le' {i j : Int} (h : -1000000 ≤ j) (h' : j ≤ 1000000) : CMul i j := .inr ⟨Int.lt_of_lt_of_le (by decide) h, Int.lt_of_le_of_lt h' (by decide)⟩
@[simp] theorem ev_enum {m : ME} {w : W} : mEnum m w = match (m w).bd fun x w1 => .ok (.d x) w1 with
  | .ok (.d x) w1 => match enItems x with
    | some ds => .ok (enumD 0 ds) w1
    | none => .bad
  | .ok _ _ => .bad
  | .ex x w1 => .ex x w1
  | .bad => .bad := rfl
@[simp] theorem ev_enI {ds : List D} : enItems (.lst ds) = some ds := rfl
@[simp] theorem ev_enT {ds : List D} : enItems (.tup ds) = some ds := rfl
@[simp] theorem ev_zip {r : MA} {w : W} : mZip r w = match r w with
  | .ok [x, y] w1 => match zipX x y with
    | some ds => .ok ds w1
    | none => .bad
  | .ok _ _ => .bad
  | r => r := rfl
@[simp] theorem ev_for {mi : MA} {g : MG} {b : MS} {w : W} : mFor mi g b w = match mi w with
  | .ok ds w1 => forL g b ds w1
  | .ex x w1 => .ex x w1
  | .bad => .bad := rfl
@[simp] theorem ev_setix {i n : Nat} {y : D} {w : W} : setIx i y (.int (n : Int)) w = match w.env[i]? with
  | some (.own ds) => if n < ds.length then .nx (w.put i (.own (ds.set n y))) else .bad
  | _ => .bad := by
  unfold setIx
  cases e : w.env[i]? with
  | none => rfl
  | some r =>
    cases r with
    | own ds =>
      by_cases h : n < ds.length
      · simp [ixN_nat h, h]
      · have : ixN ds.length (n : Int) = none := by unfold ixN; rw [if_pos (by omega), if_neg (by omega)]
        simp [this, h]
    | _ => rfl
@[simp] theorem ev_hasTy_non : hasTy .non = true := by simp [hasTy, tyN]
@[simp] theorem ev_ty_non_int : isTy "int" .non = false := by simp [isTy, isTyN, tyN]
@[simp] theorem ev_ty_non_bool : isTy "bool" .non = false := by simp [isTy, isTyN, tyN]
@[simp] theorem ev_ty_non_str : isTy "str" .non = false := by simp [isTy, isTyN, tyN]
@[simp] theorem ev_ty_non_tuple : isTy "tuple" .non = false := by simp [isTy, isTyN, tyN]
@[simp] theorem ev_ty_non_list : isTy "list" .non = false := by simp [isTy, isTyN, tyN]
@[simp] theorem ev_hasTy_bl {b : Bool} : hasTy (.bl b) = true := by simp [hasTy, tyN]
@[simp] theorem ev_ty_bl_int {b : Bool} : isTy "int" (.bl b) = true := by simp [isTy, isTyN, tyN]
@[simp] theorem ev_ty_bl_bool {b : Bool} : isTy "bool" (.bl b) = true := by simp [isTy, isTyN, tyN]
@[simp] theorem ev_ty_bl_str {b : Bool} : isTy "str" (.bl b) = false := by simp [isTy, isTyN, tyN]
@[simp] theorem ev_ty_bl_tuple {b : Bool} : isTy "tuple" (.bl b) = false := by simp [isTy, isTyN, tyN]
@[simp] theorem ev_ty_bl_list {b : Bool} : isTy "list" (.bl b) = false := by simp [isTy, isTyN, tyN]
@[simp] theorem ev_hasTy_int {i : Int} : hasTy (.int i) = true := by simp [hasTy, tyN]
@[simp] theorem ev_ty_int_int {i : Int} : isTy "int" (.int i) = true := by simp [isTy, isTyN, tyN]
@[simp] theorem ev_ty_int_bool {i : Int} : isTy "bool" (.int i) = false := by simp [isTy, isTyN, tyN]
@[simp] theorem ev_ty_int_str {i : Int} : isTy "str" (.int i) = false := by simp [isTy, isTyN, tyN]
@[simp] theorem ev_ty_int_tuple {i : Int} : isTy "tuple" (.int i) = false := by simp [isTy, isTyN, tyN]
@[simp] theorem ev_ty_int_list {i : Int} : isTy "list" (.int i) = false := by simp [isTy, isTyN, tyN]
@[simp] theorem ev_hasTy_str {x : Str} : hasTy (.str x) = true := by simp [hasTy, tyN]
@[simp] theorem ev_ty_str_int {x : Str} : isTy "int" (.str x) = false := by simp [isTy, isTyN, tyN]
@[simp] theorem ev_ty_str_bool {x : Str} : isTy "bool" (.str x) = false := by simp [isTy, isTyN, tyN]
@[simp] theorem ev_ty_str_str {x : Str} : isTy "str" (.str x) = true := by simp [isTy, isTyN, tyN]
@[simp] theorem ev_ty_str_tuple {x : Str} : isTy "tuple" (.str x) = false := by simp [isTy, isTyN, tyN]
@[simp] theorem ev_ty_str_list {x : Str} : isTy "list" (.str x) = false := by simp [isTy, isTyN, tyN]
@[simp] theorem ev_hasTy_tup {ds : List D} : hasTy (.tup ds) = true := by simp [hasTy, tyN]
@[simp] theorem ev_ty_tup_int {ds : List D} : isTy "int" (.tup ds) = false := by simp [isTy, isTyN, tyN]
@[simp] theorem ev_ty_tup_bool {ds : List D} : isTy "bool" (.tup ds) = false := by simp [isTy, isTyN, tyN]
@[simp] theorem ev_ty_tup_str {ds : List D} : isTy "str" (.tup ds) = false := by simp [isTy, isTyN, tyN]
@[simp] theorem ev_ty_tup_tuple {ds : List D} : isTy "tuple" (.tup ds) = true := by simp [isTy, isTyN, tyN]
@[simp] theorem ev_ty_tup_list {ds : List D} : isTy "list" (.tup ds) = false := by simp [isTy, isTyN, tyN]
@[simp] theorem ev_hasTy_lst {ds : List D} : hasTy (.lst ds) = true := by simp [hasTy, tyN]
@[simp] theorem ev_ty_lst_int {ds : List D} : isTy "int" (.lst ds) = false := by simp [isTy, isTyN, tyN]
@[simp] theorem ev_ty_lst_bool {ds : List D} : isTy "bool" (.lst ds) = false := by simp [isTy, isTyN, tyN]
@[simp] theorem ev_ty_lst_str {ds : List D} : isTy "str" (.lst ds) = false := by simp [isTy, isTyN, tyN]
@[simp] theorem ev_ty_lst_tuple {ds : List D} : isTy "tuple" (.lst ds) = false := by simp [isTy, isTyN, tyN]
@[simp] theorem ev_ty_lst_list {ds : List D} : isTy "list" (.lst ds) = true := by simp [isTy, isTyN, tyN]
@[simp] theorem ev_hasTy_scr {ds : List D} : hasTy (.scr ds) = true := by simp [hasTy, tyN]
@[simp] theorem ev_ty_scr_int {ds : List D} : isTy "int" (.scr ds) = false := by simp [isTy, isTyN, tyN]
@[simp] theorem ev_ty_scr_bool {ds : List D} : isTy "bool" (.scr ds) = false := by simp [isTy, isTyN, tyN]
@[simp] theorem ev_ty_scr_str {ds : List D} : isTy "str" (.scr ds) = false := by simp [isTy, isTyN, tyN]
@[simp] theorem ev_ty_scr_tuple {ds : List D} : isTy "tuple" (.scr ds) = false := by simp [isTy, isTyN, tyN]
@[simp] theorem ev_ty_scr_list {ds : List D} : isTy "list" (.scr ds) = true := by simp [isTy, isTyN, tyN]
theorem Belt.d_l (B : Belt) : B.d = .tup [.str (ringD B.ring), .int (B.f : Nat), .int (B.w : Nat), .tup (B.ds.map fun n : Nat => D.int (n : Nat)), .tup (B.ps.map priceD)] := rfl
@[simp] theorem ev_d0 {B : Belt} : gIx B.d (.int 0) = some (.d (.str (ringD B.ring))) := rfl
@[simp] theorem ev_d1 {B : Belt} : gIx B.d (.int 1) = some (.d (.int (B.f : Nat))) := rfl
@[simp] theorem ev_d2 {B : Belt} : gIx B.d (.int 2) = some (.d (.int (B.w : Nat))) := rfl
@[simp] theorem ev_d3 {B : Belt} : gIx B.d (.int 3) = some (.d (.tup (B.ds.map fun n : Nat => D.int (n : Nat)))) := rfl
@[simp] theorem ev_d4 {B : Belt} : gIx B.d (.int 4) = some (.d (.tup (B.ps.map priceD))) := rfl
end DB

set_option Elab.async false
set_option linter.all false
set_option maxRecDepth 100000
set_option maxHeartbeats 4000000
namespace DB
open PySem PySem.Spec PyProof.Rows L2
/-! plain: goals -/
def goalD (gs : List Nat) : D := .tup (gs.map fun n : Nat => D.int (n : Nat))
structure GOk (B : Belt) (gs : List Nat) : Prop where
  len : gs.length = B.ds.length
  lt : ∀ g ∈ gs, g < B.f
def goalBad (B : Belt) (x : D) : Option Nat := fw (fun d => isN d 0 ((B.f : Int) - 1)) x B.ds.length B.ds.length
theorem lam_goal {B : Belt} {e1 e2 e3 e4 : RV} {d : D} {S : List Cell} (h : hasTy d = true) :
    lamF (capE [0] [.d B.d, e1, e2, e3, e4]) [4] (mCall F_is_number (mCons (mVar 4) (mCons (mC (.int 0)) (mCons (mBin gSub (mBin gIx (mPk 0) (mC (.int 1))) (mC (.int 1))) mNil)))) [d] S = .ok (.d (.bl (isN d 0 ((B.f : Int) - 1)))) S := by
  have e : capE [0] [.d B.d, e1, e2, e3, e4] = [.d B.d, .un, .un, .un, .un] := by simp [capE, List.range, List.range.loop]
  rw [e]
  simp [lamF, is_number_ok h]
theorem need_goal_ok {B : Belt} {x : D} (hx : dok 2 x = true) (S : List Cell) : F_need_goal [B.d, x] S = match goalBad B x with
  | none => .ok (.d .non) S
  | some k => .ex ⟨"BadGoal", ["number"], [.int (k : Nat)]⟩ S := by
  have ty := dok_ty hx
  have q : bodyG 6 3 (m_first_wrong (lamF (capE [0] [.d B.d, .d x, .d (.int (B.ds.length : Nat)), .un, .un]) [4] (mCall F_is_number (mCons (mVar 4) (mCons (mC (.int 0)) (mCons (mBin gSub (mBin gIx (mPk 0) (mC (.int 1))) (mC (.int 1))) mNil)))))) [x, .int (B.ds.length : Nat), .int (B.ds.length : Nat)] S = .ok (.d (optN (goalBad B x))) S :=
    first_wrong_ok ty fun ds e d hd => lam_goal (by
      subst e
      simp only [dok] at hx
      exact dok_ty (doks_mem hx d hd))
  unfold F_need_goal m_need_goal
  cases hb : goalBad B x with
  | none =>
    rw [hb] at q
    simp [mCallL, q, optN, isNon]
  | some k =>
    rw [hb] at q
    simp [mCallL, q, optN, isNon]
theorem nat_map {l : List Int} (h : ∀ i ∈ l, 0 ≤ i) : l.map D.int = (l.map Int.toNat).map fun n : Nat => D.int (n : Nat) := by
  rw [List.map_map]
  exact List.map_congr_left fun i hi => by
    show D.int i = D.int (i.toNat : Nat)
    rw [Int.toNat_of_nonneg (h i hi)]
end DB

set_option Elab.async false
set_option linter.all false
set_option maxRecDepth 100000
set_option maxHeartbeats 4000000
namespace DB
open PySem PySem.Spec PyProof.Rows L2
/-! plain: a goal is drawn -/
theorem mv_pos1 {B : Belt} (h : B.Ok) (cs : List Int) : (mvAll B 0 cs (curL B)).map D.int = (posL B (dl B 0 cs) 1).map fun n : Nat => D.int (n : Nat) := by
  have := mv_pos h cs 1
  rw [show cs.map (· * (1 : Int)) = cs by simp] at this
  exact this
theorem posL_ok {B : Belt} (h : B.Ok) (δ : Nat → Int) (m : Int) : GOk B (posL B δ m) := ⟨posL_len, (at_ok h δ m).dl⟩
theorem ints_of {lo hi : Int} : ∀ {ds : List D}, (∀ d ∈ ds, ∃ i : Int, d = .int i ∧ lo ≤ i ∧ i < hi) → ∃ is : List Int, ds = is.map D.int ∧ ∀ i ∈ is, lo ≤ i ∧ i < hi
  | [], _ => ⟨[], rfl, by simp⟩
  | d :: ds, h => by
    obtain ⟨i, rfl, a, b⟩ := h d (List.mem_cons_self ..)
    obtain ⟨is, rfl, c⟩ := ints_of fun e he => h e (List.mem_cons_of_mem _ he)
    exact ⟨i :: is, rfl, fun j hj => (List.mem_cons.mp hj).elim (fun z => by rw [z]; exact ⟨a, b⟩) (c j)⟩
theorem nats_of' {hi : Nat} {ds : List D} (h : ∀ d ∈ ds, ∃ i : Int, d = .int i ∧ 0 ≤ i ∧ i < hi) : ∃ gs : List Nat, ds = gs.map (fun n : Nat => D.int (n : Nat)) ∧ ∀ g ∈ gs, g < hi := by
  obtain ⟨is, rfl, a⟩ := ints_of h
  refine ⟨is.map Int.toNat, nat_map fun i hi => (a i hi).1, fun g hg => ?_⟩
  obtain ⟨i, hi, rfl⟩ := List.mem_map.mp hg
  have := a i hi
  omega
abbrev EG (B : Belt) (x2 x3 x4 x5 x6 x7 x8 : RV) : List RV := [.d (.cell 0), .d B.d, x2, x3, x4, x5, x6, x7, x8]
theorem dr {ns : List Int} {S : List Cell} {n : Nat} {k : Int} (hS : SOK ns S n) (h0 : 0 < k) (h1 : k < 1073741824) : ∃ v S', F__law_drawn [.cell n, .int k] S = .ok (.d (.int v)) S' ∧ 0 ≤ v ∧ v < k ∧ SOK ns S' n := by
  obtain ⟨v, c, e, a, b, s⟩ := drawn_ok hS h0 h1
  exact ⟨v, _, e, a, b, s⟩
theorem cutD_take {xs : List D} {k : Nat} (h : k ≤ xs.length) : cutD xs none (some (k : Int)) = xs.take k := by
  have e1 : HT.sIx xs.length xs.length (some (k : Int)) = k := by
    have : ¬ ((k : Int) < 0) := by omega
    simp [HT.sIx, this]; omega
  have e2 : HT.sIx xs.length 0 none = 0 := by simp [HT.sIx]
  unfold cutD
  rw [e1, e2]; simp
theorem cutD_drop {xs : List D} {k : Nat} : cutD xs (some (k : Int)) none = xs.drop k := by
  have e1 : HT.sIx xs.length xs.length none = xs.length := by simp [HT.sIx]
  have e2 : HT.sIx xs.length 0 (some (k : Int)) = min k xs.length := by
    have : ¬ ((k : Int) < 0) := by omega
    simp [HT.sIx, this]
  unfold cutD
  rw [e1, e2]
  rcases Nat.le_total k xs.length with z | z
  · rw [Nat.min_eq_left z]; exact List.take_of_length_le (by simp)
  · rw [Nat.min_eq_right z]; simp [List.drop_of_length_le z]
theorem goal_drawn {ns : List Int} {S : List Cell} {B : Belt} (h : B.Ok) (hS : SOK ns S 0) : ∃ gs S', F__law_goal [.cell 0, B.d] S = .ok (.d (goalD gs)) S' ∧ GOk B gs ∧ SOK ns S' 0 := by
  have f2 := h.f2
  have f9 := h.f9
  have l12 := h.l12
  have w1 := h.w1
  have wl := h.wl
  have pm : B.ps.length ≤ 12 := by
    have pl := h.pl
    rw [pl]; unfold Belt.many; split <;> omega
  obtain ⟨v, S1, d1, a1, b1, h1⟩ := dr (k := 5) hS (by decide) (by decide)
  by_cases v0 : v = 0
  · subst v0
    obtain ⟨xs, S2, e2, l2, p2, h2⟩ := mLc_st (vs := [7]) (mi := mSeqI (mBin gIx (mPk 1) (mC (.int 3)))) (g := gNm 7) (t := mT) (e := mCall F__law_drawn (mCons (mVar 0) (mCons (mBin gIx (mPk 1) (mC (.int 1))) mNil))) (w0 := ⟨EG B (.d (.int 0)) .un .un .un .un .un .un, S1⟩) (env := EG B (.d (.int 0)) .un .un .un .un .un .un) (S := S1) (ds := B.ds.map fun n : Nat => D.int (n : Nat))
      (fun x => ∃ i : Int, x = .int i ∧ 0 ≤ i ∧ i < (B.f : Nat)) (fun S => SOK ns S 0) (by simp [seqItems]) rfl h1 (fun d hd S hS => by
        obtain ⟨i, S', e, a, b, h'⟩ := dr (k := (B.f : Nat)) hS (by omega) (by omega)
        exact ⟨_, _, .d (.int i), _, ⟨EG B (.d (.int 0)) .un .un .un .un (.d d) .un, S'⟩, rfl, rfl, by simp [wipeE, e], rfl, ⟨i, rfl, a, b⟩, rfl, h'⟩) (by simp; omega)
    obtain ⟨gs, rfl, hg⟩ := nats_of' p2
    refine ⟨gs, S2, ?_, ⟨by simpa using l2, hg⟩, h2⟩
    unfold F__law_goal m__law_goal
    simp [d1, e2, goalD]
  · let E : List RV := EG B (.d (.int v)) .un .un .un .un .un .un
    obtain ⟨xs, S2, e2, l2, p2, h2⟩ := mLc_st (vs := [8]) (mi := mSeqI (mBin gIx (mPk 1) (mC (.int 4)))) (g := gNm 8) (t := mT) (e := mBin gMul (mCall F__law_drawn (mCons (mVar 0) (mCons (mBin gIx (mPk 1) (mC (.int 1))) mNil))) (mCB (g1 gInt) (mCons (mBin gIsNot (mPk 8) (mC .non)) mNil))) (w0 := ⟨E, S1⟩) (env := E) (S := S1) (ds := B.ps.map priceD)
      (fun x => ∃ i : Int, x = .int i ∧ 0 ≤ i ∧ i < (B.f : Nat)) (fun S => SOK ns S 0) (by simp [seqItems, E]) rfl h1 (fun d hd S hS => by
        obtain ⟨i, S', e, a, b, h'⟩ := dr (k := (B.f : Nat)) hS (by omega) (by omega)
        obtain ⟨p, _, rfl⟩ := List.mem_map.mp hd
        have hm : CMul i (if p.isSome = true then 1 else 0) := cmul_le (by omega) (by omega)
        exact ⟨_, _, .d (.int (i * if p.isSome = true then 1 else 0)), _, ⟨EG B (.d (.int v)) .un .un .un .un .un (.d (priceD p)), S'⟩, rfl, rfl, by
          cases p <;> simp [wipeE, e, E, priceD, isNon] at hm ⊢ <;> simp [hm], rfl, ⟨_, rfl, by split <;> omega, by split <;> omega⟩, rfl, h'⟩) (by simp; omega)
    obtain ⟨cs, rfl, hc⟩ := ints_of p2
    have lc : cs.length = B.ps.length := by simpa using l2
    have q := behind_ok h cs (by omega) S2
    rw [mv_pos1 h] at q
    have go := posL_ok h (dl B 0 cs) 1
    generalize posL B (dl B 0 cs) 1 = gs at q go
    by_cases v1 : v = 1
    · subst v1
      have gl := go.len
      obtain ⟨i, S3, d3, a3, b3, h3⟩ := dr (k := (gs.length : Nat)) h2 (by omega) (by omega)
      obtain ⟨o, S4, d4, a4, b4, h4⟩ := dr (k := (B.f : Int) - 1) h3 (by omega) (by omega)
      obtain ⟨i, rfl⟩ : ∃ m : Nat, i = (m : Int) := ⟨i.toNat, by omega⟩
      have hi : i < gs.length := by omega
      have hx : ((gs.map fun n : Nat => D.int (n : Nat))[i]?) = some (.int (gs[i] : Nat)) := by simp [hi]
      have hn : 0 ≤ ((gs[i] : Nat) + (1 + o)) % (B.f : Int) := Int.emod_nonneg _ (by omega)
      have hn2 : ((gs[i] : Nat) + (1 + o)) % (B.f : Int) < B.f := Int.emod_lt_of_pos _ (by omega)
      refine ⟨gs.set i (((gs[i] : Nat) + (1 + o)) % (B.f : Int)).toNat, S4, ?_, ⟨by simpa using gl, fun g hg => ?_⟩, h4⟩
      · have ht := cutD_take (xs := gs.map fun n : Nat => D.int (n : Nat)) (k := i) (by simp; omega)
        have hd : cutD (gs.map fun n : Nat => D.int (n : Nat)) (some ((i : Int) + 1)) none = (gs.map fun n : Nat => D.int (n : Nat)).drop (i + 1) := cutD_drop (k := i + 1)
        have hf : gMod (.int ((gs[i] : Nat) + (1 + o))) (.int (B.f : Nat)) = some (.d (.int (((gs[i] : Nat) + (1 + o)) % (B.f : Int)))) := if_pos (by omega)
        have hs : (gs.set i (((gs[i] : Nat) + (1 + o)) % (B.f : Int)).toNat).map (fun n : Nat => D.int (n : Nat)) = ((gs.map fun n : Nat => D.int (n : Nat)).take i ++ [.int (((gs[i] : Nat) + (1 + o)) % (B.f : Int))]) ++ (gs.map fun n : Nat => D.int (n : Nat)).drop (i + 1) := by
          rw [List.map_set, List.set_eq_take_append_cons_drop, if_pos (by simpa using hi), List.append_assoc, Int.toNat_of_nonneg hn]; rfl
        have z1 : min i gs.length + 1 ≤ 16777216 := by omega
        have z2 : min i gs.length + 1 + (gs.length - (i + 1)) ≤ 16777216 := by omega
        unfold F__law_goal m__law_goal
        generalize F__law_behind = F1 at q ⊢
        generalize F__law_drawn = F2 at d1 d3 d4 e2 ⊢
        as_aux_lemma =>
          simp [d1, v0, e2, E, q, d3, d4, hx, hf, ht, hd, goalD, hs, z1, z2]
      · rcases List.mem_or_eq_of_mem_set hg with z | z
        · exact go.lt g z
        · omega
    · refine ⟨gs, S2, ?_, go, h2⟩
      unfold F__law_goal m__law_goal
      generalize F__law_behind = F1 at q ⊢
      generalize F__law_drawn = F2 at d1 e2 ⊢
      as_aux_lemma =>
        simp [d1, v0, v1, e2, E, q, goalD]
end DB

set_option Elab.async false
set_option linter.all false
set_option maxRecDepth 100000
set_option maxHeartbeats 4000000
namespace DB
open PySem PySem.Spec PyProof.Rows L2
/-! plain: steps, changes of classes -/
def nat0 (l : List Nat) (i : Nat) : Nat := (l[i]?).getD 0
/-- by how much a dial has to turn -/
def sI (B : Belt) (gs : List Nat) (i : Nat) : Int := ((nat0 gs i : Int) - (nat0 B.ds i : Int)) % (B.f : Int)
theorem range_map_get {α : Type} (l : List α) (d : α) : l = (List.range l.length).map fun i => (l[i]?).getD d :=
  List.ext_getElem? fun i => by
    by_cases h : i < l.length
    · rw [List.getElem?_map, List.getElem?_range h]; simp [h]
    · rw [List.getElem?_eq_none (by omega), List.getElem?_eq_none (by simp; omega)]
theorem nat_range {l : List Nat} {n : Nat} (h : l.length = n) : l.map (fun n : Nat => D.int (n : Nat)) = (List.range n).map fun i => D.int (nat0 l i : Nat) := by
  subst h
  conv => lhs; rw [range_map_get l 0]
  rw [List.map_map]; rfl
theorem zipD_map {α : Type} (l : List α) (u v : α → D) : zipD (l.map u) (l.map v) = l.map fun a => .tup [u a, v a] := by
  induction l with
  | nil => rfl
  | cons x l ih =>
    show _ :: zipD (l.map u) (l.map v) = _
    rw [ih]; rfl
theorem steps_ok {B : Belt} (h : B.Ok) {gs : List Nat} (hg : GOk B gs) (S : List Cell) : F_steps_to [B.d, goalD gs] S = .ok (.own ((List.range B.ds.length).map fun i => D.int (sI B gs i))) S := by
  have f2 := h.f2
  have l12 := h.l12
  have q : mLc [2, 3] (mZip (mCons (mBin gIx (mPk 0) (mC (.int 3))) (mCons (mVar 1) mNil))) (gTp 2 (gsCons (gNm 2) (gsCons (gNm 3) gsNil))) mT (mBin gMod (mBin gSub (mPk 3) (mPk 2)) (mBin gIx (mPk 0) (mC (.int 1)))) ⟨[.d B.d, .d (goalD gs), .un, .un], S⟩ =
      .ok (.own ((List.range B.ds.length).map fun i => D.int (sI B gs i))) ⟨[.d B.d, .d (goalD gs), .un, .un], S⟩ := by
    refine mLc_map (fun i => .tup [.int (nat0 B.ds i : Nat), .int (nat0 gs i : Nat)]) (fun i => D.int (sI B gs i)) (List.range B.ds.length) ?_ rfl (fun i hi => ?_) (by simp; omega)
    · simp [goalD, zipX, nat_range (l := B.ds) rfl, nat_range hg.len, zipD_map]
    · exact ⟨_, _, _, ⟨[.d B.d, .d (goalD gs), .d (.int (nat0 B.ds i : Nat)), .d (.int (nat0 gs i : Nat))], S⟩, rfl, rfl, by
        have : gMod (.int ((nat0 gs i : Int) - (nat0 B.ds i : Int))) (.int (B.f : Nat)) = some (.d (.int (sI B gs i))) := if_pos (by omega)
        simp [wipeE, this]; rfl, rfl, rfl, rfl⟩
  unfold F_steps_to m_steps_to
  simp [q]
/-- what the classes change by, behind so many dials -/
def chL (f cl : Nat) (s : Nat → Int) (t : Nat) : List D := (List.range cl).map fun k => D.int (cls t cl s k % (f : Int))
theorem cls_succ {t cl : Nat} {s : Nat → Int} {k : Nat} : cls (t + 1) cl s k = cls t cl s k + if t % cl = k then s t else 0 := rfl
theorem chL_step {f cl t : Nat} {s : Nat → Int} (c0 : 0 < cl) (hf : 0 < f) : (chL f cl s t).set (t % cl) (.int ((cls t cl s (t % cl) % (f : Int) + s t) % (f : Int))) = chL f cl s (t + 1) := by
  unfold chL
  have hm : t % cl < cl := Nat.mod_lt _ c0
  refine List.ext_getElem? fun k => ?_
  by_cases hk : k < cl
  · by_cases e : t % cl = k
    · subst e
      rw [List.getElem?_set_self (by simpa using hm), List.getElem?_map, List.getElem?_range hm]
      simp only [Option.map_some, cls_succ, if_true]
      rw [Int.emod_add_emod]
    · rw [List.getElem?_set_ne e, List.getElem?_map, List.getElem?_map, List.getElem?_range hk]
      simp only [Option.map_some, cls_succ, if_neg e, Int.add_zero]
  · rw [List.getElem?_eq_none (by simp; omega), List.getElem?_eq_none (by simp; omega)]
theorem cls_zero {cl k : Nat} {s : Nat → Int} : cls 0 cl s k = 0 := rfl
noncomputable def chB : MS := (mSeq (mSet 5 (mBin gMod (mPk 3) (mCB (g1 gLen) (mCons (mPk 2) mNil))))
  (mSetIx 2 (mVar 5) (mBin gMod (mBin gAdd (mBin gIx (mPk 2) (mPk 5)) (mPk 4)) (mBin gIx (mPk 0) (mC (.int 1))))))
theorem ch_loop {B : Belt} (h : B.Ok) {x : D} {S : List Cell} {s : Nat → Int} {cl : Nat} (c0 : 0 < cl) : ∀ (m t : Nat) (x3 x4 x5 : RV),
    ∃ y3 y4 y5, forL (gTp 2 (gsCons (gNm 3) (gsCons (gNm 4) gsNil))) chB (enumD t ((List.range' t m).map fun i => D.int (s i))) ⟨[.d B.d, .d x, .own (chL B.f cl s t), x3, x4, x5], S⟩ = .nx ⟨[.d B.d, .d x, .own (chL B.f cl s (t + m)), y3, y4, y5], S⟩
  | 0, t, x3, x4, x5 => ⟨x3, x4, x5, rfl⟩
  | m + 1, t, x3, x4, x5 => by
    have f2 := h.f2
    obtain ⟨y3, y4, y5, e⟩ := ch_loop h (x := x) (S := S) (s := s) c0 m (t + 1) (.d (.int (t : Nat))) (.d (.int (s t))) (.d (.int ((t % cl : Nat) : Int)))
    refine ⟨y3, y4, y5, ?_⟩
    have hm : t % cl < cl := Nat.mod_lt _ c0
    have e1 : enumD t ((List.range' t (m + 1)).map fun i => D.int (s i)) = .tup [.int (t : Nat), .int (s t)] :: enumD (t + 1) ((List.range' (t + 1) m).map fun i => D.int (s i)) := by rw [List.range'_succ]; rfl
    rw [e1, forL_nx (g := gTp 2 (gsCons (gNm 3) (gsCons (gNm 4) gsNil))) (w1 := ⟨[.d B.d, .d x, .own (chL B.f cl s t), .d (.int (t : Nat)), .d (.int (s t)), x5], S⟩) (w2 := ⟨[.d B.d, .d x, .own (chL B.f cl s (t + 1)), .d (.int (t : Nat)), .d (.int (s t)), .d (.int ((t % cl : Nat) : Int))], S⟩) rfl, e, Nat.add_right_comm]
    · rw [Nat.add_assoc]
    have lc : (chL B.f cl s t).length = cl := by simp [chL]
    have g1 : gMod (.int (t : Nat)) (.int (cl : Nat)) = some (.d (.int ((t % cl : Nat) : Int))) := by
      rw [Int.natCast_emod]; exact if_pos (by omega)
    have g2 : gMod (.int (cls t cl s (t % cl) % (B.f : Int) + s t)) (.int (B.f : Nat)) = some (.d (.int ((cls t cl s (t % cl) % (B.f : Int) + s t) % (B.f : Int)))) := if_pos (by omega)
    have a1 : (chL B.f cl s t)[t % cl]? = some (.int (cls t cl s (t % cl) % (B.f : Int))) := by simp [chL, hm]
    have a2 := chL_step (s := s) (t := t) c0 (show 0 < B.f by omega)
    rw [Int.emod_add_emod] at a2
    generalize t % cl = r at *
    unfold chB
    obtain ⟨_, a3⟩ := List.getElem?_eq_some_iff.mp a1
    simp [g1, a1, a3, g2, lc, hm, a2]
theorem changed_ok {B : Belt} (h : B.Ok) {gs : List Nat} (hg : GOk B gs) (S : List Cell) : F_changed [B.d, goalD gs] S = .ok (.own (chL B.f B.classes (sI B gs) B.ds.length)) S := by
  obtain ⟨c1, c2⟩ := h.cl
  have q0 := classes_ok B S
  have q1 := steps_ok h hg S
  obtain ⟨y3, y4, y5, e⟩ := ch_loop h (x := goalD gs) (S := S) (s := sI B gs) (cl := B.classes) (by omega) B.ds.length 0 .un .un .un
  rw [← List.range_eq_range', Nat.zero_add] at e
  have z := zeros_ok (n := B.classes) (by omega)
  have e0 : (List.replicate B.classes (0 : Int)).map D.int = chL B.f B.classes (sI B gs) 0 := by
    unfold chL
    refine List.ext_getElem? fun k => ?_
    by_cases hk : k < B.classes
    · simp [hk, cls_zero]
    · rw [List.getElem?_eq_none (by simp; omega), List.getElem?_eq_none (by simp; omega)]
  rw [e0] at z
  unfold F_changed m_changed
  generalize F_classes_of = F1 at q0 ⊢
  generalize F_steps_to = F2 at q1 ⊢
  unfold chB at e
  generalize gMul = M at z ⊢
  as_aux_lemma =>
    simp [q0, q1, z]
    rw [e]
    simp
end DB

set_option Elab.async false
set_option linter.all false
set_option maxRecDepth 100000
set_option maxHeartbeats 4000000
namespace DB
open PySem PySem.Spec PyProof.Rows L2
/-! plain: bars -/
def unlike (cl : Nat) (c : Nat → Int) : List Nat := (List.range cl).filter fun k => !decide (c k = c 0)
def barD (cl : Nat) (share : Int) (c : Nat → Int) : D := match (unlike cl c).head? with
  | some k => .tup [.str "class", .int (k : Nat)]
  | none => if c 0 % share = 0 then .non else .tup [.str "share", .int (c 0 % share)]
noncomputable def brB : MS := (mIf (mBin gNe (mPk 4) (mBin gIx (mPk 2) (mC (.int 0)))) (mRet (mTup (mCons (mC (.str "class")) (mCons (mVar 3) mNil)))) mNext)
theorem br_step {x y : D} {S : List Cell} {L : List D} {c : Nat → Int} {t : Nat} {x5 : RV} (hL : L[0]? = some (.int (c 0))) : brB ⟨[.d x, .d y, .d (.lst L), .d (.int (t : Nat)), .d (.int (c t)), x5], S⟩ =
    if c t = c 0 then .nx ⟨[.d x, .d y, .d (.lst L), .d (.int (t : Nat)), .d (.int (c t)), x5], S⟩ else .rt (.d (.tup [.str "class", .int (t : Nat)])) S := by
  obtain ⟨_, hL2⟩ := List.getElem?_eq_some_iff.mp hL
  unfold brB
  by_cases e : c t = c 0 <;> simp [hL, hL2, e]
theorem br_loop {x y : D} {S : List Cell} {L : List D} {c : Nat → Int} {x5 : RV} (hL : L[0]? = some (.int (c 0))) : ∀ (m t : Nat) (x3 x4 : RV),
    (∃ k, ((List.range' t m).filter fun k => !decide (c k = c 0)).head? = some k ∧ forL (gTp 2 (gsCons (gNm 3) (gsCons (gNm 4) gsNil))) brB (enumD t ((List.range' t m).map fun i => D.int (c i))) ⟨[.d x, .d y, .d (.lst L), x3, x4, x5], S⟩ = .rt (.d (.tup [.str "class", .int (k : Nat)])) S) ∨
    (((List.range' t m).filter fun k => !decide (c k = c 0)) = [] ∧ ∃ y3 y4, forL (gTp 2 (gsCons (gNm 3) (gsCons (gNm 4) gsNil))) brB (enumD t ((List.range' t m).map fun i => D.int (c i))) ⟨[.d x, .d y, .d (.lst L), x3, x4, x5], S⟩ = .nx ⟨[.d x, .d y, .d (.lst L), y3, y4, x5], S⟩)
  | 0, t, x3, x4 => .inr ⟨rfl, x3, x4, rfl⟩
  | m + 1, t, x3, x4 => by
    have e1 : enumD t ((List.range' t (m + 1)).map fun i => D.int (c i)) = .tup [.int (t : Nat), .int (c t)] :: enumD (t + 1) ((List.range' (t + 1) m).map fun i => D.int (c i)) := by rw [List.range'_succ]; rfl
    have st := br_step (x := x) (y := y) (S := S) (t := t) (x5 := x5) hL
    rw [e1, List.range'_succ]
    by_cases e : c t = c 0
    · rw [if_pos e] at st
      rw [forL_nx (g := gTp 2 (gsCons (gNm 3) (gsCons (gNm 4) gsNil))) (w1 := ⟨[.d x, .d y, .d (.lst L), .d (.int (t : Nat)), .d (.int (c t)), x5], S⟩) rfl st, List.filter_cons_of_neg (by simp [e])]
      exact br_loop hL m (t + 1) _ _
    · rw [if_neg e] at st
      refine .inl ⟨t, by rw [List.filter_cons_of_pos (by simp [e])]; rfl, ?_⟩
      unfold forL
      show (match brB ⟨[.d x, .d y, .d (.lst L), .d (.int (t : Nat)), .d (.int (c t)), x5], S⟩ with | .nx w2 => _ | .ct w2 => _ | .bk w2 => _ | r => r) = _
      rw [st]
def chI (B : Belt) (gs : List Nat) (k : Nat) : Int := cls B.ds.length B.classes (sI B gs) k % (B.f : Int)
theorem bar_ok {B : Belt} (h : B.Ok) {gs : List Nat} (hg : GOk B gs) (S : List Cell) : F_bar_of [B.d, goalD gs] S = .ok (.d (barD B.classes B.share (chI B gs))) S := by
  obtain ⟨c1, c2⟩ := h.cl
  have f2 := h.f2
  have q0 := changed_ok h hg S
  have q1 := share_ok h S
  have s0 : 0 < B.share := Nat.gcd_pos_of_pos_left _ (by omega)
  have hL : (chL B.f B.classes (sI B gs) B.ds.length)[0]? = some (.int (chI B gs 0)) := by
    unfold chL
    rw [List.getElem?_map, List.getElem?_range (by omega)]; rfl
  obtain ⟨hL1, hL2⟩ := List.getElem?_eq_some_iff.mp hL
  have eL : chL B.f B.classes (sI B gs) B.ds.length = (List.range' 0 B.classes).map fun i => D.int (chI B gs i) := by rw [← List.range_eq_range']; rfl
  have lp := br_loop (x := B.d) (y := goalD gs) (S := S) (L := chL B.f B.classes (sI B gs) B.ds.length) (c := chI B gs) (x5 := .un) hL B.classes 0 .un .un
  rw [← eL] at lp
  have un : unlike B.classes (chI B gs) = (List.range' 0 B.classes).filter fun k => !decide (chI B gs k = chI B gs 0) := by unfold unlike; rw [List.range_eq_range']
  have hm : gMod (.int (chI B gs 0)) (.int (B.share : Nat)) = some (.d (.int (chI B gs 0 % (B.share : Nat)))) := if_pos (by omega)
  rw [← un] at lp
  unfold F_bar_of m_bar_of
  unfold barD
  unfold brB at lp
  generalize F_changed = F1 at q0 ⊢
  generalize F_share_of = F2 at q1 ⊢
  generalize gMod = M at hm ⊢
  rcases lp with ⟨k, e1, e2⟩ | ⟨e1, y3, y4, e2⟩
  · rw [e1]
    as_aux_lemma =>
      simp [q0, q1]
      rw [e2]
      simp
  · rw [e1]
    as_aux_lemma =>
      simp [q0, q1]
      rw [e2]
      by_cases z : chI B gs 0 % (B.share : Int) = 0
      · simp [hL, hL2, hL1, hm, q1, z]
      · simp [hL, hL2, hL1, hm, q1, z]
theorem pre_good {B : Belt} (h : B.Ok) {gs : List Nat} (hg : GOk B gs) (S : List Cell) : F_need_goal [B.d, goalD gs] S = .ok (.d .non) S := by
  have f2 := h.f2
  have q := need_goal_ok (B := B) (x := goalD gs) (by
    show doks 1 _ = true
    exact doks_all fun d hd => by obtain ⟨n, _, rfl⟩ := List.mem_map.mp hd; rfl) S
  have e : goalBad B (goalD gs) = none := by
    refine fw_ok (fun d hd => ?_) (by rw [List.length_map, hg.len]; exact Int.le_refl _) (by rw [List.length_map, hg.len]; exact Int.le_refl _)
    obtain ⟨n, hn, rfl⟩ := List.mem_map.mp hd
    have := hg.lt n hn
    simp only [isN, Bool.and_eq_true, decide_eq_true_eq]
    omega
  rw [q, e]
theorem changes_good {B : Belt} (h : B.Ok) {gs : List Nat} (hg : GOk B gs) (S : List Cell) : F_changes [B.d, goalD gs] S = .ok (.own (chL B.f B.classes (sI B gs) B.ds.length)) S := by
  have q0 := need_ok h S
  have q1 := pre_good h hg S
  have q2 := changed_ok h hg S
  unfold F_changes m_changes
  generalize F_need_belt = F1 at q0 ⊢
  generalize F_need_goal = F2 at q1 ⊢
  generalize F_changed = F3 at q2 ⊢
  as_aux_lemma => simp [q0, q1, q2]
theorem barred_good {B : Belt} (h : B.Ok) {gs : List Nat} (hg : GOk B gs) (S : List Cell) : F_barred [B.d, goalD gs] S = .ok (.d (barD B.classes B.share (chI B gs))) S := by
  have q0 := need_ok h S
  have q1 := pre_good h hg S
  have q2 := bar_ok h hg S
  unfold F_barred m_barred
  generalize F_need_belt = F1 at q0 ⊢
  generalize F_need_goal = F2 at q1 ⊢
  generalize F_bar_of = F3 at q2 ⊢
  as_aux_lemma => simp [q0, q1, q2]
def badGoal (k : Nat) : Exc := ⟨"BadGoal", ["number"], [.int (k : Nat)]⟩
theorem bad_pre {B : Belt} {x : D} {k : Nat} (hx : dok 2 x = true) (hb : goalBad B x = some k) (S : List Cell) : F_need_goal [B.d, x] S = .ex (badGoal k) S := by
  have q := need_goal_ok (B := B) hx S
  rw [hb] at q
  exact q
theorem changes_bad {B : Belt} (h : B.Ok) {x : D} {k : Nat} (hx : dok 2 x = true) (hb : goalBad B x = some k) (S : List Cell) : F_changes [B.d, x] S = .ex (badGoal k) S := by
  have q0 := need_ok h S
  have q1 := bad_pre hx hb S
  unfold F_changes m_changes
  generalize F_need_belt = F1 at q0 ⊢
  generalize F_need_goal = F2 at q1 ⊢
  as_aux_lemma => simp [q0, q1]
theorem barred_bad {B : Belt} (h : B.Ok) {x : D} {k : Nat} (hx : dok 2 x = true) (hb : goalBad B x = some k) (S : List Cell) : F_barred [B.d, x] S = .ex (badGoal k) S := by
  have q0 := need_ok h S
  have q1 := bad_pre hx hb S
  unfold F_barred m_barred
  generalize F_need_belt = F1 at q0 ⊢
  generalize F_need_goal = F2 at q1 ⊢
  as_aux_lemma => simp [q0, q1]
end DB

set_option Elab.async false
set_option linter.all false
set_option maxRecDepth 100000
set_option maxHeartbeats 4000000
namespace DB
open PySem PySem.Spec PyProof.Rows L2
/-! plain: a law's frame: the script begun, turns, True -/
theorem law_ok_of {N k : Nat} {ml t : MS} (ns : List Int) (P : List RV → Prop)
    (heq : ml = mSeq (mSetC 1 (mCall F__law_start (mCons (mVar 0) mNil))) (mSeq (mFor (mRng1 (mCons (mC (.int k)) mNil)) (gNm 2) t) (mRet (mC (.bl true)))))
    (hN : 3 ≤ N) (hk : k < 1000) (P0 : P (.d (.scr (ns.map D.int)) :: .d (.cell 0) :: List.replicate (N - 2) .un)) (PN : ∀ env, P env → 2 < env.length)
    (step : ∀ env d S, P env → SOK ns S 0 → ∃ env' S', t ⟨env.set 2 (.d d), S⟩ = .nx ⟨env', S'⟩ ∧ P env' ∧ SOK ns S' 0) : ∃ S, bodyF N 1 ml [.scr (ns.map D.int)] [] = .ok (.d (.bl true)) S := by
  obtain ⟨m, e0⟩ := start_ok ns []
  have hst : F__law_start [.scr (ns.map D.int)] [] = .ok (.own [.scr (ns.map D.int), .int 0, .int m, .int 0]) [] := e0
  let S0 : List Cell := [.lst [.scr (ns.map D.int), .int 0, .int m, .int 0]]
  let E0 : List RV := .d (.scr (ns.map D.int)) :: .d (.cell 0) :: List.replicate (N - 2) .un
  let I (_ : Nat) (w : W) : Prop := P w.env ∧ SOK ns w.S 0
  obtain ⟨w', e1, p', s'⟩ := forL_inv (g := gNm 2) (b := t) I (rngD 0 k) 0 ⟨E0, S0⟩ ⟨P0, ⟨0, m, 0, by decide, rfl⟩⟩ (by
      rintro i d hi ⟨env, S⟩ ⟨p, s⟩
      obtain ⟨env', S', e, p', s'⟩ := step env d S p s
      exact ⟨⟨env.set 2 (.d d), S⟩, ⟨env', S'⟩, if_pos (PN env p), .inl e, p', s'⟩)
  refine ⟨w'.S, ?_⟩
  have hl : 1 < (⟨(.d (.scr (ns.map D.int)) :: List.replicate (N - 1) .un), []⟩ : W).env.length := by simp; omega
  have er : List.replicate (N - 1) RV.un = .un :: List.replicate (N - 2) .un := by rw [show N - 1 = (N - 2) + 1 by omega]; rfl
  have q1 : mSetC 1 (mCall F__law_start (mCons (mVar 0) mNil)) ⟨.d (.scr (ns.map D.int)) :: List.replicate (N - 1) .un, []⟩ = .nx ⟨E0, S0⟩ := by
    rw [er]
    show _ = RS.nx ⟨.d (.scr (ns.map D.int)) :: .d (.cell 0) :: List.replicate (N - 2) .un, [.lst [.scr (ns.map D.int), .int 0, .int m, .int 0]]⟩
    generalize F__law_start = F1 at hst ⊢
    as_aux_lemma => simp [mSetC, hst, cellRS]
  have q3 := mFor_at (g := gNm 2) (b := t) (mRng1_at (r := mCons (mC (.int k)) mNil) (j := k) (w := ⟨E0, S0⟩) rfl (by omega) (by omega))
  rw [e1] at q3
  rw [bodyF_at (k := 1) (ds := [.scr (ns.map D.int)]) rfl, heq]
  have en : (⟨[D.scr (ns.map D.int)].map RV.d ++ List.replicate (N - 1) .un, []⟩ : W) = ⟨.d (.scr (ns.map D.int)) :: List.replicate (N - 1) .un, []⟩ := rfl
  rw [en, mSeq_nx q1, mSeq_nx q3]
  rfl
end DB

set_option Elab.async false
set_option linter.all false
set_option maxRecDepth 100000
set_option maxHeartbeats 4000000
namespace DB
open PySem PySem.Spec PyProof.Rows L2
/-! plain: the law's own reckoning -/
theorem atI_last {α : Type} {l : List α} : atI l (-1) = l.getLast? := by
  cases l with
  | nil => rfl
  | cons x l =>
    unfold atI ixN
    have : -((x :: l).length : Int) ≤ -1 := by simp; omega
    rw [if_neg (by decide), if_pos this]
    have e : (-1 + ((x :: l).length : Int)).toNat = (x :: l).length - 1 := by simp; omega
    rw [e, List.getLast?_eq_getElem?]
    rfl
theorem most_dec : ∀ a, a < 13 → 1 ≤ a → ∀ b, b < 13 → ((List.range a).filter fun i => a % (1 + i) == 0 && b % (1 + i) == 0).getLast? = some (Nat.gcd a b - 1) := by decide +kernel
theorem most_ok {a b : Nat} (a1 : 1 ≤ a) (a12 : a ≤ 12) (b12 : b ≤ 12) (S : List Cell) : F__law_most [.int (a : Nat), .int (b : Nat)] S = .ok (.d (.int (Nat.gcd a b : Nat))) S := by
  have rg : mRng2 (mCons (mC (.int 1)) (mCons (mBin gAdd (mPk 0) (mC (.int 1))) mNil)) ⟨[.d (.int (a : Nat)), .d (.int (b : Nat)), .un], S⟩ = .ok ((List.range a).map fun i => .int (1 + (i : Nat))) ⟨[.d (.int (a : Nat)), .d (.int (b : Nat)), .un], S⟩ := by
    have := mRng2_at (r := mCons (mC (.int 1)) (mCons (mBin gAdd (mPk 0) (mC (.int 1))) mNil)) (w := ⟨[.d (.int (a : Nat)), .d (.int (b : Nat)), .un], S⟩) (i := 1) (j := (a : Int) + 1) rfl (by decide) (by decide) (by omega) (by omega)
    rw [this]
    unfold rngD
    rw [show ((a : Int) + 1 - 1).toNat = a by omega]
  have md : ∀ (x i : Nat), gMod (.int (x : Nat)) (.int (1 + (i : Nat))) = some (.d (.int ((x % (1 + i) : Nat) : Int))) := fun x i => by
    rw [Int.natCast_emod]; exact if_pos (by omega)
  have q : mLc [2] (mRng2 (mCons (mC (.int 1)) (mCons (mBin gAdd (mPk 0) (mC (.int 1))) mNil))) (gNm 2) (mAnd (mBin gEq (mBin gMod (mPk 0) (mPk 2)) (mC (.int 0))) (mBin gEq (mBin gMod (mPk 1) (mPk 2)) (mC (.int 0)))) (mVar 2) ⟨[.d (.int (a : Nat)), .d (.int (b : Nat)), .un], S⟩ =
      .ok (.own (((List.range a).filter fun i => a % (1 + i) == 0 && b % (1 + i) == 0).map fun i => .int (1 + (i : Nat)))) ⟨[.d (.int (a : Nat)), .d (.int (b : Nat)), .un], S⟩ := by
    refine mLc_filt (fun i : Nat => D.int (1 + (i : Nat))) (fun i : Nat => D.int (1 + (i : Nat))) _ (List.range a) rg rfl (fun i hi => ?_) (by simp; omega)
    let w : W := ⟨[.d (.int (a : Nat)), .d (.int (b : Nat)), .d (.int (1 + (i : Nat)))], S⟩
    refine ⟨w, w, rfl, ?_, fun _ => ⟨.d (.int (1 + (i : Nat))), w, rfl, rfl, rfl, rfl⟩, fun _ => ⟨rfl, rfl⟩⟩
    show mAnd _ _ ⟨[.d (.int (a : Nat)), .d (.int (b : Nat)), .d (.int (1 + (i : Nat)))], S⟩ = Res.ok (.d (.bl (a % (1 + i) == 0 && b % (1 + i) == 0))) ⟨[.d (.int (a : Nat)), .d (.int (b : Nat)), .d (.int (1 + (i : Nat)))], S⟩
    have m1 := md a i
    have m2 := md b i
    generalize a % (1 + i) = u at m1 ⊢
    generalize b % (1 + i) = v at m2 ⊢
    have c1 : mBin gEq (mBin gMod (mPk 0) (mPk 2)) (mC (.int 0)) ⟨[.d (.int (a : Nat)), .d (.int (b : Nat)), .d (.int (1 + (i : Nat)))], S⟩ = .ok (.d (.bl (u == 0))) ⟨[.d (.int (a : Nat)), .d (.int (b : Nat)), .d (.int (1 + (i : Nat)))], S⟩ := by
      have : decide ((u : Int) = 0) = (u == 0) := by rw [Bool.eq_iff_iff]; simp
      simp only [ev_bin, ev_pk, ev_C, List.getElem?_cons_zero, List.getElem?_cons_succ, ev_bd_d, m1, ev_ofO, ev_eqi, this]
    have c2 : mBin gEq (mBin gMod (mPk 1) (mPk 2)) (mC (.int 0)) ⟨[.d (.int (a : Nat)), .d (.int (b : Nat)), .d (.int (1 + (i : Nat)))], S⟩ = .ok (.d (.bl (v == 0))) ⟨[.d (.int (a : Nat)), .d (.int (b : Nat)), .d (.int (1 + (i : Nat)))], S⟩ := by
      have : decide ((v : Int) = 0) = (v == 0) := by rw [Bool.eq_iff_iff]; simp
      simp only [ev_bin, ev_pk, ev_C, List.getElem?_cons_zero, List.getElem?_cons_succ, ev_bd_d, m2, ev_ofO, ev_eqi, this]
    exact mAnd_ok c1 fun _ => c2
  have l := most_dec a (by omega) a1 b (by omega)
  have g0 : 0 < Nat.gcd a b := Nat.gcd_pos_of_pos_left _ a1
  have l2 : atI (((List.range a).filter fun i => a % (1 + i) == 0 && b % (1 + i) == 0).map fun i => D.int (1 + (i : Nat))) (-1) = some (.int (Nat.gcd a b : Nat)) := by
    rw [atI_last, List.getLast?_map, l]
    show some (D.int (1 + ((Nat.gcd a b - 1 : Nat) : Int))) = _
    rw [show 1 + ((Nat.gcd a b - 1 : Nat) : Int) = (Nat.gcd a b : Nat) by omega]
  unfold F__law_most m__law_most
  generalize mRng2 = MR at q ⊢
  as_aux_lemma => simp [q, l2]
theorem goodB {B : Belt} {d : D} (ty : hasTy d = true) : (isTy "int" d && (!isTy "bool" d && match d with | .int i => decide (0 ≤ i) && decide (i < (B.f : Nat)) | _ => false)) = isN d 0 ((B.f : Int) - 1) := by
  cases d with
  | int i =>
    have e : decide (i < (B.f : Int)) = decide (i ≤ (B.f : Int) - 1) := by by_cases h : i < (B.f : Int) <;> simp [h] <;> omega
    simp [isN, isTy, isTyN, tyN, e]
  | _ => simp [isN, isTy, isTyN, tyN] <;> decide
noncomputable def wrB : MS := (mSeq (mSet 3 (mAnd (mIsi "int" (mBin gIx (mPk 0) (mPk 2))) (mAnd (mNot (mIsi "bool" (mBin gIx (mPk 0) (mPk 2)))) (mChain gLe gLt (mC (.int 0)) (mBin gIx (mPk 0) (mPk 2)) (mBin gIx (mPk 1) (mC (.int 1)))))))
  (mIf (mOr (mBin gEq (mPk 2) (mCB (g1 gLen) (mCons (mBin gIx (mPk 1) (mC (.int 3))) mNil))) (mNot (mVar 3))) (mMv 2) mNext))
theorem wr_step {B : Belt} {ds : List D} {S : List Cell} {k : Nat} {d : D} {x3 : RV} (hd : ds[k]? = some d) (ty : hasTy d = true) :
    ∃ y3, wrB ⟨[.d (.tup ds), .d B.d, .d (.int (k : Nat)), x3], S⟩ = if (decide ((k : Int) = (B.ds.length : Nat)) || !isN d 0 ((B.f : Int) - 1)) = true then .rt (.d (.int (k : Nat))) S else .nx ⟨[.d (.tup ds), .d B.d, .d (.int (k : Nat)), y3], S⟩ := by
  refine ⟨.d (.bl (isN d 0 ((B.f : Int) - 1))), ?_⟩
  rw [← goodB ty]
  obtain ⟨hk, hd2⟩ := List.getElem?_eq_some_iff.mp hd
  unfold wrB
  by_cases c3 : k = B.ds.length
  · subst c3
    cases d with
    | int i => by_cases c1 : (0 : Int) ≤ i <;> by_cases c2 : i < (B.f : Int) <;> simp [hd, hd2, hk, c1, c2]
    | bl b => simp [hd, hd2, hk]
    | _ =>
      first
      | (exfalso; revert ty; simp [hasTy, tyN]; done)
      | simp [hd, hd2, hk]
  · have c4 : ¬ ((k : Int) = (B.ds.length : Nat)) := by omega
    cases d with
    | int i => by_cases c1 : (0 : Int) ≤ i <;> by_cases c2 : i < (B.f : Int) <;> simp [hd, hd2, hk, c1, c2, c3, c4]
    | bl b => simp [hd, hd2, hk, c3, c4]
    | _ =>
      first
      | (exfalso; revert ty; simp [hasTy, tyN]; done)
      | simp [hd, hd2, hk, c3, c4]
theorem wr_loop {B : Belt} {ds : List D} {S : List Cell} (ty : ∀ d ∈ ds, hasTy d = true) : ∀ (m t : Nat) (x2 x3 : RV), t + m = ds.length →
    (∃ j, fwGo (fun d => isN d 0 ((B.f : Int) - 1)) (B.ds.length : Nat) t (ds.drop t) = some j ∧ forL (gNm 2) wrB ((List.range' t m).map fun i : Nat => D.int (i : Nat)) ⟨[.d (.tup ds), .d B.d, x2, x3], S⟩ = .rt (.d (.int (j : Nat))) S) ∨
    (fwGo (fun d => isN d 0 ((B.f : Int) - 1)) (B.ds.length : Nat) t (ds.drop t) = none ∧ ∃ y2 y3, forL (gNm 2) wrB ((List.range' t m).map fun i : Nat => D.int (i : Nat)) ⟨[.d (.tup ds), .d B.d, x2, x3], S⟩ = .nx ⟨[.d (.tup ds), .d B.d, y2, y3], S⟩)
  | 0, t, x2, x3, h => .inr ⟨by rw [List.drop_of_length_le (by omega)]; rfl, x2, x3, rfl⟩
  | m + 1, t, x2, x3, h => by
    have ht : t < ds.length := by omega
    obtain ⟨y3, st⟩ := wr_step (B := B) (S := S) (x3 := x3) (List.getElem?_eq_getElem ht) (ty _ (List.getElem_mem ht))
    have ed : ds.drop t = ds[t] :: ds.drop (t + 1) := List.drop_eq_getElem_cons ht
    rw [ed, List.range'_succ, List.map_cons]
    unfold fwGo
    by_cases c : (decide ((t : Int) = (B.ds.length : Nat)) || !isN ds[t] 0 ((B.f : Int) - 1)) = true
    · rw [if_pos c] at st
      refine .inl ⟨t, if_pos c, ?_⟩
      unfold forL
      show (match wrB ⟨[.d (.tup ds), .d B.d, .d (.int (t : Nat)), x3], S⟩ with | .nx w2 => _ | .ct w2 => _ | .bk w2 => _ | r => r) = _
      rw [st]
    · rw [if_neg c] at st
      rw [if_neg c, forL_nx (g := gNm 2) (w1 := ⟨[.d (.tup ds), .d B.d, .d (.int (t : Nat)), x3], S⟩) rfl st]
      exact wr_loop ty m (t + 1) _ _ (by omega)
theorem wrong_ok {B : Belt} {x : D} (hx : dok 2 x = true) (hl : ∀ ds, x = .tup ds → ds.length < 1000) (S : List Cell) : F__law_wrong [x, B.d] S = .ok (.d (optN (goalBad B x))) S := by
  have ty := dok_ty hx
  by_cases ht : ∃ ds, x = .tup ds
  · obtain ⟨ds, rfl⟩ := ht
    have hm := hl ds rfl
    have lp := wr_loop (B := B) (ds := ds) (S := S) (fun d hd => by
      simp only [dok] at hx
      exact dok_ty (doks_mem hx d hd)) ds.length 0 .un .un (by omega)
    have rg : mRng1 (mCons (mCB (g1 gLen) (mCons (mPk 0) mNil)) mNil) ⟨[.d (.tup ds), .d B.d, .un, .un], S⟩ = .ok ((List.range' 0 ds.length).map fun i : Nat => D.int (i : Nat)) ⟨[.d (.tup ds), .d B.d, .un, .un], S⟩ := by
      rw [← List.range_eq_range']
      exact mRng_nat (by simp) (by omega)
    unfold wrB at lp
    have gb : goalBad B (.tup ds) = (match fwGo (fun d => isN d 0 ((B.f : Int) - 1)) (B.ds.length : Nat) 0 ds with | some k => some k | none => if (ds.length : Int) < (B.ds.length : Nat) then some ds.length else none) := rfl
    unfold F__law_wrong m__law_wrong
    rcases lp with ⟨j, e1, e2⟩ | ⟨e1, y2, y3, e2⟩
    · rw [List.drop_zero] at e1
      rw [e1] at gb
      rw [gb]
      generalize mRng1 = MR at rg ⊢
      as_aux_lemma =>
        simp [rg]
        rw [e2]
        simp [optN]
    · rw [List.drop_zero] at e1
      rw [e1] at gb
      rw [gb]
      generalize mRng1 = MR at rg ⊢
      as_aux_lemma =>
        simp [rg]
        rw [e2]
        by_cases c : ds.length < B.ds.length <;> simp [optN, c]
  · have hf : isTy "tuple" x = false := by
      cases x with
      | tup ds => exact absurd ⟨ds, rfl⟩ ht
      | _ => simp [isTy, isTyN, tyN] <;> decide
    have hb : goalBad B x = some 0 := by
      unfold goalBad fw
      cases x with
      | tup ds => exact absurd ⟨ds, rfl⟩ ht
      | _ => rfl
    unfold F__law_wrong m__law_wrong
    simp [ty, hf, hb, optN]
end DB

set_option Elab.async false
set_option linter.all false
set_option maxRecDepth 100000
set_option maxHeartbeats 4000000
namespace DB
open PySem PySem.Spec PyProof.Rows L2
noncomputable def u0 : MS := (mSetC 1 (mCall F__law_start (mCons (mVar 0) mNil)))
noncomputable def u1_0 : MS := (mSet 3 (mCall F__law_belt (mCons (mVar 1) (mCons (mC (.int 12)) (mCons (mC (.int 9)) mNil)))))
noncomputable def u1_1 : MS := (mAsg (gTp 2 (gsCons (gNm 4) (gsCons (gNm 5) gsNil))) (mTup (mCons (mCall F__law_goal (mCons (mVar 1) (mCons (mVar 3) mNil))) (mCons (mCB (g1 gLen) (mCons (mBin gIx (mPk 3) (mC (.int 3))) mNil)) mNil))))
noncomputable def u1_2 : MS := (mSet 6 (mIfE (mBin gEq (mBin gIx (mPk 3) (mC (.int 0))) (mC (.str "row"))) (mBin gIx (mPk 3) (mC (.int 2))) (mCall F__law_most (mCons (mBin gIx (mPk 3) (mC (.int 2))) (mCons (mVar 5) mNil)))))
noncomputable def u1_3 : MS := (mSet 7 (mCall F__law_most (mCons (mBin gIx (mPk 3) (mC (.int 1))) (mCons (mBin gDiv (mBin gIx (mPk 3) (mC (.int 2))) (mPk 6)) mNil))))
noncomputable def u1_4 : MS := (mSet 8 (mLst mNil))
noncomputable def u1_5_0 : MS := (mApp 8 (mBin gMod (mCB (g1 gSum) (mCons (mLc [18] (mRng3 (mCons (mPk 9) (mCons (mPk 5) (mCons (mPk 6) mNil)))) (gNm 18) mT (mBin gSub (mBin gIx (mPk 4) (mPk 18)) (mBin gIx (mBin gIx (mPk 3) (mC (.int 3))) (mPk 18)))) mNil)) (mBin gIx (mPk 3) (mC (.int 1)))))
noncomputable def u1_5b : MS := u1_5_0
noncomputable def u1_5 : MS := (mFor (mRng1 (mCons (mPk 6) mNil)) (gNm 9) u1_5b)
noncomputable def u1_6 : MS := (mSet 10 (mLc [9] (mRng1 (mCons (mPk 6) mNil)) (gNm 9) (mBin gNe (mBin gIx (mPk 8) (mPk 9)) (mBin gIx (mPk 8) (mC (.int 0)))) (mVar 9)))
noncomputable def u1_7 : MS := (mSet 11 (mIfE (mBin gNe (mPk 10) (mLst mNil)) (mTup (mCons (mC (.str "class")) (mCons (mBin gIx (mPk 10) (mC (.int 0))) mNil))) (mC .non)))
noncomputable def u1_8 : MS := (mIf (mAnd (mBin gEq (mPk 10) (mLst mNil)) (mBin gNe (mBin gMod (mBin gIx (mPk 8) (mC (.int 0))) (mPk 7)) (mC (.int 0)))) (mSet 11 (mTup (mCons (mC (.str "share")) (mCons (mBin gMod (mBin gIx (mPk 8) (mC (.int 0))) (mPk 7)) mNil)))) mNext)
noncomputable def u1_9 : MS := (mSet 12 (mCall F_changes (mCons (mVar 3) (mCons (mVar 4) mNil))))
noncomputable def u1_10 : MS := (mIf (mNot (mCallP F__law_same (mCons (mLst (mCons (mCall F_parted (mCons (mVar 3) mNil)) (mCons (mPk 12) (mCons (mCall F_barred (mCons (mVar 3) (mCons (mVar 4) mNil))) mNil)))) (mCons (mLst (mCons (mTup (mCons (mVar 6) (mCons (mVar 7) mNil))) (mCons (mPk 8) (mCons (mPk 11) mNil)))) mNil)))) (mRet (mC (.bl false))) mNext)
noncomputable def u1_11 : MS := (mApp 12 (mC (.int 0)))
noncomputable def u1_12 : MS := (mIf (mBin gNe (mCall F_changes (mCons (mVar 3) (mCons (mVar 4) mNil))) (mPk 8)) (mRet (mC (.bl false))) mNext)
noncomputable def u1_13 : MS := (mPar2 13 14 (mCall F__law_drawn (mCons (mVar 1) (mCons (mBin gAdd (mPk 5) (mC (.int 1))) mNil))) (mBin gIx (mLst (mCons (mBin gSub (mC (.int 0)) (mC (.int 1))) (mCons (mBin gIx (mPk 3) (mC (.int 1))) (mCons (mC (.bl true)) (mCons (mC .non) (mCons (mC (.str "0")) (mCons (mBin gPow (mC (.int 10)) (mC (.int 18))) mNil))))))) (mCall F__law_drawn (mCons (mVar 1) (mCons (mC (.int 6)) mNil)))))
noncomputable def u1_14 : MS := (mSet 15 (mLst (mCons (mBin gAdd (mBin gAdd (mSl (mPk 4) mNo (mPt (mVar 13))) (mTup (mCons (mVar 14) mNil))) (mSl (mPk 4) (mPt (mVar 13)) mNo)) (mCons (mSl (mPk 4) mNo (mPt (mVar 13))) (mCons (mCB (g1 gList) (mCons (mPk 4) mNil)) (mCons (mC .non) (mCons (mBin gAdd (mBin gAdd (mSl (mPk 4) mNo (mPt (mVar 13))) (mTup (mCons (mVar 14) mNil))) (mSl (mPk 4) (mPt (mBin gAdd (mPk 13) (mC (.int 1)))) mNo)) mNil)))))))
noncomputable def u1_15 : MS := (mSet 15 (mBin gIx (mPk 15) (mCall F__law_drawn (mCons (mVar 1) (mCons (mC (.int 5)) mNil)))))
noncomputable def u1_16 : MS := (mSet 16 (mCall F__law_wrong (mCons (mVar 15) (mCons (mVar 3) mNil))))
noncomputable def u1_17 : MS := (mSet 17 (mLst (mCons (mFrz [3, 15] (mMkF 2)) (mCons (mFrz [3, 15] (mMkF 1)) (mCons (mFrz [3, 15] (mMkF 0)) mNil)))))
noncomputable def u1_18 : MS := (mIf (mAnd (mBin gIsNot (mPk 16) (mC .non)) (mBin gNe (mLc [19] (mSeqI (mVar 17)) (gNm 19) mT (mCallW (fun act => bodyG 5 0 (m__law_kind act)) t_law 19)) (mBin gMul (mLst (mCons (mTup (mCons (mC (.str "BadGoal")) (mCons (mVar 16) mNil))) mNil)) (mC (.int 3))))) (mRet (mC (.bl false))) mNext)
noncomputable def u1_19 : MS := (mIf (mBin gNe (mFrz [3, 15] (mCallL (fun act => bodyG 5 0 (m__law_kind act)) [3, 15] [] (mCall F_barred (mCons (mSl (mPk 3) mNo (mPt (mC (.int 4)))) (mCons (mVar 15) mNil))) mNil)) (mTup (mCons (mC (.str "BadBelt")) (mCons (mBin gSub (mC (.int 0)) (mC (.int 1))) (mCons (mC (.int 0)) mNil))))) (mRet (mC (.bl false))) mNext)
noncomputable def u1b : MS := (mSeq u1_0 (mSeq u1_1 (mSeq u1_2 (mSeq u1_3 (mSeq u1_4 (mSeq u1_5 (mSeq u1_6 (mSeq u1_7 (mSeq u1_8 (mSeq u1_9 (mSeq u1_10 (mSeq u1_11 (mSeq u1_12 (mSeq u1_13 (mSeq u1_14 (mSeq u1_15 (mSeq u1_16 (mSeq u1_17 (mSeq u1_18 u1_19)))))))))))))))))))
noncomputable def u1 : MS := (mFor (mRng1 (mCons (mC (.int 6)) mNil)) (gNm 2) u1b)
noncomputable def u2 : MS := (mRet (mC (.bl true)))
theorem ueq : m_law = (mSeq u0 (mSeq u1 u2)) := by
  unfold m_law u2 u1 u1b u1_19 u1_18 u1_17 u1_16 u1_15 u1_14 u1_13 u1_12 u1_11 u1_10 u1_9 u1_8 u1_7 u1_6 u1_5 u1_5b u1_5_0 u1_4 u1_3 u1_2 u1_1 u1_0 u0
  rfl

section
variable {ns : List Int} {S : List Cell} {sc : D} {B : Belt} {gs : List Nat} {x2 x3 x4 x5 x6 x7 x8 x9 x10 x11 x12 x13 x14 x15 x16 x17 : RV}
theorem u1_0_ok (hS : SOK ns S 0) : ∃ (B : Belt) (S' : List Cell), u1_0 ⟨[.d sc, .d (.cell 0), x2, x3, x4, x5, x6, x7, x8, x9, x10, x11, x12, x13, x14, x15, x16, x17, .un, .un], S⟩ = .nx ⟨[.d sc, .d (.cell 0), x2, .d B.d, x4, x5, x6, x7, x8, x9, x10, x11, x12, x13, x14, x15, x16, x17, .un, .un], S'⟩ ∧ B.Ok ∧ SOK ns S' 0 := by
  obtain ⟨B, S1, e1, hB, h1⟩ := belt_drawn (most := 12) (figs := 9) hS (by decide) (by decide) (by decide) (by decide)
  refine ⟨B, S1, ?_, hB, h1⟩
  unfold u1_0
  generalize F__law_belt = F1 at e1 ⊢
  as_aux_lemma => simp [e1]
theorem u1_1_ok (h : B.Ok) (hS : SOK ns S 0) : ∃ (gs : List Nat) (S' : List Cell), u1_1 ⟨[.d sc, .d (.cell 0), x2, .d B.d, x4, x5, x6, x7, x8, x9, x10, x11, x12, x13, x14, x15, x16, x17, .un, .un], S⟩ = .nx ⟨[.d sc, .d (.cell 0), x2, .d B.d, .d (goalD gs), .d (.int (B.ds.length : Nat)), x6, x7, x8, x9, x10, x11, x12, x13, x14, x15, x16, x17, .un, .un], S'⟩ ∧ GOk B gs ∧ SOK ns S' 0 := by
  obtain ⟨gs, S1, e1, hg, h1⟩ := goal_drawn h hS
  refine ⟨gs, S1, ?_, hg, h1⟩
  unfold u1_1
  generalize F__law_goal = F1 at e1 ⊢
  as_aux_lemma => simp [e1]
theorem u1_2_ok (h : B.Ok) : u1_2 ⟨[.d sc, .d (.cell 0), x2, .d B.d, .d (goalD gs), .d (.int (B.ds.length : Nat)), x6, x7, x8, x9, x10, x11, x12, x13, x14, x15, x16, x17, .un, .un], S⟩ = .nx ⟨[.d sc, .d (.cell 0), x2, .d B.d, .d (goalD gs), .d (.int (B.ds.length : Nat)), .d (.int (B.classes : Nat)), x7, x8, x9, x10, x11, x12, x13, x14, x15, x16, x17, .un, .un], S⟩ := by
  have w1 := h.w1
  have w12 := h.w12
  have l12 := h.l12
  have q := most_ok (a := B.w) (b := B.ds.length) w1 w12 l12 S
  unfold u1_2
  generalize F__law_most = F1 at q ⊢
  cases hr : B.ring with
  | true =>
    have e : B.classes = Nat.gcd B.w B.ds.length := by unfold Belt.classes; rw [hr]; rfl
    have ne : ¬ (("ring" : Str) = "row") := by decide +kernel
    rw [← e] at q
    as_aux_lemma => simp [hr, ringD, ne, q]
  | false =>
    have e : B.classes = B.w := by unfold Belt.classes; rw [hr]; rfl
    rw [e]
    as_aux_lemma => simp [hr, ringD]
theorem u1_3_ok (h : B.Ok) : u1_3 ⟨[.d sc, .d (.cell 0), x2, .d B.d, .d (goalD gs), .d (.int (B.ds.length : Nat)), .d (.int (B.classes : Nat)), x7, x8, x9, x10, x11, x12, x13, x14, x15, x16, x17, .un, .un], S⟩ = .nx ⟨[.d sc, .d (.cell 0), x2, .d B.d, .d (goalD gs), .d (.int (B.ds.length : Nat)), .d (.int (B.classes : Nat)), .d (.int (B.share : Nat)), x8, x9, x10, x11, x12, x13, x14, x15, x16, x17, .un, .un], S⟩ := by
  obtain ⟨c1, c2⟩ := h.cl
  have w1 := h.w1
  have w12 := h.w12
  have f2 := h.f2
  have f9 := h.f9
  have q := most_ok (a := B.f) (b := B.w / B.classes) (by omega) (by omega) (Nat.le_trans (Nat.div_le_self ..) w12) S
  have d : gDiv (.int (B.w : Nat)) (.int (B.classes : Nat)) = some (.d (.int ((B.w / B.classes : Nat) : Int))) := by
    rw [Int.natCast_ediv]; exact ev_div (by omega) (by omega)
  have es : Nat.gcd B.f (B.w / B.classes) = B.share := rfl
  rw [es] at q
  unfold u1_3
  generalize B.w / B.classes = y at d q
  generalize gDiv = M at d ⊢
  generalize F__law_most = F1 at q ⊢
  as_aux_lemma => simp [d, q]
theorem u1_4_ok : u1_4 ⟨[.d sc, .d (.cell 0), x2, .d B.d, .d (goalD gs), .d (.int (B.ds.length : Nat)), .d (.int (B.classes : Nat)), .d (.int (B.share : Nat)), x8, x9, x10, x11, x12, x13, x14, x15, x16, x17, .un, .un], S⟩ = .nx ⟨[.d sc, .d (.cell 0), x2, .d B.d, .d (goalD gs), .d (.int (B.ds.length : Nat)), .d (.int (B.classes : Nat)), .d (.int (B.share : Nat)), .own [], x9, x10, x11, x12, x13, x14, x15, x16, x17, .un, .un], S⟩ := by
  unfold u1_4
  simp

set_option synthInstance.maxHeartbeats 1000000 in
set_option synthInstance.maxSize 10000 in
theorem cls_list : ∀ n, n < 13 → ∀ cl, cl < 13 → 1 ≤ cl → cl ≤ n → ∀ k, k < cl → okC (k : Nat) (n : Nat) (cl : Nat) = true ∧ (List.range (sizC (k : Nat) (n : Nat) (cl : Nat))).map (fun t => k + t * cl) = (List.range n).filter fun i => i % cl == k := by decide +kernel
theorem sm_filter {k : Nat} {F : Nat → Int} {p : Nat → Bool} : (((List.range k).filter p).map F).sum = sm k fun i => if p i = true then F i else 0 := by
  induction k with
  | zero => rfl
  | succ k ih =>
    rw [List.range_succ, List.filter_append, List.map_append, List.sum_append, ih]
    simp only [sm]
    cases h : p k <;> simp [h]
def gI (B : Belt) (gs : List Nat) (i : Nat) : Int := (nat0 gs i : Int) - (nat0 B.ds i : Int)
theorem intsD_mapF {α : Type} (l : List α) (F : α → Int) : intsD (l.map fun a => D.int (F a)) = some (l.map F) := by
  induction l with
  | nil => rfl
  | cons x l ih => simp [intsD, ih]
theorem u1_5_step (h : B.Ok) (hg : GOk B gs) {k : Nat} (hk : k < B.classes) {LL : List D} (hl : LL.length ≤ 12) : u1_5b ⟨[.d sc, .d (.cell 0), x2, .d B.d, .d (goalD gs), .d (.int (B.ds.length : Nat)), .d (.int (B.classes : Nat)), .d (.int (B.share : Nat)), .own (LL), .d (.int (k : Nat)), x10, x11, x12, x13, x14, x15, x16, x17, .un, .un], S⟩ = .nx ⟨[.d sc, .d (.cell 0), x2, .d B.d, .d (goalD gs), .d (.int (B.ds.length : Nat)), .d (.int (B.classes : Nat)), .d (.int (B.share : Nat)), .own (LL ++ [.int (chI B gs k)]), .d (.int (k : Nat)), x10, x11, x12, x13, x14, x15, x16, x17, .un, .un], S⟩ := by
  obtain ⟨c1, c2⟩ := h.cl
  have f2 := h.f2
  have l12 := h.l12
  have w1 := h.w1
  have wl := h.wl
  have cn : B.classes ≤ B.ds.length := by
    unfold Belt.classes
    split
    · exact Nat.le_trans (Nat.gcd_le_left _ w1) wl
    · exact wl
  obtain ⟨o1, o2⟩ := cls_list B.ds.length (by omega) B.classes (by omega) c1 cn k hk
  have eI : (fun t : Nat => (k : Int) + (t : Int) * (B.classes : Int)) = fun t : Nat => ((k + t * B.classes : Nat) : Int) := by funext t; rw [Int.natCast_add, Int.natCast_mul]
  let E : W := ⟨[.d sc, .d (.cell 0), x2, .d B.d, .d (goalD gs), .d (.int (B.ds.length : Nat)), .d (.int (B.classes : Nat)), .d (.int (B.share : Nat)), .own (LL), .d (.int (k : Nat)), x10, x11, x12, x13, x14, x15, x16, x17, .un, .un], S⟩
  have rg : mRng3 (mCons (mPk 9) (mCons (mPk 5) (mCons (mPk 6) mNil))) E = .ok (((List.range B.ds.length).filter fun i => i % B.classes == k).map fun i : Nat => D.int (i : Nat)) E := by
    have e0 : (mCons (mPk 9) (mCons (mPk 5) (mCons (mPk 6) mNil))) E = .ok [.int (k : Nat), .int (B.ds.length : Nat), .int (B.classes : Nat)] E := rfl
    unfold mRng3
    rw [e0]
    show (if okC _ _ _ = true then _ else _) = _
    rw [if_pos o1, ← o2, List.map_map]
    unfold rngC
    congr 2
  have lc : mLc [18] (mRng3 (mCons (mPk 9) (mCons (mPk 5) (mCons (mPk 6) mNil)))) (gNm 18) mT (mBin gSub (mBin gIx (mPk 4) (mPk 18)) (mBin gIx (mBin gIx (mPk 3) (mC (.int 3))) (mPk 18))) E = .ok (.own (((List.range B.ds.length).filter fun i => i % B.classes == k).map fun i : Nat => D.int (gI B gs i))) E := by
    refine mLc_map (fun i : Nat => D.int (i : Nat)) (fun i => D.int (gI B gs i)) _ rg rfl (fun i hi => ?_) (Nat.le_trans (List.length_filter_le ..) (by simp; omega))
    have hi2 : i < B.ds.length := List.mem_range.mp (List.mem_filter.mp hi).1
    have hl := hg.len
    have a1 : ∀ l : List Nat, l.length = B.ds.length → (l.map fun n : Nat => D.int (n : Nat))[i]? = some (.int (nat0 l i : Nat)) := fun l hl => by
      unfold nat0
      rw [List.getElem?_map, List.getElem?_eq_getElem (by omega)]; rfl
    have a2 := a1 gs hl
    have a3 := a1 B.ds rfl
    refine ⟨_, _, .d (.int (gI B gs i)), ⟨[.d sc, .d (.cell 0), x2, .d B.d, .d (goalD gs), .d (.int (B.ds.length : Nat)), .d (.int (B.classes : Nat)), .d (.int (B.share : Nat)), .own (LL), .d (.int (k : Nat)), x10, x11, x12, x13, x14, x15, x16, x17, .d (.int (i : Nat)), .un], S⟩, rfl, rfl, ?_, rfl, rfl, rfl⟩
    show mBin _ _ _ ⟨[.d sc, .d (.cell 0), x2, .d B.d, .d (goalD gs), .d (.int (B.ds.length : Nat)), .d (.int (B.classes : Nat)), .d (.int (B.share : Nat)), .own (LL), .d (.int (k : Nat)), x10, x11, x12, x13, x14, x15, x16, x17, .d (.int (i : Nat)), .un], S⟩ = _
    generalize hG : (gs.map fun n : Nat => D.int (n : Nat)) = G at a2
    generalize hD : (B.ds.map fun n : Nat => D.int (n : Nat)) = DD at a3
    simp [goalD, hG, hD, a2, a3, gI]
  have sm1 : gSum (.lst (((List.range B.ds.length).filter fun i => i % B.classes == k).map fun i : Nat => D.int (gI B gs i))) = some (.d (.int (cls B.ds.length B.classes (gI B gs) k))) := by
    show (intsD (((List.range B.ds.length).filter fun i => i % B.classes == k).map fun i : Nat => D.int (gI B gs i))).map (fun ns => RV.d (.int ns.sum)) = _
    rw [show intsD (((List.range B.ds.length).filter fun i => i % B.classes == k).map fun i : Nat => D.int (gI B gs i)) = _ from intsD_mapF _ _]
    show some (RV.d (D.int _)) = _
    rw [sm_filter]
    unfold cls
    simp only [beq_iff_eq]
  have md : gMod (.int (cls B.ds.length B.classes (gI B gs) k)) (.int (B.f : Nat)) = some (.d (.int (chI B gs k))) := by
    have : cls B.ds.length B.classes (gI B gs) k % (B.f : Int) = chI B gs k := by
      unfold chI
      refine cg.iff_mod.mp (cls_cg fun i hi => ?_)
      exact cg.mod.symm
    rw [← this]
    exact if_pos (by omega)
  unfold u1_5b u1_5_0
  have z : LL.length < 16777216 := by omega
  generalize mLc = LC at lc ⊢
  generalize gMod = M at md ⊢
  show mApp 8 _ ⟨[.d sc, .d (.cell 0), x2, .d B.d, .d (goalD gs), .d (.int (B.ds.length : Nat)), .d (.int (B.classes : Nat)), .d (.int (B.share : Nat)), .own (LL), .d (.int (k : Nat)), x10, x11, x12, x13, x14, x15, x16, x17, .un, .un], S⟩ = _
  replace lc : LC _ _ _ _ _ ⟨[.d sc, .d (.cell 0), x2, .d B.d, .d (goalD gs), .d (.int (B.ds.length : Nat)), .d (.int (B.classes : Nat)), .d (.int (B.share : Nat)), .own (LL), .d (.int (k : Nat)), x10, x11, x12, x13, x14, x15, x16, x17, .un, .un], S⟩ = .ok _ ⟨[.d sc, .d (.cell 0), x2, .d B.d, .d (goalD gs), .d (.int (B.ds.length : Nat)), .d (.int (B.classes : Nat)), .d (.int (B.share : Nat)), .own (LL), .d (.int (k : Nat)), x10, x11, x12, x13, x14, x15, x16, x17, .un, .un], S⟩ := lc
  generalize mRng3 (mCons (mPk 9) (mCons (mPk 5) (mCons (mPk 6) mNil))) = MR at lc ⊢
  clear_value E
  as_aux_lemma => simp [lc, sm1, md, z]

theorem u1_5_loop (h : B.Ok) (hg : GOk B gs) : ∀ (m t : Nat) (x9 : RV), t + m = B.classes → 0 < m →
    ∃ d9, forL (gNm 9) u1_5b ((List.range' t m).map fun i : Nat => D.int (i : Nat)) ⟨[.d sc, .d (.cell 0), x2, .d B.d, .d (goalD gs), .d (.int (B.ds.length : Nat)), .d (.int (B.classes : Nat)), .d (.int (B.share : Nat)), .own ((List.range t).map fun k => D.int (chI B gs k)), x9, x10, x11, x12, x13, x14, x15, x16, x17, .un, .un], S⟩ = .nx ⟨[.d sc, .d (.cell 0), x2, .d B.d, .d (goalD gs), .d (.int (B.ds.length : Nat)), .d (.int (B.classes : Nat)), .d (.int (B.share : Nat)), .own ((List.range (t + m)).map fun k => D.int (chI B gs k)), .d d9, x10, x11, x12, x13, x14, x15, x16, x17, .un, .un], S⟩
  | m + 1, t, x9, ht, _ => by
    obtain ⟨c1, c2⟩ := h.cl
    have st := u1_5_step (S := S) (sc := sc) (x2 := x2) (x10 := x10) (x11 := x11) (x12 := x12) (x13 := x13) (x14 := x14) (x15 := x15) (x16 := x16) (x17 := x17) h hg (k := t) (by omega) (LL := (List.range t).map fun k => D.int (chI B gs k)) (by simp; omega)
    have e1 : ((List.range t).map fun k => D.int (chI B gs k)) ++ [.int (chI B gs t)] = (List.range (t + 1)).map fun k => D.int (chI B gs k) := by rw [List.range_succ, List.map_append]; rfl
    rw [e1] at st
    rw [List.range'_succ, List.map_cons, forL_nx (g := gNm 9) (w1 := ⟨[.d sc, .d (.cell 0), x2, .d B.d, .d (goalD gs), .d (.int (B.ds.length : Nat)), .d (.int (B.classes : Nat)), .d (.int (B.share : Nat)), .own ((List.range t).map fun k => D.int (chI B gs k)), .d (.int (t : Nat)), x10, x11, x12, x13, x14, x15, x16, x17, .un, .un], S⟩) rfl st]
    rcases Nat.eq_zero_or_pos m with z | z
    · subst z
      exact ⟨.int (t : Nat), rfl⟩
    · obtain ⟨d9, e⟩ := u1_5_loop h hg m (t + 1) (.d (.int (t : Nat))) (by omega) z
      exact ⟨d9, by rw [e, Nat.add_right_comm, Nat.add_assoc]⟩
theorem u1_5_ok (h : B.Ok) (hg : GOk B gs) : ∃ d9, u1_5 ⟨[.d sc, .d (.cell 0), x2, .d B.d, .d (goalD gs), .d (.int (B.ds.length : Nat)), .d (.int (B.classes : Nat)), .d (.int (B.share : Nat)), .own [], x9, x10, x11, x12, x13, x14, x15, x16, x17, .un, .un], S⟩ = .nx ⟨[.d sc, .d (.cell 0), x2, .d B.d, .d (goalD gs), .d (.int (B.ds.length : Nat)), .d (.int (B.classes : Nat)), .d (.int (B.share : Nat)), .own (chL B.f B.classes (sI B gs) B.ds.length), .d d9, x10, x11, x12, x13, x14, x15, x16, x17, .un, .un], S⟩ := by
  obtain ⟨c1, c2⟩ := h.cl
  obtain ⟨d9, e⟩ := u1_5_loop (S := S) (sc := sc) (x2 := x2) (x10 := x10) (x11 := x11) (x12 := x12) (x13 := x13) (x14 := x14) (x15 := x15) (x16 := x16) (x17 := x17) h hg B.classes 0 x9 (by omega) (by omega)
  refine ⟨d9, ?_⟩
  unfold u1_5
  rw [mFor_at (mRng_nat (n := B.classes) (r := mCons (mPk 6) mNil) rfl (by omega)), List.range_eq_range']
  rw [Nat.zero_add] at e
  exact e
theorem chL_get {k : Nat} (hk : k < B.classes) : (chL B.f B.classes (sI B gs) B.ds.length)[k]? = some (.int (chI B gs k)) := by
  unfold chL
  rw [List.getElem?_map, List.getElem?_range hk]; rfl
theorem u1_6_ok (h : B.Ok) {d9 : D} : u1_6 ⟨[.d sc, .d (.cell 0), x2, .d B.d, .d (goalD gs), .d (.int (B.ds.length : Nat)), .d (.int (B.classes : Nat)), .d (.int (B.share : Nat)), .own (chL B.f B.classes (sI B gs) B.ds.length), .d d9, x10, x11, x12, x13, x14, x15, x16, x17, .un, .un], S⟩ = .nx ⟨[.d sc, .d (.cell 0), x2, .d B.d, .d (goalD gs), .d (.int (B.ds.length : Nat)), .d (.int (B.classes : Nat)), .d (.int (B.share : Nat)), .own (chL B.f B.classes (sI B gs) B.ds.length), .d d9, .own ((unlike B.classes (chI B gs)).map fun k : Nat => D.int (k : Nat)), x11, x12, x13, x14, x15, x16, x17, .un, .un], S⟩ := by
  obtain ⟨c1, c2⟩ := h.cl
  have h0 := chL_get (B := B) (gs := gs) (k := 0) (by omega)
  refine mSet_ok (mLc_filt (w := ⟨[.d sc, .d (.cell 0), x2, .d B.d, .d (goalD gs), .d (.int (B.ds.length : Nat)), .d (.int (B.classes : Nat)), .d (.int (B.share : Nat)), .own (chL B.f B.classes (sI B gs) B.ds.length), .d d9, x10, x11, x12, x13, x14, x15, x16, x17, .un, .un], S⟩) (fun i : Nat => D.int (i : Nat)) (fun i : Nat => D.int (i : Nat)) (fun k => !decide (chI B gs k = chI B gs 0)) (List.range B.classes) (mRng_nat (r := mCons (mPk 6) mNil) rfl (by omega)) rfl (fun k hk => ?_) (by simp; omega)) (show 10 < 20 by decide)
  have hk1 := chL_get (B := B) (gs := gs) (List.mem_range.mp hk)
  refine ⟨_, ⟨[.d sc, .d (.cell 0), x2, .d B.d, .d (goalD gs), .d (.int (B.ds.length : Nat)), .d (.int (B.classes : Nat)), .d (.int (B.share : Nat)), .own (chL B.f B.classes (sI B gs) B.ds.length), .d (.int (k : Nat)), x10, x11, x12, x13, x14, x15, x16, x17, .un, .un], S⟩, rfl, ?_, fun _ => ⟨.d (.int (k : Nat)), ⟨[.d sc, .d (.cell 0), x2, .d B.d, .d (goalD gs), .d (.int (B.ds.length : Nat)), .d (.int (B.classes : Nat)), .d (.int (B.share : Nat)), .own (chL B.f B.classes (sI B gs) B.ds.length), .d (.int (k : Nat)), x10, x11, x12, x13, x14, x15, x16, x17, .un, .un], S⟩, rfl, rfl, rfl, rfl⟩, fun _ => ⟨rfl, rfl⟩⟩
  show mBin _ _ _ ⟨[.d sc, .d (.cell 0), x2, .d B.d, .d (goalD gs), .d (.int (B.ds.length : Nat)), .d (.int (B.classes : Nat)), .d (.int (B.share : Nat)), .own (chL B.f B.classes (sI B gs) B.ds.length), .d (.int (k : Nat)), x10, x11, x12, x13, x14, x15, x16, x17, .un, .un], S⟩ = _
  obtain ⟨l0, h1⟩ := List.getElem?_eq_some_iff.mp h0
  obtain ⟨l1, h2⟩ := List.getElem?_eq_some_iff.mp hk1
  generalize chL B.f B.classes (sI B gs) B.ds.length = L at *
  simp [h0, h1, hk1, h2, l0, l1]
theorem ul_ok : okE (.lst ((unlike B.classes (chI B gs)).map fun k : Nat => D.int (k : Nat))) = true := ints_okE _
theorem u1_78_ok (h : B.Ok) {d9 : D} : ∃ y11, u1_7 ⟨[.d sc, .d (.cell 0), x2, .d B.d, .d (goalD gs), .d (.int (B.ds.length : Nat)), .d (.int (B.classes : Nat)), .d (.int (B.share : Nat)), .own (chL B.f B.classes (sI B gs) B.ds.length), .d d9, .own ((unlike B.classes (chI B gs)).map fun k : Nat => D.int (k : Nat)), x11, x12, x13, x14, x15, x16, x17, .un, .un], S⟩ = .nx ⟨[.d sc, .d (.cell 0), x2, .d B.d, .d (goalD gs), .d (.int (B.ds.length : Nat)), .d (.int (B.classes : Nat)), .d (.int (B.share : Nat)), .own (chL B.f B.classes (sI B gs) B.ds.length), .d d9, .own ((unlike B.classes (chI B gs)).map fun k : Nat => D.int (k : Nat)), y11, x12, x13, x14, x15, x16, x17, .un, .un], S⟩ ∧ u1_8 ⟨[.d sc, .d (.cell 0), x2, .d B.d, .d (goalD gs), .d (.int (B.ds.length : Nat)), .d (.int (B.classes : Nat)), .d (.int (B.share : Nat)), .own (chL B.f B.classes (sI B gs) B.ds.length), .d d9, .own ((unlike B.classes (chI B gs)).map fun k : Nat => D.int (k : Nat)), y11, x12, x13, x14, x15, x16, x17, .un, .un], S⟩ = .nx ⟨[.d sc, .d (.cell 0), x2, .d B.d, .d (goalD gs), .d (.int (B.ds.length : Nat)), .d (.int (B.classes : Nat)), .d (.int (B.share : Nat)), .own (chL B.f B.classes (sI B gs) B.ds.length), .d d9, .own ((unlike B.classes (chI B gs)).map fun k : Nat => D.int (k : Nat)), .d (barD B.classes (B.share : Nat) (chI B gs)), x12, x13, x14, x15, x16, x17, .un, .un], S⟩ := by
  obtain ⟨c1, c2⟩ := h.cl
  have f2 := h.f2
  have s0 : 0 < B.share := Nat.gcd_pos_of_pos_left _ (by omega)
  have h0 := chL_get (B := B) (gs := gs) (k := 0) (by omega)
  obtain ⟨l0, h1⟩ := List.getElem?_eq_some_iff.mp h0
  have e1 := eq_nil (ul_ok (B := B) (gs := gs))
  have e2 := ne_nil (ul_ok (B := B) (gs := gs))
  have md : gMod (.int (chI B gs 0)) (.int (B.share : Nat)) = some (.d (.int (chI B gs 0 % (B.share : Nat)))) := if_pos (by omega)
  unfold barD
  cases hu : unlike B.classes (chI B gs) with
  | cons k ks =>
    rw [hu] at e1 e2
    refine ⟨.d (.tup [.str "class", .int (k : Nat)]), ?_, ?_⟩
    · unfold u1_7
      generalize gNe = M at e2 ⊢
      as_aux_lemma => simp at e2 ⊢; simp [e2]
    · unfold u1_8
      generalize gEq = M at e1 ⊢
      as_aux_lemma => simp at e1 ⊢; simp [e1]
  | nil =>
    rw [hu] at e1 e2
    refine ⟨.d .non, ?_, ?_⟩
    · unfold u1_7
      generalize gNe = M at e2 ⊢
      as_aux_lemma => simp at e2 ⊢; simp [e2]
    · unfold u1_8
      generalize chL B.f B.classes (sI B gs) B.ds.length = L at *
      by_cases z : chI B gs 0 % (B.share : Int) = 0
      · generalize gMod = M at md ⊢
        generalize gEq = M2 at e1 ⊢
        as_aux_lemma => simp at e1 ⊢; simp [e1, h0, h1, l0, md, z]
      · generalize gMod = M at md ⊢
        generalize gEq = M2 at e1 ⊢
        as_aux_lemma => simp at e1 ⊢; simp [e1, h0, h1, l0, md, z]

end
end DB

set_option Elab.async false
set_option linter.all false
set_option maxRecDepth 100000
set_option maxHeartbeats 4000000
namespace DB
open PySem PySem.Spec PyProof.Rows L2
section
variable {ns : List Int} {S : List Cell} {sc : D} {B : Belt} {gs : List Nat} {x2 x3 x4 x5 x6 x7 x8 x9 x10 x11 x12 x13 x14 x15 x16 x17 : RV}
theorem u1_9_ok (h : B.Ok) (hg : GOk B gs) {d9 : D} : u1_9 ⟨[.d sc, .d (.cell 0), x2, .d B.d, .d (goalD gs), .d (.int (B.ds.length : Nat)), .d (.int (B.classes : Nat)), .d (.int (B.share : Nat)), .own (chL B.f B.classes (sI B gs) B.ds.length), .d d9, .own ((unlike B.classes (chI B gs)).map fun k : Nat => D.int (k : Nat)), .d (barD B.classes (B.share : Nat) (chI B gs)), x12, x13, x14, x15, x16, x17, .un, .un], S⟩ = .nx ⟨[.d sc, .d (.cell 0), x2, .d B.d, .d (goalD gs), .d (.int (B.ds.length : Nat)), .d (.int (B.classes : Nat)), .d (.int (B.share : Nat)), .own (chL B.f B.classes (sI B gs) B.ds.length), .d d9, .own ((unlike B.classes (chI B gs)).map fun k : Nat => D.int (k : Nat)), .d (barD B.classes (B.share : Nat) (chI B gs)), .own (chL B.f B.classes (sI B gs) B.ds.length), x13, x14, x15, x16, x17, .un, .un], S⟩ := by
  have q := changes_good h hg S
  unfold u1_9
  generalize F_changes = F1 at q ⊢
  as_aux_lemma => simp [q]
theorem dok_up {d : D} (h : dok 0 d = true) (n : Nat) : dok n d = true := by
  cases d <;> cases n <;> simp_all [dok]
theorem smp_int {n : Nat} {i : Int} : smp n (.int i) = true := by cases n <;> rfl
theorem smp_non {n : Nat} : smp n .non = true := by cases n <;> rfl
theorem smp_tup {n : Nat} {ds : List D} (h : ds.length ≤ 1000) (h2 : ∀ d ∈ ds, smp n d = true) : smp (n + 1) (.tup ds) = true := by
  simp only [smp, Bool.and_eq_true, decide_eq_true_eq, List.all_eq_true]; exact ⟨h, h2⟩
theorem smp_lst {n : Nat} {ds : List D} (h : ds.length ≤ 1000) (h2 : ∀ d ∈ ds, smp n d = true) : smp (n + 1) (.lst ds) = true := by
  simp only [smp, Bool.and_eq_true, decide_eq_true_eq, List.all_eq_true]; exact ⟨h, h2⟩
theorem smp_bar {cl : Nat} {s : Int} {c : Nat → Int} : smp 1 (barD cl s c) = true := by
  unfold barD
  split
  · exact smp_tup (by simp) (by
      intro d hd
      simp at hd
      rcases hd with rfl | rfl
      · simp only [smp]; decide +kernel
      · exact smp_int)
  · split
    · exact smp_non
    · exact smp_tup (by simp) (by
        intro d hd
        simp at hd
        rcases hd with rfl | rfl
        · simp only [smp]; decide +kernel
        · exact smp_int)
theorem pure_bar {cl : Nat} {s : Int} {c : Nat → Int} : pureD (barD cl s c) = true := by
  unfold barD
  split
  · rfl
  · split <;> rfl
theorem chL_smp (h : B.Ok) : smp 1 (.lst (chL B.f B.classes (sI B gs) B.ds.length)) = true := by
  obtain ⟨c1, c2⟩ := h.cl
  exact smp_lst (by simp [chL]; omega) fun d hd => by
    obtain ⟨k, _, rfl⟩ := List.mem_map.mp hd
    exact smp_int
theorem pure_ints {α : Type} (l : List α) (F : α → Int) : pureD.pureDs (l.map fun a => D.int (F a)) = true := by
  induction l with
  | nil => rfl
  | cons x l ih => simp [pureD.pureDs, pureD, ih]
def told3 (B : Belt) (gs : List Nat) : D := .lst [.tup [.int (B.classes : Nat), .int (B.share : Nat)], .lst (chL B.f B.classes (sI B gs) B.ds.length), (barD B.classes (B.share : Nat) (chI B gs))]
theorem u1_10_ok (h : B.Ok) (hg : GOk B gs) {d9 : D} : u1_10 ⟨[.d sc, .d (.cell 0), x2, .d B.d, .d (goalD gs), .d (.int (B.ds.length : Nat)), .d (.int (B.classes : Nat)), .d (.int (B.share : Nat)), .own (chL B.f B.classes (sI B gs) B.ds.length), .d d9, .own ((unlike B.classes (chI B gs)).map fun k : Nat => D.int (k : Nat)), .d (barD B.classes (B.share : Nat) (chI B gs)), .own (chL B.f B.classes (sI B gs) B.ds.length), x13, x14, x15, x16, x17, .un, .un], S⟩ = .nx ⟨[.d sc, .d (.cell 0), x2, .d B.d, .d (goalD gs), .d (.int (B.ds.length : Nat)), .d (.int (B.classes : Nat)), .d (.int (B.share : Nat)), .own (chL B.f B.classes (sI B gs) B.ds.length), .d d9, .own ((unlike B.classes (chI B gs)).map fun k : Nat => D.int (k : Nat)), .d (barD B.classes (B.share : Nat) (chI B gs)), .own (chL B.f B.classes (sI B gs) B.ds.length), x13, x14, x15, x16, x17, .un, .un], S⟩ := by
  have q1 := parted_good h h.dok h.good S
  have q2 := barred_good h hg S
  have q3 := same_ok (n := 2) (d := told3 B gs) (smp_lst (by simp) (by
    intro d hd
    simp at hd
    rcases hd with rfl | rfl | rfl
    · exact smp_tup (by simp) (by intro d hd; simp at hd; rcases hd with rfl | rfl <;> exact smp_int)
    · exact chL_smp h
    · exact smp_bar)) (by decide) []
  have pu : pureD.pureDs [told3 B gs, told3 B gs] = true := by
    have a1 : pureD.pureDs (chL B.f B.classes (sI B gs) B.ds.length) = true := pure_ints _ _
    have a2 := pure_bar (cl := B.classes) (s := (B.share : Nat)) (c := chI B gs)
    simp [told3, pureD.pureDs, pureD, a1, a2]
  unfold u1_10
  unfold told3 at q3 pu
  generalize F_parted = F1 at q1 ⊢
  generalize F_barred = F2 at q2 ⊢
  generalize F__law_same = F3 at q3 ⊢
  as_aux_lemma => simp [mCallP, q1, q2, q3, pu]
theorem u1_11_ok (h : B.Ok) {d9 : D} : u1_11 ⟨[.d sc, .d (.cell 0), x2, .d B.d, .d (goalD gs), .d (.int (B.ds.length : Nat)), .d (.int (B.classes : Nat)), .d (.int (B.share : Nat)), .own (chL B.f B.classes (sI B gs) B.ds.length), .d d9, .own ((unlike B.classes (chI B gs)).map fun k : Nat => D.int (k : Nat)), .d (barD B.classes (B.share : Nat) (chI B gs)), .own (chL B.f B.classes (sI B gs) B.ds.length), x13, x14, x15, x16, x17, .un, .un], S⟩ = .nx ⟨[.d sc, .d (.cell 0), x2, .d B.d, .d (goalD gs), .d (.int (B.ds.length : Nat)), .d (.int (B.classes : Nat)), .d (.int (B.share : Nat)), .own (chL B.f B.classes (sI B gs) B.ds.length), .d d9, .own ((unlike B.classes (chI B gs)).map fun k : Nat => D.int (k : Nat)), .d (barD B.classes (B.share : Nat) (chI B gs)), .own (chL B.f B.classes (sI B gs) B.ds.length ++ [.int 0]), x13, x14, x15, x16, x17, .un, .un], S⟩ := by
  obtain ⟨c1, c2⟩ := h.cl
  have l : (chL B.f B.classes (sI B gs) B.ds.length).length < 16777216 := by simp [chL]; omega
  unfold u1_11
  simp [l]
theorem u1_12_ok (h : B.Ok) (hg : GOk B gs) {d9 : D} : u1_12 ⟨[.d sc, .d (.cell 0), x2, .d B.d, .d (goalD gs), .d (.int (B.ds.length : Nat)), .d (.int (B.classes : Nat)), .d (.int (B.share : Nat)), .own (chL B.f B.classes (sI B gs) B.ds.length), .d d9, .own ((unlike B.classes (chI B gs)).map fun k : Nat => D.int (k : Nat)), .d (barD B.classes (B.share : Nat) (chI B gs)), .own (chL B.f B.classes (sI B gs) B.ds.length ++ [.int 0]), x13, x14, x15, x16, x17, .un, .un], S⟩ = .nx ⟨[.d sc, .d (.cell 0), x2, .d B.d, .d (goalD gs), .d (.int (B.ds.length : Nat)), .d (.int (B.classes : Nat)), .d (.int (B.share : Nat)), .own (chL B.f B.classes (sI B gs) B.ds.length), .d d9, .own ((unlike B.classes (chI B gs)).map fun k : Nat => D.int (k : Nat)), .d (barD B.classes (B.share : Nat) (chI B gs)), .own (chL B.f B.classes (sI B gs) B.ds.length ++ [.int 0]), x13, x14, x15, x16, x17, .un, .un], S⟩ := by
  have q := changes_good h hg S
  have q2 : gNe (.lst (chL B.f B.classes (sI B gs) B.ds.length)) (.lst (chL B.f B.classes (sI B gs) B.ds.length)) = some (.d (.bl false)) := gNe_self (okE_of (n := 1) (smp_dok (chL_smp h)) (by decide))
  unfold u1_12
  generalize F_changes = F1 at q ⊢
  generalize gNe = M at q2 ⊢
  as_aux_lemma => simp [q, q2]

theorem u1_13_ok (h : B.Ok) (hS : SOK ns S 0) {d9 : D} : ∃ (a : Nat) (o : D) (S' : List Cell), u1_13 ⟨[.d sc, .d (.cell 0), x2, .d B.d, .d (goalD gs), .d (.int (B.ds.length : Nat)), .d (.int (B.classes : Nat)), .d (.int (B.share : Nat)), .own (chL B.f B.classes (sI B gs) B.ds.length), .d d9, .own ((unlike B.classes (chI B gs)).map fun k : Nat => D.int (k : Nat)), .d (barD B.classes (B.share : Nat) (chI B gs)), .own (chL B.f B.classes (sI B gs) B.ds.length ++ [.int 0]), x13, x14, x15, x16, x17, .un, .un], S⟩ = .nx ⟨[.d sc, .d (.cell 0), x2, .d B.d, .d (goalD gs), .d (.int (B.ds.length : Nat)), .d (.int (B.classes : Nat)), .d (.int (B.share : Nat)), .own (chL B.f B.classes (sI B gs) B.ds.length), .d d9, .own ((unlike B.classes (chI B gs)).map fun k : Nat => D.int (k : Nat)), .d (barD B.classes (B.share : Nat) (chI B gs)), .own (chL B.f B.classes (sI B gs) B.ds.length ++ [.int 0]), .d (.int (a : Nat)), .d o, x15, x16, x17, .un, .un], S'⟩ ∧ a ≤ B.ds.length ∧ dok 0 o = true ∧ SOK ns S' 0 := by
  have l12 := h.l12
  obtain ⟨v, S1, d1, a1, b1, h1⟩ := dr (k := (B.ds.length : Int) + 1) hS (by omega) (by omega)
  obtain ⟨u, S2, d2, a2, b2, h2⟩ := dr (k := 6) h1 (by decide) (by decide)
  obtain ⟨a, rfl⟩ : ∃ a : Nat, v = (a : Int) := ⟨v.toNat, by omega⟩
  have ho : ∃ o : D, atI [D.int (-1), .int (B.f : Nat), .bl true, .non, .str "0", .int 1000000000000000000] u = some o ∧ dok 0 o = true := by
    have : u = 0 ∨ u = 1 ∨ u = 2 ∨ u = 3 ∨ u = 4 ∨ u = 5 := by omega
    rcases this with rfl | rfl | rfl | rfl | rfl | rfl
    · exact ⟨_, rfl, rfl⟩
    · exact ⟨_, rfl, rfl⟩
    · exact ⟨_, rfl, rfl⟩
    · exact ⟨_, rfl, rfl⟩
    · exact ⟨_, rfl, by simp only [dok]; decide +kernel⟩
    · exact ⟨_, rfl, rfl⟩
  obtain ⟨o, eo, ho⟩ := ho
  have pw : gPow (.int 10) (.int 18) = some (.d (.int 1000000000000000000)) := by
    show (if CPow 10 18 then iO (10 ^ (18 : Int).toNat) else none) = _
    rw [if_pos ⟨by decide, by decide, by decide⟩]; rfl
  refine ⟨a, o, S2, ?_, by omega, ho, h2⟩
  unfold u1_13
  generalize F__law_drawn = F1 at d1 d2 ⊢
  generalize gPow = M at pw ⊢
  as_aux_lemma => simp [d1, d2, pw, eo]
def BadOk (y : D) : Prop := dok 2 y = true ∧ ∀ ds, y = .tup ds → ds.length < 1000
theorem u1_1415_ok (h : B.Ok) (hg : GOk B gs) (hS : SOK ns S 0) {d9 o : D} {a : Nat} (ha : a ≤ B.ds.length) (ho : dok 0 o = true) : ∃ (y15 : RV) (y : D) (S' : List Cell), u1_14 ⟨[.d sc, .d (.cell 0), x2, .d B.d, .d (goalD gs), .d (.int (B.ds.length : Nat)), .d (.int (B.classes : Nat)), .d (.int (B.share : Nat)), .own (chL B.f B.classes (sI B gs) B.ds.length), .d d9, .own ((unlike B.classes (chI B gs)).map fun k : Nat => D.int (k : Nat)), .d (barD B.classes (B.share : Nat) (chI B gs)), .own (chL B.f B.classes (sI B gs) B.ds.length ++ [.int 0]), .d (.int (a : Nat)), .d o, x15, x16, x17, .un, .un], S⟩ = .nx ⟨[.d sc, .d (.cell 0), x2, .d B.d, .d (goalD gs), .d (.int (B.ds.length : Nat)), .d (.int (B.classes : Nat)), .d (.int (B.share : Nat)), .own (chL B.f B.classes (sI B gs) B.ds.length), .d d9, .own ((unlike B.classes (chI B gs)).map fun k : Nat => D.int (k : Nat)), .d (barD B.classes (B.share : Nat) (chI B gs)), .own (chL B.f B.classes (sI B gs) B.ds.length ++ [.int 0]), .d (.int (a : Nat)), .d o, y15, x16, x17, .un, .un], S⟩ ∧ u1_15 ⟨[.d sc, .d (.cell 0), x2, .d B.d, .d (goalD gs), .d (.int (B.ds.length : Nat)), .d (.int (B.classes : Nat)), .d (.int (B.share : Nat)), .own (chL B.f B.classes (sI B gs) B.ds.length), .d d9, .own ((unlike B.classes (chI B gs)).map fun k : Nat => D.int (k : Nat)), .d (barD B.classes (B.share : Nat) (chI B gs)), .own (chL B.f B.classes (sI B gs) B.ds.length ++ [.int 0]), .d (.int (a : Nat)), .d o, y15, x16, x17, .un, .un], S⟩ = .nx ⟨[.d sc, .d (.cell 0), x2, .d B.d, .d (goalD gs), .d (.int (B.ds.length : Nat)), .d (.int (B.classes : Nat)), .d (.int (B.share : Nat)), .own (chL B.f B.classes (sI B gs) B.ds.length), .d d9, .own ((unlike B.classes (chI B gs)).map fun k : Nat => D.int (k : Nat)), .d (barD B.classes (B.share : Nat) (chI B gs)), .own (chL B.f B.classes (sI B gs) B.ds.length ++ [.int 0]), .d (.int (a : Nat)), .d o, .d y, x16, x17, .un, .un], S'⟩ ∧ BadOk y ∧ SOK ns S' 0 := by
  have l12 := h.l12
  have gl := hg.len
  have gd : ∀ n, doks n (gs.map fun n : Nat => D.int (n : Nat)) = true := fun n => doks_all fun d hd => by obtain ⟨m, _, rfl⟩ := List.mem_map.mp hd; cases n <;> rfl
  have ht := cutD_take (xs := gs.map fun n : Nat => D.int (n : Nat)) (k := a) (by simp; omega)
  have hd : cutD (gs.map fun n : Nat => D.int (n : Nat)) (some (a : Int)) none = (gs.map fun n : Nat => D.int (n : Nat)).drop a := cutD_drop
  have hd1 : cutD (gs.map fun n : Nat => D.int (n : Nat)) (some ((a : Int) + 1)) none = (gs.map fun n : Nat => D.int (n : Nat)).drop (a + 1) := cutD_drop (k := a + 1)
  have hm : ∀ d ∈ (gs.map fun n : Nat => D.int (n : Nat)), dok 1 d = true := fun d hd => doks_mem (gd 1) d hd
  have o1 := dok_up ho 1
  obtain ⟨v, S1, d1, a1, b1, h1⟩ := dr (k := 5) hS (by decide) (by decide)
  have hy : ∃ y : D, atI [.tup ((gs.map fun n : Nat => D.int (n : Nat)).take a ++ [o] ++ (gs.map fun n : Nat => D.int (n : Nat)).drop a), .tup ((gs.map fun n : Nat => D.int (n : Nat)).take a), .lst (gs.map fun n : Nat => D.int (n : Nat)), .non, .tup ((gs.map fun n : Nat => D.int (n : Nat)).take a ++ [o] ++ (gs.map fun n : Nat => D.int (n : Nat)).drop (a + 1))] v = some y ∧ BadOk y := by
    have : v = 0 ∨ v = 1 ∨ v = 2 ∨ v = 3 ∨ v = 4 := by omega
    rcases this with rfl | rfl | rfl | rfl | rfl
    · refine ⟨_, rfl, ?_, fun ds e => ?_⟩
      · simp only [dok]
        exact doks_all fun d hd => by
          simp only [List.mem_append, List.mem_singleton] at hd
          rcases hd with (hd | rfl) | hd
          · exact hm d (List.mem_of_mem_take hd)
          · exact o1
          · exact hm d (List.mem_of_mem_drop hd)
      · cases e; simp; omega
    · refine ⟨_, rfl, ?_, fun ds e => ?_⟩
      · simp only [dok]
        exact doks_all fun d hd => hm d (List.mem_of_mem_take hd)
      · cases e; simp; omega
    · exact ⟨_, rfl, by simp only [dok]; exact gd 1, fun ds e => by cases e⟩
    · exact ⟨_, rfl, rfl, fun ds e => by cases e⟩
    · refine ⟨_, rfl, ?_, fun ds e => ?_⟩
      · simp only [dok]
        exact doks_all fun d hd => by
          simp only [List.mem_append, List.mem_singleton] at hd
          rcases hd with (hd | rfl) | hd
          · exact hm d (List.mem_of_mem_take hd)
          · exact o1
          · exact hm d (List.mem_of_mem_drop hd)
      · cases e; simp; omega
  obtain ⟨y, ey, hy⟩ := hy
  refine ⟨.own [.tup ((gs.map fun n : Nat => D.int (n : Nat)).take a ++ [o] ++ (gs.map fun n : Nat => D.int (n : Nat)).drop a), .tup ((gs.map fun n : Nat => D.int (n : Nat)).take a), .lst (gs.map fun n : Nat => D.int (n : Nat)), .non, .tup ((gs.map fun n : Nat => D.int (n : Nat)).take a ++ [o] ++ (gs.map fun n : Nat => D.int (n : Nat)).drop (a + 1))], y, S1, ?_, ?_, hy, h1⟩
  · have z1 : min a gs.length + 1 ≤ 16777216 := by omega
    have z2 : min a gs.length + 1 + (gs.length - a) ≤ 16777216 := by omega
    have z3 : min a gs.length + 1 + (gs.length - (a + 1)) ≤ 16777216 := by omega
    unfold u1_14
    simp [goalD, ht, hd, hd1, z1, z2, z3]
  · unfold u1_15
    generalize ([.tup ((gs.map fun n : Nat => D.int (n : Nat)).take a ++ [o] ++ (gs.map fun n : Nat => D.int (n : Nat)).drop a), .tup ((gs.map fun n : Nat => D.int (n : Nat)).take a), .lst (gs.map fun n : Nat => D.int (n : Nat)), .non, .tup ((gs.map fun n : Nat => D.int (n : Nat)).take a ++ [o] ++ (gs.map fun n : Nat => D.int (n : Nat)).drop (a + 1))] : List D) = L at ey ⊢
    generalize F__law_drawn = F1 at d1 ⊢
    as_aux_lemma => simp [d1, ey]
theorem u1_16_ok {d9 o y : D} {a : Nat} (hy : BadOk y) : u1_16 ⟨[.d sc, .d (.cell 0), x2, .d B.d, .d (goalD gs), .d (.int (B.ds.length : Nat)), .d (.int (B.classes : Nat)), .d (.int (B.share : Nat)), .own (chL B.f B.classes (sI B gs) B.ds.length), .d d9, .own ((unlike B.classes (chI B gs)).map fun k : Nat => D.int (k : Nat)), .d (barD B.classes (B.share : Nat) (chI B gs)), .own (chL B.f B.classes (sI B gs) B.ds.length ++ [.int 0]), .d (.int (a : Nat)), .d o, .d y, x16, x17, .un, .un], S⟩ = .nx ⟨[.d sc, .d (.cell 0), x2, .d B.d, .d (goalD gs), .d (.int (B.ds.length : Nat)), .d (.int (B.classes : Nat)), .d (.int (B.share : Nat)), .own (chL B.f B.classes (sI B gs) B.ds.length), .d d9, .own ((unlike B.classes (chI B gs)).map fun k : Nat => D.int (k : Nat)), .d (barD B.classes (B.share : Nat) (chI B gs)), .own (chL B.f B.classes (sI B gs) B.ds.length ++ [.int 0]), .d (.int (a : Nat)), .d o, .d y, .d (optN (goalBad B y)), x17, .un, .un], S⟩ := by
  have q := wrong_ok (B := B) hy.1 hy.2 S
  unfold u1_16
  generalize F__law_wrong = F1 at q ⊢
  as_aux_lemma => simp [q]
theorem u1_17_ok {d9 o y : D} {a : Nat} : u1_17 ⟨[.d sc, .d (.cell 0), x2, .d B.d, .d (goalD gs), .d (.int (B.ds.length : Nat)), .d (.int (B.classes : Nat)), .d (.int (B.share : Nat)), .own (chL B.f B.classes (sI B gs) B.ds.length), .d d9, .own ((unlike B.classes (chI B gs)).map fun k : Nat => D.int (k : Nat)), .d (barD B.classes (B.share : Nat) (chI B gs)), .own (chL B.f B.classes (sI B gs) B.ds.length ++ [.int 0]), .d (.int (a : Nat)), .d o, .d y, .d (optN (goalBad B y)), x17, .un, .un], S⟩ = .nx ⟨[.d sc, .d (.cell 0), x2, .d B.d, .d (goalD gs), .d (.int (B.ds.length : Nat)), .d (.int (B.classes : Nat)), .d (.int (B.share : Nat)), .own (chL B.f B.classes (sI B gs) B.ds.length), .d d9, .own ((unlike B.classes (chI B gs)).map fun k : Nat => D.int (k : Nat)), .d (barD B.classes (B.share : Nat) (chI B gs)), .own (chL B.f B.classes (sI B gs) B.ds.length ++ [.int 0]), .d (.int (a : Nat)), .d o, .d y, .d (optN (goalBad B y)), .own [.fn 2, .fn 1, .fn 0], .un, .un], S⟩ := by
  unfold u1_17
  simp [mFrz, frzs, frz1, mMkF]
theorem tally_bad (h : B.Ok) {y : D} {k : Nat} (hy : dok 2 y = true) (hb : goalBad B y = some k) : F_tally [B.d, y] S = .ex (badGoal k) S := by
  have q0 := need_ok h S
  have q1 := bad_pre hy hb S
  have q2 : F_task_of [B.d, y] S = .ex (badGoal k) S := by
    unfold F_task_of m_task_of
    generalize F_need_belt = F1 at q0 ⊢
    generalize F_need_goal = F2 at q1 ⊢
    as_aux_lemma => simp [q0, q1]
  unfold F_tally m_tally
  generalize F_task_of = F1 at q2 ⊢
  as_aux_lemma => simp [mExO, q2]
theorem kind_goal (k : Nat) : kindD (badGoal k) = some (.tup [.str "BadGoal", .int (k : Nat)]) := rfl
theorem u1_18_ok (h : B.Ok) {d9 o y : D} {a : Nat} (hy : BadOk y) : ∃ y17, u1_18 ⟨[.d sc, .d (.cell 0), x2, .d B.d, .d (goalD gs), .d (.int (B.ds.length : Nat)), .d (.int (B.classes : Nat)), .d (.int (B.share : Nat)), .own (chL B.f B.classes (sI B gs) B.ds.length), .d d9, .own ((unlike B.classes (chI B gs)).map fun k : Nat => D.int (k : Nat)), .d (barD B.classes (B.share : Nat) (chI B gs)), .own (chL B.f B.classes (sI B gs) B.ds.length ++ [.int 0]), .d (.int (a : Nat)), .d o, .d y, .d (optN (goalBad B y)), .own [.fn 2, .fn 1, .fn 0], .un, .un], S⟩ = .nx ⟨[.d sc, .d (.cell 0), x2, .d B.d, .d (goalD gs), .d (.int (B.ds.length : Nat)), .d (.int (B.classes : Nat)), .d (.int (B.share : Nat)), .own (chL B.f B.classes (sI B gs) B.ds.length), .d d9, .own ((unlike B.classes (chI B gs)).map fun k : Nat => D.int (k : Nat)), .d (barD B.classes (B.share : Nat) (chI B gs)), .own (chL B.f B.classes (sI B gs) B.ds.length ++ [.int 0]), .d (.int (a : Nat)), .d o, .d y, .d (optN (goalBad B y)), y17, .un, .un], S⟩ := by
  cases hb : goalBad B y with
  | none =>
    refine ⟨.own [.fn 2, .fn 1, .fn 0], ?_⟩
    unfold u1_18
    simp only [optN]
    simp [isNon]
  | some k =>
    let t : D := .tup [.str "BadGoal", .int (k : Nat)]
    refine ⟨.d (.lst [.fn 2, .fn 1, .fn 0]), ?_⟩
    have ar : mCons (mVar 3) (mCons (mVar 15) mNil) ⟨[.un, .un, .un, .d B.d, .un, .un, .un, .un, .un, .un, .un, .un, .un, .un, .un, .d y, .un, .un, .un, .un], S⟩ = .ok [B.d, y] ⟨[.un, .un, .un, .d B.d, .un, .un, .un, .un, .un, .un, .un, .un, .un, .un, .un, .d y, .un, .un, .un, .un], S⟩ := rfl
    have xb : (badGoal k).cls ∈ xCls := by show (("BadGoal" : Str)) ∈ xCls; decide +kernel
    have q := works_ok (tbl := t_law) (v := 19) (i := 17) (fs := [(2, t), (1, t), (0, t)]) (env := [.d sc, .d (.cell 0), x2, .d B.d, .d (goalD gs), .d (.int (B.ds.length : Nat)), .d (.int (B.classes : Nat)), .d (.int (B.share : Nat)), .own (chL B.f B.classes (sI B gs) B.ds.length), .d d9, .own ((unlike B.classes (chI B gs)).map fun k : Nat => D.int (k : Nat)), .d (barD B.classes (B.share : Nat) (chI B gs)), .own (chL B.f B.classes (sI B gs) B.ds.length ++ [.int 0]), .d (.int (a : Nat)), .d o, .d y, .d (.int (k : Nat)), .own [.fn 2, .fn 1, .fn 0], .un, .un]) (S := S) rfl (by decide) rfl (by simp) (fun p hp => by
      simp only [List.mem_cons, List.not_mem_nil, or_false] at hp
      rcases hp with rfl | rfl | rfl
      · exact ⟨[3, 15], _, rfl, told_call (w := ⟨[.un, .un, .un, .d B.d, .un, .un, .un, .un, .un, .un, .un, .un, .un, .un, .un, .d y, .un, .un, .un, .un], S⟩) ar (.inr ⟨_, changes_bad h hy.1 hb S, xb, kind_goal k⟩)⟩
      · exact ⟨[3, 15], _, rfl, told_call (w := ⟨[.un, .un, .un, .d B.d, .un, .un, .un, .un, .un, .un, .un, .un, .un, .un, .un, .d y, .un, .un, .un, .un], S⟩) ar (.inr ⟨_, barred_bad h hy.1 hb S, xb, kind_goal k⟩)⟩
      · exact ⟨[3, 15], _, rfl, told_call (w := ⟨[.un, .un, .un, .d B.d, .un, .un, .un, .un, .un, .un, .un, .un, .un, .un, .un, .d y, .un, .un, .un, .un], S⟩) ar (.inr ⟨_, tally_bad h hy.1 hb, xb, kind_goal k⟩)⟩)
    have m3 : gMul (.lst [t]) (.int 3) = some (.own [t, t, t]) := by
      rw [gMul_rep ⟨by decide, by decide, by show 1 * 3 ≤ sizeLine; decide⟩]; rfl
    have st : smp 1 t = true := smp_tup (by simp) (by
      intro d hd
      simp at hd
      rcases hd with rfl | rfl
      · simp only [smp]; decide +kernel
      · exact smp_int)
    have n3 : gNe (.lst [t, t, t]) (.lst [t, t, t]) = some (.d (.bl false)) := gNe_self (okE_of (n := 2) (smp_dok (smp_lst (by simp) (by intro d hd; simp at hd; subst hd; exact st))) (by decide))
    unfold u1_18
    simp only [optN]
    simp only [List.map_cons, List.map_nil, List.set] at q
    generalize gNe = M1 at n3 ⊢
    generalize gMul = M2 at m3 ⊢
    generalize mLc [19] (mSeqI (mVar 17)) (gNm 19) mT (mCallW (fun act => bodyG 5 0 (m__law_kind act)) t_law 19) = LC at q ⊢
    simp only [t] at *
    as_aux_lemma => simp [isNon, q, m3, n3]
theorem u1_19_ok (h : B.Ok) {d9 o y : D} {y17 : RV} {a : Nat} (hy : BadOk y) : u1_19 ⟨[.d sc, .d (.cell 0), x2, .d B.d, .d (goalD gs), .d (.int (B.ds.length : Nat)), .d (.int (B.classes : Nat)), .d (.int (B.share : Nat)), .own (chL B.f B.classes (sI B gs) B.ds.length), .d d9, .own ((unlike B.classes (chI B gs)).map fun k : Nat => D.int (k : Nat)), .d (barD B.classes (B.share : Nat) (chI B gs)), .own (chL B.f B.classes (sI B gs) B.ds.length ++ [.int 0]), .d (.int (a : Nat)), .d o, .d y, .d (optN (goalBad B y)), y17, .un, .un], S⟩ = .nx ⟨[.d sc, .d (.cell 0), x2, .d B.d, .d (goalD gs), .d (.int (B.ds.length : Nat)), .d (.int (B.classes : Nat)), .d (.int (B.share : Nat)), .own (chL B.f B.classes (sI B gs) B.ds.length), .d d9, .own ((unlike B.classes (chI B gs)).map fun k : Nat => D.int (k : Nat)), .d (barD B.classes (B.share : Nat) (chI B gs)), .own (chL B.f B.classes (sI B gs) B.ds.length ++ [.int 0]), .d (.int (a : Nat)), .d o, .d y, .d (optN (goalBad B y)), y17, .un, .un], S⟩ := by
  let b4 : D := .tup [.str (ringD B.ring), .int (B.f : Nat), .int (B.w : Nat), .tup (B.ds.map fun n : Nat => D.int (n : Nat))]
  have hk : dok 3 b4 = true := by
    have := h.dok
    simp only [Belt.d, dok, doks, Bool.and_eq_true] at this
    simp only [b4, dok, doks, Bool.and_eq_true]
    exact ⟨this.1, this.2.1, this.2.2.1, this.2.2.2.1, trivial⟩
  have q0 := need_belt_ok (S := S) hk
  have hb : badOf b4 = some (-1, 0) := rfl
  rw [hb] at q0
  have q1 : F_barred [b4, y] S = .ex ⟨"BadBelt", ["number", "part"], [.int 0, .int (-1)]⟩ S := by
    unfold F_barred m_barred
    generalize F_need_belt = F1 at q0 ⊢
    clear_value b4
    as_aux_lemma => simp [q0]
  have ar : mCons (mSl (mPk 3) mNo (mPt (mC (.int 4)))) (mCons (mVar 15) mNil) ⟨[.un, .un, .un, .d B.d, .un, .un, .un, .un, .un, .un, .un, .un, .un, .un, .un, .d y, .un, .un, .un, .un], S⟩ = .ok [b4, y] ⟨[.un, .un, .un, .d B.d, .un, .un, .un, .un, .un, .un, .un, .un, .un, .un, .un, .d y, .un, .un, .un, .un], S⟩ := rfl
  have q := kindL_ok (caps := [3, 15]) (env := [.d sc, .d (.cell 0), x2, .d B.d, .d (goalD gs), .d (.int (B.ds.length : Nat)), .d (.int (B.classes : Nat)), .d (.int (B.share : Nat)), .own (chL B.f B.classes (sI B gs) B.ds.length), .d d9, .own ((unlike B.classes (chI B gs)).map fun k : Nat => D.int (k : Nat)), .d (barD B.classes (B.share : Nat) (chI B gs)), .own (chL B.f B.classes (sI B gs) B.ds.length ++ [.int 0]), .d (.int (a : Nat)), .d o, .d y, .d (optN (goalBad B y)), y17, .un, .un]) (S := S) (m := mCall F_barred (mCons (mSl (mPk 3) mNo (mPt (mC (.int 4)))) (mCons (mVar 15) mNil))) (d := .tup [.str "BadBelt", .int (-1), .int 0]) (told_call (w := ⟨[.un, .un, .un, .d B.d, .un, .un, .un, .un, .un, .un, .un, .un, .un, .un, .un, .d y, .un, .un, .un, .un], S⟩) ar (.inr ⟨_, q1, by show (("BadBelt" : Str)) ∈ xCls; decide +kernel, rfl⟩))
  have n3 : gNe (.tup [.str "BadBelt", .int (-1), .int 0]) (.tup [.str "BadBelt", .int (-1), .int 0]) = some (.d (.bl false)) := gNe_self (okE_of (n := 1) (by simp only [dok, doks]; decide +kernel) (by decide))
  clear_value b4
  unfold u1_19
  generalize gNe = M1 at n3 ⊢
  generalize mCallL (fun act => bodyG 5 0 (m__law_kind act)) [3, 15] [] (mCall F_barred (mCons (mSl (mPk 3) mNo (mPt (mC (.int 4)))) (mCons (mVar 15) mNil))) mNil = LC at q ⊢
  as_aux_lemma => simp [mFrz, frzs, frz1, q, n3]

theorem turn_ok (hS : SOK ns S 0) : ∃ y3 y4 y5 y6 y7 y8 y9 y10 y11 y12 y13 y14 y15 y16 y17 S', u1b ⟨[.d sc, .d (.cell 0), x2, x3, x4, x5, x6, x7, x8, x9, x10, x11, x12, x13, x14, x15, x16, x17, .un, .un], S⟩ = .nx ⟨[.d sc, .d (.cell 0), x2, y3, y4, y5, y6, y7, y8, y9, y10, y11, y12, y13, y14, y15, y16, y17, .un, .un], S'⟩ ∧ SOK ns S' 0 := by
  obtain ⟨B, S1, e0, hB, h1⟩ := u1_0_ok (sc := sc) (x2 := x2) (x3 := x3) (x4 := x4) (x5 := x5) (x6 := x6) (x7 := x7) (x8 := x8) (x9 := x9) (x10 := x10) (x11 := x11) (x12 := x12) (x13 := x13) (x14 := x14) (x15 := x15) (x16 := x16) (x17 := x17) hS
  obtain ⟨gs, S2, e1, hg, h2⟩ := u1_1_ok (sc := sc) (x2 := x2) (x4 := x4) (x5 := x5) (x6 := x6) (x7 := x7) (x8 := x8) (x9 := x9) (x10 := x10) (x11 := x11) (x12 := x12) (x13 := x13) (x14 := x14) (x15 := x15) (x16 := x16) (x17 := x17) hB h1
  have e2 := u1_2_ok (S := S2) (sc := sc) (gs := gs) (x2 := x2) (x6 := x6) (x7 := x7) (x8 := x8) (x9 := x9) (x10 := x10) (x11 := x11) (x12 := x12) (x13 := x13) (x14 := x14) (x15 := x15) (x16 := x16) (x17 := x17) hB
  have e3 := u1_3_ok (S := S2) (sc := sc) (gs := gs) (x2 := x2) (x7 := x7) (x8 := x8) (x9 := x9) (x10 := x10) (x11 := x11) (x12 := x12) (x13 := x13) (x14 := x14) (x15 := x15) (x16 := x16) (x17 := x17) hB
  have e4 := u1_4_ok (S := S2) (sc := sc) (gs := gs) (B := B) (x2 := x2) (x8 := x8) (x9 := x9) (x10 := x10) (x11 := x11) (x12 := x12) (x13 := x13) (x14 := x14) (x15 := x15) (x16 := x16) (x17 := x17)
  obtain ⟨d9, e5⟩ := u1_5_ok (S := S2) (sc := sc) (x2 := x2) (x9 := x9) (x10 := x10) (x11 := x11) (x12 := x12) (x13 := x13) (x14 := x14) (x15 := x15) (x16 := x16) (x17 := x17) hB hg
  have e6 := u1_6_ok (S := S2) (sc := sc) (gs := gs) (d9 := d9) (x2 := x2) (x10 := x10) (x11 := x11) (x12 := x12) (x13 := x13) (x14 := x14) (x15 := x15) (x16 := x16) (x17 := x17) hB
  obtain ⟨z11, e7, e8⟩ := u1_78_ok (S := S2) (sc := sc) (gs := gs) (d9 := d9) (x2 := x2) (x11 := x11) (x12 := x12) (x13 := x13) (x14 := x14) (x15 := x15) (x16 := x16) (x17 := x17) hB
  have e9 := u1_9_ok (S := S2) (sc := sc) (d9 := d9) (x2 := x2) (x12 := x12) (x13 := x13) (x14 := x14) (x15 := x15) (x16 := x16) (x17 := x17) hB hg
  have e10 := u1_10_ok (S := S2) (sc := sc) (d9 := d9) (x2 := x2) (x13 := x13) (x14 := x14) (x15 := x15) (x16 := x16) (x17 := x17) hB hg
  have e11 := u1_11_ok (S := S2) (sc := sc) (gs := gs) (d9 := d9) (x2 := x2) (x13 := x13) (x14 := x14) (x15 := x15) (x16 := x16) (x17 := x17) hB
  have e12 := u1_12_ok (S := S2) (sc := sc) (d9 := d9) (x2 := x2) (x13 := x13) (x14 := x14) (x15 := x15) (x16 := x16) (x17 := x17) hB hg
  obtain ⟨a, o, S3, e13, ha, ho, h3⟩ := u1_13_ok (sc := sc) (gs := gs) (d9 := d9) (x2 := x2) (x13 := x13) (x14 := x14) (x15 := x15) (x16 := x16) (x17 := x17) hB h2
  obtain ⟨z15, y, S4, e14, e15, hy, h4⟩ := u1_1415_ok (sc := sc) (d9 := d9) (x2 := x2) (x15 := x15) (x16 := x16) (x17 := x17) hB hg h3 ha ho
  have e16 := u1_16_ok (S := S4) (sc := sc) (gs := gs) (B := B) (d9 := d9) (o := o) (a := a) (x2 := x2) (x16 := x16) (x17 := x17) hy
  have e17 := u1_17_ok (S := S4) (sc := sc) (gs := gs) (B := B) (y := y) (d9 := d9) (o := o) (a := a) (x2 := x2) (x17 := x17)
  obtain ⟨z17, e18⟩ := u1_18_ok (S := S4) (sc := sc) (gs := gs) (d9 := d9) (o := o) (a := a) (x2 := x2) hB hy
  have e19 := u1_19_ok (S := S4) (sc := sc) (gs := gs) (d9 := d9) (o := o) (a := a) (x2 := x2) (y17 := z17) hB hy
  refine ⟨.d B.d, .d (goalD gs), .d (.int (B.ds.length : Nat)), .d (.int (B.classes : Nat)), .d (.int (B.share : Nat)), .own (chL B.f B.classes (sI B gs) B.ds.length), .d d9, .own ((unlike B.classes (chI B gs)).map fun k : Nat => D.int (k : Nat)), .d (barD B.classes (B.share : Nat) (chI B gs)), .own (chL B.f B.classes (sI B gs) B.ds.length ++ [.int 0]), .d (.int (a : Nat)), .d o, .d y, .d (optN (goalBad B y)), z17, S4, ?_, h4⟩
  unfold u1b
  rw [mSeq_nx e0, mSeq_nx e1, mSeq_nx e2, mSeq_nx e3, mSeq_nx e4, mSeq_nx e5, mSeq_nx e6, mSeq_nx e7, mSeq_nx e8, mSeq_nx e9, mSeq_nx e10, mSeq_nx e11, mSeq_nx e12, mSeq_nx e13, mSeq_nx e14, mSeq_nx e15, mSeq_nx e16, mSeq_nx e17, mSeq_nx e18]
  exact e19
theorem law_ok (ns : List Int) : ∃ S, F_law [.scr (ns.map D.int)] [] = .ok (.d (.bl true)) S := by
  refine law_ok_of (t := u1b) (k := 6) ns (fun env => ∃ x2 x3 x4 x5 x6 x7 x8 x9 x10 x11 x12 x13 x14 x15 x16 x17, env = [.d (.scr (ns.map D.int)), .d (.cell 0), x2, x3, x4, x5, x6, x7, x8, x9, x10, x11, x12, x13, x14, x15, x16, x17, .un, .un]) (by rw [ueq]; rfl) (by decide) (by decide) ⟨.un, .un, .un, .un, .un, .un, .un, .un, .un, .un, .un, .un, .un, .un, .un, .un, rfl⟩ ?_ ?_
  · rintro env ⟨x2, x3, x4, x5, x6, x7, x8, x9, x10, x11, x12, x13, x14, x15, x16, x17, rfl⟩
    show 2 < 20; decide
  · rintro env d S ⟨x2, x3, x4, x5, x6, x7, x8, x9, x10, x11, x12, x13, x14, x15, x16, x17, rfl⟩ hS
    obtain ⟨y3, y4, y5, y6, y7, y8, y9, y10, y11, y12, y13, y14, y15, y16, y17, S', e, h⟩ := turn_ok (sc := .scr (ns.map D.int)) (x2 := .d d) (x3 := x3) (x4 := x4) (x5 := x5) (x6 := x6) (x7 := x7) (x8 := x8) (x9 := x9) (x10 := x10) (x11 := x11) (x12 := x12) (x13 := x13) (x14 := x14) (x15 := x15) (x16 := x16) (x17 := x17) hS
    exact ⟨_, S', e, ⟨_, _, _, _, _, _, _, _, _, _, _, _, _, _, _, _, rfl⟩, h⟩

end
end DB

set_option Elab.async false
set_option linter.all false
open PySem PySem.W PyProof.Rows
set_option maxRecDepth 100000
set_option maxHeartbeats 0 in
theorem PySem.Challenge.cw_dialbands_k06_classes_told_holds : PySem.Challenge.rw_dialbands_k06_classes_told.Holds := by
  w_on; o_law; k_head; (case hw => w_witness2)
  k_fill
  refine LamX.walk_ofTs (l := PySem.Challenge.rw_dialbands_k06_classes_told) (n := 63) (k := 9) (x := "_law_script") (CX := fun w => L2.CX PySem.Challenge.rw_dialbands_k06_classes_told.prog w) rfl (by decide) rfl ⟨rfl, by decide, by decide⟩ (fun w h Y => PySem.W.km_in_of Y) ?F (fun _ _ _ _ _ h => DB.cx_none h)
  case F =>
    intro w mg fa h Y KX G hmg
    refine' DB.step (DB.fun_ex (x := "is_number") (st := DB.s_is_number) KX G ?a ?l ?c ?k) (fun u_is_number => ?nx_u_is_number)
    (case a => k_is); (case l => k_is); (case c => k_is); (case k => k_is)
    obtain ⟨a_is_number, d_is_number, U_is_number, g_is_number⟩ := u_is_number
    refine' DB.step (DB.fun_ex (x := "bands_of") (st := DB.s_bands_of) KX G ?a ?l ?c ?k) (fun u_bands_of => ?nx_u_bands_of)
    (case a => k_is); (case l => k_is); (case c => k_is); (case k => k_is)
    obtain ⟨a_bands_of, d_bands_of, U_bands_of, g_bands_of⟩ := u_bands_of
    refine' DB.step (DB.fun_ex (x := "first_wrong") (st := DB.s_first_wrong) KX G ?a ?l ?c ?k) (fun u_first_wrong => ?nx_u_first_wrong)
    (case a => k_is); (case l => k_is); (case c => k_is); (case k => k_is)
    obtain ⟨a_first_wrong, d_first_wrong, U_first_wrong, g_first_wrong⟩ := u_first_wrong
    refine' DB.step (DB.fun_ex (x := "is_price") (st := DB.s_is_price) KX G ?a ?l ?c ?k) (fun u_is_price => ?nx_u_is_price)
    (case a => k_is); (case l => k_is); (case c => k_is); (case k => k_is)
    obtain ⟨a_is_price, d_is_price, U_is_price, g_is_price⟩ := u_is_price
    refine' DB.step (DB.fun_ex (x := "need_belt") (st := DB.s_need_belt) KX G ?a ?l ?c ?k) (fun u_need_belt => ?nx_u_need_belt)
    (case a => k_is); (case l => k_is); (case c => k_is); (case k => k_is)
    obtain ⟨a_need_belt, d_need_belt, U_need_belt, g_need_belt⟩ := u_need_belt
    refine' DB.step (DB.fun_ex (x := "need_goal") (st := DB.s_need_goal) KX G ?a ?l ?c ?k) (fun u_need_goal => ?nx_u_need_goal)
    (case a => k_is); (case l => k_is); (case c => k_is); (case k => k_is)
    obtain ⟨a_need_goal, d_need_goal, U_need_goal, g_need_goal⟩ := u_need_goal
    refine' DB.step (DB.fun_ex (x := "under") (st := DB.s_under) KX G ?a ?l ?c ?k) (fun u_under => ?nx_u_under)
    (case a => k_is); (case l => k_is); (case c => k_is); (case k => k_is)
    obtain ⟨a_under, d_under, U_under, g_under⟩ := u_under
    refine' DB.step (DB.fun_ex (x := "divisor") (st := DB.s_divisor) KX G ?a ?l ?c ?k) (fun u_divisor => ?nx_u_divisor)
    (case a => k_is); (case l => k_is); (case c => k_is); (case k => k_is)
    obtain ⟨a_divisor, d_divisor, U_divisor, g_divisor⟩ := u_divisor
    refine' DB.step (DB.fun_ex (x := "steps_to") (st := DB.s_steps_to) KX G ?a ?l ?c ?k) (fun u_steps_to => ?nx_u_steps_to)
    (case a => k_is); (case l => k_is); (case c => k_is); (case k => k_is)
    obtain ⟨a_steps_to, d_steps_to, U_steps_to, g_steps_to⟩ := u_steps_to
    refine' DB.step (DB.fun_ex (x := "classes_of") (st := DB.s_classes_of) KX G ?a ?l ?c ?k) (fun u_classes_of => ?nx_u_classes_of)
    (case a => k_is); (case l => k_is); (case c => k_is); (case k => k_is)
    obtain ⟨a_classes_of, d_classes_of, U_classes_of, g_classes_of⟩ := u_classes_of
    refine' DB.step (DB.fun_ex (x := "share_of") (st := DB.s_share_of) KX G ?a ?l ?c ?k) (fun u_share_of => ?nx_u_share_of)
    (case a => k_is); (case l => k_is); (case c => k_is); (case k => k_is)
    obtain ⟨a_share_of, d_share_of, U_share_of, g_share_of⟩ := u_share_of
    refine' DB.step (DB.fun_ex (x := "changed") (st := DB.s_changed) KX G ?a ?l ?c ?k) (fun u_changed => ?nx_u_changed)
    (case a => k_is); (case l => k_is); (case c => k_is); (case k => k_is)
    obtain ⟨a_changed, d_changed, U_changed, g_changed⟩ := u_changed
    refine' DB.step (DB.fun_ex (x := "parted") (st := DB.s_parted) KX G ?a ?l ?c ?k) (fun u_parted => ?nx_u_parted)
    (case a => k_is); (case l => k_is); (case c => k_is); (case k => k_is)
    obtain ⟨a_parted, d_parted, U_parted, g_parted⟩ := u_parted
    refine' DB.step (DB.fun_ex (x := "changes") (st := DB.s_changes) KX G ?a ?l ?c ?k) (fun u_changes => ?nx_u_changes)
    (case a => k_is); (case l => k_is); (case c => k_is); (case k => k_is)
    obtain ⟨a_changes, d_changes, U_changes, g_changes⟩ := u_changes
    refine' DB.step (DB.fun_ex (x := "bar_of") (st := DB.s_bar_of) KX G ?a ?l ?c ?k) (fun u_bar_of => ?nx_u_bar_of)
    (case a => k_is); (case l => k_is); (case c => k_is); (case k => k_is)
    obtain ⟨a_bar_of, d_bar_of, U_bar_of, g_bar_of⟩ := u_bar_of
    refine' DB.step (DB.fun_ex (x := "barred") (st := DB.s_barred) KX G ?a ?l ?c ?k) (fun u_barred => ?nx_u_barred)
    (case a => k_is); (case l => k_is); (case c => k_is); (case k => k_is)
    obtain ⟨a_barred, d_barred, U_barred, g_barred⟩ := u_barred
    refine' DB.step (DB.fun_ex (x := "task_of") (st := DB.s_task_of) KX G ?a ?l ?c ?k) (fun u_task_of => ?nx_u_task_of)
    (case a => k_is); (case l => k_is); (case c => k_is); (case k => k_is)
    obtain ⟨a_task_of, d_task_of, U_task_of, g_task_of⟩ := u_task_of
    refine' DB.step (DB.fun_ex (x := "tally") (st := DB.s_tally) KX G ?a ?l ?c ?k) (fun u_tally => ?nx_u_tally)
    (case a => k_is); (case l => k_is); (case c => k_is); (case k => k_is)
    obtain ⟨a_tally, d_tally, U_tally, g_tally⟩ := u_tally
    refine' DB.step (DB.fun_ex (x := "_law_start") (st := DB.s__law_start) KX G ?a ?l ?c ?k) (fun u__law_start => ?nx_u__law_start)
    (case a => k_is); (case l => k_is); (case c => k_is); (case k => k_is)
    obtain ⟨a__law_start, d__law_start, U__law_start, g__law_start⟩ := u__law_start
    refine' DB.step (DB.fun_ex (x := "_law_drawn") (st := DB.s__law_drawn) KX G ?a ?l ?c ?k) (fun u__law_drawn => ?nx_u__law_drawn)
    (case a => k_is); (case l => k_is); (case c => k_is); (case k => k_is)
    obtain ⟨a__law_drawn, d__law_drawn, U__law_drawn, g__law_drawn⟩ := u__law_drawn
    refine' DB.step (DB.fun_ex (x := "_law_same") (st := DB.s__law_same) KX G ?a ?l ?c ?k) (fun u__law_same => ?nx_u__law_same)
    (case a => k_is); (case l => k_is); (case c => k_is); (case k => k_is)
    obtain ⟨a__law_same, d__law_same, U__law_same, g__law_same⟩ := u__law_same
    refine' DB.step (DB.fun_ex (x := "_law_kind") (st := DB.s__law_kind) KX G ?a ?l ?c ?k) (fun u__law_kind => ?nx_u__law_kind)
    (case a => k_is); (case l => k_is); (case c => k_is); (case k => k_is)
    obtain ⟨a__law_kind, d__law_kind, U__law_kind, g__law_kind⟩ := u__law_kind
    refine' DB.step (DB.fun_ex (x := "_law_belt") (st := DB.s__law_belt) KX G ?a ?l ?c ?k) (fun u__law_belt => ?nx_u__law_belt)
    (case a => k_is); (case l => k_is); (case c => k_is); (case k => k_is)
    obtain ⟨a__law_belt, d__law_belt, U__law_belt, g__law_belt⟩ := u__law_belt
    refine' DB.step (DB.fun_ex (x := "_law_behind") (st := DB.s__law_behind) KX G ?a ?l ?c ?k) (fun u__law_behind => ?nx_u__law_behind)
    (case a => k_is); (case l => k_is); (case c => k_is); (case k => k_is)
    obtain ⟨a__law_behind, d__law_behind, U__law_behind, g__law_behind⟩ := u__law_behind
    refine' DB.step (DB.fun_ex (x := "_law_goal") (st := DB.s__law_goal) KX G ?a ?l ?c ?k) (fun u__law_goal => ?nx_u__law_goal)
    (case a => k_is); (case l => k_is); (case c => k_is); (case k => k_is)
    obtain ⟨a__law_goal, d__law_goal, U__law_goal, g__law_goal⟩ := u__law_goal
    refine' DB.step (DB.fun_ex (x := "_law_most") (st := DB.s__law_most) KX G ?a ?l ?c ?k) (fun u__law_most => ?nx_u__law_most)
    (case a => k_is); (case l => k_is); (case c => k_is); (case k => k_is)
    obtain ⟨a__law_most, d__law_most, U__law_most, g__law_most⟩ := u__law_most
    refine' DB.step (DB.fun_ex (x := "_law_wrong") (st := DB.s__law_wrong) KX G ?a ?l ?c ?k) (fun u__law_wrong => ?nx_u__law_wrong)
    (case a => k_is); (case l => k_is); (case c => k_is); (case k => k_is)
    obtain ⟨a__law_wrong, d__law_wrong, U__law_wrong, g__law_wrong⟩ := u__law_wrong
    refine' DB.step (DB.fun_ex (x := "law") (st := DB.s_law) KX G ?a ?l ?c ?k) (fun u_law => ?nx_u_law)
    (case a => k_is); (case l => k_is); (case c => k_is); (case k => k_is)
    obtain ⟨a_law, d_law, U_law, g_law⟩ := u_law
    refine' DB.step (DB.base_ex (x := "DialError") KX G ?a ?s ?r ?f) (fun B => ?nx_B)
    (case a => k_is); (case s => k_is); (case r => k_is); (case f => k_is)
    refine' DB.step (DB.exc_ex (x := "BadBelt") (q := "BadBelt.__init__") (st := DB.i_BadBelt) KX G ?a ?xL ?rv ?sa ?eC ?tC ?kC ?ai ?ti ?l ?c ?k ?n1 ?n2 ?n3) (fun e_BadBelt => ?nx_e_BadBelt)
    (case a => k_is); (case xL => k_is); (case rv => decide +kernel); (case sa => k_is); (case eC => k_is); (case tC => k_is); (case kC => k_is); (case ai => k_is); (case ti => k_is); (case l => k_is); (case c => k_is); (case k => k_is); (case n1 => k_is); (case n2 => k_is); (case n3 => k_is)
    obtain ⟨C_BadBelt, fI_BadBelt, fd_BadBelt, U_BadBelt, g_BadBelt, T_BadBelt, i_BadBelt, t_BadBelt, n_BadBelt⟩ := e_BadBelt
    refine' DB.step (DB.exc_ex (x := "BadGoal") (q := "BadGoal.__init__") (st := DB.i_BadGoal) KX G ?a ?xL ?rv ?sa ?eC ?tC ?kC ?ai ?ti ?l ?c ?k ?n1 ?n2 ?n3) (fun e_BadGoal => ?nx_e_BadGoal)
    (case a => k_is); (case xL => k_is); (case rv => decide +kernel); (case sa => k_is); (case eC => k_is); (case tC => k_is); (case kC => k_is); (case ai => k_is); (case ti => k_is); (case l => k_is); (case c => k_is); (case k => k_is); (case n1 => k_is); (case n2 => k_is); (case n3 => k_is)
    obtain ⟨C_BadGoal, fI_BadGoal, fd_BadGoal, U_BadGoal, g_BadGoal, T_BadGoal, i_BadGoal, t_BadGoal, n_BadGoal⟩ := e_BadGoal
    refine' DB.step (DB.xall_ex KX G ?a1 ?a2 ?a3 ?a4 ?a5 ?a6 ?a7 ?a8 ?a9 ?a10 ?a11 ?a12 ?a0 ?t) (fun XA => ?nx_XA)
    (case a1 => k_is); (case a2 => k_is); (case a3 => k_is); (case a4 => k_is); (case a5 => k_is); (case a6 => k_is); (case a7 => k_is); (case a8 => k_is); (case a9 => k_is); (case a10 => k_is); (case a11 => k_is); (case a12 => k_is); (case a0 => k_is); (case t => kernel_rfl)
    refine' DB.step (DB.gstr_ex (n := "CLASS") (v := "class") KX G ?z) (fun tCLASS => ?nx_tCLASS)
    (case z => k_is)
    obtain ⟨tCLASS, gtCLASS⟩ := tCLASS
    refine' DB.step (DB.gint_ex (n := "LEAST_FIGURES") (v := 2) KX G ?z) (fun tLEAST_FIGURES => ?nx_tLEAST_FIGURES)
    (case z => k_is)
    obtain ⟨tLEAST_FIGURES, gtLEAST_FIGURES⟩ := tLEAST_FIGURES
    refine' DB.step (DB.gint_ex (n := "MOST_DIALS") (v := 12) KX G ?z) (fun tMOST_DIALS => ?nx_tMOST_DIALS)
    (case z => k_is)
    obtain ⟨tMOST_DIALS, gtMOST_DIALS⟩ := tMOST_DIALS
    refine' DB.step (DB.gint_ex (n := "MOST_FIGURES") (v := 9) KX G ?z) (fun tMOST_FIGURES => ?nx_tMOST_FIGURES)
    (case z => k_is)
    obtain ⟨tMOST_FIGURES, gtMOST_FIGURES⟩ := tMOST_FIGURES
    refine' DB.step (DB.gint_ex (n := "MOST_PRICE") (v := 99) KX G ?z) (fun tMOST_PRICE => ?nx_tMOST_PRICE)
    (case z => k_is)
    obtain ⟨tMOST_PRICE, gtMOST_PRICE⟩ := tMOST_PRICE
    refine' DB.step (DB.gstr_ex (n := "RING") (v := "ring") KX G ?z) (fun tRING => ?nx_tRING)
    (case z => k_is)
    obtain ⟨tRING, gtRING⟩ := tRING
    refine' DB.step (DB.gstr_ex (n := "ROW") (v := "row") KX G ?z) (fun tROW => ?nx_tROW)
    (case z => k_is)
    obtain ⟨tROW, gtROW⟩ := tROW
    refine' DB.step (DB.gstr_ex (n := "SHARE") (v := "share") KX G ?z) (fun tSHARE => ?nx_tSHARE)
    (case z => k_is)
    obtain ⟨tSHARE, gtSHARE⟩ := tSHARE
    refine' DB.step (PySem.W.mg_none_of (n := "ValueError") KX G ?z) (fun ntValueError => ?nx_ntValueError)
    (case z => k_is)
    refine' DB.step (PySem.W.mg_none_of (n := "bool") KX G ?z) (fun ntbool => ?nx_ntbool)
    (case z => k_is)
    refine' DB.step (PySem.W.mg_none_of (n := "enumerate") KX G ?z) (fun ntenumerate => ?nx_ntenumerate)
    (case z => k_is)
    refine' DB.step (PySem.W.mg_none_of (n := "int") KX G ?z) (fun ntint => ?nx_ntint)
    (case z => k_is)
    refine' DB.step (PySem.W.mg_none_of (n := "isinstance") KX G ?z) (fun ntisinstance => ?nx_ntisinstance)
    (case z => k_is)
    refine' DB.step (PySem.W.mg_none_of (n := "len") KX G ?z) (fun ntlen => ?nx_ntlen)
    (case z => k_is)
    refine' DB.step (PySem.W.mg_none_of (n := "list") KX G ?z) (fun ntlist => ?nx_ntlist)
    (case z => k_is)
    refine' DB.step (PySem.W.mg_none_of (n := "min") KX G ?z) (fun ntmin => ?nx_ntmin)
    (case z => k_is)
    refine' DB.step (PySem.W.mg_none_of (n := "range") KX G ?z) (fun ntrange => ?nx_ntrange)
    (case z => k_is)
    refine' DB.step (PySem.W.mg_none_of (n := "str") KX G ?z) (fun ntstr => ?nx_ntstr)
    (case z => k_is)
    refine' DB.step (PySem.W.mg_none_of (n := "sum") KX G ?z) (fun ntsum => ?nx_ntsum)
    (case z => k_is)
    refine' DB.step (PySem.W.mg_none_of (n := "tuple") KX G ?z) (fun nttuple => ?nx_nttuple)
    (case z => k_is)
    refine' DB.step (PySem.W.mg_none_of (n := "zip") KX G ?z) (fun ntzip => ?nx_ntzip)
    (case z => k_is)
    obtain rfl : a_law = fa := by have q := g_law.symm.trans hmg; cases q; rfl
    obtain ⟨c_need_goal, hc_need_goal, hd_need_goal⟩ := DB.mk_of KX G (P := 257) (by kernel_rfl) U_need_goal g_need_goal
    obtain ⟨c_need_belt, hc_need_belt, hd_need_belt⟩ := DB.mk_of KX G (P := 250) (by kernel_rfl) U_need_belt g_need_belt
    obtain ⟨c_law, hc_law, hd_law⟩ := DB.mk_of KX G (P := 467) (by kernel_rfl) U_law g_law
    refine DB.law_atT (fd := d_law) (cs := [(c_need_goal, 257), (c_need_belt, 250), (c_law, 467)]) (T := ([(257, (("need_goal" : PySem.Str) ++ ".<locals>." ++ "<lambda>")), (250, (("need_belt" : PySem.Str) ++ ".<locals>." ++ "<lambda>")), (467, (("law" : PySem.Str) ++ ".<locals>." ++ "<lambda>"))] : List (PySem.Addr × PySem.Str))) KX (PySem.W.km_tabs_of Y) (List.forall_mem_cons.mpr ⟨(show (257 : PySem.Addr) ∈ ([257, 250, 467] : List PySem.Addr) from by decide), List.forall_mem_cons.mpr ⟨(show (250 : PySem.Addr) ∈ ([257, 250, 467] : List PySem.Addr) from by decide), List.forall_mem_cons.mpr ⟨(show (467 : PySem.Addr) ∈ ([257, 250, 467] : List PySem.Addr) from by decide), (fun _ hz => nomatch hz)⟩⟩⟩) (List.forall_mem_cons.mpr ⟨(by kernel_rfl), List.forall_mem_cons.mpr ⟨(by kernel_rfl), List.forall_mem_cons.mpr ⟨(by kernel_rfl), (fun _ hz => nomatch hz)⟩⟩⟩) (List.forall_mem_cons.mpr ⟨hd_need_goal, List.forall_mem_cons.mpr ⟨hd_need_belt, List.forall_mem_cons.mpr ⟨hd_law, (fun _ hz => nomatch hz)⟩⟩⟩) (fun s v => ?_) (List.forall_mem_cons.mpr ⟨(List.Mem.head _), List.forall_mem_cons.mpr ⟨(List.Mem.tail _ (List.Mem.head _)), List.forall_mem_cons.mpr ⟨(List.Mem.tail _ (List.Mem.tail _ (List.Mem.head _))), (fun _ hz => nomatch hz)⟩⟩⟩) (fun base hK hN hTB => DB.law_impX ?_ (fun ns _ => DB.law_ok ns))
    · obtain ⟨oc, od, kV, doc, pm, an, cdv, ct, osl, e, lk, hcd⟩ := U_law.ex
      subst e
      exact .of_eq rfl
    · have MK_need_goal : ∃ c P, d_need_goal.code = .ref c ∧ LamX.TabB base mg c P ∧ (P, (("need_goal" : PySem.Str) ++ ".<locals>." ++ "<lambda>")) ∈ ([(257, (("need_goal" : PySem.Str) ++ ".<locals>." ++ "<lambda>")), (250, (("need_belt" : PySem.Str) ++ ".<locals>." ++ "<lambda>")), (467, (("law" : PySem.Str) ++ ".<locals>." ++ "<lambda>"))] : List (PySem.Addr × PySem.Str)) ∧ ∀ p ∈ ([(257, (("need_goal" : PySem.Str) ++ ".<locals>." ++ "<lambda>")), (250, (("need_belt" : PySem.Str) ++ ".<locals>." ++ "<lambda>")), (467, (("law" : PySem.Str) ++ ".<locals>." ++ "<lambda>"))] : List (PySem.Addr × PySem.Str)), p.1 = P → p.2 = (("need_goal" : PySem.Str) ++ ".<locals>." ++ "<lambda>") := ⟨c_need_goal, 257, hc_need_goal, hTB (c_need_goal, 257) (List.Mem.head _), (List.Mem.head _), by decide +kernel⟩
      have MK_need_belt : ∃ c P, d_need_belt.code = .ref c ∧ LamX.TabB base mg c P ∧ (P, (("need_belt" : PySem.Str) ++ ".<locals>." ++ "<lambda>")) ∈ ([(257, (("need_goal" : PySem.Str) ++ ".<locals>." ++ "<lambda>")), (250, (("need_belt" : PySem.Str) ++ ".<locals>." ++ "<lambda>")), (467, (("law" : PySem.Str) ++ ".<locals>." ++ "<lambda>"))] : List (PySem.Addr × PySem.Str)) ∧ ∀ p ∈ ([(257, (("need_goal" : PySem.Str) ++ ".<locals>." ++ "<lambda>")), (250, (("need_belt" : PySem.Str) ++ ".<locals>." ++ "<lambda>")), (467, (("law" : PySem.Str) ++ ".<locals>." ++ "<lambda>"))] : List (PySem.Addr × PySem.Str)), p.1 = P → p.2 = (("need_belt" : PySem.Str) ++ ".<locals>." ++ "<lambda>") := ⟨c_need_belt, 250, hc_need_belt, hTB (c_need_belt, 250) (List.Mem.tail _ (List.Mem.head _)), (List.Mem.tail _ (List.Mem.head _)), by decide +kernel⟩
      have MK_law : ∃ c P, d_law.code = .ref c ∧ LamX.TabB base mg c P ∧ (P, (("law" : PySem.Str) ++ ".<locals>." ++ "<lambda>")) ∈ ([(257, (("need_goal" : PySem.Str) ++ ".<locals>." ++ "<lambda>")), (250, (("need_belt" : PySem.Str) ++ ".<locals>." ++ "<lambda>")), (467, (("law" : PySem.Str) ++ ".<locals>." ++ "<lambda>"))] : List (PySem.Addr × PySem.Str)) ∧ ∀ p ∈ ([(257, (("need_goal" : PySem.Str) ++ ".<locals>." ++ "<lambda>")), (250, (("need_belt" : PySem.Str) ++ ".<locals>." ++ "<lambda>")), (467, (("law" : PySem.Str) ++ ".<locals>." ++ "<lambda>"))] : List (PySem.Addr × PySem.Str)), p.1 = P → p.2 = (("law" : PySem.Str) ++ ".<locals>." ++ "<lambda>") := ⟨c_law, 467, hc_law, hTB (c_law, 467) (List.Mem.tail _ (List.Mem.tail _ (List.Mem.head _))), (List.Mem.tail _ (List.Mem.tail _ (List.Mem.head _))), by decide +kernel⟩
      have O_BadBelt := DB.oi_BadBelt (P := PySem.Challenge.rw_dialbands_k06_classes_told.prog) (w := w) (base := base) U_BadBelt B g_BadBelt T_BadBelt i_BadBelt t_BadBelt (fun f hf => n_BadBelt f (by revert hf f; decide))
      have O_BadGoal := DB.oi_BadGoal (P := PySem.Challenge.rw_dialbands_k06_classes_told.prog) (w := w) (base := base) U_BadGoal B g_BadGoal T_BadGoal i_BadGoal t_BadGoal (fun f hf => n_BadGoal f (by revert hf f; decide))
      have D_is_number := DB.ok_is_number (P := PySem.Challenge.rw_dialbands_k06_classes_told.prog) (w := w) (base := base) (T := ([(257, (("need_goal" : PySem.Str) ++ ".<locals>." ++ "<lambda>")), (250, (("need_belt" : PySem.Str) ++ ".<locals>." ++ "<lambda>")), (467, (("law" : PySem.Str) ++ ".<locals>." ++ "<lambda>"))] : List (PySem.Addr × PySem.Str))) U_is_number g_is_number ntbool ntint ntisinstance
      have D_bands_of := DB.ok_bands_of (P := PySem.Challenge.rw_dialbands_k06_classes_told.prog) (w := w) (base := base) (T := ([(257, (("need_goal" : PySem.Str) ++ ".<locals>." ++ "<lambda>")), (250, (("need_belt" : PySem.Str) ++ ".<locals>." ++ "<lambda>")), (467, (("law" : PySem.Str) ++ ".<locals>." ++ "<lambda>"))] : List (PySem.Addr × PySem.Str))) U_bands_of g_bands_of gtRING
      have D_first_wrong := DB.ha_first_wrong (P := PySem.Challenge.rw_dialbands_k06_classes_told.prog) (w := w) (base := base) (T := ([(257, (("need_goal" : PySem.Str) ++ ".<locals>." ++ "<lambda>")), (250, (("need_belt" : PySem.Str) ++ ".<locals>." ++ "<lambda>")), (467, (("law" : PySem.Str) ++ ".<locals>." ++ "<lambda>"))] : List (PySem.Addr × PySem.Str))) U_first_wrong g_first_wrong ntenumerate ntisinstance ntlen nttuple
      have D_is_price := DB.ok_is_price (P := PySem.Challenge.rw_dialbands_k06_classes_told.prog) (w := w) (base := base) (T := ([(257, (("need_goal" : PySem.Str) ++ ".<locals>." ++ "<lambda>")), (250, (("need_belt" : PySem.Str) ++ ".<locals>." ++ "<lambda>")), (467, (("law" : PySem.Str) ++ ".<locals>." ++ "<lambda>"))] : List (PySem.Addr × PySem.Str))) U_is_price g_is_price gtMOST_PRICE D_is_number
      have D_need_belt := DB.ok_need_belt (P := PySem.Challenge.rw_dialbands_k06_classes_told.prog) (w := w) (base := base) (T := ([(257, (("need_goal" : PySem.Str) ++ ".<locals>." ++ "<lambda>")), (250, (("need_belt" : PySem.Str) ++ ".<locals>." ++ "<lambda>")), (467, (("law" : PySem.Str) ++ ".<locals>." ++ "<lambda>"))] : List (PySem.Addr × PySem.Str))) U_need_belt g_need_belt gtLEAST_FIGURES gtMOST_DIALS gtMOST_FIGURES gtRING gtROW ntenumerate ntisinstance ntlen ntstr nttuple D_is_number D_first_wrong D_bands_of D_is_price O_BadBelt MK_need_belt
      have D_need_goal := DB.ok_need_goal (P := PySem.Challenge.rw_dialbands_k06_classes_told.prog) (w := w) (base := base) (T := ([(257, (("need_goal" : PySem.Str) ++ ".<locals>." ++ "<lambda>")), (250, (("need_belt" : PySem.Str) ++ ".<locals>." ++ "<lambda>")), (467, (("law" : PySem.Str) ++ ".<locals>." ++ "<lambda>"))] : List (PySem.Addr × PySem.Str))) U_need_goal g_need_goal ntlen D_first_wrong D_is_number O_BadGoal MK_need_goal
      have D_under := DB.ok_under (P := PySem.Challenge.rw_dialbands_k06_classes_told.prog) (w := w) (base := base) (T := ([(257, (("need_goal" : PySem.Str) ++ ".<locals>." ++ "<lambda>")), (250, (("need_belt" : PySem.Str) ++ ".<locals>." ++ "<lambda>")), (467, (("law" : PySem.Str) ++ ".<locals>." ++ "<lambda>"))] : List (PySem.Addr × PySem.Str))) U_under g_under ntlen ntrange
      have D_divisor := DB.ok_divisor (P := PySem.Challenge.rw_dialbands_k06_classes_told.prog) (w := w) (base := base) (T := ([(257, (("need_goal" : PySem.Str) ++ ".<locals>." ++ "<lambda>")), (250, (("need_belt" : PySem.Str) ++ ".<locals>." ++ "<lambda>")), (467, (("law" : PySem.Str) ++ ".<locals>." ++ "<lambda>"))] : List (PySem.Addr × PySem.Str))) U_divisor g_divisor 
      have D_steps_to := DB.ok_steps_to (P := PySem.Challenge.rw_dialbands_k06_classes_told.prog) (w := w) (base := base) (T := ([(257, (("need_goal" : PySem.Str) ++ ".<locals>." ++ "<lambda>")), (250, (("need_belt" : PySem.Str) ++ ".<locals>." ++ "<lambda>")), (467, (("law" : PySem.Str) ++ ".<locals>." ++ "<lambda>"))] : List (PySem.Addr × PySem.Str))) U_steps_to g_steps_to ntzip
      have D_classes_of := DB.ok_classes_of (P := PySem.Challenge.rw_dialbands_k06_classes_told.prog) (w := w) (base := base) (T := ([(257, (("need_goal" : PySem.Str) ++ ".<locals>." ++ "<lambda>")), (250, (("need_belt" : PySem.Str) ++ ".<locals>." ++ "<lambda>")), (467, (("law" : PySem.Str) ++ ".<locals>." ++ "<lambda>"))] : List (PySem.Addr × PySem.Str))) U_classes_of g_classes_of gtRING ntlen D_divisor
      have D_share_of := DB.ok_share_of (P := PySem.Challenge.rw_dialbands_k06_classes_told.prog) (w := w) (base := base) (T := ([(257, (("need_goal" : PySem.Str) ++ ".<locals>." ++ "<lambda>")), (250, (("need_belt" : PySem.Str) ++ ".<locals>." ++ "<lambda>")), (467, (("law" : PySem.Str) ++ ".<locals>." ++ "<lambda>"))] : List (PySem.Addr × PySem.Str))) U_share_of g_share_of D_classes_of D_divisor
      have D_changed := DB.ok_changed (P := PySem.Challenge.rw_dialbands_k06_classes_told.prog) (w := w) (base := base) (T := ([(257, (("need_goal" : PySem.Str) ++ ".<locals>." ++ "<lambda>")), (250, (("need_belt" : PySem.Str) ++ ".<locals>." ++ "<lambda>")), (467, (("law" : PySem.Str) ++ ".<locals>." ++ "<lambda>"))] : List (PySem.Addr × PySem.Str))) U_changed g_changed ntenumerate ntlen D_classes_of D_steps_to
      have D_parted := DB.ok_parted (P := PySem.Challenge.rw_dialbands_k06_classes_told.prog) (w := w) (base := base) (T := ([(257, (("need_goal" : PySem.Str) ++ ".<locals>." ++ "<lambda>")), (250, (("need_belt" : PySem.Str) ++ ".<locals>." ++ "<lambda>")), (467, (("law" : PySem.Str) ++ ".<locals>." ++ "<lambda>"))] : List (PySem.Addr × PySem.Str))) U_parted g_parted D_need_belt D_share_of D_classes_of
      have D_changes := DB.ok_changes (P := PySem.Challenge.rw_dialbands_k06_classes_told.prog) (w := w) (base := base) (T := ([(257, (("need_goal" : PySem.Str) ++ ".<locals>." ++ "<lambda>")), (250, (("need_belt" : PySem.Str) ++ ".<locals>." ++ "<lambda>")), (467, (("law" : PySem.Str) ++ ".<locals>." ++ "<lambda>"))] : List (PySem.Addr × PySem.Str))) U_changes g_changes D_need_belt D_need_goal D_changed
      have D_bar_of := DB.ok_bar_of (P := PySem.Challenge.rw_dialbands_k06_classes_told.prog) (w := w) (base := base) (T := ([(257, (("need_goal" : PySem.Str) ++ ".<locals>." ++ "<lambda>")), (250, (("need_belt" : PySem.Str) ++ ".<locals>." ++ "<lambda>")), (467, (("law" : PySem.Str) ++ ".<locals>." ++ "<lambda>"))] : List (PySem.Addr × PySem.Str))) U_bar_of g_bar_of gtCLASS gtSHARE ntenumerate D_changed D_share_of
      have D_barred := DB.ok_barred (P := PySem.Challenge.rw_dialbands_k06_classes_told.prog) (w := w) (base := base) (T := ([(257, (("need_goal" : PySem.Str) ++ ".<locals>." ++ "<lambda>")), (250, (("need_belt" : PySem.Str) ++ ".<locals>." ++ "<lambda>")), (467, (("law" : PySem.Str) ++ ".<locals>." ++ "<lambda>"))] : List (PySem.Addr × PySem.Str))) U_barred g_barred D_need_belt D_need_goal D_bar_of
      have D_task_of := DB.ok_task_of (P := PySem.Challenge.rw_dialbands_k06_classes_told.prog) (w := w) (base := base) (T := ([(257, (("need_goal" : PySem.Str) ++ ".<locals>." ++ "<lambda>")), (250, (("need_belt" : PySem.Str) ++ ".<locals>." ++ "<lambda>")), (467, (("law" : PySem.Str) ++ ".<locals>." ++ "<lambda>"))] : List (PySem.Addr × PySem.Str))) U_task_of g_task_of D_need_belt D_need_goal
      have D_tally := DB.ok_tally (P := PySem.Challenge.rw_dialbands_k06_classes_told.prog) (w := w) (base := base) (T := ([(257, (("need_goal" : PySem.Str) ++ ".<locals>." ++ "<lambda>")), (250, (("need_belt" : PySem.Str) ++ ".<locals>." ++ "<lambda>")), (467, (("law" : PySem.Str) ++ ".<locals>." ++ "<lambda>"))] : List (PySem.Addr × PySem.Str))) U_tally g_tally D_task_of
      have D__law_start := DB.ok__law_start (P := PySem.Challenge.rw_dialbands_k06_classes_told.prog) (w := w) (base := base) (T := ([(257, (("need_goal" : PySem.Str) ++ ".<locals>." ++ "<lambda>")), (250, (("need_belt" : PySem.Str) ++ ".<locals>." ++ "<lambda>")), (467, (("law" : PySem.Str) ++ ".<locals>." ++ "<lambda>"))] : List (PySem.Addr × PySem.Str))) U__law_start g__law_start 
      have D__law_drawn := DB.ok__law_drawn (P := PySem.Challenge.rw_dialbands_k06_classes_told.prog) (w := w) (base := base) (T := ([(257, (("need_goal" : PySem.Str) ++ ".<locals>." ++ "<lambda>")), (250, (("need_belt" : PySem.Str) ++ ".<locals>." ++ "<lambda>")), (467, (("law" : PySem.Str) ++ ".<locals>." ++ "<lambda>"))] : List (PySem.Addr × PySem.Str))) U__law_drawn g__law_drawn ntlen
      have D__law_same := DB.ok__law_same (P := PySem.Challenge.rw_dialbands_k06_classes_told.prog) (w := w) (base := base) (T := ([(257, (("need_goal" : PySem.Str) ++ ".<locals>." ++ "<lambda>")), (250, (("need_belt" : PySem.Str) ++ ".<locals>." ++ "<lambda>")), (467, (("law" : PySem.Str) ++ ".<locals>." ++ "<lambda>"))] : List (PySem.Addr × PySem.Str))) U__law_same g__law_same ntbool ntint ntisinstance ntlen ntlist ntrange nttuple
      have D__law_kind := DB.ha__law_kind (P := PySem.Challenge.rw_dialbands_k06_classes_told.prog) (w := w) (base := base) (T := ([(257, (("need_goal" : PySem.Str) ++ ".<locals>." ++ "<lambda>")), (250, (("need_belt" : PySem.Str) ++ ".<locals>." ++ "<lambda>")), (467, (("law" : PySem.Str) ++ ".<locals>." ++ "<lambda>"))] : List (PySem.Addr × PySem.Str))) U__law_kind g__law_kind ntValueError ntisinstance XA
      have D__law_belt := DB.ok__law_belt (P := PySem.Challenge.rw_dialbands_k06_classes_told.prog) (w := w) (base := base) (T := ([(257, (("need_goal" : PySem.Str) ++ ".<locals>." ++ "<lambda>")), (250, (("need_belt" : PySem.Str) ++ ".<locals>." ++ "<lambda>")), (467, (("law" : PySem.Str) ++ ".<locals>." ++ "<lambda>"))] : List (PySem.Addr × PySem.Str))) U__law_belt g__law_belt ntmin ntrange nttuple D__law_drawn
      have D__law_behind := DB.ok__law_behind (P := PySem.Challenge.rw_dialbands_k06_classes_told.prog) (w := w) (base := base) (T := ([(257, (("need_goal" : PySem.Str) ++ ".<locals>." ++ "<lambda>")), (250, (("need_belt" : PySem.Str) ++ ".<locals>." ++ "<lambda>")), (467, (("law" : PySem.Str) ++ ".<locals>." ++ "<lambda>"))] : List (PySem.Addr × PySem.Str))) U__law_behind g__law_behind ntlen ntlist ntrange nttuple
      have D__law_goal := DB.ok__law_goal (P := PySem.Challenge.rw_dialbands_k06_classes_told.prog) (w := w) (base := base) (T := ([(257, (("need_goal" : PySem.Str) ++ ".<locals>." ++ "<lambda>")), (250, (("need_belt" : PySem.Str) ++ ".<locals>." ++ "<lambda>")), (467, (("law" : PySem.Str) ++ ".<locals>." ++ "<lambda>"))] : List (PySem.Addr × PySem.Str))) U__law_goal g__law_goal ntint ntlen nttuple D__law_drawn D__law_behind
      have D__law_most := DB.ok__law_most (P := PySem.Challenge.rw_dialbands_k06_classes_told.prog) (w := w) (base := base) (T := ([(257, (("need_goal" : PySem.Str) ++ ".<locals>." ++ "<lambda>")), (250, (("need_belt" : PySem.Str) ++ ".<locals>." ++ "<lambda>")), (467, (("law" : PySem.Str) ++ ".<locals>." ++ "<lambda>"))] : List (PySem.Addr × PySem.Str))) U__law_most g__law_most ntrange
      have D__law_wrong := DB.ok__law_wrong (P := PySem.Challenge.rw_dialbands_k06_classes_told.prog) (w := w) (base := base) (T := ([(257, (("need_goal" : PySem.Str) ++ ".<locals>." ++ "<lambda>")), (250, (("need_belt" : PySem.Str) ++ ".<locals>." ++ "<lambda>")), (467, (("law" : PySem.Str) ++ ".<locals>." ++ "<lambda>"))] : List (PySem.Addr × PySem.Str))) U__law_wrong g__law_wrong ntbool ntint ntisinstance ntlen ntrange nttuple
      exact DB.fo_law U_law ntlen ntlist ntrange ntsum D__law_start D__law_belt D__law_goal D__law_most D_changes D_barred D_parted D__law_same D__law_drawn D__law_wrong D_tally D__law_kind MK_law

