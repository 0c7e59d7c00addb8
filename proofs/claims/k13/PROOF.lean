import PyProof.Rows.All
import Wide.All
import OpenK.AllK
import Wide.FinOn
import HandS.ForMost
import HandS.ForExc
import HandS.Lambda
import HandS.EndTab
import HandS.Wide
import HandS.IsInst
import HandS.Flow
import HandS.SortInts
import HandS.NoneIn
import HandS.Defaults
import HandS.Head0
import HandS.Head1
import HandS.Head2
import HandS.HeadEnd
import HandS.HeadHook1
import HandS.HeadHook2
import KE.SortData
import KE.DataMinMax
import HandS.SortKw
import KE.KDictZip
import HandS.Deep
import HandS.SetFor
import HandS.SetTxt0
import HandS.Flt
import HandS.Zip
import HandS.Iter
import HandS.SetKeys
import HandS.WordsDict
import HandS.Sort
import HandS.Rev
import HandS.RevTup
import KE.KDictSum
import KE.SortKeyHeap
import KE.KLam
import HandS.Conv
import HandS.HeadHook4
import HandS.ExcInit
import HandS.ExcOwn
import HandS.ExcField
import HandS.ExcIs
import KE.KExcIs
import HandS.FStr
import HandS.Text
import HandS.ExcValue
import HandS.TupLe
import PyProof.ListOps
import PyProof.StrBlock2
import PyProof.Rows.StrJoinRep
import PyProof.DictMoreH
import KE.KDictCopyH
import HandS.Style
import HandS.TryOnly
import HandS.StrMore
import HandS.TupSets
import HandS.ClsMeth
import PyProof.StrLawsTight
import PyProof.Rows.StrItems
import PySem.Challenge.RW_wirechannel_k13_pieces
set_option Elab.async false
set_option linter.all false
set_option maxRecDepth 100000
section
namespace PV
open PySem PySem.Spec PyProof.Rows L2
inductive Tag where
  | own | frz | tmp
  deriving DecidableEq
inductive Kind where
  | lst
  | dic (ks : List Key)
  | dit (ks : List (List Key))
  | dil (ks : List Key)
  | ins (c : Str) (ns : List Str)
  | inv (c : Str) (ns : List Str) (as : List Addr)
  | exc (c : Str)
  | xdk (ns : List Str)
  deriving DecidableEq
inductive D where
  | non | bl (b : Bool) | int (i : Int) | str (s : Str)
  | tup (ds : List D)
  | nd (t : Tag) (k : Kind) (ds : List D)
  | pin (j : Nat) (d : D)
  | pack (d : D) (cs : List D)
abbrev D.lst (t : Tag) (ds : List D) : D := .nd t .lst ds
def Tag.rd : Tag → Tag
  | .own => .tmp
  | .frz => .frz
  | .tmp => .tmp
def Tag.fz : Tag → Tag
  | .own => .frz
  | .frz => .frz
  | .tmp => .tmp
mutual
def rd : D → D
  | .tup ds => .tup (rdL ds)
  | .nd t k ds => .nd t.rd k (rdL ds)
  | .pin _ d => rd d
  | .pack d _ => rd d
  | d => d
def rdL : List D → List D
  | [] => []
  | d :: ds => rd d :: rdL ds
end
mutual
def fz : D → D
  | .tup ds => .tup (fzL ds)
  | .nd t k ds => .nd t.fz k (fzL ds)
  | .pin _ d => fz d
  | .pack d _ => fz d
  | d => d
def fzL : List D → List D
  | [] => []
  | d :: ds => fz d :: fzL ds
end
mutual
def fa : D → D
  | .tup ds => .tup (faL ds)
  | .nd _ k ds => .nd .frz k (faL ds)
  | .pin _ d => fa d
  | .pack d _ => fa d
  | d => d
def faL : List D → List D
  | [] => []
  | d :: ds => fa d :: faL ds
end
mutual
def noT : D → Bool
  | .tup ds => noTL ds
  | .nd t _ ds => decide (t ≠ .tmp) && noTL ds
  | .pin _ d => noT d
  | .pack d cs => noT d && noTL cs
  | _ => true
def noTL : List D → Bool
  | [] => true
  | d :: ds => noT d && noTL ds
end
mutual
def imm : D → Bool
  | .tup ds => immL ds
  | .nd _ _ _ => false
  | .pin _ _ => false
  | .pack _ _ => false
  | _ => true
def immL : List D → Bool
  | [] => true
  | d :: ds => imm d && immL ds
end
mutual
def imO : D → Bool
  | .tup ds => imOL ds
  | .nd t _ ds => decide (t = .own) && imOL ds
  | .pin _ _ => false
  | .pack _ _ => false
  | _ => true
def imOL : List D → Bool
  | [] => true
  | d :: ds => imO d && imOL ds
end
def IsTup' : HO → Prop
  | .tup _ => True
  | .tbl _ => True
  | .ext _ => True
  | _ => False
structure Kap (M : PySem.W.Frag) where
  cls : Str → Addr
  tb : List (Addr × Str) := []
  pv : List Addr := []
def markT (q : Str) : HO := .tbl #[.str q 0]
structure Mks {M : PySem.W.Frag} (κ : Kap M) (F : Hp) : Prop where
  mt : ∀ p ∈ κ.tb, F p.1 = some (markT p.2)
  tt : ∀ a ps, F a = some (.tbl ps) → ∃ p ∈ κ.tb, p.1 = a
structure SameT (F F' : Hp) : Prop where
  same : Same F F'
  nt : ∀ a ps, F' a = some (.tbl ps) → F a = some (.tbl ps)
instance {F F' : Hp} : CoeOut (SameT F F') (Same F F') := ⟨SameT.same⟩
instance {F F' : Hp} : CoeFun (SameT F F') fun _ => ∀ a o, F a = some o → F' a = some o := ⟨fun s => s.same⟩
theorem SameT.refl (F : Hp) : SameT F F := ⟨Same.refl _, fun _ _ e => e⟩
theorem SameT.trans {F F1 F2 : Hp} (a : SameT F F1) (b : SameT F1 F2) : SameT F F2 := ⟨a.same.trans b.same, fun x ps e => a.nt x ps (b.nt x ps e)⟩
structure FF {M : PySem.W.Frag} (κ : Kap M) (F0 F : Hp) : Prop where
  same : Same F0 F
  mks : Mks κ F
instance {M : PySem.W.Frag} {κ : Kap M} {F0 F : Hp} : CoeOut (FF κ F0 F) (Same F0 F) := ⟨FF.same⟩
theorem FF.trans {M : PySem.W.Frag} {κ : Kap M} {F0 F F' : Hp} (a : FF κ F0 F) (b : SameT F F') : FF κ F0 F' := ⟨a.same.trans b.same, ⟨fun p hp => b.same _ _ (a.mks.mt p hp), fun x ps e => a.mks.tt x ps (b.nt x ps e)⟩⟩
theorem FF.then {M : PySem.W.Frag} {κ : Kap M} {F0 F F' : Hp} (a : FF κ F0 F) (b : FF κ F F') : FF κ F0 F' := ⟨a.same.trans b.same, b.mks⟩
theorem FF.sameT {M : PySem.W.Frag} {κ : Kap M} {F F' : Hp} (b : FF κ F F') (m : Mks κ F) : SameT F F' := ⟨b.same, fun x ps e => by
  obtain ⟨p, hp, rfl⟩ := b.mks.tt x ps e
  have h := m.mt p hp
  rw [b.same _ _ h] at e
  rw [h]; exact e⟩
theorem FF.refl {M : PySem.W.Frag} {κ : Kap M} {F0 F : Hp} (a : FF κ F0 F) : FF κ F F := ⟨Same.refl _, a.mks⟩
theorem Mks.up {M : PySem.W.Frag} {κ : Kap M} {F F' : Hp} (m : Mks κ F) (s : SameT F F') : Mks κ F' := ⟨fun p hp => s.same _ _ (m.mt p hp), fun x ps e => m.tt x ps (s.nt x ps e)⟩
def KL (M : PySem.W.Frag) (a : Addr) (xs : List V) : Prop := ∃ (o : Obj) (its : Array Value) (n : Nat), M.lookup a = some o ∧ o.cls = .type "list" ∧ o.dict = none ∧ o.data = .seq its n ∧ its.size ≤ sizeLine ∧ Vals xs its.toList
def IsHO {M : PySem.W.Frag} (κ : Kap M) : Kind → List V → HO → Prop
  | .lst, vs, o => o = .lst vs
  | .dic ks, vs, o => (ks.Nodup ∧ ks.length = vs.length) ∧ o = .dK (ks.zip vs)
  | .dit ks, vs, o => (ks.Nodup ∧ ks.length = vs.length) ∧ o = .dT (ks.zip vs)
  | .dil ks, vs, o => (ks.Nodup ∧ ks.length = vs.length) ∧ ∃ od, o = .frz od (.dK (ks.zip vs))
  | .ins c ns, vs, o => ns.length = vs.length ∧ ∃ dx, o = .ins (κ.cls c) dx (ns.zip vs)
  | .inv c ns as, vs, o => (ns.length = vs.length ∧ ∃ dx, o = .ins (κ.cls c) dx (ns.zip vs)) ∧ vs = as.map V.ref
  | .exc c, vs, o => ∃ (oe : Obj) (dd : Option Addr), o = .frz oe (.ext fun _ => True) ∧ (oe.cls = .ref (κ.cls c) ∧ oe.dict = dd) ∧ (∃ fv, oe.data = .fields fv) ∧ vs = (dd.map V.ref).toList
  | .xdk ns, vs, o => ns.length = vs.length ∧ ∃ fs : List (Str × V), o = .xd fs ∧ ∀ (j : Nat) (n : Str) (v : V), ns[j]? = some n → vs[j]? = some v → fs.lookup n = some v
theorem IsHO.nt {M : PySem.W.Frag} {κ : Kap M} {k : Kind} {vs : List V} {o : HO} (h : IsHO κ k vs o) : ¬ IsTup' o := by
  cases k with
  | lst => cases h; exact fun z => z
  | dic ks => obtain ⟨_, rfl⟩ := h; exact fun z => z
  | dit ks => obtain ⟨_, rfl⟩ := h; exact fun z => z
  | dil ks => obtain ⟨_, _, rfl⟩ := h; exact fun z => z
  | ins c ns => obtain ⟨_, dx, rfl⟩ := h; exact fun z => z
  | inv c ns as => obtain ⟨⟨_, dx, rfl⟩, _⟩ := h; exact fun z => z
  | exc c => obtain ⟨_, _, rfl, _⟩ := h; exact fun z => z
  | xdk ns => obtain ⟨_, fs, rfl, _⟩ := h; exact fun z => z
def RdO (k : Kind) (o u : HO) : Prop := o = u ∨ k = .lst ∧ ∃ ob, o = .frz ob u
mutual
inductive Rep {M : PySem.W.Frag} (κ : Kap M) (F H : Hp) : D → V → List Addr → Prop
  | non : Rep κ F H .non .non []
  | bl (b : Bool) : Rep κ F H (.bl b) (.bl b) []
  | int (i : Int) : Rep κ F H (.int i) (.int i) []
  | str (s : Str) : Rep κ F H (.str s) (.str s) []
  | tup {a : Addr} {ds : List D} {vs : List V} {fp : List Addr} : F a = some (.tup vs) → RepL κ F H ds vs fp → Rep κ F H (.tup ds) (.ref a) fp
  | ndO {a : Addr} {k : Kind} {ds : List D} {vs : List V} {fp : List Addr} {o : HO} : H a = some o → IsHO κ k vs o → RepL κ F H ds vs fp → Rep κ F H (.nd .own k ds) (.ref a) (a :: fp)
  | ndF {a : Addr} {k : Kind} {ds : List D} {vs : List V} {o u : HO} : F a = some o → RdO k o u → IsHO κ k vs u → RepL κ F H ds vs [] → Rep κ F H (.nd .frz k ds) (.ref a) []
  | ndT {a : Addr} {k : Kind} {ds : List D} {vs : List V} {o u : HO} : H a = some o → RdO k o u → IsHO κ k vs u → RepL κ F H ds vs [] → Rep κ F H (.nd .tmp k ds) (.ref a) []
  | ndK {a : Addr} {ds : List D} {vs : List V} : KL M a vs → RepL κ F H ds vs [] → Rep κ F H (.nd .frz .lst ds) (.ref a) []
  | pin {j : Nat} {a : Addr} {d : D} {fp : List Addr} : κ.pv[j]? = some a → Rep κ F H d (.ref a) fp → Rep κ F H (.pin j d) (.ref a) fp
  | pack {d : D} {cs : List D} {v : V} {fp fq : List Addr} : κ.pv ≠ [] → Rep κ F H d v fp → RepL κ F H cs (κ.pv.map V.ref) fq → Rep κ F H (.pack d cs) v (fp ++ fq)
inductive RepL {M : PySem.W.Frag} (κ : Kap M) (F H : Hp) : List D → List V → List Addr → Prop
  | nil : RepL κ F H [] [] []
  | cons {d : D} {v : V} {ds : List D} {vs : List V} {fp fq : List Addr} : Rep κ F H d v fp → RepL κ F H ds vs fq → RepL κ F H (d :: ds) (v :: vs) (fp ++ fq)
end
def nTb : HO → Prop
  | .tbl _ => False
  | _ => True
theorem nTb_rd {k : Kind} {o u : HO} (r : RdO k o u) (h : nTb u) : nTb o := by
  rcases r with rfl | ⟨_, _, rfl⟩
  · exact h
  · exact True.intro
theorem nTb_of {o : HO} (h : ¬ IsTup' o) : nTb o := by
  cases o with
  | tbl ps => exact (h True.intro).elim
  | _ => exact True.intro
structure Sm (H H' : Hp) : Prop where
  at_ : ∀ a o, H a = some o → nTb o → H' a = some o
  fr : ∀ a, H' a = none → H a = none
structure Sub (F H : Hp) : Prop where
  at_ : ∀ a o, F a = some o → nTb o → H a = some o
  tb : ∀ a ps, F a = some (.tbl ps) → ∃ q t, ps = #[.str q t] ∧ LamX.TabS H a q
theorem Sm.ap {H H' : Hp} (s : Sm H H') (a : Addr) (o : HO) (e : H a = some o) (h : nTb o := by first | exact True.intro | assumption | (refine nTb_rd (by assumption) ?_; exact True.intro)) : H' a = some o := s.at_ a o e h
theorem Sub.ap {H H' : Hp} (s : Sub H H') (a : Addr) (o : HO) (e : H a = some o) (h : nTb o := by first | exact True.intro | assumption | (refine nTb_rd (by assumption) ?_; exact True.intro)) : H' a = some o := s.at_ a o e h
instance {H H' : Hp} : CoeFun (Sm H H') fun _ => ∀ a o, H a = some o → (h : nTb o := by first | exact True.intro | assumption | (refine nTb_rd (by assumption) ?_; exact True.intro)) → H' a = some o := ⟨fun s => @Sm.ap _ _ s⟩
instance {H H' : Hp} : CoeFun (Sub H H') fun _ => ∀ a o, H a = some o → (h : nTb o := by first | exact True.intro | assumption | (refine nTb_rd (by assumption) ?_; exact True.intro)) → H' a = some o := ⟨fun s => @Sub.ap _ _ s⟩
theorem Sm.refl (H : Hp) : Sm H H := ⟨fun _ _ e _ => e, fun _ e => e⟩
theorem Sm.trans {H H1 H2 : Hp} (a : Sm H H1) (b : Sm H1 H2) : Sm H H2 := ⟨fun c o e n => b.at_ c o (a.at_ c o e n) n, fun c e => a.fr c (b.fr c e)⟩
theorem Sm.free {H H' : Hp} (e : Sm H H') {l : Addr} (h : H' l = none) : H l = none := e.fr l h
theorem Sm.of {H H' : Hp} (e : Same H H') : Sm H H' := ⟨fun a o h _ => e a o h, fun a h => e.free h⟩
theorem Sub.free {F H : Hp} (e : Sub F H) {l : Addr} (h : H l = none) : F l = none := by
  cases q : F l with
  | none => rfl
  | some o =>
    by_cases n : nTb o
    · rw [e.at_ l o q n] at h; cases h
    · cases o with
      | tbl ps =>
        obtain ⟨_, _, _, ps', h1, _⟩ := e.tb l ps q
        rw [h1] at h; cases h
      | _ => exact absurd True.intro n
theorem Sub.grow {F H H' : Hp} (e : Sub F H) (s : Same H H') : Sub F H' := ⟨fun a o h n => s a o (e.at_ a o h n), fun a ps h => by
  obtain ⟨q, t, h1, h2⟩ := e.tb a ps h
  exact ⟨q, t, h1, h2.ext s⟩⟩
theorem Sub.sm {F H : Hp} (e : Sub F H) : Sm F H := ⟨e.at_, fun _ h => e.free h⟩
theorem TabS.upd {H : Hp} {P a : Addr} {q : Str} {o x : HO} (t : LamX.TabS H P q) (e : H a = some x) (n : ¬ IsTup' x) : LamX.TabS (upd H a o) P q := by
  obtain ⟨ps, h1, h2, h3⟩ := t
  have ne : ∀ b u, H b = some u → IsTup' u → b ≠ a := fun b u h t z => by rw [z, e] at h; cases h; exact n t
  refine ⟨ps, by rw [upd_ne (ne _ _ h1 True.intro)]; exact h1, h2, fun pos cv hc => ?_⟩
  obtain ⟨c, e1, e2⟩ := h3 pos cv hc
  exact ⟨c, e1, by rw [upd_ne (ne _ _ e2 True.intro)]; exact e2⟩
theorem Sm.upd {K H : Hp} (s : Sm K H) {a : Addr} {o : HO} (h : K a = none) : Sm K (L2.upd H a o) := ⟨fun b x e n => by rw [upd_ne (ne_of_none e h)]; exact s.at_ b x e n, fun b e => by
  by_cases z : b = a
  · rw [z, upd_same] at e; cases e
  · rw [upd_ne z] at e; exact s.free e⟩
theorem Sub.upd {F H : Hp} (s : Sub F H) {a : Addr} {o x : HO} (h : F a = none) (e : H a = some x) (n : ¬ IsTup' x) : Sub F (L2.upd H a o) := ⟨fun b x e n => by rw [upd_ne (ne_of_none e h)]; exact s.at_ b x e n, fun b ps hb => by
  obtain ⟨q, t, h1, h2⟩ := s.tb b ps hb
  exact ⟨q, t, h1, TabS.upd h2 e n⟩⟩
theorem Sub.notOwn {F H : Hp} (s : Sub F H) {a : Addr} {u o : HO} (h : F a = some u) (t : IsTup' u) (e : H a = some o) (n : ¬ IsTup' o) : False := by
  by_cases k : nTb u
  · have := s.at_ a u h k
    rw [e] at this; cases this; exact n t
  · cases u with
    | tbl ps =>
      obtain ⟨_, _, _, ps', h1, _⟩ := s.tb a ps h
      rw [e] at h1; cases h1; exact n True.intro
    | _ => exact k True.intro
theorem IsHO.nTb {M : PySem.W.Frag} {κ : Kap M} {k : Kind} {vs : List V} {o : HO} (h : IsHO κ k vs o) : nTb o := by
  cases k with
  | lst => cases h; exact True.intro
  | dic ks => obtain ⟨_, rfl⟩ := h; exact True.intro
  | dit ks => obtain ⟨_, rfl⟩ := h; exact True.intro
  | dil ks => obtain ⟨_, _, rfl⟩ := h; exact True.intro
  | ins c ns => obtain ⟨_, dx, rfl⟩ := h; exact True.intro
  | inv c ns as => obtain ⟨⟨_, dx, rfl⟩, _⟩ := h; exact True.intro
  | exc c => obtain ⟨_, _, rfl, _⟩ := h; exact True.intro
  | xdk ns => obtain ⟨_, fs, rfl, _⟩ := h; exact True.intro
theorem RdO.nTb {M : PySem.W.Frag} {κ : Kap M} {k : Kind} {vs : List V} {o u : HO} (r : RdO k o u) (h : IsHO κ k vs u) : nTb o := by
  rcases r with rfl | ⟨_, _, rfl⟩
  · exact h.nTb
  · exact True.intro
def seen (F H : Hp) : Hp := fun a => match F a with
  | some o => some o
  | none => match H a with
    | some (.tbl _) => none
    | o => o
theorem same_seen {F H : Hp} : Same F (seen F H) := fun a o e => by unfold seen; rw [e]
theorem sameT_seen {F H : Hp} : SameT F (seen F H) := ⟨same_seen, fun a ps e => by
  unfold seen at e
  cases q : F a with
  | some o => rw [q] at e; exact e
  | none =>
    rw [q] at e
    dsimp only at e
    split at e
    · cases e
    · rename_i h; exact (h _ e).elim⟩
theorem seen_of {F H : Hp} (fh : Sub F H) {a : Addr} {o : HO} (e : H a = some o) (n : nTb o) : seen F H a = some o := by
  unfold seen
  cases q : F a with
  | some u =>
    by_cases n2 : PV.nTb u
    · have := fh.at_ a u q n2
      rw [e] at this; exact this.symm
    · cases u with
      | tbl ps =>
        obtain ⟨_, _, _, ps', h1, _⟩ := fh.tb a ps q
        rw [e] at h1; cases h1; exact n.elim
      | _ => exact absurd True.intro n2
  | none =>
    rw [e]
    cases o with
    | tbl ps => exact n.elim
    | _ => rfl
theorem seen_sub {F H : Hp} (fh : Sub F H) : Sub (seen F H) H := ⟨fun a o e n => by
  unfold seen at e
  cases q : F a with
  | some u => rw [q] at e; cases e; exact fh.at_ a _ q n
  | none =>
    rw [q] at e
    dsimp only at e
    split at e
    · cases e
    · exact e, fun a ps e => by
  unfold seen at e
  cases q : F a with
  | some u => rw [q] at e; cases e; exact fh.tb a _ q
  | none =>
    rw [q] at e
    dsimp only at e
    split at e
    · cases e
    · rename_i h; exact absurd e (h ps)⟩
section
variable {M : PySem.W.Frag} {κ : Kap M} {F H F' H' : Hp}
theorem RepL.length {ds : List D} {vs : List V} {fp : List Addr} (h : RepL κ F H ds vs fp) : ds.length = vs.length := by
  induction ds generalizing vs fp with
  | nil => cases h; rfl
  | cons d ds ih => cases h with | cons _ r => simp [ih r]
theorem rep_mono (hF : Same F F') (hT : Sm H H') : 
    (∀ d v fp, Rep κ F H d v fp → Rep κ F' H' d v fp) ∧ (∀ ds vs fp, RepL κ F H ds vs fp → RepL κ F' H' ds vs fp) := by
  have key : ∀ n : Nat, (∀ d v fp, sizeOf d ≤ n → Rep κ F H d v fp → Rep κ F' H' d v fp) ∧ (∀ ds vs fp, sizeOf ds ≤ n → RepL κ F H ds vs fp → RepL κ F' H' ds vs fp) := by
    intro n
    induction n with
    | zero =>
      refine ⟨fun d v fp hz h => ?_, fun ds vs fp hz h => ?_⟩
      · cases d <;> simp at hz
      · cases ds <;> simp at hz
    | succ n ih =>
      refine ⟨fun d v fp hz h => ?_, fun ds vs fp hz h => ?_⟩
      · cases h with
        | non => exact .non
        | bl b => exact .bl b
        | int i => exact .int i
        | str s => exact .str s
        | tup ha hl => exact .tup (hF _ _ ha) (ih.2 _ _ _ (by simp at hz; omega) hl)
        | ndO ha hs hl => exact .ndO (hT.at_ _ _ ha hs.nTb) hs (ih.2 _ _ _ (by simp at hz; omega) hl)
        | ndF ha hr hs hl => exact .ndF (hF _ _ ha) hr hs (ih.2 _ _ _ (by simp at hz; omega) hl)
        | ndT ha hr hs hl => exact .ndT (hT.at_ _ _ ha (hr.nTb hs)) hr hs (ih.2 _ _ _ (by simp at hz; omega) hl)
        | ndK ha hl => exact .ndK ha (ih.2 _ _ _ (by simp at hz; omega) hl)
        | pin hp hd => exact .pin hp (ih.1 _ _ _ (by simp at hz; omega) hd)
        | pack hn h1 h2 => exact .pack hn (ih.1 _ _ _ (by simp at hz; omega) h1) (ih.2 _ _ _ (by simp at hz; omega) h2)
      · cases h with
        | nil => exact .nil
        | cons hd hl => exact .cons (ih.1 _ _ _ (by simp at hz; omega) hd) (ih.2 _ _ _ (by simp at hz; omega) hl)
  exact ⟨fun d v fp h => (key _).1 d v fp (Nat.le_refl _) h, fun ds vs fp h => (key _).2 ds vs fp (Nat.le_refl _) h⟩
end
structure Ext (F H F' H' : Hp) : Prop where
  hh : Sm H H'
  ff : SameT F F'
  fh : Sub F' H'
  gr : ∀ a o, F' a = some o → F a = some o ∨ H a = none ∨ IsTup' o
theorem Ext.refl {F H : Hp} (h : Sub F H) : Ext F H F H := ⟨Sm.refl _, SameT.refl _, h, fun _ _ e => .inl e⟩
theorem Ext.trans {F H F1 H1 F2 H2 : Hp} (a : Ext F H F1 H1) (b : Ext F1 H1 F2 H2) : Ext F H F2 H2 := ⟨a.hh.trans b.hh, a.ff.trans b.ff, b.fh, fun x o e => by
  rcases b.gr x o e with h | h | h
  · exact a.gr x o h
  · exact .inr (.inl (a.hh.free h))
  · exact .inr (.inr h)⟩
theorem same_upd {H : Hp} {p : Addr} {o : HO} (h : H p = none) : Same H (upd H p o) := fun b x e => by rw [upd_ne (ne_of_none e h)]; exact e
theorem Ext.newF {F H : Hp} {p : Addr} {o : HO} (fh : Sub F H) (h : H p = none) (n : nTb o := by exact True.intro) : Ext F H (upd F p o) (upd H p o) := ⟨.of (same_upd h),
  ⟨same_upd (fh.free h), fun b ps e => by
    by_cases z : b = p
    · rw [z, upd_same] at e; cases e; exact n.elim
    · rw [upd_ne z] at e; exact e⟩, ⟨fun b x e n2 => by
    unfold upd at e ⊢
    split
    · rename_i q; rw [if_pos q] at e; exact e
    · rename_i q; rw [if_neg q] at e; exact fh.at_ _ _ e n2, fun b ps e => by
    unfold upd at e
    split at e
    · cases e; exact n.elim
    · exact (fh.grow (same_upd h)).tb _ _ e⟩, fun b x e => by
    unfold upd at e
    split at e
    · rename_i q; subst q; exact .inr (.inl h)
    · exact .inl e⟩
theorem Ext.newO {F H : Hp} {p : Addr} {o : HO} (fh : Sub F H) (h : H p = none) : Ext F H F (upd H p o) := ⟨.of (same_upd h),
  SameT.refl _, fh.grow (same_upd h), fun b x e => .inl e⟩
section
variable {M : PySem.W.Frag} {κ : Kap M} {F H F' H' : Hp}
theorem Rep.ext {d : D} {v : V} {fp : List Addr} (h : Rep κ F H d v fp) (e : Ext F H F' H') : Rep κ F' H' d v fp := (rep_mono e.ff e.hh).1 _ _ _ h
theorem RepL.ext {d : List D} {v : List V} {fp : List Addr} (h : RepL κ F H d v fp) (e : Ext F H F' H') : RepL κ F' H' d v fp := (rep_mono e.ff e.hh).2 _ _ _ h
mutual
theorem Rep.own {M : PySem.W.Frag} (κ : Kap M) (F H : Hp) : ∀ (d : D) (v : V) (fp : List Addr), Rep κ F H d v fp → ∀ a ∈ fp, ∃ o, H a = some o ∧ ¬ IsTup' o
  | .non, _, _, h => by cases h; simp
  | .bl _, _, _, h => by cases h; simp
  | .int _, _, _, h => by cases h; simp
  | .str _, _, _, h => by cases h; simp
  | .tup ds, _, _, h => by cases h with | tup _ hl => exact RepL.own κ F H ds _ _ hl
  | .nd t k ds, _, _, h => by
    cases h with
    | ndO ha hs hl =>
      intro a hm
      rcases List.mem_cons.mp hm with rfl | hm
      · exact ⟨_, ha, hs.nt⟩
      · exact RepL.own κ F H ds _ _ hl a hm
    | ndF => simp
    | ndT => simp
    | ndK => simp
  | .pin _ d, _, _, h => by cases h with | pin _ hd => exact Rep.own κ F H d _ _ hd
  | .pack d cs, _, _, h => by
    cases h with
    | pack _ h1 h2 =>
      intro a hm
      rcases List.mem_append.mp hm with hm | hm
      · exact Rep.own κ F H d _ _ h1 a hm
      · exact RepL.own κ F H cs _ _ h2 a hm
theorem RepL.own {M : PySem.W.Frag} (κ : Kap M) (F H : Hp) : ∀ (ds : List D) (vs : List V) (fp : List Addr), RepL κ F H ds vs fp → ∀ a ∈ fp, ∃ o, H a = some o ∧ ¬ IsTup' o
  | [], _, _, h => by cases h; simp
  | d :: ds, _, _, h => by
    cases h with
    | cons h1 h2 =>
      intro a hm
      rcases List.mem_append.mp hm with hm | hm
      · exact Rep.own κ F H d _ _ h1 a hm
      · exact RepL.own κ F H ds _ _ h2 a hm
end
mutual
theorem Rep.rd {M : PySem.W.Frag} (κ : Kap M) (F H : Hp) (fh : Sub F H) : ∀ (d : D) (v : V) (fp : List Addr), Rep κ F H d v fp → Rep κ F H (rd d) v []
  | .non, _, _, h => by cases h; exact .non
  | .bl _, _, _, h => by cases h; exact .bl _
  | .int _, _, _, h => by cases h; exact .int _
  | .str _, _, _, h => by cases h; exact .str _
  | .tup ds, _, _, h => by
    cases h with
    | tup ha hl =>
      rw [PV.rd]
      exact .tup ha (RepL.rd κ F H fh ds _ _ hl)
  | .nd t k ds, _, _, h => by
    rw [PV.rd]
    cases h with
    | ndO ha hs hl => exact .ndT ha (.inl rfl) hs (RepL.rd κ F H fh ds _ _ hl)
    | ndF ha hr hs hl => exact .ndF ha hr hs (RepL.rd κ F H fh ds _ _ hl)
    | ndT ha hr hs hl => exact .ndT ha hr hs (RepL.rd κ F H fh ds _ _ hl)
    | ndK ha hl => exact .ndK ha (RepL.rd κ F H fh ds _ _ hl)
  | .pin _ d, _, _, h => by
    rw [PV.rd]
    cases h with | pin _ hd => exact Rep.rd κ F H fh d _ _ hd
  | .pack d cs, _, _, h => by
    rw [PV.rd]
    cases h with | pack _ h1 _ => exact Rep.rd κ F H fh d _ _ h1
theorem RepL.rd {M : PySem.W.Frag} (κ : Kap M) (F H : Hp) (fh : Sub F H) : ∀ (ds : List D) (vs : List V) (fp : List Addr), RepL κ F H ds vs fp → RepL κ F H (rdL ds) vs []
  | [], _, _, h => by cases h; exact .nil
  | d :: ds, _, _, h => by
    cases h with
    | cons h1 h2 =>
      rw [PV.rdL]
      exact .cons (fp := []) (fq := []) (Rep.rd κ F H fh d _ _ h1) (RepL.rd κ F H fh ds _ _ h2)
end
mutual
theorem Rep.fa {M : PySem.W.Frag} (κ : Kap M) (F H : Hp) (fh : Sub F H) : ∀ (d : D) (v : V) (fp : List Addr), Rep κ F H d v fp → Rep κ (seen F H) H (fa d) v []
  | .non, _, _, h => by cases h; exact .non
  | .bl _, _, _, h => by cases h; exact .bl _
  | .int _, _, _, h => by cases h; exact .int _
  | .str _, _, _, h => by cases h; exact .str _
  | .tup ds, _, _, h => by
    cases h with
    | tup ha hl =>
      rw [PV.fa]
      exact .tup (same_seen _ _ ha) (RepL.fa κ F H fh ds _ _ hl)
  | .nd t k ds, _, _, h => by
    rw [PV.fa]
    cases h with
    | ndO ha hs hl => exact .ndF (seen_of fh ha hs.nTb) (.inl rfl) hs (RepL.fa κ F H fh ds _ _ hl)
    | ndF ha hr hs hl => exact .ndF (same_seen _ _ ha) hr hs (RepL.fa κ F H fh ds _ _ hl)
    | ndT ha hr hs hl => exact .ndF (seen_of fh ha (hr.nTb hs)) hr hs (RepL.fa κ F H fh ds _ _ hl)
    | ndK ha hl => exact .ndK ha (RepL.fa κ F H fh ds _ _ hl)
  | .pin _ d, _, _, h => by
    rw [PV.fa]
    cases h with | pin _ hd => exact Rep.fa κ F H fh d _ _ hd
  | .pack d cs, _, _, h => by
    rw [PV.fa]
    cases h with | pack _ h1 _ => exact Rep.fa κ F H fh d _ _ h1
theorem RepL.fa {M : PySem.W.Frag} (κ : Kap M) (F H : Hp) (fh : Sub F H) : ∀ (ds : List D) (vs : List V) (fp : List Addr), RepL κ F H ds vs fp → RepL κ (seen F H) H (faL ds) vs []
  | [], _, _, h => by cases h; exact .nil
  | d :: ds, _, _, h => by
    cases h with
    | cons h1 h2 =>
      rw [PV.faL]
      exact .cons (fp := []) (fq := []) (Rep.fa κ F H fh d _ _ h1) (RepL.fa κ F H fh ds _ _ h2)
end
def grab (F H : Hp) (fp : List Addr) : Hp := fun a => if a ∈ fp then H a else F a
theorem grab_mem {F H : Hp} {fp : List Addr} {a : Addr} (h : a ∈ fp) : grab F H fp a = H a := if_pos h
theorem grab_not {F H : Hp} {fp : List Addr} {a : Addr} (h : a ∉ fp) : grab F H fp a = F a := if_neg h
theorem same_grab {F H : Hp} {fp : List Addr} (hf : ∀ a ∈ fp, F a = none) : Same F (grab F H fp) := fun a o e => by
  unfold grab
  split
  · rename_i m; rw [hf a m] at e; cases e
  · exact e
theorem sameT_grab {F H : Hp} {fp : List Addr} (hf : ∀ a ∈ fp, F a = none) (ow : ∀ a ∈ fp, ∃ o, H a = some o ∧ ¬ IsTup' o) : SameT F (grab F H fp) := ⟨same_grab hf, fun a ps e => by
  by_cases m : a ∈ fp
  · rw [grab_mem m] at e
    obtain ⟨o, h1, h2⟩ := ow a m
    rw [h1] at e; cases e; exact (h2 True.intro).elim
  · rw [grab_not m] at e; exact e⟩
theorem grab_same {F H : Hp} {fp : List Addr} (fh : Sub F H) (hh : ∀ a ∈ fp, ∃ o, H a = some o ∧ ¬ IsTup' o) : Sub (grab F H fp) H := ⟨fun a o e n => by
  unfold grab at e
  split at e
  · exact e
  · exact fh.at_ _ _ e n, fun a ps e => by
  unfold grab at e
  split at e
  · rename_i m
    obtain ⟨o, h1, h2⟩ := hh a m
    rw [e] at h1; cases h1; exact (h2 True.intro).elim
  · exact fh.tb _ _ e⟩
theorem grab_sm {K H : Hp} {fp : List Addr} (s : Sm K H) : Sm (grab K H fp) H := ⟨fun a o e n => by
  unfold grab at e
  split at e
  · exact e
  · exact s.at_ _ _ e n, fun a e => by
  unfold grab
  split
  · exact e
  · exact s.free e⟩
mutual
theorem Rep.fz {M : PySem.W.Frag} (κ : Kap M) (F H G : Hp) (fg : Same F G) : ∀ (d : D) (v : V) (fp : List Addr), (∀ a ∈ fp, G a = H a) → Rep κ F H d v fp → Rep κ G H (fz d) v []
  | .non, _, _, _, h => by cases h; exact .non
  | .bl _, _, _, _, h => by cases h; exact .bl _
  | .int _, _, _, _, h => by cases h; exact .int _
  | .str _, _, _, _, h => by cases h; exact .str _
  | .tup ds, _, _, hg, h => by
    cases h with
    | tup ha hl =>
      rw [PV.fz]
      exact .tup (fg _ _ ha) (RepL.fz κ F H G fg ds _ _ hg hl)
  | .nd t k ds, _, _, hg, h => by
    rw [PV.fz]
    cases h with
    | ndO ha hs hl => exact .ndF ((hg _ List.mem_cons_self).trans ha) (.inl rfl) hs (RepL.fz κ F H G fg ds _ _ (fun a hm => hg a (List.mem_cons_of_mem _ hm)) hl)
    | ndF ha hr hs hl => exact .ndF (fg _ _ ha) hr hs (RepL.fz κ F H G fg ds _ _ hg hl)
    | ndT ha hr hs hl => exact .ndT ha hr hs (RepL.fz κ F H G fg ds _ _ hg hl)
    | ndK ha hl => exact .ndK ha (RepL.fz κ F H G fg ds _ _ hg hl)
  | .pin _ d, _, _, hg, h => by
    rw [PV.fz]
    cases h with | pin _ hd => exact Rep.fz κ F H G fg d _ _ hg hd
  | .pack d cs, _, _, hg, h => by
    rw [PV.fz]
    cases h with | pack _ h1 _ => exact Rep.fz κ F H G fg d _ _ (fun a hm => hg a (List.mem_append_left _ hm)) h1
theorem RepL.fz {M : PySem.W.Frag} (κ : Kap M) (F H G : Hp) (fg : Same F G) : ∀ (ds : List D) (vs : List V) (fp : List Addr), (∀ a ∈ fp, G a = H a) → RepL κ F H ds vs fp → RepL κ G H (fzL ds) vs []
  | [], _, _, _, h => by cases h; exact .nil
  | d :: ds, _, _, hg, h => by
    cases h with
    | cons h1 h2 =>
      rw [PV.fzL]
      exact .cons (fp := []) (fq := []) (Rep.fz κ F H G fg d _ _ (fun a hm => hg a (List.mem_append_left _ hm)) h1) (RepL.fz κ F H G fg ds _ _ (fun a hm => hg a (List.mem_append_right _ hm)) h2)
end
mutual
theorem Rep.stay {M : PySem.W.Frag} (κ : Kap M) (F H F' H' : Hp) (ff : Same F F') : ∀ (d : D) (v : V) (fp : List Addr), (∀ a ∈ fp, H' a = H a) → noT d = true → Rep κ F H d v fp → Rep κ F' H' d v fp
  | .non, _, _, _, _, h => by cases h; exact .non
  | .bl _, _, _, _, _, h => by cases h; exact .bl _
  | .int _, _, _, _, _, h => by cases h; exact .int _
  | .str _, _, _, _, _, h => by cases h; exact .str _
  | .tup ds, _, _, hg, hn, h => by
    cases h with
    | tup ha hl =>
      rw [noT] at hn
      exact .tup (ff _ _ ha) (RepL.stay κ F H F' H' ff ds _ _ hg hn hl)
  | .nd t k ds, _, _, hg, hn, h => by
    rw [noT, Bool.and_eq_true] at hn
    cases h with
    | ndO ha hs hl => exact .ndO ((hg _ List.mem_cons_self).trans ha) hs (RepL.stay κ F H F' H' ff ds _ _ (fun a hm => hg a (List.mem_cons_of_mem _ hm)) hn.2 hl)
    | ndF ha hr hs hl => exact .ndF (ff _ _ ha) hr hs (RepL.stay κ F H F' H' ff ds _ _ (fun a hm => absurd hm (by simp)) hn.2 hl)
    | ndT ha hr hs hl => exact absurd (of_decide_eq_true hn.1) (by simp)
    | ndK ha hl => exact .ndK ha (RepL.stay κ F H F' H' ff ds _ _ (fun a hm => absurd hm (by simp)) hn.2 hl)
  | .pin _ d, _, _, hg, hn, h => by
    rw [noT] at hn
    cases h with | pin hp hd => exact .pin hp (Rep.stay κ F H F' H' ff d _ _ hg hn hd)
  | .pack d cs, _, _, hg, hn, h => by
    rw [noT, Bool.and_eq_true] at hn
    cases h with | pack hp h1 h2 => exact .pack hp (Rep.stay κ F H F' H' ff d _ _ (fun a hm => hg a (List.mem_append_left _ hm)) hn.1 h1) (RepL.stay κ F H F' H' ff cs _ _ (fun a hm => hg a (List.mem_append_right _ hm)) hn.2 h2)
theorem RepL.stay {M : PySem.W.Frag} (κ : Kap M) (F H F' H' : Hp) (ff : Same F F') : ∀ (ds : List D) (vs : List V) (fp : List Addr), (∀ a ∈ fp, H' a = H a) → noTL ds = true → RepL κ F H ds vs fp → RepL κ F' H' ds vs fp
  | [], _, _, _, _, h => by cases h; exact .nil
  | d :: ds, _, _, hg, hn, h => by
    rw [noTL, Bool.and_eq_true] at hn
    cases h with
    | cons h1 h2 =>
      exact .cons (Rep.stay κ F H F' H' ff d _ _ (fun a hm => hg a (List.mem_append_left _ hm)) hn.1 h1) (RepL.stay κ F H F' H' ff ds _ _ (fun a hm => hg a (List.mem_append_right _ hm)) hn.2 h2)
end
mutual
theorem Rep.imm {M : PySem.W.Frag} (κ : Kap M) (F H G H' : Hp) (ft : ∀ a vs, F a = some (.tup vs) → G a = some (.tup vs)) : ∀ (d : D) (v : V) (fp : List Addr), imm d = true → Rep κ F H d v fp → fp = [] ∧ Rep κ G H' d v []
  | .non, _, _, _, h => by cases h; exact ⟨rfl, .non⟩
  | .bl _, _, _, _, h => by cases h; exact ⟨rfl, .bl _⟩
  | .int _, _, _, _, h => by cases h; exact ⟨rfl, .int _⟩
  | .str _, _, _, _, h => by cases h; exact ⟨rfl, .str _⟩
  | .tup ds, _, _, hn, h => by
    cases h with
    | tup ha hl =>
      rw [PV.imm] at hn
      obtain ⟨e, r⟩ := RepL.imm κ F H G H' ft ds _ _ hn hl
      exact ⟨e, .tup (ft _ _ ha) r⟩
  | .nd t k ds, _, _, hn, h => by rw [PV.imm] at hn; cases hn
  | .pin _ _, _, _, hn, h => by rw [PV.imm] at hn; cases hn
  | .pack _ _, _, _, hn, h => by rw [PV.imm] at hn; cases hn
theorem RepL.imm {M : PySem.W.Frag} (κ : Kap M) (F H G H' : Hp) (ft : ∀ a vs, F a = some (.tup vs) → G a = some (.tup vs)) : ∀ (ds : List D) (vs : List V) (fp : List Addr), immL ds = true → RepL κ F H ds vs fp → fp = [] ∧ RepL κ G H' ds vs []
  | [], _, _, _, h => by cases h; exact ⟨rfl, .nil⟩
  | d :: ds, _, _, hn, h => by
    rw [immL, Bool.and_eq_true] at hn
    cases h with
    | cons h1 h2 =>
      obtain ⟨e1, r1⟩ := Rep.imm κ F H G H' ft d _ _ hn.1 h1
      obtain ⟨e2, r2⟩ := RepL.imm κ F H G H' ft ds _ _ hn.2 h2
      subst e1 e2
      exact ⟨rfl, .cons (fp := []) (fq := []) r1 r2⟩
end
mutual
theorem Rep.imO {M : PySem.W.Frag} (κ : Kap M) (F H G : Hp) (ft : ∀ a vs, F a = some (.tup vs) → G a = some (.tup vs)) : ∀ (d : D) (v : V) (fp : List Addr), imO d = true → Rep κ F H d v fp → Rep κ G H d v fp
  | .non, _, _, _, h => by cases h; exact .non
  | .bl _, _, _, _, h => by cases h; exact .bl _
  | .int _, _, _, _, h => by cases h; exact .int _
  | .str _, _, _, _, h => by cases h; exact .str _
  | .tup ds, _, _, hn, h => by
    cases h with
    | tup ha hl =>
      rw [PV.imO] at hn
      exact .tup (ft _ _ ha) (RepL.imO κ F H G ft ds _ _ hn hl)
  | .nd t k ds, _, _, hn, h => by
    rw [PV.imO, Bool.and_eq_true] at hn
    have ht := of_decide_eq_true hn.1
    subst ht
    cases h with
    | ndO ha hs hl => exact .ndO ha hs (RepL.imO κ F H G ft ds _ _ hn.2 hl)
  | .pin _ _, _, _, hn, h => by rw [PV.imO] at hn; cases hn
  | .pack _ _, _, _, hn, h => by rw [PV.imO] at hn; cases hn
theorem RepL.imO {M : PySem.W.Frag} (κ : Kap M) (F H G : Hp) (ft : ∀ a vs, F a = some (.tup vs) → G a = some (.tup vs)) : ∀ (ds : List D) (vs : List V) (fp : List Addr), imOL ds = true → RepL κ F H ds vs fp → RepL κ G H ds vs fp
  | [], _, _, _, h => by cases h; exact .nil
  | d :: ds, _, _, hn, h => by
    rw [imOL, Bool.and_eq_true] at hn
    cases h with
    | cons h1 h2 => exact .cons (Rep.imO κ F H G ft d _ _ hn.1 h1) (RepL.imO κ F H G ft ds _ _ hn.2 h2)
end
end
abbrev Env := List (Option D)
structure SE (bb : Bool) {M : PySem.W.Frag} (κ : Kap M) (K F0 F : Hp) (env : Env) (φ : Nat → List Addr) (σ : L2.St) (H : Hp) : Prop where
  len : env.length = σ.length
  kk : Sm K H
  f0 : FF κ F0 F
  fh : Sub F H
  gr : ∀ a o, F a = some o → F0 a = some o ∨ K a = none ∨ IsTup' o
  sl : ∀ (i : Nat) (d : D), env[i]? = some (some d) → ∃ v, σ[i]? = some (some v) ∧ Rep κ F H d v (φ i) ∧ (bb = true → noT d = true)
  nd : ∀ i, (φ i).Nodup
  dj : ∀ i j, i ≠ j → ∀ a ∈ φ i, a ∉ φ j
  ow : ∀ i, ∀ a ∈ φ i, F a = none ∧ K a = none ∧ ∃ o, H a = some o ∧ ¬ IsTup' o
section
variable {bb : Bool} {M : PySem.W.Frag} {κ : Kap M} {K F0 F H F' H' : Hp} {env : Env} {φ : Nat → List Addr} {σ : L2.St}
theorem Ext.notF {a : Addr} {o : HO} (e : Ext F H F' H') (hf : F a = none) (ho : H a = some o) (nt : ¬ IsTup' o) : F' a = none := by
  cases q : F' a with
  | none => rfl
  | some u =>
    rcases e.gr a u q with h | h | h
    · rw [hf] at h; cases h
    · rw [ho] at h; cases h
    · exact (e.fh.notOwn q h (e.hh.at_ _ _ ho (nTb_of nt)) nt).elim
theorem SE.ext (S : SE bb κ K F0 F env φ σ H) (e : Ext F H F' H') : SE bb κ K F0 F' env φ σ H' := by
  refine ⟨S.len, S.kk.trans e.hh, S.f0.trans e.ff, e.fh, fun a o h => ?_, fun i d h => ?_, S.nd, S.dj, fun i a h => ?_⟩
  · rcases e.gr a o h with h | h | h
    · exact S.gr a o h
    · exact .inr (.inl (S.kk.free h))
    · exact .inr (.inr h)
  · obtain ⟨v, h1, h2, h3⟩ := S.sl i d h
    exact ⟨v, h1, h2.ext e, h3⟩
  · obtain ⟨h1, h2, o, h3, h4⟩ := S.ow i a h
    exact ⟨e.notF h1 h3 h4, h2, o, e.hh.at_ _ _ h3 (nTb_of h4), h4⟩
end
structure Exn where
  cls : Str
  ns : List Str
  ds : List D
inductive Res (α : Type) where
  | ok (a : α) | exc (x : Exn) | stuck
def Res.bind {α β : Type} (r : Res α) (f : α → Res β) : Res β := match r with
  | .ok a => f a
  | .exc x => .exc x
  | .stuck => .stuck
abbrev XRep := Hp → Exn → Value → Option Addr → Hp → Prop
structure Cfg (M : PySem.W.Frag) where
  κ : Kap M
  xr : XRep
  mono : ∀ {H H1 : Hp} {x : Exn} {cl : Value} {dd : Option Addr} {H' : Hp}, Sm H H1 → xr H1 x cl dd H' → xr H x cl dd H'
def PostV {M : PySem.W.Frag} (c : Cfg M) (E : XK) (F H : Hp) (r : Res D) (Q : VK) : Prop := match r with
  | .ok d => ∀ v H' F' fp, Ext F H F' H' → Rep c.κ F' H' d v fp → fp.Nodup → (∀ a ∈ fp, H a = none ∧ F' a = none) → Q v H'
  | .exc x => ∀ cl dd H', Sm H H' → c.xr H x cl dd H' → E cl dd H'
  | .stuck => False
def PostL {M : PySem.W.Frag} (c : Cfg M) (E : XK) (F H : Hp) (r : Res (List D)) (Q : List V → Hp → Prop) : Prop := match r with
  | .ok ds => ∀ vs H' F' fp, Ext F H F' H' → RepL c.κ F' H' ds vs fp → fp.Nodup → (∀ a ∈ fp, H a = none ∧ F' a = none) → Q vs H'
  | .exc x => ∀ cl dd H', Sm H H' → c.xr H x cl dd H' → E cl dd H'
  | .stuck => False
def PostB {M : PySem.W.Frag} (c : Cfg M) (E : XK) (F H : Hp) (r : Res Bool) (Q : Bool → Hp → Prop) : Prop := match r with
  | .ok b => ∀ H' F', Ext F H F' H' → Q b H'
  | .exc x => ∀ cl dd H', Sm H H' → c.xr H x cl dd H' → E cl dd H'
  | .stuck => False
def TV {M : PySem.W.Frag} (c : Cfg M) (E : XK) (f : Env → Res D) : TE := fun σ H Q => ∃ bb K F0 F env φ, SE bb c.κ K F0 F env φ σ H ∧ PostV c E F H (f env) Q
def TL {M : PySem.W.Frag} (c : Cfg M) (E : XK) (f : Env → Res (List D)) : TA := fun σ H Q => ∃ bb K F0 F env φ, SE bb c.κ K F0 F env φ σ H ∧ PostL c E F H (f env) Q
def TB {M : PySem.W.Frag} (c : Cfg M) (E : XK) (f : Env → Res Bool) : TT := fun σ H Q => ∃ bb K F0 F env φ, SE bb c.κ K F0 F env φ σ H ∧ PostB c E F H (f env) Q
def EV (X : Cx) (c : Cfg X.K) (E : XK) (e : Expr) (f : Env → Res D) : Prop := PE X e (TV c E f)
def EL (X : Cx) (c : Cfg X.K) (E : XK) (es : List Expr) (f : Env → Res (List D)) : Prop := PA X es (TL c E f)
def ET (X : Cx) (c : Cfg X.K) (E : XK) (e : Expr) (f : Env → Res Bool) : Prop := PT X e (TB c E f)
theorem PE.imp {X : Cx} {e : Expr} {t t' : TE} (h : PE X e t) (i : ∀ σ H Q, t' σ H Q → t σ H Q) : PE X e t' := ⟨fun pins s σ H Q I q => h.run pins s σ H Q I (i σ H Q q)⟩
theorem PA.imp {X : Cx} {e : List Expr} {t t' : TA} (h : PA X e t) (i : ∀ σ H Q, t' σ H Q → t σ H Q) : PA X e t' := ⟨fun pos pins s σ H Q I q => h.run pos pins s σ H Q I (i σ H Q q)⟩
theorem PT.imp {X : Cx} {e : Expr} {t t' : TT} (h : PT X e t) (i : ∀ σ H Q, t' σ H Q → t σ H Q) : PT X e t' := ⟨fun pins s σ H Q I q => h.run pins s σ H Q I (i σ H Q q)⟩
theorem PW.imp {X : Cx} {e : Expr} {t t' : TT} (h : PW X e t) (i : ∀ σ H Q, t' σ H Q → t σ H Q) : PW X e t' := ⟨fun w pins s σ H Q I q => h.run w pins s σ H Q I (i σ H Q q)⟩
theorem PS.imp {X : Cx} {e : Stmt} {t t' : TS} (h : PS X e t) (i : ∀ D σ H, t' D σ H → t D σ H) : PS X e t' := ⟨fun pins s σ H D I q => h.run pins s σ H D I (i D σ H q)⟩
theorem PSs.imp {X : Cx} {e : List Stmt} {t t' : TS} (h : PSs X e t) (i : ∀ D σ H, t' D σ H → t D σ H) : PSs X e t' := ⟨fun pins s σ H D I q => h.run pins s σ H D I (i D σ H q)⟩
section
variable {M : PySem.W.Frag} {c : Cfg M} {E : XK} {F H : Hp} {Q : VK}
theorem PostV.at_ {d : D} {v : V} (p : PostV c E F H (.ok d) Q) (fh : Sub F H) (r : Rep c.κ F H d v []) : Q v H := p v H F [] (.refl fh) r .nil (by simp)
theorem PostV.int {i : Int} (p : PostV c E F H (.ok (.int i)) Q) (fh : Sub F H) : Q (.int i) H := p.at_ fh (.int i)
theorem PostV.bl {i : Bool} (p : PostV c E F H (.ok (.bl i)) Q) (fh : Sub F H) : Q (.bl i) H := p.at_ fh (.bl i)
theorem PostV.str {i : Str} (p : PostV c E F H (.ok (.str i)) Q) (fh : Sub F H) : Q (.str i) H := p.at_ fh (.str i)
theorem PostV.non (p : PostV c E F H (.ok .non) Q) (fh : Sub F H) : Q .non H := p.at_ fh .non
theorem PostV.newO {k : Kind} {ds : List D} {vs : List V} {fp : List Addr} {p : Addr} {o : HO} (q : PostV c E F H (.ok (.nd .own k ds)) Q) (fh : Sub F H) (hp : H p = none) (ho : IsHO c.κ k vs o)
    (r : RepL c.κ F H ds vs fp) (nd : fp = []) : Q (.ref p) (upd H p o) := by
  subst nd
  refine q (.ref p) _ F [p] (.newO fh hp) (.ndO upd_same ho (r.ext (.newO fh hp))) (by simp) fun a ha => ?_
  have e : a = p := by simpa using ha
  subst e
  exact ⟨hp, fh.free hp⟩
end
section
variable {M : PySem.W.Frag} {c : Cfg M} {E : XK} {F H : Hp} {Q : VK}
theorem PostV.newF {ds : List D} {vs : List V} {p : Addr} (q : PostV c E F H (.ok (.tup ds)) Q) (fh : Sub F H) (hp : H p = none)
    (r : RepL c.κ F H ds vs []) : Q (.ref p) (upd H p (.tup vs)) :=
  q (.ref p) _ _ [] (.newF fh hp) (.tup upd_same (r.ext (.newF fh hp))) .nil (by simp)
end
section
variable {X : Cx} {c : Cfg X.K} {E : XK} {a b e : Expr} {es : List Expr} {f g : Env → Res D}
theorem glue1 {σ : L2.St} {H : Hp} {Q : VK} {R : V → Hp → Prop} {k : D → Res D} (h : TV c E (fun env => (f env).bind k) σ H Q)
    (step : ∀ F H1 d v fp, Sub F H1 → Rep c.κ F H1 d v fp → fp.Nodup → (∀ a ∈ fp, F a = none) → PostV c E F H1 (k d) Q → R v H1) : TV c E f σ H R := by
  obtain ⟨bb, K, F0, F, env, φ, S, p⟩ := h
  refine ⟨bb, K, F0, F, env, φ, S, ?_⟩
  cases q : f env with
  | ok d =>
    simp only [q, Res.bind] at p
    intro v H' F' fp x r nd fr
    refine step F' H' d v fp x.fh r nd (fun a m => (fr a m).2) ?_
    cases q2 : k d with
    | ok d' =>
      simp only [Res.bind, q2] at p
      intro v2 H2 F2 fp2 x2 r2 nd2 fr2
      exact p v2 H2 F2 fp2 (x.trans x2) r2 nd2 fun a m => ⟨x.hh.free (fr2 a m).1, (fr2 a m).2⟩
    | exc z =>
      simp only [Res.bind, q2] at p
      intro cl dd H2 s y
      exact p cl dd H2 (x.hh.trans s) (c.mono x.hh y)
    | stuck => simp only [Res.bind, q2] at p; exact p
  | exc z => simp only [q, Res.bind] at p; exact p
  | stuck => simp only [q, Res.bind] at p; exact p
theorem glue2 {σ : L2.St} {H : Hp} {Q : VK} {R : V → V → Hp → Prop} {k : D → D → Res D} (h : TV c E (fun env => (f env).bind fun x => (g env).bind fun y => k x y) σ H Q)
    (step : ∀ F H1 d1 d2 v1 v2 fp1 fp2, Sub F H1 → Rep c.κ F H1 d1 v1 fp1 → Rep c.κ F H1 d2 v2 fp2 → PostV c E F H1 (k d1 d2) Q → R v1 v2 H1) :
    TV c E f σ H fun v1 H1 => TV c E g σ H1 fun v2 H2 => R v1 v2 H2 := by
  obtain ⟨bb, K, F0, F, env, φ, S, p⟩ := h
  refine ⟨bb, K, F0, F, env, φ, S, ?_⟩
  cases q : f env with
  | ok d =>
    simp only [q, Res.bind] at p
    intro v H' F' fp x r nd fr
    refine ⟨bb, K, F0, F', env, φ, S.ext x, ?_⟩
    cases q1 : g env with
    | ok d' =>
      simp only [q1] at p
      intro v' H2 F2 fp' x' r' nd' fr'
      refine step F2 H2 d d' v v' fp fp' x'.fh (r.ext x') r' ?_
      cases q2 : k d d' with
      | ok d2 =>
        simp only [q2] at p
        intro v2 H3 F3 fp2 x2 r2 nd2 fr2
        exact p v2 H3 F3 fp2 ((x.trans x').trans x2) r2 nd2 fun a m => ⟨(x.trans x').hh.free (fr2 a m).1, (fr2 a m).2⟩
      | exc z =>
        simp only [q2] at p
        intro cl dd H3 s y
        exact p cl dd H3 ((x.trans x').hh.trans s) (c.mono (x.trans x').hh y)
      | stuck => simp only [q2] at p; exact p
    | exc z =>
      simp only [q1] at p
      intro cl dd H3 s y
      exact p cl dd H3 (x.hh.trans s) (c.mono x.hh y)
    | stuck => simp only [q1] at p; exact p
  | exc z => simp only [q, Res.bind] at p; exact p
  | stuck => simp only [q, Res.bind] at p; exact p
theorem el_nil : EL X c E [] (fun _ => .ok []) := PA.imp pa_nil fun σ H Q h => by
  obtain ⟨bb, K, F0, F, env, φ, S, p⟩ := h
  exact p [] H F [] (.refl S.fh) .nil .nil (by simp)
theorem el_cons {fs : Env → Res (List D)} (ha : EV X c E e f) (hb : EL X c E es fs) (hs : starEach (e :: es) X.env = (false, eval e X.env) :: starEach es X.env := by rfl) :
    EL X c E (e :: es) (fun env => (f env).bind fun d => (fs env).bind fun ds => .ok (d :: ds)) := PA.imp (pa_cons ha hb hs) fun σ H Q h => by
  obtain ⟨bb, K, F0, F, env, φ, S, p⟩ := h
  refine ⟨bb, K, F0, F, env, φ, S, ?_⟩
  cases q : f env with
  | ok d =>
    simp only [q, Res.bind] at p
    intro v H' F' fp x r nd fr
    refine ⟨bb, K, F0, F', env, φ, S.ext x, ?_⟩
    cases q1 : fs env with
    | ok ds =>
      simp only [q1] at p
      intro vs H2 F2 fp' x' r' nd' fr'
      refine p (v :: vs) H2 F2 (fp ++ fp') (x.trans x') (.cons (r.ext x') r') ?_ ?_
      · refine List.nodup_append.mpr ⟨nd, nd', fun a h1 b h2 z => ?_⟩
        subst z
        obtain ⟨o, h3, _⟩ := Rep.own _ _ _ _ _ _ r a h1
        have := (fr' a h2).1
        rw [h3] at this
        cases this
      · intro a h1
        rcases List.mem_append.mp h1 with h1 | h1
        · obtain ⟨o, h3, h4⟩ := Rep.own _ _ _ _ _ _ r a h1
          exact ⟨(fr a h1).1, x'.notF (fr a h1).2 h3 h4⟩
        · exact ⟨x.hh.free (fr' a h1).1, (fr' a h1).2⟩
    | exc z =>
      simp only [q1] at p
      intro cl dd H3 s y
      exact p cl dd H3 (x.hh.trans s) (c.mono x.hh y)
    | stuck => simp only [q1] at p; exact p
  | exc z => simp only [q, Res.bind] at p; exact p
  | stuck => simp only [q, Res.bind] at p; exact p
theorem glueL {σ : L2.St} {H : Hp} {Q : VK} {R : List V → Hp → Prop} {fs : Env → Res (List D)} {k : List D → Res D} (h : TV c E (fun env => (fs env).bind k) σ H Q)
    (step : ∀ F H1 ds vs fp, Sm H H1 → Sub F H1 → RepL c.κ F H1 ds vs fp → fp.Nodup → (∀ a ∈ fp, H a = none ∧ F a = none) → (∀ d' v' H2 F2 fp2, k ds = .ok d' → Ext F H1 F2 H2 → Rep c.κ F2 H2 d' v' fp2 → fp2.Nodup → (∀ a ∈ fp2, H a = none ∧ F2 a = none) → Q v' H2) →
      (∀ x, k ds = .exc x → ∀ cl dd H', Sm H1 H' → c.xr H1 x cl dd H' → E cl dd H') → k ds ≠ .stuck → R vs H1) : TL c E fs σ H R := by
  obtain ⟨bb, K, F0, F, env, φ, S, p⟩ := h
  refine ⟨bb, K, F0, F, env, φ, S, ?_⟩
  cases q : fs env with
  | ok d =>
    simp only [q, Res.bind] at p
    intro v H' F' fp x r nd fr
    refine step F' H' d v fp x.hh x.fh r nd fr ?_ ?_ ?_
    · intro d' v' H2 F2 fp2 ek x2 r2 nd2 fr2
      rw [ek] at p
      exact p v' H2 F2 fp2 (x.trans x2) r2 nd2 fr2
    · intro z ek cl dd H2 s y
      rw [ek] at p
      exact p cl dd H2 (x.hh.trans s) (c.mono x.hh y)
    · intro ek
      rw [ek] at p
      exact p
  | exc z => simp only [q, Res.bind] at p; exact p
  | stuck => simp only [q, Res.bind] at p; exact p
end
section
variable {M : PySem.W.Frag} {κ : Kap M} {F H : Hp}
theorem Rep.sqL {t : Tag} {ds : List D} {v : V} {fp : List Addr} (r : Rep κ F H (.nd t .lst ds) v fp) (fh : Sub F H) : ∃ a vs fq, v = .ref a ∧ SqL M H a vs ∧ RepL κ F H ds vs fq ∧ (fp = fq ∨ fp = a :: fq) := by
  cases r with
  | ndO ha hs hl => cases hs; exact ⟨_, _, _, rfl, .inl (.inl ha), hl, .inr rfl⟩
  | ndF ha hr hs hl =>
    cases hs
    refine ⟨_, _, _, rfl, ?_, hl, .inl rfl⟩
    rcases hr with rfl | ⟨_, ob, rfl⟩
    · exact .inl (.inl (fh _ _ ha))
    · exact .inl (.inr ⟨ob, fh _ _ ha⟩)
  | ndT ha hr hs hl =>
    cases hs
    refine ⟨_, _, _, rfl, ?_, hl, .inl rfl⟩
    rcases hr with rfl | ⟨_, ob, rfl⟩
    · exact .inl (.inl ha)
    · exact .inl (.inr ⟨ob, ha⟩)
  | ndK ha hl => exact ⟨_, _, _, rfl, .inr ha, hl, .inl rfl⟩
theorem Rep.sqT {ds : List D} {v : V} {fp : List Addr} (r : Rep κ F H (.tup ds) v fp) (fh : Sub F H) : ∃ a vs, v = .ref a ∧ F a = some (.tup vs) ∧ SqT M H a vs ∧ RepL κ F H ds vs fp := by
  cases r with
  | tup ha hl => exact ⟨_, _, rfl, ha, .inl (.inl (fh _ _ ha)), hl⟩
theorem RepL.append : ∀ {ds es : List D} {vs ws : List V} {fp fq : List Addr}, RepL κ F H ds vs fp → RepL κ F H es ws fq → RepL κ F H (ds ++ es) (vs ++ ws) (fp ++ fq)
  | _, _, _, _, _, _, .nil, s => s
  | _, _, _, _, _, _, .cons r t, s => by
    have := RepL.cons r (RepL.append t s)
    rw [← List.append_assoc] at this
    exact this
theorem RepL.get : ∀ {ds : List D} {vs : List V} {fp : List Addr} (i : Nat) (d : D), RepL κ F H ds vs fp → ds[i]? = some d → ∃ v fq, vs[i]? = some v ∧ Rep κ F H d v fq ∧ (∀ a ∈ fq, a ∈ fp) ∧ (fp.Nodup → fq.Nodup)
  | _, _, _, i, d, .nil, e => by simp at e
  | _, _, _, 0, d, .cons (fp := fa) (fq := fb) r t, e => by
    simp at e
    subst e
    exact ⟨_, _, rfl, r, fun a h => List.mem_append_left _ h, fun n => (List.nodup_append.mp n).1⟩
  | _, _, _, i + 1, d, .cons (fp := fa) (fq := fb) r t, e => by
    obtain ⟨v, fq, h1, h2, h3, h4⟩ := RepL.get i d t (by simpa using e)
    exact ⟨v, fq, by simpa using h1, h2, fun a h => List.mem_append_right _ (h3 a h), fun n => h4 (List.nodup_append.mp n).2.1⟩
theorem RepL.take : ∀ {ds : List D} {vs : List V} {fp : List Addr} (n : Nat), RepL κ F H ds vs fp → ∃ fq, RepL κ F H (ds.take n) (vs.take n) fq ∧ fq.Sublist fp
  | _, _, _, 0, r => ⟨[], by simpa using RepL.nil, List.nil_sublist _⟩
  | _, _, _, n + 1, .nil => ⟨[], by simpa using RepL.nil, List.nil_sublist _⟩
  | _, _, _, n + 1, .cons r t => by
    obtain ⟨fq, h1, h2⟩ := RepL.take n t
    exact ⟨_, .cons r h1, List.Sublist.append (List.Sublist.refl _) h2⟩
theorem RepL.drop : ∀ {ds : List D} {vs : List V} {fp : List Addr} (n : Nat), RepL κ F H ds vs fp → ∃ fq, RepL κ F H (ds.drop n) (vs.drop n) fq ∧ fq.Sublist fp
  | _, _, fp, 0, r => ⟨fp, by simpa using r, List.Sublist.refl _⟩
  | _, _, _, n + 1, .nil => ⟨[], by simpa using RepL.nil, List.nil_sublist _⟩
  | _, _, _, n + 1, .cons r t => by
    obtain ⟨fq, h1, h2⟩ := RepL.drop n t
    exact ⟨_, by simpa using h1, h2.trans (List.sublist_append_right _ _)⟩
end
section
variable {X : Cx} {c : Cfg X.K} {E : XK} {e a b : Expr} {f g : Env → Res D} {pos : Pos}
def eVar (i : Nat) : Env → Res D := fun env => match env[i]? with
  | some (some d) => .ok (rd d)
  | _ => .stuck
def eC (d : D) : Env → Res D := fun _ => .ok d
theorem ev_var (i : Nat) {x : Str} (hN : X.N[i]? = some x := by rfl) (hv : Vis X.env.scope x := by first | exact Or.inl rfl | exact Or.inr (Or.inl rfl) | exact Or.inr (Or.inr rfl)) (hd : (x == ("__debug__" : Str)) = false := by decide)
    (hcd : (x == ("__classdict__" : Str)) = false := by decide) : EV X c E (.Name x pos) (eVar i) := PE.imp (pe_var hN hv hd hcd) fun σ H Q h => by
  obtain ⟨bb, K, F0, F, env, φ, S, p⟩ := h
  unfold eVar at p
  split at p
  · rename_i d q
    obtain ⟨v, h1, h2, h3⟩ := S.sl i d q
    exact ⟨v, h1, p v H F [] (.refl S.fh) (h2.rd _ _ _ S.fh) .nil (by simp)⟩
  · exact p.elim
theorem ev_at {t : TE} {d : D} {v : V} (h : PE X e t) (hr : ∀ F H, Rep c.κ F H d v []) (ht : ∀ σ H Q, Q v H → t σ H Q) : EV X c E e (eC d) := PE.imp h fun σ H Q h => by
  obtain ⟨bb, K, F0, F, env, φ, S, p⟩ := h
  exact ht σ H Q (p.at_ S.fh (hr _ _))
theorem ev_int {i j} : EV X c E (.Constant (.int i) j pos) (eC (.int i)) := ev_at pe_int (fun _ _ => .int i) fun _ _ _ q => q
theorem ev_bl {i j} : EV X c E (.Constant (.bool i) j pos) (eC (.bl i)) := ev_at pe_bl (fun _ _ => .bl i) fun _ _ _ q => q
theorem ev_non {j} : EV X c E (.Constant .none j pos) (eC .non) := ev_at pe_non (fun _ _ => .non) fun _ _ _ q => q
theorem ev_str {i j} : EV X c E (.Constant (.str i) j pos) (eC (.str i)) := ev_at pe_str (fun _ _ => .str i) fun _ _ _ q => q
def bigL : Nat := 1000000
theorem bigL_line {n : Nat} (h : n ≤ bigL) : n ≤ sizeLine := by
  have : sizeLine = 16777216 := sizeLine_eq
  unfold bigL at h
  omega
def eTup (fs : Env → Res (List D)) : Env → Res D := fun env => (fs env).bind fun ds => if ds.length ≤ bigL then .ok (.tup ds) else .stuck
def eLst (fs : Env → Res (List D)) : Env → Res D := fun env => (fs env).bind fun ds => if ds.length ≤ bigL then .ok (.lst .own ds) else .stuck
theorem ev_tup {es : List Expr} {fs : Env → Res (List D)} {x1} (h : EL X c E es fs) : EV X c E (.Tuple es x1 pos) (eTup fs) := PE.imp (pe_tup h) fun σ H Q q => by
  refine glueL (k := fun ds => if ds.length ≤ bigL then .ok (.tup ds) else .stuck) q fun F H1 ds vs fp hh fh r nd fr ok ex st => ?_
  by_cases hl : ds.length ≤ bigL
  · rw [if_pos hl] at ok
    refine ⟨bigL_line (by rw [← r.length]; exact hl), fun p hp => ?_⟩
    have x : Ext F H1 (upd F p (.tup vs)) (upd H1 p (.tup vs)) := .newF fh hp
    refine ok _ _ _ _ fp rfl x (.tup upd_same (r.ext x)) nd fun a m => ⟨(fr a m).1, ?_⟩
    obtain ⟨o, h1, h2⟩ := RepL.own _ _ _ _ _ _ r a m
    exact x.notF (fr a m).2 h1 h2
  · exact absurd (if_neg hl) st
theorem ev_lst {es : List Expr} {fs : Env → Res (List D)} (h : EL X c E es fs) : EV X c E (.List es pos) (eLst fs) := PE.imp (pe_lst h) fun σ H Q q => by
  refine glueL (k := fun ds => if ds.length ≤ bigL then .ok (.lst .own ds) else .stuck) q fun F H1 ds vs fp hh fh r nd fr ok ex st => ?_
  by_cases hl : ds.length ≤ bigL
  · rw [if_pos hl] at ok
    refine ⟨bigL_line (by rw [← r.length]; exact hl), fun p hp => ?_⟩
    have x : Ext F H1 F (upd H1 p (.lst vs)) := .newO fh hp
    refine ok _ _ _ _ (p :: fp) rfl x (.ndO upd_same rfl (r.ext x)) (List.nodup_cons.mpr ⟨fun m => ?_, nd⟩) fun a m => ?_
    · obtain ⟨o, h1, h2⟩ := RepL.own _ _ _ _ _ _ r p m
      rw [hp] at h1
      cases h1
    · rcases List.mem_cons.mp m with rfl | m
      · exact ⟨hh.free hp, fh.free hp⟩
      · exact fr a m
  · exact absurd (if_neg hl) st
end
def Op2 {M : PySem.W.Frag} (c : Cfg M) (r : R2) (k : D → D → Res D) : Prop := ∀ (E : XK) (F H : Hp) (x y : D) (v u : V) (fx fy : List Addr) (Q : VK), Sub F H → Rep c.κ F H x v fx → Rep c.κ F H y u fy → PostV c E F H (k x y) Q → r v u H Q
def e2 (k : D → D → Res D) (f g : Env → Res D) : Env → Res D := fun env => (f env).bind fun x => (g env).bind fun y => k x y
def e1 (k : D → Res D) (f : Env → Res D) : Env → Res D := fun env => (f env).bind k
section
variable {X : Cx} {c : Cfg X.K} {E : XK} {e a b : Expr} {f g : Env → Res D} {pos : Pos}
theorem ev_op {op : Operator} {r : R2} {k : D → D → Res D} (ho : OpR X (binaryOp op) r) (hk : Op2 c r k) (ha : EV X c E a f) (hb : EV X c E b g) : EV X c E (.BinOp a op b pos) (e2 k f g) :=
  PE.imp (pe_op ho ha hb) fun σ H Q q => glue2 q fun F H1 d1 d2 v1 v2 fp1 fp2 fh r1 r2 p => hk E F H1 d1 d2 v1 v2 fp1 fp2 Q fh r1 r2 p
theorem ev_cmp {op : CmpOp} {r : R2} {k : D → D → Res D} (ho : OpR X (compareOp op) r) (hk : Op2 c r k) (ha : EV X c E a f) (hb : EV X c E b g) (hm : behindInMarks op b = false) : EV X c E (.Compare a [op] [b] pos) (e2 k f g) :=
  PE.imp (pe_cmpR ho ha hb hm) fun σ H Q q => glue2 q fun F H1 d1 d2 v1 v2 fp1 fp2 fh r1 r2 p => hk E F H1 d1 d2 v1 v2 fp1 fp2 Q fh r1 r2 p
theorem ev_ix {r : R2} {k : D → D → Res D} (ho : IxR X r) (hk : Op2 c r k) (ha : EV X c E a f) (hb : EV X c E b g) (hs : PlainIx b) : EV X c E (.Subscript a b pos) (e2 k f g) :=
  PE.imp (pe_ix ho ha hb hs) fun σ H Q q => glue2 q fun F H1 d1 d2 v1 v2 fp1 fp2 fh r1 r2 p => hk E F H1 d1 d2 v1 v2 fp1 fp2 Q fh r1 r2 p
end
def dI (k : Int → Int → Res D) : D → D → Res D := fun x y => match x, y with
  | .int i, .int j => k i j
  | _, _ => .stuck
theorem op2_I {M : PySem.W.Frag} {c : Cfg M} {C : Int → Int → Prop} [∀ i j, Decidable (C i j)] {g : Int → Int → Int} : Op2 c (rI C fun i j => .int (g i j)) (dI fun i j => if C i j then .ok (.int (g i j)) else .stuck) := by
  intro E F H x y v u fx fy Q fh rx ry p
  unfold dI at p
  split at p
  · rename_i i j
    cases rx
    cases ry
    dsimp only at p
    by_cases h : C i j
    · rw [if_pos h] at p
      exact ⟨_, _, rfl, rfl, h, p.int fh⟩
    · rw [if_neg h] at p
      exact p.elim
  · exact p.elim
theorem op2_I0 {M : PySem.W.Frag} {c : Cfg M} {g : Int → Int → Int} : Op2 c (rI0 fun i j => .int (g i j)) (dI fun i j => .ok (.int (g i j))) := by
  intro E F H x y v u fx fy Q fh rx ry p
  unfold dI at p
  split at p
  · cases rx
    cases ry
    exact ⟨_, _, rfl, rfl, p.int fh⟩
  · exact p.elim
theorem op2_B0 {M : PySem.W.Frag} {c : Cfg M} {g : Int → Int → Bool} : Op2 c (rI0 fun i j => .bl (g i j)) (dI fun i j => .ok (.bl (g i j))) := by
  intro E F H x y v u fx fy Q fh rx ry p
  unfold dI at p
  split at p
  · cases rx
    cases ry
    exact ⟨_, _, rfl, rfl, p.bl fh⟩
  · exact p.elim
section
variable {X : Cx} {c : Cfg X.K} {E : XK} {e a b : Expr} {f g : Env → Res D} {pos : Pos}
def OkDiv (_ j : Int) : Prop := 0 < j ∧ j.natAbs < 1073741824
def OkPow (i j : Int) : Prop := 0 ≤ j ∧ j.natAbs ≤ 1000000 ∧ i.natAbs < 18446744073709551616
def OkMul (i j : Int) : Prop := i.natAbs < 18446744073709551616 ∨ j.natAbs < 18446744073709551616
instance (i j : Int) : Decidable (OkDiv i j) := inferInstanceAs (Decidable (_ ∧ _))
instance (i j : Int) : Decidable (OkPow i j) := inferInstanceAs (Decidable (_ ∧ _ ∧ _))
instance (i j : Int) : Decidable (OkMul i j) := inferInstanceAs (Decidable (_ ∨ _))
theorem OkDiv.cOf {i j : Int} (h : OkDiv i j) : CDiv i j := by unfold OkDiv at h; unfold CDiv; omega
theorem OkPow.cOf {i j : Int} (h : OkPow i j) : CPow i j := by unfold OkPow at h; unfold CPow; omega
theorem OkMul.cOf {i j : Int} (h : OkMul i j) : CMul i j := by unfold OkMul at h; unfold CMul; omega
theorem op2_J {M : PySem.W.Frag} {c : Cfg M} {C C' : Int → Int → Prop} [∀ i j, Decidable (C' i j)] {g : Int → Int → Int} (q : ∀ i j, C' i j → C i j) : Op2 c (rI C fun i j => .int (g i j)) (dI fun i j => if C' i j then .ok (.int (g i j)) else .stuck) := by
  intro E F H x y v u fx fy Q fh rx ry p
  unfold dI at p
  split at p
  · rename_i i j
    cases rx
    cases ry
    dsimp only at p
    by_cases h : C' i j
    · rw [if_pos h] at p
      exact ⟨_, _, rfl, rfl, q _ _ h, p.int fh⟩
    · rw [if_neg h] at p
      exact p.elim
  · exact p.elim
abbrev dSub : D → D → Res D := dI fun i j => .ok (.int (i - j))
abbrev dMod : D → D → Res D := dI fun i j => if 0 < j then .ok (.int (i % j)) else .stuck
abbrev dDiv : D → D → Res D := dI fun i j => if OkDiv i j then .ok (.int (i / j)) else .stuck
abbrev dPow : D → D → Res D := dI fun i j => if OkPow i j then .ok (.int (i ^ j.toNat)) else .stuck
theorem ev_sub (ha : EV X c E a f) (hb : EV X c E b g) : EV X c E (.BinOp a .Sub b pos) (e2 dSub f g) := ev_op op_sub op2_I0 ha hb
theorem ev_mod (ha : EV X c E a f) (hb : EV X c E b g) : EV X c E (.BinOp a .Mod b pos) (e2 dMod f g) := ev_op op_mod op2_I ha hb
theorem ev_div (ha : EV X c E a f) (hb : EV X c E b g) : EV X c E (.BinOp a .FloorDiv b pos) (e2 dDiv f g) := ev_op op_fdiv (op2_J fun _ _ h => OkDiv.cOf h) ha hb
theorem ev_pow (ha : EV X c E a f) (hb : EV X c E b g) : EV X c E (.BinOp a .Pow b pos) (e2 dPow f g) := ev_op op_pow (op2_J fun _ _ h => OkPow.cOf h) ha hb
abbrev dLt : D → D → Res D := dI fun i j => .ok (.bl (decide (i < j)))
abbrev dLe : D → D → Res D := dI fun i j => .ok (.bl (decide (i ≤ j)))
abbrev dGt : D → D → Res D := dI fun i j => .ok (.bl (decide (j < i)))
abbrev dGe : D → D → Res D := dI fun i j => .ok (.bl (decide (j ≤ i)))
def dAdd : D → D → Res D
  | .int i, .int j => .ok (.int (i + j))
  | .str s, .str t => if s.length + t.length ≤ bigL then .ok (.str (s ++ t)) else .stuck
  | .nd _ .lst xs, .nd _ .lst ys => if xs.length + ys.length ≤ bigL then .ok (.lst .own (rdL (xs ++ ys))) else .stuck
  | .tup xs, .tup ys => if xs.length + ys.length ≤ bigL ∧ xs.length ≠ 0 ∧ ys.length ≠ 0 then .ok (.tup (rdL (xs ++ ys))) else .stuck
  | _, _ => .stuck
def rCatS (K : PySem.W.Frag) : R2 := fun x y H Q => ∃ l b xs zs, x = .ref l ∧ y = .ref b ∧ SqL K H l xs ∧ SqL K H b zs ∧ xs.length + zs.length ≤ sizeLine ∧ ∀ p, H p = none → Q (.ref p) (upd H p (.lst (xs ++ zs)))
theorem op_catS : OpR X (binaryOp .Add) (rCatS X.K) := by
  intro pins s σ H x y v u Q I rx ry h
  obtain ⟨l, b, xs, zs, rfl, rfl, hH, hB, hz, q⟩ := h
  cases rx
  cases ry
  obtain ⟨its, r, hl, z⟩ := I.list hH
  obtain ⟨its2, r2, hb, z2⟩ := I.list hB
  obtain ⟨⟨cls, dd, data, sl⟩, ho, hc, n, hd⟩ := id hl.isList
  obtain ⟨⟨cls2, dd2, data2, sl2⟩, ho2, hc2, n2, hd2⟩ := id hb.isList
  simp only at hc hd hc2 hd2
  subst hc hd hc2 hd2
  have e : its.toArray ++ its2.toArray = (its ++ its2).toArray := by simp
  refine concat_meets ⟨_, ho, rfl⟩ ⟨_, ho2, rfl⟩ noFill_list_add seq_list_add PySem.F.slot_list_add PySem.F.entry_list_add (PySem.F.args_list_add_2 _ _) (list_addW l b its.toArray its2.toArray n n2 dd dd2 sl sl2 (by have h1 := r.length; have h2 := r2.length; simp; omega)) ⟨ho, ho2, ?_⟩
  rw [e]
  exact ⟨.ref _, _, I.lnew (t' := s.toks) (r.append r2) (by rw [List.length_append]; omega), rfl, q _ I.fresh⟩
abbrev rAddD (K : PySem.W.Frag) : R2 := fun x y H Q => (rI0 fun i j => .int (i + j)) x y H Q ∨ ((∃ i j, x = .str i ∧ y = .str j ∧ i.length + j.length ≤ sizeLine ∧ Q (.str (i ++ j)) H) ∨ (rCatS K x y H Q ∨ rCatT K x y H Q))
theorem op_addD : OpR X (binaryOp .Add) (rAddD X.K) := OpR.or op_add (OpR.or op_add_str (OpR.or op_catS op_catT))
theorem op2_add : Op2 c (rAddD X.K) dAdd := by
  intro E F H x y v u fx fy Q fh rx ry p
  unfold dAdd at p
  split at p
  · cases rx
    cases ry
    exact .inl ⟨_, _, rfl, rfl, p.int fh⟩
  · rename_i s t
    cases rx
    cases ry
    by_cases h : s.length + t.length ≤ bigL
    · rw [if_pos h] at p
      exact .inr (.inl ⟨_, _, rfl, rfl, bigL_line h, p.str fh⟩)
    · rw [if_neg h] at p
      exact p.elim
  · rename_i xs _ ys
    by_cases h : xs.length + ys.length ≤ bigL
    · rw [if_pos h] at p
      obtain ⟨a1, vs, f1, rfl, l1, r1, e1⟩ := rx.sqL fh
      obtain ⟨a2, ws, f2, rfl, l2, r2, e2⟩ := ry.sqL fh
      refine .inr (.inr (.inl ⟨a1, a2, vs, ws, rfl, rfl, l1, l2, bigL_line (by rw [← r1.length, ← r2.length]; exact h), fun q hq => ?_⟩))
      exact p.newO fh hq rfl (RepL.rd _ _ _ fh _ _ _ (r1.append r2)) rfl
    · rw [if_neg h] at p
      exact p.elim
  · rename_i xs ys
    by_cases h : xs.length + ys.length ≤ bigL ∧ xs.length ≠ 0 ∧ ys.length ≠ 0
    · rw [if_pos h] at p
      obtain ⟨a1, vs, rfl, h1, l1, r1⟩ := rx.sqT fh
      obtain ⟨a2, ws, rfl, h2, l2, r2⟩ := ry.sqT fh
      have e1 := r1.length
      have e2 := r2.length
      refine .inr (.inr (.inr ⟨a1, a2, vs, ws, rfl, rfl, l1, l2, ?_, bigL_line (by omega), ?_, ?_⟩))
      · intro z
        subst z
        simp at e1
        simp [e1] at h
      · intro z
        subst z
        simp at e2
        simp [e2] at h
      · intro _ q hq
        exact p.newF fh hq (RepL.rd _ _ _ fh _ _ _ (r1.append r2))
    · rw [if_neg h] at p
      exact p.elim
  · exact p.elim
end
mutual
def toP : D → PyData
  | .non => .none
  | .bl b => .bool b
  | .int i => .int i
  | .str s => .str s
  | .tup ds => .tuple (toPL ds)
  | .nd _ .lst ds => .list (toPL ds)
  | .nd _ _ _ => .dict []
  | .pin _ _ => .dict []
  | .pack _ _ => .dict []
def toPL : List D → List PyData
  | [] => []
  | d :: ds => toP d :: toPL ds
end
mutual
theorem Rep.dp {M : PySem.W.Frag} (κ : Kap M) (F H : Hp) (fh : Sub F H) : ∀ (d : D) (v : V) (fp : List Addr), (toP d).canLay0 = true → Rep κ F H d v fp → Dp M H v (toP d)
  | .non, _, _, _, h => by cases h; exact .non
  | .bl _, _, _, _, h => by cases h; exact .bl _
  | .int _, _, _, _, h => by cases h; exact .int _
  | .str _, _, _, _, h => by cases h; exact .str _
  | .tup ds, _, _, hc, h => by
    obtain ⟨a, vs, rfl, _, h1, h2⟩ := h.sqT fh
    rw [toP] at hc ⊢
    exact .tup h1 (RepL.dp κ F H fh ds _ _ (by simpa [PyData.canLay0] using hc) h2)
  | .nd t .lst ds, _, _, hc, h => by
    obtain ⟨a, vs, fq, rfl, h1, h2, _⟩ := h.sqL fh
    rw [toP] at hc ⊢
    exact .lst h1 (RepL.dp κ F H fh ds _ _ (by simpa [PyData.canLay0] using hc) h2)
  | .nd t (.dic _) ds, _, _, hc, h => by simp [toP, PyData.canLay0] at hc
  | .nd t (.dit _) ds, _, _, hc, h => by simp [toP, PyData.canLay0] at hc
  | .nd t (.dil _) ds, _, _, hc, h => by simp [toP, PyData.canLay0] at hc
  | .nd t (.ins _ _) ds, _, _, hc, h => by simp [toP, PyData.canLay0] at hc
  | .nd t (.exc _) ds, _, _, hc, h => by simp [toP, PyData.canLay0] at hc
  | .nd t (.xdk _) ds, _, _, hc, h => by simp [toP, PyData.canLay0] at hc
  | .pin _ _, _, _, hc, h => by simp [toP, PyData.canLay0] at hc
  | .pack _ _, _, _, hc, h => by simp [toP, PyData.canLay0] at hc
theorem RepL.dp {M : PySem.W.Frag} (κ : Kap M) (F H : Hp) (fh : Sub F H) : ∀ (ds : List D) (vs : List V) (fp : List Addr), PyData.canLayAll0 (toPL ds) = true → RepL κ F H ds vs fp → DpAll M H vs (toPL ds)
  | [], _, _, _, h => by cases h; exact .nil
  | d :: ds, _, _, hc, h => by
    rw [toPL] at hc ⊢
    rw [PyData.canLayAll0, Bool.and_eq_true] at hc
    cases h with
    | cons h1 h2 => exact .cons (Rep.dp κ F H fh d _ _ hc.1 h1) (RepL.dp κ F H fh ds _ _ hc.2 h2)
end
def scalD : D → D → Bool
  | .non, .non => true | .non, .int _ => true | .int _, .non => true | .non, .bl _ => true | .bl _, .non => true | .non, .str _ => true | .str _, .non => true
  | .int _, .int _ => true | .bl _, .bl _ => true | .str _, .str _ => true
  | .int _, .str _ => true | .str _, .int _ => true | .bl _, .str _ => true | .str _, .bl _ => true
  | _, _ => false
def eqD (x y : D) : Bool := PyData.eqv (toP x) (toP y)
def eqOk (x y : D) : Bool := scalD x y || (SeqAt.shaped (toP x) && SeqAt.shaped (toP y))
def dEq (x y : D) : Res D := if eqOk x y = true then .ok (.bl (eqD x y)) else .stuck
def dNe (x y : D) : Res D := if eqOk x y = true then .ok (.bl (!eqD x y)) else .stuck
theorem scal_of {M : PySem.W.Frag} {κ : Kap M} {F H : Hp} {x y : D} {v u : V} {fx fy : List Addr} (rx : Rep κ F H x v fx) (ry : Rep κ F H y u fy) (h : scalD x y = true) : scal v u = true ∧ decide (v = u) = eqD x y := by
  cases x <;> cases y <;> first
    | (cases rx; cases ry; refine ⟨rfl, ?_⟩; simp [eqD, toP, PyData.eqv]; done)
    | (cases rx; cases ry; refine ⟨rfl, ?_⟩; rw [Bool.eq_iff_iff]; simp [eqD, toP, PyData.eqv]; done)
    | (exfalso; revert h; simp [scalD]; done)
abbrev rEqA (K : PySem.W.Frag) : R2 := fun x y H Q => rEq x y H Q ∨ rEqD K x y H Q
abbrev rNeA (K : PySem.W.Frag) : R2 := fun x y H Q => rNe x y H Q ∨ rNeD K x y H Q
theorem op2_eq {M : PySem.W.Frag} {c : Cfg M} : Op2 c (rEqA M) dEq := by
  intro E F H x y v u fx fy Q fh rx ry p
  unfold dEq at p
  by_cases h : eqOk x y = true
  · rw [if_pos h] at p
    cases hs : scalD x y with
    | true =>
      obtain ⟨h1, h2⟩ := scal_of rx ry hs
      refine .inl ⟨h1, ?_⟩
      rw [h2]
      exact p.bl fh
    | false =>
      unfold eqOk at h
      rw [hs, Bool.false_or, Bool.and_eq_true] at h
      exact .inr ⟨_, _, Rep.dp _ _ _ fh _ _ _ (SeqAt.canLay_of_shaped h.1) rx, Rep.dp _ _ _ fh _ _ _ (SeqAt.canLay_of_shaped h.2) ry, h.1, h.2, p.bl fh⟩
  · rw [if_neg h] at p
    exact p.elim
theorem op2_ne {M : PySem.W.Frag} {c : Cfg M} : Op2 c (rNeA M) dNe := by
  intro E F H x y v u fx fy Q fh rx ry p
  unfold dNe at p
  by_cases h : eqOk x y = true
  · rw [if_pos h] at p
    cases hs : scalD x y with
    | true =>
      obtain ⟨h1, h2⟩ := scal_of rx ry hs
      refine .inl ⟨h1, ?_⟩
      rw [h2]
      exact p.bl fh
    | false =>
      unfold eqOk at h
      rw [hs, Bool.false_or, Bool.and_eq_true] at h
      exact .inr ⟨_, _, Rep.dp _ _ _ fh _ _ _ (SeqAt.canLay_of_shaped h.1) rx, Rep.dp _ _ _ fh _ _ _ (SeqAt.canLay_of_shaped h.2) ry, h.1, h.2, p.bl fh⟩
  · rw [if_neg h] at p
    exact p.elim
section
variable {X : Cx} {c : Cfg X.K} {E : XK} {e a b : Expr} {f g : Env → Res D} {pos : Pos}
theorem ev_eq (hu : X.A.units + 64 < cLine) (ha : EV X c E a f) (hb : EV X c E b g) : EV X c E (.Compare a [.Eq] [b] pos) (e2 dEq f g) := ev_cmp (OpR.or op_eq (op_eqD hu)) op2_eq ha hb (nomark _)
theorem ev_add (ha : EV X c E a f) (hb : EV X c E b g) : EV X c E (.BinOp a .Add b pos) (e2 dAdd f g) := ev_op op_addD op2_add ha hb
def dMul : D → D → Res D
  | .int i, .int j => if OkMul i j then .ok (.int (i * j)) else .stuck
  | .nd .own .lst xs, .int k => if 0 ≤ k ∧ k ≤ 1000000 ∧ xs.length * k.toNat ≤ bigL then .ok (.lst .own (List.replicate k.toNat (rdL xs)).flatten) else .stuck
  | _, _ => .stuck
theorem RepL.rep {M : PySem.W.Frag} {κ : Kap M} {F H : Hp} {ds : List D} {vs : List V} (h : RepL κ F H ds vs []) : ∀ n : Nat, RepL κ F H (List.replicate n ds).flatten (List.replicate n vs).flatten []
  | 0 => by simpa using RepL.nil
  | n + 1 => by
    have := h.append (RepL.rep h n)
    simpa [List.replicate_succ] using this
theorem op2_mul {M : PySem.W.Frag} {c : Cfg M} : Op2 c (fun x y H Q => rI CMul (fun i j => .int (i * j)) x y H Q ∨ rRep x y H Q) dMul := by
  intro E F H x y v u fx fy Q fh rx ry p
  unfold dMul at p
  split at p
  · rename_i i j
    cases rx
    cases ry
    by_cases h : OkMul i j
    · rw [if_pos h] at p
      exact .inl ⟨_, _, rfl, rfl, h.cOf, p.int fh⟩
    · rw [if_neg h] at p
      exact p.elim
  · rename_i xs k
    cases ry
    by_cases h : 0 ≤ k ∧ k ≤ 1000000 ∧ xs.length * k.toNat ≤ bigL
    · rw [if_pos h] at p
      cases rx with
      | @ndO a _ _ vs fp o ha hs hl =>
        cases hs
        have e1 := hl.length
        refine .inr ⟨a, k, vs, rfl, rfl, ha, by omega, by omega, bigL_line (by rw [← e1]; exact h.2.2), fun q hq => ?_⟩
        exact p.newO fh hq rfl (RepL.rep (RepL.rd _ _ _ fh _ _ _ hl) _) rfl
    · rw [if_neg h] at p
      exact p.elim
  · exact p.elim
theorem ev_mul (ha : EV X c E a f) (hb : EV X c E b g) : EV X c E (.BinOp a .Mult b pos) (e2 dMul f g) := ev_op (OpR.or op_mul op_rep) op2_mul ha hb
def dNeg : D → Res D
  | .int i => .ok (.int (-i))
  | _ => .stuck
theorem ev_neg (ha : EV X c E a f) : EV X c E (.UnaryOp .USub a pos) (e1 dNeg f) := PE.imp (pe_un un_neg ha) fun σ H Q q => glue1 q fun F H1 d v fp fh r nd fr p => by
  unfold dNeg at p
  split at p
  · cases r
    exact ⟨_, rfl, p.int fh⟩
  · exact p.elim
def dIsN : D → Res D
  | .non => .ok (.bl true)
  | .pin _ _ => .stuck
  | .pack _ _ => .stuck
  | _ => .ok (.bl false)
def dNotN : D → Res D
  | .non => .ok (.bl false)
  | .pin _ _ => .stuck
  | .pack _ _ => .stuck
  | _ => .ok (.bl true)
theorem glueT {σ : L2.St} {H : Hp} {Q : Bool → Hp → Prop} {R : V → Hp → Prop} {k : D → Res Bool} (h : TB c E (fun env => (f env).bind k) σ H Q)
    (step : ∀ F H1 d v fp, Sub F H1 → Rep c.κ F H1 d v fp → (∀ b, k d = .ok b → Q b H1) → k d ≠ .stuck → (∀ x, k d = .exc x → ∀ cl dd H', Sm H1 H' → c.xr H1 x cl dd H' → E cl dd H') → R v H1) : TV c E f σ H R := by
  obtain ⟨bb, K, F0, F, env, φ, S, p⟩ := h
  refine ⟨bb, K, F0, F, env, φ, S, ?_⟩
  cases q : f env with
  | ok d =>
    simp only [q, Res.bind] at p
    intro v H' F' fp x r nd fr
    refine step F' H' d v fp x.fh r ?_ ?_ ?_
    · intro b e
      rw [e] at p
      exact p H' F' x
    · intro e
      rw [e] at p
      exact p
    · intro z e cl dd H2 s y
      rw [e] at p
      exact p cl dd H2 (x.hh.trans s) (c.mono x.hh y)
  | exc z => simp only [q, Res.bind] at p; exact p
  | stuck => simp only [q, Res.bind] at p; exact p
def tru : D → Res Bool
  | .non => .ok false
  | .bl b => .ok b
  | .int i => .ok (i != 0)
  | .tup ds => .ok (!ds.isEmpty)
  | .nd _ .lst ds => .ok (!ds.isEmpty)
  | _ => .stuck
def eT (f : Env → Res D) : Env → Res Bool := fun env => (f env).bind tru
theorem isEmpty_len {α β : Type} {xs : List α} {ys : List β} (h : xs.length = ys.length) : xs.isEmpty = ys.isEmpty := by
  cases xs <;> cases ys <;> simp at h ⊢
theorem et_tru (ha : EV X c E a f) (he : ∀ whole, isTrue a X.env whole = (do let v ← whole; standAt a.pos; holding [v] (truthy v)) := by intro _; rfl) : ET X c E a (eT f) := PT.imp (pt_truth ha he) fun σ H Q q => by
  refine glueT q fun F H1 d v fp fh r ok st ex => ?_
  cases d with
  | non => cases r; exact ⟨false, rfl, ok _ rfl⟩
  | bl b => cases r; exact ⟨b, rfl, ok _ rfl⟩
  | int i => cases r; exact ⟨_, rfl, ok _ rfl⟩
  | str i => exact absurd rfl st
  | pin j d => exact absurd rfl st
  | pack d cs => exact absurd rfl st
  | tup ds =>
    obtain ⟨a, vs, rfl, _, h1, h2⟩ := r.sqT fh
    refine ⟨!vs.isEmpty, .inr (.inl ⟨vs, h1, rfl⟩), ?_⟩
    rw [← isEmpty_len h2.length]
    exact ok _ rfl
  | nd t k ds =>
    cases k with
    | lst =>
      obtain ⟨a, vs, fq, rfl, h1, h2, _⟩ := r.sqL fh
      refine ⟨!vs.isEmpty, .inl ⟨vs, h1, rfl⟩, ?_⟩
      rw [← isEmpty_len h2.length]
      exact ok _ rfl
    | _ => exact absurd rfl st
def asB : D → Res Bool
  | .bl b => .ok b
  | _ => .stuck
def eB (f : Env → Res D) : Env → Res Bool := fun env => (f env).bind asB
theorem glueB {σ : L2.St} {H : Hp} {Q : Bool → Hp → Prop} (q : TB c E (eB f) σ H Q) : TV c E f σ H (fun x H1 => ∃ k, x = .bl k ∧ Q k H1) := by
  refine glueT q fun F H1 d v fp fh r ok st ex => ?_
  cases d with
  | bl b => cases r; exact ⟨b, rfl, ok _ rfl⟩
  | _ => exact absurd rfl st
theorem et_cmp {op : CmpOp} {r : R2} {k : D → D → Res D} (ho : OpR X (compareOp op) r) (hk : Op2 c r k) (ha : EV X c E a f) (hb : EV X c E b g) (hm : behindInMarks op b = false) : ET X c E (.Compare a [op] [b] pos) (eB (e2 k f g)) :=
  PT.imp (pt_cmpR ho ha hb hm) fun σ H Q q => glue2 (k := k) (glueB q) fun F H1 d1 d2 v1 v2 fp1 fp2 fh r1 r2 p => hk E F H1 d1 d2 v1 v2 fp1 fp2 _ fh r1 r2 p
theorem et_lt (ha : EV X c E a f) (hb : EV X c E b g) : ET X c E (.Compare a [.Lt] [b] pos) (eB (e2 dLt f g)) := et_cmp op_lt op2_B0 ha hb (nomark _)
theorem et_gt (ha : EV X c E a f) (hb : EV X c E b g) : ET X c E (.Compare a [.Gt] [b] pos) (eB (e2 dGt f g)) := et_cmp op_gt op2_B0 ha hb (nomark _)
theorem et_eq (hu : X.A.units + 64 < cLine) (ha : EV X c E a f) (hb : EV X c E b g) : ET X c E (.Compare a [.Eq] [b] pos) (eB (e2 dEq f g)) := et_cmp (OpR.or op_eq (op_eqD hu)) op2_eq ha hb (nomark _)
theorem et_ne (hu : X.A.units + 64 < cLine) (ha : EV X c E a f) (hb : EV X c E b g) : ET X c E (.Compare a [.NotEq] [b] pos) (eB (e2 dNe f g)) := et_cmp (OpR.or op_ne (op_neD hu)) op2_ne ha hb (nomark _)
theorem et_isN {j pos'} (ha : EV X c E a f) : ET X c E (.Compare a [.Is] [.Constant .none j pos'] pos) (eB (e1 dIsN f)) := PT.imp (pt_cmp (pc_isN ha)) fun σ H Q q => glue1 (k := dIsN) (glueB q) fun F H1 d v fp fh r nd fr p => by
  cases r <;> first | exact p.bl fh | exact p.elim
theorem et_notN {j pos'} (ha : EV X c E a f) : ET X c E (.Compare a [.IsNot] [.Constant .none j pos'] pos) (eB (e1 dNotN f)) := PT.imp (pt_cmp (pc_notN ha)) fun σ H Q q => glue1 (k := dNotN) (glueB q) fun F H1 d v fp fh r nd fr p => by
  cases r <;> first | exact p.bl fh | exact p.elim
def bAnd (f g : Env → Res Bool) : Env → Res Bool := fun env => (f env).bind fun b => if b = true then g env else .ok false
def bOr (f g : Env → Res Bool) : Env → Res Bool := fun env => (f env).bind fun b => if b = true then .ok true else g env
def bNot (f : Env → Res Bool) : Env → Res Bool := fun env => (f env).bind fun b => .ok (!b)
def EW (X : Cx) (c : Cfg X.K) (E : XK) (e : Expr) (f : Env → Res Bool) : Prop := PW X e (TB c E f)
variable {p q : Env → Res Bool} {rest : List Expr}
theorem glueBB {σ : L2.St} {H : Hp} {Q : Bool → Hp → Prop} {k : Bool → Env → Res Bool} {R : Bool → Hp → Prop} (h : TB c E (fun env => (p env).bind fun b => k b env) σ H Q)
    (step : ∀ bb K F0 F env φ b H1, SE bb c.κ K F0 F env φ σ H1 → PostB c E F H1 (k b env) Q → R b H1) : TB c E p σ H R := by
  obtain ⟨bb, K, F0, F, env, φ, S, h⟩ := h
  refine ⟨bb, K, F0, F, env, φ, S, ?_⟩
  cases z : p env with
  | ok b =>
    simp only [z, Res.bind] at h
    intro H' F' x
    refine step bb K F0 F' env φ b H' (S.ext x) ?_
    cases z2 : k b env with
    | ok b2 =>
      rw [z2] at h
      intro H2 F2 x2
      exact h H2 F2 (x.trans x2)
    | exc y =>
      rw [z2] at h
      intro cl dd H2 s w
      exact h cl dd H2 (x.hh.trans s) (c.mono (x.hh) w)
    | stuck => rw [z2] at h; exact h
  | exc y => simp only [z, Res.bind] at h; exact h
  | stuck => simp only [z, Res.bind] at h; exact h
theorem ew_and1 (ha : ET X c E a p) : EW X c E (.BoolOp .And [a] pos) p := pw_and1 ha
theorem ew_or1 (ha : ET X c E a p) : EW X c E (.BoolOp .Or [a] pos) p := pw_or1 ha
theorem ew_and (ha : ET X c E a p) (hb : EW X c E (.BoolOp .And (b :: rest) pos) q) : EW X c E (.BoolOp .And (a :: b :: rest) pos) (bAnd p q) := PW.imp (pw_and ha hb) fun σ H Q h =>
  glueBB (k := fun b env => if b = true then q env else .ok false) h fun bb K F0 F env φ b H1 S h => by
    cases b with
    | true => rw [if_pos rfl] at h ⊢; exact ⟨bb, K, F0, F, env, φ, S, h⟩
    | false => rw [if_neg Bool.false_ne_true] at h ⊢; exact h H1 F (.refl S.fh)
theorem ew_or (ha : ET X c E a p) (hb : EW X c E (.BoolOp .Or (b :: rest) pos) q) : EW X c E (.BoolOp .Or (a :: b :: rest) pos) (bOr p q) := PW.imp (pw_or ha hb) fun σ H Q h =>
  glueBB (k := fun b env => if b = true then .ok true else q env) h fun bb K F0 F env φ b H1 S h => by
    cases b with
    | true => rw [if_pos rfl] at h ⊢; exact h H1 F (.refl S.fh)
    | false => rw [if_neg Bool.false_ne_true] at h ⊢; exact ⟨bb, K, F0, F, env, φ, S, h⟩
theorem et_w (h : EW X c E e p) : ET X c E e p := h.pt
theorem et_not (ha : ET X c E a p) : ET X c E (.UnaryOp .Not a pos) (bNot p) := PT.imp (pt_not ha) fun σ H Q h =>
  glueBB (k := fun b _ => .ok (!b)) h fun bb K F0 F env φ b H1 S h => h H1 F (.refl S.fh)
def eIf (p : Env → Res Bool) (f g : Env → Res D) : Env → Res D := fun env => (p env).bind fun b => if b = true then f env else g env
theorem glueBV {σ : L2.St} {H : Hp} {Q : VK} {k : Bool → Env → Res D} {R : Bool → Hp → Prop} (h : TV c E (fun env => (p env).bind fun b => k b env) σ H Q)
    (step : ∀ bb K F0 F env φ b H1, SE bb c.κ K F0 F env φ σ H1 → PostV c E F H1 (k b env) Q → R b H1) : TB c E p σ H R := by
  obtain ⟨bb, K, F0, F, env, φ, S, h⟩ := h
  refine ⟨bb, K, F0, F, env, φ, S, ?_⟩
  cases z : p env with
  | ok b =>
    simp only [z, Res.bind] at h
    intro H' F' x
    refine step bb K F0 F' env φ b H' (S.ext x) ?_
    cases z2 : k b env with
    | ok b2 =>
      rw [z2] at h
      intro v H2 F2 fp x2 r nd fr
      exact h v H2 F2 fp (x.trans x2) r nd fun a m => ⟨x.hh.free (fr a m).1, (fr a m).2⟩
    | exc y =>
      rw [z2] at h
      intro cl dd H2 s w
      exact h cl dd H2 (x.hh.trans s) (c.mono (x.hh) w)
    | stuck => rw [z2] at h; exact h
  | exc y => simp only [z, Res.bind] at h; exact h
  | stuck => simp only [z, Res.bind] at h; exact h
theorem ev_if {t : Expr} (hc : ET X c E t p) (ha : EV X c E a f) (hb : EV X c E b g) : EV X c E (.IfExp t a b pos) (eIf p f g) := PE.imp (pe_ifExp hc ha hb) fun σ H Q h =>
  glueBV (k := fun b env => if b = true then f env else g env) h fun bb K F0 F env φ b H1 S h => by
    cases b with
    | true => rw [if_pos rfl] at h ⊢; exact ⟨bb, K, F0, F, env, φ, S, h⟩
    | false => rw [if_neg Bool.false_ne_true] at h ⊢; exact ⟨bb, K, F0, F, env, φ, S, h⟩
def eAnd (f g : Env → Res D) : Env → Res D := fun env => (f env).bind fun d => (asB d).bind fun b => if b = true then g env else .ok (.bl false)
theorem glueVV {σ : L2.St} {H : Hp} {Q : VK} {k : D → Env → Res D} {R : V → Hp → Prop} (h : TV c E (fun env => (f env).bind fun b => k b env) σ H Q)
    (step : ∀ bb K F0 F env φ d v fp H1, SE bb c.κ K F0 F env φ σ H1 → Rep c.κ F H1 d v fp → PostV c E F H1 (k d env) Q → R v H1) : TV c E f σ H R := by
  obtain ⟨bb, K, F0, F, env, φ, S, h⟩ := h
  refine ⟨bb, K, F0, F, env, φ, S, ?_⟩
  cases z : f env with
  | ok b =>
    simp only [z, Res.bind] at h
    intro v H' F' fp x r nd fr
    refine step bb K F0 F' env φ b v fp H' (S.ext x) r ?_
    cases z2 : k b env with
    | ok b2 =>
      rw [z2] at h
      intro v H2 F2 fp x2 r nd fr
      exact h v H2 F2 fp (x.trans x2) r nd fun a m => ⟨x.hh.free (fr a m).1, (fr a m).2⟩
    | exc y =>
      rw [z2] at h
      intro cl dd H2 s w
      exact h cl dd H2 (x.hh.trans s) (c.mono (x.hh) w)
    | stuck => rw [z2] at h; exact h
  | exc y => simp only [z, Res.bind] at h; exact h
  | stuck => simp only [z, Res.bind] at h; exact h
theorem ev_one {op} (h : EV X c E a f) : EV X c E (.BoolOp op [a] pos) f := pe_one h
theorem ev_and (ha : EV X c E a f) (hb : EV X c E (.BoolOp .And (b :: rest) pos) g) : EV X c E (.BoolOp .And (a :: b :: rest) pos) (eAnd f g) := PE.imp (pe_and ha hb) fun σ H Q h =>
  glueVV (k := fun d env => (asB d).bind fun b => if b = true then g env else .ok (.bl false)) h fun bb K F0 F env φ d v fp H1 S r h => by
    cases d with
    | bl b =>
      cases r
      refine ⟨b, rfl, ?_⟩
      cases b with
      | true => rw [if_pos rfl]; exact ⟨bb, K, F0, F, env, φ, S, h⟩
      | false => rw [if_neg Bool.false_ne_true]; exact PostV.bl h S.fh
    | _ => exact h.elim
end
section
variable {X : Cx} {c : Cfg X.K} {E : XK} {e a b : Expr} {f g : Env → Res D} {pos : Pos}
def flatD : D → Bool
  | .non => true | .bl _ => true | .int _ => true | .str _ => true
  | _ => false
def inL (x : D) (ys : List D) : Bool := ys.any fun y => eqD y x
def dIn : D → D → Res Bool
  | x, .nd _ .lst ys => if flatD x && ys.all flatD then .ok (inL x ys) else .stuck
  | x, .tup ys => if flatD x && ys.all flatD then .ok (inL x ys) else .stuck
  | .str s, .str z => .ok (!(Builtin.Str.occurrences z s 0 z.length 1).isEmpty)
  | _, _ => .stuck
theorem flat_rep {M : PySem.W.Frag} {κ : Kap M} {F H : Hp} {d : D} {v : V} {fp : List Addr} (r : Rep κ F H d v fp) (h : flatD d = true) : flatV v = true := by
  cases r <;> first | rfl | (simp [flatD] at h)
theorem flat_eq {M : PySem.W.Frag} {κ : Kap M} {F H : Hp} {d e : D} {v u : V} {fp fq : List Addr} (r : Rep κ F H d v fp) (q : Rep κ F H e u fq) (h : flatD d = true) (h' : flatD e = true) : eqV v u = eqD d e := by
  cases r <;> cases q <;> first
    | (simp [flatD] at h; done)
    | (simp [flatD] at h'; done)
    | rfl
theorem flat_all {M : PySem.W.Frag} {κ : Kap M} {F H : Hp} {x : D} {v : V} {fx : List Addr} (rx : Rep κ F H x v fx) (hx : flatD x = true) : ∀ {ds : List D} {vs : List V} {fp : List Addr}, RepL κ F H ds vs fp → ds.all flatD = true → vs.all flatV = true ∧ inV v vs = inL x ds
  | _, _, _, .nil, _ => ⟨rfl, rfl⟩
  | _, _, _, .cons r t, h => by
    rw [List.all_cons, Bool.and_eq_true] at h
    obtain ⟨h1, h2⟩ := flat_all rx hx t h.2
    refine ⟨by rw [List.all_cons, flat_rep r h.1, h1]; rfl, ?_⟩
    unfold inV inL at h2 ⊢
    rw [List.any_cons, List.any_cons, h2, flat_eq r rx h.1 hx]
abbrev rInA (K : PySem.W.Frag) (n : Bool) : R2 := fun x y H Q => rIn K n x y H Q ∨ ∃ i j, x = .str i ∧ y = .str j ∧ Q (.bl (if n then !(!(Builtin.Str.occurrences j i 0 j.length 1).isEmpty) else (!(Builtin.Str.occurrences j i 0 j.length 1).isEmpty))) H
theorem dIn_ok {F H : Hp} {x y : D} {v u : V} {fx fy : List Addr} {b : Bool} (fh : Sub F H) (rx : Rep c.κ F H x v fx) (ry : Rep c.κ F H y u fy) (e : dIn x y = .ok b) (n : Bool) (Q : VK) (q : Q (.bl (if n then !b else b)) H) : rInA X.K n v u H Q := by
  unfold dIn at e
  split at e
  · rename_i t ys
    by_cases h : (flatD x && ys.all flatD) = true
    · rw [if_pos h] at e
      cases e
      rw [Bool.and_eq_true] at h
      obtain ⟨a, vs, fq, rfl, h1, h2, _⟩ := ry.sqL fh
      obtain ⟨h3, h4⟩ := flat_all rx h.1 h2 h.2
      refine .inl ⟨a, vs, rfl, .inl h1, flat_rep rx h.1, h3, ?_⟩
      rw [h4]
      exact q
    · rw [if_neg h] at e
      cases e
  · rename_i ys
    by_cases h : (flatD x && ys.all flatD) = true
    · rw [if_pos h] at e
      cases e
      rw [Bool.and_eq_true] at h
      obtain ⟨a, vs, rfl, _, h1, h2⟩ := ry.sqT fh
      obtain ⟨h3, h4⟩ := flat_all rx h.1 h2 h.2
      refine .inl ⟨a, vs, rfl, .inr h1, flat_rep rx h.1, h3, ?_⟩
      rw [h4]
      exact q
    · rw [if_neg h] at e
      cases e
  · cases rx
    cases ry
    cases e
    exact .inr ⟨_, _, rfl, rfl, q⟩
  · cases e
theorem op2_inA {n : Bool} : Op2 c (rInA X.K n) (fun x y => (dIn x y).bind fun b => .ok (.bl (if n then !b else b))) := by
  intro E F H x y v u fx fy Q fh rx ry p
  dsimp only at p
  cases h : dIn x y with
  | ok b => 
    rw [h] at p
    exact dIn_ok fh rx ry h n Q (PostV.bl p fh)
  | exc z =>
    exfalso
    unfold dIn at h
    split at h <;> (try split at h) <;> cases h
  | stuck => rw [h] at p; exact p.elim
theorem op_inA : OpR X (compareOp .In) (rInA X.K false) := OpR.or op_in_seq op_in_str
theorem op_notInA : OpR X (compareOp .NotIn) (rInA X.K true) := OpR.or op_notIn_seq op_notIn_str
theorem et_in (ha : EV X c E a f) (hb : EV X c E b g) (hm : behindInMarks .In b = false := by rfl) : ET X c E (.Compare a [.In] [b] pos) (eB (e2 (fun x y => (dIn x y).bind fun b => .ok (.bl (if false = true then !b else b))) f g)) := et_cmp op_inA op2_inA ha hb hm
theorem et_notIn (ha : EV X c E a f) (hb : EV X c E b g) (hm : behindInMarks .NotIn b = false := by rfl) : ET X c E (.Compare a [.NotIn] [b] pos) (eB (e2 (fun x y => (dIn x y).bind fun b => .ok (.bl (if true = true then !b else b))) f g)) := et_cmp op_notInA op2_inA ha hb hm
def ofO {α : Type} : Option α → Res α
  | some a => .ok a
  | none => .stuck
def dIx : D → D → Res D
  | .nd _ .lst xs, .int i => (ofO (atI xs i)).bind fun d => .ok (rd d)
  | .tup xs, .int i => (ofO (atI xs i)).bind fun d => .ok (rd d)
  | .str z, .int i => if z.length ≤ bigL then (ofO (atI z.cps.toList i)).bind fun k => .ok (.str ⟨#[k]⟩) else .stuck
  | _, _ => .stuck
theorem RepL.atI {M : PySem.W.Frag} {κ : Kap M} {F H : Hp} {ds : List D} {vs : List V} {fp : List Addr} {i : Int} {d : D} (r : RepL κ F H ds vs fp) (h : L2.atI ds i = some d) : ∃ v fq, L2.atI vs i = some v ∧ Rep κ F H d v fq := by
  unfold L2.atI at h ⊢
  rw [r.length] at h
  cases q : ixN vs.length i with
  | none => rw [q] at h; cases h
  | some j =>
    rw [q] at h
    obtain ⟨v, fq, h1, h2, _⟩ := r.get j d h
    exact ⟨v, fq, h1, h2⟩
theorem op2_ix : Op2 c (rIx X.K) dIx := by
  intro E F H x y v u fx fy Q fh rx ry p
  unfold dIx at p
  split at p
  · rename_i t xs i
    cases ry
    cases q : atI xs i with
    | none => rw [q] at p; exact p.elim
    | some d =>
      rw [q] at p
      obtain ⟨a, vs, fq, rfl, h1, h2, _⟩ := rx.sqL fh
      obtain ⟨v, fq, h3, h4⟩ := h2.atI q
      exact .inl ⟨a, vs, i, v, rfl, rfl, h1, h3, PostV.at_ p fh (h4.rd _ _ _ fh)⟩
  · rename_i xs i
    cases ry
    cases q : atI xs i with
    | none => rw [q] at p; exact p.elim
    | some d =>
      rw [q] at p
      obtain ⟨a, vs, rfl, _, h1, h2⟩ := rx.sqT fh
      obtain ⟨v, fq, h3, h4⟩ := h2.atI q
      exact .inr (.inl ⟨a, vs, i, v, rfl, rfl, h1, h3, PostV.at_ p fh (h4.rd _ _ _ fh)⟩)
  · rename_i z i
    cases rx
    cases ry
    by_cases h : z.length ≤ bigL
    · rw [if_pos h] at p
      cases q : atI z.cps.toList i with
      | none => rw [q] at p; exact p.elim
      | some d =>
        rw [q] at p
        exact .inr (.inr ⟨z, i, d, rfl, rfl, bigL_line h, q, PostV.str p fh⟩)
    · rw [if_neg h] at p
      exact p.elim
  · exact p.elim
theorem ev_sub_ (ha : EV X c E a f) (hb : EV X c E b g) (hs : PlainIx b := by intro _ _; rfl) : EV X c E (.Subscript a b pos) (e2 dIx f g) := ev_ix ix_seq op2_ix ha hb hs
def EO (X : Cx) (c : Cfg X.K) (E : XK) (e : Option Expr) (f : Env → Res (Option Int)) : Prop := PO X e (fun σ H Q => ∃ bb K F0 F env φ, SE bb c.κ K F0 F env φ σ H ∧ match f env with
  | .ok o => ∀ H' F', Ext F H F' H' → Q o H'
  | .exc x => ∀ cl dd H', Sm H H' → c.xr H x cl dd H' → E cl dd H'
  | .stuck => False)
def oNo : Env → Res (Option Int) := fun _ => .ok none
def oInt : D → Res (Option Int)
  | .int i => .ok (some i)
  | _ => .stuck
def oSome (f : Env → Res D) : Env → Res (Option Int) := fun env => (f env).bind oInt
theorem PO.imp {e : Option Expr} {t t' : TO} (h : PO X e t) (i : ∀ σ H Q, t' σ H Q → t σ H Q) : PO X e t' := by
  exact ⟨fun pins s σ H Q I q => h.run pins s σ H Q I (i σ H Q q)⟩
theorem eo_none : EO X c E none oNo := PO.imp po_none fun σ H Q h => by
  obtain ⟨bb, K, F0, F, env, φ, S, p⟩ := h
  exact p H F (.refl S.fh)
theorem eo_some (h : EV X c E a f) : EO X c E (some a) (oSome f) := PO.imp (po_some h) fun σ H Q h => by
  obtain ⟨bb, K, F0, F, env, φ, S, p⟩ := h
  refine ⟨bb, K, F0, F, env, φ, S, ?_⟩
  unfold oSome at p
  cases q : f env with
  | ok d =>
    simp only [q, Res.bind] at p
    intro v H' F' fp x r nd fr
    cases d with
    | int i => cases r; exact ⟨i, rfl, p H' F' x⟩
    | _ => exact p.elim
  | exc z => simp only [q, Res.bind] at p; exact p
  | stuck => simp only [q, Res.bind] at p
def cutL {α : Type} (xs : List α) (lo hi : Option Int) : List α := (xs.drop (HT.sIx xs.length 0 lo)).take (HT.sIx xs.length xs.length hi - HT.sIx xs.length 0 lo)
def dSl : D → Option Int → Option Int → Res D
  | .nd _ .lst xs, lo, hi => .ok (.lst .own (rdL (cutL xs lo hi)))
  | .str z, lo, hi => if z.length ≤ bigL then .ok (.str (cutS z lo hi)) else .stuck
  | .tup xs, lo, hi => if (cutL xs lo hi).length < xs.length ∧ (cutL xs lo hi).length ≠ 0 then .ok (.tup (rdL (cutL xs lo hi))) else .stuck
  | _, _, _ => .stuck
abbrev rSlA (K : PySem.W.Frag) : V → Option Int → Option Int → Hp → VK → Prop := fun x lo hi H Q => rSlL K x lo hi H Q ∨ (rSlS x lo hi H Q ∨ rSlT K x lo hi H Q)
theorem sl_all : SlR X (rSlA X.K) := SlR.or sl_list (SlR.or sl_str sl_tup)
theorem RepL.cut {M : PySem.W.Frag} {κ : Kap M} {F H : Hp} {ds : List D} {vs : List V} {fp : List Addr} (r : RepL κ F H ds vs fp) (lo hi : Option Int) : ∃ fq, RepL κ F H (cutL ds lo hi) (cutV vs lo hi) fq := by
  unfold cutL cutV
  rw [r.length]
  obtain ⟨fq, h1, _⟩ := r.drop (HT.sIx vs.length 0 lo)
  obtain ⟨fr, h2, _⟩ := h1.take (HT.sIx vs.length vs.length hi - HT.sIx vs.length 0 lo)
  exact ⟨fr, h2⟩
def eSl (f : Env → Res D) (l h : Env → Res (Option Int)) : Env → Res D := fun env => (f env).bind fun d => (l env).bind fun lo => (h env).bind fun hi => dSl d lo hi
theorem dSl_ok {F H : Hp} {x : D} {v : V} {fx : List Addr} {lo hi : Option Int} {Q : VK} (fh : Sub F H) (rx : Rep c.κ F H x v fx) (p : PostV c E F H (dSl x lo hi) Q) : rSlA X.K v lo hi H Q := by
  unfold dSl at p
  split at p
  · rename_i t xs
    obtain ⟨a, vs, fq, rfl, h1, h2, _⟩ := rx.sqL fh
    obtain ⟨fr, h3⟩ := h2.cut lo hi
    exact .inl ⟨a, vs, rfl, h1, fun q hq => p.newO fh hq rfl (RepL.rd _ _ _ fh _ _ _ h3) rfl⟩
  · rename_i z
    cases rx
    by_cases h : z.length ≤ bigL
    · rw [if_pos h] at p
      exact .inr (.inl ⟨z, rfl, bigL_line h, p.str fh⟩)
    · rw [if_neg h] at p
      exact p.elim
  · rename_i xs
    by_cases h : (cutL xs lo hi).length < xs.length ∧ (cutL xs lo hi).length ≠ 0
    · rw [if_pos h] at p
      obtain ⟨a, vs, rfl, _, h1, h2⟩ := rx.sqT fh
      obtain ⟨fr, h3⟩ := h2.cut lo hi
      refine .inr (.inr ⟨a, vs, rfl, h1, fun z => ?_, fun q hq => p.newF fh hq (RepL.rd _ _ _ fh _ _ _ h3)⟩)
      have e := h2.length
      have h4 := h.1
      unfold cutL at h4
      rw [e, z.1, z.2] at h4
      simp [e] at h4
    · rw [if_neg h] at p
      exact p.elim
  · exact p.elim
theorem ev_slice {lo hi : Option Expr} {l h : Env → Res (Option Int)} {p2 : Pos} (ha : EV X c E a f) (hl : EO X c E lo l) (hh : EO X c E hi h) : EV X c E (.Subscript a (.Slice lo hi none p2) pos) (eSl f l h) :=
  PE.imp (pe_slice sl_all ha hl hh) fun σ H Q q => by
    refine glueVV (k := fun d env => (l env).bind fun lo => (h env).bind fun hi => dSl d lo hi) q fun bb K F0 F env φ d v fp H1 S r q => ?_
    refine ⟨bb, K, F0, F, env, φ, S, ?_⟩
    cases z : l env with
    | ok lo =>
      simp only [z, Res.bind] at q
      intro H2 F2 x2
      refine ⟨bb, K, F0, F2, env, φ, S.ext x2, ?_⟩
      cases z2 : h env with
      | ok hi =>
        simp only [z2] at q
        intro H3 F3 x3
        refine dSl_ok (c := c) (E := E) (F := F3) x3.fh ((r.ext x2).ext x3) ?_
        cases z3 : dSl d lo hi with
        | ok d' =>
          rw [z3] at q
          intro v' H4 F4 fp4 x4 r4 nd4 fr4
          exact q v' H4 F4 fp4 ((x2.trans x3).trans x4) r4 nd4 fun a m => ⟨(x2.trans x3).hh.free (fr4 a m).1, (fr4 a m).2⟩
        | exc y => rw [z3] at q; exact fun cl dd H4 s w => q cl dd H4 ((x2.trans x3).hh.trans s) (c.mono ((x2.trans x3).hh) w)
        | stuck => rw [z3] at q; exact q
      | exc y => simp only [z2] at q; exact fun cl dd H4 s w => q cl dd H4 (x2.hh.trans s) (c.mono (x2.hh) w)
      | stuck => simp only [z2] at q; exact q
    | exc y => simp only [z, Res.bind] at q; exact q
    | stuck => simp only [z, Res.bind] at q; exact q
def OpC {M : PySem.W.Frag} (c : Cfg M) (r : List V → Hp → VK → Prop) (k : List D → Res D) : Prop := ∀ (E : XK) (F H : Hp) (ds : List D) (vs : List V) (fp : List Addr) (Q : VK), Sub F H → RepL c.κ F H ds vs fp → PostV c E F H (k ds) Q → r vs H Q
theorem glueC {σ : L2.St} {H : Hp} {Q : VK} {R : List V → Hp → Prop} {fs : Env → Res (List D)} {k : List D → Res D} (h : TV c E (fun env => (fs env).bind k) σ H Q)
    (step : ∀ F H1 ds vs fp, Sub F H1 → RepL c.κ F H1 ds vs fp → PostV c E F H1 (k ds) Q → R vs H1) : TL c E fs σ H R := by
  obtain ⟨bb, K, F0, F, env, φ, S, p⟩ := h
  refine ⟨bb, K, F0, F, env, φ, S, ?_⟩
  cases q : fs env with
  | ok d =>
    simp only [q, Res.bind] at p
    intro v H' F' fp x r nd fr
    refine step F' H' d v fp x.fh r ?_
    cases q2 : k d with
    | ok d' =>
      simp only [q2] at p
      intro v2 H2 F2 fp2 x2 r2 nd2 fr2
      exact p v2 H2 F2 fp2 (x.trans x2) r2 nd2 fun a m => ⟨x.hh.free (fr2 a m).1, (fr2 a m).2⟩
    | exc z =>
      simp only [q2] at p
      intro cl dd H2 s y
      exact p cl dd H2 (x.hh.trans s) (c.mono x.hh y)
    | stuck => simp only [q2] at p; exact p
  | exc z => simp only [q, Res.bind] at p; exact p
  | stuck => simp only [q, Res.bind] at p; exact p
def eC_ (k : List D → Res D) (fs : Env → Res (List D)) : Env → Res D := fun env => (fs env).bind k
variable {es : List Expr} {fs : Env → Res (List D)} {x : Str} {p : Pos}
theorem ev_callB {id : String} {r : List V → Hp → VK → Prop} {k : List D → Res D} (hk : OpC c r k) (hc : CallR X (.builtin id) r) (hg : Gl X x) (hm : X.mg x = none) (hv : bootBuiltins x = some (.builtin id)) (ha : EL X c E (e :: es) fs) (hn : x ≠ "__name__" := by decide) (hdb : (x == ("__debug__" : Str)) = false := by decide)
    (he : starEach (e :: es) X.env = (false, eval e X.env) :: starEach es X.env := by rfl) (hpl : (backTo pos (starEach es X.env)).any (·.1) = false := by rfl) : EV X c E (.Call (.Name x p) (e :: es) [] pos) (eC_ k fs) :=
  PE.imp (pe_callB hc hg hm hv ha hn hdb he hpl) fun σ H Q q => glueC q fun F H1 ds vs fp fh r p => hk E F H1 ds vs fp Q fh r p
theorem ev_callTy {T : String} {r : List V → Hp → VK → Prop} {k : List D → Res D} (hk : OpC c r k) (hc : CallR X (.type T) r) (hg : Gl X x) (hm : X.mg x = none) (hv : bootBuiltins x = some (.type T)) (ha : EL X c E (e :: es) fs) (hn : x ≠ "__name__" := by decide) (hdb : (x == ("__debug__" : Str)) = false := by decide)
    (he : starEach (e :: es) X.env = (false, eval e X.env) :: starEach es X.env := by rfl) (hpl : (backTo pos (starEach es X.env)).any (·.1) = false := by rfl) : EV X c E (.Call (.Name x p) (e :: es) [] pos) (eC_ k fs) :=
  PE.imp (pe_callTy hc hg hm hv ha hn hdb he hpl) fun σ H Q q => glueC q fun F H1 ds vs fp fh r p => hk E F H1 ds vs fp Q fh r p
def dLen : List D → Res D
  | [.str z] => if z.length ≤ bigL then .ok (.int z.length) else .stuck
  | [.tup ds] => .ok (.int ds.length)
  | [.nd _ .lst ds] => .ok (.int ds.length)
  | _ => .stuck
theorem RepL.one {M : PySem.W.Frag} {κ : Kap M} {F H : Hp} {d : D} {vs : List V} {fp : List Addr} (r : RepL κ F H [d] vs fp) : ∃ v fq, vs = [v] ∧ Rep κ F H d v fq := by
  cases r with
  | cons r1 t => cases t; exact ⟨_, _, rfl, r1⟩
theorem RepL.two {M : PySem.W.Frag} {κ : Kap M} {F H : Hp} {d d' : D} {vs : List V} {fp : List Addr} (r : RepL κ F H [d, d'] vs fp) : ∃ v v' fq fr, vs = [v, v'] ∧ Rep κ F H d v fq ∧ Rep κ F H d' v' fr := by
  cases r with
  | cons r1 t => obtain ⟨v, fq, rfl, r2⟩ := t.one; exact ⟨_, _, _, _, rfl, r1, r2⟩
theorem opc_len : OpC c (fun xs H Q => ∃ x n, xs = [x] ∧ LenV X.K x H n ∧ Q (.int n) H) dLen := by
  intro E F H ds vs fp Q fh r p
  unfold dLen at p
  split at p
  · rename_i z
    obtain ⟨v, fq, rfl, r1⟩ := r.one
    cases r1
    by_cases h : z.length ≤ bigL
    · rw [if_pos h] at p
      exact ⟨_, z.length, rfl, ⟨bigL_line h, rfl⟩, p.int fh⟩
    · rw [if_neg h] at p
      exact p.elim
  · obtain ⟨v, fq, rfl, r1⟩ := r.one
    obtain ⟨a, vs, rfl, _, h1, h2⟩ := r1.sqT fh
    refine ⟨_, vs.length, rfl, .inr ⟨vs, h1, rfl⟩, ?_⟩
    rw [← h2.length]
    exact p.int fh
  · obtain ⟨v, fq, rfl, r1⟩ := r.one
    obtain ⟨a, vs, fq, rfl, h1, h2, _⟩ := r1.sqL fh
    refine ⟨_, vs.length, rfl, .inl ⟨vs, h1, rfl⟩, ?_⟩
    rw [← h2.length]
    exact p.int fh
  · exact p.elim
theorem ev_len (hg : Gl X "len") (hm : X.mg "len" = none) (ha : EL X c E [e] fs) (he : starEach [e] X.env = (false, eval e X.env) :: starEach [] X.env := by rfl) : EV X c E (.Call (.Name "len" p) [e] [] pos) (eC_ dLen fs) :=
  ev_callB opc_len call_len hg hm PySem.boot_len ha (by decide) (by decide) he
def dInt : List D → Res D
  | [.int i] => .ok (.int i)
  | [.bl b] => .ok (.int (if b then 1 else 0))
  | [.str s] => if s.length ≤ 640 then (ofO (PySem.intText? s)).bind fun n => .ok (.int n) else .stuck
  | _ => .stuck
abbrev rInt : List V → Hp → VK → Prop := fun xs H Q => ((∃ i, xs = [.int i] ∧ Q (.int i) H) ∨ ∃ k, xs = [.bl k] ∧ Q (.int (if k then 1 else 0)) H) ∨ (∃ a n, xs = [.str a] ∧ PySem.intText? a = some n ∧ a.length ≤ 640 ∧ Q (.int n) H)
theorem opc_int : OpC c rInt dInt := by
  intro E F H ds vs fp Q fh r p
  unfold dInt at p
  split at p
  · obtain ⟨v, fq, rfl, r1⟩ := r.one
    cases r1
    exact .inl (.inl ⟨_, rfl, p.int fh⟩)
  · obtain ⟨v, fq, rfl, r1⟩ := r.one
    cases r1
    exact .inl (.inr ⟨_, rfl, p.int fh⟩)
  · rename_i s
    obtain ⟨v, fq, rfl, r1⟩ := r.one
    cases r1
    by_cases h : s.length ≤ 640
    · rw [if_pos h] at p
      cases q : PySem.intText? s with
      | none => rw [q] at p; exact p.elim
      | some n => rw [q] at p; exact .inr ⟨_, n, rfl, q, h, PostV.int p fh⟩
    · rw [if_neg h] at p
      exact p.elim
  · exact p.elim
end
end PV
end
section
namespace PV
open PySem PySem.Spec PyProof.Rows L2
def put (φ : Nat → List Addr) (i : Nat) (fp : List Addr) : Nat → List Addr := fun j => if j = i then fp else φ j
theorem put_same {φ : Nat → List Addr} {i : Nat} {fp : List Addr} : put φ i fp i = fp := if_pos rfl
theorem put_ne {φ : Nat → List Addr} {i j : Nat} {fp : List Addr} (h : j ≠ i) : put φ i fp j = φ j := if_neg h
section
variable {M : PySem.W.Frag} {κ : Kap M} {K F0 F H F' H' : Hp} {env : Env} {φ : Nat → List Addr} {σ : L2.St}
theorem SE.apart {bb : Bool} (S : SE bb κ K F0 F env φ σ H) {a : Addr} (h : H a = none) : K a = none ∧ ∀ j, a ∉ φ j := by
  refine ⟨S.kk.free h, fun j m => ?_⟩
  obtain ⟨_, _, o, e, _⟩ := S.ow j a m
  rw [h] at e
  cases e
theorem SE.set {bb : Bool} (S : SE bb κ K F0 F env φ σ H) (x : Ext F H F' H') {d : D} {v : V} {fp : List Addr} (r : Rep κ F' H' d v fp) (nd : fp.Nodup) (fr : ∀ a ∈ fp, H a = none ∧ F' a = none) (nt : bb = true → noT d = true) (i : Nat) :
    SE bb κ K F0 F' (env.set i (some d)) (put φ i fp) (σ.set i (some v)) H' := by
  have S' := S.ext x
  refine ⟨by simpa using S.len, S'.kk, S'.f0, S'.fh, S'.gr, fun j e h => ?_, fun j => ?_, fun j k hjk a ha => ?_, fun j a ha => ?_⟩
  · by_cases hj : j = i
    · subst hj
      rw [put_same]
      have hlt : j < env.length := by
        by_cases q : j < env.length
        · exact q
        · rw [List.getElem?_eq_none (by simpa using q)] at h; cases h
      rw [List.getElem?_set_self hlt] at h
      cases h
      exact ⟨v, by rw [List.getElem?_set_self (by rw [← S.len]; exact hlt)], r, nt⟩
    · rw [put_ne hj]
      rw [List.getElem?_set_ne (Ne.symm hj)] at h
      rw [List.getElem?_set_ne (Ne.symm hj)]
      exact S'.sl j e h
  · by_cases hj : j = i
    · subst hj; rw [put_same]; exact nd
    · rw [put_ne hj]; exact S.nd j
  · by_cases hj : j = i
    · subst hj
      rw [put_same] at ha
      rw [put_ne (Ne.symm hjk)]
      exact (S.apart (fr a ha).1).2 k
    · rw [put_ne hj] at ha
      by_cases hk : k = i
      · subst hk
        rw [put_same]
        exact fun m => (S.apart (fr a m).1).2 j ha
      · rw [put_ne hk]; exact S.dj j k hjk a ha
  · by_cases hj : j = i
    · subst hj
      rw [put_same] at ha
      exact ⟨(fr a ha).2, (S.apart (fr a ha).1).1, Rep.own _ _ _ _ _ _ r a ha⟩
    · rw [put_ne hj] at ha; exact S'.ow j a ha
theorem SE.write (S : SE true κ K F0 F env φ σ H) {i : Nat} {a : Addr} (ha : a ∈ φ i) {o : HO} {d : D} {v : V} {fp : List Addr} (hv : σ[i]? = some (some v)) (r : Rep κ F (upd H a o) d v fp) (nd : fp.Nodup)
    (fr : ∀ b ∈ fp, b ∈ φ i ∨ (F b = none ∧ K b = none ∧ ∀ j, b ∉ φ j)) (nt : noT d = true) : SE true κ K F0 F (env.set i (some d)) (put φ i fp) σ (upd H a o) := by
  obtain ⟨haF, haK, _⟩ := S.ow i a ha
  have hne : ∀ b x, F b = some x → b ≠ a := fun b x e z => by rw [z, haF] at e; cases e
  have hnk : ∀ b x, K b = some x → b ≠ a := fun b x e z => by rw [z, haK] at e; cases e
  have haH := (S.ow i a ha).2.2
  refine ⟨by simpa using S.len, S.kk.upd haK, S.f0, S.fh.upd haF haH.choose_spec.1 haH.choose_spec.2, S.gr, fun j e h => ?_, fun j => ?_, fun j k hjk b hb => ?_, fun j b hb => ?_⟩
  · by_cases hj : j = i
    · subst hj
      rw [put_same]
      have hlt : j < env.length := by
        by_cases q : j < env.length
        · exact q
        · rw [List.getElem?_eq_none (by simpa using q)] at h; cases h
      rw [List.getElem?_set_self hlt] at h
      cases h
      exact ⟨v, hv, r, fun _ => nt⟩
    · rw [put_ne hj]
      rw [List.getElem?_set_ne (Ne.symm hj)] at h
      obtain ⟨w, h1, h2, h3⟩ := S.sl j e h
      refine ⟨w, h1, h2.stay _ _ _ _ _ (Same.refl _) _ _ _ (fun b hb => upd_ne fun z => ?_) (h3 rfl), h3⟩
      subst z
      exact S.dj j i hj b hb ha
  · by_cases hj : j = i
    · subst hj; rw [put_same]; exact nd
    · rw [put_ne hj]; exact S.nd j
  · by_cases hj : j = i
    · subst hj
      rw [put_same] at hb
      rw [put_ne (Ne.symm hjk)]
      rcases fr b hb with h | h
      · exact S.dj j k hjk b h
      · exact h.2.2 k
    · rw [put_ne hj] at hb
      by_cases hk : k = i
      · subst hk
        rw [put_same]
        intro m
        rcases fr b m with h | h
        · exact S.dj j k hjk b hb h
        · exact h.2.2 j hb
      · rw [put_ne hk]; exact S.dj j k hjk b hb
  · by_cases hj : j = i
    · subst hj
      rw [put_same] at hb
      obtain ⟨x, h1, h2⟩ := Rep.own _ _ _ _ _ _ r b hb
      rcases fr b hb with h | h
      · exact ⟨(S.ow j b h).1, (S.ow j b h).2.1, x, h1, h2⟩
      · exact ⟨h.1, h.2.1, x, h1, h2⟩
    · rw [put_ne hj] at hb
      obtain ⟨h1, h2, x, h3, h4⟩ := S.ow j b hb
      refine ⟨h1, h2, x, ?_, h4⟩
      rw [upd_ne fun z => ?_]
      · exact h3
      · subst z
        exact S.dj j i hj b hb ha
theorem SE.drop {bb : Bool} (S : SE bb κ K F0 F env φ σ H) (i : Nat) : SE bb κ K F0 F (env.set i none) (put φ i []) σ H := by
  refine ⟨by simpa using S.len, S.kk, S.f0, S.fh, S.gr, fun j e h => ?_, fun j => ?_, fun j k hjk a ha => ?_, fun j a ha => ?_⟩
  · by_cases hj : j = i
    · subst hj
      exfalso
      by_cases q : j < env.length
      · rw [List.getElem?_set_self q] at h; cases h
      · rw [List.getElem?_eq_none (by simpa using q)] at h; cases h
    · rw [put_ne hj]
      rw [List.getElem?_set_ne (Ne.symm hj)] at h
      exact S.sl j e h
  · by_cases hj : j = i
    · subst hj; rw [put_same]; exact .nil
    · rw [put_ne hj]; exact S.nd j
  · by_cases hj : j = i
    · subst hj; rw [put_same] at ha; cases ha
    · rw [put_ne hj] at ha
      by_cases hk : k = i
      · subst hk; rw [put_same]; simp
      · rw [put_ne hk]; exact S.dj j k hjk a ha
  · by_cases hj : j = i
    · subst hj; rw [put_same] at ha; cases ha
    · rw [put_ne hj] at ha; exact S.ow j a ha
mutual
theorem noT_fz : ∀ d : D, noT d = true → noT (fz d) = true
  | .non, _ => rfl
  | .bl _, _ => rfl
  | .int _, _ => rfl
  | .str _, _ => rfl
  | .tup ds, h => by rw [fz, noT]; rw [noT] at h; exact noTL_fz ds h
  | .nd t k ds, h => by
    rw [noT, Bool.and_eq_true] at h
    rw [fz, noT, Bool.and_eq_true]
    refine ⟨?_, noTL_fz ds h.2⟩
    cases t
    · rfl
    · rfl
    · exact absurd (of_decide_eq_true h.1) (by simp)
  | .pin _ d, h => by rw [noT] at h; rw [fz]; exact noT_fz d h
  | .pack d cs, h => by rw [noT, Bool.and_eq_true] at h; rw [fz]; exact noT_fz d h.1
theorem noTL_fz : ∀ ds : List D, noTL ds = true → noTL (fzL ds) = true
  | [], _ => rfl
  | d :: ds, h => by
    rw [noTL, Bool.and_eq_true] at h
    rw [fzL, noTL, Bool.and_eq_true]
    exact ⟨noT_fz d h.1, noTL_fz ds h.2⟩
end
theorem SE.freeze (S : SE true κ K F0 F env φ σ H) (i : Nat) (d : D) (h : env[i]? = some (some d)) : SE true κ K F0 (grab F H (φ i)) (env.set i (some (fz d))) (put φ i []) σ H := by
  have hg : Same F (grab F H (φ i)) := same_grab fun a m => (S.ow i a m).1
  have hgT : SameT F (grab F H (φ i)) := sameT_grab (fun a m => (S.ow i a m).1) fun a m => (S.ow i a m).2.2
  refine ⟨by simpa using S.len, S.kk, S.f0.trans hgT, grab_same S.fh (fun a m => (S.ow i a m).2.2), fun a o e => ?_, fun j e h' => ?_, fun j => ?_, fun j k hjk a ha => ?_, fun j a ha => ?_⟩
  · by_cases m : a ∈ φ i
    · exact .inr (.inl (S.ow i a m).2.1)
    · rw [grab_not m] at e; exact S.gr a o e
  · by_cases hj : j = i
    · subst hj
      rw [put_same]
      have hlt : j < env.length := by
        by_cases q : j < env.length
        · exact q
        · rw [List.getElem?_eq_none (by simpa using q)] at h; cases h
      rw [List.getElem?_set_self hlt] at h'
      cases h'
      obtain ⟨v, h1, h2, h3⟩ := S.sl j d h
      exact ⟨v, h1, h2.fz _ _ _ _ hg _ _ _ (fun a m => grab_mem m), fun _ => noT_fz d (h3 rfl)⟩
    · rw [put_ne hj]
      rw [List.getElem?_set_ne (Ne.symm hj)] at h'
      obtain ⟨v, h1, h2, h3⟩ := S.sl j e h'
      exact ⟨v, h1, h2.stay _ _ _ _ _ hg _ _ _ (fun a m => rfl) (h3 rfl), h3⟩
  · by_cases hj : j = i
    · subst hj; rw [put_same]; exact .nil
    · rw [put_ne hj]; exact S.nd j
  · by_cases hj : j = i
    · subst hj; rw [put_same] at ha; cases ha
    · rw [put_ne hj] at ha
      by_cases hk : k = i
      · subst hk; rw [put_same]; simp
      · rw [put_ne hk]; exact S.dj j k hjk a ha
  · by_cases hj : j = i
    · subst hj; rw [put_same] at ha; cases ha
    · rw [put_ne hj] at ha
      obtain ⟨h1, h2, h3⟩ := S.ow j a ha
      exact ⟨by rw [grab_not (S.dj j i hj a ha)]; exact h1, h2, h3⟩
end
inductive Fl where
  | nx | bk | ct | rt (d : D)
abbrev SR := Res (Fl × Env)
structure RetOk {M : PySem.W.Frag} (κ : Kap M) (K F0 F H : Hp) (d : D) (v : V) (fp : List Addr) : Prop where
  kk : Sm K H
  f0 : FF κ F0 F
  fh : Sub F H
  gr : ∀ a o, F a = some o → F0 a = some o ∨ K a = none ∨ IsTup' o
  rep : Rep κ F H d v fp
  nd : fp.Nodup
  ow : ∀ a ∈ fp, F a = none ∧ K a = none
  nt : noT d = true
def PostS {M : PySem.W.Frag} (c : Cfg M) (E : XK) (K F0 : Hp) (r : SR) (Dn : Ends) : Prop := match r with
  | .ok (.nx, env) => ∀ σ H F φ, SE true c.κ K F0 F env φ σ H → Dn.nx σ H
  | .ok (.bk, env) => ∀ σ H F φ, SE true c.κ K F0 F env φ σ H → Dn.bk σ H
  | .ok (.ct, env) => ∀ σ H F φ, SE true c.κ K F0 F env φ σ H → Dn.ct σ H
  | .ok (.rt d, _) => ∀ v H F fp, RetOk c.κ K F0 F H d v fp → Dn.rt v H
  | .exc x => ∀ cl dd H, Sm K H → c.xr K x cl dd H → E cl dd H
  | .stuck => False
def TSt {M : PySem.W.Frag} (c : Cfg M) (E : XK) (g : Env → SR) : TS := fun Dn σ H => ∃ K F0 F env φ, SE true c.κ K F0 F env φ σ H ∧ PostS c E K F0 (g env) Dn
def ES (X : Cx) (c : Cfg X.K) (E : XK) (st : Stmt) (g : Env → SR) : Prop := PS X st (TSt c E g)
def EB (X : Cx) (c : Cfg X.K) (E : XK) (st : List Stmt) (g : Env → SR) : Prop := PSs X st (TSt c E g)
section
variable {X : Cx} {c : Cfg X.K} {E : XK} {e a b : Expr} {f : Env → Res D} {pos : Pos} {st : Stmt} {sts : List Stmt} {g h : Env → SR}
def sNil : Env → SR := fun env => .ok (.nx, env)
def sSeq (g h : Env → SR) : Env → SR := fun env => (g env).bind fun r => match r.1 with
  | .nx => h r.2
  | _ => .ok r
theorem eb_nil : EB X c E [] sNil := PSs.imp pss_nil fun Dn σ H q => by
  obtain ⟨K, F0, F, env, φ, S, p⟩ := q
  exact p σ H F φ S
theorem PostS.seq {K F0 : Hp} {r : SR} {Dn : Ends} (p : PostS c E K F0 (r.bind fun r => match r.1 with
  | .nx => h r.2
  | _ => .ok r) Dn) : PostS c E K F0 r { Dn with nx := TSt c E h Dn } := by
  cases r with
  | ok r =>
    obtain ⟨fl, env⟩ := r
    cases fl with
    | nx => exact fun σ H F φ S => ⟨K, F0, F, env, φ, S, p⟩
    | bk => exact p
    | ct => exact p
    | rt d => exact p
  | exc x => exact p
  | stuck => exact p
theorem eb_cons (h1 : ES X c E st g) (h2 : EB X c E sts h) : EB X c E (st :: sts) (sSeq g h) := PSs.imp (pss_cons h1 h2) fun Dn σ H q => by
  obtain ⟨K, F0, F, env, φ, S, p⟩ := q
  exact ⟨K, F0, F, env, φ, S, PostS.seq p⟩
theorem eb_one (h1 : ES X c E st g) : EB X c E [st] g := pss_one h1
theorem glueS {σ : L2.St} {H : Hp} {Dn : Ends} {k : D → Env → SR} {R : V → Hp → Prop} (q : TSt c E (fun env => (f env).bind fun d => k d env) Dn σ H)
    (step : ∀ K F0 F F' env φ d v fp H', SE true c.κ K F0 F env φ σ H → Ext F H F' H' → Rep c.κ F' H' d v fp → fp.Nodup → (∀ a ∈ fp, H a = none ∧ F' a = none) → PostS c E K F0 (k d env) Dn → R v H') : TV c E f σ H R := by
  obtain ⟨K, F0, F, env, φ, S, p⟩ := q
  refine ⟨true, K, F0, F, env, φ, S, ?_⟩
  cases z : f env with
  | ok d =>
    simp only [z, Res.bind] at p
    intro v H' F' fp x r nd fr
    exact step K F0 F F' env φ d v fp H' S x r nd fr p
  | exc y => simp only [z, Res.bind] at p; exact fun cl dd H' s w => p cl dd H' (S.kk.trans s) (c.mono (S.kk) w)
  | stuck => simp only [z, Res.bind] at p; exact p
theorem glueSB {pf : Env → Res Bool} {σ : L2.St} {H : Hp} {Dn : Ends} {k : Bool → Env → SR} {R : Bool → Hp → Prop} (q : TSt c E (fun env => (pf env).bind fun d => k d env) Dn σ H)
    (step : ∀ K F0 F env φ b H', SE true c.κ K F0 F env φ σ H' → PostS c E K F0 (k b env) Dn → R b H') : TB c E pf σ H R := by
  obtain ⟨K, F0, F, env, φ, S, p⟩ := q
  refine ⟨true, K, F0, F, env, φ, S, ?_⟩
  cases z : pf env with
  | ok d =>
    simp only [z, Res.bind] at p
    intro H' F' x
    exact step K F0 F' env φ d H' (S.ext x) p
  | exc y => simp only [z, Res.bind] at p; exact fun cl dd H' s w => p cl dd H' (S.kk.trans s) (c.mono (S.kk) w)
  | stuck => simp only [z, Res.bind] at p; exact p
def sRet (f : Env → Res D) : Env → SR := fun env => (f env).bind fun d => if noT d = true then .ok (.rt d, env) else .stuck
theorem es_ret (ha : EV X c E e f) : ES X c E (.Return (some e) pos) (sRet f) := PS.imp (ps_ret ha) fun Dn σ H q => glueS (k := fun d env => if noT d = true then .ok (.rt d, env) else .stuck) q fun K F0 F F' env φ d v fp H' S x r nd fr p => by
  by_cases h : noT d = true
  · rw [if_pos h] at p
    have S' := S.ext x
    exact p v H' F' fp ⟨S'.kk, S'.f0, S'.fh, S'.gr, r, nd, fun a m => ⟨(fr a m).2, (S.apart (fr a m).1).1⟩, h⟩
  · rw [if_neg h] at p
    exact p.elim
def sRetV (i : Nat) : Env → SR := fun env => match env[i]? with
  | some (some d) => .ok (.rt d, env)
  | _ => .stuck
theorem es_retV (i : Nat) {x : Str} {p : Pos} (hN : X.N[i]? = some x := by rfl) (hv : Vis X.env.scope x := by first | exact Or.inl rfl | exact Or.inr (Or.inl rfl) | exact Or.inr (Or.inr rfl)) (hd : (x == ("__debug__" : Str)) = false := by decide)
    (hcd : (x == ("__classdict__" : Str)) = false := by decide) : ES X c E (.Return (some (.Name x p)) pos) (sRetV i) := PS.imp (ps_ret (pe_var hN hv hd hcd)) fun Dn σ H q => by
  obtain ⟨K, F0, F, env, φ, S, p⟩ := q
  unfold sRetV at p
  split at p
  · rename_i d q
    obtain ⟨v, h1, h2, h3⟩ := S.sl i d q
    exact ⟨v, h1, p v H F (φ i) ⟨S.kk, S.f0, S.fh, S.gr, h2, S.nd i, fun a m => ⟨(S.ow i a m).1, (S.ow i a m).2.1⟩, h3 rfl⟩⟩
  · exact p.elim
def sIf (p : Env → Res Bool) (g h : Env → SR) : Env → SR := fun env => (p env).bind fun b => if b = true then g env else h env
theorem es_if {pf : Env → Res Bool} {t u : List Stmt} (hc : ET X c E e pf) (ha : EB X c E t g) (hb : EB X c E u h) : ES X c E (.If e t u pos) (sIf pf g h) := PS.imp (ps_if hc ha hb) fun Dn σ H q =>
  glueSB (k := fun b env => if b = true then g env else h env) q fun K F0 F env φ b H' S p => by
    cases b with
    | true => rw [if_pos rfl] at p ⊢; exact ⟨K, F0, F, env, φ, S, p⟩
    | false => rw [if_neg Bool.false_ne_true] at p ⊢; exact ⟨K, F0, F, env, φ, S, p⟩
def store (i : Nat) (d : D) (env : Env) : SR := if noT d = true then .ok (.nx, env.set i (some d)) else .stuck
def sSet (i : Nat) (f : Env → Res D) : Env → SR := fun env => (f env).bind fun d => store i d env
theorem es_set (i : Nat) {x : Str} {pos' : Pos} (ha : EV X c E e f) (hN : X.N.Nodup) (hi : X.N[i]? = some x := by rfl) (hx : Loc X.env.scope x := by first | exact .inl rfl | exact .inr rfl) (hs : swapsWith e (some (.Name x pos')) pos.line X.env = pure false := by rfl)
    (hf : X.fn x = true ∨ X.env.scope.names.lookup x = some .local := by first | exact .inl rfl | exact .inr rfl | assumption) : ES X c E (.Assign [.Name x pos'] e pos) (sSet i f) :=
  PS.imp (ps_set hN hi hx ha hs hf) fun Dn σ H q => glueS (k := fun d env => store i d env) q fun K F0 F F' env φ d v fp H' S x r nd fr p => by
    unfold store at p
    by_cases h : noT d = true
    · rw [if_pos h] at p
      exact p _ H' F' _ (S.set x r nd fr (fun _ => h) i)
    · rw [if_neg h] at p
      exact p.elim
end
end PV
end
section
namespace PV
open PySem PySem.Spec PyProof.Rows L2
section
variable {bb : Bool} {M : PySem.W.Frag} {κ : Kap M} {K F0 F F1 F2 H H1 H2 : Hp} {env env2 : Env} {φ φ2 : Nat → List Addr} {σ σ2 : L2.St}
theorem SE.weak (S : SE true κ K F0 F env φ σ H) : SE false κ K F0 F env φ σ H := ⟨S.len, S.kk, S.f0, S.fh, S.gr, fun i d h => let ⟨v, a, b, _⟩ := S.sl i d h; ⟨v, a, b, fun z => nomatch z⟩, S.nd, S.dj, S.ow⟩
theorem SE.base (S : SE bb κ K F0 F1 env φ σ H1) (T : SE bb κ K F1 F2 env2 φ2 σ2 H2) : SE bb κ K F0 F2 env2 φ2 σ2 H2 :=
  ⟨T.len, T.kk, S.f0.then T.f0, T.fh, fun a o e => by
    rcases T.gr a o e with h | h | h
    · exact S.gr a o h
    · exact .inr (.inl h)
    · exact .inr (.inr h), T.sl, T.nd, T.dj, T.ow⟩
theorem SE.self (S : SE bb κ K F0 F1 env φ σ H1) : SE bb κ K F1 F1 env φ σ H1 := ⟨S.len, S.kk, S.f0.refl, S.fh, fun _ _ e => .inl e, S.sl, S.nd, S.dj, S.ow⟩
theorem RetOk.base {d : D} {v : V} {fp : List Addr} (S : SE bb κ K F0 F1 env φ σ H1) (T : RetOk κ K F1 F2 H2 d v fp) : RetOk κ K F0 F2 H2 d v fp :=
  ⟨T.kk, S.f0.then T.f0, T.fh, fun a o e => by
    rcases T.gr a o e with h | h | h
    · exact S.gr a o h
    · exact .inr (.inl h)
    · exact .inr (.inr h), T.rep, T.nd, T.ow, T.nt⟩
theorem PostS.base {M : PySem.W.Frag} {c : Cfg M} {E : XK} {r : SR} {Dn : Ends} (S : SE true c.κ K F0 F1 env φ σ H1) (p : PostS c E K F0 r Dn) : PostS c E K F1 r Dn := by
  cases r with
  | ok r =>
    obtain ⟨fl, env'⟩ := r
    cases fl with
    | nx => exact fun σ H F φ T => p σ H F φ (S.base T)
    | bk => exact fun σ H F φ T => p σ H F φ (S.base T)
    | ct => exact fun σ H F φ T => p σ H F φ (S.base T)
    | rt d => exact fun v H F fp T => p v H F fp (T.base S)
  | exc x => exact p
  | stuck => exact p
structure Float {M : PySem.W.Frag} (κ : Kap M) (K F : Hp) (φ : Nat → List Addr) (H : Hp) (d : D) (v : V) (fp : List Addr) : Prop where
  rep : Rep κ F H d v fp
  nd : fp.Nodup
  ap : ∀ a ∈ fp, F a = none ∧ K a = none ∧ ∀ j, a ∉ φ j
structure FloatL {M : PySem.W.Frag} (κ : Kap M) (K F : Hp) (φ : Nat → List Addr) (H : Hp) (d : List D) (v : List V) (fp : List Addr) : Prop where
  rep : RepL κ F H d v fp
  nd : fp.Nodup
  ap : ∀ a ∈ fp, F a = none ∧ K a = none ∧ ∀ j, a ∉ φ j
theorem SE.float (S : SE bb κ K F0 F env φ σ H) (x : Ext F H F1 H1) {d : D} {v : V} {fp : List Addr} (r : Rep κ F1 H1 d v fp) (nd : fp.Nodup) (fr : ∀ a ∈ fp, H a = none ∧ F1 a = none) : Float κ K F1 φ H1 d v fp :=
  ⟨r, nd, fun a m => ⟨(fr a m).2, S.apart (fr a m).1⟩⟩
theorem SE.setF (S : SE bb κ K F0 F env φ σ H) {d : D} {v : V} {fp : List Addr} (f : Float κ K F φ H d v fp) (nt : bb = true → noT d = true) (i : Nat) :
    SE bb κ K F0 F (env.set i (some d)) (put φ i fp) (σ.set i (some v)) H := by
  refine ⟨by simpa using S.len, S.kk, S.f0, S.fh, S.gr, fun j e h => ?_, fun j => ?_, fun j k hjk a ha => ?_, fun j a ha => ?_⟩
  · by_cases hj : j = i
    · subst hj
      rw [put_same]
      have hlt : j < env.length := by
        by_cases q : j < env.length
        · exact q
        · rw [List.getElem?_eq_none (by simpa using q)] at h; cases h
      rw [List.getElem?_set_self hlt] at h
      cases h
      exact ⟨v, by rw [List.getElem?_set_self (by rw [← S.len]; exact hlt)], f.rep, nt⟩
    · rw [put_ne hj]
      rw [List.getElem?_set_ne (Ne.symm hj)] at h
      rw [List.getElem?_set_ne (Ne.symm hj)]
      exact S.sl j e h
  · by_cases hj : j = i
    · subst hj; rw [put_same]; exact f.nd
    · rw [put_ne hj]; exact S.nd j
  · by_cases hj : j = i
    · subst hj
      rw [put_same] at ha
      rw [put_ne (Ne.symm hjk)]
      exact (f.ap a ha).2.2 k
    · rw [put_ne hj] at ha
      by_cases hk : k = i
      · subst hk
        rw [put_same]
        exact fun m => (f.ap a m).2.2 j ha
      · rw [put_ne hk]; exact S.dj j k hjk a ha
  · by_cases hj : j = i
    · subst hj
      rw [put_same] at ha
      exact ⟨(f.ap a ha).1, (f.ap a ha).2.1, Rep.own _ _ _ _ _ _ f.rep a ha⟩
    · rw [put_ne hj] at ha; exact S.ow j a ha
end
section
variable {bb : Bool} {M : PySem.W.Frag} {κ : Kap M} {K F0 F F1 F2 H H1 H2 : Hp} {env env2 : Env} {φ φ2 : Nat → List Addr} {σ σ2 : L2.St}
theorem SE.lock (S : SE bb κ K F0 F env φ σ H) (fp : List Addr) (ap : ∀ a ∈ fp, F a = none ∧ (∀ j, a ∉ φ j) ∧ ∃ o, H a = some o ∧ ¬ IsTup' o) : SE bb κ (grab K H fp) F0 F env φ σ H := by
  refine ⟨S.len, grab_sm S.kk, S.f0, S.fh, fun a o e => ?_, S.sl, S.nd, S.dj, fun i a m => ?_⟩
  · rcases S.gr a o e with h | h | h
    · exact .inl h
    · by_cases m : a ∈ fp
      · have := (ap a m).1
        rw [e] at this; cases this
      · exact .inr (.inl (by rw [grab_not m]; exact h))
    · exact .inr (.inr h)
  · obtain ⟨h1, h2, h3⟩ := S.ow i a m
    exact ⟨h1, by rw [grab_not fun m2 => (ap a m2).2.1 i m]; exact h2, h3⟩
theorem SE.unlock {fp : List Addr} (T : SE bb κ (grab K H fp) F0 F2 env2 φ2 σ2 H2) (ap : ∀ a ∈ fp, ∃ o, H a = some o ∧ ¬ IsTup' o) (hK : ∀ a ∈ fp, K a = none := by assumption) :
    SE bb κ K F0 F2 env2 φ2 σ2 H2 ∧ ∀ a ∈ fp, H2 a = H a ∧ (F0 a = none → F2 a = none) ∧ ∀ j, a ∉ φ2 j := by
  have hk : ∀ a ∈ fp, H2 a = H a := fun a m => by
    obtain ⟨o, h1, nt⟩ := ap a m
    rw [h1]
    exact T.kk.at_ a o (by rw [grab_mem m]; exact h1) (nTb_of nt)
  have kk : Same K (grab K H fp) := fun a o e => by
    by_cases m : a ∈ fp
    · rw [hK a m] at e; cases e
    · rw [grab_not m]; exact e
  refine ⟨⟨T.len, (Sm.of kk).trans T.kk, T.f0, T.fh, fun a o e => ?_, T.sl, T.nd, T.dj, fun i a m => ?_⟩, fun a m => ⟨hk a m, fun h0 => ?_, fun j m2 => ?_⟩⟩
  · rcases T.gr a o e with h | h | h
    · exact .inl h
    · exact .inr (.inl (kk.free h))
    · exact .inr (.inr h)
  · obtain ⟨h1, h2, h3⟩ := T.ow i a m
    exact ⟨h1, kk.free h2, h3⟩
  · obtain ⟨o, h1, nt⟩ := ap a m
    cases q : F2 a with
    | none => rfl
    | some u =>
      rcases T.gr a u q with h | h | h
      · rw [h0] at h; cases h
      · rw [grab_mem m, h1] at h; cases h
      · exact (T.fh.notOwn q h ((hk a m).trans h1) nt).elim
  · obtain ⟨o, h1, _⟩ := ap a m
    have := (T.ow j a m2).2.1
    rw [grab_mem m, h1] at this
    cases this
end
abbrev TgF := D → Env → Res Env
abbrev TgFs := List D → Env → Res Env
def Agree (vs : List Nat) (σ σ' : L2.St) : Prop := σ'.length = σ.length ∧ ∀ i, i ∉ vs → σ'[i]? = σ[i]?
theorem Agree.refl {vs : List Nat} {σ : L2.St} : Agree vs σ σ := ⟨rfl, fun _ _ => rfl⟩
theorem Agree.trans {vs ws : List Nat} {σ σ1 σ2 : L2.St} (a : Agree vs σ σ1) (b : Agree ws σ1 σ2) : Agree (vs ++ ws) σ σ2 := ⟨b.1.trans a.1, fun i h => by
  rw [List.mem_append, not_or] at h
  exact (b.2 i h.2).trans (a.2 i h.1)⟩
def TGt {M : PySem.W.Frag} (c : Cfg M) (bb : Bool) (ws : List Nat) (s : TgF) : TG := fun v σ H Q => ∃ K F0 F env φ d fp, SE bb c.κ K F0 F env φ σ H ∧ Float c.κ K F φ H d v fp ∧ match s d env with
  | .ok env' => ∀ σ' H' F' φ', SE bb c.κ K F F' env' φ' σ' H' → Agree ws σ σ' → Ext F H F' H' → Q σ' H'
  | _ => False
def TGts {M : PySem.W.Frag} (c : Cfg M) (bb : Bool) (ws : List Nat) (s : TgFs) : TGs := fun vs σ H Q => ∃ K F0 F env φ ds fp, SE bb c.κ K F0 F env φ σ H ∧ FloatL c.κ K F φ H ds vs fp ∧ match s ds env with
  | .ok env' => ∀ σ' H' F' φ', SE bb c.κ K F F' env' φ' σ' H' → Agree ws σ σ' → Ext F H F' H' → Q σ' H'
  | _ => False
def EG (X : Cx) (c : Cfg X.K) (bb : Bool) (tg : Expr) (ws : List Nat) (s : TgF) : Prop := PG X tg (TGt c bb ws s)
def EGs (X : Cx) (c : Cfg X.K) (bb : Bool) (tg : List Expr) (ws : List Nat) (s : TgFs) : Prop := PGs X tg (TGts c bb ws s)
theorem PG.imp {X : Cx} {e : Expr} {t t' : TG} (h : PG X e t) (i : ∀ v σ H Q, t' v σ H Q → t v σ H Q) : PG X e t' := ⟨fun pins s σ H v u Q I r q => h.run pins s σ H v u Q I r (i v σ H Q q)⟩
theorem PGs.imp {X : Cx} {e : List Expr} {t t' : TGs} (h : PGs X e t) (i : ∀ v σ H Q, t' v σ H Q → t v σ H Q) : PGs X e t' := ⟨fun pins s σ H v u Q I r q => h.run pins s σ H v u Q I r (i v σ H Q q)⟩
def put1 (i : Nat) : TgF := fun d env => if noT d = true then .ok (env.set i (some d)) else .stuck
section
variable {X : Cx} {c : Cfg X.K} {E : XK} {pos : Pos} {bb : Bool} {ws ws2 : List Nat}
theorem agree_set {σ : L2.St} {i : Nat} {o : Option V} : Agree [i] σ (σ.set i o) := ⟨by simp, fun j h => by
  rw [List.getElem?_set_ne]
  intro z
  exact h (by simp [z])⟩
theorem eg_name (i : Nat) {x : Str} (hN : X.N.Nodup) (hi : X.N[i]? = some x := by rfl) (hx : Loc X.env.scope x := by first | exact .inl rfl | exact .inr rfl) (hf : X.fn x = true ∨ X.env.scope.names.lookup x = some .local := by first | exact .inl rfl | exact .inr rfl | assumption) :
    EG X c bb (.Name x pos) [i] (put1 i) := PG.imp (pg_name hN hi hx hf) fun v σ H Q q => by
  obtain ⟨K, F0, F, env, φ, d, fp, S, f, p⟩ := q
  unfold put1 at p
  by_cases h : noT d = true
  · rw [if_pos h] at p
    exact p _ _ _ _ (S.setF f (fun _ => h) i).self agree_set (.refl S.fh)
  · rw [if_neg h] at p
    exact p.elim
def putN : TgFs := fun ds env => match ds with
  | [] => .ok env
  | _ => .stuck
def putC (s : TgF) (t : TgFs) : TgFs := fun ds env => match ds with
  | d :: ds => if noTL ds = true then (s d env).bind fun env' => t ds env' else .stuck
  | [] => .stuck
theorem egs_nil : EGs X c bb [] [] putN := PGs.imp pgs_nil fun v σ H Q q => by
  obtain ⟨K, F0, F, env, φ, ds, fp, S, f, p⟩ := q
  unfold putN at p
  split at p
  · rename_i e
    split at e
    · cases e
      have r := f.rep
      cases r
      exact ⟨rfl, p _ _ _ _ S.self .refl (.refl S.fh)⟩
    · cases e
  · exact p.elim
def seqO (d : D) : Option (List D) := match d with
  | .tup ds => some ds
  | .nd _ .lst ds => some ds
  | _ => none
def putT (n : Nat) (t : TgFs) : TgF := fun d env => match seqO d with
  | some ds => if ds.length = n then t ds env else .stuck
  | none => .stuck
theorem PG.or {X : Cx} {e : Expr} {t t' : TG} (h : PG X e t) (h' : PG X e t') : PG X e (fun v σ H Q => t v σ H Q ∨ t' v σ H Q) := ⟨fun pins s σ H v u Q I r q => by
  rcases q with q | q
  · exact h.run pins s σ H v u Q I r q
  · exact h'.run pins s σ H v u Q I r q⟩
theorem eg_tup {es : List Expr} {k : Nat} {t : TgFs} {n : Nat} (hc : X.calm = true) (h : EGs X c bb es ws t)
    (hn : (assignEach es X.env).length = n := by rfl) (hst : (assignEach es X.env).findIdx? (·.1) = none := by rfl) : EG X c bb (.Tuple es k pos) ws (putT n t) := PG.imp (PG.or (pg_tup hc h hn hst) (pg_unl hc h hn hst)) fun v σ H Q q => by
  obtain ⟨K, F0, F, env, φ, d, fp, S, f, p⟩ := q
  unfold putT at p
  split at p
  · rename_i env' e
    split at e
    · rename_i ds hds
      by_cases hl : ds.length = n
      · rw [if_pos hl] at e
        cases d with
        | tup ds' =>
          cases hds
          obtain ⟨a, vs, rfl, _, h1, h2⟩ := f.rep.sqT S.fh
          refine .inl ⟨a, vs, rfl, h1, by rw [← h2.length]; exact hl, K, F0, F, env, φ, ds, fp, S, ⟨h2, f.nd, f.ap⟩, ?_⟩
          rw [e]
          exact p
        | nd tg kd ds' =>
          cases kd with
          | lst =>
            cases hds
            obtain ⟨a, vs, fq, rfl, h1, h2, hfp⟩ := f.rep.sqL S.fh
            have sub : ∀ b ∈ fq, b ∈ fp := fun b m => by
              rcases hfp with rfl | rfl
              · exact m
              · exact List.mem_cons_of_mem _ m
            have nq : fq.Nodup := by
              rcases hfp with rfl | rfl
              · exact f.nd
              · exact (List.nodup_cons.mp f.nd).2
            refine .inr ⟨a, vs, rfl, h1, by rw [← h2.length]; exact hl, K, F0, F, env, φ, ds, fq, S, ⟨h2, nq, fun b m => f.ap b (sub b m)⟩, ?_⟩
            rw [e]
            exact p
          | _ => cases hds
        | _ => cases hds
      · rw [if_neg hl] at e
        cases e
    · cases e
  · exact p.elim
theorem egs_cons {e : Expr} {es : List Expr} {s : TgF} {t : TgFs} (h1 : EG X c true e ws s) (h2 : EGs X c true es ws2 t)
    (hs : (assignEach (e :: es) X.env).map (·.2) = assign e X.env :: (assignEach es X.env).map (·.2) := by rfl) : EGs X c true (e :: es) (ws ++ ws2) (putC s t) := PGs.imp (pgs_cons h1 h2 hs) fun vs σ H Q q => by
  obtain ⟨K, F0, F, env, φ, ds, fp, S, f, p⟩ := q
  unfold putC at p
  split at p
  · rename_i env' e
    split at e
    · rename_i d ds
      obtain ⟨rp, nd, ap⟩ := f
      by_cases hn : noTL ds = true
      case neg => rw [if_neg hn] at e; cases e
      rw [if_pos hn] at e
      cases rp with
      | cons r1 r2 =>
        rename_i v vs fa fb
        have n2 := List.nodup_append.mp nd
        have own := RepL.own _ _ _ _ _ _ r2
        have S1 := S.lock fb (fun a m => ⟨(ap a (List.mem_append_right _ m)).1, (ap a (List.mem_append_right _ m)).2.2, own a m⟩)
        refine ⟨v, vs, rfl, grab K H fb, F0, F, env, φ, d, fa, S1, ⟨r1, n2.1, fun a m => ?_⟩, ?_⟩
        · obtain ⟨h1, h2, h3⟩ := ap a (List.mem_append_left _ m)
          exact ⟨h1, by rw [grab_not fun m2 => n2.2.2 a m a m2 rfl]; exact h2, h3⟩
        · cases z : s d env with
          | ok env1 =>
            rw [z] at e
            simp only [Res.bind] at e
            intro σ2 H2 F2 φ2 T ag hh
            obtain ⟨T2, k⟩ := T.unlock (fun a m => own a m) (fun a m => (ap a (List.mem_append_right _ m)).2.1)
            refine ⟨K, F, F2, env1, φ2, ds, fb, T2, ⟨?_, n2.2.1, fun a m => ⟨(k a m).2.1 (ap a (List.mem_append_right _ m)).1, (ap a (List.mem_append_right _ m)).2.1, (k a m).2.2⟩⟩, ?_⟩
            · exact r2.stay _ _ _ _ _ T.f0 _ _ _ (fun a m => (k a m).1) hn
            · rw [e]
              exact fun σ3 H3 F3 φ3 T3 ag3 hh3 => p σ3 H3 F3 φ3 (T2.base T3) (ag.trans ag3) (hh.trans hh3)
          | exc y => rw [z] at e; cases e
          | stuck => rw [z] at e; cases e
    · cases e
  · exact p.elim
def putb (i : Nat) : TgF := fun d env => .ok (env.set i (some d))
theorem eg_nameC (i : Nat) {x : Str} (hN : X.N.Nodup) (hi : X.N[i]? = some x := by rfl) (hx : Loc X.env.scope x := by first | exact .inl rfl | exact .inr rfl) (hf : X.fn x = true ∨ X.env.scope.names.lookup x = some .local := by first | exact .inl rfl | exact .inr rfl | assumption) :
    EG X c false (.Name x pos) [i] (putb i) := PG.imp (pg_name hN hi hx hf) fun v σ H Q q => by
  obtain ⟨K, F0, F, env, φ, d, fp, S, f, p⟩ := q
  exact p _ _ _ _ (S.setF f (fun z => nomatch z) i).self agree_set (.refl S.fh)
def putD (s : TgF) (t : TgFs) : TgFs := fun ds env => match ds with
  | d :: ds => (s d env).bind fun env' => t ds env'
  | [] => .stuck
theorem egs_consC {e : Expr} {es : List Expr} {s : TgF} {t : TgFs} (h1 : EG X c false e ws s) (h2 : EGs X c false es ws2 t)
    (hs : (assignEach (e :: es) X.env).map (·.2) = assign e X.env :: (assignEach es X.env).map (·.2) := by rfl) : EGs X c false (e :: es) (ws ++ ws2) (putD s t) := PGs.imp (pgs_cons h1 h2 hs) fun vs σ H Q q => by
  obtain ⟨K, F0, F, env, φ, ds, fp, S, f, p⟩ := q
  unfold putD at p
  split at p
  · rename_i env' e
    split at e
    · rename_i d ds
      obtain ⟨rp, nd, ap⟩ := f
      cases rp with
      | cons r1 r2 =>
        rename_i v vs fa fb
        have n2 := List.nodup_append.mp nd
        have own := RepL.own _ _ _ _ _ _ r2
        have S1 := S.lock fb (fun a m => ⟨(ap a (List.mem_append_right _ m)).1, (ap a (List.mem_append_right _ m)).2.2, own a m⟩)
        refine ⟨v, vs, rfl, grab K H fb, F0, F, env, φ, d, fa, S1, ⟨r1, n2.1, fun a m => ?_⟩, ?_⟩
        · obtain ⟨h1, h2, h3⟩ := ap a (List.mem_append_left _ m)
          exact ⟨h1, by rw [grab_not fun m2 => n2.2.2 a m a m2 rfl]; exact h2, h3⟩
        · cases z : s d env with
          | ok env1 =>
            rw [z] at e
            simp only [Res.bind] at e
            intro σ2 H2 F2 φ2 T ag hh
            obtain ⟨T2, k⟩ := T.unlock (fun a m => own a m) (fun a m => (ap a (List.mem_append_right _ m)).2.1)
            refine ⟨K, F, F2, env1, φ2, ds, fb, T2, ⟨?_, n2.2.1, fun a m => ⟨(k a m).2.1 (ap a (List.mem_append_right _ m)).1, (ap a (List.mem_append_right _ m)).2.1, (k a m).2.2⟩⟩, ?_⟩
            · exact (rep_mono T.f0 hh.hh).2 _ _ _ r2
            · rw [e]
              exact fun σ3 H3 F3 φ3 T3 ag3 hh3 => p σ3 H3 F3 φ3 (T2.base T3) (ag.trans ag3) (hh.trans hh3)
          | exc y => rw [z] at e; cases e
          | stuck => rw [z] at e; cases e
    · cases e
  · exact p.elim
def asgn (s : TgF) (d : D) (env : Env) : SR := match s d env with
  | .ok env' => .ok (.nx, env')
  | _ => .stuck
def sAsg (f : Env → Res D) (s : TgF) : Env → SR := fun env => (f env).bind fun d => asgn s d env
theorem es_asg {tg e : Expr} {f : Env → Res D} {s : TgF} (he : EV X c E e f) (hg : EG X c true tg ws s) (hs : swapsWithSole [tg] e pos.line X.env = pure false := by rfl) (hw : swappedStores [tg] e X.env = pure none := by rfl)
    (h1 : (assignEach [tg] X.env).map (·.2) = [assign tg X.env] := by rfl) : ES X c E (.Assign [tg] e pos) (sAsg f s) := PS.imp (ps_asg he hg hs hw h1) fun Dn σ H q =>
  glueS (k := asgn s) q fun K F0 F F' env φ d v fp H' S x r nd fr p => by
    refine ⟨K, F0, F', env, φ, d, fp, S.ext x, S.float x r nd fr, ?_⟩
    unfold asgn at p
    cases z : s d env with
    | ok env' =>
      rw [z] at p
      exact fun σ' H2 F2 φ2 T _ _ => p σ' H2 F2 φ2 ((S.ext x).base T)
    | exc y => rw [z] at p; exact p
    | stuck => rw [z] at p; exact p
end
structure Yields {M : PySem.W.Frag} (κ : Kap M) (J : It) (items : List D) (P : Hp → Hp → Prop) : Prop where
  go : ∀ i F1 H1, P F1 H1 → i < items.length → J.go i H1
  yld : ∀ i F1 H1 x H2 d, P F1 H1 → items[i]? = some d → J.yld i H1 x H2 → ∃ F2, Ext F1 H1 F2 H2 ∧ Rep κ F2 H2 d x []
  stop : ∀ F1 H1, P F1 H1 → J.stop items.length H1
def Pst (st : Bool) (F H : Hp) : Hp → Hp → Prop := fun F1 H1 => Same F F1 ∧ Sub F1 H1 ∧ (st = false → Sm H H1)
def TY {M : PySem.W.Frag} (c : Cfg M) (E : XK) (st : Bool) (f : Env → Res (List D)) : TI := fun σ H R => ∃ bb K F0 F env φ, SE bb c.κ K F0 F env φ σ H ∧ match f env with
  | .ok items => ∀ J H' F', Ext F H F' H' → Yields c.κ J items (Pst st F' H') → R J H'
  | .exc x => ∀ cl dd H', Sm H H' → c.xr H x cl dd H' → E cl dd H'
  | .stuck => False
def EY (X : Cx) (c : Cfg X.K) (E : XK) (st : Bool) (tg iter : Expr) (f : Env → Res (List D)) : Prop := PI X tg iter (TY c E st f)
theorem PI.imp {X : Cx} {tg e : Expr} {t t' : TI} (h : PI X tg e t) (i : ∀ σ H R, t' σ H R → t σ H R) : PI X tg e t' := ⟨fun pins s σ H R I q => h.run pins s σ H R I (i σ H R q)⟩
theorem PI.or {X : Cx} {tg e : Expr} {t t' : TI} (h : PI X tg e t) (h' : PI X tg e t') : PI X tg e (fun σ H R => t σ H R ∨ t' σ H R) := ⟨fun pins s σ H R I q => by
  rcases q with q | q
  · exact h.run pins s σ H R I q
  · exact h'.run pins s σ H R I q⟩
section
variable {X : Cx} {c : Cfg X.K} {E : XK} {st : Bool} {tg e a b : Expr} {f g : Env → Res D} {pos : Pos}
def itemsOf (st : Bool) : D → Res (List D)
  | .nd t .lst ds => if st = true then (if noT (.nd t .lst ds) = true then .ok (fzL ds) else .stuck) else .ok (rdL ds)
  | .tup ds => if st = true then (if noT (.tup ds) = true then .ok (fzL ds) else .stuck) else .ok (rdL ds)
  | .str z => .ok (z.cps.toList.map fun k => .str ⟨#[k]⟩)
  | _ => .stuck
def yVal (st : Bool) (f : Env → Res D) : Env → Res (List D) := fun env => (f env).bind (itemsOf st)
theorem Ext.grab {F H F' H' : Hp} {fp : List Addr} (x : Ext F H F' H') (fr : ∀ a ∈ fp, H a = none ∧ F' a = none) (ow : ∀ a ∈ fp, ∃ o, H' a = some o ∧ ¬ IsTup' o) : Ext F H (grab F' H' fp) H' :=
  ⟨x.hh, x.ff.trans (sameT_grab (fun a m => (fr a m).2) ow), grab_same x.fh ow, fun a o e => by
    by_cases m : a ∈ fp
    · exact .inr (.inl (fr a m).1)
    · rw [grab_not m] at e; exact x.gr a o e⟩
theorem fzL_length : ∀ ds : List D, (fzL ds).length = ds.length
  | [] => rfl
  | d :: ds => by rw [fzL]; simp [fzL_length ds]
theorem yields_list {M : PySem.W.Frag} {κ : Kap M} {F H : Hp} {a : Addr} {ds : List D} {vs : List V} {P : Hp → Hp → Prop} (hs : ∀ F1 H1, P F1 H1 → SqL M H1 a vs ∧ Sub F1 H1 ∧ RepL κ F1 H1 ds vs []) : Yields κ (Itl M a) ds P := by
  refine ⟨fun i F1 H1 p hi => ?_, fun i F1 H1 x H2 d p hd y => ?_, fun F1 H1 p => ?_⟩
  · obtain ⟨h1, h2, h3⟩ := hs F1 H1 p
    have : i < vs.length := by rw [← h3.length]; exact hi
    exact ⟨vs, vs[i], h1, by simp [this]⟩
  · obtain ⟨h1, h2, h3⟩ := hs F1 H1 p
    obtain ⟨rfl, y⟩ := y
    obtain ⟨v, fq, h4, h5, h6, _⟩ := h3.get i d hd
    have e := y vs h1
    rw [h4] at e
    cases e
    have : fq = [] := List.eq_nil_iff_forall_not_mem.mpr fun a m => absurd (h6 a m) (by simp)
    subst this
    exact ⟨F1, .refl h2, h5⟩
  · obtain ⟨h1, h2, h3⟩ := hs F1 H1 p
    exact ⟨vs, h1, by rw [h3.length]; exact Nat.le_refl _⟩
theorem yields_tup {M : PySem.W.Frag} {κ : Kap M} {F H : Hp} {a : Addr} {ds : List D} {vs : List V} {P : Hp → Hp → Prop} (hs : ∀ F1 H1, P F1 H1 → SqT M H1 a vs ∧ Sub F1 H1 ∧ RepL κ F1 H1 ds vs []) : Yields κ (Itt M a) ds P := by
  refine ⟨fun i F1 H1 p hi => ?_, fun i F1 H1 x H2 d p hd y => ?_, fun F1 H1 p => ?_⟩
  · obtain ⟨h1, h2, h3⟩ := hs F1 H1 p
    have : i < vs.length := by rw [← h3.length]; exact hi
    exact ⟨vs, vs[i], h1, by simp [this]⟩
  · obtain ⟨h1, h2, h3⟩ := hs F1 H1 p
    obtain ⟨rfl, y⟩ := y
    obtain ⟨v, fq, h4, h5, h6, _⟩ := h3.get i d hd
    have e := y vs h1
    rw [h4] at e
    cases e
    have : fq = [] := List.eq_nil_iff_forall_not_mem.mpr fun a m => absurd (h6 a m) (by simp)
    subst this
    exact ⟨F1, .refl h2, h5⟩
  · obtain ⟨h1, h2, h3⟩ := hs F1 H1 p
    exact ⟨vs, h1, by rw [h3.length]; exact Nat.le_refl _⟩
theorem list_src {M : PySem.W.Frag} {κ : Kap M} {F H F' H' : Hp} {t : Tag} {ds items : List D} {v : V} {fp : List Addr} (x : Ext F H F' H') (r : Rep κ F' H' (.nd t .lst ds) v fp) (fr : ∀ a ∈ fp, H a = none ∧ F' a = none)
    (e : itemsOf st (.nd t .lst ds) = .ok items) : ∃ a vs G, v = .ref a ∧ SqL M H' a vs ∧ Ext F H G H' ∧ Same F' G ∧ (∀ a, a ∉ fp → G a = F' a) ∧ ∀ F1 H1, Pst st G H' F1 H1 → SqL M H1 a vs ∧ Sub F1 H1 ∧ RepL κ F1 H1 items vs [] := by
  cases st with
  | true =>
    simp only [itemsOf, if_true] at e
    by_cases h : noT (.nd t .lst ds) = true
    · rw [if_pos h] at e
      cases e
      have x2 := x.grab fr (Rep.own _ _ _ _ _ _ r)
      have r2 := r.fz _ _ _ _ (same_grab fun a m => (fr a m).2) _ _ _ (fun a m => grab_mem m)
      have n2 := noT_fz _ h
      rw [fz] at r2 n2
      rw [noT, Bool.and_eq_true] at n2
      have sg : Same F' (grab F' H' fp) := same_grab fun a m => (fr a m).2
      have ng : ∀ a, a ∉ fp → grab F' H' fp a = F' a := fun a m => grab_not m
      generalize grab F' H' fp = G at x2 r2 sg ng
      have key : ∀ {t' : Tag}, t' ≠ .tmp → Rep κ G H' (.nd t' .lst (fzL ds)) v [] → ∃ a vs, v = .ref a ∧ (∀ F1 H1, Same G F1 → Sub F1 H1 → SqL M H1 a vs) ∧ RepL κ G H' (fzL ds) vs [] := by
        intro t' ht' r'
        cases r' with
        | ndF ha hr hs hl =>
          cases hs
          refine ⟨_, _, rfl, fun F1 H1 f1 f2 => ?_, hl⟩
          have h1 := f2 _ _ (f1 _ _ ha)
          rcases hr with rfl | ⟨_, ob, rfl⟩
          · exact .inl (.inl h1)
          · exact .inl (.inr ⟨ob, h1⟩)
        | ndT => exact absurd rfl ht'
        | ndK ha hl => exact ⟨_, _, rfl, fun _ _ _ _ => .inr ha, hl⟩
      obtain ⟨a, vs, rfl, sq, hl⟩ := key (of_decide_eq_true n2.1) r2
      exact ⟨a, vs, G, rfl, sq G _ (Same.refl _) x2.fh, x2, sg, ng, fun F1 H1 p => ⟨sq F1 H1 p.1 p.2.1, p.2.1, hl.stay _ _ _ _ _ p.1 _ _ _ (fun a m => absurd m (by simp)) n2.2⟩⟩
    · rw [if_neg h] at e
      cases e
  | false =>
    simp only [itemsOf, Bool.false_eq_true, if_false] at e
    cases e
    have r2 := r.rd _ _ _ x.fh
    rw [rd] at r2
    have key : ∀ {t' : Tag}, t' ≠ .own → Rep κ F' H' (.nd t' .lst (rdL ds)) v [] → ∃ a vs, v = .ref a ∧ (∀ H1, Sm H' H1 → SqL M H1 a vs) ∧ RepL κ F' H' (rdL ds) vs [] := by
      intro t' ht' r'
      cases r' with
      | ndF ha hr hs hl =>
        cases hs
        refine ⟨_, _, rfl, fun H1 f2 => ?_, hl⟩
        have h1 := f2 _ _ (x.fh _ _ ha)
        rcases hr with rfl | ⟨_, ob, rfl⟩
        · exact .inl (.inl h1)
        · exact .inl (.inr ⟨ob, h1⟩)
      | ndT ha hr hs hl =>
        cases hs
        refine ⟨_, _, rfl, fun H1 f2 => ?_, hl⟩
        have h1 := f2 _ _ ha
        rcases hr with rfl | ⟨_, ob, rfl⟩
        · exact .inl (.inl h1)
        · exact .inl (.inr ⟨ob, h1⟩)
      | ndK ha hl => exact ⟨_, _, rfl, fun _ _ => .inr ha, hl⟩
    obtain ⟨a, vs, rfl, sq, hl⟩ := key (by cases t <;> simp [Tag.rd]) r2
    exact ⟨a, vs, F', rfl, sq _ (Sm.refl _), x, Same.refl _, fun _ _ => rfl, fun F1 H1 p => ⟨sq H1 (p.2.2 rfl), p.2.1, (rep_mono p.1 (p.2.2 rfl)).2 _ _ _ hl⟩⟩
theorem tup_src {M : PySem.W.Frag} {κ : Kap M} {F H F' H' : Hp} {ds items : List D} {v : V} {fp : List Addr} (x : Ext F H F' H') (r : Rep κ F' H' (.tup ds) v fp) (fr : ∀ a ∈ fp, H a = none ∧ F' a = none)
    (e : itemsOf st (.tup ds) = .ok items) : ∃ a vs G, v = .ref a ∧ SqT M H' a vs ∧ Ext F H G H' ∧ ∀ F1 H1, Pst st G H' F1 H1 → SqT M H1 a vs ∧ Sub F1 H1 ∧ RepL κ F1 H1 items vs [] := by
  cases st with
  | true =>
    simp only [itemsOf, if_true] at e
    by_cases h : noT (.tup ds) = true
    · rw [if_pos h] at e
      cases e
      have x2 := x.grab fr (Rep.own _ _ _ _ _ _ r)
      have r2 := r.fz _ _ _ _ (same_grab fun a m => (fr a m).2) _ _ _ (fun a m => grab_mem m)
      have n2 := noT_fz _ h
      rw [fz] at r2 n2
      rw [noT] at n2
      generalize grab F' H' fp = G at x2 r2
      cases r2 with
      | tup ha hl => exact ⟨_, _, G, rfl, .inl (.inl (x2.fh _ _ ha)), x2, fun F1 H1 p => ⟨.inl (.inl (p.2.1 _ _ (p.1 _ _ ha))), p.2.1, hl.stay _ _ _ _ _ p.1 _ _ _ (fun a m => absurd m (by simp)) n2⟩⟩
    · rw [if_neg h] at e
      cases e
  | false =>
    simp only [itemsOf, Bool.false_eq_true, if_false] at e
    cases e
    have r2 := r.rd _ _ _ x.fh
    rw [rd] at r2
    cases r2 with
    | tup ha hl => exact ⟨_, _, F', rfl, .inl (.inl (x.fh _ _ ha)), x, fun F1 H1 p => ⟨.inl (.inl (p.2.1 _ _ (p.1 _ _ ha))), p.2.1, (rep_mono p.1 (p.2.2 rfl)).2 _ _ _ hl⟩⟩
theorem itemsOf_nox (st : Bool) (d : D) (x : Exn) : itemsOf st d ≠ .exc x := by
  unfold itemsOf
  split <;> (try split) <;> (try split) <;> simp
theorem yields_str {M : PySem.W.Frag} {κ : Kap M} {z : Str} {P : Hp → Hp → Prop} (hs : ∀ F1 H1, P F1 H1 → Sub F1 H1) : Yields κ (Its z) (z.cps.toList.map fun k => .str ⟨#[k]⟩) P := by
  refine ⟨fun i F1 H1 p hi => ?_, fun i F1 H1 x H2 d p hd y => ?_, fun F1 H1 p => ?_⟩
  · show i < z.cps.size
    simpa using hi
  · obtain ⟨rfl, k, h1, rfl⟩ := y
    have e : d = .str ⟨#[k]⟩ := by
      rw [List.getElem?_map] at hd
      have : z.cps.toList[i]? = some k := by simpa using h1
      rw [this] at hd
      exact (Option.some.inj hd).symm
    subst e
    exact ⟨F1, .refl (hs F1 _ p), .str _⟩
  · show z.cps.size ≤ _
    simp
theorem ey_val (ha : EV X c E a f) : EY X c E st tg a (yVal st f) := PI.imp (PI.or (pi_list ha) (PI.or (pi_tup ha) (pi_str ha))) fun σ H R q => by
  obtain ⟨bb, K, F0, F, env, φ, S, p⟩ := q
  unfold yVal at p
  cases z : f env with
  | ok d =>
    simp only [z, Res.bind] at p
    cases w : itemsOf st d with
    | ok items =>
      rw [w] at p
      cases d with
      | nd t k ds =>
        cases k with
        | lst =>
          refine .inl ⟨bb, K, F0, F, env, φ, S, ?_⟩
          rw [z]
          intro v H' F' fp x r nd fr
          obtain ⟨a, vs, G, rfl, h1, x2, sg, ng, h3⟩ := list_src x r fr w
          exact ⟨a, rfl, ⟨vs, h1⟩, p _ _ G x2 (yields_list (F := G) (H := H') h3)⟩
        | _ => simp [itemsOf] at w
      | tup ds =>
        refine .inr (.inl ⟨bb, K, F0, F, env, φ, S, ?_⟩)
        rw [z]
        intro v H' F' fp x r nd fr
        obtain ⟨a, vs, G, rfl, h1, x2, h3⟩ := tup_src x r fr w
        exact ⟨a, rfl, ⟨vs, h1⟩, p _ _ G x2 (yields_tup (F := G) (H := H') h3)⟩
      | str y =>
        refine .inr (.inr ⟨bb, K, F0, F, env, φ, S, ?_⟩)
        rw [z]
        intro v H' F' fp x r nd fr
        cases r
        cases w
        exact ⟨y, rfl, p _ _ F' x (yields_str fun F1 H1 p => p.2.1)⟩
      | _ => simp [itemsOf] at w
    | exc y => exact absurd w (itemsOf_nox _ _ _)
    | stuck => rw [w] at p; exact p.elim
  | exc y =>
    simp only [z, Res.bind] at p
    refine .inl ⟨bb, K, F0, F, env, φ, S, ?_⟩
    rw [z]
    exact p
  | stuck => simp only [z, Res.bind] at p
def rngD (lo : Int) (n : Nat) : List D := (List.range n).map fun i => .int (lo + (i : Nat))
theorem yields_range {M : PySem.W.Frag} {κ : Kap M} {lo : Int} {n : Nat} {P : Hp → Hp → Prop} (hs : ∀ F1 H1, P F1 H1 → Sub F1 H1) : Yields κ (Itr lo n) (rngD lo n) P := by
  refine ⟨fun i F1 H1 p hi => ?_, fun i F1 H1 x H2 d p hd y => ?_, fun F1 H1 p => ?_⟩
  · show i < n
    simpa [rngD] using hi
  · obtain ⟨rfl, rfl⟩ := y
    have e : d = .int (lo + (i : Nat)) := by
      unfold rngD at hd
      rw [List.getElem?_map] at hd
      cases q : (List.range n)[i]? with
      | none => rw [q] at hd; cases hd
      | some j =>
        rw [q] at hd
        rw [List.getElem?_eq_some_iff] at q
        obtain ⟨h, q⟩ := q
        rw [List.getElem_range] at q
        subst q
        exact (Option.some.inj hd).symm
    subst e
    exact ⟨F1, .refl (hs F1 _ p), .int _⟩
  · show n ≤ _
    simp [rngD]
def R62 (a : Int) : Prop := a.natAbs < 4611686018427387904
instance (a : Int) : Decidable (R62 a) := inferInstanceAs (Decidable (_ < _))
def rng1 : List D → Res (List D)
  | [.int j] => if R62 j then .ok (rngD 0 j.toNat) else .stuck
  | _ => .stuck
def yL (k : List D → Res (List D)) (fs : Env → Res (List D)) : Env → Res (List D) := fun env => (fs env).bind k
theorem glueYL {fs : Env → Res (List D)} {k : List D → Res (List D)} {σ : L2.St} {H : Hp} {R : It → Hp → Prop} {Rv : List V → Hp → Prop} (q : TY c E st (yL k fs) σ H R)
    (step : ∀ F F' ds vs fp H' items, Ext F H F' H' → RepL c.κ F' H' ds vs fp → fp.Nodup → (∀ a ∈ fp, H a = none ∧ F' a = none) → k ds = .ok items → (∀ J G, Ext F H G H' → Yields c.κ J items (Pst st G H') → R J H') → Rv vs H')
    (nox : ∀ d x, k d ≠ .exc x) : TL c E fs σ H Rv := by
  obtain ⟨bb, K, F0, F, env, φ, S, p⟩ := q
  refine ⟨bb, K, F0, F, env, φ, S, ?_⟩
  unfold yL at p
  cases z : fs env with
  | ok d =>
    simp only [z, Res.bind] at p
    intro v H' F' fp x r nd fr
    cases w : k d with
    | ok items =>
      rw [w] at p
      exact step F F' d v fp H' items x r nd fr w fun J G x2 y => p J H' G x2 y
    | exc y => exact absurd w (nox d y)
    | stuck => rw [w] at p; exact p.elim
  | exc y => simp only [z, Res.bind] at p; exact p
  | stuck => simp only [z, Res.bind] at p
theorem ey_range1 {fs : Env → Res (List D)} {p : Pos} (hg : Gl X "range") (hm : X.mg "range" = none) (ha : EL X c E [a] fs) (hs : starEach [a] X.env = [(false, eval a X.env)] := by rfl) : EY X c E st tg (.Call (.Name "range" p) [a] [] pos) (yL rng1 fs) :=
  PI.imp (pi_range1 hg hm ha hs) fun σ H R q => glueYL q (fun F F' ds vs fp H' items x r nd fr w go => by
    unfold rng1 at w
    split at w
    · rename_i j
      by_cases h : R62 j
      · rw [if_pos h] at w
        cases w
        obtain ⟨v, fq, rfl, r1⟩ := r.one
        cases r1
        exact ⟨j, rfl, by unfold R62 at h; omega, by unfold R62 at h; omega, go _ F' x (yields_range fun F1 H1 p => p.2.1)⟩
      · rw [if_neg h] at w; cases w
    · cases w) fun d x => by unfold rng1; split <;> (try split) <;> simp
def enumD : Nat → List D → List D
  | _, [] => []
  | i, d :: ds => .tup [.int (i : Nat), d] :: enumD (i + 1) ds
theorem enumD_get : ∀ (ds : List D) (k i : Nat), (enumD k ds)[i]? = (ds[i]?).map fun d => .tup [.int ((k + i : Nat) : Int), d]
  | [], k, i => by simp [enumD]
  | d :: ds, k, 0 => by simp [enumD]
  | d :: ds, k, i + 1 => by
    rw [enumD, List.getElem?_cons_succ, List.getElem?_cons_succ, enumD_get ds (k + 1) i]
    congr 2
    have : k + 1 + i = k + (i + 1) := by omega
    rw [this]
theorem enumD_length : ∀ (ds : List D) (k : Nat), (enumD k ds).length = ds.length
  | [], _ => rfl
  | d :: ds, k => by simp [enumD, enumD_length ds (k + 1)]
theorem yields_enum {M : PySem.W.Frag} {κ : Kap M} {a : Addr} {ds : List D} {vs : List V} {P : Hp → Hp → Prop} (hs : ∀ F1 H1, P F1 H1 → SqL M H1 a vs ∧ Sub F1 H1 ∧ RepL κ F1 H1 ds vs []) : Yields κ (Ite M a) (enumD 0 ds) P := by
  refine ⟨fun i F1 H1 p hi => ?_, fun i F1 H1 x H2 d p hd y => ?_, fun F1 H1 p => ?_⟩
  · obtain ⟨h1, h2, h3⟩ := hs F1 H1 p
    rw [enumD_length] at hi
    have : i < vs.length := by rw [← h3.length]; exact hi
    exact ⟨vs, vs[i], h1, by simp [this]⟩
  · obtain ⟨h1, h2, h3⟩ := hs F1 H1 p
    obtain ⟨T, x', rfl, hT, rfl, y⟩ := y
    rw [enumD_get] at hd
    cases q : ds[i]? with
    | none => rw [q] at hd; cases hd
    | some d' =>
      rw [q] at hd
      cases hd
      obtain ⟨v, fq, h4, h5, h6, _⟩ := h3.get i d' q
      have e := y vs h1
      rw [h4] at e
      cases e
      have : fq = [] := List.eq_nil_iff_forall_not_mem.mpr fun a m => absurd (h6 a m) (by simp)
      subst this
      have x2 : Ext F1 H1 (upd F1 T (.tup [.int (i : Nat), x'])) (upd H1 T (.tup [.int (i : Nat), x'])) := .newF h2 hT
      refine ⟨_, x2, .tup upd_same ?_⟩
      rw [Nat.zero_add]
      exact .cons (fp := []) (fq := []) (.int _) (.cons (fp := []) (fq := []) (h5.ext x2) .nil)
  · obtain ⟨h1, h2, h3⟩ := hs F1 H1 p
    exact ⟨vs, h1, by rw [enumD_length, h3.length]; exact Nat.le_refl _⟩
def enum1 (st : Bool) : List D → Res (List D)
  | [.nd t .lst ds] => (itemsOf st (.nd t .lst ds)).bind fun xs => .ok (enumD 0 xs)
  | _ => .stuck
theorem ey_enum {fs : Env → Res (List D)} {p tpos : Pos} {elts : List Expr} {kk : Nat} (hg : Gl X "enumerate") (hm : X.mg "enumerate" = none) (ha : EL X c E [a] fs) (hs : starEach [a] X.env = [(false, eval a X.env)] := by rfl) :
    EY X c E st (.Tuple elts kk tpos) (.Call (.Name "enumerate" p) [a] [] pos) (yL (enum1 st) fs) :=
  PI.imp (pi_enum hg hm ha hs) fun σ H R q => glueYL q (fun F F' ds vs fp H' items x r nd fr w go => by
    unfold enum1 at w
    split at w
    · rename_i t ds
      cases z : itemsOf st (.nd t .lst ds) with
      | ok xs =>
        rw [z] at w
        cases w
        cases r with
        | cons r1 r2 =>
          cases r2
          obtain ⟨a, vs, G, rfl, h1, x2, sg, ng, h3⟩ := list_src x r1 (fun a m => fr a (List.mem_append_left _ m)) z
          exact ⟨a, vs, rfl, h1, go _ G x2 (yields_enum h3)⟩
      | exc y => exact absurd z (itemsOf_nox _ _ _)
      | stuck => rw [z] at w; cases w
    · cases w) fun d x => by
      unfold enum1
      split
      · rename_i t ds
        cases z : itemsOf st (.nd t .lst ds) with
        | ok xs => simp [Res.bind]
        | exc y => exact absurd z (itemsOf_nox _ _ _)
        | stuck => simp [Res.bind]
      · simp
def zipD : List D → List D → List D
  | x :: xs, y :: ys => .tup [x, y] :: zipD xs ys
  | _, _ => []
theorem zipD_get : ∀ (xs ys : List D) (i : Nat) (d : D), (zipD xs ys)[i]? = some d → ∃ x y, xs[i]? = some x ∧ ys[i]? = some y ∧ d = .tup [x, y]
  | [], _, i, d, h => by simp [zipD] at h
  | _ :: _, [], i, d, h => by simp [zipD] at h
  | x :: xs, y :: ys, 0, d, h => by simp [zipD] at h; exact ⟨x, y, rfl, rfl, h.symm⟩
  | x :: xs, y :: ys, i + 1, d, h => by
    rw [zipD, List.getElem?_cons_succ] at h
    exact zipD_get xs ys i d h
theorem zipD_length : ∀ (xs ys : List D), (zipD xs ys).length = min xs.length ys.length
  | [], _ => by simp [zipD]
  | _ :: _, [] => by simp [zipD]
  | x :: xs, y :: ys => by simp [zipD, zipD_length xs ys]
theorem nil_of_sub {fq : List Addr} (h : ∀ a ∈ fq, a ∈ ([] : List Addr)) : fq = [] := List.eq_nil_iff_forall_not_mem.mpr fun a m => absurd (h a m) (by simp)
theorem yields_zip {M : PySem.W.Frag} {κ : Kap M} {a b : Addr} {ds es : List D} {vs ws : List V} {P : Hp → Hp → Prop} (hs : ∀ F1 H1, P F1 H1 → SqL M H1 a vs ∧ Sub F1 H1 ∧ RepL κ F1 H1 ds vs []) (hs2 : ∀ F1 H1, P F1 H1 → SqL M H1 b ws ∧ Sub F1 H1 ∧ RepL κ F1 H1 es ws []) : Yields κ (Itz M a b) (zipD ds es) P := by
  refine ⟨fun i F1 H1 p hi => ?_, fun i F1 H1 x H2 d p hd y => ?_, fun F1 H1 p => ?_⟩
  · obtain ⟨h1, h2, h3⟩ := hs F1 H1 p
    obtain ⟨k1, k2, k3⟩ := hs2 F1 H1 p
    rw [zipD_length] at hi
    have e1 := h3.length
    have e2 := k3.length
    have : i < vs.length := by omega
    have : i < ws.length := by omega
    exact ⟨vs, ws, vs[i], ws[i], h1, k1, by simp [*], by simp [*]⟩
  · obtain ⟨h1, h2, h3⟩ := hs F1 H1 p
    obtain ⟨k1, k2, k3⟩ := hs2 F1 H1 p
    obtain ⟨T, x', y', rfl, hT, rfl, y1, y2⟩ := y
    obtain ⟨d1, d2, q1, q2, rfl⟩ := zipD_get _ _ _ _ hd
    obtain ⟨v, fq, h4, h5, h6, _⟩ := h3.get i d1 q1
    obtain ⟨w, fr, k4, k5, k6, _⟩ := k3.get i d2 q2
    have e := y1 vs h1
    rw [h4] at e
    cases e
    have e := y2 ws k1
    rw [k4] at e
    cases e
    cases nil_of_sub h6
    cases nil_of_sub k6
    have x2 : Ext F1 H1 (upd F1 T (.tup [x', y'])) (upd H1 T (.tup [x', y'])) := .newF h2 hT
    exact ⟨_, x2, .tup upd_same (.cons (fp := []) (fq := []) (h5.ext x2) (.cons (fp := []) (fq := []) (k5.ext x2) .nil))⟩
  · obtain ⟨h1, h2, h3⟩ := hs F1 H1 p
    obtain ⟨k1, k2, k3⟩ := hs2 F1 H1 p
    have e1 := h3.length
    have e2 := k3.length
    refine ⟨vs, ws, h1, k1, ?_⟩
    rw [zipD_length]
    omega
def zip2 (st : Bool) : List D → Res (List D)
  | [.nd t .lst ds, .nd u .lst es] => (itemsOf st (.nd t .lst ds)).bind fun xs => (itemsOf st (.nd u .lst es)).bind fun ys => .ok (zipD xs ys)
  | _ => .stuck
theorem Pst.mono {st : Bool} {G G2 H F1 H1 : Hp} (h : Same G G2) (p : Pst st G2 H F1 H1) : Pst st G H F1 H1 := ⟨h.trans p.1, p.2.1, p.2.2⟩
theorem ey_zip {fs : Env → Res (List D)} {p tpos : Pos} {elts : List Expr} {kk : Nat} (hg : Gl X "zip") (hm : X.mg "zip" = none) (ha : EL X c E [a, b] fs) (hs : starEach [a, b] X.env = (false, eval a X.env) :: starEach [b] X.env := by rfl) (hpl : (backTo pos (starEach [b] X.env)).any (·.1) = false := by rfl) :
    EY X c E st (.Tuple elts kk tpos) (.Call (.Name "zip" p) [a, b] [] pos) (yL (zip2 st) fs) :=
  PI.imp (pi_zip hg hm ha hs hpl) fun σ H R q => glueYL q (fun F F' ds vs fp H' items x r nd fr w go => by
    unfold zip2 at w
    split at w
    · rename_i t ds u es
      cases z : itemsOf st (.nd t .lst ds) with
      | ok xs =>
        rw [z] at w
        cases z2 : itemsOf st (.nd u .lst es) with
        | ok ys =>
          rw [z2] at w
          cases w
          cases r with
          | cons r1 r2 =>
            cases r2 with
            | cons r2 r3 =>
              cases r3
              obtain ⟨a, vs, G, rfl, h1, x2, sg, ng, h3⟩ := list_src x r1 (fun a m => fr a (List.mem_append_left _ m)) z
              have n2 := List.nodup_append.mp nd
              obtain ⟨b, ws, G2, rfl, k1, x3, sg2, ng2, k3⟩ := list_src x2 ((rep_mono sg (Sm.refl _)).1 _ _ _ r2) (fun a m => by
                have q := fr a (List.mem_append_right _ (List.mem_append_left _ m))
                refine ⟨q.1, ?_⟩
                rw [ng a fun m2 => n2.2.2 a m2 a (List.mem_append_left _ m) rfl]
                exact q.2) z2
              exact ⟨a, b, vs, ws, rfl, h1, k1, go _ G2 x3 (yields_zip (fun F1 H1 p => h3 F1 H1 (p.mono sg2)) k3)⟩
        | exc y => exact absurd z2 (itemsOf_nox _ _ _)
        | stuck => rw [z2] at w; cases w
      | exc y => exact absurd z (itemsOf_nox _ _ _)
      | stuck => rw [z] at w; cases w
    · cases w) fun d x => by
      unfold zip2
      split
      · rename_i t ds u es
        cases z : itemsOf st (.nd t .lst ds) with
        | ok xs =>
          cases z2 : itemsOf st (.nd u .lst es) with
          | ok ys => simp [Res.bind]
          | exc y => exact absurd z2 (itemsOf_nox _ _ _)
          | stuck => simp [Res.bind]
        | exc y => exact absurd z (itemsOf_nox _ _ _)
        | stuck => simp [Res.bind]
      · simp
end
section
variable {X : Cx} {c : Cfg X.K} {E : XK} {st : Bool} {tg e a b : Expr} {pos : Pos} {ws : List Nat}
def TYS {M : PySem.W.Frag} (c : Cfg M) (E : XK) (f : Env → Res (List D × Env)) : TI := fun σ H R => ∃ K F0 F env φ, SE true c.κ K F0 F env φ σ H ∧ match f env with
  | .ok (items, env') => ∀ J H' F' φ', SE true c.κ K F F' env' φ' σ H' → Yields c.κ J items (Pst true F' H') → R J H'
  | .exc x => ∀ cl dd H', Sm K H' → c.xr K x cl dd H' → E cl dd H'
  | .stuck => False
def EYS (X : Cx) (c : Cfg X.K) (E : XK) (tg iter : Expr) (f : Env → Res (List D × Env)) : Prop := PI X tg iter (TYS c E f)
def yLift (f : Env → Res (List D)) : Env → Res (List D × Env) := fun env => (f env).bind fun xs => .ok (xs, env)
theorem eys_of {f : Env → Res (List D)} (h : EY X c E true tg e f) : EYS X c E tg e (yLift f) := PI.imp h fun σ H R q => by
  obtain ⟨K, F0, F, env, φ, S, p⟩ := q
  refine ⟨true, K, F0, F, env, φ, S, ?_⟩
  unfold yLift at p
  cases z : f env with
  | ok xs =>
    simp only [z, Res.bind] at p
    exact fun J H' F' x y => p J H' F' φ (S.self.ext x) y
  | exc y => simp only [z, Res.bind] at p; exact fun cl dd H' s w => p cl dd H' (S.kk.trans s) (c.mono (S.kk) w)
  | stuck => simp only [z, Res.bind] at p
def forget : List Nat → Env → Env
  | [], env => env
  | i :: is, env => forget is (env.set i none)
theorem SE.forget {bb : Bool} {M : PySem.W.Frag} {κ : Kap M} {K F0 F : Hp} {σ : L2.St} {H : Hp} : ∀ (is : List Nat) {env : Env} {φ : Nat → List Addr}, SE bb κ K F0 F env φ σ H → ∃ φ', SE bb κ K F0 F (forget is env) φ' σ H
  | [], env, φ, S => ⟨φ, S⟩
  | i :: is, env, φ, S => SE.forget is (S.drop i)
def forL (s : TgF) (gb : Env → SR) (fg : List Nat) : List D → Env → SR
  | [], env => .ok (.nx, env)
  | d :: ds, env => match s d env with
    | .ok env1 => (gb env1).bind fun r => match r.1 with
      | .nx => forL s gb fg ds (forget fg r.2)
      | .ct => forL s gb fg ds (forget fg r.2)
      | .bk => .ok (.nx, forget fg r.2)
      | .rt d => .ok (.rt d, r.2)
    | _ => .stuck
def sFor (it : Env → Res (List D × Env)) (s : TgF) (gb : Env → SR) (fg : List Nat) : Env → SR := fun env => (it env).bind fun p => forL s gb fg p.1 (forget fg p.2)
theorem es_for {iter : Expr} {body : List Stmt} {it : Env → Res (List D × Env)} {s : TgF} {gb : Env → SR} (fg : List Nat) (hp : PassesOwn (model X.prog X.w) X.A X.env X.xe) (hc : X.calm = true) (hi : EYS X c E tg iter it) (hg : EG X c true tg ws s) (hb : EB X c E body gb)
    (hs : ∀ x, foldedSetIterable iter X.env x = pure x := by intro _; rfl) : ES X c E (.For tg iter body [] pos) (sFor it s gb fg) := PS.imp (ps_for hp hc hi hg hb hs) fun Dn σ H q => by
  obtain ⟨K, F0, F, env, φ, S, p⟩ := q
  refine ⟨K, F0, F, env, φ, S, ?_⟩
  unfold sFor at p
  cases z : it env with
  | ok r =>
    obtain ⟨items, env'⟩ := r
    simp only [z, Res.bind] at p
    intro J H' F' φ' S' Y
    have S0 : SE true c.κ K F0 F' env' φ' σ H' := S.base S'
    refine ⟨fun i m σ H => m = items.length - i ∧ i ≤ items.length ∧ ∃ F1 env φ, SE true c.κ K F0 F1 env φ σ H ∧ Same F' F1 ∧ PostS c E K F0 (forL s gb fg (items.drop i) env) Dn, ⟨items.length, by simp, Nat.zero_le _, ?_⟩, ?_⟩
    · obtain ⟨φ2, S2⟩ := S0.forget fg
      exact ⟨F', _, φ2, S2, Same.refl _, p⟩
    · rintro i m σ1 H1 ⟨rfl, hi, F1, env1, φ1, S1, ff, p1⟩
      by_cases hlt : i < items.length
      · have pst : Pst true F' H' F1 H1 := ⟨ff, S1.fh, fun z => nomatch z⟩
        have hd : items[i]? = some items[i] := List.getElem?_eq_getElem hlt
        rw [List.drop_eq_getElem_cons hlt, forL] at p1
        refine .inr ⟨Y.go i F1 H1 pst hlt, fun σ2 H2 => ∃ m', m' < items.length - i ∧ m' = items.length - (i + 1) ∧ i + 1 ≤ items.length ∧ ∃ F2 env φ, SE true c.κ K F0 F2 env φ σ2 H2 ∧ Same F' F2 ∧ PostS c E K F0 (forL s gb fg (items.drop (i + 1)) env) Dn, fun σ' H' ⟨m', h1, h2⟩ => ⟨m', h1, h2⟩, fun x H2 y => ?_⟩
        obtain ⟨F2, x2, r2⟩ := Y.yld i F1 H1 x H2 _ pst hd y
        have S2 := S1.ext x2
        refine ⟨K, F0, F2, env1, φ1, items[i], [], S2, ⟨r2, .nil, by simp⟩, ?_⟩
        cases w : s items[i] env1 with
        | ok env2 =>
          rw [w] at p1
          dsimp only at p1 ⊢
          intro σ3 H3 F3 φ3 T _ _
          have T0 := S2.base T
          refine ⟨K, F3, F3, env2, φ3, T0.self, ?_⟩
          have again : ∀ {env3 : Env} {σ4 : L2.St} {H4 F4 : Hp} {φ4 : Nat → List Addr}, SE true c.κ K F3 F4 env3 φ4 σ4 H4 → PostS c E K F0 (forL s gb fg (items.drop (i + 1)) (forget fg env3)) Dn → ∃ m', m' < items.length - i ∧ m' = items.length - (i + 1) ∧ i + 1 ≤ items.length ∧ ∃ F2 env φ, SE true c.κ K F0 F2 env φ σ4 H4 ∧ Same F' F2 ∧ PostS c E K F0 (forL s gb fg (items.drop (i + 1)) env) Dn := by
            intro env3 σ4 H4 F4 φ4 T4 q4
            obtain ⟨φ5, T5⟩ := (T0.base T4).forget fg
            exact ⟨_, by omega, rfl, hlt, F4, _, φ5, T5, (((ff.trans x2.ff).trans T.f0.same).trans T4.f0.same), q4⟩
          cases w2 : gb env2 with
          | ok r =>
            obtain ⟨fl, env3⟩ := r
            simp only [w2, Res.bind] at p1
            cases fl with
            | nx => exact fun σ4 H4 F4 φ4 T4 => again T4 p1
            | ct => exact fun σ4 H4 F4 φ4 T4 => again T4 p1
            | bk =>
              intro σ4 H4 F4 φ4 T4
              obtain ⟨φ5, T5⟩ := (T0.base T4).forget fg
              exact p1 σ4 H4 F4 φ5 T5
            | rt d => exact fun v H4 F4 fp T4 => p1 v H4 F4 fp (T4.base T0)
          | exc y => simp only [w2, Res.bind] at p1; exact p1
          | stuck => simp only [w2, Res.bind] at p1; exact p1
        | exc y => rw [w] at p1; exact p1.elim
        | stuck => rw [w] at p1; exact p1.elim
      · have e : i = items.length := by omega
        subst e
        rw [List.drop_length, forL] at p1
        exact .inl ⟨Y.stop F1 H1 ⟨ff, S1.fh, fun z => nomatch z⟩, p1 σ1 H1 F1 φ1 S1⟩
  | exc y => simp only [z, Res.bind] at p; exact p
  | stuck => simp only [z, Res.bind] at p; exact p
end
def wipeE : List Nat → Env → Env
  | [], env => env
  | v :: vs, env => (wipeE vs env).set v none
theorem SE.wiped {bb : Bool} {M : PySem.W.Frag} {κ : Kap M} {K F0 F : Hp} {H : Hp} {env : Env} : ∀ (vs : List Nat) {σ : L2.St} {φ : Nat → List Addr}, SE bb κ K F0 F env φ σ H → ∃ φ', SE bb κ K F0 F (wipeE vs env) φ' (wipe σ vs) H
  | [], σ, φ, S => ⟨φ, S⟩
  | v :: vs, σ, φ, S => by
    obtain ⟨φ1, S1⟩ := SE.wiped vs S
    have S2 := S1.drop v
    refine ⟨_, ?_, S2.kk, S2.f0, S2.fh, S2.gr, fun i d h => ?_, S2.nd, S2.dj, S2.ow⟩
    · have := S2.len
      unfold wipeE L2.wipe
      simpa using this
    · obtain ⟨w, h1, h2⟩ := S2.sl i d h
      refine ⟨w, ?_, h2⟩
      unfold L2.wipe
      have hi : i ≠ v := fun z => by
        subst z
        unfold wipeE at h
        by_cases q : i < (wipeE vs env).length
        · rw [List.getElem?_set_self q] at h; cases h
        · rw [List.getElem?_eq_none (by simpa using q)] at h; cases h
      rw [List.getElem?_set_ne (Ne.symm hi)]
      exact h1
theorem wipe_get {σ : L2.St} {i : Nat} : ∀ {vs : List Nat}, i ∉ vs → (wipe σ vs)[i]? = σ[i]? := fun {vs} h => wipe_out h
theorem wipe_in {σ : L2.St} {i : Nat} (hi : i < σ.length) : ∀ {vs : List Nat}, i ∈ vs → (wipe σ vs)[i]? = some none
  | v :: vs, h => by
    unfold wipe
    by_cases e : v = i
    · subst e
      rw [List.getElem?_set_self (by rw [wipe_length]; exact hi)]
    · rw [List.getElem?_set_ne e]
      rcases List.mem_cons.mp h with z | z
      · exact absurd z.symm e
      · exact wipe_in hi z
theorem wipe_agree {ws vs : List Nat} {σ σ' : L2.St} (a : Agree ws (wipe σ vs) σ') (h : ∀ w ∈ ws, w ∈ vs) : wipe σ' vs = wipe σ vs := by
  have l1 : σ'.length = σ.length := by rw [a.1, wipe_length]
  apply List.ext_getElem?
  intro i
  by_cases hv : i ∈ vs
  · by_cases hi : i < σ.length
    · rw [wipe_in (by rw [l1]; exact hi) hv, wipe_in hi hv]
    · rw [List.getElem?_eq_none (by rw [wipe_length, l1]; omega), List.getElem?_eq_none (by rw [wipe_length]; omega)]
  · rw [wipe_get hv, a.2 i (fun z => hv (h i z)), wipe_get hv]
theorem noTL_append : ∀ xs ys : List D, noTL (xs ++ ys) = (noTL xs && noTL ys)
  | [], ys => by simp [noTL]
  | x :: xs, ys => by simp [noTL, noTL_append xs ys, Bool.and_assoc]
def lcL (s : TgF) (t : Env → Res Bool) (f : Env → Res D) (env : Env) : List D → Res (List D)
  | [] => .ok []
  | d :: ds => match s d env with
    | .ok env1 => match t env1 with
      | .ok true => match f env1 with
        | .ok y => if noT y = true then (lcL s t f env ds).bind fun ys => .ok (y :: ys) else .stuck
        | _ => .stuck
      | .ok false => lcL s t f env ds
      | _ => .stuck
    | _ => .stuck
def eLc (it : Env → Res (List D)) (s : TgF) (t : Env → Res Bool) (f : Env → Res D) (vs : List Nat) : Env → Res D := fun env => (it env).bind fun items => (lcL s t f (wipeE vs env) items).bind fun ys => if ys.length ≤ bigL then .ok (.lst .own ys) else .stuck
def ETs (X : Cx) (c : Cfg X.K) (E : XK) (ifs : List Expr) (t : Env → Res Bool) : Prop := PTs X ifs (TB c E t)
theorem PTs.imp {X : Cx} {e : List Expr} {t t' : TT} (h : PTs X e t) (i : ∀ σ H Q, t' σ H Q → t σ H Q) : PTs X e t' := ⟨fun pins s σ H Q I q => h.run pins s σ H Q I (i σ H Q q)⟩
def bYes : Env → Res Bool := fun _ => .ok true
section
variable {X : Cx} {c : Cfg X.K} {E : XK} {tg e a b : Expr} {pos : Pos} {ws : List Nat}
theorem ets_nil : ETs X c E [] bYes := PTs.imp pts_nil fun σ H Q q => by
  obtain ⟨bb, K, F0, F, env, φ, S, p⟩ := q
  exact p H F (.refl S.fh)
theorem ets_one {t : Env → Res Bool} (h : ET X c E e t) : ETs X c E [e] t := pts_one h
theorem lcL_nox {s : TgF} {t : Env → Res Bool} {f : Env → Res D} {env : Env} : ∀ (ds : List D) (x : Exn), lcL s t f env ds ≠ .exc x
  | [], x => by simp [lcL]
  | d :: ds, x => by
    have ih := lcL_nox (s := s) (t := t) (f := f) (env := env) ds
    rw [lcL]
    repeat' split
    all_goals first
      | (cases z : lcL s t f env ds with
         | ok ys => simp [Res.bind]
         | exc y => exact absurd z (ih y)
         | stuck => simp [Res.bind])
      | exact ih x
      | simp
theorem lc_read {it : Env → Res (List D)} {s : TgF} {t : Env → Res Bool} {f : Env → Res D} {own : List (Str × Nat)} {σ : L2.St} {H : Hp} {Q : VK} (hw : ∀ w ∈ ws, w ∈ own.map (·.2))
    (q : TV c E (eLc it s t f (own.map (·.2))) σ H Q) : tLc (TY c E false it) (TGt c false ws s) (TB c (fun _ _ _ => False) t) (TV c (fun _ _ _ => False) f) (own.map (·.2)) σ H Q := by
  obtain ⟨bb, K, F0, F, env, φ, S, p⟩ := q
  refine ⟨bb, K, F0, F, env, φ, S, ?_⟩
  generalize hvs : own.map (·.2) = vs at *
  unfold eLc at p
  cases z : it env with
  | ok items =>
    simp only [z, Res.bind] at p
    intro J H1 F1 x1 Y D hD
    cases z2 : lcL s t f (wipeE vs env) items with
    | ok ys =>
      simp only [z2] at p
      by_cases hl : ys.length ≤ bigL
      case neg => rw [if_neg hl] at p; exact p.elim
      rw [if_pos hl] at p
      have S1 : SE false c.κ K F0 F1 env φ σ H1 := by
        cases bb with
        | true => exact (S.ext x1).weak
        | false => exact S.ext x1
      obtain ⟨φw, Sw⟩ := S1.wiped vs
      refine ⟨fun i m H2 => m = items.length - i ∧ i ≤ items.length ∧ ∃ F2 ds as fp rest, Ext F1 H1 F2 H2 ∧ F2 D = none ∧ H2 D = some (.lst as) ∧ RepL c.κ F2 H2 ds as fp ∧ fp.Nodup ∧ (∀ a ∈ fp, H1 a = none ∧ F2 a = none ∧ a ≠ D) ∧ noTL ds = true ∧ lcL s t f (wipeE vs env) (items.drop i) = .ok rest ∧ ds ++ rest = ys,
        ⟨items.length, by simp, Nat.zero_le _, F1, [], [], [], ys, .newO x1.fh hD, ?_, upd_same, .nil, .nil, by simp, rfl, z2, rfl⟩, ?_⟩
      · exact x1.fh.free hD
      rintro i m H2 ⟨rfl, hi, F2, ds, as, fp, rest, x2, fD, hDl, r, nd, fr, nt, er, ey⟩
      have pst : Pst false F1 H1 F2 H2 := ⟨x2.ff, x2.fh, fun _ => x2.hh⟩
      by_cases hlt : i < items.length
      · rw [List.drop_eq_getElem_cons hlt, lcL] at er
        have hd : items[i]? = some items[i] := List.getElem?_eq_getElem hlt
        refine .inr ⟨Y.go i F2 H2 pst hlt, fun H' => ∃ F2 ds as fp rest, Ext F1 H1 F2 H' ∧ F2 D = none ∧ H' D = some (.lst as) ∧ RepL c.κ F2 H' ds as fp ∧ fp.Nodup ∧ (∀ a ∈ fp, H1 a = none ∧ F2 a = none ∧ a ≠ D) ∧ noTL ds = true ∧ lcL s t f (wipeE vs env) (items.drop (i + 1)) = .ok rest ∧ ds ++ rest = ys,
          fun H' h => ⟨items.length - (i + 1), by omega, rfl, hlt, h⟩, fun x H3 y => ?_⟩
        obtain ⟨F3, x3, r3⟩ := Y.yld i F2 H2 x H3 _ pst hd y
        have S3 := Sw.ext (x2.trans x3)
        refine ⟨K, F0, F3, wipeE vs env, φw, items[i], [], S3, ⟨r3, .nil, by simp⟩, ?_⟩
        have ntl : ∀ as, ¬ IsTup' (.lst as) := fun _ z => z
        cases w : s items[i] (wipeE vs env) with
        | ok env1 =>
          rw [w] at er
          dsimp only at er ⊢
          intro σ4 H4 F4 φ4 T ag x4
          refine ⟨wipe_agree ag hw, false, K, F3, F4, env1, φ4, T, ?_⟩
          cases w2 : t env1 with
          | ok b =>
            rw [w2] at er
            intro H5 F5 x5
            have x25 := (x3.trans x4).trans x5
            cases b with
            | false =>
              rw [if_neg Bool.false_ne_true]
              exact ⟨F5, ds, as, fp, rest, x2.trans x25, x25.notF fD hDl (ntl _), x25.hh _ _ hDl, r.ext x25, nd, fun a m => by
                obtain ⟨o, h1, h2⟩ := RepL.own _ _ _ _ _ _ r a m
                exact ⟨(fr a m).1, x25.notF (fr a m).2.1 h1 h2, (fr a m).2.2⟩, nt, er, ey⟩
            | true =>
              rw [if_pos rfl]
              refine ⟨false, K, F3, F5, env1, φ4, T.ext x5, ?_⟩
              cases w3 : f env1 with
              | ok yd =>
                rw [w3] at er
                dsimp only at er
                by_cases hn : noT yd = true
                case neg => rw [if_neg hn] at er; cases er
                rw [if_pos hn] at er
                cases z3 : lcL s t f (wipeE vs env) (List.drop (i + 1) items) with
                | ok ys' =>
                  rw [z3] at er
                  cases er
                  intro v H6 F6 fq x6 r6 nd6 fr6
                  have x26 := x25.trans x6
                  have hD5 : H5 D = some (.lst as) := x25.hh _ _ hDl
                  have hD6 : H6 D = some (.lst as) := x26.hh _ _ hDl
                  have lenas : as.length = ds.length := r.length.symm
                  refine ⟨as, hD6, ?_, ?_⟩
                  · have : ds.length + (ys'.length + 1) ≤ bigL := by
                      rw [← ey] at hl
                      simpa using hl
                    have h2 := bigL_line (n := ds.length + (ys'.length + 1)) this
                    omega
                  · have fD6 : F6 D = none := x26.notF fD hDl (ntl _)
                    have nD : ∀ a ∈ fq, a ≠ D := fun a m z => by
                      have q := (fr6 a m).1
                      rw [z, hD5] at q
                      cases q
                    refine ⟨F6, ds ++ [yd], as ++ [v], fp ++ fq, ys', ⟨(x2.trans x26).hh.upd hD, (x2.trans x26).ff, x26.fh.upd fD6 hD6 (fun z => z), (x2.trans x26).gr⟩, fD6, upd_same, ?_, ?_, ?_, ?_, rfl, by rw [← ey]; simp⟩
                    · have ra := r.ext x26
                      have q1 := ra.stay _ _ _ F6 (upd H6 D (.lst (as ++ [v]))) (Same.refl _) _ _ _ (fun a m => upd_ne (fr a m).2.2) nt
                      have q2 := r6.stay _ _ _ F6 (upd H6 D (.lst (as ++ [v]))) (Same.refl _) _ _ _ (fun a m => upd_ne (nD a m)) hn
                      have q3 := q1.append (RepL.cons q2 .nil)
                      simpa using q3
                    · refine List.nodup_append.mpr ⟨nd, nd6, fun a m b m2 z => ?_⟩
                      subst z
                      obtain ⟨o, h1, h2⟩ := RepL.own _ _ _ _ _ _ r a m
                      have := (fr6 a m2).1
                      rw [x25.hh.at_ _ _ h1 (nTb_of h2)] at this
                      cases this
                    · intro a m
                      rcases List.mem_append.mp m with m | m
                      · obtain ⟨o, h1, h2⟩ := RepL.own _ _ _ _ _ _ r a m
                        exact ⟨(fr a m).1, x26.notF (fr a m).2.1 h1 h2, (fr a m).2.2⟩
                      · exact ⟨(x2.trans x25).hh.free (fr6 a m).1, (fr6 a m).2, nD a m⟩
                    · rw [noTL_append]
                      simp [nt, hn, noTL]
                | exc y => exact absurd z3 (lcL_nox _ _)
                | stuck => rw [z3] at er; cases er
              | exc y => rw [w3] at er; cases er
              | stuck => rw [w3] at er; cases er
          | exc y => rw [w2] at er; cases er
          | stuck => rw [w2] at er; cases er
        | exc y => rw [w] at er; cases er
        | stuck => rw [w] at er; cases er
      · have e : i = items.length := by omega
        subst e
        rw [List.drop_length, lcL] at er
        cases er
        rw [List.append_nil] at ey
        subst ey
        refine .inl ⟨Y.stop F2 H2 pst, p (.ref D) H2 F2 (D :: fp) (x1.trans x2) (.ndO hDl rfl r) (List.nodup_cons.mpr ⟨fun m => (fr D m).2.2 rfl, nd⟩) fun a m => ?_⟩
        rcases List.mem_cons.mp m with rfl | m
        · exact ⟨x1.hh.free hD, fD⟩
        · exact ⟨x1.hh.free (fr a m).1, (fr a m).2.1⟩
    | exc y => exact absurd z2 (lcL_nox _ _)
    | stuck => simp only [z2] at p; exact p.elim
  | exc y => simp only [z, Res.bind] at p; exact p
  | stuck => simp only [z, Res.bind] at p; exact p
theorem ev_lc {elt tg iter : Expr} {ifs : List Expr} {scope : Scope} (own : List (Str × Nat)) {it : Env → Res (List D)} {s : TgF} {t : Env → Res Bool} {f : Env → Res D} (hc : X.calm = true) (hN : X.N.Nodup) (hi : EY X c E false tg iter it) (ok : BlkOk X.N X.env.scope scope own)
    (hg : ∀ (s' : Shared) (H : Hp) (C : Addr) (cl : List (Str × Addr)) (fp : List Addr), EG (X.blk s' H scope (compEnvC scope cl C X.env) fp) c false tg ws s) (ht : ∀ (s : Shared) (H : Hp) (C : Addr) (cl : List (Str × Addr)) (fp : List Addr), ETs (X.blk s H scope (compEnvC scope cl C X.env) fp) c (fun _ _ _ => False) ifs t)
    (he : ∀ (s : Shared) (H : Hp) (C : Addr) (cl : List (Str × Addr)) (fp : List Addr), EV (X.blk s H scope (compEnvC scope cl C X.env) fp) c (fun _ _ _ => False) elt f) (hw : ∀ w ∈ ws, w ∈ own.map (·.2) := by decide) (hs : ∀ x, foldedSetIterable iter X.env x = pure x := by intro _; rfl) :
    EV X c E (.ListComp elt [⟨tg, iter, ifs, 0⟩] scope pos) (eLc it s t f (own.map (·.2))) :=
  PE.imp (pe_lc (g := TGt c false ws s) (tt := TB c (fun _ _ _ => False) t) (te := TV c (fun _ _ _ => False) f) hc hN hi ok hg ht he hs) fun σ H Q q => lc_read hw q
theorem es_lc (i : Nat) {y : Str} {py spos : Pos} {elt tg iter : Expr} {ifs : List Expr} {scope : Scope} (own : List (Str × Nat)) {it : Env → Res (List D)} {s : TgF} {t : Env → Res Bool} {f : Env → Res D} (hc : X.calm = true) (hN : X.N.Nodup) (hyl : X.env.scope.names.lookup y = some .local)
    (hsw : swapsWith (.ListComp elt [⟨tg, iter, ifs, 0⟩] scope pos) (some (.Name y py)) spos.line X.env = pure true) (hi : EY X c E false tg iter it) (ok : BlkOk X.N X.env.scope scope own)
    (hg : ∀ (s' : Shared) (H : Hp) (C : Addr) (cl : List (Str × Addr)) (fp : List Addr), EG (X.blk s' H scope (compEnvC scope cl C X.env) fp) c false tg ws s) (ht : ∀ (s : Shared) (H : Hp) (C : Addr) (cl : List (Str × Addr)) (fp : List Addr), ETs (X.blk s H scope (compEnvC scope cl C X.env) fp) c (fun _ _ _ => False) ifs t)
    (he : ∀ (s : Shared) (H : Hp) (C : Addr) (cl : List (Str × Addr)) (fp : List Addr), EV (X.blk s H scope (compEnvC scope cl C X.env) fp) c (fun _ _ _ => False) elt f) (hy : X.N[i]? = some y := by rfl) (hw : ∀ w ∈ ws, w ∈ own.map (·.2) := by decide) (hs : ∀ x, foldedSetIterable iter X.env x = pure x := by intro _; rfl) :
    ES X c E (.Assign [.Name y py] (.ListComp elt [⟨tg, iter, ifs, 0⟩] scope pos) spos) (sSet i (eLc it s t f (own.map (·.2)))) :=
  PS.imp (ps_setLc (g := TGt c false ws s) (tt := TB c (fun _ _ _ => False) t) (te := TV c (fun _ _ _ => False) f) hc hN hy hyl hsw hi ok hg ht he hs) fun Dn σ H q => lc_read hw (glueS (k := fun d env => store i d env) q fun K F0 F F' env φ d v fp H' S x r nd fr p => by
    unfold store at p
    by_cases h : noT d = true
    · rw [if_pos h] at p
      exact p _ H' F' _ (S.set x r nd fr (fun _ => h) i)
    · rw [if_neg h] at p
      exact p.elim)
end
def PostF {M : PySem.W.Frag} (c : Cfg M) (E : XK) (K F0 : Hp) (r : Res D) (Q : VK) : Prop := match r with
  | .ok d => ∀ v H F fp, RetOk c.κ K F0 F H d v fp → Q v H
  | .exc x => ∀ cl dd H, Sm K H → c.xr K x cl dd H → E cl dd H
  | .stuck => False
mutual
def noP : D → Bool
  | .tup ds => noPL ds
  | .nd _ _ ds => noPL ds
  | .pin _ _ => false
  | .pack _ _ => false
  | _ => true
def noPL : List D → Bool
  | [] => true
  | d :: ds => noP d && noPL ds
end
mutual
theorem noP_fz : ∀ d : D, noP (fz d) = true
  | .non => rfl
  | .bl _ => rfl
  | .int _ => rfl
  | .str _ => rfl
  | .tup ds => by rw [fz, noP]; exact noPL_fz ds
  | .nd t k ds => by rw [fz, noP]; exact noPL_fz ds
  | .pin _ d => by rw [fz]; exact noP_fz d
  | .pack d _ => by rw [fz]; exact noP_fz d
theorem noPL_fz : ∀ ds : List D, noPL (fzL ds) = true
  | [] => rfl
  | d :: ds => by rw [fzL, noPL, noP_fz d, noPL_fz ds]; rfl
end
mutual
theorem noP_fa : ∀ d : D, noP (fa d) = true
  | .non => rfl
  | .bl _ => rfl
  | .int _ => rfl
  | .str _ => rfl
  | .tup ds => by rw [fa, noP]; exact noPL_fa ds
  | .nd t k ds => by rw [fa, noP]; exact noPL_fa ds
  | .pin _ d => by rw [fa]; exact noP_fa d
  | .pack d _ => by rw [fa]; exact noP_fa d
theorem noPL_fa : ∀ ds : List D, noPL (faL ds) = true
  | [] => rfl
  | d :: ds => by rw [faL, noPL, noP_fa d, noPL_fa ds]; rfl
end
def SpD {M : PySem.W.Frag} (c : Cfg M) (n : Nat) (Φ : List D → Res D) : Sp := fun vs H Q E => ∃ K F0 ds, Sm K H ∧ (Sub F0 H ∧ Mks c.κ F0 ∧ noPL ds = true) ∧ RepL c.κ F0 H ds vs [] ∧ noTL ds = true ∧ ds.length = n ∧ PostF c E K F0 (Φ ds) Q
def runF (N : Nat) (g : Env → SR) (ds : List D) : Res D := match g (ds.map some ++ List.replicate (N - ds.length) none) with
  | .ok (.rt d, _) => .ok d
  | .ok (.nx, _) => .ok .non
  | .exc x => .exc x
  | _ => .stuck
section
variable {P : Program} {w : World} {K : PySem.W.Frag} {mg : Str → Option Value} {base : Heap}
theorem se_start {M : PySem.W.Frag} {c : Cfg M} {Kh F0 H : Hp} {ds : List D} {vs : List V} {N : List Str} (kk : Sm Kh H) (fh : Sub F0 H) (mk : Mks c.κ F0) (r : RepL c.κ F0 H ds vs []) (nt : noTL ds = true) :
    SE true c.κ Kh F0 F0 (ds.map some ++ List.replicate (N.length - ds.length) none) (fun _ => []) (L2.start N vs) H := by
  have el := r.length
  refine ⟨by unfold L2.start; simp [el], kk, ⟨Same.refl _, mk⟩, fh, fun _ _ e => .inl e, fun i d h => ?_, fun _ => .nil, fun _ _ _ a m => absurd m (by simp), fun _ a m => absurd m (by simp)⟩
  have hi : i < ds.length := by
    by_cases q : i < ds.length
    · exact q
    · rw [List.getElem?_append_right (by simpa using q), List.getElem?_replicate] at h
      split at h <;> cases h
  have hd : ds[i]? = some d := by
    rw [List.getElem?_append_left (by simpa using hi), List.getElem?_map] at h
    cases e : ds[i]? with
    | none => rw [e] at h; cases h
    | some a => rw [e] at h; cases h; rfl
  obtain ⟨v, fq, h1, h2, h3, _⟩ := r.get i d hd
  cases nil_of_sub h3
  refine ⟨v, ?_, h2, fun _ => ?_⟩
  · unfold L2.start
    rw [List.getElem?_append_left (by simp; omega), List.getElem?_map, h1]
    rfl
  · have : ∀ (ds : List D) (i : Nat) (d : D), noTL ds = true → ds[i]? = some d → noT d = true := by
      intro ds
      induction ds with
      | nil => intro i d _ h; simp at h
      | cons e es ih =>
        intro i d h1 h2
        rw [noTL, Bool.and_eq_true] at h1
        cases i with
        | zero => simp at h2; subst h2; exact h1.1
        | succ i => exact ih i d h1.2 (by simpa using h2)
    exact this ds i d nt hd
end
def callD (Φ : List D → Res D) (ds : List D) : Res D := if noTL ds = true then Φ (fzL ds) else (Φ (faL ds)).bind fun d => if imO d = true then .ok d else .stuck
def eCall (Φ : List D → Res D) (dd : List D) (fs : Env → Res (List D)) : Env → Res D := fun env => (fs env).bind fun ds => callD Φ (ds ++ dd)
theorem faL_length : ∀ ds : List D, (faL ds).length = ds.length
  | [] => rfl
  | d :: ds => by rw [faL]; simp [faL_length ds]
mutual
theorem noT_fa : ∀ d : D, noT (fa d) = true
  | .non => rfl
  | .bl _ => rfl
  | .int _ => rfl
  | .str _ => rfl
  | .tup ds => by rw [fa, noT]; exact noTL_fa ds
  | .nd t k ds => by rw [fa, noT, noTL_fa ds]; rfl
  | .pin _ d => by rw [fa]; exact noT_fa d
  | .pack d _ => by rw [fa]; exact noT_fa d
theorem noTL_fa : ∀ ds : List D, noTL (faL ds) = true
  | [] => rfl
  | d :: ds => by rw [faL, noTL, noT_fa d, noTL_fa ds]; rfl
end
def tupsOf (F F' : Hp) : Hp := fun a => match F a with
  | some o => some o
  | none => match F' a with
    | some (.tup vs) => some (.tup vs)
    | _ => none
theorem tups_sub {F F' H : Hp} (sub : Same F F') (fh : Sub F' H) : Sub (tupsOf F F') H := ⟨fun a o e n => by
  unfold tupsOf at e
  cases q : F a with
  | some o' => rw [q] at e; cases e; exact fh.at_ _ _ (sub _ _ q) n
  | none =>
    rw [q] at e
    dsimp only at e
    split at e
    · rename_i q2
      cases e
      exact fh.at_ _ _ q2 n
    · (cases e), fun a ps e => by
  unfold tupsOf at e
  cases q : F a with
  | some o' => rw [q] at e; cases e; exact fh.tb _ _ (sub _ _ q)
  | none =>
    rw [q] at e
    dsimp only at e
    split at e
    · cases e
    · cases e⟩
theorem call_post {M : PySem.W.Frag} {c : Cfg M} {E : XK} {n : Nat} {Φ : List D → Res D} {F H F' H' : Hp} {ds : List D} {vs : List V} {fp : List Addr} {Q : VK} (x : Ext F H F' H') (r : RepL c.κ F' H' ds vs fp) (nd : fp.Nodup) (fr : ∀ a ∈ fp, H a = none ∧ F' a = none) (hn : ds.length = n)
    (mk : Mks c.κ F) (p : PostV c E F H (callD Φ ds) Q) : SpD c n Φ vs H' Q E := by
  unfold callD at p
  by_cases h : noTL ds = true
  · rw [if_pos h] at p
    have x2 := x.grab fr (RepL.own _ _ _ _ _ _ r)
    refine ⟨H', grab F' H' fp, fzL ds, Sm.refl _, ⟨x2.fh, mk.up x2.ff, noPL_fz ds⟩, r.fz _ _ _ _ (same_grab fun a m => (fr a m).2) _ _ _ (fun a m => grab_mem m), noTL_fz ds h, by rw [fzL_length]; exact hn, ?_⟩
    cases z : Φ (fzL ds) with
    | ok d =>
      rw [z] at p
      intro v H2 F2 fq R
      exact p v H2 F2 fq ⟨x.hh.trans R.kk, x2.ff.trans (R.f0.sameT (mk.up x2.ff)), R.fh, fun a o e => by
        rcases R.gr a o e with q | q | q
        · exact x2.gr a o q
        · exact .inr (.inl (x.hh.free q))
        · exact .inr (.inr q)⟩ R.rep R.nd fun a m => ⟨x.hh.free (R.ow a m).2, (R.ow a m).1⟩
    | exc y => rw [z] at p; exact fun cl dd H2 s q => p cl dd H2 (x.hh.trans s) (c.mono (x.hh) q)
    | stuck => rw [z] at p; exact p
  · rw [if_neg h] at p
    refine ⟨H', seen F' H', faL ds, Sm.refl _, ⟨seen_sub x.fh, mk.up (x.ff.trans sameT_seen), noPL_fa ds⟩, r.fa _ _ _ x.fh _ _ _, noTL_fa ds, by rw [faL_length]; exact hn, ?_⟩
    cases z : Φ (faL ds) with
    | ok d =>
      rw [z] at p
      simp only [Res.bind] at p
      by_cases hi : imO d = true
      · rw [if_pos hi] at p
        intro v H2 F2 fq R
        have sub : Same F' F2 := same_seen.trans R.f0.same
        have tp : ∀ a vs, F2 a = some (.tup vs) → tupsOf F' F2 a = some (.tup vs) := fun a vs e => by
          unfold tupsOf
          cases q : F' a with
          | some o => have := sub a o q; rw [e] at this; exact this.symm
          | none => rw [e]
        have r2 := R.rep.imO _ _ _ _ tp _ _ _ hi
        refine p v H2 (tupsOf F' F2) fq ⟨x.hh.trans R.kk, ⟨fun a o e => ?_, fun a ps e => ?_⟩, tups_sub sub R.fh, fun a o e => ?_⟩ r2 R.nd (fun a m => ⟨x.hh.free (R.ow a m).2, ?_⟩)
        · unfold tupsOf
          rw [x.ff a o e]
        · unfold tupsOf at e
          cases q : F' a with
          | some o' => rw [q] at e; cases e; exact x.ff.nt a _ q
          | none =>
            rw [q] at e
            dsimp only at e
            split at e
            · cases e
            · cases e
        · unfold tupsOf at e
          cases q : F' a with
          | some o' => rw [q] at e; cases e; exact x.gr a _ q
          | none =>
            rw [q] at e
            dsimp only at e
            split at e
            · cases e
              exact .inr (.inr trivial)
            · cases e
        · have e2 := (R.ow a m).1
          unfold tupsOf
          cases q : F' a with
          | some o => rw [sub a o q] at e2; cases e2
          | none => rw [e2]
      · rw [if_neg hi] at p
        exact p.elim
    | exc y => rw [z] at p; exact fun cl dd H2 s q => p cl dd H2 (x.hh.trans s) (c.mono (x.hh) q)
    | stuck => rw [z] at p; exact p
section
variable {X : Cx} {c : Cfg X.K} {E : XK} {e a b : Expr} {es : List Expr} {pos p : Pos} {fs : Env → Res (List D)} {k n : Nat} {f : Addr} {fd : FuncData} {ps : List Str} {Φ : List D → Res D} {x : Str} {dd : List D} {dvs : List V} {dus : List Value}
theorem glueCall {σ : L2.St} {H : Hp} {Q : VK} (hd : ∀ F H, RepL c.κ F H dd dvs []) (hn : ∀ (ds : List D) (vs : List V), ds.length = vs.length → vs.length + dvs.length = n ∨ callD Φ (ds ++ dd) = .stuck) (q : TV c E (eCall Φ dd fs) σ H Q) : TL c E fs σ H fun vs H1 => SpD c n Φ (vs ++ dvs) H1 Q E := by
  obtain ⟨bb, K, F0, F, env, φ, S, p⟩ := q
  refine ⟨bb, K, F0, F, env, φ, S, ?_⟩
  unfold eCall at p
  cases z : fs env with
  | ok ds =>
    simp only [z, Res.bind] at p
    intro vs H' F' fp x r nd fr
    rcases hn ds vs r.length with h | h
    · have r2 := r.append (hd F' H')
      rw [List.append_nil] at r2
      exact call_post x r2 nd fr (by rw [r2.length, List.length_append]; exact h) S.f0.mks p
    · rw [h] at p
      exact p.elim
  | exc y => simp only [z, Res.bind] at p; exact p
  | stuck => simp only [z, Res.bind] at p; exact p
def lenIs (n : Nat) (Φ : List D → Res D) : List D → Res D := fun ds => if ds.length = n then Φ ds else .stuck
theorem len_or (ds : List D) (vs : List V) (hd : dd.length = dvs.length) (h : ds.length = vs.length) : vs.length + dvs.length = n ∨ callD (lenIs n Φ) (ds ++ dd) = .stuck := by
  by_cases q : vs.length + dvs.length = n
  · exact .inl q
  · right
    unfold callD lenIs
    have e : (ds ++ dd).length = vs.length + dvs.length := by rw [List.length_append, h, hd]
    rw [fzL_length, faL_length, e, if_neg q]
    split <;> rfl
theorem FnOk.len {P : Program} {w : World} {K : PySem.W.Frag} {c : Cfg K} {mg : Str → Option Value} {base : Heap} {CX : CXT} (F : FnOk P w K mg base CX k f fd ps (SpD c n Φ)) : FnOk P w K mg base CX k f fd ps (SpD c n (lenIs n Φ)) := F.imp fun vs H Q E h => by
  obtain ⟨Kh, F0, ds, kk, fh, r, nt, hl, p⟩ := h
  refine ⟨Kh, F0, ds, kk, fh, r, nt, hl, ?_⟩
  unfold lenIs at p
  rw [if_pos hl] at p
  exact p
theorem FnOk.eqv {P : Program} {w : World} {K : PySem.W.Frag} {c : Cfg K} {mg : Str → Option Value} {base : Heap} {CX : CXT} {Ψ : List D → Res D} (F : FnOk P w K mg base CX k f fd ps (SpD c n Φ)) (h : ∀ ds, Ψ ds = .stuck ∨ Φ ds = Ψ ds) : FnOk P w K mg base CX k f fd ps (SpD c n Ψ) := F.imp fun vs H Q E q => by
  obtain ⟨Kh, F0, ds, kk, fh, r, nt, hl, p⟩ := q
  refine ⟨Kh, F0, ds, kk, fh, r, nt, hl, ?_⟩
  rcases h ds with e | e
  · rw [e] at p; exact p.elim
  · rw [e]; exact p
end
section
variable {X : Cx} {c : Cfg X.K} {E : XK} {e a b d : Expr} {f g h : Env → Res D} {pos apos p : Pos} {es : List Expr}
theorem call_intA : CallR X (.type "int") rInt := CallR.or call_int1 call_int_str
theorem ev_int_ {fs : Env → Res (List D)} (hg : Gl X "int") (hm : X.mg "int" = none) (ha : EL X c E [e] fs) (he : starEach [e] X.env = (false, eval e X.env) :: starEach [] X.env := by rfl) : EV X c E (.Call (.Name "int" p) [e] [] pos) (eC_ dInt fs) :=
  ev_callTy opc_int call_intA hg hm (by decide +kernel) ha (by decide) (by decide) he
def ints? : List D → Option (List Int)
  | [] => some []
  | .int i :: r => (ints? r).map fun is => i :: is
  | _ :: _ => none
theorem ints_rep {M : PySem.W.Frag} {κ : Kap M} {F H : Hp} : ∀ {ds : List D} {vs : List V} {fp : List Addr} {is : List Int}, RepL κ F H ds vs fp → ints? ds = some is → vs = is.map V.int ∧ ds = is.map D.int
  | _, _, _, is, .nil, h => by cases h; exact ⟨rfl, rfl⟩
  | _, _, _, is, .cons (d := d) r t, h => by
    cases d with
    | int i =>
      rw [ints?] at h
      cases q : ints? _ with
      | none => rw [q] at h; cases h
      | some js =>
        rw [q] at h
        cases h
        obtain ⟨h1, h2⟩ := ints_rep t q
        cases r
        rw [h1, h2]
        exact ⟨rfl, rfl⟩
    | _ => simp [ints?] at h
def dSum : List D → Res D
  | [.nd _ .lst ds] => (ofO (ints? ds)).bind fun is => .ok (.int is.sum)
  | _ => .stuck
theorem opc_sum : OpC c (rSum X.K) dSum := by
  intro E F H ds vs fp Q fh r p
  unfold dSum at p
  split at p
  · rename_i t ds
    obtain ⟨v, fq, rfl, r1⟩ := r.one
    obtain ⟨a, vs, fq, rfl, h1, h2, _⟩ := r1.sqL fh
    cases q : ints? ds with
    | none => rw [q] at p; exact p.elim
    | some is =>
      rw [q] at p
      obtain ⟨rfl, _⟩ := ints_rep h2 q
      exact ⟨a, is, rfl, h1, PostV.int p fh⟩
  · exact p.elim
theorem ev_sum {fs : Env → Res (List D)} (hc : X.calm = true) (hg : Gl X "sum") (hm : X.mg "sum" = none) (ha : EL X c E [e] fs) (he : starEach [e] X.env = (false, eval e X.env) :: starEach [] X.env := by rfl) : EV X c E (.Call (.Name "sum" p) [e] [] pos) (eC_ dSum fs) :=
  ev_callB opc_sum (cr_sum hc) hg hm (by decide +kernel) ha (by decide) (by decide) he
def maxI : List Int → Option Int
  | [] => none
  | x :: xs => some (xs.foldl max x)
def minI : List Int → Option Int
  | [] => none
  | x :: xs => some (xs.foldl min x)
theorem foldl_max_le : ∀ (xs : List Int) (a : Int), a ≤ xs.foldl max a ∧ (∀ y ∈ xs, y ≤ xs.foldl max a) ∧ (xs.foldl max a = a ∨ xs.foldl max a ∈ xs)
  | [], a => ⟨Int.le_refl _, by simp, .inl rfl⟩
  | x :: xs, a => by
    obtain ⟨h1, h2, h3⟩ := foldl_max_le xs (max a x)
    rw [List.foldl_cons]
    refine ⟨by omega, fun y hy => ?_, ?_⟩
    · rcases List.mem_cons.mp hy with rfl | hy
      · omega
      · exact h2 y hy
    · rcases h3 with h | h
      · rw [h]
        by_cases q : a ≤ x
        · right; rw [Int.max_eq_right q]; exact List.mem_cons_self
        · left; rw [Int.max_eq_left (by omega)]
      · right; exact List.mem_cons_of_mem _ h
theorem foldl_min_le : ∀ (xs : List Int) (a : Int), xs.foldl min a ≤ a ∧ (∀ y ∈ xs, xs.foldl min a ≤ y) ∧ (xs.foldl min a = a ∨ xs.foldl min a ∈ xs)
  | [], a => ⟨Int.le_refl _, by simp, .inl rfl⟩
  | x :: xs, a => by
    obtain ⟨h1, h2, h3⟩ := foldl_min_le xs (min a x)
    rw [List.foldl_cons]
    refine ⟨by omega, fun y hy => ?_, ?_⟩
    · rcases List.mem_cons.mp hy with rfl | hy
      · omega
      · exact h2 y hy
    · rcases h3 with h | h
      · rw [h]
        by_cases q : x ≤ a
        · right; rw [Int.min_eq_right q]; exact List.mem_cons_self
        · left; rw [Int.min_eq_left (by omega)]
      · right; exact List.mem_cons_of_mem _ h
def dMax : List D → Res D
  | [.nd _ .lst ds] => (ofO (ints? ds)).bind fun is => (ofO (maxI is)).bind fun m => .ok (.int m)
  | [.int i, .int j] => .ok (.int (max i j))
  | _ => .stuck
def dMin : List D → Res D
  | [.nd _ .lst ds] => (ofO (ints? ds)).bind fun is => (ofO (minI is)).bind fun m => .ok (.int m)
  | [.int i, .int j] => .ok (.int (min i j))
  | _ => .stuck
theorem opc_max : OpC c (fun xs H Q => rMax X.K xs H Q ∨ ∃ i j, xs = [.int i, .int j] ∧ Q (.int (if j > i then j else i)) H) dMax := by
  intro E F H ds vs fp Q fh r p
  unfold dMax at p
  split at p
  · rename_i t ds
    obtain ⟨v, fq, rfl, r1⟩ := r.one
    obtain ⟨a, vs, fq, rfl, h1, h2, _⟩ := r1.sqL fh
    cases q : ints? ds with
    | none => rw [q] at p; exact p.elim
    | some is =>
      rw [q] at p
      obtain ⟨rfl, _⟩ := ints_rep h2 q
      cases is with
      | nil => exact p.elim
      | cons x xs =>
        refine .inl ⟨a, x :: xs, rfl, h1, by simp, fun m hm hle => ?_⟩
        obtain ⟨k1, k2, k3⟩ := foldl_max_le xs x
        have e : m = xs.foldl max x := by
          have h3 : m ≤ xs.foldl max x := by
            rcases List.mem_cons.mp hm with rfl | hm
            · exact k1
            · exact k2 m hm
          have h4 : xs.foldl max x ≤ m := by
            rcases k3 with k | k
            · rw [k]; exact hle x List.mem_cons_self
            · exact hle _ (List.mem_cons_of_mem _ k)
          omega
        rw [e]
        exact PostV.int p fh
  · obtain ⟨v, v', fq, fr, rfl, r1, r2⟩ := r.two
    cases r1
    cases r2
    refine .inr ⟨_, _, rfl, ?_⟩
    have : ∀ i j : Int, (if j > i then j else i) = max i j := fun i j => by split <;> omega
    rw [this]
    exact p.int fh
  · exact p.elim
theorem opc_min : OpC c (fun xs H Q => rMin X.K xs H Q ∨ ∃ i j, xs = [.int i, .int j] ∧ Q (.int (if j < i then j else i)) H) dMin := by
  intro E F H ds vs fp Q fh r p
  unfold dMin at p
  split at p
  · rename_i t ds
    obtain ⟨v, fq, rfl, r1⟩ := r.one
    obtain ⟨a, vs, fq, rfl, h1, h2, _⟩ := r1.sqL fh
    cases q : ints? ds with
    | none => rw [q] at p; exact p.elim
    | some is =>
      rw [q] at p
      obtain ⟨rfl, _⟩ := ints_rep h2 q
      cases is with
      | nil => exact p.elim
      | cons x xs =>
        refine .inl ⟨a, x :: xs, rfl, h1, by simp, fun m hm hle => ?_⟩
        obtain ⟨k1, k2, k3⟩ := foldl_min_le xs x
        have e : m = xs.foldl min x := by
          have h3 : xs.foldl min x ≤ m := by
            rcases List.mem_cons.mp hm with rfl | hm
            · exact k1
            · exact k2 m hm
          have h4 : m ≤ xs.foldl min x := by
            rcases k3 with k | k
            · rw [k]; exact hle x List.mem_cons_self
            · exact hle _ (List.mem_cons_of_mem _ k)
          omega
        rw [e]
        exact PostV.int p fh
  · obtain ⟨v, v', fq, fr, rfl, r1, r2⟩ := r.two
    cases r1
    cases r2
    refine .inr ⟨_, _, rfl, ?_⟩
    have : ∀ i j : Int, (if j < i then j else i) = min i j := fun i j => by split <;> omega
    rw [this]
    exact p.int fh
  · exact p.elim
theorem ev_max {fs : Env → Res (List D)} (hc : X.calm = true) (hg : Gl X "max") (hm : X.mg "max" = none) (ha : EL X c E (e :: es) fs) (he : starEach (e :: es) X.env = (false, eval e X.env) :: starEach es X.env := by rfl) (hpl : (backTo pos (starEach es X.env)).any (·.1) = false := by rfl) : EV X c E (.Call (.Name "max" p) (e :: es) [] pos) (eC_ dMax fs) :=
  ev_callB opc_max (CallR.or (cr_max hc) (call_max2 hc)) hg hm (by decide +kernel) ha (by decide) (by decide) he hpl
theorem ev_min {fs : Env → Res (List D)} (hc : X.calm = true) (hg : Gl X "min") (hm : X.mg "min" = none) (ha : EL X c E (e :: es) fs) (he : starEach (e :: es) X.env = (false, eval e X.env) :: starEach es X.env := by rfl) (hpl : (backTo pos (starEach es X.env)).any (·.1) = false := by rfl) : EV X c E (.Call (.Name "min" p) (e :: es) [] pos) (eC_ dMin fs) :=
  ev_callB opc_min (CallR.or (cr_min hc) (call_min2 hc)) hg hm (by decide +kernel) ha (by decide) (by decide) he hpl
def dList : List D → Res D
  | [.nd _ .lst ds] => .ok (.lst .own (rdL ds))
  | [.tup ds] => .ok (.lst .own (rdL ds))
  | _ => .stuck
theorem opc_list : OpC c (fun xs H Q => ∃ p ys, xs = [.ref p] ∧ (SqL X.K H p ys ∨ SqT X.K H p ys) ∧ ∀ l, H l = none → Q (.ref l) (upd H l (.lst ys))) dList := by
  intro E F H ds vs fp Q fh r p
  unfold dList at p
  split at p
  · obtain ⟨v, fq, rfl, r1⟩ := r.one
    obtain ⟨a, vs, fq, rfl, h1, h2, _⟩ := r1.sqL fh
    exact ⟨a, vs, rfl, .inl h1, fun q hq => p.newO fh hq rfl (h2.rd _ _ _ fh _ _ _) rfl⟩
  · obtain ⟨v, fq, rfl, r1⟩ := r.one
    obtain ⟨a, vs, rfl, _, h1, h2⟩ := r1.sqT fh
    exact ⟨a, vs, rfl, .inr h1, fun q hq => p.newO fh hq rfl (h2.rd _ _ _ fh _ _ _) rfl⟩
  · exact p.elim
theorem ev_list {fs : Env → Res (List D)} (hg : Gl X "list") (hm : X.mg "list" = none) (ha : EL X c E [e] fs) (he : starEach [e] X.env = (false, eval e X.env) :: starEach [] X.env := by rfl) : EV X c E (.Call (.Name "list" p) [e] [] pos) (eC_ dList fs) :=
  ev_callTy opc_list call_list_of hg hm (by decide +kernel) ha (by decide) (by decide) he
def bls? : List D → Option (List Bool)
  | [] => some []
  | .bl i :: r => (bls? r).map fun is => i :: is
  | _ :: _ => none
theorem bls_rep {M : PySem.W.Frag} {κ : Kap M} {F H : Hp} : ∀ {ds : List D} {vs : List V} {fp : List Addr} {is : List Bool}, RepL κ F H ds vs fp → bls? ds = some is → vs = is.map V.bl
  | _, _, _, is, .nil, h => by cases h; rfl
  | _, _, _, is, .cons (d := d) r t, h => by
    cases d with
    | bl i =>
      rw [bls?] at h
      cases q : bls? _ with
      | none => rw [q] at h; cases h
      | some js =>
        rw [q] at h
        cases h
        cases r
        rw [bls_rep t q]
        rfl
    | _ => simp [bls?] at h
def dAny : List D → Res D
  | [.nd _ .lst ds] => (ofO (bls? ds)).bind fun is => .ok (.bl (is.any id))
  | _ => .stuck
def dAll : List D → Res D
  | [.nd _ .lst ds] => (ofO (bls? ds)).bind fun is => .ok (.bl (is.all id))
  | _ => .stuck
theorem opc_any : OpC c (rAny X.K) dAny := by
  intro E F H ds vs fp Q fh r p
  unfold dAny at p
  split at p
  · rename_i t ds
    obtain ⟨v, fq, rfl, r1⟩ := r.one
    obtain ⟨a, vs, fq, rfl, h1, h2, _⟩ := r1.sqL fh
    cases q : bls? ds with
    | none => rw [q] at p; exact p.elim
    | some is =>
      rw [q] at p
      obtain rfl := bls_rep h2 q
      exact ⟨a, is, rfl, h1, PostV.bl p fh⟩
  · exact p.elim
theorem opc_all : OpC c (rAll X.K) dAll := by
  intro E F H ds vs fp Q fh r p
  unfold dAll at p
  split at p
  · rename_i t ds
    obtain ⟨v, fq, rfl, r1⟩ := r.one
    obtain ⟨a, vs, fq, rfl, h1, h2, _⟩ := r1.sqL fh
    cases q : bls? ds with
    | none => rw [q] at p; exact p.elim
    | some is =>
      rw [q] at p
      obtain rfl := bls_rep h2 q
      exact ⟨a, is, rfl, h1, PostV.bl p fh⟩
  · exact p.elim
theorem ev_any {fs : Env → Res (List D)} (hc : X.calm = true) (hg : Gl X "any") (hm : X.mg "any" = none) (ha : EL X c E [e] fs) (he : starEach [e] X.env = (false, eval e X.env) :: starEach [] X.env := by rfl) : EV X c E (.Call (.Name "any" p) [e] [] pos) (eC_ dAny fs) :=
  ev_callB opc_any (cr_any hc) hg hm (by decide +kernel) ha (by decide) (by decide) he
theorem ev_all {fs : Env → Res (List D)} (hc : X.calm = true) (hg : Gl X "all") (hm : X.mg "all" = none) (ha : EL X c E [e] fs) (he : starEach [e] X.env = (false, eval e X.env) :: starEach [] X.env := by rfl) : EV X c E (.Call (.Name "all" p) [e] [] pos) (eC_ dAll fs) :=
  ev_callB opc_all (cr_all hc) hg hm (by decide +kernel) ha (by decide) (by decide) he
def tyN : D → String
  | .non => "NoneType"
  | .bl _ => "bool"
  | .int _ => "int"
  | .str _ => "str"
  | .tup _ => "tuple"
  | .nd _ .lst _ => "list"
  | .nd _ (.dic _) _ => "dict"
  | .nd _ (.dit _) _ => "dict"
  | .nd _ (.dil _) _ => "dict"
  | .nd _ (.ins _ _) _ => ""
  | .nd _ (.inv _ _ _) _ => ""
  | .nd _ (.exc _) _ => ""
  | .nd _ (.xdk _) _ => ""
  | .pin _ _ => ""
  | .pack _ _ => ""
theorem ty_rep {F H : Hp} {d : D} {v : V} {fp : List Addr} (fh : Sub F H) (r : Rep c.κ F H d v fp) (h : tyN d ≠ "") (hl : ∀ t k ds, d = .nd t k ds → k = .lst) : TyX X.K H v (.type (tyN d)) := by
  cases d with
  | non => cases r; exact .base .non
  | bl b => cases r; exact .base (.bl b)
  | int i => cases r; exact .base (.int i)
  | str s => cases r; exact .base (.str s)
  | tup ds => cases r with | tup ha hl => exact .base (.tup (fh _ _ ha))
  | pin j d => exact absurd rfl h
  | pack d cs => exact absurd rfl h
  | nd t k ds =>
    cases hl t k ds rfl
    cases r with
    | ndO ha hs hl => cases hs; exact .base (.lst ha)
    | ndF ha hr hs hl =>
      cases hs
      rcases hr with rfl | ⟨_, ob, rfl⟩
      · exact .base (.lst (fh _ _ ha))
      · exact .base (.frz (fh _ _ ha))
    | ndT ha hr hs hl =>
      cases hs
      rcases hr with rfl | ⟨_, ob, rfl⟩
      · exact .base (.lst ha)
      · exact .base (.frz ha)
    | ndK ha hl =>
      obtain ⟨o, its, n, h1, h2, _⟩ := ha
      exact .kList h1 h2
def isPlain : D → Bool
  | .nd _ .lst _ => true
  | .nd _ _ _ => false
  | .pin _ _ => false
  | .pack _ _ => false
  | _ => true
def dIsi (T : String) (d : D) : Res D := if isPlain d = true then (ofO (kitB (tyN d) T)).bind fun b => .ok (.bl b) else .stuck
theorem pe_tyN {T : String} {x : Str} (hg : Gl X x) (hm : X.mg x = none) (hv : bootBuiltins x = some (.type T)) (hn : x ≠ "__name__" := by decide) (hd : (x == ("__debug__" : Str)) = false := by decide) : PE X (.Name x pos) (tC (.ty T)) := pe_bltn hg hm hv rfl hn hd
theorem ev_isi {T : String} {x : Str} {q : Pos} (ha : EV X c E a f) (hg : Gl X "isinstance") (hm : X.mg "isinstance" = none) (hg2 : Gl X x) (hm2 : X.mg x = none) (hv : bootBuiltins x = some (.type T)) (hn : x ≠ "__name__" := by decide) (hd : (x == ("__debug__" : Str)) = false := by decide)
    (he : starEach [a, .Name x q] X.env = (false, eval a X.env) :: starEach [.Name x q] X.env := by rfl) : EV X c E (.Call (.Name "isinstance" p) [a, .Name x q] [] pos) (e1 (dIsi T) f) :=
  PE.imp (pe_callB call_isi hg hm (by decide +kernel) (pa_cons ha (pa_cons (pe_tyN hg2 hm2 hv hn hd) pa_nil) he) (by decide) (by decide) he) fun σ H Q q => glue1 q fun F H1 d v fp fh r nd fr p => by
    unfold dIsi at p
    by_cases h : isPlain d = true
    · rw [if_pos h] at p
      cases z : kitB (tyN d) T with
      | none => rw [z] at p; exact p.elim
      | some b =>
        rw [z] at p
        refine ⟨v, .ty T, _, _, b, rfl, .ty T, ty_rep fh r ?_ ?_, kit_ty z, PostV.bl p fh⟩
        · cases d with
          | nd t k ds => cases k <;> simp [isPlain] at h <;> simp [tyN]
          | pin j d => simp [isPlain] at h
          | pack d cs => simp [isPlain] at h
          | _ => simp [tyN]
        · intro t k ds e
          subst e
          cases k <;> simp [isPlain] at h <;> rfl
    · rw [if_neg h] at p
      exact p.elim
end
section
variable {X : Cx} {c : Cfg X.K} {E : XK} {e a b d : Expr} {f g h : Env → Res D} {pos apos p : Pos} {es : List Expr}
theorem RepL.of_own {M : PySem.W.Frag} {κ : Kap M} {F H : Hp} {ds : List D} {v : V} {fp : List Addr} (r : Rep κ F H (.nd .own .lst ds) v fp) : ∃ a vs fq, v = .ref a ∧ fp = a :: fq ∧ H a = some (.lst vs) ∧ RepL κ F H ds vs fq := by
  cases r with
  | ndO ha hs hl => cases hs; exact ⟨_, _, _, rfl, rfl, ha, hl⟩
theorem SE.relist {M : PySem.W.Frag} {κ : Kap M} {K F0 F : Hp} {env : Env} {φ : Nat → List Addr} {σ : L2.St} {H : Hp} (S : SE true κ K F0 F env φ σ H) {i : Nat} {a : Addr} {fq fr : List Addr} {ds : List D} {vs : List V} (hv : σ[i]? = some (some (.ref a))) (hφ : φ i = a :: fq)
    (r : RepL κ F H ds vs fr) (nd : fr.Nodup) (hf : ∀ b ∈ fr, b ∈ fq ∨ (F b = none ∧ K b = none ∧ ∀ j, b ∉ φ j)) (nt : noTL ds = true) : SE true κ K F0 F (env.set i (some (.lst .own ds))) (put φ i (a :: fr)) σ (upd H a (.lst vs)) := by
  have hnd := S.nd i
  rw [hφ, List.nodup_cons] at hnd
  have na : ∀ b ∈ fr, b ≠ a := fun b m z => by
    subst z
    rcases hf b m with h | h
    · exact hnd.1 h
    · exact h.2.2 i (by rw [hφ]; exact List.mem_cons_self)
  refine S.write (a := a) (by rw [hφ]; exact List.mem_cons_self) hv (.ndO upd_same rfl (r.stay _ _ _ F (upd H a (.lst vs)) (Same.refl _) _ _ _ (fun b m => upd_ne (na b m)) nt)) (List.nodup_cons.mpr ⟨fun m => na a m rfl, nd⟩) (fun b m => ?_) (by rw [noT, nt]; rfl)
  rcases List.mem_cons.mp m with rfl | m
  · exact .inl (by rw [hφ]; exact List.mem_cons_self)
  · rcases hf b m with h | h
    · exact .inl (by rw [hφ]; exact List.mem_cons_of_mem _ h)
    · exact .inr h
def ownL (env : Env) (i : Nat) : Option (List D) := match env[i]? with
  | some (some (.nd .own .lst ds)) => some ds
  | _ => none
theorem ownL_get {env : Env} {i : Nat} {ds : List D} (h : ownL env i = some ds) : env[i]? = some (some (.nd .own .lst ds)) := by
  unfold ownL at h
  split at h
  · rename_i q; cases h; exact q
  · cases h
def sApp (i : Nat) (f : Env → Res D) : Env → SR := fun env => match ownL env i with
  | some ds => (f env).bind fun d => if noT d = true ∧ ds.length < bigL then .ok (.nx, env.set i (some (.lst .own (ds ++ [d])))) else .stuck
  | none => .stuck
theorem es_app (i : Nat) {x : Str} {q : Pos} (ha : EV X c E e f) (hN : X.N[i]? = some x := by rfl) (hv : Vis X.env.scope x := by first | exact Or.inl rfl | exact Or.inr (Or.inl rfl) | exact Or.inr (Or.inr rfl)) (hd : (x == ("__debug__" : Str)) = false := by decide)
    (hcd : (x == ("__classdict__" : Str)) = false := by decide) 
    (hbase : attributeBase (.Name x q) "append" X.env (eval (.Name x q) X.env) = eval (.Name x q) X.env := by rfl)
    (hfew : ((backTo p (starEach [e] X.env)).all (fun x => !x.1) && (backToKw p (keywordEach [] X.env)).all (fun x => x.1.isSome)
      && decide ([e].length + ([] : List Keyword).length + (if ([] : List Keyword).isEmpty then 0 else 1) < 30)) = true := by rfl)
    (hline : (apos.endLine == p.line) = true := by rfl) (hs1 : starEach [e] X.env = (false, eval e X.env) :: starEach [] X.env := by rfl) (hplain : (backTo p (starEach [] X.env)).any (·.1) = false := by rfl)
    (hs : swapsWith (.Call (.Attribute (.Name x q) "append" apos) [e] [] p) none pos.line X.env = pure false := by rfl) :
    ES X c E (.Expr (.Call (.Attribute (.Name x q) "append" apos) [e] [] p) pos) (sApp i f) :=
  PS.imp (ps_expr (pe_bm PySem.F.plainAttrs_list PySem.F.slot_list_append PySem.F.type_list_append mt_append (pe_var (i := i) hN hv hd hcd) (pa_cons ha pa_nil hs1) hbase hfew hline hs1 hplain) hs) fun Dn σ H q => by
    obtain ⟨K, F0, F, env, φ, S, p⟩ := q
    unfold sApp at p
    cases hs0 : ownL env i with
    | none => rw [hs0] at p; exact p.elim
    | some ds =>
      have hslot := ownL_get hs0
      obtain ⟨v, h1, h2, h3⟩ := S.sl i _ hslot
      obtain ⟨a, vs, fq, rfl, hφ, ha', hl⟩ := RepL.of_own h2
      refine ⟨.ref a, h1, .inl ⟨rfl, vs, .inl (.inl ha')⟩, true, K, F0, F, env, φ, S, ?_⟩
      cases z : f env with
      | ok d =>
        simp only [z, Res.bind, hs0] at p
        by_cases hc : noT d = true ∧ ds.length < bigL
        · rw [if_pos hc] at p
          intro v H' F' fp x r nd fr
          have S2 := S.ext x
          have ha2 := x.hh _ _ ha'
          refine ⟨a, vs, v, rfl, rfl, ha2, ?_, ?_⟩
          · have := bigL_line (Nat.le_of_lt hc.2)
            have e := hl.length
            have : sizeLine = 16777216 := sizeLine_eq
            unfold bigL at hc
            omega
          · have h3' := h3 rfl
            rw [noT, Bool.and_eq_true] at h3'
            have hl2 := hl.ext x
            have n1 := S.nd i
            rw [hφ, List.nodup_cons] at n1
            refine p σ _ F' _ (S2.relist (a := a) (fq := fq) (fr := fq ++ fp) (vs := vs ++ [v]) h1 hφ ?_ ?_ ?_ ?_)
            · have := hl2.append (RepL.cons r .nil)
              simpa using this
            · refine List.nodup_append.mpr ⟨n1.2, nd, fun b m b2 m2 z => ?_⟩
              subst z
              exact (S.apart (fr b m2).1).2 i (by rw [hφ]; exact List.mem_cons_of_mem _ m)
            · intro b m
              rcases List.mem_append.mp m with m | m
              · exact .inl m
              · exact .inr ⟨(fr b m).2, (S.apart (fr b m).1).1, (S.apart (fr b m).1).2⟩
            · rw [noTL_append, h3'.2, noTL, hc.1]
              rfl
        · rw [if_neg hc] at p
          exact p.elim
      | exc y => simp only [z, Res.bind, hs0] at p; exact fun cl dd H' s w => p cl dd H' (S.kk.trans s) (c.mono (S.kk) w)
      | stuck => simp only [z, Res.bind, hs0] at p; exact p
theorem noTL_set : ∀ (ds : List D) (j : Nat) (d : D), noTL ds = true → noT d = true → noTL (ds.set j d) = true
  | [], _, _, _, _ => rfl
  | e :: ds, 0, d, h, hd => by
    rw [noTL, Bool.and_eq_true] at h
    rw [List.set_cons_zero, noTL, hd, h.2]
    rfl
  | e :: ds, j + 1, d, h, hd => by
    rw [noTL, Bool.and_eq_true] at h
    rw [List.set_cons_succ, noTL, h.1, noTL_set ds j d h.2 hd]
    rfl
theorem RepL.set {M : PySem.W.Frag} {κ : Kap M} {F H : Hp} : ∀ {ds : List D} {vs : List V} {fp : List Addr} {d : D} {v : V} {fd : List Addr} (j : Nat), j < ds.length → RepL κ F H ds vs fp → Rep κ F H d v fd → fp.Nodup → fd.Nodup → (∀ a ∈ fd, a ∉ fp) →
    ∃ fr, RepL κ F H (ds.set j d) (vs.set j v) fr ∧ fr.Nodup ∧ ∀ a ∈ fr, a ∈ fp ∨ a ∈ fd
  | _, _, _, d, v, fd, 0, _, .cons (fp := fa) (fq := fb) r t, rd, n1, n2, dj => by
    have n := List.nodup_append.mp n1
    refine ⟨fd ++ fb, .cons rd t, List.nodup_append.mpr ⟨n2, n.2.1, fun a m b m2 z => ?_⟩, fun a m => ?_⟩
    · subst z
      exact dj a m (List.mem_append_right _ m2)
    · rcases List.mem_append.mp m with m | m
      · exact .inr m
      · exact .inl (List.mem_append_right _ m)
  | _, _, _, d, v, fd, j + 1, hj, .cons (fp := fa) (fq := fb) r t, rd, n1, n2, dj => by
    have n := List.nodup_append.mp n1
    obtain ⟨fr, h1, h2, h3⟩ := RepL.set j (by simpa using hj) t rd n.2.1 n2 (fun a m m2 => dj a m (List.mem_append_right _ m2))
    refine ⟨fa ++ fr, .cons r h1, List.nodup_append.mpr ⟨n.1, h2, fun a m b m2 z => ?_⟩, fun a m => ?_⟩
    · subst z
      rcases h3 a m2 with h | h
      · exact n.2.2 a m a h rfl
      · exact dj a h (List.mem_append_left _ m)
    · rcases List.mem_append.mp m with m | m
      · exact .inl (List.mem_append_left _ m)
      · rcases h3 a m with h | h
        · exact .inl (List.mem_append_right _ h)
        · exact .inr h
end
structure Cal (P : Program) (w : World) (K : PySem.W.Frag) (mg : Str → Option Value) (base : Heap) (c : Cfg K) (x : Str) (k n : Nat) (Φ : List D → Res D) (dd : List D) : Prop where
  ex : ∃ (f : Addr) (fd : FuncData) (ps : List Str) (dvs : List V) (ds : List Value), FnOk P w K mg base (L2.CX P w) k f fd ps (SpD c n (lenIs n Φ)) ∧ mg x = some (.ref f) ∧ PySem.W.keepIn K (.ref f) = true ∧ Binds K fd ps ds ∧ Vals dvs ds ∧ ∀ F H, RepL c.κ F H dd dvs []
section
variable {X : Cx} {c : Cfg X.K} {E : XK} {e a b : Expr} {es : List Expr} {pos p : Pos} {fs : Env → Res (List D)} {k n : Nat} {Φ : List D → Res D} {x : Str} {dd : List D}
theorem ev_callC (C : Cal X.prog X.w X.K X.mg X.base c x k n Φ dd) (hr : Room k X.A) (hg : Gl X x) (hx : Passes (L2.CX X.prog X.w) X E)
    (ha : EL X c E (e :: es) fs) (hdb : (x == ("__debug__" : Str)) = false := by decide) (he : starEach (e :: es) X.env = (false, eval e X.env) :: starEach es X.env := by rfl) (hpl : (backTo pos (starEach es X.env)).any (·.1) = false := by rfl) :
    EV X c E (.Call (.Name x p) (e :: es) [] pos) (eCall (lenIs n Φ) dd fs) := by
  obtain ⟨f, fd, ps, dvs, ds, F, hm, hk, hb, hd, hr'⟩ := C.ex
  exact PE.imp (pe_call F hr hg hm hk hb hd hx ha hdb he hpl) fun σ H Q q => glueCall (dd := dd) (dvs := dvs) hr' (fun ds vs h => len_or ds vs (hr' (fun _ => none) (fun _ => none)).length h) q
end
section
variable {P : Program} {w : World} {K : PySem.W.Frag} {mg : Str → Option Value} {base : Heap}
theorem fnd_ok {x qual : Str} {st : Stmt} {f : Addr} {fd : FuncData} {N ps : List Str} {k : Nat} {c : Cfg K} {g : Env → SR} {dvs : List V} {kws : List (Str × V)} (F : FunD K x qual (defArgs st) (defBody st) (defScope st) dvs kws f fd) (S : FnScope N ps (defScope st))
    (hb : ∀ (cdv : Value) (A : Around) (outer : List PySem.Env) (s : Shared) (H : Hp) (E : XK), Room k (A.deeper (envOfC qual (defScope st) s.heap.objs.size f cdv)) → EB (cxOf (L2.CX P w) P w K mg base N qual (defScope st) f cdv A outer s H E) c E (defBody st) g) :
    FnOk P w K mg base (L2.CX P w) (k + 1) f fd ps (SpD c ps.length (runF N.length g)) := by
  refine F.ok S (fun vs H Q E h => ?_) (fun cdv A outer s H vs Q E hr h => ?_)
  · obtain ⟨_, _, ds, _, _, r, _, hl, _⟩ := h
    rw [← r.length, hl]
  · obtain ⟨Kh, F0, ds, kk, fh, r, nt, hl, p⟩ := h
    refine ⟨_, hb cdv A outer s H E hr, Kh, F0, F0, _, _, se_start kk fh.1 fh.2.1 r nt, ?_⟩
    unfold runF at p
    cases z : g (ds.map some ++ List.replicate (N.length - ds.length) none) with
    | ok r =>
      obtain ⟨fl, env'⟩ := r
      rw [z] at p
      cases fl with
      | nx => exact fun σ' H' F' φ' T => p .non H' F' [] ⟨T.kk, T.f0, T.fh, T.gr, .non, .nil, by simp, rfl⟩
      | bk => exact p.elim
      | ct => exact p.elim
      | rt d => exact p
    | exc y => rw [z] at p; exact p
    | stuck => rw [z] at p; exact p
theorem cal_mk {x qual : Str} {st : Stmt} {f : Addr} {fd : FuncData} {ps : List Str} {k : Nat} {c : Cfg K} {Φ : List D → Res D} (F : FunD K x qual (defArgs st) (defBody st) (defScope st) [] [] f fd) (hm : mg x = some (.ref f))
    (ok : FnOk P w K mg base (L2.CX P w) k f fd ps (SpD c ps.length Φ)) (hb : ∀ (kV doc pm : Value) (an : Option Addr) (cdv ct : Value) (us : List Value), us.length = ps.length → bindArgs (PySem.W.fnOf x qual (defArgs st) (defBody st) (defScope st) .none kV doc pm an cdv ct) ⟨us, []⟩ = pure (ps.zip us)) :
    Cal P w K mg base c x k ps.length Φ [] := ⟨f, fd, ps, [], [], FnOk.len ok, hm, F.kp, F.bindsN hb, .nil, fun _ _ => .nil⟩
def scriptD (ns : List Int) : D := .lst .frz (ns.map D.int)
theorem repL_ints {M : PySem.W.Frag} {κ : Kap M} {F H : Hp} : ∀ ns : List Int, RepL κ F H (ns.map D.int) (ns.map V.int) []
  | [] => .nil
  | n :: ns => .cons (fp := []) (fq := []) (.int n) (repL_ints ns)
theorem noTL_ints : ∀ ns : List Int, noTL (ns.map D.int) = true
  | [] => rfl
  | n :: ns => by rw [List.map_cons, noTL, noTL_ints ns]; rfl
def marks (tb : List (Addr × Str)) : Hp := fun a => (tb.lookup a).map markT
theorem marks_mem {tb : List (Addr × Str)} (n : (tb.map (·.1)).Nodup) : ∀ p ∈ tb, marks tb p.1 = some (markT p.2) := by
  induction tb with
  | nil => intro p hp; cases hp
  | cons q r ih =>
    intro p hp
    rw [List.map_cons, List.nodup_cons] at n
    rcases List.mem_cons.mp hp with rfl | hp
    · unfold marks; simp [List.lookup]
    · have : (p.1 == q.1) = false := by
        rw [beq_eq_false_iff_ne]
        intro e
        exact n.1 (List.mem_map.mpr ⟨p, hp, e⟩)
      have e := ih n.2 p hp
      unfold marks at e ⊢
      rw [List.lookup, this]
      exact e
theorem mem_look {a : Addr} {q : Str} : ∀ {l : List (Addr × Str)}, l.lookup a = some q → (a, q) ∈ l
  | [], h => by cases h
  | (b, u) :: r, h => by
    rw [List.lookup] at h
    split at h
    · rename_i e
      cases h
      rw [eq_of_beq e]
      exact List.mem_cons_self
    · exact List.mem_cons_of_mem _ (mem_look h)
theorem marks_of {tb : List (Addr × Str)} {a : Addr} {o : HO} (h : marks tb a = some o) : ∃ q, (a, q) ∈ tb ∧ o = markT q := by
  unfold marks at h
  cases e : tb.lookup a with
  | none => rw [e] at h; cases h
  | some q => rw [e] at h; cases h; exact ⟨q, mem_look e, rfl⟩
theorem noPL_intsD (ns : List Int) : noPL (ns.map D.int) = true := by
  induction ns with
  | nil => rfl
  | cons n ns ih => rw [List.map_cons, noPL, ih]; rfl
theorem law_sp {c : Cfg K} {Φ : List D → Res D} (h : ∀ ns : List Int, ns.length ≤ 63 → Φ [scriptD ns] = .ok (.bl true)) (H : Hp) (a : Addr) (ns : List Int) (hl : ns.length ≤ 63) (hT : ∀ p ∈ c.κ.tb, LamX.TabS H p.1 p.2) (hN : (c.κ.tb.map (·.1)).Nodup) (hS : SqL K H a (ns.map V.int)) :
    SpD c 1 Φ [.ref a] H (fun v _ => v = .bl true) (fun _ _ _ => False) := by
  have fm : Sub (marks c.κ.tb) H := ⟨fun b o e n => by
    obtain ⟨q, _, rfl⟩ := marks_of e
    exact n.elim, fun b ps e => by
    obtain ⟨q, hq, e2⟩ := marks_of e
    cases e2
    exact ⟨q, 0, rfl, hT _ hq⟩⟩
  have r : Rep c.κ (seen (marks c.κ.tb) H) H (scriptD ns) (.ref a) [] := by
    rcases hS with (h | ⟨o, h⟩) | h
    · exact .ndF (seen_of fm h True.intro) (.inl rfl) rfl (repL_ints ns)
    · exact .ndF (seen_of fm h True.intro) (.inr ⟨rfl, o, rfl⟩) rfl (repL_ints ns)
    · exact .ndK h (repL_ints ns)
  refine ⟨H, seen (marks c.κ.tb) H, [scriptD ns], Sm.refl _, ⟨seen_sub fm, Mks.up ⟨marks_mem hN, fun a ps e => let ⟨q, hq, _⟩ := marks_of e; ⟨_, hq, rfl⟩⟩ sameT_seen, by unfold scriptD; rw [noPL, noP, noPL_intsD]; rfl⟩, .cons (fp := []) (fq := []) r .nil, by unfold scriptD; simp [noTL, noT, noTL_ints], rfl, ?_⟩
  rw [h ns hl]
  intro v H' F' fp R
  have := R.rep
  cases this
  rfl
theorem cx_false {P : Program} {w : World} (H : Hp) (s : Shared) (e : Value) (s' : Shared) (h : L2.CX P w [] H s (fun _ _ _ => False) e s') : False := by
  obtain ⟨_, _, _, _, _, _, _, _, _, _, _, _, z⟩ := h
  exact z.elim
end
theorem walkW {l : PySem.W.OpenLaw} {n k : Nat} {q : Program} {loose : List Str} {XP : (Str → Option Value) → Heap → Prop} {YP : World → Heap → Prop} {d : DefRec} {x : Str}
    (e1 : l.most = some n) (e2 : n ≤ sizeLine) (e3 : d.params.defaults = []) (e4 : Room k callerA)
    (G : ∀ (w : World) (mg : Str → Option Value) (fa : Addr) (h : Heap), YP w h → h.Ns mainGlobals mg → mg d.name = some (.ref fa) → ∃ (K : PySem.W.Frag) (fd : FuncData) (cs : List (Addr × Addr)) (sp : Sp),
      (K.In h ∧ ∀ (s : Shared) (u : Value), BindsTo s fd ⟨[u], []⟩ [(x, u)]) ∧ ((∀ p ∈ cs, h.get? p.2 = some { cls := .none, data := .fields #[] }) ∧ (∀ p ∈ cs, K.lookup p.2 = none) ∧ (∀ p ∈ cs, PySem.W.CodeHd h p.1 p.2)) ∧
      (∀ (H : Hp) (a : Addr) (ns : List Int), ns.length ≤ n → (∀ p ∈ cs, H p.2 = some (.tbl #[])) → SqL K H a (ns.map V.int) → sp [.ref a] H (fun v _ => v = .bl true) fun _ _ _ => False) ∧
      ∀ base : Heap, K.In base → base.Ns mainGlobals mg → (∀ p ∈ cs, LamX.TabB base mg p.1 p.2) → FnOk l.prog w K mg base (L2.CX l.prog w) k fa fd [x] sp) :
    PySem.W.WalkO q loose XP YP l.row.toRowW d [] (fun f vs => PySem.call f vs) :=
  Att.attach_call e1 e3 fun w s t mg mb fa o pm cd doc a vs ns Z Y z1 z2 z3 z4 z5 z6 z7 z8 => by
    obtain ⟨K, fd, cs, sp, ⟨p1, p2⟩, ⟨t1, t2, t3⟩, p3, p4⟩ := G w mg fa _ Y Z.T.g z4
    exact LamX.law_callTs p1 Z.T.g Z.T.b Z.T.builtins Z.T.nolimit z8 t1 t2 t3 Z.T.bmain z5 z6 (Nat.le_trans z7 e2) e4 p4 p2 (fun H q1 q2 => p3 H a ns z7 q1 q2) fun H e s' q => cx_false H t e s' q
theorem hu64 {k : Nat} {A : Around} (hr : Room k A) : A.units + 64 < cLine := hr.units
def lNil : Env → Res (List D) := fun _ => .ok []
def lCons (f : Env → Res D) (fs : Env → Res (List D)) : Env → Res (List D) := fun env => (f env).bind fun d => (fs env).bind fun ds => .ok (d :: ds)
def dIn1 (x y : D) : Res D := (dIn x y).bind fun b => .ok (.bl (if false = true then !b else b))
def dIn0 (x y : D) : Res D := (dIn x y).bind fun b => .ok (.bl (if true = true then !b else b))
def freezeE (i : Nat) (env : Env) : Env := match env[i]? with
  | some (some d) => env.set i (some (fz d))
  | _ => env
def sFrz (i : Nat) (g : Env → SR) : Env → SR := fun env => g (freezeE i env)
section
variable {X : Cx} {c : Cfg X.K} {E : XK} {e a b : Expr} {f g : Env → Res D} {pos p : Pos} {es : List Expr} {fs : Env → Res (List D)}
theorem l_nil : EL X c E [] lNil := el_nil
theorem l_cons (ha : EV X c E e f) (hb : EL X c E es fs) (hs : starEach (e :: es) X.env = (false, eval e X.env) :: starEach es X.env := by rfl) : EL X c E (e :: es) (lCons f fs) := el_cons ha hb hs
theorem et_in1 (ha : EV X c E a f) (hb : EV X c E b g) (hm : behindInMarks .In b = false := by rfl) : ET X c E (.Compare a [.In] [b] pos) (PV.eB (e2 dIn1 f g)) := et_in ha hb hm
theorem et_in0 (ha : EV X c E a f) (hb : EV X c E b g) (hm : behindInMarks .NotIn b = false := by rfl) : ET X c E (.Compare a [.NotIn] [b] pos) (PV.eB (e2 dIn0 f g)) := et_notIn ha hb hm
theorem es_frz {st : Stmt} {g : Env → SR} (i : Nat) (h : ES X c E st g) : ES X c E st (sFrz i g) := PS.imp h fun Dn σ H q => by
  obtain ⟨K, F0, F, env, φ, S, p⟩ := q
  unfold sFrz freezeE at p
  split at p
  · rename_i d hd
    have S2 := S.freeze i d hd
    refine ⟨K, _, _, _, _, S2.self, ?_⟩
    exact PostS.base S2 p
  · exact ⟨K, F0, F, env, φ, S, p⟩
end
section
variable {α β : Type}
@[simp] theorem rb_ok {a : α} {f : α → Res β} : (Res.ok a).bind f = f a := rfl
@[simp] theorem rb_exc {x : Exn} {f : α → Res β} : (Res.exc x).bind f = .exc x := rfl
@[simp] theorem rb_stuck {f : α → Res β} : (Res.stuck).bind f = .stuck := rfl
@[simp] theorem ofO_some {a : α} : ofO (some a) = .ok a := rfl
end
section
variable {f g h : Env → Res D} {fs : Env → Res (List D)} {p q : Env → Res Bool} {u v : Env → SR} {env : Env} {i : Nat} {d : D} {k : D → Res D} {kk : D → D → Res D}
@[simp] theorem sSeq_e : sSeq u v env = (u env).bind fun r => match r.1 with
  | .nx => v r.2
  | _ => .ok r := rfl
@[simp] theorem sIf_e : sIf p u v env = (p env).bind fun b => if b = true then u env else v env := rfl
@[simp] theorem sNil_e : sNil env = .ok (.nx, env) := rfl
@[simp] theorem sRet_e : sRet f env = (f env).bind fun d => if noT d = true then .ok (.rt d, env) else .stuck := rfl
@[simp] theorem sRetV_e : sRetV i env = match env[i]? with
  | some (some d) => .ok (.rt d, env)
  | _ => .stuck := rfl
@[simp] theorem sSet_e : sSet i f env = (f env).bind fun d => store i d env := rfl
@[simp] theorem store_e : store i d env = if noT d = true then .ok (.nx, env.set i (some d)) else .stuck := rfl
@[simp] theorem put1_e : put1 i d env = if noT d = true then .ok (env.set i (some d)) else .stuck := rfl
@[simp] theorem putb_e : putb i d env = .ok (env.set i (some d)) := rfl
@[simp] theorem putN_e : putN [] env = .ok env := rfl
@[simp] theorem putC_e {s : TgF} {t : TgFs} {ds : List D} : putC s t (d :: ds) env = if noTL ds = true then (s d env).bind fun env' => t ds env' else .stuck := rfl
@[simp] theorem putD_e {s : TgF} {t : TgFs} {ds : List D} : putD s t (d :: ds) env = (s d env).bind fun env' => t ds env' := rfl
@[simp] theorem putT_e {n : Nat} {t : TgFs} {ds : List D} : putT n t (.tup ds) env = if ds.length = n then t ds env else .stuck := rfl
@[simp] theorem putT_l {n : Nat} {t : TgFs} {x : Tag} {ds : List D} : putT n t (.nd x .lst ds) env = if ds.length = n then t ds env else .stuck := rfl
@[simp] theorem sAsg_e {s : TgF} : sAsg f s env = (f env).bind fun d => asgn s d env := rfl
@[simp] theorem asgn_e {s : TgF} : asgn s d env = match s d env with
  | .ok env' => .ok (.nx, env')
  | _ => .stuck := rfl
@[simp] theorem sFrz_e : sFrz i u env = u (freezeE i env) := rfl
@[simp] theorem freezeE_e : freezeE i env = match env[i]? with
  | some (some d) => env.set i (some (fz d))
  | _ => env := rfl
@[simp] theorem sFor_e {it : Env → Res (List D × Env)} {s : TgF} {fg : List Nat} : sFor it s u fg env = (it env).bind fun p => forL s u fg p.1 (forget fg p.2) := rfl
@[simp] theorem yLift_e {y : Env → Res (List D)} : yLift y env = (y env).bind fun xs => .ok (xs, env) := rfl
@[simp] theorem yVal_e {b : Bool} : yVal b f env = (f env).bind (itemsOf b) := rfl
@[simp] theorem yL_e {y : List D → Res (List D)} : yL y fs env = (fs env).bind y := rfl
@[simp] theorem forget_nil : forget [] env = env := rfl
@[simp] theorem forget_cons {is : List Nat} : forget (i :: is) env = forget is (env.set i none) := rfl
@[simp] theorem wipeE_nil : wipeE [] env = env := rfl
@[simp] theorem wipeE_cons {is : List Nat} : wipeE (i :: is) env = (wipeE is env).set i none := rfl
@[simp] theorem sApp_e : sApp i f env = match ownL env i with
  | some ds => (f env).bind fun d => if noT d = true ∧ ds.length < bigL then .ok (.nx, env.set i (some (.lst .own (ds ++ [d])))) else .stuck
  | none => .stuck := rfl
@[simp] theorem ownL_e : ownL env i = match env[i]? with
  | some (some (.nd .own .lst ds)) => some ds
  | _ => none := rfl
@[simp] theorem eVar_e : eVar i env = match env[i]? with
  | some (some d) => .ok (rd d)
  | _ => .stuck := rfl
@[simp] theorem eC_e : eC d env = .ok d := rfl
@[simp] theorem e2_e : e2 kk f g env = (f env).bind fun x => (g env).bind fun y => kk x y := rfl
@[simp] theorem e1_e : e1 k f env = (f env).bind k := rfl
@[simp] theorem eCl_e {kl : List D → Res D} : eC_ kl fs env = (fs env).bind kl := rfl
@[simp] theorem lNil_e : lNil env = .ok [] := rfl
@[simp] theorem lCons_e : lCons f fs env = (f env).bind fun d => (fs env).bind fun ds => .ok (d :: ds) := rfl
@[simp] theorem eTup_e : eTup fs env = (fs env).bind fun ds => if ds.length ≤ bigL then .ok (.tup ds) else .stuck := rfl
@[simp] theorem eLst_e : eLst fs env = (fs env).bind fun ds => if ds.length ≤ bigL then .ok (.lst .own ds) else .stuck := rfl
@[simp] theorem eIf_e : eIf p f g env = (p env).bind fun b => if b = true then f env else g env := rfl
@[simp] theorem eAnd_e : eAnd f g env = (f env).bind fun d => (asB d).bind fun b => if b = true then g env else .ok (.bl false) := rfl
@[simp] theorem asB_bl {b : Bool} : asB (.bl b) = .ok b := rfl
@[simp] theorem eB_e : eB f env = (f env).bind asB := rfl
@[simp] theorem eT_e : eT f env = (f env).bind tru := rfl
@[simp] theorem tru_bl {b : Bool} : tru (.bl b) = .ok b := rfl
@[simp] theorem tru_int {n : Int} : tru (.int n) = .ok (n != 0) := rfl
@[simp] theorem tru_non : tru .non = .ok false := rfl
@[simp] theorem tru_lst {t : Tag} {ds : List D} : tru (.nd t .lst ds) = .ok (!ds.isEmpty) := rfl
@[simp] theorem bAnd_e : bAnd p q env = (p env).bind fun b => if b = true then q env else .ok false := rfl
@[simp] theorem bOr_e : bOr p q env = (p env).bind fun b => if b = true then .ok true else q env := rfl
@[simp] theorem bNot_e : bNot p env = (p env).bind fun b => .ok (!b) := rfl
@[simp] theorem bYes_e : bYes env = .ok true := rfl
@[simp] theorem oNo_e : oNo env = .ok none := rfl
@[simp] theorem oSome_e : oSome f env = (f env).bind oInt := rfl
@[simp] theorem oInt_e {n : Int} : oInt (.int n) = .ok (some n) := rfl
@[simp] theorem eSl_e {l m : Env → Res (Option Int)} : eSl f l m env = (f env).bind fun d => (l env).bind fun lo => (m env).bind fun hi => dSl d lo hi := rfl
@[simp] theorem eLc_e {it : Env → Res (List D)} {s : TgF} {vs : List Nat} : eLc it s p f vs env = (it env).bind fun items => (lcL s p f (wipeE vs env) items).bind fun ys => if ys.length ≤ bigL then .ok (.lst .own ys) else .stuck := rfl
@[simp] theorem eCall_e {Φ : List D → Res D} {dd : List D} : eCall Φ dd fs env = (fs env).bind fun ds => callD Φ (ds ++ dd) := rfl
@[simp] theorem callD_e {Φ : List D → Res D} {ds : List D} : callD Φ ds = if noTL ds = true then Φ (fzL ds) else (Φ (faL ds)).bind fun d => if imO d = true then .ok d else .stuck := rfl
@[simp] theorem lenIs_e {n : Nat} {Φ : List D → Res D} {ds : List D} : lenIs n Φ ds = if ds.length = n then Φ ds else .stuck := rfl
@[simp] theorem rd_non : rd .non = .non := rfl
@[simp] theorem rd_bl {b : Bool} : rd (.bl b) = .bl b := rfl
@[simp] theorem rd_int {n : Int} : rd (.int n) = .int n := rfl
@[simp] theorem rd_str {s : Str} : rd (.str s) = .str s := rfl
@[simp] theorem rd_tup {ds : List D} : rd (.tup ds) = .tup (rdL ds) := by rw [rd]
@[simp] theorem rd_own {k : Kind} {ds : List D} : rd (.nd .own k ds) = .nd .tmp k (rdL ds) := by rw [rd]; rfl
@[simp] theorem rd_frz {k : Kind} {ds : List D} : rd (.nd .frz k ds) = .nd .frz k (rdL ds) := by rw [rd]; rfl
@[simp] theorem rd_tmp {k : Kind} {ds : List D} : rd (.nd .tmp k ds) = .nd .tmp k (rdL ds) := by rw [rd]; rfl
@[simp] theorem rdL_nil : rdL [] = [] := rfl
@[simp] theorem rdL_cons {ds : List D} : rdL (d :: ds) = rd d :: rdL ds := by rw [rdL]
@[simp] theorem fz_non : fz .non = .non := rfl
@[simp] theorem fz_bl {b : Bool} : fz (.bl b) = .bl b := rfl
@[simp] theorem fz_int {n : Int} : fz (.int n) = .int n := rfl
@[simp] theorem fz_str {s : Str} : fz (.str s) = .str s := rfl
@[simp] theorem fz_tup {ds : List D} : fz (.tup ds) = .tup (fzL ds) := by rw [fz]
@[simp] theorem fz_own {k : Kind} {ds : List D} : fz (.nd .own k ds) = .nd .frz k (fzL ds) := by rw [fz]; rfl
@[simp] theorem fz_frz {k : Kind} {ds : List D} : fz (.nd .frz k ds) = .nd .frz k (fzL ds) := by rw [fz]; rfl
@[simp] theorem fz_tmp {k : Kind} {ds : List D} : fz (.nd .tmp k ds) = .nd .tmp k (fzL ds) := by rw [fz]; rfl
@[simp] theorem fzL_nil : fzL [] = [] := rfl
@[simp] theorem fzL_cons {ds : List D} : fzL (d :: ds) = fz d :: fzL ds := by rw [fzL]
@[simp] theorem noT_non : noT .non = true := rfl
@[simp] theorem noT_bl {b : Bool} : noT (.bl b) = true := rfl
@[simp] theorem noT_int {n : Int} : noT (.int n) = true := rfl
@[simp] theorem noT_str {s : Str} : noT (.str s) = true := rfl
@[simp] theorem noT_tup {ds : List D} : noT (.tup ds) = noTL ds := by rw [noT]
@[simp] theorem noT_own {k : Kind} {ds : List D} : noT (.nd .own k ds) = noTL ds := by rw [noT]; rfl
@[simp] theorem noT_frz {k : Kind} {ds : List D} : noT (.nd .frz k ds) = noTL ds := by rw [noT]; rfl
@[simp] theorem noT_tmp {k : Kind} {ds : List D} : noT (.nd .tmp k ds) = false := by rw [noT]; rfl
@[simp] theorem noTL_nil : noTL [] = true := rfl
@[simp] theorem noTL_cons {ds : List D} : noTL (d :: ds) = (noT d && noTL ds) := by rw [noTL]
variable {a b : Int} {s t : Str}
@[simp] theorem dI_e {k : Int → Int → Res D} : dI k (.int a) (.int b) = k a b := rfl
@[simp] theorem dAdd_int : dAdd (.int a) (.int b) = .ok (.int (a + b)) := rfl
@[simp] theorem dAdd_str : dAdd (.str s) (.str t) = if s.length + t.length ≤ bigL then .ok (.str (s ++ t)) else .stuck := rfl
@[simp] theorem dAdd_lst {x y : Tag} {xs ys : List D} : dAdd (.nd x .lst xs) (.nd y .lst ys) = if xs.length + ys.length ≤ bigL then .ok (.lst .own (rdL (xs ++ ys))) else .stuck := rfl
@[simp] theorem dMul_int : dMul (.int a) (.int b) = if OkMul a b then .ok (.int (a * b)) else .stuck := rfl
@[simp] theorem OkDiv_lit {n : Nat} (h : 0 < n) (h2 : n < 1073741824) : OkDiv a (no_index (OfNat.ofNat n : Int)) := ⟨by exact Int.natCast_pos.mpr h, h2⟩
@[simp] theorem OkPow_lit {m n : Nat} (h : n ≤ 1000000) (h2 : m < 18446744073709551616) : OkPow (no_index (OfNat.ofNat m : Int)) (no_index (OfNat.ofNat n : Int)) := ⟨Int.natCast_nonneg n, h, h2⟩
@[simp] theorem OkMul_litR {n : Nat} (h : n < 18446744073709551616) : OkMul a (no_index (OfNat.ofNat n : Int)) := .inr h
@[simp] theorem OkMul_litL {n : Nat} (h : n < 18446744073709551616) : OkMul (no_index (OfNat.ofNat n : Int)) a := .inl h
theorem OkMul_l (h : a.natAbs < 18446744073709551616) : OkMul a b := .inl h
theorem OkMul_r (h : b.natAbs < 18446744073709551616) : OkMul a b := .inr h
@[simp] theorem bigL_e : bigL = 1000000 := rfl
@[simp] theorem dLen_str : dLen [.str s] = if s.length ≤ bigL then .ok (.int s.length) else .stuck := rfl
@[simp] theorem dLen_tup {ds : List D} : dLen [.tup ds] = .ok (.int ds.length) := rfl
@[simp] theorem dLen_lst {x : Tag} {ds : List D} : dLen [.nd x .lst ds] = .ok (.int ds.length) := rfl
@[simp] theorem dNeg_int : dNeg (.int a) = .ok (.int (-a)) := rfl
@[simp] theorem dEq_int : dEq (.int a) (.int b) = .ok (.bl (a == b)) := rfl
@[simp] theorem dNe_int : dNe (.int a) (.int b) = .ok (.bl (!(a == b))) := rfl
@[simp] theorem dEq_str : dEq (.str s) (.str t) = .ok (.bl (s == t)) := rfl
@[simp] theorem dNe_str : dNe (.str s) (.str t) = .ok (.bl (!(s == t))) := rfl
@[simp] theorem dEq_bl {a b : Bool} : dEq (.bl a) (.bl b) = .ok (.bl (a == b)) := rfl
@[simp] theorem dNe_bl {a b : Bool} : dNe (.bl a) (.bl b) = .ok (.bl (!(a == b))) := rfl
@[simp] theorem dIsN_e : dIsN d = match d with
  | .pin _ _ => .stuck
  | .pack _ _ => .stuck
  | .non => .ok (.bl true)
  | _ => .ok (.bl false) := by cases d <;> rfl
@[simp] theorem dNotN_e : dNotN d = match d with
  | .pin _ _ => .stuck
  | .pack _ _ => .stuck
  | .non => .ok (.bl false)
  | _ => .ok (.bl true) := by cases d <;> rfl
@[simp] theorem dIn1_one {k : Nat} : dIn1 (.str ⟨#[k]⟩) (.str t) = .ok (.bl (decide (k ∈ t.cps.toList))) := by
  show (Res.ok (D.bl (!(Builtin.Str.occurrences t ⟨#[k]⟩ 0 t.length 1).isEmpty))) = _
  rw [PySem.StrLaws.found_one]
@[simp] theorem dIn0_one {k : Nat} : dIn0 (.str ⟨#[k]⟩) (.str t) = .ok (.bl (!decide (k ∈ t.cps.toList))) := by
  show (Res.ok (D.bl (!(!(Builtin.Str.occurrences t ⟨#[k]⟩ 0 t.length 1).isEmpty)))) = _
  rw [PySem.StrLaws.found_one]
theorem dIn1_lst {x : Tag} {ys : List D} (h1 : flatD d = true) (h2 : ys.all flatD = true) : dIn1 d (.nd x .lst ys) = .ok (.bl (inL d ys)) := by
  unfold dIn1 dIn
  cases d <;> simp_all [flatD]
theorem dIn0_lst {x : Tag} {ys : List D} (h1 : flatD d = true) (h2 : ys.all flatD = true) : dIn0 d (.nd x .lst ys) = .ok (.bl (!inL d ys)) := by
  unfold dIn0 dIn
  cases d <;> simp_all [flatD]
@[simp] theorem dIx_lst {x : Tag} {xs : List D} : dIx (.nd x .lst xs) (.int a) = (ofO (atI xs a)).bind fun d => .ok (rd d) := rfl
@[simp] theorem dIx_tup {xs : List D} : dIx (.tup xs) (.int a) = (ofO (atI xs a)).bind fun d => .ok (rd d) := rfl
@[simp] theorem dIx_str : dIx (.str s) (.int a) = if s.length ≤ bigL then (ofO (atI s.cps.toList a)).bind fun k => .ok (.str ⟨#[k]⟩) else .stuck := rfl
@[simp] theorem dSl_lst {x : Tag} {xs : List D} {lo hi : Option Int} : dSl (.nd x .lst xs) lo hi = .ok (.lst .own (rdL (cutL xs lo hi))) := rfl
@[simp] theorem dSl_str {lo hi : Option Int} : dSl (.str s) lo hi = if s.length ≤ bigL then .ok (.str (cutS s lo hi)) else .stuck := rfl
@[simp] theorem dInt_int : dInt [.int a] = .ok (.int a) := rfl
@[simp] theorem dInt_bl {b : Bool} : dInt [.bl b] = .ok (.int (if b then 1 else 0)) := rfl
@[simp] theorem dMax_2 : dMax [.int a, .int b] = .ok (.int (max a b)) := rfl
@[simp] theorem dMin_2 : dMin [.int a, .int b] = .ok (.int (min a b)) := rfl
@[simp] theorem dList_lst {x : Tag} {ds : List D} : dList [.nd x .lst ds] = .ok (.lst .own (rdL ds)) := rfl
@[simp] theorem rng1_e : rng1 [.int a] = if R62 a then .ok (rngD 0 a.toNat) else .stuck := rfl
theorem R62_of (h : a.natAbs ≤ 1000000000) : R62 a := by unfold R62; omega
@[simp] theorem R62_lit {n : Nat} (h : n < 4611686018427387904) : R62 (no_index (OfNat.ofNat n : Int)) := h
@[simp] theorem R62_0 : R62 0 := by unfold R62; decide
@[simp] theorem R62_1 : R62 1 := by unfold R62; decide
@[simp] theorem R62_m1 : R62 (-1) := by unfold R62; decide
@[simp] theorem itemsOf_tmp {ds : List D} : itemsOf false (.nd .tmp .lst ds) = .ok (rdL ds) := rfl
@[simp] theorem itemsOf_lstF {x : Tag} {ds : List D} : itemsOf false (.nd x .lst ds) = .ok (rdL ds) := rfl
@[simp] theorem itemsOf_lstT {x : Tag} {ds : List D} : itemsOf true (.nd x .lst ds) = if noT (.nd x .lst ds) = true then .ok (fzL ds) else .stuck := rfl
@[simp] theorem itemsOf_str {b : Bool} : itemsOf b (.str s) = .ok (s.cps.toList.map fun k => .str ⟨#[k]⟩) := rfl
@[simp] theorem runF_e {N : Nat} {u : Env → SR} {ds : List D} : runF N u ds = match u (ds.map some ++ List.replicate (N - ds.length) none) with
  | .ok (.rt d, _) => .ok d
  | .ok (.nx, _) => .ok .non
  | .exc x => .exc x
  | _ => .stuck := rfl
end
section
variable {s : TgF} {u : Env → SR} {fg : List Nat} {env : Env}
@[simp] theorem forL_nil : forL s u fg [] env = .ok (.nx, env) := rfl
theorem forL_cons {d : D} {ds : List D} : forL s u fg (d :: ds) env = match s d env with
    | .ok env1 => (u env1).bind fun r => match r.1 with
      | .nx => forL s u fg ds (forget fg r.2)
      | .ct => forL s u fg ds (forget fg r.2)
      | .bk => .ok (.nx, forget fg r.2)
      | .rt d => .ok (.rt d, r.2)
    | _ => .stuck := rfl
theorem forL_inv {α : Type} (ei : α → D) (I : Nat → Env → Prop) (xs : List α) {env : Env} (h0 : I 0 env)
    (h : ∀ i env x, xs[i]? = some x → I i env → ∃ env1 env2, s (ei x) env = .ok env1 ∧ (u env1 = .ok (.nx, env2) ∨ u env1 = .ok (.ct, env2)) ∧ I (i + 1) (forget fg env2)) :
    ∃ env', forL s u fg (xs.map ei) env = .ok (.nx, env') ∧ I xs.length env' := by
  have key : ∀ (n k : Nat) (env : Env), k + n = xs.length → I k env → ∃ env', forL s u fg ((xs.drop k).map ei) env = .ok (.nx, env') ∧ I xs.length env' := by
    intro n
    induction n with
    | zero =>
      intro k env e hk
      have : xs.drop k = [] := List.drop_eq_nil_of_le (by omega)
      rw [this]
      have e' : k = xs.length := by omega
      subst e'
      exact ⟨env, rfl, hk⟩
    | succ n ih =>
      intro k env e hk
      have hlt : k < xs.length := by omega
      rw [List.drop_eq_getElem_cons hlt, List.map_cons, forL_cons]
      obtain ⟨env1, env2, h1, h2, h3⟩ := h k env xs[k] (List.getElem?_eq_getElem hlt) hk
      rw [h1]
      obtain ⟨env', h4, h5⟩ := ih (k + 1) _ (by omega) h3
      refine ⟨env', ?_, h5⟩
      rcases h2 with h2 | h2 <;> simp only [h2, rb_ok] <;> exact h4
  simpa using key xs.length 0 env (by omega) h0
end
theorem atI_ok {α : Type} {xs : List α} {i : Int} (h0 : 0 ≤ i) (h1 : i < xs.length) : ∃ k, atI xs i = some k ∧ xs[i.toNat]? = some k ∧ k ∈ xs := by
  have hlt : i.toNat < xs.length := by omega
  refine ⟨xs[i.toNat], ?_, List.getElem?_eq_getElem hlt, List.getElem_mem hlt⟩
  have := atI_nat (xs := xs) (j := i.toNat) (v := xs[i.toNat]) (List.getElem?_eq_getElem hlt)
  rw [Int.toNat_of_nonneg h0] at this
  exact this
@[simp] theorem len_one (k : Nat) : (⟨#[k]⟩ : Str).length = 1 := rfl
section
variable {α : Type} {xs : List α} {ei g : α → D} {as bs : List D}
theorem rdL_eq : ∀ as : List D, rdL as = as.map rd
  | [] => rfl
  | a :: as => by rw [rdL_cons, rdL_eq as, List.map_cons]
theorem fzL_eq : ∀ as : List D, fzL as = as.map fz
  | [] => rfl
  | a :: as => by rw [fzL_cons, fzL_eq as, List.map_cons]
theorem noTL_eq : ∀ as : List D, noTL as = as.all noT
  | [] => rfl
  | a :: as => by rw [noTL_cons, noTL_eq as, List.all_cons]
@[simp] theorem rdL_map : rdL (xs.map ei) = xs.map fun x => rd (ei x) := by rw [rdL_eq, List.map_map]; rfl
@[simp] theorem fzL_map : fzL (xs.map ei) = xs.map fun x => fz (ei x) := by rw [fzL_eq, List.map_map]; rfl
@[simp] theorem noTL_map : noTL (xs.map ei) = xs.all fun x => noT (ei x) := by rw [noTL_eq, List.all_map]; rfl
@[simp] theorem rdL_app : rdL (as ++ bs) = rdL as ++ rdL bs := by rw [rdL_eq, rdL_eq, rdL_eq, List.map_append]
@[simp] theorem fzL_app : fzL (as ++ bs) = fzL as ++ fzL bs := by rw [fzL_eq, fzL_eq, fzL_eq, List.map_append]
@[simp] theorem noTL_app : noTL (as ++ bs) = (noTL as && noTL bs) := by rw [noTL_eq, noTL_eq, noTL_eq, List.all_append]
@[simp] theorem rdL_len : (rdL as).length = as.length := by rw [rdL_eq, List.length_map]
@[simp] theorem fzL_len : (fzL as).length = as.length := by rw [fzL_eq, List.length_map]
@[simp high] theorem rdL_ints {zs : List Int} : rdL (zs.map D.int) = zs.map D.int := by rw [rdL_map]; rfl
@[simp high] theorem fzL_ints {zs : List Int} : fzL (zs.map D.int) = zs.map D.int := by rw [fzL_map]; rfl
@[simp] theorem dIsi_bool {b : Bool} : dIsi "bool" (.bl b) = .ok (.bl true) := rfl
theorem lcL_eq {s : TgF} {p : Env → Res Bool} {f : Env → Res D} {env : Env} (P : α → Bool) (env1 : α → Env) : ∀ xs : List α,
    (∀ x ∈ xs, s (ei x) env = .ok (env1 x) ∧ p (env1 x) = .ok (P x) ∧ (P x = true → f (env1 x) = .ok (g x) ∧ noT (g x) = true)) → lcL s p f env (xs.map ei) = .ok ((xs.filter P).map g)
  | [], _ => rfl
  | x :: xs, h => by
    obtain ⟨h1, h2, h3⟩ := h x (List.mem_cons_self ..)
    have ih := lcL_eq P env1 xs fun y hy => h y (List.mem_cons_of_mem _ hy)
    rw [List.map_cons, lcL, h1]
    dsimp only
    rw [h2]
    cases hp : P x with
    | false => dsimp only; rw [ih, List.filter_cons_of_neg (by simp [hp])]
    | true =>
      obtain ⟨h4, h5⟩ := h3 hp
      dsimp only
      rw [h4]
      dsimp only
      rw [if_pos h5, ih, List.filter_cons_of_pos hp]
      rfl
end
def S (l : List Nat) : Str := ⟨l.toArray⟩
@[simp] theorem S_cps {l : List Nat} : (S l).cps.toList = l := rfl
@[simp] theorem S_len {l : List Nat} : (S l).length = l.length := by simp [S, Str.length]
@[simp] theorem S_app {a b : List Nat} : S a ++ S b = S (a ++ b) := by
  show (⟨a.toArray ++ b.toArray⟩ : Str) = _
  simp [S]
@[simp] theorem S_cut {l : List Nat} {lo hi : Option Int} : cutS (S l) lo hi = S (cutL l lo hi) := by
  unfold cutS cutL S
  simp [Str.length]
@[simp] theorem S_inj {a b : List Nat} : S a = S b ↔ a = b := by
  constructor
  · intro h
    have := congrArg (fun s : Str => s.cps.toList) h
    exact this
  · rintro rfl; rfl
theorem S_one (k : Nat) : (⟨#[k]⟩ : Str) = S [k] := rfl
section
variable {α : Type} {xs : List α} {a b : Int}
theorem cutL_to (h : 0 ≤ b) : cutL xs none (some b) = xs.take b.toNat := by
  unfold cutL HT.sIx
  simp only [if_neg (show ¬ b < 0 by omega), List.drop_zero, Nat.sub_zero]
  rw [List.take_eq_take_iff]
  omega
theorem cutL_from (h : 0 ≤ a) : cutL xs (some a) none = xs.drop a.toNat := by
  unfold cutL HT.sIx
  simp only [if_neg (show ¬ a < 0 by omega)]
  rw [List.take_of_length_le (by simp)]
  by_cases q : a.toNat ≤ xs.length
  · rw [Nat.min_eq_left q]
  · rw [List.drop_eq_nil_of_le (by omega), List.drop_eq_nil_of_le (by omega)]
theorem cutL_mid (h : 0 ≤ a) (h2 : 0 ≤ b) : cutL xs (some a) (some b) = (xs.drop a.toNat).take (b.toNat - a.toNat) := by
  unfold cutL HT.sIx
  simp only [if_neg (show ¬ a < 0 by omega), if_neg (show ¬ b < 0 by omega)]
  by_cases q : a.toNat ≤ xs.length
  · rw [Nat.min_eq_left q, List.take_eq_take_iff]
    simp
    omega
  · rw [List.drop_eq_nil_of_le (as := xs) (i := a.toNat) (by omega), List.drop_eq_nil_of_le (by omega)]
    simp
end
theorem nodup_map {α β : Type} {f : α → β} {xs : List α} (h : ∀ a b, f a = f b → a = b) (n : xs.Nodup) : (xs.map f).Nodup := by
  unfold List.Nodup
  rw [List.pairwise_map]
  exact List.Pairwise.imp (fun q e => q (h _ _ e)) n
theorem lcL_map {α : Type} {s : TgF} {f : PV.Env → Res D} {env : PV.Env} {ei : α → D} (g : α → D) (env1 : α → PV.Env) (xs : List α)
    (h : ∀ x ∈ xs, s (ei x) env = .ok (env1 x) ∧ f (env1 x) = .ok (g x) ∧ noT (g x) = true) : lcL s bYes f env (xs.map ei) = .ok (xs.map g) := by
  rw [lcL_eq (fun _ => true) env1 xs fun x hx => ⟨(h x hx).1, rfl, fun _ => (h x hx).2⟩]
  rw [List.filter_eq_self.mpr (by simp)]
def isLet (k : Nat) : Prop := 97 ≤ k ∧ k ≤ 122
def NameL (l : List Nat) : Prop := 1 ≤ l.length ∧ l.length ≤ 6 ∧ ∀ k ∈ l, isLet k
theorem abc_cps : (Str.ofString "abcdefghijklmnopqrstuvwxyz").cps.toList = List.range' 97 26 := by decide +kernel
theorem abc_mem (k : Nat) : k ∈ (Str.ofString "abcdefghijklmnopqrstuvwxyz").cps.toList ↔ isLet k := by
  rw [abc_cps, List.mem_range'_1]
  unfold isLet
  omega
theorem abc_len : (Str.ofString "abcdefghijklmnopqrstuvwxyz").length = 26 := by decide +kernel
theorem abc_at {i : Int} (h0 : 0 ≤ i) (h1 : i < 26) : ∃ k, atI (Str.ofString "abcdefghijklmnopqrstuvwxyz").cps.toList i = some k ∧ isLet k := by
  obtain ⟨k, h, _, m⟩ := atI_ok (xs := (Str.ofString "abcdefghijklmnopqrstuvwxyz").cps.toList) h0 (by rw [abc_cps]; simpa using h1)
  exact ⟨k, h, (abc_mem k).mp m⟩
theorem atI_lt {α : Type} {xs : List α} {i : Int} (h0 : 0 ≤ i) (h1 : i < xs.length) : atI xs i = some (xs[i.toNat]'(by omega)) := by
  have hlt : i.toNat < xs.length := by omega
  have := atI_nat (xs := xs) (j := i.toNat) (v := xs[i.toNat]) (List.getElem?_eq_getElem hlt)
  rw [Int.toNat_of_nonneg h0] at this
  exact this
theorem atI_map {α β : Type} {xs : List α} {f : α → β} {i : Int} : atI (xs.map f) i = (atI xs i).map f := by
  unfold atI
  rw [List.length_map]
  cases ixN xs.length i <;> simp
theorem rngD_map (n : Nat) (a : Int) : rngD a n = (List.range n).map fun i : Nat => D.int (a + (i : Int)) := rfl
theorem rng0 (n : Nat) : rngD 0 n = (List.range n).map fun i : Nat => D.int (i : Int) := by
  rw [rngD_map]
  simp
section
variable {α β : Type} {s : TgF} {u : PV.Env → SR} {fg : List Nat} {env : PV.Env} {ei : α → D}
theorem enumD_map : ∀ (xs : List α) (k : Nat), enumD k (xs.map ei) = (xs.zipIdx k).map fun p => .tup [.int (p.2 : Int), ei p.1]
  | [], _ => rfl
  | x :: xs, k => by
    rw [List.map_cons, enumD, enumD_map xs (k + 1)]
    rfl
@[simp] theorem enum1_lstT {x : Tag} {ds : List D} : enum1 true [.nd x .lst ds] = if noTL ds = true ∧ x ≠ .tmp then .ok (enumD 0 (fzL ds)) else .stuck := by
  show (itemsOf true (.nd x .lst ds)).bind _ = _
  rw [itemsOf_lstT]
  cases x <;> simp
  · by_cases h : noTL ds = true <;> simp [h]
  · by_cases h : noTL ds = true <;> simp [h]
@[simp] theorem enum1_lstF {x : Tag} {ds : List D} : enum1 false [.nd x .lst ds] = .ok (enumD 0 (rdL ds)) := rfl
theorem atI_at {xs : List α} [Inhabited α] {i : Int} (h0 : 0 ≤ i) (h1 : i < xs.length) : atI xs i = some xs[i.toNat]! := by
  rw [atI_lt h0 h1, getElem!_pos]
theorem atI_get {xs : List α} [Inhabited α] {j : Nat} (h1 : j < xs.length) : atI xs (j : Int) = some xs[j]! := by
  rw [atI_at (by omega) (by omega)]
  rfl
end
mutual
def plD : Nat → D → Bool
  | _, .non => true
  | _, .bl _ => true
  | _, .int _ => true
  | _, .str s => PyData.strOk s
  | 0, _ => false
  | n + 1, .tup ds => plL n ds
  | n + 1, .nd _ .lst ds => plL n ds
  | _ + 1, .nd _ _ _ => false
  | _ + 1, .pin _ _ => false
  | _ + 1, .pack _ _ => false
def plL : Nat → List D → Bool
  | _, [] => true
  | n, d :: ds => plD n d && plL n ds
end
theorem plL_eq (n : Nat) : ∀ ds : List D, plL n ds = ds.all (plD n)
  | [] => by rw [plL]; rfl
  | d :: ds => by rw [plL, plL_eq n ds, List.all_cons]
mutual
theorem pl_shaped : ∀ (d : D) (n : Nat), plD n d = true → (toP d).canLay0 = true ∧ (toP d).depth ≤ n
  | .non, n, h => by simp [toP, PyData.canLay0, PyData.depth]
  | .bl _, n, h => by simp [toP, PyData.canLay0, PyData.depth]
  | .int _, n, h => by simp [toP, PyData.canLay0, PyData.depth]
  | .str s, n, h => by
    cases n <;> (rw [plD] at h; simp [toP, PyData.canLay0, PyData.depth, h])
  | .tup ds, n, h => by
    cases n with
    | zero => simp [plD] at h
    | succ n =>
      rw [plD] at h
      obtain ⟨h1, h2⟩ := plL_shaped ds n h
      rw [toP, PyData.canLay0, PyData.depth]
      exact ⟨h1, by omega⟩
  | .nd t k ds, n, h => by
    cases n with
    | zero => cases k <;> simp [plD] at h
    | succ n =>
      cases k with
      | lst =>
        rw [plD] at h
        obtain ⟨h1, h2⟩ := plL_shaped ds n h
        rw [toP, PyData.canLay0, PyData.depth]
        exact ⟨h1, by omega⟩
      | _ => simp [plD] at h
  | .pin _ _, n, h => by cases n <;> simp [plD] at h
  | .pack _ _, n, h => by cases n <;> simp [plD] at h
theorem plL_shaped : ∀ (ds : List D) (n : Nat), plL n ds = true → PyData.canLayAll0 (toPL ds) = true ∧ PyData.depthAll (toPL ds) ≤ n
  | [], n, h => by simp [toPL, PyData.canLayAll0, PyData.depthAll]
  | d :: ds, n, h => by
    rw [plL, Bool.and_eq_true] at h
    obtain ⟨a1, a2⟩ := pl_shaped d n h.1
    obtain ⟨b1, b2⟩ := plL_shaped ds n h.2
    rw [toPL, PyData.canLayAll0, PyData.depthAll, a1, b1]
    exact ⟨rfl, by omega⟩
end
theorem dNe_same {x y : D} {n : Nat} (hp : plD n x = true) (hn : n ≤ 64) (h : toP x = toP y) : dNe x y = .ok (.bl false) ∧ dEq x y = .ok (.bl true) := by
  obtain ⟨h1, h2⟩ := pl_shaped x n hp
  have hs : SeqAt.shaped (toP x) = true := by
    unfold SeqAt.shaped
    simp [h1]
    omega
  have e : eqOk x y = true := by
    unfold eqOk
    rw [← h, hs]
    simp
  have q : eqD x y = true := by
    unfold eqD
    rw [← h]
    exact SeqAt.eqv_refl _ h1
  unfold dNe dEq
  simp [e, q]
theorem toPL_eq : ∀ ds : List D, toPL ds = ds.map toP
  | [] => rfl
  | d :: ds => by rw [toPL, toPL_eq ds]; rfl
def calmD (d : D) : Prop := rd d = d ∧ fz d = d ∧ noT d = true
theorem map_calm {α : Type} {ei : α → D} {xs : List α} (h : ∀ x, calmD (ei x)) : rdL (xs.map ei) = xs.map ei ∧ fzL (xs.map ei) = xs.map ei ∧ noTL (xs.map ei) = true := by
  refine ⟨?_, ?_, ?_⟩
  · rw [rdL_map]; exact congrArg (fun f => xs.map f) (funext fun x => (h x).1)
  · rw [fzL_map]; exact congrArg (fun f => xs.map f) (funext fun x => (h x).2.1)
  · rw [noTL_map]; simp [(h _).2.2]
section
variable {X : Cx} {c : Cfg X.K} {E : XK} {pos : Pos}
def par2 (i j : Nat) (ds : List D) (env : Env) : SR := match ds with
  | [x, y] => if (noT x && noT y) = true then .ok (.nx, (env.set i (some x)).set j (some y)) else .stuck
  | _ => .stuck
def sPar (i j : Nat) (fs : Env → Res (List D)) : Env → SR := fun env => (fs env).bind fun ds => par2 i j ds env
theorem es_par (i j : Nat) {x y : Str} {a b : Expr} {fs : Env → Res (List D)} {px py pt : Pos} {kt k2 pt2} (hc : X.calm = true) (hN : X.N.Nodup) (ha : EL X c E [a, b] fs) (hij : i ≠ j)
    (hx : X.env.scope.names.lookup x = some .local) (hy : X.env.scope.names.lookup y = some .local)
    (hw : swappedStores [.Tuple [.Name x px, .Name y py] kt pt] (.Tuple [a, b] k2 pt2) X.env = pure (some [x, y])) (hi : X.N[i]? = some x := by rfl) (hj : X.N[j]? = some y := by rfl)
    (hs : swapsWithSole [.Tuple [.Name x px, .Name y py] kt pt] (.Tuple [a, b] k2 pt2) pos.line X.env = pure false := by rfl) :
    ES X c E (.Assign [.Tuple [.Name x px, .Name y py] kt pt] (.Tuple [a, b] k2 pt2) pos) (sPar i j fs) := PS.imp (ps_par hc hN hi hj hij hx hy ha hw hs) fun Dn σ H q => by
  obtain ⟨K, F0, F, env, φ, S, p⟩ := q
  refine ⟨true, K, F0, F, env, φ, S, ?_⟩
  unfold sPar at p
  cases z : fs env with
  | ok ds =>
    simp only [z, Res.bind] at p
    intro vs H' F' fp x r nd fr
    unfold par2 at p
    split at p
    · rename_i d e
      by_cases h : (noT d && noT e) = true
      · rw [if_pos h] at p
        rw [Bool.and_eq_true] at h
        cases r with
        | cons r1 r2 =>
          cases r2 with
          | cons r2 r3 =>
            cases r3
            rename_i v fa w fb
            rw [List.append_nil] at nd fr
            have n2 := List.nodup_append.mp nd
            refine ⟨v, w, rfl, ?_⟩
            have f1 : Float c.κ K F' φ H' d v fa := S.float x r1 n2.1 fun a m => fr a (List.mem_append_left _ m)
            have S1 := (S.ext x).setF f1 (fun _ => h.1) i
            have f2 : Float c.κ K F' (put φ i fa) H' e w fb := ⟨r2, n2.2.1, fun a m => ⟨(fr a (List.mem_append_right _ m)).2, (S.apart (fr a (List.mem_append_right _ m)).1).1, fun k mk => by
              by_cases hk : k = i
              · subst hk
                rw [put_same] at mk
                exact n2.2.2 a mk a m rfl
              · rw [put_ne hk] at mk
                exact (S.apart (fr a (List.mem_append_right _ m)).1).2 k mk⟩⟩
            exact p _ _ _ _ (S1.setF f2 (fun _ => h.2) j)
      · rw [if_neg h] at p
        exact p.elim
    · exact p.elim
  | exc y => simp only [z, Res.bind] at p; exact fun cl dd H' s w => p cl dd H' (S.kk.trans s) (c.mono (S.kk) w)
  | stuck => simp only [z, Res.bind] at p; exact p
end
@[simp] theorem sPar_e {i j : Nat} {fs : Env → Res (List D)} {env : Env} : sPar i j fs env = (fs env).bind fun ds => par2 i j ds env := rfl
@[simp] theorem par2_e {i j : Nat} {x y : D} {env : Env} : par2 i j [x, y] env = if (noT x && noT y) = true then .ok (.nx, (env.set i (some x)).set j (some y)) else .stuck := rfl
@[simp] theorem cutL_map {α β : Type} {xs : List α} {f : α → β} {a b : Option Int} : cutL (xs.map f) a b = (cutL xs a b).map f := by
  unfold cutL
  rw [List.length_map, List.map_take, List.map_drop]
theorem ints_map : ∀ zs : List Int, ints? (zs.map D.int) = some zs
  | [] => rfl
  | z :: zs => by
    have := ints_map zs
    simp only [List.map_cons]
    simp [ints?, this]
@[simp] theorem dSum_ints {t : Tag} {zs : List Int} : dSum [.nd t .lst (zs.map D.int)] = .ok (.int zs.sum) := by
  show (ofO (ints? (zs.map D.int))).bind _ = _
  rw [ints_map]
  rfl
@[simp high] theorem dSl_ints {x : Tag} {zs : List Int} {lo hi : Option Int} : dSl (.nd x .lst (zs.map D.int)) lo hi = .ok (.lst .own ((cutL zs lo hi).map D.int)) := by
  rw [dSl_lst, cutL_map, rdL_ints]
@[simp] theorem dIsi_ii {i : Int} : dIsi "int" (.int i) = .ok (.bl true) := (rfl)
@[simp] theorem dIsi_bi {i : Int} : dIsi "bool" (.int i) = .ok (.bl false) := (rfl)
@[simp] theorem dIsi_in : dIsi "int" .non = .ok (.bl false) := (rfl)
@[simp] theorem dIsi_bn : dIsi "bool" .non = .ok (.bl false) := (rfl)
@[simp] theorem dIsi_ll {x : Tag} {ds : List D} : dIsi "list" (.nd x .lst ds) = .ok (.bl true) := (rfl)
@[simp] theorem dIsi_lt {ds : List D} : dIsi "list" (.tup ds) = .ok (.bl false) := (rfl)
@[simp] theorem dIsi_tt {ds : List D} : dIsi "tuple" (.tup ds) = .ok (.bl true) := (rfl)
@[simp] theorem dIsi_tl {x : Tag} {ds : List D} : dIsi "tuple" (.nd x .lst ds) = .ok (.bl false) := (rfl)
@[simp] theorem dIsi_it {ds : List D} : dIsi "int" (.tup ds) = .ok (.bl false) := (rfl)
@[simp] theorem dIsi_ss {s : Str} : dIsi "str" (.str s) = .ok (.bl true) := (rfl)
@[simp] theorem dIsi_si {i : Int} : dIsi "str" (.int i) = .ok (.bl false) := (rfl)
@[simp] theorem dIsi_sn : dIsi "str" .non = .ok (.bl false) := (rfl)
@[simp] theorem noTL_ints' {zs : List Int} : noTL (zs.map D.int) = true := by
  rw [noTL_map]; simp
@[simp high] theorem rng1_nat {n : Nat} (h : n ≤ 1000000) : rng1 [.int (n : Int)] = .ok (rngD 0 n) := by
  rw [rng1_e, if_pos (R62_of (by omega)), Int.toNat_natCast]
theorem mem_at {α : Type} [Inhabited α] {xs : List α} {k : Nat} (h : k < xs.length) : xs[k]! ∈ xs := by
  rw [getElem!_pos xs k h]
  exact List.getElem_mem h
theorem atI_mget {α β : Type} [Inhabited α] {xs : List α} {f : α → β} {k : Nat} (h : k < xs.length) : atI (xs.map f) (k : Int) = some (f xs[k]!) := by
  rw [atI_map, atI_get h, Option.map_some]
theorem bls_map : ∀ bs : List Bool, bls? (bs.map D.bl) = some bs
  | [] => rfl
  | b :: bs => by
    have := bls_map bs
    simp only [List.map_cons]
    simp [bls?, this]
@[simp] theorem dAny_bls {t : Tag} {bs : List Bool} : dAny [.nd t .lst (bs.map D.bl)] = .ok (.bl (bs.any id)) := by
  show (ofO (bls? (bs.map D.bl))).bind _ = _
  rw [bls_map]
  rfl
@[simp] theorem dAll_bls {t : Tag} {bs : List Bool} : dAll [.nd t .lst (bs.map D.bl)] = .ok (.bl (bs.all id)) := by
  show (ofO (bls? (bs.map D.bl))).bind _ = _
  rw [bls_map]
  rfl
theorem inL_ints {a : Int} {zs : List Int} : inL (.int a) (zs.map D.int) = decide (a ∈ zs) := by
  unfold inL
  rw [List.any_map]
  by_cases h : a ∈ zs
  · rw [decide_eq_true h, List.any_eq_true]
    exact ⟨a, h, by simp [eqD, toP, PyData.eqv]⟩
  · rw [decide_eq_false h, List.any_eq_false]
    intro x hx
    simp [eqD, toP, PyData.eqv]
    intro e
    exact h (e ▸ hx)
@[simp] theorem dIn1_ints {x : Tag} {a : Int} {zs : List Int} : dIn1 (.int a) (.nd x .lst (zs.map D.int)) = .ok (.bl (decide (a ∈ zs))) := by
  rw [dIn1_lst rfl (by simp [flatD]), inL_ints]
@[simp] theorem dIn0_ints {x : Tag} {a : Int} {zs : List Int} : dIn0 (.int a) (.nd x .lst (zs.map D.int)) = .ok (.bl (!decide (a ∈ zs))) := by
  rw [dIn0_lst rfl (by simp [flatD]), inL_ints]
@[simp] theorem faL_nil : faL [] = [] := by rw [faL]
@[simp] theorem faL_cons {d : D} {ds : List D} : faL (d :: ds) = fa d :: faL ds := by rw [faL]
@[simp] theorem fa_nd {t : Tag} {k : Kind} {ds : List D} : fa (.nd t k ds) = .nd .frz k (faL ds) := by rw [fa]
@[simp] theorem fa_tup {ds : List D} : fa (.tup ds) = .tup (faL ds) := by rw [fa]
@[simp] theorem fa_int {i : Int} : fa (.int i) = .int i := by rw [fa] <;> simp
@[simp] theorem fa_str {i : Str} : fa (.str i) = .str i := by rw [fa] <;> simp
@[simp] theorem fa_bl {i : Bool} : fa (.bl i) = .bl i := by rw [fa] <;> simp
@[simp] theorem fa_non : fa .non = .non := by rw [fa] <;> simp
theorem faL_eq : ∀ as : List D, faL as = as.map fa
  | [] => by rw [faL_nil]; rfl
  | a :: as => by rw [faL_cons, faL_eq as, List.map_cons]
@[simp] theorem faL_map {α : Type} {xs : List α} {ei : α → D} : faL (xs.map ei) = xs.map fun x => fa (ei x) := by rw [faL_eq, List.map_map]; rfl
@[simp high] theorem faL_ints {zs : List Int} : faL (zs.map D.int) = zs.map D.int := by rw [faL_map]; simp
@[simp] theorem imm_tup {ds : List D} : imm (.tup ds) = immL ds := by rw [imm]
@[simp] theorem imm_nd {t : Tag} {k : Kind} {ds : List D} : imm (.nd t k ds) = false := by rw [imm]
@[simp] theorem imm_int {i : Int} : imm (.int i) = true := by rw [imm] <;> simp
@[simp] theorem imm_str {i : Str} : imm (.str i) = true := by rw [imm] <;> simp
@[simp] theorem imm_bl {i : Bool} : imm (.bl i) = true := by rw [imm] <;> simp
@[simp] theorem imm_non : imm .non = true := by rw [imm] <;> simp
@[simp] theorem imO_tup {ds : List D} : imO (.tup ds) = imOL ds := by rw [imO]
@[simp] theorem imO_own {k : Kind} {ds : List D} : imO (.nd .own k ds) = imOL ds := by rw [imO]; rfl
@[simp] theorem imO_frz {k : Kind} {ds : List D} : imO (.nd .frz k ds) = false := by rw [imO]; rfl
@[simp] theorem imO_tmp {k : Kind} {ds : List D} : imO (.nd .tmp k ds) = false := by rw [imO]; rfl
@[simp] theorem imO_int {i : Int} : imO (.int i) = true := by rw [imO] <;> simp
@[simp] theorem imO_str {i : Str} : imO (.str i) = true := by rw [imO] <;> simp
@[simp] theorem imO_bl {i : Bool} : imO (.bl i) = true := by rw [imO] <;> simp
@[simp] theorem imO_non : imO .non = true := by rw [imO] <;> simp
@[simp] theorem imOL_nil : imOL [] = true := by rw [imOL]
@[simp] theorem imOL_cons {d : D} {ds : List D} : imOL (d :: ds) = (imO d && imOL ds) := by rw [imOL]
theorem imOL_eq : ∀ ds : List D, imOL ds = ds.all imO
  | [] => by rw [imOL_nil]; rfl
  | d :: ds => by rw [imOL_cons, imOL_eq ds, List.all_cons]
@[simp] theorem imOL_map {α : Type} {xs : List α} {ei : α → D} : imOL (xs.map ei) = xs.all fun x => imO (ei x) := by rw [imOL_eq, List.all_map]; rfl
@[simp high] theorem imOL_ints {zs : List Int} : imOL (zs.map D.int) = true := by rw [imOL_map]; simp
@[simp] theorem dList_tup {ds : List D} : dList [.tup ds] = .ok (.lst .own (rdL ds)) := rfl
@[simp] theorem itemsOf_tupF {ds : List D} : itemsOf false (.tup ds) = .ok (rdL ds) := rfl
section
variable {X : Cx} {c : Cfg X.K} {E : XK} {pos : Pos}
theorem each_vals {R : Value → V × PyData → Prop} (hR : ∀ u b, RelV b.1 u → R u b) : ∀ {bs : List (V × PyData)} {us : List Value}, Vals (bs.map (·.1)) us → PySem.W.EachIs R us bs
  | [], us, h => by
    rw [List.map_nil] at h
    cases h
    exact .nil
  | b :: bs, us, h => by
    rw [List.map_cons] at h
    cases h with
    | cons r t => exact .cons (hR _ _ r) (each_vals hR t)
theorem vals_each : ∀ {bs : List (V × PyData)} {us : List Value}, PySem.W.EachIs (fun u b => RelV b.1 u) us bs → Vals (bs.map (·.1)) us
  | _, _, .nil => by rw [List.map_nil]; exact Paired.nil
  | _, _, .cons r t => by rw [List.map_cons]; exact Paired.cons r (vals_each t)
theorem each_dp {K : PySem.W.Frag} {H : Hp} {R : Value → V × PyData → Prop} (hR : ∀ u b, Dp K H b.1 b.2 → RelV b.1 u → R u b) : ∀ {bs : List (V × PyData)} {us : List Value}, (∀ b ∈ bs, Dp K H b.1 b.2) → Vals (bs.map (·.1)) us → PySem.W.EachIs R us bs
  | [], us, _, h => by
    rw [List.map_nil] at h
    cases h
    exact .nil
  | b :: bs, us, d, h => by
    rw [List.map_cons] at h
    cases h with
    | cons r t => exact .cons (hR _ _ (d b (List.mem_cons_self ..)) r) (each_dp hR (fun x hx => d x (List.mem_cons_of_mem _ hx)) t)
def rSortD (K : PySem.W.Frag) : List V → Hp → VK → Prop := fun vs H Q => ∃ (a : Addr) (bs : List (V × PyData)), vs = [V.ref a] ∧ SqL K H a (bs.map (·.1)) ∧ (∀ b ∈ bs, Dp K H b.1 b.2) ∧ PySem.W.AllAlike (bs.map (·.2)) ∧ PySem.W.Sortable (bs.map (·.2)) ∧ (∀ b ∈ bs, b.2.depth ≤ 50) ∧
  ∀ p, H p = none → Q (.ref p) (upd H p (.lst ((bs.mergeSort (PySem.W.dataLe false (·.2))).map (·.1))))
theorem cr_sortD (hu : X.A.units + 64 < cLine) : CallR X (.builtin "sorted") (rSortD X.K) := by
  intro pins s σ H vs us Q I r h
  obtain ⟨a, bs, rfl, hs, hd, ha, hk, hp, q⟩ := h
  obtain ⟨its, rv, hl, hz⟩ := I.list hs
  rw [Vals.ref1 r]
  have hlen : bs.length ≤ sizeLine := by
    rw [List.length_map] at hz
    exact hz
  refine PySem.W.sorted_data (R := fun u b => RelV b.1 u) (enc := (·.2)) (bs := bs) hl.isList (each_vals (fun _ _ z => z) rv) (each_dp (fun u b z1 z2 => Dp.reads I b.2 b.1 u z1 z2) hd rv) ha hk hlen (fun b hb => by have := hp b hb; omega) fun out ho he => ?_
  obtain ⟨ep, he'⟩ := PyProof.Rows.sortedAll_at s.heap its (List.toArray out)
  have hl2 : ((bs.mergeSort (PySem.W.dataLe false (·.2))).map (·.1)).length ≤ sizeLine := by
    rw [List.length_map, List.length_mergeSort]
    exact hlen
  exact ⟨.ref _, upd H (s.heap.objs.size + 1) (.lst ((bs.mergeSort (PySem.W.dataLe false (·.2))).map (·.1))), I.laid (t' := s.toks) (fun _ _ => PyProof.Rows.sortedAll_old) (Nat.le_succ _) ⟨hl2, _, ep, by simpa using vals_each he, he'⟩, rfl, q _ (I.hok.fresh (Nat.le_succ _))⟩
theorem repL_zip {M : PySem.W.Frag} {κ : Kap M} {F H : Hp} : ∀ {ds : List D} {vs : List V}, RepL κ F H ds vs [] → ∃ L : List (V × D), L.map (·.2) = ds ∧ L.map (·.1) = vs ∧ ∀ p ∈ L, Rep κ F H p.2 p.1 []
  | [], vs, h => by cases h; exact ⟨[], rfl, rfl, by simp⟩
  | d :: ds, vs, h => by
    generalize hf : ([] : List Addr) = fp at h
    cases h with
    | cons r t =>
      rename_i v vs fa fb
      obtain ⟨h1, h2⟩ := List.append_eq_nil_iff.mp hf.symm
      subst h1 h2
      obtain ⟨L, e1, e2, h3⟩ := repL_zip t
      refine ⟨(v, d) :: L, by rw [List.map_cons, e1], by rw [List.map_cons, e2], fun p hp => ?_⟩
      rcases List.mem_cons.mp hp with rfl | hp
      · exact r
      · exact h3 p hp
theorem zip_repL {M : PySem.W.Frag} {κ : Kap M} {F H : Hp} : ∀ {L : List (V × D)}, (∀ p ∈ L, Rep κ F H p.2 p.1 []) → RepL κ F H (L.map (·.2)) (L.map (·.1)) []
  | [], _ => .nil
  | p :: L, h => RepL.cons (fp := []) (fq := []) (h p (List.mem_cons_self ..)) (zip_repL fun q hq => h q (List.mem_cons_of_mem _ hq))
def leD (x y : D) : Bool := PySem.W.dataLe false toP x y
def tupB : PyData → Bool
  | .tuple (_ :: _) => true
  | _ => false
def othB : PyData → Bool
  | .none => false
  | .tuple _ => false
  | _ => true
theorem tupB_is : ∀ {d : PyData}, tupB d = true → ∃ x r, d = .tuple (x :: r)
  | .tuple (x :: r), _ => ⟨x, r, rfl⟩
theorem othB_is {d : PyData} (h : othB d = true) : d ≠ .none ∧ ∀ xs, d ≠ .tuple xs := by
  constructor
  · rintro rfl; cases h
  · rintro xs rfl; cases h
def sortOk (ds : List D) : Bool := immL ds && (plL 50 ds && ((ds.all fun x => ds.all fun y => PySem.W.alike (toP x) (toP y)) && ((ds.all fun x => tupB (toP x)) || (ds.all fun x => othB (toP x)))))
def dSort : List D → Res D
  | [.nd _ .lst ds] => if sortOk ds = true then .ok (.lst .own (ds.mergeSort leD)) else .stuck
  | _ => .stuck
theorem opc_sort : OpC c (rSortD X.K) dSort := by
  intro E F H ds vs fp Q fh r p
  unfold dSort at p
  split at p
  · rename_i t ds
    obtain ⟨v, fq, rfl, r1⟩ := r.one
    obtain ⟨a, vs, fq, rfl, h1, h2, _⟩ := r1.sqL fh
    by_cases ok : sortOk ds = true
    case neg => rw [if_neg ok] at p; exact p.elim
    rw [if_pos ok] at p
    unfold sortOk at ok
    simp only [Bool.and_eq_true] at ok
    obtain ⟨ok1, ok2, ok3, ok4⟩ := ok
    obtain ⟨rfl, h3⟩ := RepL.imm _ F H F H (fun _ _ z => z) _ _ _ ok1 h2
    obtain ⟨L, e1, e2, h4⟩ := repL_zip h3
    have hpl : ∀ d ∈ ds, plD 50 d = true := by
      rw [plL_eq, List.all_eq_true] at ok2
      exact ok2
    have hin : ∀ q ∈ L, q.2 ∈ ds := fun q hq => by rw [← e1]; exact List.mem_map.mpr ⟨q, hq, rfl⟩
    refine ⟨a, L.map fun q => (q.1, toP q.2), rfl, by rw [List.map_map]; rw [← e2] at h1; exact h1, ?_, ?_, ?_, ?_, fun l hl => ?_⟩
    · intro b hb
      obtain ⟨q, hq, rfl⟩ := List.mem_map.mp hb
      exact Rep.dp _ F H fh _ _ _ (pl_shaped _ _ (hpl _ (hin q hq))).1 (h4 q hq)
    · rw [List.map_map]
      intro x hx y hy
      obtain ⟨q, hq, rfl⟩ := List.mem_map.mp hx
      obtain ⟨q', hq', rfl⟩ := List.mem_map.mp hy
      exact List.all_eq_true.mp (List.all_eq_true.mp ok3 _ (hin q hq)) _ (hin q' hq')
    · rw [List.map_map]
      rcases Bool.or_eq_true_iff.mp ok4 with k | k
      · refine .inl fun x hx => ?_
        obtain ⟨q, hq, rfl⟩ := List.mem_map.mp hx
        exact tupB_is (List.all_eq_true.mp k _ (hin q hq))
      · refine .inr fun x hx => ?_
        obtain ⟨q, hq, rfl⟩ := List.mem_map.mp hx
        exact othB_is (List.all_eq_true.mp k _ (hin q hq))
    · intro b hb
      obtain ⟨q, hq, rfl⟩ := List.mem_map.mp hb
      exact (pl_shaped _ _ (hpl _ (hin q hq))).2
    · have m1 : (L.map fun q => (q.1, toP q.2)).mergeSort (PySem.W.dataLe false (·.2)) = (L.mergeSort fun x y => leD x.2 y.2).map fun q => (q.1, toP q.2) := by
        rw [List.map_mergeSort]
        intro x _ y _
        rfl
      have m2 : ds.mergeSort leD = (L.mergeSort fun x y => leD x.2 y.2).map (·.2) := by
        rw [List.map_mergeSort (s := leD), e1]
        intro x _ y _
        rfl
      rw [m1, List.map_map]
      refine p.newO fh hl rfl ?_ rfl
      rw [m2]
      exact zip_repL fun q hq => h4 q ((List.mergeSort_perm L _).mem_iff.mp hq)
  · exact p.elim
theorem ev_sorted {e : Expr} {p : Pos} {fs : Env → Res (List D)} (hu : X.A.units + 64 < cLine) (hg : Gl X "sorted") (hm : X.mg "sorted" = none) (ha : EL X c E [e] fs) (he : starEach [e] X.env = (false, eval e X.env) :: starEach [] X.env := by rfl) : EV X c E (.Call (.Name "sorted" p) [e] [] pos) (eC_ dSort fs) :=
  ev_callB opc_sort (cr_sortD hu) hg hm (by decide +kernel) ha (by decide) (by decide) he
end
section
variable {α β : Type} {f : α → D} {g : β → D}
theorem zipD_map : ∀ (xs : List α) (ys : List β), zipD (xs.map f) (ys.map g) = (xs.zip ys).map fun p => .tup [f p.1, g p.2]
  | [], ys => by simp [zipD]
  | _ :: _, [] => by simp [zipD]
  | x :: xs, y :: ys => by
    rw [List.map_cons, List.map_cons, zipD, zipD_map xs ys]
    rfl
@[simp] theorem zip2_e {st : Bool} {t u : Tag} {ds es : List D} : zip2 st [.nd t .lst ds, .nd u .lst es] = (itemsOf st (.nd t .lst ds)).bind fun xs => (itemsOf st (.nd u .lst es)).bind fun ys => .ok (zipD xs ys) := (rfl)
end
theorem RepL.look {M : PySem.W.Frag} {κ : Kap M} {F H : Hp} {f : Str} {d : D} : ∀ {ns : List Str} {ds : List D} {vs : List V} {fp : List Addr}, RepL κ F H ds vs fp → (ns.zip ds).lookup f = some d → ∃ v fq, (ns.zip vs).lookup f = some v ∧ Rep κ F H d v fq
  | [], _, _, _, _, h => by simp at h
  | n :: ns, [], _, _, _, h => by simp at h
  | n :: ns, e :: ds, _, _, r, h => by
    cases r with
    | cons r1 r2 =>
      rename_i v vs fa fb
      rw [List.zip_cons_cons, List.lookup_cons] at h ⊢
      cases q : f == n with
      | true =>
        rw [q] at h
        cases h
        exact ⟨v, fa, rfl, r1⟩
      | false =>
        rw [q] at h
        exact RepL.look r2 h
def dFld (cs : List Str) (f : Str) : D → Res D
  | .nd _ (.ins c ns) ds => if cs.contains c = true then (ofO ((ns.zip ds).lookup f)).bind fun d => .ok (rd d) else .stuck
  | .nd _ (.inv c ns _) ds => if cs.contains c = true then (ofO ((ns.zip ds).lookup f)).bind fun d => .ok (rd d) else .stuck
  | _ => .stuck
structure ClsOk {M : PySem.W.Frag} (κ : Kap M) (cs : List Str) (f : Str) : Prop where
  all : ∀ c, cs.contains c = true → Cls M (κ.cls c) ∧ NoAttr M (κ.cls c) f
theorem ClsOk.nil {M : PySem.W.Frag} {κ : Kap M} {f : Str} : ClsOk κ [] f := ⟨fun c h => by simp at h⟩
theorem ClsOk.cons {M : PySem.W.Frag} {κ : Kap M} {f a : Str} {cs : List Str} (h1 : Cls M (κ.cls a)) (h2 : NoAttr M (κ.cls a) f) (h : ClsOk κ cs f) : ClsOk κ (a :: cs) f := ⟨fun c hc => by
  rw [List.contains_cons, Bool.or_eq_true] at hc
  rcases hc with hc | hc
  · rw [beq_iff_eq] at hc
    subst hc
    exact ⟨h1, h2⟩
  · exact h.all c hc⟩
theorem Rep.insL {M : PySem.W.Frag} {κ : Kap M} {F H : Hp} {t : Tag} {cn : Str} {ns : List Str} {ds : List D} {v : V} {fp : List Addr} (r : Rep κ F H (.nd t (.ins cn ns) ds) v fp) (fh : Sub F H) :
    ∃ a dx vs fq, v = .ref a ∧ H a = some (.ins (κ.cls cn) dx (ns.zip vs)) ∧ RepL κ F H ds vs fq := by
  cases r with
  | ndO ha hs hl =>
    obtain ⟨_, dx, rfl⟩ := hs
    exact ⟨_, dx, _, _, rfl, ha, hl⟩
  | ndF ha hr hs hl =>
    obtain ⟨_, dx, rfl⟩ := hs
    rcases hr with rfl | ⟨z, _⟩
    · exact ⟨_, dx, _, _, rfl, fh _ _ ha, hl⟩
    · cases z
  | ndT ha hr hs hl =>
    obtain ⟨_, dx, rfl⟩ := hs
    rcases hr with rfl | ⟨z, _⟩
    · exact ⟨_, dx, _, _, rfl, ha, hl⟩
    · cases z
theorem Rep.invL {M : PySem.W.Frag} {κ : Kap M} {F H : Hp} {t : Tag} {cn : Str} {ns : List Str} {as : List Addr} {ds : List D} {v : V} {fp : List Addr} (r : Rep κ F H (.nd t (.inv cn ns as) ds) v fp) (fh : Sub F H) :
    ∃ a dx vs fq, v = .ref a ∧ H a = some (.ins (κ.cls cn) dx (ns.zip vs)) ∧ RepL κ F H ds vs fq := by
  cases r with
  | ndO ha hs hl =>
    obtain ⟨⟨_, dx, rfl⟩, _⟩ := hs
    exact ⟨_, dx, _, _, rfl, ha, hl⟩
  | ndF ha hr hs hl =>
    obtain ⟨⟨_, dx, rfl⟩, _⟩ := hs
    rcases hr with rfl | ⟨z, _⟩
    · exact ⟨_, dx, _, _, rfl, fh _ _ ha, hl⟩
    · cases z
  | ndT ha hr hs hl =>
    obtain ⟨⟨_, dx, rfl⟩, _⟩ := hs
    rcases hr with rfl | ⟨z, _⟩
    · exact ⟨_, dx, _, _, rfl, ha, hl⟩
    · cases z
section
variable {X : Cx} {c : Cfg X.K} {E : XK} {e : Expr} {f : Str} {pos : Pos} {g : Env → Res D}
theorem ev_fld (cs : List Str) (k : ClsOk c.κ cs f) (ha : EV X c E e g) (hb : attributeBase e f X.env (eval e X.env) = eval e X.env := by rfl) : EV X c E (.Attribute e f pos) (e1 (dFld cs f) g) :=
  PE.imp (pe_fld ha hb) fun σ H Q q => glue1 q fun F H1 d v fp fh r nd fr p => by
    unfold dFld at p
    split at p
    · rename_i t cn ns ds
      by_cases h : cs.contains cn = true
      · rw [if_pos h] at p
        obtain ⟨a, dx, vs, fq, rfl, h1, h2⟩ := r.insL fh
        cases q : (ns.zip ds).lookup f with
        | none => rw [q] at p; exact p.elim
        | some d =>
          rw [q] at p
          obtain ⟨v, fq, h3, h4⟩ := h2.look q
          exact ⟨a, _, dx, _, v, rfl, h1, (k.all cn h).1, (k.all cn h).2, h3, PostV.at_ p fh (h4.rd _ _ _ fh)⟩
      · rw [if_neg h] at p
        exact p.elim
    · rename_i t cn ns as ds
      by_cases h : cs.contains cn = true
      · rw [if_pos h] at p
        obtain ⟨a, dx, vs, fq, rfl, h1, h2⟩ := r.invL fh
        cases q : (ns.zip ds).lookup f with
        | none => rw [q] at p; exact p.elim
        | some d =>
          rw [q] at p
          obtain ⟨v, fq, h3, h4⟩ := h2.look q
          exact ⟨a, _, dx, _, v, rfl, h1, (k.all cn h).1, (k.all cn h).2, h3, PostV.at_ p fh (h4.rd _ _ _ fh)⟩
      · rw [if_neg h] at p
        exact p.elim
    · exact p.elim
end
@[simp] theorem dFld_i {cs : List Str} {f : Str} {t : Tag} {c : Str} {ns : List Str} {as : List Addr} {ds : List D} : dFld cs f (.nd t (.inv c ns as) ds) = if cs.contains c = true then (ofO ((ns.zip ds).lookup f)).bind fun d => .ok (rd d) else .stuck := (rfl)
@[simp] theorem dFld_e {cs : List Str} {f : Str} {t : Tag} {c : Str} {ns : List Str} {ds : List D} : dFld cs f (.nd t (.ins c ns) ds) = if cs.contains c = true then (ofO ((ns.zip ds).lookup f)).bind fun d => .ok (rd d) else .stuck := (rfl)
end PV
end
section
namespace PV
open PySem PySem.Spec PyProof.Rows L2
open PySem.W
section
variable {prog : Program} {w : World} {A : Around} {E : Value → Shared → Prop} {s : Shared}
theorem enum_turn {en it : Addr} {i : Nat} {old : Value} {Q : Value → Shared → Prop} {R : Value → Heap → Nat → Prop}
    (h0 : IsEnum s.heap en it i old)
    (hin : wpAny (model prog w) A (Builtin.SmallTypes.nextOf (.ref it)) (fun x s1 => ∃ g tq, s1 = { s with heap := g, toks := tq } ∧ g.get? en = s.heap.get? en ∧ R x g tq) E s)
    (hQ : ∀ x g tq g', R x g tq → IsEnumOut g' en it ((i : Int) + 1) x g.objs.size → g'.get? g.objs.size = some { cls := .type "tuple", data := .seq #[.int i tq, x] } → g'.objs.size = g.objs.size + 1 →
      (∀ b o, b ≠ en → g.get? b = some o → g'.get? b = some o) → Q (.ref g.objs.size) { s with heap := g', toks := tq + 1 }) :
    wpAny (model prog w) A (Builtin.«enumerate.__next__» ⟨[.ref en], []⟩) (fun fin s' => ∃ v, fin = .done (.ret v) ∧ Q v s') E s := by
  obtain ⟨hp, gg, dd, t0, os⟩ := s
  show wpAny _ _ (field (.ref en) 2 >>= _) _ _ _
  refine wpAny_bind (wpAny_field h0 rfl (x := .ref it) rfl (wpAny_bind (wpAny_mono hin (fun x s1 q => ?_) fun _ _ e => e)))
  obtain ⟨k1, tq, rfl, hen, hR⟩ := q
  replace hen : k1.get? en = hp.get? en := hen
  have z1 : IsEnum k1 en it i old := hen.trans h0
  show wpAny _ _ (field (.ref en) 3 >>= _) _ _ ⟨k1, gg, dd, tq, os⟩
  refine wpAny_bind (wpAny_field z1 rfl (x := rawInt i) rfl ?_)
  show wpAny _ _ (field (.ref en) 4 >>= _) _ _ ⟨k1, gg, dd, tq, os⟩
  refine wpAny_bind (wpAny_field z1 rfl (x := .none) rfl ?_)
  show wpAny _ _ (mkInt i >>= _) _ _ ⟨k1, gg, dd, tq, os⟩
  refine wpAny_bind (wpAny_mkInt ?_)
  show wpAny _ _ (setField (.ref en) 3 (rawInt ((i : Int) + 1)) >>= _) _ _ ⟨k1, gg, dd, tq + 1, os⟩
  refine wpAny_bind (wpAny_setField_rec z1 (by simp) fun k2 z2 b2 => ?_)
  replace b2 : Heap.SameBut en k1 k2 := b2
  replace z2 : IsEnum k2 en it ((i : Int) + 1) old := z2
  show wpAny _ _ (setField (.ref en) 4 .none >>= _) _ _ ⟨k2, gg, dd, tq + 1, os⟩
  refine wpAny_bind (wpAny_setField_rec z2 (by simp) fun k3 z3 b3 => ?_)
  replace b3 : Heap.SameBut en k2 k3 := b3
  replace z3 : IsEnum k3 en it ((i : Int) + 1) old := z3
  show wpAny _ _ (newTuple [.int i tq, x] >>= _) _ _ ⟨k3, gg, dd, tq + 1, os⟩
  refine wpAny_bind (wpAny_newTuple ?_)
  have z4 : IsEnum (k3.push { cls := .type "tuple", data := .seq #[.int i tq, x] }) en it ((i : Int) + 1) old := Heap.get?_push_of_some _ z3
  generalize hk4 : k3.push { cls := .type "tuple", data := .seq #[.int i tq, x] } = k4 at z4
  have hsz : k3.objs.size = k1.objs.size := by rw [b3.1, b2.1]
  have hel : en < k1.objs.size := Heap.lt_size z1
  have q4 : k4.get? k1.objs.size = some { cls := .type "tuple", data := .seq #[.int i tq, x] } := by rw [← hk4, ← hsz]; exact Heap.get?_push_size _ rfl
  have n4 : k4.objs.size = k1.objs.size + 1 := by rw [← hk4, Heap.size_push, hsz]
  have o4 : ∀ b o, b ≠ en → k1.get? b = some o → k4.get? b = some o := fun b o hb ho => by
    rw [← hk4]
    exact Heap.get?_push_of_some _ (b3.extBut b o hb (b2.extBut b o hb ho))
  show wpAny _ _ (Builtin.SmallTypes.ownedTupleIsFree (.ref en) >>= _) _ _ ⟨k4, gg, dd, tq + 1, os⟩
  rw [hsz]
  clear hk4 z3 b3 z2 b2 hsz k3 k2
  refine wpAny_bind ?_
  unfold Builtin.SmallTypes.ownedTupleIsFree
  refine wpAny_bind (wpAny_field z4 rfl (x := .none) rfl (wpAny_pure ?_))
  simp only [if_true]
  refine wpAny_bind (wpAny_rule (wpAny_bind (wpAny_field z4 rfl (x := old) rfl (wpAny_bind (wpAny_setField_rec z4 (by simp) fun k5 z5 b5 => ?_)))))
  replace b5 : Heap.SameBut en k4 k5 := b5
  replace z5 : IsEnum k5 en it ((i : Int) + 1) x := z5
  show wpAny _ _ (Builtin.SmallTypes.ownedTupleHandOut (.ref en) (.ref k1.objs.size) >>= _) _ _ ⟨k5, gg, dd, tq + 1, os⟩
  refine wpAny_bind ?_
  unfold Builtin.SmallTypes.ownedTupleHandOut
  refine wpAny_bind (wpAny_setField_rec z5 (by simp) fun k6 z6 b6 => ?_)
  replace b6 : Heap.SameBut en k5 k6 := b6
  replace z6 : IsEnumOut k6 en it ((i : Int) + 1) x k1.objs.size := z6
  refine wpAny_setField_rec z6 (by simp) fun k7 z7 b7 => ?_
  replace b7 : Heap.SameBut en k6 k7 := b7
  replace z7 : IsEnumOut k7 en it ((i : Int) + 1) x k1.objs.size := z7
  have o7 : ∀ b o, b ≠ en → k4.get? b = some o → k7.get? b = some o := fun b o hb ho => b7.extBut b o hb (b6.extBut b o hb (b5.extBut b o hb ho))
  refine wpAny_bind (wpAny_letGo (wpAny_pure ⟨_, rfl, hQ x k1 tq k7 hR z7 (o7 _ _ (Nat.ne_of_gt hel) q4) (by rw [b7.1, b6.1, b5.1, n4]) fun b o hb ho => o7 b o hb (o4 b o hb ho)⟩))
abbrev ZipF (h : Heap) (z TI TO : Addr) (p : Value) (fl : Bool) : Prop := h.get? z = some { cls := .type "zip", dict := none, data := .fields #[p, .bool fl, .bool false, .ref TI, .ref TO], slots := #[] }
def FreeZ (prog : Program) (w : World) (z : Addr) (s : Shared) : Prop := ∀ (A : Around) (Q : Bool → Shared → Prop) (E : Value → Shared → Prop), Q true s → wpAny (model prog w) A (Builtin.SmallTypes.ownedTupleIsFree (.ref z)) Q E s
theorem free_none {z TI TO : Addr} {fl : Bool} (h : ZipF s.heap z TI TO .none fl) : FreeZ prog w z s := fun A Q E q => by
  unfold Builtin.SmallTypes.ownedTupleIsFree
  exact wpAny_bind (wpAny_field h rfl (x := .none) rfl (wpAny_pure q))
theorem free_dead {z TI TO T : Addr} {fl : Bool} (h : ZipF s.heap z TI TO (rawInt T) fl) (hT : s.heap.get? T = none) : FreeZ prog w z s := fun A Q E q => by
  unfold Builtin.SmallTypes.ownedTupleIsFree
  refine wpAny_bind (wpAny_field h rfl (x := rawInt T) rfl ?_)
  show wpAny _ _ (loadIfAlive ((T : Int).toNat) >>= _) _ _ _
  rw [Int.toNat_natCast]
  have k : wpAny (model prog w) A (loadIfAlive T) (fun o s1 => o = none ∧ s1 = s) E s := fun _ _ _ => ⟨hT, rfl⟩
  refine wpAny_bind (wpAny_mono k (fun o s1 z1 => ?_) fun _ _ e => e)
  obtain ⟨rfl, rfl⟩ := z1
  exact wpAny_pure q
theorem zip_item_free {z TI TO i1 i2 l1 l2 : Addr} {k1 k2 : Nat} {xs ys : Array Value} {x y a b p : Value} {fl : Bool} {Q : Value → Shared → Prop} (D : ZipApart z TI TO i1 i2 l1 l2)
    (g0 : ZipF s.heap z TI TO p fl) (fr : FreeZ prog w z s) (g1 : IsPair s.heap TI (.ref i1) (.ref i2)) (g2 : IsPair s.heap TO a b)
    (u1 : s.heap.IsListIter i1 l1 k1) (u2 : s.heap.IsListIter i2 l2 k2) (m1 : s.heap.IsList l1 xs) (m2 : s.heap.IsList l2 ys) (hx : xs[k1]? = some x) (hy : ys[k2]? = some y)
    (hQ : ∀ h', ZipF h' z TI TO (rawInt s.heap.objs.size) false → IsPair h' TO x y → h'.IsListIter i1 l1 (k1 + 1) → h'.IsListIter i2 l2 (k2 + 1) → IsPair h' s.heap.objs.size x y → h'.objs.size = s.heap.objs.size + 1 →
      (∀ c o, c ≠ z → c ≠ TO → c ≠ i1 → c ≠ i2 → s.heap.get? c = some o → h'.get? c = some o) → Q (.ref s.heap.objs.size) { s with heap := h' }) :
    wpAny (model prog w) A (Builtin.«zip.__next__» ⟨[.ref z], []⟩) (fun fin s' => ∃ v, fin = .done (.ret v) ∧ Q v s') E s := by
  show wpAny _ _ (field (.ref z) 2 >>= _) _ _ _
  refine wpAny_bind (wpAny_field g0 rfl (x := .bool false) rfl ?_)
  show wpAny _ _ (field (.ref z) 3 >>= _) _ _ _
  refine wpAny_bind (wpAny_field g0 rfl (x := .ref TI) rfl (wpAny_bind (wpAny_seqItems g1 rfl ?_)))
  show wpAny _ _ (Builtin.SmallTypes.ownedTupleIsFree (.ref z) >>= _) _ _ _
  refine wpAny_bind (fr _ _ _ ?_)
  simp only [if_true]
  refine wpAny_bind (wpAny_rule (wpAny_bind (wpAny_field g0 rfl (x := .ref TO) rfl (wpAny_bind (wpAny_setField_rec g0 (by simp) fun c1 v1 b1 => ?_)))))
  replace v1 : ZipF c1 z TI TO .ellipsis fl := v1
  refine wpAny_bind ?_
  simp only [List.zipIdx_cons, List.zipIdx_nil, List.forIn_cons, List.forIn_nil]
  refine wpAny_bind (wpAny_bind (wpAny_onRaise ?_))
  show wpAny _ _ (Builtin.SmallTypes.nextOf (.ref i1) >>= _) _ _ _
  refine wpAny_bind (wpAny_nextOf_list_item (u1.extBut b1.extBut D.i1z) (m1.extBut b1.extBut D.l1z) hx fun c2 u12 b2 => wpAny_pure ?_)
  have p2 : IsPair c2 TO a b := b2.extBut _ _ D.TOi1 (b1.extBut _ _ D.TOz g2)
  refine wpAny_bind (wpAny_seqItems p2 rfl (wpAny_bind (wpAny_updateSeq_pair p2 fun c3 p3 b3 => ?_)))
  replace p3 : IsPair c3 TO x b := p3
  refine wpAny_bind (wpAny_letGo (wpAny_pure (wpAny_bind (wpAny_bind (wpAny_onRaise ?_)))))
  show wpAny _ _ (Builtin.SmallTypes.nextOf (.ref i2) >>= _) _ _ _
  refine wpAny_bind (wpAny_nextOf_list_item (((u2.extBut b1.extBut D.i2z).extBut b2.extBut D.i12.symm).extBut b3.extBut D.TOi2.symm) (((m2.extBut b1.extBut D.l2z).extBut b2.extBut D.l2i1).extBut b3.extBut D.l2TO) hy fun c4 u24 b4 => wpAny_pure ?_)
  have p4 : IsPair c4 TO x b := b4.extBut _ _ D.TOi2 p3
  refine wpAny_bind (wpAny_seqItems p4 rfl (wpAny_bind (wpAny_updateSeq_pair p4 fun c5 p5 b5 => ?_)))
  replace p5 : IsPair c5 TO x y := p5
  refine wpAny_bind (wpAny_letGo (wpAny_pure (wpAny_pure (wpAny_bind (wpAny_seqItems p5 rfl (wpAny_bind (wpAny_newTuple ?_)))))))
  have hsz : c5.objs.size = s.heap.objs.size := by rw [b5.1, b4.1, b3.1, b2.1, b1.1]
  have v5 : ZipF c5 z TI TO .ellipsis fl := b5.extBut _ _ D.TOz.symm (b4.extBut _ _ D.i2z.symm (b3.extBut _ _ D.TOz.symm (b2.extBut _ _ D.i1z.symm v1)))
  have o5 : ∀ c o, c ≠ z → c ≠ TO → c ≠ i1 → c ≠ i2 → s.heap.get? c = some o → c5.get? c = some o := fun c o w1 w2 w3 w4 e =>
    b5.extBut _ _ w2 (b4.extBut _ _ w4 (b3.extBut _ _ w2 (b2.extBut _ _ w3 (b1.extBut _ _ w1 e))))
  have q1 : c5.IsListIter i1 l1 (k1 + 1) := ((u12.extBut b3.extBut D.TOi1.symm).extBut b4.extBut D.i12).extBut b5.extBut D.TOi1.symm
  have q2 : c5.IsListIter i2 l2 (k2 + 1) := u24.extBut b5.extBut D.TOi2.symm
  have zlt : z < c5.objs.size := Heap.lt_size v5
  show wpAny _ _ (Builtin.SmallTypes.ownedTupleHandOut (.ref z) (.ref c5.objs.size) >>= _) _ _ _
  refine wpAny_bind ?_
  unfold Builtin.SmallTypes.ownedTupleHandOut
  have v6 : ZipF (c5.push { cls := .type "tuple", data := .seq #[x, y] }) z TI TO .ellipsis fl := Heap.get?_push_of_some _ v5
  refine wpAny_bind (wpAny_setField_rec v6 (by simp) fun c7 v7 b7 => ?_)
  replace v7 : ZipF c7 z TI TO (rawInt c5.objs.size) fl := v7
  refine wpAny_setField_rec v7 (by simp) fun c8 v8 b8 => ?_
  replace v8 : ZipF c8 z TI TO (rawInt c5.objs.size) false := v8
  have up : ∀ c o, c ≠ z → c5.get? c = some o → c8.get? c = some o := fun c o w1 e => b8.extBut _ _ w1 (b7.extBut _ _ w1 (Heap.get?_push_of_some _ e))
  have q8 : IsPair c8 c5.objs.size x y := b8.extBut _ _ (Nat.ne_of_gt zlt) (b7.extBut _ _ (Nat.ne_of_gt zlt) (Heap.get?_push_size _ rfl))
  have n8 : c8.objs.size = c5.objs.size + 1 := by rw [b8.1, b7.1, Heap.size_push]
  rw [hsz] at v8 q8 n8
  refine wpAny_pure ⟨_, rfl, ?_⟩
  show Q (.ref c5.objs.size) _
  rw [hsz]
  exact hQ c8 v8 (up _ _ D.TOz p5) (q1.at fun o e => up _ o D.i1z e) (q2.at fun o e => up _ o D.i2z e) q8 n8 fun c o w1 w2 w3 w4 e => up c o w1 (o5 c o w1 w2 w3 w4 e)
theorem zip_end_free {z TI TO i1 i2 l1 l2 : Addr} {k1 k2 : Nat} {xs ys : Array Value} {a b p : Value} {fl : Bool} {Q : Fin → Shared → Prop} (hc : A.handled = none) (D : ZipApart z TI TO i1 i2 l1 l2)
    (g0 : ZipF s.heap z TI TO p fl) (fr : FreeZ prog w z s) (g1 : IsPair s.heap TI (.ref i1) (.ref i2)) (g2 : IsPair s.heap TO a b)
    (u1 : s.heap.IsListIter i1 l1 k1) (u2 : s.heap.IsListIter i2 l2 k2) (m1 : s.heap.IsList l1 xs) (m2 : s.heap.IsList l2 ys) (hend : xs[k1]? = none ∨ ys[k2]? = none)
    (hQ : ∀ h' e, (∀ c o, c ≠ z → c ≠ TO → c ≠ i1 → c ≠ i2 → s.heap.get? c = some o → h'.get? c = some o) → (∃ o, h'.get? e = some o ∧ o.cls = .type "StopIteration") → E (.ref e) { s with heap := h' }) :
    wpAny (model prog w) A (Builtin.«zip.__next__» ⟨[.ref z], []⟩) Q E s := by
  show wpAny _ _ (field (.ref z) 2 >>= _) _ _ _
  refine wpAny_bind (wpAny_field g0 rfl (x := .bool false) rfl ?_)
  show wpAny _ _ (field (.ref z) 3 >>= _) _ _ _
  refine wpAny_bind (wpAny_field g0 rfl (x := .ref TI) rfl (wpAny_bind (wpAny_seqItems g1 rfl ?_)))
  show wpAny _ _ (Builtin.SmallTypes.ownedTupleIsFree (.ref z) >>= _) _ _ _
  refine wpAny_bind (fr _ _ _ ?_)
  simp only [if_true]
  refine wpAny_bind (wpAny_rule (wpAny_bind (wpAny_field g0 rfl (x := .ref TO) rfl (wpAny_bind (wpAny_setField_rec g0 (by simp) fun c1 v1 b1 => ?_)))))
  replace v1 : ZipF c1 z TI TO .ellipsis fl := v1
  refine wpAny_bind ?_
  simp only [List.zipIdx_cons, List.zipIdx_nil, List.forIn_cons, List.forIn_nil]
  refine wpAny_bind (wpAny_bind (wpAny_onRaise ?_))
  show wpAny _ _ (Builtin.SmallTypes.nextOf (.ref i1) >>= _) _ _ _
  cases hx : xs[k1]? with
  | none =>
    refine wpAny_bind (wpAny_nextOf_list_end hc (u1.extBut b1.extBut D.i1z) (m1.extBut b1.extBut D.l1z) hx fun c2 e b2 he => ?_)
    obtain ⟨oe, e1, e2⟩ := he
    have v2 : ZipF c2 z TI TO .ellipsis fl := b2 _ _ D.i1z.symm v1
    have ne : e ≠ z := fun q => by subst q; rw [v2] at e1; cases e1; simp at e2
    exact wpAny_setField_rec v2 (by simp) fun c3 _ b3 => hQ c3 e (fun c o w1 _ w3 _ q => b3.extBut _ _ w1 (b2 _ _ w3 (b1.extBut _ _ w1 q))) ⟨oe, b3.extBut _ _ ne e1, e2⟩
  | some x =>
    have hy : ys[k2]? = none := by
      rcases hend with h | h
      · rw [hx] at h; cases h
      · exact h
    refine wpAny_bind (wpAny_nextOf_list_item (u1.extBut b1.extBut D.i1z) (m1.extBut b1.extBut D.l1z) hx fun c2 u12 b2 => wpAny_pure ?_)
    have p2 : IsPair c2 TO a b := b2.extBut _ _ D.TOi1 (b1.extBut _ _ D.TOz g2)
    refine wpAny_bind (wpAny_seqItems p2 rfl (wpAny_bind (wpAny_updateSeq_pair p2 fun c3 p3 b3 => ?_)))
    refine wpAny_bind (wpAny_letGo (wpAny_pure (wpAny_bind (wpAny_bind (wpAny_onRaise ?_)))))
    show wpAny _ _ (Builtin.SmallTypes.nextOf (.ref i2) >>= _) _ _ _
    refine wpAny_bind (wpAny_nextOf_list_end hc (((u2.extBut b1.extBut D.i2z).extBut b2.extBut D.i12.symm).extBut b3.extBut D.TOi2.symm) (((m2.extBut b1.extBut D.l2z).extBut b2.extBut D.l2i1).extBut b3.extBut D.l2TO) hy fun c4 e b4 he => ?_)
    obtain ⟨oe, e1, e2⟩ := he
    have v4 : ZipF c4 z TI TO .ellipsis fl := b4 _ _ D.i2z.symm (b3.extBut _ _ D.TOz.symm (b2.extBut _ _ D.i1z.symm v1))
    have ne : e ≠ z := fun q => by subst q; rw [v4] at e1; cases e1; simp at e2
    exact wpAny_setField_rec v4 (by simp) fun c5 _ b5 => hQ c5 e (fun c o w1 w2 w3 w4 q => b5.extBut _ _ w1 (b4 _ _ w4 (b3.extBut _ _ w2 (b2.extBut _ _ w3 (b1.extBut _ _ w1 q))))) ⟨oe, b5.extBut _ _ ne e1, e2⟩
def ZipSt (h : Heap) (z TI TO i1 i2 l1 l2 : Addr) (k : Nat) : Prop := (ZipF h z TI TO .none false ∨ ∃ (T : Addr) (fl : Bool), ZipF h z TI TO (rawInt T) fl) ∧ IsPair h TI (.ref i1) (.ref i2) ∧ (∃ a b, IsPair h TO a b) ∧ h.IsListIter i1 l1 k ∧ h.IsListIter i2 l2 k
theorem ZipSt.isZ {h : Heap} {z TI TO i1 i2 l1 l2 : Addr} {k : Nat} (q : ZipSt h z TI TO i1 i2 l1 l2 k) : ∃ o, h.get? z = some o ∧ o.cls = .type "zip" := by
  rcases q.1 with e | ⟨T, fl, e⟩
  · exact ⟨_, e, rfl⟩
  · exact ⟨_, e, rfl⟩
theorem zip_draw {z TI TO i1 i2 l1 l2 : Addr} {k : Nat} {xs ys : Array Value} {x y : Value} {Q : Value → Shared → Prop} (D : ZipApart z TI TO i1 i2 l1 l2) (st : ZipSt s.heap z TI TO i1 i2 l1 l2 k)
    (m1 : s.heap.IsList l1 xs) (m2 : s.heap.IsList l2 ys) (hx : xs[k]? = some x) (hy : ys[k]? = some y)
    (hQ : ∀ h', ZipSt h' z TI TO i1 i2 l1 l2 (k + 1) → IsPair h' s.heap.objs.size x y → h'.objs.size = s.heap.objs.size + 1 → (∀ c o, c ≠ z → c ≠ TO → c ≠ i1 → c ≠ i2 → s.heap.get? c = some o → h'.get? c = some o) → Q (.ref s.heap.objs.size) { s with heap := h' }) :
    wpAny (model prog w) A (Builtin.SmallTypes.nextOf (.ref z)) Q E s := by
  obtain ⟨o, ho, hz⟩ := st.isZ
  have hT : s.TypeIs (.ref z) "zip" := ⟨o, ho, hz⟩
  obtain ⟨g0, g1, ⟨a, b, g2⟩, u1, u2⟩ := st
  unfold Builtin.SmallTypes.nextOf
  refine wpAny_bind (wpAny_callSpecial?_slot (name := Str.ofString "__next__") hT F.slot_zip_next (wpAny_call_entry F.slot_zip_next hT F.entry_zip_next ?_ (F.args_zip_next_1 _)))
  have free : ∀ (p : Value) (fl : Bool), ZipF s.heap z TI TO p fl → FreeZ prog w z s → wpAny (model prog w) A.in1 (Builtin.«zip.__next__» ⟨[.ref z], []⟩) (fun fin s' => ∃ v, fin = .done (.ret v) ∧ wpAny (model prog w) A (pure v) Q E s') E s := fun p fl h fr =>
    zip_item_free D h fr g1 g2 u1 u2 m1 m2 hx hy fun h' a1 a2 a3 a4 a5 a6 a7 => wpAny_pure (hQ h' ⟨.inr ⟨_, _, a1⟩, a7 _ _ D.TIz D.TITO D.TIi1 D.TIi2 g1, ⟨_, _, a2⟩, a3, a4⟩ a5 a6 a7)
  rcases g0 with h | ⟨T, fl, h⟩
  · exact free _ _ h (free_none h)
  · cases hT2 : s.heap.get? T with
    | none => exact free _ _ h (free_dead h hT2)
    | some oT =>
      exact zip_next_item_held D h hT2 g1 u1 u2 m1 m2 hx hy fun h' a1 a3 a4 a5 a6 a7 => wpAny_pure (hQ h' ⟨.inr ⟨_, _, a1⟩, a7 _ _ D.TIz D.TIi1 D.TIi2 g1, ⟨_, _, a7 _ _ D.TOz D.TOi1 D.TOi2 g2⟩, a3, a4⟩ a5 a6 fun c o w1 _ w3 w4 e => a7 c o w1 w3 w4 e)
theorem zip_stop {z TI TO i1 i2 l1 l2 : Addr} {k : Nat} {xs ys : Array Value} {Q : Value → Shared → Prop} (hc : A.handled = none) (D : ZipApart z TI TO i1 i2 l1 l2) (st : ZipSt s.heap z TI TO i1 i2 l1 l2 k)
    (m1 : s.heap.IsList l1 xs) (m2 : s.heap.IsList l2 ys) (hend : xs[k]? = none ∨ ys[k]? = none)
    (hE : ∀ h' e, (∀ c o, c ≠ z → c ≠ TO → c ≠ i1 → c ≠ i2 → s.heap.get? c = some o → h'.get? c = some o) → (∃ o, h'.get? e = some o ∧ o.cls = .type "StopIteration") → E (.ref e) { s with heap := h' }) :
    wpAny (model prog w) A (Builtin.SmallTypes.nextOf (.ref z)) Q E s := by
  obtain ⟨o, ho, hz⟩ := st.isZ
  have hT : s.TypeIs (.ref z) "zip" := ⟨o, ho, hz⟩
  obtain ⟨g0, g1, ⟨a, b, g2⟩, u1, u2⟩ := st
  unfold Builtin.SmallTypes.nextOf
  refine wpAny_bind (wpAny_callSpecial?_slot (name := Str.ofString "__next__") hT F.slot_zip_next (wpAny_call_entry F.slot_zip_next hT F.entry_zip_next ?_ (F.args_zip_next_1 _)))
  have hc2 : A.in1.handled = none := hc
  rcases g0 with h | ⟨T, fl, h⟩
  · exact zip_end_free hc2 D h (free_none h) g1 g2 u1 u2 m1 m2 hend hE
  · cases hT2 : s.heap.get? T with
    | none => exact zip_end_free hc2 D h (free_dead h hT2) g1 g2 u1 u2 m1 m2 hend hE
    | some oT => exact zip_next_end_held hc2 D h hT2 g1 u1 u2 m1 m2 hend fun h' e k q => hE h' e (fun c o w1 _ w3 w4 r => k c o w1 w3 w4 r) q
theorem ez_item {en z TI TO i1 i2 l1 l2 : Addr} {k : Nat} {xs ys : Array Value} {x y old : Value} {Q : Option Value → Shared → Prop} (D : ZipApart z TI TO i1 i2 l1 l2) (ne : en ≠ z ∧ en ≠ TO ∧ en ≠ i1 ∧ en ≠ i2) (h0 : IsEnum s.heap en z (k : Int) old)
    (st : ZipSt s.heap z TI TO i1 i2 l1 l2 k) (m1 : s.heap.IsList l1 xs) (m2 : s.heap.IsList l2 ys) (hx : xs[k]? = some x) (hy : ys[k]? = some y) (ne2 : TI ≠ en)
    (hQ : ∀ g', IsEnumOut g' en z ((k : Int) + 1) (.ref s.heap.objs.size) (s.heap.objs.size + 1) → ZipSt g' z TI TO i1 i2 l1 l2 (k + 1) → IsPair g' s.heap.objs.size x y →
      g'.get? (s.heap.objs.size + 1) = some { cls := .type "tuple", data := .seq #[.int k s.toks, .ref s.heap.objs.size] } → g'.objs.size = s.heap.objs.size + 2 →
      (∀ c o, c ≠ en → c ≠ z → c ≠ TO → c ≠ i1 → c ≠ i2 → s.heap.get? c = some o → g'.get? c = some o) → Q (some (.ref (s.heap.objs.size + 1))) { s with heap := g', toks := s.toks + 1 }) :
    wpAny (model prog w) A (pyNext (.ref en)) Q E s := by
  have hT : s.TypeIs (.ref en) "enumerate" := ⟨_, h0, rfl⟩
  have hen : en < s.heap.objs.size := Heap.lt_size h0
  unfold pyNext
  refine wpAny_bind (wpAny_attempt (wpAny_callSpecial?_slot (name := Str.ofString "__next__") hT F.slot_enumerate_next (wpAny_call_entry F.slot_enumerate_next hT F.entry_enumerate_next
    (enum_turn (R := fun v g tq => v = .ref s.heap.objs.size ∧ tq = s.toks ∧ ZipSt g z TI TO i1 i2 l1 l2 (k + 1) ∧ IsPair g s.heap.objs.size x y ∧ g.objs.size = s.heap.objs.size + 1 ∧ ∀ c o, c ≠ z → c ≠ TO → c ≠ i1 → c ≠ i2 → s.heap.get? c = some o → g.get? c = some o) h0
      (zip_draw D st m1 m2 hx hy fun h' a1 a2 a3 a4 => ⟨h', s.toks, rfl, (a4 _ _ ne.1 ne.2.1 ne.2.2.1 ne.2.2.2 h0).trans h0.symm, rfl, rfl, a1, a2, a3, a4⟩)
      fun v g tq g' r b1 b2 b3 b4 => ?_) (F.args_enumerate_next_1 _))))
  obtain ⟨rfl, rfl, a1, a2, a3, a4⟩ := r
  rw [a3] at b1 b2 b3 ⊢
  refine wpAny_pure (hQ g' b1 ?_ (b4 _ _ (Nat.ne_of_gt hen) a2) b2 b3 fun c o w0 w1 w2 w3 w4 e => b4 c o w0 (a4 c o w1 w2 w3 w4 e))
  obtain ⟨c0, c1, ⟨a, b, c2⟩, c3, c4⟩ := a1
  refine ⟨?_, b4 _ _ ne2 c1, ⟨a, b, b4 _ _ (Ne.symm ne.2.1) c2⟩, c3.at fun o e => b4 _ o (Ne.symm ne.2.2.1) e, c4.at fun o e => b4 _ o (Ne.symm ne.2.2.2) e⟩
  rcases c0 with e | ⟨T, fl, e⟩
  · exact .inl (b4 _ _ (Ne.symm ne.1) e)
  · exact .inr ⟨T, fl, b4 _ _ (Ne.symm ne.1) e⟩
theorem ez_end {en z TI TO i1 i2 l1 l2 : Addr} {k : Nat} {i : Int} {xs ys : Array Value} {old : Value} {Q : Option Value → Shared → Prop} (hc : A.handled = none) (D : ZipApart z TI TO i1 i2 l1 l2) (h0 : IsEnum s.heap en z i old)
    (st : ZipSt s.heap z TI TO i1 i2 l1 l2 k) (m1 : s.heap.IsList l1 xs) (m2 : s.heap.IsList l2 ys) (hend : xs[k]? = none ∨ ys[k]? = none)
    (hQ : ∀ h', (∀ c o, c ≠ z → c ≠ TO → c ≠ i1 → c ≠ i2 → s.heap.get? c = some o → h'.get? c = some o) → Q none { s with heap := h' }) : wpAny (model prog w) A (pyNext (.ref en)) Q E s := by
  have hT : s.TypeIs (.ref en) "enumerate" := ⟨_, h0, rfl⟩
  have hc2 : A.in1.handled = none := hc
  unfold pyNext
  refine wpAny_bind (wpAny_attempt (wpAny_callSpecial?_slot (name := Str.ofString "__next__") hT F.slot_enumerate_next (wpAny_call_entry F.slot_enumerate_next hT F.entry_enumerate_next ?_ (F.args_enumerate_next_1 _))))
  show wpAny _ _ (field (.ref en) 2 >>= _) _ _ _
  refine wpAny_bind (wpAny_field h0 rfl (x := .ref z) rfl (wpAny_bind (zip_stop hc2 D st m1 m2 hend fun h' e hk he => ?_)))
  obtain ⟨o, e1, e2⟩ := he
  exact wpAny_bind (wpAny_isInstance (T := "StopIteration") (b := true) ⟨o, e1, e2⟩ isSubtype_stop (wpAny_pure (hQ _ hk)))
end
end PV
end
section
namespace PV
open PySem PySem.Spec PyProof.Rows L2
section
variable {X : Cx} {pins : List (Addr × Obj)} {σ : L2.St} {H : Hp} {s : Shared} {h' : Heap}
theorem turnedTwo {t' : Nat} {ch : List Addr} {T U : Addr} {ob oc : HO} (I : Inv X pins σ H s) (k : ∀ b o, b ∉ ch → s.heap.get? b = some o → h'.get? b = some o) (hf : ∀ b ∈ ch, FpOk X pins H b) (hT : s.heap.objs.size ≤ T) (hU : s.heap.objs.size ≤ U) (hTU : T ≠ U)
    (n1 : ObjOk X.prog X.w (upd (upd H T ob) U oc) h' T ob) (n2 : ObjOk X.prog X.w (upd (upd H T ob) U oc) h' U oc) : Inv X pins σ (upd (upd H T ob) U oc) { s with heap := h', toks := t' } := by
  have aT : H T = none := I.hok.fresh hT
  have aU : H U = none := I.hok.fresh hU
  have old : ∀ b u, H b = some u → upd (upd H T ob) U oc b = some u := fun b u e => by
    rw [upd_ne (ne_of_none e aU), upd_ne (ne_of_none e aT)]
    exact e
  have nit : ∀ b u, H b = some u → b ∉ ch := fun b u e z => by
    have q := (hf b z).1
    rw [q] at e
    cases e
  refine I.step (g' := s.gens) (d' := s.drawn) (ch := ch) (fun b hb => ⟨(hf b hb).2.2.2.1, (hf b hb).2.1, (hf b hb).2.2.2.2.1, (hf b hb).2.2.2.2.2⟩) (fun b o _ _ hc e _ => k b o hc e)
    (fun b o _ _ hc e _ => ⟨o.slots, k b o hc e⟩) (fun b o _ e n => ?_) (fun b o hc e => ⟨o, k b o hc e⟩) (fun b xs e => old b _ e) (fun b o u e => old b _ e) (fun b ps e => ⟨#[], by rw [old b _ e]; simp⟩) (fun m hm => ?_) (fun b u e => ?_) I.bare
  · have hb := Heap.lt_size e
    rw [upd_ne (Nat.ne_of_lt (Nat.lt_of_lt_of_le hb hU)), upd_ne (Nat.ne_of_lt (Nat.lt_of_lt_of_le hb hT))]
    exact n
  · obtain ⟨o, es, ep, ho, r⟩ := hm
    exact ⟨o, es, ep, k _ o (fun z => (hf _ z).2.1 rfl) ho, r⟩
  · by_cases hb : b = U
    · subst hb
      rw [upd_same] at e
      cases e
      exact n2
    · rw [upd_ne hb] at e
      by_cases hb2 : b = T
      · subst hb2
        rw [upd_same] at e
        cases e
        exact n1
      · rw [upd_ne hb2] at e
        refine (I.hok b u e).stay (fun c v hc q => k c v ?_ q) (fun c q => old c _ q) fun c xs q => old c _ q
        rcases hc with z | z
        · rw [z]
          exact nit b u e
        · exact nit c _ z
end
def Iez (K : PySem.W.Frag) (a b : Addr) : It :=
  ⟨(Itz K a b).go, fun i H v H' => ∃ T U x y, v = .ref U ∧ H T = none ∧ H U = none ∧ T ≠ U ∧ H' = upd (upd H T (.tup [x, y])) U (.tup [.int (i : Nat), .ref T]) ∧ (∀ xs, SqL K H a xs → xs[i]? = some x) ∧ ∀ ys, SqL K H b ys → ys[i]? = some y, (Itz K a b).stop⟩
theorem turn_ez {P : Program} {w : World} {K : PySem.W.Frag} {elts : List Expr} {kk : Nat} {tpos : Pos} {a b en z TI TO i1 i2 : Addr} (D : ZipApart z TI TO i1 i2 a b) (ne : en ≠ z ∧ en ≠ TO ∧ en ≠ i1 ∧ en ≠ i2) (ne2 : TI ≠ en) :
    Turn P w K (.Tuple elts kk tpos) (Iez K a b) [en, z, TI, TO, i1, i2] en (fun i h => (∃ old, IsEnum h en z ((i : Nat) : Int) old) ∧ ZipSt h z TI TO i1 i2 a b i) where
  mem := by simp
  obj := fun i h st c hc => by
    obtain ⟨⟨old, h0⟩, h1⟩ := st
    obtain ⟨g0, g1, ⟨x, y, g2⟩, ⟨o1, e1, _, d1⟩, ⟨o2, e2, _, d2⟩⟩ := h1
    have e' : c = en ∨ c = z ∨ c = TI ∨ c = TO ∨ c = i1 ∨ c = i2 := by simpa using hc
    rcases e' with q | q | q | q | q | q
    · rw [q]; exact ⟨_, h0, fun v r => nomatch r⟩
    · rw [q]
      rcases g0 with g | ⟨T, fl, g⟩
      · exact ⟨_, g, fun v r => nomatch r⟩
      · exact ⟨_, g, fun v r => nomatch r⟩
    · rw [q]; exact ⟨_, g1, fun v r => nomatch r⟩
    · rw [q]; exact ⟨_, g2, fun v r => nomatch r⟩
    · rw [q]; exact ⟨o1, e1, fun v r => by rw [d1] at r; cases r⟩
    · rw [q]; exact ⟨o2, e2, fun v r => by rw [d2] at r; cases r⟩
  keep := fun i h h' st k => by
    obtain ⟨⟨old, h0⟩, g0, g1, ⟨x, y, g2⟩, u1, u2⟩ := st
    refine ⟨⟨old, k en (by simp) _ h0⟩, ?_, k TI (by simp) _ g1, ⟨x, y, k TO (by simp) _ g2⟩, u1.at fun o q => k i1 (by simp) o q, u2.at fun o q => k i2 (by simp) o q⟩
    rcases g0 with g | ⟨T, fl, g⟩
    · exact .inl (k z (by simp) _ g)
    · exact .inr ⟨T, fl, k z (by simp) _ g⟩
  item := by
    intro X hP hw hK hc i pins s σ H E I hf st hg
    subst hP hw hK
    obtain ⟨⟨old, h0⟩, h1⟩ := st
    obtain ⟨xs, ys, x, y, hqx, hqy, hx, hy⟩ := hg
    obtain ⟨its, rv, p1, _⟩ := I.list hqx
    obtain ⟨its2, rv2, p2, _⟩ := I.list hqy
    obtain ⟨u, hu, ru⟩ := rv.get hx
    obtain ⟨u2, hu2, ru2⟩ := rv2.get hy
    have hel : en < s.heap.objs.size := Heap.lt_size h0
    refine ez_item D ne h0 h1 p1.isList p2.isList (x := u) (y := u2) (by simpa using hu) (by simpa using hu2) ne2 fun g' a1 a2 a3 a4 a5 a6 => ?_
    refine ⟨_, rfl, wpAny_letOwnedTupleGo_enum (s := { s with heap := g', toks := s.toks + 1 }) a1 fun h'' b1 b2 => ?_⟩
    have hTU : s.heap.objs.size ≠ s.heap.objs.size + 1 := Nat.ne_of_lt (Nat.lt_succ_self _)
    have q1 : h''.get? s.heap.objs.size = some { cls := .type "tuple", data := .seq #[u, u2] } := (b2.2 _ (Nat.ne_of_gt hel)).trans a3
    have q2 : h''.get? (s.heap.objs.size + 1) = some { cls := .type "tuple", data := .seq #[.int i s.toks, .ref s.heap.objs.size] } := (b2.2 _ (Nat.ne_of_gt (Nat.lt_succ_of_lt hel))).trans a4
    have I1 : Inv X pins σ (upd (upd H s.heap.objs.size (.tup [x, y])) (s.heap.objs.size + 1) (.tup [.int (i : Nat), .ref s.heap.objs.size])) { s with heap := h'', toks := s.toks + 1 } :=
      turnedTwo (ch := [en, z, TI, TO, i1, i2]) I (fun c o hb q => (b2.2 c (fun r => hb (by simp [r]))).trans (a6 c o (fun r => hb (by simp [r])) (fun r => hb (by simp [r])) (fun r => hb (by simp [r])) (fun r => hb (by simp [r])) (fun r => hb (by simp [r])) q)) hf (Nat.le_refl _) (Nat.le_succ _) hTU
        ⟨by show 2 ≤ sizeLine; decide, [u, u2], .cons ru (.cons ru2 .nil), ⟨_, q1, rfl, _, rfl⟩⟩ ⟨by show 2 ≤ sizeLine; decide, [.int i s.toks, .ref s.heap.objs.size], .cons ⟨_, rfl⟩ (.cons rfl .nil), ⟨_, q2, rfl, _, rfl⟩⟩
    refine ⟨.ref (s.heap.objs.size + 1), _, I1, rfl, ⟨s.heap.objs.size, _, x, y, rfl, I.hok.fresh (Nat.le_refl _), I.hok.fresh (Nat.le_succ _), hTU, rfl, fun l hl => by rw [I.list_inj hl hqx]; exact hx, fun l hl => by rw [I.list_inj hl hqy]; exact hy⟩, ⟨⟨.ref s.heap.objs.size, ?_⟩, ?_⟩, fun c hcm => ?_⟩
    · have e1 : ((i + 1 : Nat) : Int) = (i : Int) + 1 := by omega
      rw [e1]
      exact b1
    · obtain ⟨c0, c1, ⟨aa, bb, c2⟩, c3, c4⟩ := a2
      refine ⟨?_, (b2.2 _ ne2).trans c1, ⟨aa, bb, (b2.2 _ (Ne.symm ne.2.1)).trans c2⟩, c3.at fun o e => (b2.2 _ (Ne.symm ne.2.2.1)).trans e, c4.at fun o e => (b2.2 _ (Ne.symm ne.2.2.2)).trans e⟩
      rcases c0 with e | ⟨T, fl, e⟩
      · exact .inl ((b2.2 _ (Ne.symm ne.1)).trans e)
      · exact .inr ⟨T, fl, (b2.2 _ (Ne.symm ne.1)).trans e⟩
    · have hlt : c < s.heap.objs.size := by
        obtain ⟨g0, g1, ⟨_, _, g2⟩, ⟨_, e1, _⟩, ⟨_, e2, _⟩⟩ := h1
        have e' : c = en ∨ c = z ∨ c = TI ∨ c = TO ∨ c = i1 ∨ c = i2 := by simpa using hcm
        rcases e' with q | q | q | q | q | q
        · rw [q]; exact hel
        · rw [q]
          rcases g0 with g | ⟨T, fl, g⟩
          · exact Heap.lt_size g
          · exact Heap.lt_size g
        · rw [q]; exact Heap.lt_size g1
        · rw [q]; exact Heap.lt_size g2
        · rw [q]; exact Heap.lt_size e1
        · rw [q]; exact Heap.lt_size e2
      rw [upd_ne (Nat.ne_of_lt (Nat.lt_succ_of_lt hlt)), upd_ne (Nat.ne_of_lt hlt)]
      exact (hf c hcm).1
  done := by
    intro X hP hw hK hc i pins s σ H E I hf st hg
    subst hP hw hK
    obtain ⟨⟨old, h0⟩, h1⟩ := st
    obtain ⟨xs, ys, hqx, hqy, hend⟩ := hg
    obtain ⟨its, rv, p1, _⟩ := I.list hqx
    obtain ⟨its2, rv2, p2, _⟩ := I.list hqy
    have l1 := rv.length
    have l2 := rv2.length
    have he : its.toArray[i]? = none ∨ its2.toArray[i]? = none := by
      rcases hend with q | q
      · exact .inl (by simp; omega)
      · exact .inr (by simp; omega)
    exact ez_end (I.ok.hd hc) D h0 h1 p1.isList p2.isList he fun h' hk => ⟨rfl, I.turnedL (t' := s.toks) (ch := [en, z, TI, TO, i1, i2]) (fun c o hb q => hk c o (fun r => hb (by simp [r])) (fun r => hb (by simp [r])) (fun r => hb (by simp [r])) (fun r => hb (by simp [r])) q) hf⟩
  self := fun A i s Q E st h => let ⟨⟨_, he⟩, _⟩ := st; wpAny_pyIter_enum he h
end PV
end
section
namespace PV
open PySem PySem.Spec PyProof.Rows L2
open PySem.AutoSeq1 (wpAny_loadPart')
set_option maxHeartbeats 1000000 in
theorem meets_ez (z TI TO : Addr) : Meets (Builtin.«enumerate.__new__» ⟨[.type "enumerate", .ref z], []⟩) (fun _ R s => IsZip s.heap z TI TO .none ∧
      R (.ok (.ret (.ref s.heap.objs.size))) { s with heap := s.heap.push { cls := .type "enumerate", data := .fields #[.none, .bool false, .ref z, rawInt 0, .none, .none] } }) :=
  .of_wp fun prog w A R s h => by
    obtain ⟨hp, g, d, tk, os⟩ := s
    obtain ⟨hz, h⟩ := h
    have hsub := sub_enumerate
    have hZ : IsZip (Shared.heap ⟨hp, g, d, tk, os⟩) z TI TO .none := hz
    wp_walk using wpAny_loadPart' hz
    refine wpAny_stack_any fun st => wpAny_pure ?_
    split
    · rename_i c _ _ _ _ _
      cases (c == Value.type "enumerate")
      · wp_walk using wpAny_loadPart' hz, wpAny_pyIter_zip hZ
        exact ⟨_, rfl, h⟩
      · wp_walk using wpAny_loadPart' hz, wpAny_pyIter_zip hZ
        exact ⟨_, rfl, h⟩
    · wp_walk using wpAny_loadPart' hz, wpAny_pyIter_zip hZ
      exact ⟨_, rfl, h⟩
section
variable {prog : Program} {w : World} {A : Around} {E : Value → Shared → Prop} {s : Shared}
theorem call_ez {z TI TO : Addr} {Q : Value → Shared → Prop} (hz : IsZip s.heap z TI TO .none)
    (h : ∀ h', IsEnum h' s.heap.objs.size z 0 .none → (∀ b o, s.heap.get? b = some o → h'.get? b = some o) → Q (.ref s.heap.objs.size) { s with heap := h' }) :
    wpAny (model prog w) A (call (.type "enumerate") [.ref z]) Q E s := by
  refine callType_new F.called_enumerate (by decide) (F.typeCall_enumerate_1 _) (F.newCall_enumerate_1 _) (fun obj => F.args_object_init_2 obj _) F.entry_enumerate_new (meets_ez z TI TO) ⟨hz, ?_⟩
  have he : IsEnum (s.heap.push { cls := .type "enumerate", data := .fields #[.none, .bool false, .ref z, rawInt 0, .none, .none] }) s.heap.objs.size z 0 .none := Heap.get?_push_size _ rfl
  exact ⟨⟨_, he, rfl⟩, h _ he fun b o q => Heap.get?_push_of_some _ q⟩
end
theorem neq5 (n i : Nat) (h : 5 ≠ i) : n + 5 ≠ n + i := fun q => h (Nat.add_left_cancel q)
def iEz (K : PySem.W.Frag) (ta : TA) : TI := fun σ H R => ta σ H fun vs H1 => ∃ a b xs ys, vs = [.ref a, .ref b] ∧ SqL K H1 a xs ∧ SqL K H1 b ys ∧ R (Iez K a b) H1
theorem pi_ez {X : Cx} {e e2 : Expr} {ta : TA} {p p2 pos pos2 tpos : Pos} {elts : List Expr} {kk : Nat} (hg0 : Gl X "enumerate") (hm0 : X.mg "enumerate" = none) (hg : Gl X "zip") (hm : X.mg "zip" = none) (ha : PA X [e, e2] ta)
    (hs0 : starEach [.Call (.Name "zip" p2) [e, e2] [] pos2] X.env = [(false, eval (.Call (.Name "zip" p2) [e, e2] [] pos2) X.env)] := by rfl)
    (hs : starEach [e, e2] X.env = (false, eval e X.env) :: starEach [e2] X.env := by rfl) (hpl : (backTo pos2 (starEach [e2] X.env)).any (·.1) = false := by rfl) :
    PI X (.Tuple elts kk tpos) (.Call (.Name "enumerate" p) [.Call (.Name "zip" p2) [e, e2] [] pos2] [] pos) (iEz X.K ta) := by
  refine ⟨fun pins s σ H R I h => ?_⟩
  refine Call_ (ld_blt I hg0 hm0 boot_enumerate (PyProof.Rows.callWith_type1 ?_ hs0 rfl))
  rw [hs0]
  show wpAny _ _ (spliced ((false, eval (.Call (.Name "zip" p2) [e, e2] [] pos2) X.env) :: [])) _ _ s
  refine Calls.spliced_cons (Call_ (ld_blt I hg hm PyProof.Rows.boot_zip (PyProof.Rows.callWith_type1 (thn (ha.run pos2 pins s σ H _ I h) fun us s1 ⟨vs, H1, I1, r1, q1⟩ => ?_) hs hpl)))
  obtain ⟨a, b, xs, ys, ex, hqx, hqy, q⟩ := q1
  subst ex
  cases r1 with
  | cons r rr =>
    cases rr with
    | cons r' rr =>
      cases rr
      cases r
      cases r'
      obtain ⟨its, rv, p1, _⟩ := I1.list hqx
      obtain ⟨its2, rv2, p2', _⟩ := I1.list hqy
      have la : a < s1.heap.objs.size := p1.lt
      have lb : b < s1.heap.objs.size := p2'.lt
      refine call_zip_2 p1.isList p2'.isList fun h' hz hTI hTO h1 h2 hsz hk => Calls.spliced_nil ?_
      refine call_ez hz fun h'' he hk2 => wpAny_pyIter_enum he ?_
      have I2 : Inv X pins σ H1 { s1 with heap := h'' } := I1.kept (t' := s1.toks) fun c o e => hk2 c o (hk c o e)
      have sz : (Shared.heap { s1 with heap := h' }).objs.size = s1.heap.objs.size + 5 := hsz
      rw [sz] at he
      refine ⟨_, [s1.heap.objs.size + 5, s1.heap.objs.size + 4, s1.heap.objs.size + 2, s1.heap.objs.size + 3, s1.heap.objs.size, s1.heap.objs.size + 1], _, _, H1, by rw [sz], I2,
        turn_ez (PySem.W.ktu_apart s1.heap.objs.size a b la lb) (en := s1.heap.objs.size + 5) ⟨neq5 _ 4 (by decide), neq5 _ 3 (by decide), neq5 _ 0 (by decide), neq5 _ 1 (by decide)⟩ (Ne.symm (neq5 _ 2 (by decide))), ⟨⟨_, he⟩, .inl (hk2 _ _ hz), hk2 _ _ hTI, ⟨_, _, hk2 _ _ hTO⟩, h1.at fun o e => hk2 _ o e, h2.at fun o e => hk2 _ o e⟩, fun c hcm => ?_, q⟩
      have e' : c = s1.heap.objs.size + 5 ∨ c = s1.heap.objs.size + 4 ∨ c = s1.heap.objs.size + 2 ∨ c = s1.heap.objs.size + 3 ∨ c = s1.heap.objs.size ∨ c = s1.heap.objs.size + 1 := by simpa using hcm
      have hle : s1.heap.objs.size ≤ c := by
        rcases e' with z | z | z | z | z | z <;> rw [z] <;> omega
      exact I1.fpOk hle (I1.hok.fresh hle)
end PV
end
section
namespace PV
open PySem PySem.Spec PyProof.Rows L2
theorem yields_ez {M : PySem.W.Frag} {κ : Kap M} {a b : Addr} {ds es : List D} {vs ws : List V} {P : Hp → Hp → Prop} (hs : ∀ F1 H1, P F1 H1 → SqL M H1 a vs ∧ Sub F1 H1 ∧ RepL κ F1 H1 ds vs []) (hs2 : ∀ F1 H1, P F1 H1 → SqL M H1 b ws ∧ Sub F1 H1 ∧ RepL κ F1 H1 es ws []) :
    Yields κ (Iez M a b) (enumD 0 (zipD ds es)) P := by
  refine ⟨fun i F1 H1 p hi => ?_, fun i F1 H1 x H2 d p hd y => ?_, fun F1 H1 p => ?_⟩
  · rw [enumD_length] at hi
    exact (yields_zip hs hs2).go i F1 H1 p hi
  · obtain ⟨h1, h2, h3⟩ := hs F1 H1 p
    obtain ⟨k1, k2, k3⟩ := hs2 F1 H1 p
    obtain ⟨T, U, x', y', rfl, hT, hU, hTU, rfl, y1, y2⟩ := y
    rw [enumD_get] at hd
    cases q : (zipD ds es)[i]? with
    | none => rw [q] at hd; cases hd
    | some d' =>
      rw [q] at hd
      cases hd
      obtain ⟨d1, d2, q1, q2, rfl⟩ := zipD_get _ _ _ _ q
      obtain ⟨v, fq, h4, h5, h6, _⟩ := h3.get i d1 q1
      obtain ⟨w, fr, k4, k5, k6, _⟩ := k3.get i d2 q2
      have e := y1 vs h1
      rw [h4] at e
      cases e
      have e := y2 ws k1
      rw [k4] at e
      cases e
      cases nil_of_sub h6
      cases nil_of_sub k6
      have x2 : Ext F1 H1 (upd F1 T (.tup [x', y'])) (upd H1 T (.tup [x', y'])) := .newF h2 hT
      have hU2 : upd H1 T (.tup [x', y']) U = none := by rw [upd_ne (Ne.symm hTU)]; exact hU
      have x3 : Ext (upd F1 T (.tup [x', y'])) (upd H1 T (.tup [x', y'])) (upd (upd F1 T (.tup [x', y'])) U (.tup [.int (i : Nat), .ref T])) (upd (upd H1 T (.tup [x', y'])) U (.tup [.int (i : Nat), .ref T])) := .newF x2.fh hU2
      refine ⟨_, x2.trans x3, .tup upd_same ?_⟩
      rw [Nat.zero_add]
      refine .cons (fp := []) (fq := []) (.int _) (.cons (fp := []) (fq := []) (.tup ?_ (.cons (fp := []) (fq := []) (h5.ext (x2.trans x3)) (.cons (fp := []) (fq := []) (k5.ext (x2.trans x3)) .nil))) .nil)
      rw [upd_ne hTU, upd_same]
  · rw [enumD_length]
    exact (yields_zip hs hs2).stop F1 H1 p
def enz2 (st : Bool) : List D → Res (List D)
  | [.nd t .lst ds, .nd u .lst es] => (itemsOf st (.nd t .lst ds)).bind fun xs => (itemsOf st (.nd u .lst es)).bind fun ys => .ok (enumD 0 (zipD xs ys))
  | _ => .stuck
section
variable {X : Cx} {c : Cfg X.K} {E : XK} {a b : Expr} {pos : Pos} {st : Bool}
theorem ey_ez {fs : Env → Res (List D)} {p p2 pos2 tpos : Pos} {elts : List Expr} {kk : Nat} (hg0 : Gl X "enumerate") (hm0 : X.mg "enumerate" = none) (hg : Gl X "zip") (hm : X.mg "zip" = none) (ha : EL X c E [a, b] fs)
    (hs0 : starEach [.Call (.Name "zip" p2) [a, b] [] pos2] X.env = [(false, eval (.Call (.Name "zip" p2) [a, b] [] pos2) X.env)] := by rfl)
    (hs : starEach [a, b] X.env = (false, eval a X.env) :: starEach [b] X.env := by rfl) (hpl : (backTo pos2 (starEach [b] X.env)).any (·.1) = false := by rfl) :
    EY X c E st (.Tuple elts kk tpos) (.Call (.Name "enumerate" p) [.Call (.Name "zip" p2) [a, b] [] pos2] [] pos) (yL (enz2 st) fs) :=
  PI.imp (pi_ez hg0 hm0 hg hm ha hs0 hs hpl) fun σ H R q => glueYL q (fun F F' ds vs fp H' items x r nd fr w go => by
    unfold enz2 at w
    split at w
    · rename_i t ds u es
      cases z : itemsOf st (.nd t .lst ds) with
      | ok xs =>
        rw [z] at w
        cases z2 : itemsOf st (.nd u .lst es) with
        | ok ys =>
          rw [z2] at w
          cases w
          cases r with
          | cons r1 r2 =>
            cases r2 with
            | cons r2 r3 =>
              cases r3
              obtain ⟨a, vs, G, rfl, h1, x2, sg, ng, h3⟩ := list_src x r1 (fun a m => fr a (List.mem_append_left _ m)) z
              have n2 := List.nodup_append.mp nd
              obtain ⟨b, ws, G2, rfl, k1, x3, sg2, ng2, k3⟩ := list_src x2 ((rep_mono sg (Sm.refl _)).1 _ _ _ r2) (fun a m => by
                have q := fr a (List.mem_append_right _ (List.mem_append_left _ m))
                refine ⟨q.1, ?_⟩
                rw [ng a fun m2 => n2.2.2 a m2 a (List.mem_append_left _ m) rfl]
                exact q.2) z2
              exact ⟨a, b, vs, ws, rfl, h1, k1, go _ G2 x3 (yields_ez (fun F1 H1 p => h3 F1 H1 (p.mono sg2)) k3)⟩
        | exc y => exact absurd z2 (itemsOf_nox _ _ _)
        | stuck => rw [z2] at w; cases w
      | exc y => exact absurd z (itemsOf_nox _ _ _)
      | stuck => rw [z] at w; cases w
    · cases w) fun d x => by
      unfold enz2
      split
      · rename_i t ds u es
        cases z : itemsOf st (.nd t .lst ds) with
        | ok xs =>
          cases z2 : itemsOf st (.nd u .lst es) with
          | ok ys => simp [Res.bind]
          | exc y => exact absurd z2 (itemsOf_nox _ _ _)
          | stuck => simp [Res.bind]
        | exc y => exact absurd z (itemsOf_nox _ _ _)
        | stuck => simp [Res.bind]
      · simp
end
@[simp] theorem enz2_e {st : Bool} {t u : Tag} {ds es : List D} : enz2 st [.nd t .lst ds, .nd u .lst es] = (itemsOf st (.nd t .lst ds)).bind fun xs => (itemsOf st (.nd u .lst es)).bind fun ys => .ok (enumD 0 (zipD xs ys)) := (rfl)
section
variable {X : Cx} {c : Cfg X.K} {E : XK} {e : Expr} {f : Env → Res D} {pos apos p : Pos}
def ext1 (i : Nat) (ds : List D) (d : D) (env : Env) : SR := match d with
  | .nd .own .lst es => if noTL es = true ∧ ds.length + es.length ≤ bigL then .ok (.nx, env.set i (some (.lst .own (ds ++ es)))) else .stuck
  | _ => .stuck
def sExt (i : Nat) (f : Env → Res D) : Env → SR := fun env => match ownL env i with
  | some ds => (f env).bind fun d => ext1 i ds d env
  | none => .stuck
theorem es_ext (i : Nat) {x : Str} {q : Pos} (ha : EV X c E e f) (hN : X.N[i]? = some x := by rfl) (hv : Vis X.env.scope x := by first | exact Or.inl rfl | exact Or.inr (Or.inl rfl) | exact Or.inr (Or.inr rfl)) (hd : (x == ("__debug__" : Str)) = false := by decide)
    (hcd : (x == ("__classdict__" : Str)) = false := by decide)
    (hbase : attributeBase (.Name x q) "extend" X.env (eval (.Name x q) X.env) = eval (.Name x q) X.env := by rfl)
    (hfew : ((backTo p (starEach [e] X.env)).all (fun x => !x.1) && (backToKw p (keywordEach [] X.env)).all (fun x => x.1.isSome)
      && decide ([e].length + ([] : List Keyword).length + (if ([] : List Keyword).isEmpty then 0 else 1) < 30)) = true := by rfl)
    (hline : (apos.endLine == p.line) = true := by rfl) (hs1 : starEach [e] X.env = (false, eval e X.env) :: starEach [] X.env := by rfl) (hplain : (backTo p (starEach [] X.env)).any (·.1) = false := by rfl)
    (hs : swapsWith (.Call (.Attribute (.Name x q) "extend" apos) [e] [] p) none pos.line X.env = pure false := by rfl) :
    ES X c E (.Expr (.Call (.Attribute (.Name x q) "extend" apos) [e] [] p) pos) (sExt i f) :=
  PS.imp (ps_expr (pe_bm PySem.F.plainAttrs_list PySem.F.slot_list_extend PySem.F.type_list_extend mt_extend (pe_var (i := i) hN hv hd hcd) (pa_cons ha pa_nil hs1) hbase hfew hline hs1 hplain) hs) fun Dn σ H q => by
    obtain ⟨K, F0, F, env, φ, S, p⟩ := q
    unfold sExt at p
    cases hs0 : ownL env i with
    | none => rw [hs0] at p; exact p.elim
    | some ds =>
      have hslot := ownL_get hs0
      obtain ⟨v, h1, h2, h3⟩ := S.sl i _ hslot
      obtain ⟨a, vs, fq, rfl, hφ, ha', hl⟩ := RepL.of_own h2
      refine ⟨.ref a, h1, .inl ⟨rfl, vs, .inl (.inl ha')⟩, true, K, F0, F, env, φ, S, ?_⟩
      cases z : f env with
      | ok d =>
        simp only [z, Res.bind, hs0] at p
        intro v H' F' fp x r nd fr
        unfold ext1 at p
        split at p
        · rename_i es
          by_cases hc : noTL es = true ∧ ds.length + es.length ≤ bigL
          · rw [if_pos hc] at p
            obtain ⟨b, zs, fq2, rfl, rfl, hb', hl'⟩ := RepL.of_own r
            rw [List.nodup_cons] at nd
            have S2 := S.ext x
            have ha2 := x.hh _ _ ha'
            refine ⟨a, b, vs, zs, rfl, rfl, ha2, hb', ?_, ?_⟩
            · have e := hl.length
              have e2 := hl'.length
              have : sizeLine = 16777216 := sizeLine_eq
              unfold bigL at hc
              omega
            · have h3' := h3 rfl
              rw [noT, Bool.and_eq_true] at h3'
              have hl2 := hl.ext x
              have n1 := S.nd i
              rw [hφ, List.nodup_cons] at n1
              have fr2 : ∀ b ∈ fq2, H b = none ∧ F' b = none := fun b m => fr b (List.mem_cons_of_mem _ m)
              refine p σ _ F' _ (S2.relist (a := a) (fq := fq) (fr := fq ++ fq2) (vs := vs ++ zs) h1 hφ (hl2.append hl') ?_ ?_ ?_)
              · refine List.nodup_append.mpr ⟨n1.2, nd.2, fun b m b2 m2 z => ?_⟩
                subst z
                exact (S.apart (fr2 b m2).1).2 i (by rw [hφ]; exact List.mem_cons_of_mem _ m)
              · intro b m
                rcases List.mem_append.mp m with m | m
                · exact .inl m
                · exact .inr ⟨(fr2 b m).2, (S.apart (fr2 b m).1).1, (S.apart (fr2 b m).1).2⟩
              · rw [noTL_append, h3'.2, hc.1]
                rfl
          · rw [if_neg hc] at p
            exact p.elim
        · exact p.elim
      | exc y => simp only [z, Res.bind, hs0] at p; exact fun cl dd H' s w => p cl dd H' (S.kk.trans s) (c.mono (S.kk) w)
      | stuck => simp only [z, Res.bind, hs0] at p; exact p
end
@[simp] theorem sExt_e {i : Nat} {f : Env → Res D} {env : Env} : sExt i f env = match ownL env i with
  | some ds => (f env).bind fun d => ext1 i ds d env
  | none => .stuck := rfl
@[simp] theorem ext1_e {i : Nat} {ds es : List D} {env : Env} : ext1 i ds (.nd .own .lst es) env = if noTL es = true ∧ ds.length + es.length ≤ bigL then .ok (.nx, env.set i (some (.lst .own (ds ++ es)))) else .stuck := rfl
theorem hu65 {k : Nat} {A : Around} (hr : Room k A) : A.units + 65 < cLine := by have := hr.un; omega
section
variable {X : Cx} {c : Cfg X.K} {E : XK}
def rCountD (K : PySem.W.Frag) : V → List V → Hp → VK → Prop := fun x xs H Q => ∃ (a : Addr) (y : V) (d : PyData) (ds : List PyData), x = V.ref a ∧ xs = [y] ∧ Dp K H (V.ref a) (.list ds) ∧ Dp K H y d ∧ SeqAt.shaped (.list ds) = true ∧ SeqAt.shaped d = true ∧
  Q (.int (ds.countP fun z => PyData.eqv z d : Nat)) H
theorem mt_countD (hu : X.A.units + 65 < cLine) : MtR X "list.count" (rCountD X.K) := by
  intro pins s σ H x xs v us Q I rx rxs h
  obtain ⟨a, y, d, ds, rfl, rfl, hl, hy, sl, sd, q⟩ := h
  cases rx
  cases rxs with
  | cons ry rt =>
    rename_i uy ut
    cases rt
    obtain ⟨bs, r1⟩ := Dp.reads I d y uy hy ry
    have room : X.A.units + 1 + min (PyData.depthAll ds) d.depth < cLine := room_in_shaped sd hu
    cases hl with
    | lst hs ha =>
      obtain ⟨its, rv, ⟨⟨cls, dd, data, sls⟩, n, ho, hc, hdn, hdt⟩, hlen⟩ := I.list hs
      simp only at hc hdt
      subst hc hdt
      obtain ⟨as, h4⟩ := Dp.readsAll I ds _ its ha rv
      have hmap : its.map (SeqAt.readOf s.heap) = ds := SeqAt.readsAll_map ds its as (SeqAt.canLay_of_shaped sl) h4
      refine call_meets PySem.F.slot_list_count ⟨_, ho, rfl⟩ PySem.F.entry_list_count (PySem.F.args_list_count_2 _ _)
        (SeqAt.list_countAt a its.toArray n dd sls uy fun u => PyData.eqv (SeqAt.readOf s.heap u) d) ⟨ho, SeqAt.items_eqAt (vs := its.toArray) (show ReadsAll s.heap its.toArray.toList ds as from h4) r1 (SeqAt.canLay_of_shaped sl) (SeqAt.canLay_of_shaped sd) room, ?_⟩
      have e : its.toArray.toList.countP (fun u => PyData.eqv (SeqAt.readOf s.heap u) d) = ds.countP fun z => PyData.eqv z d := by
        rw [← hmap, List.countP_map]
        rfl
      rw [e]
      exact ⟨.int _, H, I.tok _, ⟨_, rfl⟩, q⟩
def dCnt : D → D → Res D
  | .nd t .lst ds, y => if plD 50 (.nd t .lst ds) = true ∧ plD 50 y = true then .ok (.int (ds.countP fun z => eqD z y : Nat)) else .stuck
  | _, _ => .stuck
def eCnt (f g : Env → Res D) : Env → Res D := fun env => (f env).bind fun x => match x with
  | .nd t .lst ds => (g env).bind fun y => dCnt (.nd t .lst ds) y
  | _ => .stuck
theorem ev_count {o e : Expr} {f g : Env → Res D} {apos cpos : Pos} (hu : X.A.units + 65 < cLine) (ha : EV X c E o f) (hb : EV X c E e g)
    (hbase : attributeBase o "count" X.env (eval o X.env) = eval o X.env := by rfl)
    (hfew : ((backTo cpos (starEach [e] X.env)).all (fun x => !x.1) && (backToKw cpos (keywordEach [] X.env)).all (fun x => x.1.isSome)
      && decide ([e].length + ([] : List Keyword).length + (if ([] : List Keyword).isEmpty then 0 else 1) < 30)) = true := by rfl)
    (hline : (apos.endLine == cpos.line) = true := by rfl) (hs : starEach [e] X.env = (false, eval e X.env) :: starEach [] X.env := by rfl) (hplain : (backTo cpos (starEach [] X.env)).any (·.1) = false := by rfl) :
    EV X c E (.Call (.Attribute o "count" apos) [e] [] cpos) (eCnt f g) :=
  PE.imp (pe_bm PySem.F.plainAttrs_list PySem.F.slot_list_count PySem.F.type_list_count (mt_countD hu) ha (pa_cons hb pa_nil hs) hbase hfew hline hs hplain) fun σ H Q q => by
    obtain ⟨bb, K, F0, F, env, φ, S, p⟩ := q
    refine ⟨bb, K, F0, F, env, φ, S, ?_⟩
    unfold eCnt at p
    cases z : f env with
    | ok d =>
      simp only [z, Res.bind] at p
      intro v H' F' fp x r nd fr
      split at p
      · rename_i t ds
        obtain ⟨a, vs, fq, rfl, h1, h2, _⟩ := r.sqL x.fh
        refine ⟨.inl ⟨rfl, vs, h1⟩, bb, K, F0, F', env, φ, S.ext x, ?_⟩
        cases z2 : g env with
        | ok y =>
          simp only [z2] at p
          intro v' H2 F2 fp' x' r' nd' fr'
          unfold dCnt at p
          dsimp only at p
          by_cases h : plD 50 (.nd t .lst ds) = true ∧ plD 50 y = true
          · rw [if_pos h] at p
            obtain ⟨c1, c2⟩ := pl_shaped _ _ h.1
            obtain ⟨c3, c4⟩ := pl_shaped _ _ h.2
            have d1 := Rep.dp _ F2 H2 x'.fh _ _ _ c1 (r.ext x')
            have d2 := Rep.dp _ F2 H2 x'.fh _ _ _ c3 r'
            have s1 : SeqAt.shaped (toP (.nd t .lst ds)) = true := by
              unfold SeqAt.shaped
              simp [c1]
              omega
            have s2 : SeqAt.shaped (toP y) = true := by
              unfold SeqAt.shaped
              simp [c3]
              omega
            rw [toP] at d1 s1
            refine ⟨a, v', toP y, toPL ds, rfl, rfl, d1, d2, s1, s2, ?_⟩
            have e : (toPL ds).countP (fun z => PyData.eqv z (toP y)) = ds.countP fun z => eqD z y := by
              rw [toPL_eq, List.countP_map]
              rfl
            rw [e]
            exact p _ H2 F2 [] (x.trans x') (.int _) .nil (by simp)
          · rw [if_neg h] at p
            exact p.elim
        | exc y =>
          simp only [z2] at p
          exact fun cl dd H3 s w => p cl dd H3 (x.hh.trans s) (c.mono (x.hh) w)
        | stuck => simp only [z2] at p; exact p
      · exact p.elim
    | exc y => simp only [z, Res.bind] at p; exact p
    | stuck => simp only [z, Res.bind] at p; exact p
end
@[simp] theorem eCnt_e {f g : Env → Res D} {env : Env} : eCnt f g env = (f env).bind fun x => match x with
  | .nd t .lst ds => (g env).bind fun y => dCnt (.nd t .lst ds) y
  | _ => .stuck := rfl
end PV
end
section
namespace PV
open PySem PySem.Spec PyProof.Rows L2
inductive Fo (σ : Type) where
  | nx (s : σ) | bk (s : σ) | rt (d : D)
section
variable {σ τ α β γ : Type}
def forV (step : D → σ → Res (Fo σ)) : List D → σ → Res (Fo σ)
  | [], s => .ok (.nx s)
  | d :: ds, s => (step d s).bind fun r => match r with
    | .nx s' => forV step ds s'
    | .bk s' => .ok (.nx s')
    | .rt d => .ok (.rt d)
def afterV (r : Res (Fo σ)) (k : σ → Res β) (q : D → Res β) : Res β := r.bind fun x => match x with
  | .nx s => k s
  | .bk s => k s
  | .rt d => q d
def chk (d : D) : Res D := if noT d = true then .ok d else .stuck
def ifR (c : Res Bool) (a b : Res β) : Res β := c.bind fun x => if x = true then a else b
def lcV (step : D → Res (Option D)) : List D → Res (List D)
  | [] => .ok []
  | d :: ds => match step d with
    | .ok (some y) => (lcV step ds).bind fun ys => .ok (y :: ys)
    | .ok none => lcV step ds
    | _ => .stuck
def lstO (x : D) : Res (List D) := match x with
  | .nd .own .lst ds => .ok ds
  | _ => .stuck
def appL (ds : List D) (d : D) : Res D := if noT d = true ∧ ds.length < bigL then .ok (.lst .own (ds ++ [d])) else .stuck
def appV (x : D) (c : Res D) : Res D := (lstO x).bind fun ds => c.bind fun d => appL ds d
def extL (ds : List D) (d : D) : Res D := match d with
  | .nd .own .lst es => if noTL es = true ∧ ds.length + es.length ≤ bigL then .ok (.lst .own (ds ++ es)) else .stuck
  | _ => .stuck
def extV (x : D) (c : Res D) : Res D := (lstO x).bind fun ds => c.bind fun d => extL ds d
def up2 (d : D) : Res (D × D) := match seqO d with
  | some [a, b] => if (noT a && noT b) = true then .ok (a, b) else .stuck
  | _ => .stuck
def up4 (d : D) : Res (D × D × D × D) := match seqO d with
  | some [a, b, c, e] => if (noT a && (noT b && (noT c && noT e))) = true then .ok (a, b, c, e) else .stuck
  | _ => .stuck
def ub2 (d : D) : Res (D × D) := match seqO d with
  | some [a, b] => .ok (a, b)
  | _ => .stuck
def ub3 (d : D) : Res (D × D × D) := match seqO d with
  | some [a, b, c] => .ok (a, b, c)
  | _ => .stuck
section
variable {i j k l m n o : Nat} {d : D} {env : Env}
theorem t_1 : put1 i d env = (chk d).bind fun a => .ok (env.set i (some a)) := by
  unfold put1 chk; split <;> rfl
theorem t_2 : putT 2 (putC (put1 i) (putC (put1 j) (putN))) d env = (up2 d).bind fun p => .ok ((env.set i (some p.1)).set j (some p.2)) := by
  unfold putT up2
  cases seqO d with
  | none => rfl
  | some ds =>
    match ds with
    | [] => rfl
    | [a] => rfl
    | [a, b] =>
      simp only [putC, put1, putN, noTL, List.length_cons, List.length_nil]
      cases noT a <;> cases noT b <;> rfl
    | a :: b :: z :: r => simp
theorem t_4 : putT 4 (putC (put1 i) (putC (put1 j) (putC (put1 k) (putC (put1 l) (putN))))) d env = (up4 d).bind fun p => .ok ((((env.set i (some p.1)).set j (some p.2.1)).set k (some p.2.2.1)).set l (some p.2.2.2)) := by
  unfold putT up4
  cases seqO d with
  | none => rfl
  | some ds =>
    match ds with
    | [] => rfl
    | [a] => rfl
    | [a, b] => rfl
    | [a, b, c] => rfl
    | [a, b, c, e] =>
      simp only [putC, put1, putN, noTL, List.length_cons, List.length_nil]
      cases noT a <;> cases noT b <;> cases noT c <;> cases noT e <;> rfl
    | a :: b :: c :: e :: z :: r => simp
theorem t_2b : putT 2 (putD (putb i) (putD (putb j) (putN))) d env = (ub2 d).bind fun p => .ok ((env.set i (some p.1)).set j (some p.2)) := by
  unfold putT ub2
  cases seqO d with
  | none => rfl
  | some ds =>
    match ds with
    | [] => rfl
    | [a] => rfl
    | [a, b] => rfl
    | a :: b :: z :: r => simp
theorem t_3b : putT 3 (putD (putb i) (putD (putb j) (putD (putb k) (putN)))) d env = (ub3 d).bind fun p => .ok (((env.set i (some p.1)).set j (some p.2.1)).set k (some p.2.2)) := by
  unfold putT ub3
  cases seqO d with
  | none => rfl
  | some ds =>
    match ds with
    | [] => rfl
    | [a] => rfl
    | [a, b] => rfl
    | [a, b, c] => rfl
    | a :: b :: c :: z :: r => simp
end
section
variable {env : Env} {f g h : Env → Res D} {fs : Env → Res (List D)} {p q : Env → Res Bool} {a b c : Res D} {as : Res (List D)} {pa qa : Res Bool}
theorem x_e2 {k : D → D → Res D} (h1 : f env = a) (h2 : g env = b) : e2 k f g env = a.bind fun x => b.bind fun y => k x y := by unfold e2; rw [h1, h2]
theorem x_eC {k : List D → Res D} (h1 : fs env = as) : eC_ k fs env = as.bind k := by unfold eC_; rw [h1]
theorem x_call {Φ : List D → Res D} {dd : List D} (h1 : fs env = as) : eCall Φ dd fs env = as.bind fun ds => callD Φ (ds ++ dd) := by unfold eCall; rw [h1]
theorem x_cons (h1 : f env = a) (h2 : fs env = as) : lCons f fs env = a.bind fun d => as.bind fun ds => .ok (d :: ds) := by unfold lCons; rw [h1, h2]
theorem x_and (h1 : f env = a) (h2 : g env = b) : eAnd f g env = a.bind fun d => (asB d).bind fun x => if x = true then b else .ok (.bl false) := by unfold eAnd; rw [h1, h2]
theorem x_tup (h1 : fs env = as) : eTup fs env = as.bind fun ds => if ds.length ≤ bigL then .ok (.tup ds) else .stuck := by unfold eTup; rw [h1]
theorem x_lst (h1 : fs env = as) : eLst fs env = as.bind fun ds => if ds.length ≤ bigL then .ok (.lst .own ds) else .stuck := by unfold eLst; rw [h1]
theorem x_B (h1 : f env = a) : eB f env = a.bind asB := by unfold eB; rw [h1]
theorem x_T (h1 : f env = a) : eT f env = a.bind tru := by unfold eT; rw [h1]
theorem x_bAnd (h1 : p env = pa) (h2 : q env = qa) : bAnd p q env = ifR pa qa (.ok false) := by unfold bAnd ifR; rw [h1, h2]
theorem x_bOr (h1 : p env = pa) (h2 : q env = qa) : bOr p q env = ifR pa (.ok true) qa := by unfold bOr ifR; rw [h1, h2]
theorem x_bNot (h1 : p env = pa) : bNot p env = pa.bind fun x => .ok (!x) := by unfold bNot; rw [h1]
theorem x_yVal {st : Bool} (h1 : f env = a) : yVal st f env = a.bind (itemsOf st) := by unfold yVal; rw [h1]
theorem x_yL {k : List D → Res (List D)} (h1 : fs env = as) : yL k fs env = as.bind k := by unfold yL; rw [h1]
def lstB (ys : List D) : Res D := if ys.length ≤ bigL then .ok (.lst .own ys) else .stuck
def stepL (s : TgF) (t : Env → Res Bool) (f : Env → Res D) (env : Env) (d : D) : Res (Option D) := (s d env).bind fun env1 => ifR (t env1) ((f env1).bind fun y => (chk y).bind fun y => .ok (some y)) (.ok none)
theorem lc_steps {s : TgF} {t : Env → Res Bool} {f : Env → Res D} {step : D → Res (Option D)} (h : ∀ d, stepL s t f env d = step d) : ∀ ds, lcL s t f env ds = lcV step ds
  | [] => rfl
  | d :: ds => by
    rw [lcL, lcV, ← h d, ← lc_steps h ds]
    unfold stepL ifR chk
    cases s d env with
    | ok env1 =>
      simp only [rb_ok]
      cases t env1 with
      | ok b =>
        simp only [rb_ok]
        cases b with
        | true =>
          simp only [if_true]
          cases f env1 with
          | ok y =>
            simp only [rb_ok]
            by_cases hy : noT y = true
            · simp only [hy, if_true, rb_ok]
            · simp only [hy]; rfl
          | exc y => rfl
          | stuck => rfl
        | false => rfl
      | exc y => rfl
      | stuck => rfl
    | exc y => rfl
    | stuck => rfl
theorem x_lc {it : Env → Res (List D)} {s : TgF} {t : Env → Res Bool} {f : Env → Res D} {vs : List Nat} {ix : Res (List D)} {env1 : Env} {step : D → Res (Option D)} (h1 : it env = ix) (he : wipeE vs env = env1) (h2 : ∀ d, stepL s t f env1 d = step d) :
    eLc it s t f vs env = ix.bind fun items => (lcV step items).bind lstB := by
  unfold eLc
  rw [h1, he]
  congr 1
  funext items
  rw [lc_steps h2]
  rfl
theorem t_lc {s : TgF} {t : Env → Res Bool} {f : Env → Res D} {d : D} {tx : Res α} {e' : α → Env} {tt : α → Res Bool} {fx : α → Res D} (h1 : s d env = tx.bind fun a => .ok (e' a)) (h2 : ∀ a, t (e' a) = tt a) (h3 : ∀ a, f (e' a) = fx a) :
    stepL s t f env d = tx.bind fun a => ifR (tt a) ((fx a).bind fun y => (chk y).bind fun y => .ok (some y)) (.ok none) := by
  unfold stepL
  rw [h1]
  cases tx with
  | ok a => simp only [rb_ok]; rw [h2, h3]
  | exc x => rfl
  | stuck => rfl
theorem t_lc1 {s : TgF} {f : Env → Res D} {d : D} {tx : Res α} {e' : α → Env} {fx : α → Res D} (h1 : s d env = tx.bind fun a => .ok (e' a)) (h3 : ∀ a, f (e' a) = fx a) :
    stepL s bYes f env d = tx.bind fun a => (fx a).bind fun y => (chk y).bind fun y => .ok (some y) := by
  unfold stepL
  rw [h1]
  cases tx with
  | ok a => simp only [rb_ok]; rw [h3]; rfl
  | exc x => rfl
  | stuck => rfl
end
structure Rl (R : SR → Res β → Prop) (q : D → Res β) : Prop where
  st : ∀ r, R r .stuck
  ex : ∀ x, R (.exc x) (.exc x)
  rt : ∀ d env, R (.ok (.rt d, env)) (q d)
def finF (r : SR) : Res D := match r with
  | .ok (.rt d, _) => .ok d
  | .ok (.nx, _) => .ok .non
  | .exc x => .exc x
  | _ => .stuck
def RF (r : SR) (m : Res D) : Prop := m = .stuck ∨ finF r = m
def RB (Γ : σ → Env) (fg : List Nat) (r : SR) (m : Res (Fo σ)) : Prop := match m with
  | .stuck => True
  | .exc x => r = .exc x
  | .ok (.nx s) => ∃ env, (r = .ok (.nx, env) ∨ r = .ok (.ct, env)) ∧ forget fg env = Γ s
  | .ok (.bk s) => ∃ env, r = .ok (.bk, env) ∧ forget fg env = Γ s
  | .ok (.rt d) => ∃ env, r = .ok (.rt d, env)
def okR (d : D) : Res D := .ok d
def rtR (d : D) : Res (Fo σ) := .ok (.rt d)
theorem rl_F : Rl RF okR := ⟨fun _ => .inl rfl, fun _ => .inr rfl, fun _ _ => .inr rfl⟩
theorem rl_B {Γ : σ → Env} {fg : List Nat} : Rl (RB Γ fg) rtR := ⟨fun _ => trivial, fun _ => rfl, fun _ env => ⟨env, rfl⟩⟩
section
variable {R : SR → Res β → Prop} {q : D → Res β} {u v w : Env → SR} {env : Env} {f g : Env → Res D} {fx gx : Res D} {m : Res β} {i j : Nat} {x : D}
theorem r_last (h : R (sSeq u sNil env) m) : R (u env) m := by
  have e : sSeq u sNil env = u env := by
    unfold sSeq sNil
    cases u env with
    | ok r =>
      obtain ⟨fl, e⟩ := r
      cases fl <;> rfl
    | exc x => rfl
    | stuck => rfl
  rw [e] at h
  exact h
theorem r_assoc (h : R (sSeq u (sSeq v w) env) m) : R (sSeq (sSeq u v) w env) m := by
  have e : sSeq (sSeq u v) w env = sSeq u (sSeq v w) env := by
    unfold sSeq
    cases u env with
    | ok r =>
      obtain ⟨fl, e⟩ := r
      cases fl <;> rfl
    | exc x => rfl
    | stuck => rfl
  rw [e]
  exact h
theorem r_seq (hR : Rl R q) {c : Res α} {e' : α → Env} {k : α → Res β} (hu : u env = c.bind fun a => .ok (.nx, e' a)) (hk : ∀ a, R (w (e' a)) (k a)) : R (sSeq u w env) (c.bind k) := by
  unfold sSeq
  rw [hu]
  cases c with
  | ok a => exact hk a
  | exc x => exact hR.ex x
  | stuck => exact hR.st _
theorem set_eq (hf : f env = fx) : sSet i f env = (fx.bind chk).bind fun a => .ok (.nx, env.set i (some a)) := by
  unfold sSet store chk
  rw [hf]
  cases fx with
  | ok d => simp only [rb_ok]; split <;> rfl
  | exc x => rfl
  | stuck => rfl
theorem r_set (hR : Rl R q) {k : D → Res β} (hf : f env = fx) (hk : ∀ a, R (w (env.set i (some a))) (k a)) : R (sSeq (sSet i f) w env) ((fx.bind chk).bind k) := r_seq hR (set_eq hf) hk
theorem r_setV (hf : f env = .ok x) (hx : noT x = true) (hk : R (w (env.set i (some x))) m) : R (sSeq (sSet i f) w env) m := by
  unfold sSeq sSet store
  rw [hf]
  simp only [rb_ok, hx, if_true]
  exact hk
theorem asg_eq {s : TgF} {tx : D → Res α} {e' : α → Env} (hf : f env = fx) (hs : ∀ d, s d env = (tx d).bind fun a => .ok (e' a)) (hn : ∀ d x, tx d ≠ .exc x) : sAsg f s env = (fx.bind tx).bind fun a => .ok (.nx, e' a) := by
  unfold sAsg asgn
  rw [hf]
  cases fx with
  | ok d =>
    simp only [rb_ok]
    rw [hs]
    cases h : tx d with
    | ok a => rfl
    | exc x => exact absurd h (hn d x)
    | stuck => rfl
  | exc x => rfl
  | stuck => rfl
theorem r_asg (hR : Rl R q) {s : TgF} {tx : D → Res α} {e' : α → Env} {k : α → Res β} (hf : f env = fx) (hs : ∀ d, s d env = (tx d).bind fun a => .ok (e' a)) (hn : ∀ d x, tx d ≠ .exc x) (hk : ∀ a, R (w (e' a)) (k a)) : R (sSeq (sAsg f s) w env) ((fx.bind tx).bind k) := r_seq hR (asg_eq hf hs hn) hk
theorem app_eq (hx : env[i]? = some (some x)) (hf : f env = fx) : sApp i f env = (appV x fx).bind fun a => .ok (.nx, env.set i (some a)) := by
  unfold sApp ownL appV lstO
  rw [hx, hf]
  cases x with
  | nd t kd ds =>
    cases t <;> cases kd <;> try rfl
    cases fx with
    | ok d =>
      simp only [rb_ok]
      unfold appL
      split <;> rfl
    | exc x => rfl
    | stuck => rfl
  | _ => rfl
theorem r_app (hR : Rl R q) {k : D → Res β} (hx : env[i]? = some (some x)) (hf : f env = fx) (hk : ∀ a, R (w (env.set i (some a))) (k a)) : R (sSeq (sApp i f) w env) ((appV x fx).bind k) := r_seq hR (app_eq hx hf) hk
theorem ext_eq (hx : env[i]? = some (some x)) (hf : f env = fx) : sExt i f env = (extV x fx).bind fun a => .ok (.nx, env.set i (some a)) := by
  unfold sExt ownL extV lstO
  rw [hx, hf]
  cases x with
  | nd t kd ds =>
    cases t <;> cases kd <;> try rfl
    cases fx with
    | ok d =>
      simp only [rb_ok]
      cases d with
      | nd t2 kd2 es =>
        cases t2 <;> cases kd2 <;> try rfl
        unfold ext1 extL
        dsimp only
        by_cases h4 : noTL es = true ∧ ds.length + es.length ≤ bigL
        · rw [if_pos h4, if_pos h4]; rfl
        · rw [if_neg h4, if_neg h4]; rfl
      | _ => rfl
    | exc x => rfl
    | stuck => rfl
  | _ => rfl
theorem r_ext (hR : Rl R q) {k : D → Res β} (hx : env[i]? = some (some x)) (hf : f env = fx) (hk : ∀ a, R (w (env.set i (some a))) (k a)) : R (sSeq (sExt i f) w env) ((extV x fx).bind k) := r_seq hR (ext_eq hx hf) hk
def parV (ds : List D) : Res (D × D) := match ds with
  | [x, y] => if (noT x && noT y) = true then .ok (x, y) else .stuck
  | _ => .stuck
theorem par_eq {fs : Env → Res (List D)} {as : Res (List D)} (hf : fs env = as) : sPar i j fs env = (as.bind parV).bind fun a => .ok (.nx, (env.set i (some a.1)).set j (some a.2)) := by
  unfold sPar
  rw [hf]
  cases as with
  | ok ds =>
    simp only [rb_ok]
    match ds with
    | [] => rfl
    | [x] => rfl
    | [x, y] =>
      unfold par2 parV
      dsimp only
      by_cases h : (noT x && noT y) = true
      · rw [if_pos h, if_pos h]; rfl
      · rw [if_neg h, if_neg h]; rfl
    | x :: y :: z :: r => rfl
  | exc x => rfl
  | stuck => rfl
theorem r_par (hR : Rl R q) {fs : Env → Res (List D)} {as : Res (List D)} {k : D × D → Res β} (hf : fs env = as) (hk : ∀ a : D × D, R (w ((env.set i (some a.1)).set j (some a.2))) (k a)) : R (sSeq (sPar i j fs) w env) ((as.bind parV).bind k) := r_seq hR (par_eq hf) hk
theorem r_ret (hR : Rl R q) (hf : f env = fx) : R (sSeq (sRet f) w env) ((fx.bind chk).bind q) := by
  unfold sSeq sRet chk
  rw [hf]
  cases fx with
  | ok d =>
    by_cases h : noT d = true
    · simp only [rb_ok, h, if_true]; exact hR.rt d env
    · simp only [rb_ok, h]; exact hR.st _
  | exc x => exact hR.ex x
  | stuck => exact hR.st _
theorem r_retC (hR : Rl R q) (hf : f env = .ok x) (hx : noT x = true) : R (sSeq (sRet f) w env) (q x) := by
  unfold sSeq sRet
  rw [hf]
  simp only [rb_ok, hx, if_true]
  exact hR.rt x env
theorem r_retV (hR : Rl R q) (hx : env[i]? = some (some x)) : R (sSeq (sRetV i) w env) (q x) := by
  unfold sSeq sRetV
  rw [hx]
  exact hR.rt x env
theorem r_nilB {Γ : σ → Env} {fg : List Nat} {s : σ} (h : forget fg env = Γ s) : RB Γ fg (sNil env) (.ok (.nx s)) := ⟨env, .inl rfl, h⟩
theorem r_if (hR : Rl R q) {t : Env → Res Bool} {tx : Res Bool} {a b : Res β} (ht : t env = tx) (h1 : R (sSeq u w env) a) (h2 : R (sSeq v w env) b) : R (sSeq (sIf t u v) w env) (ifR tx a b) := by
  have e : sSeq (sIf t u v) w env = tx.bind fun x => if x = true then sSeq u w env else sSeq v w env := by
    unfold sSeq sIf
    rw [ht]
    cases tx with
    | ok x => cases x <;> rfl
    | exc x => rfl
    | stuck => rfl
  rw [e]
  unfold ifR
  cases tx with
  | ok x =>
    cases x with
    | true => exact h1
    | false => exact h2
  | exc x => exact hR.ex x
  | stuck => exact hR.st _
theorem r_nil (h : R (w env) m) : R (sSeq sNil w env) m := h
theorem r_frz (h : R (sSeq u w (freezeE i env)) m) : R (sSeq (sFrz i u) w env) m := h
def tgt (s : TgF) (u : Env → SR) (d : D) (env : Env) : SR := match s d env with
  | .ok env1 => u env1
  | _ => .stuck
theorem r_tgt {Γ : σ → Env} {fg : List Nat} {s : TgF} {d : D} {tx : Res α} {e' : α → Env} {k : α → Res (Fo σ)} (hs : s d env = tx.bind fun a => .ok (e' a)) (hx : ∀ x, tx ≠ .exc x) (hk : ∀ a, RB Γ fg (u (e' a)) (k a)) : RB Γ fg (tgt s u d env) (tx.bind k) := by
  unfold tgt
  rw [hs]
  cases tx with
  | ok a => exact hk a
  | exc x => exact absurd rfl (hx x)
  | stuck => exact trivial
theorem forV_ok {Γ : σ → Env} {fg : List Nat} {s : TgF} {step : D → σ → Res (Fo σ)} (hb : ∀ d st, RB Γ fg (tgt s u d (Γ st)) (step d st)) : ∀ (ds : List D) (st : σ), match forV step ds st with
    | .ok (.nx st') => forL s u fg ds (Γ st) = .ok (.nx, Γ st')
    | .ok (.bk st') => forL s u fg ds (Γ st) = .ok (.nx, Γ st')
    | .ok (.rt d) => ∃ env, forL s u fg ds (Γ st) = .ok (.rt d, env)
    | .exc x => forL s u fg ds (Γ st) = .exc x
    | .stuck => True
  | [], st => rfl
  | d :: ds, st => by
    have h := hb d st
    rw [forV, forL]
    unfold tgt at h
    cases hs : step d st with
    | ok r =>
      rw [hs] at h
      simp only [rb_ok]
      cases r with
      | nx s' =>
        obtain ⟨env', h1, h2⟩ := h
        have ih := forV_ok hb ds s'
        cases hz : s d (Γ st) with
        | ok env1 =>
          rw [hz] at h1
          dsimp only at h1 ⊢
          rcases h1 with h1 | h1 <;> (rw [h1]; simp only [rb_ok, h2]; exact ih)
        | exc x => rw [hz] at h1; rcases h1 with h1 | h1 <;> cases h1
        | stuck => rw [hz] at h1; rcases h1 with h1 | h1 <;> cases h1
      | bk s' =>
        obtain ⟨env', h1, h2⟩ := h
        cases hz : s d (Γ st) with
        | ok env1 =>
          rw [hz] at h1
          dsimp only at h1 ⊢
          rw [h1]
          simp only [rb_ok, h2]
        | exc x => rw [hz] at h1; cases h1
        | stuck => rw [hz] at h1; cases h1
      | rt d' =>
        obtain ⟨env', h1⟩ := h
        cases hz : s d (Γ st) with
        | ok env1 =>
          rw [hz] at h1
          dsimp only at h1 ⊢
          rw [h1]
          exact ⟨_, rfl⟩
        | exc x => rw [hz] at h1; cases h1
        | stuck => rw [hz] at h1; cases h1
    | exc x =>
      rw [hs] at h
      simp only [rb_exc]
      have h : (match s d (Γ st) with | .ok env1 => u env1 | _ => .stuck) = .exc x := h
      cases hz : s d (Γ st) with
      | ok env1 =>
        rw [hz] at h
        dsimp only at h ⊢
        rw [h]
        rfl
      | exc y => rw [hz] at h; cases h
      | stuck => rw [hz] at h; cases h
    | stuck => exact trivial
theorem after_ok (hR : Rl R q) {Γ : σ → Env} {r : SR} {m : Res (Fo σ)} {k : σ → Res β} (h : match m with
    | .ok (.nx st') => r = .ok (.nx, Γ st')
    | .ok (.bk st') => r = .ok (.nx, Γ st')
    | .ok (.rt d) => ∃ env, r = .ok (.rt d, env)
    | .exc x => r = .exc x
    | .stuck => True) (hk : ∀ st, R (w (Γ st)) (k st)) : R (r.bind fun r => match r.1 with
  | .nx => w r.2
  | _ => .ok r) (afterV m k q) := by
  unfold afterV
  cases m with
  | ok fo =>
    cases fo with
    | nx s => dsimp only at h; rw [h]; exact hk s
    | bk s => dsimp only at h; rw [h]; exact hk s
    | rt d => obtain ⟨e, h⟩ := h; rw [h]; exact hR.rt d e
  | exc x => dsimp only at h; rw [h]; exact hR.ex x
  | stuck => exact hR.st _
theorem r_for (hR : Rl R q) (Γ : σ → Env) {fg : List Nat} {s : TgF} {step : D → σ → Res (Fo σ)} {it : Env → Res (List D)} {ix : Res (List D)} {s0 : σ} {k : σ → Res β} (hi : it env = ix) (h0 : forget fg env = Γ s0)
    (hb : ∀ d st, RB Γ fg (tgt s u d (Γ st)) (step d st)) (hk : ∀ st, R (w (Γ st)) (k st)) : R (sSeq (sFor (yLift it) s u fg) w env) (ix.bind fun items => afterV (forV step items s0) k q) := by
  unfold sSeq sFor yLift
  rw [hi]
  cases ix with
  | ok items =>
    simp only [rb_ok]
    rw [h0]
    exact after_ok hR (forV_ok hb items s0) hk
  | exc x => exact hR.ex x
  | stuck => exact hR.st _
end
theorem phi_of {N : Nat} {g : Env → SR} {ds : List D} {env : Env} {m : Res D} (he : ds.map some ++ List.replicate (N - ds.length) none = env) (h : RF (g env) m) : m = .stuck ∨ runF N g ds = m := by
  rcases h with h | h
  · exact .inl h
  · refine .inr ?_
    unfold runF
    rw [he]
    exact h
end
end PV
namespace PV
open PySem PySem.Spec PyProof.Rows L2
theorem chk_nox (d : D) (x : Exn) : chk d ≠ .exc x := by unfold chk; split <;> simp
theorem up2_nox (d : D) (x : Exn) : up2 d ≠ .exc x := by unfold up2; split <;> (try split) <;> simp
theorem up4_nox (d : D) (x : Exn) : up4 d ≠ .exc x := by unfold up4; split <;> (try split) <;> simp
def andV (a b : Res D) : Res D := a.bind fun d => (asB d).bind fun x => if x = true then b else .ok (.bl false)
def tupA (ds : List D) : Res D := if ds.length ≤ bigL then .ok (.tup ds) else .stuck
def cntV (a b : Res D) : Res D := a.bind fun x => match x with
  | .nd t .lst ds => b.bind fun y => dCnt (.nd t .lst ds) y
  | _ => .stuck
theorem t_lcb {env : Env} {i : Nat} {t : Env → Res Bool} {f : Env → Res D} {d : D} {tt : Res Bool} {fx : Res D} (h2 : t (env.set i (some d)) = tt) (h3 : f (env.set i (some d)) = fx) :
    stepL (putb i) t f env d = ifR tt (fx.bind fun y => (chk y).bind fun y => .ok (some y)) (.ok none) := by
  unfold stepL putb
  simp only [rb_ok]
  rw [h2, h3]
theorem t_lcb1 {env : Env} {i : Nat} {f : Env → Res D} {d : D} {fx : Res D} (h3 : f (env.set i (some d)) = fx) :
    stepL (putb i) bYes f env d = fx.bind fun y => (chk y).bind fun y => .ok (some y) := by
  unfold stepL putb
  simp only [rb_ok]
  rw [h3]
  rfl
theorem x_tupP {env : Env} {fs : Env → Res (List D)} {ds : List D} (h1 : fs env = .ok ds) (n : Nat) (hn : ds.length = n) (hb : Nat.ble n 1000000 = true) : eTup fs env = .ok (.tup ds) := by
  unfold eTup
  rw [h1]
  simp only [rb_ok]
  rw [if_pos (show ds.length ≤ bigL from by rw [hn]; exact Nat.le_of_ble_eq_true hb)]
theorem x_lstP {env : Env} {fs : Env → Res (List D)} {ds : List D} (h1 : fs env = .ok ds) (n : Nat) (hn : ds.length = n) (hb : Nat.ble n 1000000 = true) : eLst fs env = .ok (.lst .own ds) := by
  unfold eLst
  rw [h1]
  simp only [rb_ok]
  rw [if_pos (show ds.length ≤ bigL from by rw [hn]; exact Nat.le_of_ble_eq_true hb)]
theorem x_consP {env : Env} {f : Env → Res D} {fs : Env → Res (List D)} {a : D} {as : List D} (h1 : f env = .ok a) (h2 : fs env = .ok as) : lCons f fs env = .ok (a :: as) := by
  unfold lCons
  rw [h1, h2]
  rfl
theorem x_callP {env : Env} {fs : Env → Res (List D)} {Φ : List D → Res D} {dd as bs : List D} (h1 : fs env = .ok as) (h2 : as ++ dd = bs) : eCall Φ dd fs env = callD Φ bs := by
  unfold eCall
  rw [h1]
  simp only [rb_ok]
  rw [h2]
section
variable {q : D → Res D} {u v w : Env → SR} {env : Env} {f g : Env → Res D} {fx gx : Res D} {i j : Nat} {x : D}
theorem f_set {k : D → Res D} {en : D → Env} (hf : f env = fx) (he : ∀ a, env.set i (some a) = en a) (hk : ∀ a, RF (w (en a)) (k a)) : RF (sSeq (sSet i f) w env) ((fx.bind chk).bind k) := r_set rl_F hf (fun a => (he a).symm ▸ hk a)
theorem b_set {σ : Type} {Γ : σ → Env} {fg : List Nat} {k : D → Res (Fo σ)} {en : D → Env} (hf : f env = fx) (he : ∀ a, env.set i (some a) = en a) (hk : ∀ a, RB Γ fg (w (en a)) (k a)) : RB Γ fg (sSeq (sSet i f) w env) ((fx.bind chk).bind k) := r_set rl_B hf (fun a => (he a).symm ▸ hk a)
theorem f_setV {m : Res D} {en : Env} (hf : f env = .ok x) (hx : noT x = true) (he : env.set i (some x) = en) (hk : RF (w en) m) : RF (sSeq (sSet i f) w env) m := r_setV hf hx (he.symm ▸ hk)
theorem b_setV {σ : Type} {Γ : σ → Env} {fg : List Nat} {m : Res (Fo σ)} {en : Env} (hf : f env = .ok x) (hx : noT x = true) (he : env.set i (some x) = en) (hk : RB Γ fg (w en) m) : RB Γ fg (sSeq (sSet i f) w env) m := r_setV hf hx (he.symm ▸ hk)
theorem f_asg {α : Type} {s : TgF} {tx : D → Res α} {e' en : α → Env} {k : α → Res D} (hf : f env = fx) (hs : ∀ d, s d env = (tx d).bind fun a => .ok (e' a)) (hn : ∀ d x, tx d ≠ .exc x) (he : ∀ a, e' a = en a) (hk : ∀ a, RF (w (en a)) (k a)) : RF (sSeq (sAsg f s) w env) ((fx.bind tx).bind k) := r_asg rl_F hf hs hn (fun a => (he a).symm ▸ hk a)
theorem b_asg {σ : Type} {Γ : σ → Env} {fg : List Nat} {α : Type} {s : TgF} {tx : D → Res α} {e' en : α → Env} {k : α → Res (Fo σ)} (hf : f env = fx) (hs : ∀ d, s d env = (tx d).bind fun a => .ok (e' a)) (hn : ∀ d x, tx d ≠ .exc x) (he : ∀ a, e' a = en a) (hk : ∀ a, RB Γ fg (w (en a)) (k a)) : RB Γ fg (sSeq (sAsg f s) w env) ((fx.bind tx).bind k) := r_asg rl_B hf hs hn (fun a => (he a).symm ▸ hk a)
theorem f_app {k : D → Res D} {en : D → Env} (hx : env[i]? = some (some x)) (hf : f env = fx) (he : ∀ a, env.set i (some a) = en a) (hk : ∀ a, RF (w (en a)) (k a)) : RF (sSeq (sApp i f) w env) ((appV x fx).bind k) := r_app rl_F hx hf (fun a => (he a).symm ▸ hk a)
theorem b_app {σ : Type} {Γ : σ → Env} {fg : List Nat} {k : D → Res (Fo σ)} {en : D → Env} (hx : env[i]? = some (some x)) (hf : f env = fx) (he : ∀ a, env.set i (some a) = en a) (hk : ∀ a, RB Γ fg (w (en a)) (k a)) : RB Γ fg (sSeq (sApp i f) w env) ((appV x fx).bind k) := r_app rl_B hx hf (fun a => (he a).symm ▸ hk a)
theorem b_ext {σ : Type} {Γ : σ → Env} {fg : List Nat} {k : D → Res (Fo σ)} {en : D → Env} (hx : env[i]? = some (some x)) (hf : f env = fx) (he : ∀ a, env.set i (some a) = en a) (hk : ∀ a, RB Γ fg (w (en a)) (k a)) : RB Γ fg (sSeq (sExt i f) w env) ((extV x fx).bind k) := r_ext rl_B hx hf (fun a => (he a).symm ▸ hk a)
theorem f_par {fs : Env → Res (List D)} {as : Res (List D)} {k : D × D → Res D} {en : D × D → Env} (hf : fs env = as) (he : ∀ a : D × D, (env.set i (some a.1)).set j (some a.2) = en a) (hk : ∀ a : D × D, RF (w (en a)) (k a)) : RF (sSeq (sPar i j fs) w env) ((as.bind parV).bind k) := r_par rl_F hf (fun a => (he a).symm ▸ hk a)
theorem f_ret (hf : f env = fx) : RF (sSeq (sRet f) w env) ((fx.bind chk).bind okR) := r_ret rl_F hf
theorem f_retC (hf : f env = .ok x) (hx : noT x = true) : RF (sSeq (sRet f) w env) (okR x) := r_retC rl_F hf hx
theorem b_retC {σ : Type} {Γ : σ → Env} {fg : List Nat} (hf : f env = .ok x) (hx : noT x = true) : RB Γ fg (sSeq (sRet f) w env) (rtR x) := r_retC rl_B hf hx
theorem f_retV (hx : env[i]? = some (some x)) : RF (sSeq (sRetV i) w env) (okR x) := r_retV rl_F hx
theorem b_retV {σ : Type} {Γ : σ → Env} {fg : List Nat} (hx : env[i]? = some (some x)) : RB Γ fg (sSeq (sRetV i) w env) (rtR x) := r_retV rl_B hx
theorem f_if {t : Env → Res Bool} {tx : Res Bool} {a b : Res D} (ht : t env = tx) (h1 : RF (sSeq u w env) a) (h2 : RF (sSeq v w env) b) : RF (sSeq (sIf t u v) w env) (ifR tx a b) := r_if rl_F ht h1 h2
theorem b_if {σ : Type} {Γ : σ → Env} {fg : List Nat} {t : Env → Res Bool} {tx : Res Bool} {a b : Res (Fo σ)} (ht : t env = tx) (h1 : RB Γ fg (sSeq u w env) a) (h2 : RB Γ fg (sSeq v w env) b) : RB Γ fg (sSeq (sIf t u v) w env) (ifR tx a b) := r_if rl_B ht h1 h2
theorem f_nil {m : Res D} (h : RF (w env) m) : RF (sSeq sNil w env) m := r_nil h
theorem b_nil {σ : Type} {Γ : σ → Env} {fg : List Nat} {m : Res (Fo σ)} (h : RB Γ fg (w env) m) : RB Γ fg (sSeq sNil w env) m := r_nil h
theorem f_frz {m : Res D} {en : Env} (he : freezeE i env = en) (h : RF (sSeq u w en) m) : RF (sSeq (sFrz i u) w env) m := r_frz (he.symm ▸ h)
theorem b_frz {σ : Type} {Γ : σ → Env} {fg : List Nat} {m : Res (Fo σ)} {en : Env} (he : freezeE i env = en) (h : RB Γ fg (sSeq u w en) m) : RB Γ fg (sSeq (sFrz i u) w env) m := r_frz (he.symm ▸ h)
theorem f_assoc {m : Res D} (h : RF (sSeq u (sSeq v w) env) m) : RF (sSeq (sSeq u v) w env) m := r_assoc h
theorem b_assoc {σ : Type} {Γ : σ → Env} {fg : List Nat} {m : Res (Fo σ)} (h : RB Γ fg (sSeq u (sSeq v w) env) m) : RB Γ fg (sSeq (sSeq u v) w env) m := r_assoc h
theorem f_last {m : Res D} (h : RF (sSeq u sNil env) m) : RF (u env) m := r_last h
theorem b_last {σ : Type} {Γ : σ → Env} {fg : List Nat} {m : Res (Fo σ)} (h : RB Γ fg (sSeq u sNil env) m) : RB Γ fg (u env) m := r_last h
theorem f_for {τ : Type} (Δ : τ → Env) {hg : List Nat} {s : TgF} {step : D → τ → Res (Fo τ)} {it : Env → Res (List D)} {ix : Res (List D)} {s0 : τ} {k : τ → Res D} (hi : it env = ix) (h0 : forget hg env = Δ s0) (hb : ∀ d st, RB Δ hg (tgt s u d (Δ st)) (step d st)) (hk : ∀ st, RF (w (Δ st)) (k st)) : RF (sSeq (sFor (yLift it) s u hg) w env) (ix.bind fun items => afterV (forV step items s0) k okR) := r_for rl_F Δ hi h0 hb hk
theorem b_for {σ : Type} {Γ : σ → Env} {fg : List Nat} {τ : Type} (Δ : τ → Env) {hg : List Nat} {s : TgF} {step : D → τ → Res (Fo τ)} {it : Env → Res (List D)} {ix : Res (List D)} {s0 : τ} {k : τ → Res (Fo σ)} (hi : it env = ix) (h0 : forget hg env = Δ s0) (hb : ∀ d st, RB Δ hg (tgt s u d (Δ st)) (step d st)) (hk : ∀ st, RB Γ fg (w (Δ st)) (k st)) : RB Γ fg (sSeq (sFor (yLift it) s u hg) w env) (ix.bind fun items => afterV (forV step items s0) k rtR) := r_for rl_B Δ hi h0 hb hk
theorem b_tgt {σ α : Type} {Γ : σ → Env} {fg : List Nat} {s : TgF} {d : D} {tx : Res α} {e' en : α → Env} {k : α → Res (Fo σ)} (hs : s d env = tx.bind fun a => .ok (e' a)) (hx : ∀ x, tx ≠ .exc x) (he : ∀ a, e' a = en a) (hk : ∀ a, RB Γ fg (u (en a)) (k a)) : RB Γ fg (tgt s u d env) (tx.bind k) := r_tgt hs hx (fun a => (he a).symm ▸ hk a)
end
end PV
end
section
namespace PV
open PySem PySem.Spec PyProof.Rows L2
def inCls (s : Stmt) (k : Nat) : Stmt := match s with
  | .ClassDef _ _ _ b _ _ _ _ _ _ _ => b.getD k (.Pass ⟨0, 0, 0, 0⟩)
  | _ => .Pass ⟨0, 0, 0, 0⟩
def initT (K : PySem.W.Frag) : List (Str × Nat) → TS
  | [] => fun D σ H => D.nx σ H
  | (f, i) :: l => fun D σ H => sFld K (fun σ H Q => ∃ v, σ[0]? = some (some v) ∧ Q v H) (fun σ H Q => ∃ v, σ[i]? = some (some v) ∧ Q v H) f { D with nx := initT K l D } σ H
theorem init_nil {X : Cx} : PSs X [] (initT X.K []) := PSs.imp pss_nil fun D σ H h => h
theorem init_cons {X : Cx} {f self x : Str} {i : Nat} {l : List (Str × Nat)} {sts : List Stmt} {q1 q2 q3 q4 : Pos} (h0 : X.N[0]? = some self) (hi : X.N[i]? = some x) (v0 : Vis X.env.scope self) (vi : Vis X.env.scope x) (d0 : (self == ("__debug__" : Str)) = false) (c0 : (self == ("__classdict__" : Str)) = false)
    (di : (x == ("__debug__" : Str)) = false) (ci : (x == ("__classdict__" : Str)) = false) (hs : swapsWith (.Name x q3) (some (.Attribute (.Name self q1) f q2)) q4.line X.env = pure false) (h : PSs X sts (initT X.K l)) :
    PSs X (.Assign [.Attribute (.Name self q1) f q2] (.Name x q3) q4 :: sts) (initT X.K ((f, i) :: l)) :=
  PSs.imp (pss_cons (ps_fld (pe_var (i := 0) h0 v0 d0 c0) (pe_var (i := i) hi vi di ci) hs) h) fun D σ H z => by
    obtain ⟨v, h1, w, h2, z⟩ := z
    exact ⟨v, h1, w, h2, z⟩
theorem init_read {K : PySem.W.Frag} {C dx x : Addr} {D : Ends} {σ : L2.St} (h0 : σ[0]? = some (some (.ref x))) (hc : Cls K C) : ∀ (l : List (Str × Nat)) (fs : List (Str × V)) (vs : List V) (H : Hp), l ≠ [] →
    H x = some (.ins C dx fs) → l.length = vs.length → (∀ (j : Nat) (p : Str × Nat) (v : V), l[j]? = some p → vs[j]? = some v → σ[p.2]? = some (some v)) → (∀ p ∈ l, NoAttr K C p.1) → fs.length + l.length ≤ 900 →
    D.nx σ (upd H x (.ins C dx (((l.map (·.1)).zip vs).foldl (fun fs p => putF p.1 p.2 fs) fs))) → initT K l D σ H
  | (f, i) :: l, fs, v :: vs, H, _, hx, hl, hv, hn, hz, q => by
    have e0 : σ[i]? = some (some v) := hv 0 (f, i) v rfl rfl
    refine ⟨v, e0, .ref x, h0, x, C, dx, fs, rfl, hx, hc, hn (f, i) List.mem_cons_self, by omega, ?_⟩
    cases l with
    | nil =>
      have : vs = [] := List.eq_nil_of_length_eq_zero (by simpa using hl.symm)
      subst this
      exact q
    | cons p l =>
      have hlen : (putF f v fs).length ≤ fs.length + 1 := by
        have : ∀ gs : List (Str × V), (putF f v gs).length ≤ gs.length + 1 := by
          intro gs
          induction gs with
          | nil => simp [putF]
          | cons g gs ih => rw [putF]; split <;> simp <;> omega
        exact this fs
      refine init_read h0 hc (p :: l) (putF f v fs) vs _ (by simp) upd_same (by simpa using hl) (fun j p v h1 h2 => hv (j + 1) p v (by simpa using h1) (by simpa using h2)) (fun p hp => hn p (List.mem_cons_of_mem _ hp)) (by simp at hz ⊢; omega) ?_
      rw [upd_upd]
      simpa using q
theorem put_new (f : Str) (v : V) : ∀ fs : List (Str × V), (∀ p ∈ fs, p.1 ≠ f) → putF f v fs = fs ++ [(f, v)]
  | [], _ => rfl
  | (g, x) :: r, h => by
    rw [putF, if_neg (h (g, x) List.mem_cons_self), put_new f v r fun p hp => h p (List.mem_cons_of_mem _ hp)]
    rfl
theorem put_zip : ∀ (ns : List Str) (vs : List V) (fs : List (Str × V)), ns.length = vs.length → ns.Nodup → (∀ n ∈ ns, ∀ p ∈ fs, p.1 ≠ n) → (ns.zip vs).foldl (fun fs p => putF p.1 p.2 fs) fs = fs ++ ns.zip vs
  | [], vs, fs, _, _, _ => by simp
  | n :: ns, [], fs, h, _, _ => by simp at h
  | n :: ns, v :: vs, fs, h, nd, hf => by
    rw [List.nodup_cons] at nd
    rw [List.zip_cons_cons, List.foldl_cons, put_new n v fs (hf n List.mem_cons_self), put_zip ns vs _ (by simpa using h) nd.2, List.append_assoc]
    · rfl
    · intro m hm p hp
      rcases List.mem_append.mp hp with hp | hp
      · exact hf m (List.mem_cons_of_mem _ hm) p hp
      · rw [List.mem_singleton.mp hp]
        rintro rfl
        exact nd.1 hm
def SpInit (C : Addr) (ns : List Str) : Sp := fun vs H Q _ => ∃ (x dx : Addr) (us : List V), vs = .ref x :: us ∧ us.length = ns.length ∧ H x = some (.ins C dx []) ∧ Q .non (upd H x (.ins C dx (ns.zip us)))
section
variable {P : Program} {w : World} {K : PySem.W.Frag} {mg : Str → Option Value} {base : Heap}
theorem init_ok {qual : Str} {st : Stmt} {f : Addr} {fd : FuncData} {N ps : List Str} {dvs : List V} {kws : List (Str × V)} {C : Addr} {l : List (Str × Nat)} (F : FunD K "__init__" qual (defArgs st) (defBody st) (defScope st) dvs kws f fd) (S : FnScope N ps (defScope st))
    (hc : Cls K C) (hn : ∀ p ∈ l, NoAttr K C p.1) (hl : ps.length = l.length + 1) (hne : l ≠ []) (hz : l.length ≤ 900) (nd : (l.map (·.1)).Nodup) (hi : ∀ (j : Nat) (p : Str × Nat), l[j]? = some p → p.2 = j + 1)
    (hb : ∀ (cdv : Value) (A : Around) (outer : List PySem.Env) (s : Shared) (H : Hp) (E : XK), PSs (cxOf (L2.CX P w) P w K mg base N qual (defScope st) f cdv A outer s H E) (defBody st) (initT K l)) :
    FnOk P w K mg base (L2.CX P w) 1 f fd ps (SpInit C (l.map (·.1))) := by
  refine F.ok (k := 0) S (fun vs H Q E h => ?_) (fun cdv A outer s H vs Q E _ h => ?_)
  · obtain ⟨x, dx, us, rfl, hu, _⟩ := h
    rw [List.length_map] at hu
    rw [hl, List.length_cons, hu]
  · obtain ⟨x, dx, us, rfl, hu, hx, q⟩ := h
    rw [List.length_map] at hu
    refine ⟨_, hb cdv A outer s H E, init_read (x := x) (dx := dx) (by rfl) hc l [] us H hne hx hu.symm (fun j p v h1 h2 => ?_) hn (by simpa using hz) ?_⟩
    · rw [hi j p h1]
      unfold L2.start
      rw [List.map_cons, List.cons_append, List.getElem?_cons_succ, List.getElem?_append_left (by
        have := (List.getElem?_eq_some_iff.mp h2).1
        simpa using this), List.getElem?_map, h2]
      rfl
    · rw [put_zip _ _ _ (by rw [List.length_map, hu]) nd (by simp), List.nil_append]
      exact q
end
structure MkC (P : Program) (w : World) (K : PySem.W.Frag) (mg : Str → Option Value) (base : Heap) (κ : Kap K) (x : Str) (ns : List Str) : Prop where
  ex : ∃ (f : Addr) (fd : FuncData) (ps : List Str), Mk K (κ.cls x) f ∧ FnOk P w K mg base (L2.CX P w) 1 f fd ps (SpInit (κ.cls x) ns) ∧ mg x = some (.ref (κ.cls x)) ∧ Binds K fd ps []
def dMake (x : Str) (ns : List Str) (ds : List D) : Res D := if ds.length = ns.length then .ok (.nd .own (.ins x ns) ds) else .stuck
section
variable {X : Cx} {c : Cfg X.K} {E : XK} {e : Expr} {es : List Expr} {pos p : Pos} {fs : Env → Res (List D)} {x : Str} {ns : List Str} {k : Nat}
theorem ev_make (M : MkC X.prog X.w X.K X.mg X.base c.κ x ns) (hr : Room 2 X.A) (hg : Gl X x) (hx : Passes (L2.CX X.prog X.w) X E)
    (ha : EL X c E (e :: es) fs) (hdb : (x == ("__debug__" : Str)) = false := by decide) (he : starEach (e :: es) X.env = (false, eval e X.env) :: starEach es X.env := by rfl) (hpl : (backTo pos (starEach es X.env)).any (·.1) = false := by rfl) :
    EV X c E (.Call (.Name x p) (e :: es) [] pos) (eC_ (dMake x ns) fs) := by
  obtain ⟨f, fd, ps, mk, F, hm, hb⟩ := M.ex
  refine PE.imp (pe_make mk F hr hg hm hb .nil hx ha hdb he hpl) fun σ H Q q => ?_
  refine glueL (k := dMake x ns) q fun F1 H1 ds vs fp hh fh r nd fr ok ex st => ?_
  intro a dx h1 h2 hne
  unfold dMake at ok st
  by_cases hl : ds.length = ns.length
  case neg => exact absurd (if_neg hl) st
  rw [if_pos hl] at ok
  rw [List.append_nil]
  refine ⟨a, dx, vs, rfl, by rw [← r.length]; exact hl, upd_same, rfl, ?_⟩
  rw [upd_upd]
  have x1 : Ext F1 H1 F1 (upd H1 dx (.own a)) := .newO fh h2
  have h1' : upd H1 dx (.own a) a = none := by rw [upd_ne (Ne.symm hne)]; exact h1
  have x2 : Ext F1 (upd H1 dx (.own a)) F1 (upd (upd H1 dx (.own a)) a (.ins (c.κ.cls x) dx (ns.zip vs))) := .newO x1.fh h1'
  have xx := x1.trans x2
  refine ok _ _ _ _ (a :: fp) rfl xx (.ndO upd_same ⟨by rw [← r.length]; exact hl.symm, dx, rfl⟩ (r.ext xx)) (List.nodup_cons.mpr ⟨fun m => ?_, nd⟩) fun b m => ?_
  · obtain ⟨o, k1, _⟩ := RepL.own _ _ _ _ _ _ r a m
    rw [h1] at k1
    cases k1
  · rcases List.mem_cons.mp m with rfl | m
    · exact ⟨hh.free h1, fh.free h1⟩
    · exact fr b m
end
@[simp] theorem dMake_e {x : Str} {ns : List Str} {ds : List D} : dMake x ns ds = if ds.length = ns.length then .ok (.nd .own (.ins x ns) ds) else .stuck := rfl
section
variable {σ τ α β γ : Type}
@[simp] theorem chk_e {d : D} : chk d = if noT d = true then .ok d else .stuck := rfl
@[simp] theorem okR_e {d : D} : okR d = .ok d := rfl
@[simp] theorem rtR_e {d : D} : (rtR d : Res (Fo σ)) = .ok (.rt d) := rfl
@[simp] theorem ifR_e {c : Bool} {a b : Res β} : ifR (.ok c) a b = if c = true then a else b := rfl
@[simp] theorem ifR_stuck {a b : Res β} : ifR .stuck a b = .stuck := rfl
@[simp] theorem afterV_nx {s : σ} {k : σ → Res β} {q : D → Res β} : afterV (.ok (.nx s)) k q = k s := rfl
@[simp] theorem afterV_rt {d : D} {k : σ → Res β} {q : D → Res β} : afterV (.ok (.rt d)) k q = q d := rfl
@[simp] theorem appV_e {ds : List D} {d : D} : appV (.nd .own .lst ds) (.ok d) = if noT d = true ∧ ds.length < bigL then .ok (.lst .own (ds ++ [d])) else .stuck := rfl
@[simp] theorem extV_e {ds es : List D} : extV (.nd .own .lst ds) (.ok (.nd .own .lst es)) = if noTL es = true ∧ ds.length + es.length ≤ bigL then .ok (.lst .own (ds ++ es)) else .stuck := rfl
@[simp] theorem up2_e {a b : D} : up2 (.tup [a, b]) = if (noT a && noT b) = true then .ok (a, b) else .stuck := rfl
@[simp] theorem up2_l {a b : D} {x : Tag} : up2 (.nd x .lst [a, b]) = if (noT a && noT b) = true then .ok (a, b) else .stuck := rfl
@[simp] theorem up4_e {a b c e : D} : up4 (.tup [a, b, c, e]) = if (noT a && (noT b && (noT c && noT e))) = true then .ok (a, b, c, e) else .stuck := rfl
@[simp] theorem up4_l {a b c e : D} {x : Tag} : up4 (.nd x .lst [a, b, c, e]) = if (noT a && (noT b && (noT c && noT e))) = true then .ok (a, b, c, e) else .stuck := rfl
@[simp] theorem ub2_e {a b : D} : ub2 (.tup [a, b]) = .ok (a, b) := rfl
@[simp] theorem ub3_e {a b c : D} : ub3 (.tup [a, b, c]) = .ok (a, b, c) := rfl
@[simp] theorem lstB_e {ys : List D} : lstB ys = if ys.length ≤ bigL then .ok (.lst .own ys) else .stuck := rfl
@[simp] theorem tupA_e {ys : List D} : tupA ys = if ys.length ≤ bigL then .ok (.tup ys) else .stuck := rfl
@[simp] theorem andV_e {b : Bool} {r : Res D} : andV (.ok (.bl b)) r = if b = true then r else .ok (.bl false) := rfl
@[simp] theorem cntV_e {t : Tag} {ds : List D} {y : D} : cntV (.ok (.nd t .lst ds)) (.ok y) = dCnt (.nd t .lst ds) y := rfl
@[simp] theorem parV_e {x y : D} : parV [x, y] = if (noT x && noT y) = true then .ok (x, y) else .stuck := rfl
@[simp] theorem forV_nil {f : D → σ → Res (Fo σ)} {s : σ} : forV f [] s = .ok (.nx s) := rfl
theorem forV_cons {f : D → σ → Res (Fo σ)} {d : D} {ds : List D} {s : σ} : forV f (d :: ds) s = (f d s).bind fun r => match r with
    | .nx s' => forV f ds s'
    | .bk s' => .ok (.nx s')
    | .rt d => .ok (.rt d) := rfl
theorem forV_fold {f : D → σ → Res (Fo σ)} {ei : α → D} (enc : β → σ) (step : β → α → β) (ok : β → Prop) : ∀ (xs : List α) (st : β), ok st →
    (∀ x ∈ xs, ∀ st, ok st → f (ei x) (enc st) = .ok (.nx (enc (step st x))) ∧ ok (step st x)) →
    forV f (xs.map ei) (enc st) = .ok (.nx (enc (xs.foldl step st))) ∧ ok (xs.foldl step st)
  | [], st, o, _ => ⟨rfl, o⟩
  | x :: xs, st, o, h => by
    obtain ⟨h1, h2⟩ := h x (List.mem_cons_self ..) st o
    rw [List.map_cons, forV_cons, h1]
    exact forV_fold enc step ok xs _ h2 fun y hy => h y (List.mem_cons_of_mem _ hy)
theorem forV_inv {f : D → σ → Res (Fo σ)} {ei : α → D} (I : List α → σ → Prop) (xs : List α) {s : σ} (h0 : I [] s)
    (h : ∀ pre x post s, xs = pre ++ x :: post → I pre s → ∃ s', f (ei x) s = .ok (.nx s') ∧ I (pre ++ [x]) s') : ∃ s', forV f (xs.map ei) s = .ok (.nx s') ∧ I xs s' := by
  have key : ∀ (post pre : List α) (s : σ), xs = pre ++ post → I pre s → ∃ s', forV f (post.map ei) s = .ok (.nx s') ∧ I xs s' := by
    intro post
    induction post with
    | nil => intro pre s e hi; rw [List.append_nil] at e; subst e; exact ⟨s, rfl, hi⟩
    | cons x post ih =>
      intro pre s e hi
      obtain ⟨s1, h1, h2⟩ := h pre x post s e hi
      obtain ⟨s2, h3, h4⟩ := ih (pre ++ [x]) s1 (by rw [e]; simp) h2
      refine ⟨s2, ?_, h4⟩
      rw [List.map_cons, forV_cons, h1]
      exact h3
  exact key xs [] s rfl h0
theorem forV_gather {f : D → D → Res (Fo D)} {ei : α → D} (e : γ → D) (g : α → List γ) (n : Nat) : ∀ (xs : List α) (acc : List γ), acc.length + xs.length ≤ n →
    (∀ x ∈ xs, ∀ acc : List γ, acc.length < n → f (ei x) (.lst .own (acc.map e)) = .ok (.nx (.lst .own ((acc ++ g x).map e)))) → (∀ x ∈ xs, (g x).length ≤ 1) →
    forV f (xs.map ei) (.lst .own (acc.map e)) = .ok (.nx (.lst .own ((acc ++ xs.flatMap g).map e)))
  | [], acc, _, _, _ => by simp
  | x :: xs, acc, hl, h, h1 => by
    rw [List.length_cons] at hl
    have q := h1 x (List.mem_cons_self ..)
    rw [List.map_cons, forV_cons, h x (List.mem_cons_self ..) acc (by omega)]
    simp only [rb_ok]
    rw [forV_gather e g n xs (acc ++ g x) (by rw [List.length_append]; omega) (fun y hy => h y (List.mem_cons_of_mem _ hy)) (fun y hy => h1 y (List.mem_cons_of_mem _ hy)), List.flatMap_cons, List.append_assoc]
theorem forV_some {f : D → σ → Res (Fo σ)} {ei : α → D} {s : σ} (h : α → Option D) : ∀ xs : List α, (∀ x ∈ xs, f (ei x) s = match h x with
      | some d => .ok (.rt d)
      | none => .ok (.nx s)) → forV f (xs.map ei) s = match xs.findSome? h with
      | some d => .ok (.rt d)
      | none => .ok (.nx s)
  | [], _ => rfl
  | x :: xs, q => by
    have q1 := q x (List.mem_cons_self ..)
    rw [List.map_cons, forV_cons, List.findSome?_cons, q1]
    cases hx : h x with
    | some d => rfl
    | none => exact forV_some h xs fun y hy => q y (List.mem_cons_of_mem _ hy)
theorem forV_same {f : D → σ → Res (Fo σ)} {ei : α → D} {s : σ} : ∀ xs : List α, (∀ x ∈ xs, f (ei x) s = .ok (.nx s)) → forV f (xs.map ei) s = .ok (.nx s)
  | [], _ => rfl
  | x :: xs, q => by
    rw [List.map_cons, forV_cons, q x (List.mem_cons_self ..)]
    exact forV_same xs fun y hy => q y (List.mem_cons_of_mem _ hy)
theorem lcV_eq {f : D → Res (Option D)} {ei : α → D} (e : γ → D) (g : α → Option γ) : ∀ xs : List α, (∀ x ∈ xs, f (ei x) = .ok ((g x).map e)) → lcV f (xs.map ei) = .ok ((xs.filterMap g).map e)
  | [], _ => rfl
  | x :: xs, h => by
    have ih := lcV_eq e g xs fun y hy => h y (List.mem_cons_of_mem _ hy)
    rw [List.map_cons, lcV, h x (List.mem_cons_self ..)]
    cases hx : g x with
    | none => rw [List.filterMap_cons_none hx]; exact ih
    | some y => rw [List.filterMap_cons_some hx]; simp only [Option.map_some, ih, rb_ok, List.map_cons]
theorem lcV_map {f : D → Res (Option D)} {ei : α → D} (e : γ → D) (g : α → γ) (xs : List α) (h : ∀ x ∈ xs, f (ei x) = .ok (some (e (g x)))) : lcV f (xs.map ei) = .ok ((xs.map g).map e) := by
  rw [lcV_eq e (fun x => some (g x)) xs h]
  simp
theorem lcV_filter {f : D → Res (Option D)} {ei : α → D} (p : α → Bool) (xs : List α) (h : ∀ x ∈ xs, f (ei x) = .ok (if p x = true then some (ei x) else none)) : lcV f (xs.map ei) = .ok ((xs.filter p).map ei) := by
  rw [lcV_eq ei (fun x => if p x = true then some x else none) xs (fun x hx => by rw [h x hx]; split <;> rfl)]
  congr 2
  induction xs with
  | nil => rfl
  | cons x xs ih =>
    have ih := ih fun y hy => h y (List.mem_cons_of_mem _ hy)
    by_cases q : p x = true
    · rw [List.filter_cons_of_pos q, List.filterMap_cons_some (b := x) (by rw [if_pos q]), ih]
    · rw [List.filter_cons_of_neg q, List.filterMap_cons_none (by rw [if_neg q]), ih]
end
@[simp] theorem itemsOf_frzT {ds : List D} : itemsOf true (.nd .frz .lst ds) = if noTL ds = true then .ok (fzL ds) else .stuck := by rw [itemsOf_lstT, noT_frz]
@[simp] theorem itemsOf_ownT {ds : List D} : itemsOf true (.nd .own .lst ds) = if noTL ds = true then .ok (fzL ds) else .stuck := by rw [itemsOf_lstT, noT_own]
section
variable {α : Type}
theorem atI_lit {xs : List α} {k : Nat} {v : α} (h : xs[k]? = some v) : atI xs (k : Int) = some v := atI_nat h
@[simp] theorem at_0 {a : α} {xs : List α} : atI (a :: xs) (0 : Int) = some a := atI_lit (k := 0) rfl
@[simp] theorem at_1 {a b : α} {xs : List α} : atI (a :: b :: xs) (1 : Int) = some b := atI_lit (k := 1) rfl
@[simp] theorem at_2 {a b c : α} {xs : List α} : atI (a :: b :: c :: xs) (2 : Int) = some c := atI_lit (k := 2) rfl
@[simp] theorem at_3 {a b c d : α} {xs : List α} : atI (a :: b :: c :: d :: xs) (3 : Int) = some d := atI_lit (k := 3) rfl
@[simp] theorem at_4 {a b c d e : α} {xs : List α} : atI (a :: b :: c :: d :: e :: xs) (4 : Int) = some e := atI_lit (k := 4) rfl
@[simp] theorem at_5 {a b c d e f : α} {xs : List α} : atI (a :: b :: c :: d :: e :: f :: xs) (5 : Int) = some f := atI_lit (k := 5) rfl
@[simp] theorem at_6 {a b c d e f g : α} {xs : List α} : atI (a :: b :: c :: d :: e :: f :: g :: xs) (6 : Int) = some g := atI_lit (k := 6) rfl
@[simp] theorem at_7 {a b c d e f g h : α} {xs : List α} : atI (a :: b :: c :: d :: e :: f :: g :: h :: xs) (7 : Int) = some h := atI_lit (k := 7) rfl
end
@[simp] theorem rdL_append (xs ys : List D) : rdL (xs ++ ys) = rdL xs ++ rdL ys := by
  induction xs with
  | nil => rfl
  | cons x xs ih => rw [List.cons_append, rdL_cons, rdL_cons, ih, List.cons_append]
@[simp] theorem fzL_append (xs ys : List D) : fzL (xs ++ ys) = fzL xs ++ fzL ys := by
  induction xs with
  | nil => rfl
  | cons x xs ih => rw [List.cons_append, fzL_cons, fzL_cons, ih, List.cons_append]
@[simp] theorem faL_append (xs ys : List D) : faL (xs ++ ys) = faL xs ++ faL ys := by
  induction xs with
  | nil => rw [faL_nil]; rfl
  | cons x xs ih => rw [List.cons_append, faL_cons, faL_cons, ih, List.cons_append]
@[simp] theorem imOL_append (xs ys : List D) : imOL (xs ++ ys) = (imOL xs && imOL ys) := by
  rw [imOL_eq, imOL_eq, imOL_eq, List.all_append]
theorem intsD_snoc (zs : List Int) (a : Int) : zs.map D.int ++ [.int a] = (zs ++ [a]).map D.int := by simp
def minS (zs : List Int) (a : Int) : Int := (minI (zs ++ [a])).getD 0
def maxS (zs : List Int) (a : Int) : Int := (maxI (zs ++ [a])).getD 0
theorem minI_some {zs : List Int} (h : zs ≠ []) : ∃ m, minI zs = some m ∧ m ∈ zs ∧ ∀ z ∈ zs, m ≤ z := by
  cases zs with
  | nil => exact absurd rfl h
  | cons z zs =>
    obtain ⟨h1, h2, h3⟩ := foldl_min_le zs z
    refine ⟨_, rfl, ?_, fun y hy => ?_⟩
    · rcases h3 with h3 | h3
      · rw [h3]; exact List.mem_cons_self
      · exact List.mem_cons_of_mem _ h3
    · rcases List.mem_cons.mp hy with rfl | hy
      · exact h1
      · exact h2 y hy
theorem maxI_some {zs : List Int} (h : zs ≠ []) : ∃ m, maxI zs = some m ∧ m ∈ zs ∧ ∀ z ∈ zs, z ≤ m := by
  cases zs with
  | nil => exact absurd rfl h
  | cons z zs =>
    obtain ⟨h1, h2, h3⟩ := foldl_max_le zs z
    refine ⟨_, rfl, ?_, fun y hy => ?_⟩
    · rcases h3 with h3 | h3
      · rw [h3]; exact List.mem_cons_self
      · exact List.mem_cons_of_mem _ h3
    · rcases List.mem_cons.mp hy with rfl | hy
      · exact h1
      · exact h2 y hy
theorem dMin_ints {t : Tag} (zs : List Int) : dMin [.nd t .lst (zs.map D.int)] = (ofO (minI zs)).bind fun m => .ok (.int m) := by
  show (ofO (ints? (zs.map D.int))).bind _ = _
  rw [ints_map]
  rfl
theorem dMax_ints {t : Tag} (zs : List Int) : dMax [.nd t .lst (zs.map D.int)] = (ofO (maxI zs)).bind fun m => .ok (.int m) := by
  show (ofO (ints? (zs.map D.int))).bind _ = _
  rw [ints_map]
  rfl
theorem dMin_snoc {t : Tag} (zs : List Int) (a : Int) : dMin [.nd t .lst (zs.map D.int ++ [.int a])] = .ok (.int (minS zs a)) := by
  obtain ⟨m, h, _⟩ := minI_some (zs := zs ++ [a]) (by simp)
  rw [intsD_snoc, dMin_ints, h]
  unfold minS
  rw [h]
  rfl
theorem dMax_snoc {t : Tag} (zs : List Int) (a : Int) : dMax [.nd t .lst (zs.map D.int ++ [.int a])] = .ok (.int (maxS zs a)) := by
  obtain ⟨m, h, _⟩ := maxI_some (zs := zs ++ [a]) (by simp)
  rw [intsD_snoc, dMax_ints, h]
  unfold maxS
  rw [h]
  rfl
theorem sort_strs {α : Type} {t : Tag} (f : α → Str) (ls : List α) (h : ∀ w ∈ ls, PyData.strOk (f w) = true) : dSort [.nd t .lst (ls.map fun w => .str (f w))] = .ok (.lst .own ((ls.mergeSort fun a b => decide ((f a).cps.toList ≤ (f b).cps.toList)).map fun w => .str (f w))) := by
  have e : (ls.map fun w => D.str (f w)).mergeSort leD = (ls.mergeSort fun a b => decide ((f a).cps.toList ≤ (f b).cps.toList)).map fun w => .str (f w) := by
    rw [List.map_mergeSort]
    intro a _ b _
    exact (congrFun (congrFun (PySem.W.dataLe_str f) a) b).symm
  have ok : sortOk (ls.map fun w => D.str (f w)) = true := by
    unfold sortOk
    have h1 : immL (ls.map fun w => D.str (f w)) = true := by
      have : ∀ xs : List α, immL (xs.map fun w => D.str (f w)) = true := fun xs => by
        induction xs with
        | nil => rw [List.map_nil, immL]
        | cons x xs ih => rw [List.map_cons, immL, ih, imm_str]; rfl
      exact this ls
    have h2 : plL 50 (ls.map fun w => D.str (f w)) = true := by
      rw [plL_eq, List.all_eq_true]
      intro d hd
      obtain ⟨w, hw, rfl⟩ := List.mem_map.mp hd
      rw [plD]
      exact h w hw
    rw [h1, h2]
    simp only [Bool.true_and, Bool.and_eq_true, Bool.or_eq_true]
    refine ⟨?_, .inr ?_⟩
    · rw [List.all_eq_true]
      intro d hd
      rw [List.all_eq_true]
      intro d' hd'
      obtain ⟨w, hw, rfl⟩ := List.mem_map.mp hd
      obtain ⟨w', hw', rfl⟩ := List.mem_map.mp hd'
      rfl
    · rw [List.all_eq_true]
      intro d hd
      obtain ⟨w, hw, rfl⟩ := List.mem_map.mp hd
      rfl
  show (if sortOk (ls.map fun w => D.str (f w)) = true then Res.ok (D.lst .own ((ls.map fun w => D.str (f w)).mergeSort leD)) else .stuck) = _
  rw [if_pos ok, e]
theorem forV_gatherN {α γ : Type} {f : D → D → Res (Fo D)} {ei : α → D} (e : γ → D) (g : α → List γ) (n b : Nat) : ∀ (xs : List α) (acc : List γ), acc.length + b * xs.length ≤ n →
    (∀ x ∈ xs, ∀ acc : List γ, acc.length + b ≤ n → f (ei x) (.lst .own (acc.map e)) = .ok (.nx (.lst .own ((acc ++ g x).map e)))) → (∀ x ∈ xs, (g x).length ≤ b) →
    forV f (xs.map ei) (.lst .own (acc.map e)) = .ok (.nx (.lst .own ((acc ++ xs.flatMap g).map e)))
  | [], acc, _, _, _ => by simp
  | x :: xs, acc, hl, h, h1 => by
    rw [List.length_cons, Nat.mul_add] at hl
    have q := h1 x (List.mem_cons_self ..)
    rw [List.map_cons, forV_cons, h x (List.mem_cons_self ..) acc (by omega)]
    simp only [rb_ok]
    rw [forV_gatherN e g n b xs (acc ++ g x) (by rw [List.length_append]; omega) (fun y hy => h y (List.mem_cons_of_mem _ hy)) (fun y hy => h1 y (List.mem_cons_of_mem _ hy)), List.flatMap_cons, List.append_assoc]
theorem atI_neg {α : Type} {xs : List α} {v : α} (h : xs.getLast? = some v) : atI xs (-1) = some v := by
  rw [List.getLast?_eq_getElem?] at h
  unfold atI ixN
  have hl : 0 < xs.length := by
    cases xs with
    | nil => simp at h
    | cons a as => simp
  rw [if_neg (by omega), if_pos (by omega)]
  have e : ((-1 : Int) + (xs.length : Int)).toNat = xs.length - 1 := by omega
  simp only [Option.bind_some]
  first
    | (rw [e]; exact h)
    | (simpa [e] using h)
end PV
end
section
namespace PV
open PySem PySem.Spec PyProof.Rows L2 PySem.Froz
section
variable {P : Program} {w : World} {K : Type} [DecidableEq K] {knd : PySem.KeyKind P w K}
abbrev Row (K : Type) : Type := (Int × Value) × K
def RowOk (knd : PySem.KeyKind P w K) (r : Row K) : Prop := (knd.is r.2 r.1.2 = true ∧ r.1.1 = knd.hash r.2) ∧ r.1.2.scannable = true
def SetT (knd : PySem.KeyKind P w K) (h : Heap) (a : Addr) (T : List (Row K)) : Prop :=
  ∃ D : SD, h.get? a = some (sObj "set" D) ∧ D.1.toList.Perm (T.map Prod.fst) ∧ (∀ r ∈ T, RowOk knd r) ∧ (T.map Prod.snd).Nodup ∧ D.1.size < scanBound ∧ D.2.2.fits D.1.size = true ∧ Ris D.2.2.place.toList ∧ (w.params.followText "set-order" = true ∨ D.2.2.led = true)
theorem SetT.size {h : Heap} {a : Addr} {T : List (Row K)} {D : SD} (pm : D.1.toList.Perm (T.map Prod.fst)) : D.1.size = T.length := by
  rw [← Array.length_toList, pm.length_eq, List.length_map]
theorem SetT.stays {h h' : Heap} {a : Addr} {T : List (Row K)} (S : SetT knd h a T) (k : ∀ o, h.get? a = some o → h'.get? a = some o) : SetT knd h' a T := by
  obtain ⟨D, ho, r⟩ := S
  exact ⟨D, k _ ho, r⟩
theorem rows_elems {T : List (Row K)} {es : List (Int × Value)} (pm : es.Perm (T.map Prod.fst)) (ok : ∀ r ∈ T, RowOk knd r) : ElemsOf knd es := by
  intro e he
  obtain ⟨r, hr, rfl⟩ := List.mem_map.mp (pm.mem_iff.mp he)
  exact ⟨⟨r.2, (ok r hr).1⟩, (ok r hr).2⟩
theorem tail_keeps (ep : Nat) (es : Array (Int × Value)) (t : SetTable) (b : Bool) (hf : t.fits es.size = true) (hr : Ris t.place.toList) :
    (tailTx ep es t b).1.toList.Perm es.toList ∧ (tailTx ep es t b).2.2.fits (tailTx ep es t b).1.size = true ∧ Ris (tailTx ep es t b).2.2.place.toList ∧ (tailTx ep es t b).2.2.led = t.led := by
  unfold tailTx
  split
  · exact ⟨relayAll_perm t es _, relayAll_fits t es _, relayAll_ris t es _, relayAll_led t es _⟩
  · exact ⟨List.Perm.refl _, hf, hr, rfl⟩
variable {A : Around} {E : Value → Shared → Prop} {s : Shared}
theorem sett_add {a : Addr} {T : List (Row K)} {x : Value} {k : K} {Q : Bool → Shared → Prop} (S : SetT knd s.heap a T) (hx : knd.is k x = true) (sc : x.scannable = true) (room : T.length + 1 < scanBound)
    (hQ : ∀ b h' T', Heap.SameBut a s.heap h' → SetT knd h' a T' → (∀ j, j ∈ T'.map Prod.snd ↔ j ∈ T.map Prod.snd ∨ j = k) → T'.length ≤ T.length + 1 → Q b { s with heap := h' }) :
    wpAny (model P w) A (setAddHashed a x (knd.hash k)) Q E s := by
  have S0 := S
  obtain ⟨⟨es, ep, t⟩, ho, pm, ok, nd, hb, hf, hr, hl⟩ := S
  have el := rows_elems pm ok
  have sz : es.size = T.length := SetT.size (h := s.heap) (a := a) (D := (es, ep, t)) pm
  have da : (sObj "set" (es, ep, t)).data = .set es ep t := rfl
  unfold setAddHashed setAddHashedIn
  apply wpAny_holding
  apply wpAny_bind
  apply wpAny_setState_of ho da hf
  dsimp only
  rw [if_pos (byScan_of (knd := knd) sc hb el)]
  unfold setAddByScan
  apply wpAny_bind
  apply wpAny_bind
  apply wpAny_rule
  apply wpAny_bind
  apply wpAny_setScan_of (knd := knd) (k := k) hx ho da hf el
  have gw : ∀ (b : Bool) {s₁ : Shared} {Q' : Unit → Shared → Prop}, Q' () s₁ → wpAny (model P w) A (match b with | true => rule "set.scan.the-table-gave-way" | false => pure ()) Q' E s₁ := by
    intro b s₁ Q' q
    cases b
    · exact wpAny_pure q
    · exact wpAny_rule q
  cases fi : es.toList.findIdx? (fun e => knd.is k e.2) with
  | some j =>
    obtain ⟨hj, pj, _⟩ := List.findIdx?_eq_some_iff_getElem.mp fi
    obtain ⟨r, hrT, er⟩ := List.mem_map.mp (pm.mem_iff.mp (List.getElem_mem hj))
    have ek : r.2 = k := by
      refine knd.inj r.1.2 r.2 k (ok r hrT).1.1 ?_
      rw [er]
      exact pj
    refine wpAny_pure (wpAny_pure (hQ _ _ T (Heap.SameBut.refl a s.heap) S0 (fun i => ⟨.inl, fun q => q.elim id fun q => ?_⟩) (Nat.le_succ _)))
    rw [q, ← ek]
    exact List.mem_map.mpr ⟨r, hrT, rfl⟩
  | none =>
    have kn : k ∉ T.map Prod.snd := by
      intro q
      obtain ⟨r, hrT, er⟩ := List.mem_map.mp q
      have := List.findIdx?_eq_none_iff.mp fi r.1 (pm.mem_iff.mpr (List.mem_map.mpr ⟨r, hrT, rfl⟩))
      rw [← er, (ok r hrT).1.1] at this
      cases this
    have lp := layNew_perm t es (knd.hash k) x
    have lf := layNew_fits t es (knd.hash k) x
    have lr := layNew_ris t es (knd.hash k) x hr
    have ll := layNew_led t es (knd.hash k) x
    dsimp only
    generalize layNew t es (knd.hash k) x = L at lp lf lr ll ⊢
    obtain ⟨es1, t1, wd, gave⟩ := L
    dsimp only at lp lf lr ll ⊢
    rw [Array.toList_push] at lp
    have s1 : es1.size = es.size + 1 := by
      have := lp.length_eq
      simpa using this
    have b1 : es1.size < scanBound := by omega
    have fin : ∀ t2 : SetTable, t2.fits es1.size = true → Ris t2.place.toList → t2.led = t1.led → ∀ b, Q b { s with heap := s.heap.update a fun _ => sObj "set" (tailTx ep es1 t2 wd) } := by
      intro t2 f2 r2 l2 b
      obtain ⟨q1, q2, q3, q4⟩ := tail_keeps ep es1 t2 wd f2 r2
      have pz : (tailTx ep es1 t2 wd).1.toList.Perm ((((knd.hash k, x), k) :: T).map Prod.fst) := by
        refine (q1.trans lp).trans ((List.perm_append_singleton _ _).trans ?_)
        exact List.Perm.cons _ pm
      refine hQ b _ (((knd.hash k, x), k) :: T) (Heap.SameBut.update s.heap a _) ⟨tailTx ep es1 t2 wd, get_upd _ ho rfl, pz, ?_, ?_, ?_, q2, q3, ?_⟩ ?_ (Nat.le_refl _)
      · intro r hr'
        rcases List.mem_cons.mp hr' with rfl | hr'
        · exact ⟨⟨hx, rfl⟩, sc⟩
        · exact ok r hr'
      · rw [List.map_cons, List.nodup_cons]
        exact ⟨kn, nd⟩
      · rw [SetT.size (h := s.heap) (a := a) pz, List.length_cons]
        exact room
      · rw [q4, l2, ll]
        exact hl
      · intro j
        rw [List.map_cons, List.mem_cons]
        exact Or.comm
    apply wpAny_bind
    apply gw
    split
    · apply wpAny_bind
      rw [hashByValue_scannable 8 sc]
      apply wpAny_pure
      apply addTail_x (T := "set") (ep := ep) (es := es) (t := t) (fun b s₁ Q' q => gw b q) ho b1
      apply wpAny_pure
      refine fin _ ?_ ?_ ?_ true
      · split
        · exact SetTable.fits_plain_off lf
        · exact lf
      · split <;> exact lr
      · split <;> rfl
    · apply wpAny_bind
      apply wpAny_pure
      apply addTail_x (T := "set") (ep := ep) (es := es) (t := t) (fun b s₁ Q' q => gw b q) ho b1
      apply wpAny_pure
      exact fin _ lf lr rfl true
theorem sett_loop {I : Addr} {fp wr : List Addr} {G : Array GenState → Array GenState → Prop} {n : Nat} {Pv : Nat → Value → Prop} {St : Nat → Shared → Prop} {R : Result → Shared → Prop} (W : WalksS P w A.in1 I fp wr G n Pv St) {a : Addr} (ha : a ∉ fp)
    (ks : List K) (hn : n = ks.length) (room : n + 1 < scanBound) (hv : ∀ i v, Pv i v → ∃ k, ks[i]? = some k ∧ knd.is k v = true ∧ v.scannable = true)
    (m : Nat) : ∀ (i : Nat) (s : Shared) (T : List (Row K)), n = i + m → St i s → SetT knd s.heap a T → T.length ≤ i → (∀ j, j ∈ T.map Prod.snd ↔ j ∈ ks.take i) →
      (∀ s' T', Moved (a :: wr) G s s' → SetT knd s'.heap a T' → (∀ j, j ∈ T'.map Prod.snd ↔ j ∈ ks) → R (.ok (.ret .none)) s') → codeAny (model P w) A (.builtin "set.update.loop" ⟨[.ref a, .ref I], []⟩) R s := by
  have wf : a ∉ wr := fun q => ha (W.sub a q)
  have up : ∀ b ∈ wr, b ∈ a :: wr := fun b q => .tail a q
  induction m with
  | zero =>
    intro i s T e st S _ mem fin
    obtain rfl : n = i := e
    apply codeAny_builtin F.entry_set_update_loop
    rw [Around.under_plainId F.plain_set_update_loop]
    show wpAny _ A.in1 (pyNext (.ref I) >>= _) _ _ _
    apply wpAny_bind
    apply W.done s _ _ st
    intro s' mv
    show wpAny _ A.in1 (ret Value.none) _ _ _
    apply wpAny_pure
    refine fin s' T (mv.mono up) (S.stays fun o q => mv.heap a o wf q) fun j => ?_
    rw [mem j, List.take_of_length_le (by omega)]
  | succ m ih =>
    intro i s T e st S le mem fin
    apply codeAny_builtin F.entry_set_update_loop
    rw [Around.under_plainId F.plain_set_update_loop]
    show wpAny _ A.in1 (pyNext (.ref I) >>= _) _ _ _
    apply wpAny_bind
    apply W.item i s _ _ (by omega) st
    intro v s' pv st' mv
    obtain ⟨k, hk, kv, sc⟩ := hv i v pv
    have S1 : SetT knd s'.heap a T := S.stays fun o q => mv.heap a o wf q
    show wpAny _ A.in1 (holding [v] (setAdd a v) >>= _) _ _ _
    apply wpAny_bind
    apply wpAny_holding
    unfold setAdd
    apply wpAny_holding
    apply wpAny_bind
    apply knd.pyHash kv
    refine sett_add (s := { s' with toks := s'.toks + 1 }) S1 kv sc (by omega) fun b h' T' sb S2 mem2 le2 => ?_
    apply wpAny_pure
    refine ⟨plainId_quiet F.plain_set_update_loop _, ih (i + 1) _ T' (by omega) ?_ S2 (by omega) (fun j => ?_) fun s2 T2 mv2 S3 mem3 => ?_⟩
    · refine W.frame _ s' _ _ st' (Nat.le_succ _) fun b hb o q => ?_
      rw [sb.2 b fun z => ha (z ▸ hb)]
      exact q
    · rw [mem2 j, mem j, List.take_add_one, hk]
      simp
    · refine fin s2 T2 (Moved.trans W.gtrans ((mv.mono up).then_heap (Nat.le_succ _) fun b o hb q => ?_) mv2) S3 mem3
      rw [sb.2 b fun z => hb (z ▸ .head _)]
      exact q
def newSet (w : World) : Obj := sObj "set" (#[], 0, .fresh 0 0 (!w.params.followText "set-order"))
theorem newSet_at {h : Heap} {a : Addr} (ho : h.get? a = some (newSet w)) : SetT knd h a [] := by
  refine ⟨_, ho, List.Perm.nil, fun r hr => (nomatch hr), List.nodup_nil, (by decide : 0 < scanBound), rfl, List.Pairwise.nil, ?_⟩
  cases w.params.followText "set-order"
  · exact .inr rfl
  · exact .inl rfl
theorem set_init_keys {l : Addr} {its : Array Value} {ks : List K} {R : Result → Shared → Prop} {h0 : Heap} (hh : A.handled = none) (hl : h0.IsList l its) (hz : its.size = ks.length) (room : ks.length + 1 < scanBound)
    (hv : ∀ (i : Nat) (v : Value), its[i]? = some v → ∃ k, ks[i]? = some k ∧ knd.is k v = true ∧ v.scannable = true)
    (fin : ∀ (h' : Heap) (tk : Nat) T, SetT knd h' h0.objs.size T → (∀ j, j ∈ T.map Prod.snd ↔ j ∈ ks) → (∀ b o, h0.get? b = some o → h'.get? b = some o) → R (.ok (.ret .none)) { s with heap := h', toks := tk }) :
    codeAny (model P w) A (.call (.builtin "set.__init__") ⟨[.ref h0.objs.size, .ref l], []⟩) R { s with heap := h0.push (newSet w) } := by
  have g0 : (h0.push (newSet w)).get? h0.objs.size = some (newSet w) := Heap.get?_push_size _ rfl
  have ty : Shared.TypeIs { s with heap := h0.push (newSet w) } (.ref h0.objs.size) "set" := ⟨_, g0, rfl⟩
  apply codeAny_call_builtin F.called_set.init.plain F.entry_set_init
  apply check_set_init_1 ty
  have ll : l < h0.objs.size := by
    obtain ⟨o, q, _⟩ := hl
    exact Heap.lt_size q
  have l1 : (h0.push (newSet w)).IsList l its := hl.push _
  obtain ⟨o1, ho1, hc1, n1, hd1⟩ := l1
  obtain ⟨c1, d1, t1, sl1⟩ := o1
  simp only at hc1 hd1
  subst hc1 hd1
  have sub1 := F.sub_list_set
  have sub2 := F.sub_list_frozenset
  have nd : (Value.type "list" == Value.type "dict") = false := by decide
  have l2 : (h0.push (newSet w)).IsList l its := ⟨_, ho1, rfl, n1, rfl⟩
  unfold Builtin.«set.__init__» noKeywords Builtin.Frozenset.updateFrom
  generalize pi : pyIter = PI
  wp_walk
  subst pi
  apply wpAny_pyIter_list l2
  apply wpAny_bind
  apply wpAny_runValue
  have sz1 : (h0.push (newSet w)).objs.size = h0.objs.size + 1 := Heap.size_push ..
  have n1 : l ≠ (h0.push (newSet w)).objs.size := by rw [sz1]; exact Nat.ne_of_lt (Nat.lt_succ_of_lt ll)
  have nf : h0.objs.size ∉ [(h0.push (newSet w)).objs.size, l] := by
    rw [sz1]
    intro q
    rcases List.mem_cons.mp q with q | q
    · exact absurd q (Nat.ne_of_lt (Nat.lt_succ_self _))
    · exact absurd (List.mem_singleton.mp q) (Nat.ne_of_gt ll)
  have h3 : A.in1.in1.handled = none := by simp [hh]
  have it0 : ((h0.push (newSet w)).push { cls := .type "list_iterator", data := .fields #[.ref l, .int 0 0] }).get? h0.objs.size = some (newSet w) := Heap.get?_push_of_some _ g0
  refine sett_loop (knd := knd) (Walks.list h3 _ l n1 its).toS nf ks hz (by omega) hv its.size 0 _ [] (by omega) ?_ ?_ (Nat.le_refl _) (fun j => by simp) fun s' T mv S mem => ?_
  · exact ⟨⟨_, Heap.get?_push_size _ rfl, rfl, rfl⟩, l2.push _⟩
  · exact newSet_at it0
  obtain ⟨h', g', d', tk', os'⟩ := s'
  obtain rfl : g' = s.gens := mv.gens
  obtain rfl : d' = s.drawn := mv.drawn
  obtain rfl : os' = s.os := mv.os
  show wpAny _ _ _ _ _ _
  apply wpAny_pure
  show wpAny _ _ (ret Value.none) _ _ _
  apply wpAny_pure
  refine fin h' tk' T S mem fun b o q => ?_
  have lb : b < h0.objs.size := Heap.lt_size q
  refine mv.heap b o (fun z => ?_) (Heap.get?_push_of_some _ (Heap.get?_push_of_some _ q))
  rcases List.mem_cons.mp z with z | z
  · exact absurd z (Nat.ne_of_lt lb)
  · rw [List.mem_singleton, sz1] at z
    exact absurd z (Nat.ne_of_lt (Nat.lt_succ_of_lt lb))
set_option maxHeartbeats 2000000 in
theorem set_keys {l : Addr} {its : Array Value} (ks : List K) {Q : Value → Shared → Prop} (hh : A.handled = none) (hl : s.heap.IsList l its) (hz : its.size = ks.length) (room : ks.length + 1 < scanBound)
    (hv : ∀ (i : Nat) (v : Value), its[i]? = some v → ∃ k, ks[i]? = some k ∧ knd.is k v = true ∧ v.scannable = true)
    (hQ : ∀ (h' : Heap) (tk : Nat) T, SetT knd h' s.heap.objs.size T → (∀ j, j ∈ T.map Prod.snd ↔ j ∈ ks) → (∀ b o, s.heap.get? b = some o → h'.get? b = some o) → Q (.ref s.heap.objs.size) { s with heap := h', toks := tk }) :
    wpAny (model P w) A (call (.type "set") [.ref l]) Q E s := by
  obtain ⟨c, tl, mro⟩ := F.called_set.mro
  have mk := F.called_set.made
  have sb := F.called_set.sub
  have nt := F.called_set.notType
  have cc := F.called_set.canCreate
  have tc := F.typeCall_set_1 (.ref l)
  apply wpAny_call
  apply codeAny_of_tree
  show wpAny _ _ (callAny (.type "set") _) _ _ _
  apply wpAny_pure
  refine ⟨Code.quiet_builtin _ (by decide +kernel), ?_⟩
  apply codeAny_builtin F.entry_type_call
  rw [Around.under_plain (weight_type_call_type "set" [.ref l] []) rfl]
  repeat (any_goals (first | assumption | wp_step))
  apply codeAny_mono (code_set_led1 (.ref l) (E := E) (Q₁ := fun v s₁ => v = .ref s.heap.objs.size ∧ s₁ = { s with heap := s.heap.push (newSet w) }) ⟨rfl, rfl⟩)
  intro r s₁ hr
  cases r with
  | error e => exact hr
  | ok f =>
  cases f with
  | ret v =>
    obtain ⟨rfl, rfl⟩ := hr
    have ty : Shared.TypeIs { s with heap := s.heap.push (newSet w) } (.ref s.heap.objs.size) "set" := ⟨_, Heap.get?_push_size _ rfl, rfl⟩
    have li := F.called_set.init.lookup
    have bi := F.called_set.init.bind (.ref s.heap.objs.size)
    repeat (any_goals (first | assumption | wp_step))
    apply codeAny_mono (set_init_keys (knd := knd) (s := s) (ks := ks) (R := wants (fun v s₂ => v = .none ∧ ∃ h' tk T, s₂ = { s with heap := h', toks := tk } ∧ SetT knd h' s.heap.objs.size T ∧ (∀ j, j ∈ T.map Prod.snd ↔ j ∈ ks) ∧ ∀ b o, s.heap.get? b = some o → h'.get? b = some o) E) (by simpa using hh) hl hz room hv fun h' tk T S mem k => ⟨rfl, h', tk, T, rfl, S, mem, k⟩)
    intro r2 s₂ h2
    cases r2 with
    | error e => exact h2
    | ok f2 =>
    cases f2 with
    | ret v =>
      obtain ⟨rfl, h', tk, T, rfl, S, mem, k⟩ := h2
      repeat (any_goals (first | assumption | wp_step))
      exact hQ h' tk T S mem k
    | _ => exact h2.elim
  | _ => exact hr.elim
end
end PV
end
section
namespace PV
open PySem PySem.Spec PyProof.Rows L2 PySem.Froz
theorem perm_map_inv {α β : Type} (f : α → β) {xs : List β} : ∀ {ys : List β}, xs.Perm ys → ∀ T : List α, ys = T.map f → ∃ T' : List α, T'.Perm T ∧ xs = T'.map f := by
  intro ys h
  induction h with
  | nil =>
    intro T e
    exact ⟨T, List.Perm.refl _, e⟩
  | cons x h ih =>
    intro T e
    cases T with
    | nil => cases e
    | cons t T =>
      rw [List.map_cons] at e
      injection e with e1 e2
      obtain ⟨T', p, q⟩ := ih T e2
      exact ⟨t :: T', p.cons t, by rw [List.map_cons, e1, q]⟩
  | swap x y l =>
    intro T e
    match T, e with
    | t :: u :: T, e =>
      simp only [List.map_cons] at e
      injection e with e1 e2
      injection e2 with e2 e3
      exact ⟨u :: t :: T, List.Perm.swap .., by simp only [List.map_cons, e1, e2, e3]⟩
  | trans h1 h2 i1 i2 =>
    intro T e
    obtain ⟨T1, p1, q1⟩ := i2 T e
    obtain ⟨T2, p2, q2⟩ := i1 T1 q1
    exact ⟨T2, p2.trans p1, q2⟩
theorem each_of {α β : Type} {R : Value → β → Prop} (f : α → Value) (g : α → β) : ∀ T : List α, (∀ r ∈ T, R (f r) (g r)) → PySem.W.EachIs R (T.map f) (T.map g)
  | [], _ => .nil
  | r :: T, h => .cons (h r (.head _)) (each_of f g T fun q hq => h q (.tail _ hq))
section
variable {P : Program} {w : World} {A : Around} {E : Value → Shared → Prop} {s : Shared}
theorem sorted_texts {a : Addr} {T : List (Row Str)} {Q : Value → Shared → Prop} (S : SetT (strKind P w) s.heap a T) (hh : A.handled = none) (hu : A.units + 64 < cLine)
    (hQ : ∀ s' p (out : List Value) (c : Nat) (bs : List Str), (∀ b o, s.heap.get? b = some o → s'.heap.get? b = some o) → s'.gens = s.gens → s'.os = s.os → s.heap.objs.size ≤ p → s'.heap.get? p = some (seqObj "list" out.toArray c) →
      bs.Perm (T.map Prod.snd) → PySem.W.EachIs (fun v b => RelV (V.str b) v) out (bs.mergeSort (PySem.W.dataLe false PyData.str)) → Q (.ref p) s') :
    wpAny (model P w) A (call (.builtin "sorted") [.ref a]) Q E s := by
  obtain ⟨D, ho, pm, ok, nd, hb, hf, hr, hl⟩ := S
  apply Calls.call_function_entry kind_sorted plain_sorted entry_sorted (args_sorted1 _)
  unfold Builtin.«sorted»
  apply wpAny_bind (m := checkCount "sorted" 1 1 _)
  apply wpAny_pure
  apply wpAny_bind
  apply collect_set (A := A.in1) hh ⟨_, ho, rfl, rfl⟩ hf hb hr hl
  intro s1 vs k1 z1 g1 o1 pv
  have pv2 : vs.Perm (T.map fun r => r.1.2) := by
    have := pv.trans (pm.map Prod.snd)
    rwa [List.map_map] at this
  obtain ⟨T', pT, rfl⟩ := perm_map_inv (fun r : Row Str => r.1.2) pv2 T rfl
  have tl : T'.length ≤ sizeLine := by
    rw [pT.length_eq, ← SetT.size (h := s.heap) (a := a) pm]
    exact fits_of_scanBound hb
  apply wpAny_bind
  refine wpAny_newList ?_ (by rw [List.length_map]; exact tl)
  have gl : (s1.heap.push (seqObj "list" (T'.map fun r => r.1.2).toArray 0)).get? s1.heap.objs.size = some (seqObj "list" (T'.map fun r => r.1.2).toArray 0) := Heap.get?_push_size _ rfl
  have shape : ∀ r ∈ T', ∃ t, r.1.2 = .str r.2 t := fun r hr => by
    have := (ok r (pT.mem_iff.mp hr)).1.1
    obtain ⟨t, e⟩ := Value.isStrOf_shape (x := r.2) (v := r.1.2) this
    exact ⟨t, e⟩
  apply wpAny_bind
  apply wpAny_holding
  refine PySem.W.list_sort_data (s := { s1 with heap := s1.heap.push (seqObj "list" (T'.map fun r => r.1.2).toArray 0) }) (R := fun v b => RelV (V.str b) v) (enc := PyData.str) (bs := T'.map Prod.snd) gl (each_of _ _ T' fun r hr => ?_) (each_of _ _ T' fun r hr => ?_) ?_ ?_ (by rw [List.length_map]; exact tl) ?_ fun out lo eo => ?_
  · obtain ⟨t, e⟩ := shape r hr
    exact ⟨t, e⟩
  · obtain ⟨t, e⟩ := shape r hr
    rw [e]
    exact ⟨[], .str _ _, by simp⟩
  · intro x hx y hy
    obtain ⟨b, _, rfl⟩ := List.mem_map.mp hx
    obtain ⟨b', _, rfl⟩ := List.mem_map.mp hy
    rfl
  · refine .inr fun x hx => ?_
    obtain ⟨b, _, rfl⟩ := List.mem_map.mp hx
    exact ⟨nofun, nofun⟩
  · intro b _
    show A.in1.units + 1 + 0 < cLine
    have : A.in1.units = A.units + 1 := rfl
    omega
  · obtain ⟨c, hc⟩ := sortedHeap_at (vs := T'.map fun r => r.1.2) (out := List.toArray out) gl
    apply wpAny_pure
    refine ⟨_, rfl, hQ _ s1.heap.objs.size out c (T'.map Prod.snd) (fun b o q => ?_) g1 o1 z1 hc (pT.map _) eo⟩
    have q1 := k1 b o q
    have lb := Heap.lt_size q1
    have old := sortedHeap_old (h := s1.heap.push (seqObj "list" (T'.map fun r => r.1.2).toArray 0)) (a := s1.heap.objs.size) (vs := T'.map fun r => r.1.2) (out := List.toArray out) (Nat.ne_of_lt lb) (by rw [size_push']; exact Nat.lt_succ_of_lt lb)
    exact old.trans (Heap.get?_push_of_some _ q1)
end
section
variable {X : Cx} {c : Cfg X.K} {E : XK} {pos : Pos}
def leS (a b : Str) : Bool := decide (a.cps.toList ≤ b.cps.toList)
theorem each_strs : ∀ {out : List Value} {bs : List Str}, PySem.W.EachIs (fun v b => RelV (V.str b) v) out bs → Vals (bs.map V.str) out
  | _, _, .nil => Paired.nil
  | _, _, .cons r t => Paired.cons r (each_strs t)
def tSortSet (K : PySem.W.Frag) (ta : TE) : TE := fun σ H Q => ta σ H fun x H1 => ∃ l, ∃ xs : List Str, x = .ref l ∧ SqL K H1 l (xs.map V.str) ∧ xs.length ≤ 4000 ∧ ∀ ys : List Str, ys.Nodup → (∀ y, y ∈ ys ↔ y ∈ xs) → ∀ p, H1 p = none → Q (.ref p) (upd H1 p (.lst ((ys.mergeSort leS).map V.str)))
theorem pe_sortSet {a : Expr} {ta : TE} {p p2 q : Pos} (hc : X.calm = true) (hu : X.A.units + 64 < cLine) (hg : Gl X "sorted") (hm : X.mg "sorted" = none) (hg2 : Gl X "set") (hm2 : X.mg "set" = none) (ha : PE X a ta)
    (na : starEach [a] X.env = (false, eval a X.env) :: starEach [] X.env := by rfl) : PE X (.Call (.Name "sorted" p) [.Call (.Name "set" p2) [a] [] q] [] pos) (tSortSet X.K ta) := by
  refine ⟨fun pins s σ H Q I h => ?_⟩
  refine Call_ (ld_blt I hg hm PyProof.Rows.boot_sorted ?_)
  refine PyProof.Rows.callWith_builtin1 (PyProof.Rows.args_cons ?_ rfl) rfl rfl
  refine Call_ (ld_blt I hg2 hm2 PyProof.Rows.boot_set ?_)
  refine PyProof.Rows.callWith_type1 (PyProof.Rows.args_cons (thn (ha.run pins s σ H _ I h) fun v s1 ⟨x, H1, I1, r1, q1⟩ => PyProof.Rows.args_nil ?_) na) na rfl
  obtain ⟨l, xs, rfl, hq, hl, q1⟩ := q1
  cases r1
  obtain ⟨its, r, pl, hz⟩ := I1.list hq
  have sz : its.toArray.size = xs.length := by rw [List.size_toArray, ← r.length, List.length_map]
  have hd := I1.ok.hd hc
  refine set_keys (knd := strKind X.prog X.w) xs hd pl.isList sz (by unfold scanBound; omega) (fun i v hv => ?_) fun h' tk T S mem k => ?_
  · have hi : i < xs.length := by
      rw [← sz]
      exact (Array.getElem?_eq_some_iff.mp hv).1
    obtain ⟨u, hu', t, e⟩ := r.get (i := i) (x := .str xs[i]) (by simp [hi])
    have : v = u := by
      rw [List.getElem?_toArray] at hv
      rw [hv] at hu'
      exact Option.some.inj hu'
    subst this
    subst e
    exact ⟨xs[i], List.getElem?_eq_getElem hi, is_str _ _, rfl⟩
  · refine PyProof.Rows.args_nil ?_
    refine sorted_texts S hd (by omega) fun s2 p' out c bs k2 g2 o2 hp hpo pm eo => ?_
    have nb : bs.Nodup := pm.nodup_iff.mpr (by obtain ⟨_, _, _, _, nd, _⟩ := S; exact nd)
    have lt : s1.heap.objs.size < h'.objs.size := by
      obtain ⟨_, q, _⟩ := S
      exact Heap.lt_size q
    have kk : ∀ b u, s1.heap.get? b = some u → s2.heap.get? b = some u := fun b u q => k2 b u (k b u q)
    have ps : s1.heap.objs.size ≤ p' := Nat.le_trans (Nat.le_of_lt lt) hp
    have le : PySem.W.dataLe false PyData.str = leS := PySem.W.dataLe_str (β := Str) id
    rw [le] at eo
    have vo := each_strs eo
    have lb : ((bs.mergeSort leS).map V.str).length ≤ sizeLine := by
      rw [List.length_map, List.length_mergeSort, pm.length_eq, List.length_map]
      obtain ⟨_, _, q, _, _, hb, _⟩ := S
      rw [← SetT.size (h := h') (a := p') q]
      exact fits_of_scanBound hb
    have new : ObjOk X.prog X.w (upd H1 p' (.lst ((bs.mergeSort leS).map V.str))) s2.heap p' (.lst ((bs.mergeSort leS).map V.str)) := ⟨lb, out, c, vo, hpo⟩
    exact ⟨.ref p', upd H1 p' (.lst ((bs.mergeSort leS).map V.str)), I1.call' (ch := []) o2 (Un.laid kk ps (I1.hok.fresh ps)) (I1.hok.laid kk ps new) (by rw [g2]; exact I1.bare) (fun _ z => nomatch z), rfl,
      q1 bs nb (fun y => by rw [pm.mem_iff, mem y]) p' (I1.hok.fresh ps)⟩
end
def onceL {α : Type} [DecidableEq α] : List α → List α
  | [] => []
  | x :: l => if x ∈ l then onceL l else x :: onceL l
theorem mem_once {α : Type} [DecidableEq α] {y : α} : ∀ {l : List α}, y ∈ onceL l ↔ y ∈ l
  | [] => Iff.rfl
  | x :: l => by
    have ih := mem_once (y := y) (l := l)
    unfold onceL
    split
    · rename_i h
      rw [ih, List.mem_cons]
      exact ⟨.inr, fun q => q.elim (fun e => e ▸ h) id⟩
    · rw [List.mem_cons, List.mem_cons, ih]
theorem nodup_once {α : Type} [DecidableEq α] : ∀ l : List α, (onceL l).Nodup
  | [] => List.nodup_nil
  | x :: l => by
    have ih := nodup_once l
    unfold onceL
    split
    · exact ih
    · rename_i h
      exact List.nodup_cons.mpr ⟨fun q => h (mem_once.mp q), ih⟩
def setS (xs : List Str) : List Str := (onceL xs).mergeSort leS
theorem leS_anti {a b : Str} (h1 : leS a b = true) (h2 : leS b a = true) : a = b := by
  unfold leS at h1 h2
  rw [decide_eq_true_eq] at h1 h2
  have e := List.le_antisymm h1 h2
  cases a
  cases b
  rw [Str.mk.injEq]
  exact Array.toList_inj.mp e
theorem leS_sorted (l : List Str) : (l.mergeSort leS).Pairwise fun a b => leS a b = true := by
  refine List.pairwise_mergeSort (fun a b c h1 h2 => ?_) (fun a b => ?_) l
  · unfold leS at h1 h2 ⊢
    rw [decide_eq_true_eq] at h1 h2 ⊢
    exact List.le_trans h1 h2
  · unfold leS
    rw [Bool.or_eq_true, decide_eq_true_eq, decide_eq_true_eq]
    exact List.le_total _ _
theorem perm_sortS {xs ys : List Str} (p : xs.Perm ys) : xs.mergeSort leS = ys.mergeSort leS :=
  List.Perm.eq_of_pairwise (fun a b _ _ h1 h2 => leS_anti h1 h2) (leS_sorted xs) (leS_sorted ys) ((List.mergeSort_perm xs leS).trans (p.trans (List.mergeSort_perm ys leS).symm))
theorem perm_once {α : Type} [DecidableEq α] {xs ys : List α} (nd : ys.Nodup) (m : ∀ y, y ∈ ys ↔ y ∈ xs) : ys.Perm (onceL xs) :=
  (List.perm_ext_iff_of_nodup nd (nodup_once xs)).mpr fun y => by rw [m y, mem_once]
def strs? : List D → Option (List Str)
  | [] => some []
  | .str x :: r => (strs? r).map fun xs => x :: xs
  | _ :: _ => none
theorem strs_rep {M : PySem.W.Frag} {κ : Kap M} {F H : Hp} : ∀ {ds : List D} {vs : List V} {fp : List Addr} {xs : List Str}, RepL κ F H ds vs fp → strs? ds = some xs → vs = xs.map V.str
  | _, _, _, _, .nil, h => by
    cases h
    rfl
  | _, _, _, xs, .cons (d := d) r t, h => by
    cases d with
    | str x =>
      rw [strs?] at h
      cases q : strs? _ with
      | none => rw [q] at h; cases h
      | some ys =>
        rw [q] at h
        cases h
        have e := strs_rep t q
        cases r
        rw [e]
        rfl
    | _ => simp [strs?] at h
def dSortSet : D → Res D
  | .nd _ .lst ds => (ofO (strs? ds)).bind fun xs => if xs.length ≤ 4000 then .ok (.lst .own ((setS xs).map D.str)) else .stuck
  | _ => .stuck
section
variable {X : Cx} {c : Cfg X.K} {E : XK} {pos : Pos}
theorem strs_repL {M : PySem.W.Frag} {κ : Kap M} {F H : Hp} : ∀ xs : List Str, RepL κ F H (xs.map D.str) (xs.map V.str) []
  | [] => .nil
  | x :: xs => RepL.cons (fp := []) (fq := []) (.str x) (strs_repL xs)
theorem ev_sortSet {a : Expr} {f : Env → Res D} {p p2 q : Pos} (hc : X.calm = true) (hu : X.A.units + 64 < cLine) (hg : Gl X "sorted") (hm : X.mg "sorted" = none) (hg2 : Gl X "set") (hm2 : X.mg "set" = none) (ha : EV X c E a f)
    (na : starEach [a] X.env = (false, eval a X.env) :: starEach [] X.env := by rfl) : EV X c E (.Call (.Name "sorted" p) [.Call (.Name "set" p2) [a] [] q] [] pos) (e1 dSortSet f) :=
  PE.imp (pe_sortSet hc hu hg hm hg2 hm2 ha na) fun σ H Q w => glue1 w fun F H1 d v fp fh r nd fr p => by
    unfold dSortSet at p
    split at p
    · rename_i t ds
      obtain ⟨b, vs, fq, rfl, h1, h2, _⟩ := r.sqL fh
      cases z : strs? ds with
      | none => rw [z] at p; exact p.elim
      | some xs =>
        rw [z] at p
        have e := strs_rep h2 z
        subst e
        by_cases hl : xs.length ≤ 4000
        · have p' : PostV c E F H1 (.ok (.lst .own ((setS xs).map D.str))) Q := by
            have : ((ofO (some xs)).bind fun xs => if xs.length ≤ 4000 then Res.ok (D.lst .own ((setS xs).map D.str)) else .stuck) = .ok (.lst .own ((setS xs).map D.str)) := if_pos hl
            rwa [this] at p
          refine ⟨b, xs, rfl, h1, hl, fun ys nd m a' ha' => ?_⟩
          rw [perm_sortS (perm_once nd m)]
          exact PostV.newO p' fh ha' rfl (strs_repL _) rfl
        · have : ((ofO (some xs)).bind fun xs => if xs.length ≤ 4000 then Res.ok (D.lst .own ((setS xs).map D.str)) else .stuck) = .stuck := if_neg hl
          rw [this] at p
          exact p.elim
    · exact p.elim
end
end PV
end
section
namespace PV
open PySem PySem.Spec PyProof.Rows L2
end PV
namespace PV
open PySem PySem.Spec PyProof.Rows L2
section
variable {P : Program} {w : World} {K : PySem.W.Frag} {mg : Str → Option Value} {base : Heap}
theorem cal_mkD {x qual : Str} {st : Stmt} {f : Addr} {fd : FuncData} {ps : List Str} {k : Nat} {c : Cfg K} {Φ : List D → Res D} {dvs : List V} {dd : List D} (F : FunD K x qual (defArgs st) (defBody st) (defScope st) dvs [] f fd) (hm : mg x = some (.ref f))
    (ok : FnOk P w K mg base (L2.CX P w) k f fd ps (SpD c ps.length Φ)) (n j : Nat) (hd : dvs ≠ []) (hn : n + (dvs.length - j) = ps.length)
    (hb : ∀ (T : Addr) (kV doc pm : Value) (an : Option Addr) (cdv ct : Value) (us its : List Value), us.length = n → its.length = dvs.length →
      ∃ k, bindArgs (PySem.W.fnOf x qual (defArgs st) (defBody st) (defScope st) (.ref T) kV doc pm an cdv ct) ⟨us, []⟩ = seqItems? (.ref T) >>= k ∧ k (some its.toArray) = pure (ps.zip (us ++ its.drop j)))
    (hdd : ∀ F H, RepL c.κ F H dd (dvs.drop j) []) : Cal P w K mg base c x k ps.length Φ dd := by
  obtain ⟨ds, hv, hbn⟩ := F.binds1 n j hd hn hb
  exact ⟨f, fd, ps, dvs.drop j, ds, FnOk.len ok, hm, F.kp, hbn, hv, hdd⟩
end
end PV
end
section
namespace PV
open PySem PySem.Spec PyProof.Rows L2 RZ
end PV
end
section
namespace PV
open PySem PySem.Spec PyProof.Rows L2
section
variable {κ : Type} [DecidableEq κ]
def ixK : List κ → κ → Option Nat
  | [], _ => none
  | x :: r, k => if x = k then some 0 else (ixK r k).map (· + 1)
theorem ixK_none : ∀ {ks : List κ} {k : κ}, ixK ks k = none ↔ k ∉ ks
  | [], k => by simp [ixK]
  | x :: r, k => by
    unfold ixK
    by_cases h : x = k
    · simp [h]
    · rw [if_neg h, Option.map_eq_none_iff, ixK_none, List.mem_cons]
      exact ⟨fun n m => m.elim (fun e => h e.symm) n, fun n m => n (.inr m)⟩
theorem ixK_some : ∀ {ks : List κ} {k : κ} {j : Nat}, ixK ks k = some j → ks[j]? = some k ∧ j < ks.length
  | [], k, j, h => by cases h
  | x :: r, k, j, h => by
    unfold ixK at h
    by_cases e : x = k
    · rw [if_pos e] at h
      cases h
      simp [e]
    · rw [if_neg e, Option.map_eq_some_iff] at h
      obtain ⟨i, h1, h2⟩ := h
      obtain ⟨h3, h4⟩ := ixK_some h1
      subst h2
      exact ⟨by simpa using h3, by simpa using h4⟩
variable {α : Type}
theorem putK_cons_ne {x k : κ} {v y : V} {r : List (κ × V)} (h : ¬ x = k) : putK ((x, v) :: r) k y = (x, v) :: putK r k y := by
  unfold putK
  rw [List.any_cons]
  have : decide ((x, v).1 = k) = false := by simp [h]
  rw [this, Bool.false_or]
  split
  · rw [List.map_cons]; simp [h]
  · rw [List.cons_append]
theorem map_put_ne {k : κ} {y : V} : ∀ {ks : List κ} {vs : List V}, k ∉ ks → (ks.zip vs).map (fun kv => if kv.1 = k then (kv.1, y) else kv) = ks.zip vs
  | [], vs, h => rfl
  | x :: r, [], h => by simp
  | x :: r, v :: vs, h => by
    rw [List.mem_cons, not_or] at h
    rw [List.zip_cons_cons, List.map_cons, map_put_ne h.2]
    have : ¬ x = k := fun e => h.1 e.symm
    simp [this]
theorem putK_some {k : κ} {y : V} : ∀ {ks : List κ} {vs : List V} {j : Nat}, ks.Nodup → ks.length = vs.length → ixK ks k = some j → putK (ks.zip vs) k y = ks.zip (vs.set j y)
  | [], vs, j, nd, hl, h => by cases h
  | x :: r, [], j, nd, hl, h => by simp at hl
  | x :: r, v :: vs, j, nd, hl, h => by
    rw [List.nodup_cons] at nd
    unfold ixK at h
    by_cases e : x = k
    · rw [if_pos e] at h
      cases h
      subst e
      rw [List.zip_cons_cons]
      unfold putK
      rw [if_pos (by simp), List.map_cons, map_put_ne nd.1]
      simp
    · rw [if_neg e, Option.map_eq_some_iff] at h
      obtain ⟨i, h1, h2⟩ := h
      subst h2
      rw [List.zip_cons_cons, putK_cons_ne e, putK_some nd.2 (by simpa using hl) h1]
      rfl
theorem any_zip {k : κ} : ∀ {ks : List κ} {vs : List V}, k ∉ ks → ((ks.zip vs).any fun kv => decide (kv.1 = k)) = false
  | [], vs, h => rfl
  | x :: r, [], h => by simp
  | x :: r, v :: vs, h => by
    rw [List.mem_cons, not_or] at h
    have : ¬ x = k := fun e => h.1 e.symm
    rw [List.zip_cons_cons, List.any_cons, any_zip h.2]
    simp [this]
theorem putK_none {k : κ} {y : V} {ks : List κ} {vs : List V} (hl : ks.length = vs.length) (h : ixK ks k = none) : putK (ks.zip vs) k y = (ks ++ [k]).zip (vs ++ [y]) := by
  unfold putK
  rw [any_zip (ixK_none.mp h), if_neg Bool.false_ne_true, List.zip_append hl]
  rfl
theorem nodup_snoc {ks : List κ} {k : κ} (h : ks.Nodup) (n : ixK ks k = none) : (ks ++ [k]).Nodup :=
  List.nodup_append.mpr ⟨h, by simp, fun a m b m2 e => ixK_none.mp n (by simp at m2; rw [← m2, ← e]; exact m)⟩
end
section
variable {M : PySem.W.Frag} {κ : Kap M} {F H : Hp}
theorem Rep.of_own {k : Kind} {ds : List D} {v : V} {fp : List Addr} (r : Rep κ F H (.nd .own k ds) v fp) : ∃ a vs fq o, v = .ref a ∧ fp = a :: fq ∧ H a = some o ∧ IsHO κ k vs o ∧ RepL κ F H ds vs fq := by
  cases r with
  | ndO ha hs hl => exact ⟨_, _, _, _, rfl, rfl, ha, hs, hl⟩
theorem RepL.erase : ∀ {ds : List D} {vs : List V} {fp : List Addr} (j : Nat), RepL κ F H ds vs fp → ∃ fq, RepL κ F H (ds.eraseIdx j) (vs.eraseIdx j) fq ∧ fq.Sublist fp
  | _, _, _, j, .nil => ⟨[], by simpa using RepL.nil, List.nil_sublist _⟩
  | _, _, _, 0, .cons (fp := fa) (fq := fb) r t => ⟨fb, by simpa using t, List.sublist_append_right _ _⟩
  | _, _, _, j + 1, .cons (fp := fa) (fq := fb) r t => by
    obtain ⟨fq, h1, h2⟩ := RepL.erase j t
    exact ⟨fa ++ fq, by simpa using RepL.cons r h1, List.Sublist.append (List.Sublist.refl _) h2⟩
end
def putL (ks : List Key) (ds : List D) (k : Key) (d : D) : D := match ixK ks k with
  | some j => .nd .own (.dic ks) (ds.set j d)
  | none => .nd .own (.dic (ks ++ [k])) (ds ++ [d])
section
variable {M : PySem.W.Frag} {κ : Kap M} {F H : Hp}
theorem RepL.put {ks : List Key} {ds : List D} {vs : List V} {fp fd : List Addr} {d : D} {v : V} (k : Key) (hn : ks.Nodup) (hl : ks.length = vs.length) (r : RepL κ F H ds vs fp) (rd : Rep κ F H d v fd) (n1 : fp.Nodup) (n2 : fd.Nodup) (dj : ∀ a ∈ fd, a ∉ fp) (nt : noTL ds = true) (nd : noT d = true) :
    ∃ ks' ds' vs' fr, putL ks ds k d = .nd .own (.dic ks') ds' ∧ IsHO κ (.dic ks') vs' (.dK (putK (ks.zip vs) k v)) ∧ RepL κ F H ds' vs' fr ∧ fr.Nodup ∧ (∀ a ∈ fr, a ∈ fp ∨ a ∈ fd) ∧ noTL ds' = true := by
  unfold putL
  cases hj : ixK ks k with
  | some j =>
    have lt : j < ds.length := by
      have := (ixK_some hj).2
      have := r.length
      omega
    obtain ⟨fr, h1, h2, h3⟩ := RepL.set j lt r rd n1 n2 dj
    exact ⟨ks, _, _, fr, rfl, ⟨⟨hn, by rw [List.length_set]; exact hl⟩, congrArg HO.dK (putK_some hn hl hj)⟩, h1, h2, h3, noTL_set _ _ _ nt nd⟩
  | none =>
    refine ⟨ks ++ [k], _, vs ++ [v], fp ++ fd, rfl, ⟨⟨nodup_snoc hn hj, by simp [hl]⟩, congrArg HO.dK (putK_none hl hj)⟩, ?_, List.nodup_append.mpr ⟨n1, n2, fun a m b m2 e => dj b m2 (e ▸ m)⟩, fun a m => List.mem_append.mp m, by rw [noTL_append, nt, noTL_cons, nd]; rfl⟩
    have := r.append (RepL.cons rd .nil)
    simpa using this
end
section
variable {X : Cx} {c : Cfg X.K} {E : XK} {e a b d : Expr} {f g h : Env → Res D} {pos apos p sp : Pos} {es : List Expr} {fs : Env → Res (List D)}
theorem Rd.same {H H' : Hp} {a : Addr} {u : HO} (s : Sm H H') (h : Rd H a u) (n : nTb u := by exact True.intro) : Rd H' a u := by
  rcases h with h | ⟨o, h⟩
  · exact .inl (s _ _ h)
  · exact .inr ⟨o, s _ _ h⟩
end
section
variable {X : Cx} {c : Cfg X.K} {E : XK} {e b : Expr} {f g : Env → Res D} {pos apos p sp apos2 cpos p1 : Pos}
theorem TV.mono {E : XK} {f : Env → Res D} {σ : L2.St} {H : Hp} {Q Q' : VK} (h : TV c E f σ H Q) (i : ∀ v H, Q v H → Q' v H) : TV c E f σ H Q' := by
  obtain ⟨bb, K, F0, F, env, φ, S, p⟩ := h
  refine ⟨bb, K, F0, F, env, φ, S, ?_⟩
  cases q : f env with
  | ok d => rw [q] at p; exact fun v H' F' fp x r nd fr => i _ _ (p v H' F' fp x r nd fr)
  | exc z => rw [q] at p; exact p
  | stuck => rw [q] at p; exact p
end
inductive Wk where
  | key | val | itm
section
variable {X : Cx} {c : Cfg X.K} {E : XK} {o e : Expr} {p pos apos mpos : Pos} {td : TE} {f : Env → Res D}
def sClear (i : Nat) : Env → SR := fun env => match ownL env i with
  | some _ => .ok (.nx, env.set i (some (.lst .own [])))
  | none => .stuck
theorem es_clear (i : Nat) {x : Str} {q : Pos} (hN : X.N[i]? = some x := by rfl) (hv : Vis X.env.scope x := by first | exact Or.inl rfl | exact Or.inr (Or.inl rfl) | exact Or.inr (Or.inr rfl)) (hd : (x == ("__debug__" : Str)) = false := by decide)
    (hcd : (x == ("__classdict__" : Str)) = false := by decide)
    (hbase : attributeBase (.Name x q) "clear" X.env (eval (.Name x q) X.env) = eval (.Name x q) X.env := by rfl)
    (hline : (apos.endLine == p.line) = true := by rfl)
    (hs : swapsWith (.Call (.Attribute (.Name x q) "clear" apos) [] [] p) none pos.line X.env = pure false := by rfl) :
    ES X c E (.Expr (.Call (.Attribute (.Name x q) "clear" apos) [] [] p) pos) (sClear i) :=
  PS.imp (ps_expr (pe_bm0 PySem.F.plainAttrs_list PySem.F.slot_list_clear PySem.F.type_list_clear mt_clear (pe_var (i := i) hN hv hd hcd) hbase hline) hs) fun Dn σ H q => by
    obtain ⟨K, F0, F, env, φ, S, p⟩ := q
    unfold sClear at p
    cases hs0 : ownL env i with
    | none => rw [hs0] at p; exact p.elim
    | some ds =>
      rw [hs0] at p
      have hslot := ownL_get hs0
      obtain ⟨v, h1, h2, h3⟩ := S.sl i _ hslot
      obtain ⟨a, vs, fq, rfl, hφ, ha', hl⟩ := RepL.of_own h2
      refine ⟨.ref a, h1, .inl ⟨rfl, vs, .inl (.inl ha')⟩, a, vs, rfl, rfl, ha', ?_⟩
      exact p σ _ F _ (S.relist (a := a) (fq := fq) (fr := []) h1 hφ .nil .nil (by simp) rfl)
end
end PV
end
section
namespace PV
open PySem PySem.Calls PySem.Spec PyProof.Rows RT
end PV
namespace PV
open PySem PySem.Spec PyProof.Rows L2
def clearV (x : D) : Res D := (lstO x).bind fun _ => .ok (.lst .own [])
section
variable {i j : Nat} {g : Env → Res D} {env : Env} {x : D} {gx : Res D} {w : Env → SR}
theorem ownL_of (hx : env[i]? = some (some x)) : ownL env i = match lstO x with
    | .ok p => some p
    | _ => none := by
  unfold ownL lstO
  rw [hx]
  cases x with
  | nd t k ds => cases t <;> cases k <;> rfl
  | _ => rfl
theorem lstO_nox {x : D} (y : Exn) : lstO x ≠ .exc y := by
  unfold lstO
  split <;> simp
theorem clear_eq (hx : env[i]? = some (some x)) : sClear i env = (clearV x).bind fun a => .ok (.nx, env.set i (some a)) := by
  unfold sClear clearV
  rw [ownL_of hx]
  cases q : lstO x with
  | ok p => rfl
  | exc y => exact absurd q (lstO_nox y)
  | stuck => rfl
theorem b_clear {σ : Type} {Γ : σ → Env} {fg : List Nat} {k : D → Res (Fo σ)} {en : D → Env} (hx : env[i]? = some (some x)) (he : ∀ a, env.set i (some a) = en a) (hk : ∀ a, RB Γ fg (w (en a)) (k a)) : RB Γ fg (sSeq (sClear i) w env) ((clearV x).bind k) := r_seq rl_B (clear_eq hx) (fun a => by rw [he]; exact hk a)
end
end PV
end
section
namespace PV
open PySem PySem.Spec PyProof.Rows L2
end PV
end
section
set_option maxHeartbeats 3000000
namespace PV
open PySem PySem.Spec PyProof.Rows L2
end PV
end
section
set_option maxHeartbeats 3000000
namespace PV
open PySem PySem.Spec PyProof.Rows L2
end PV
end
section
set_option maxHeartbeats 3000000
namespace PV
open PySem PySem.Spec PyProof.Rows L2
end PV
end
section
set_option maxHeartbeats 3000000
namespace PV
open PySem PySem.Spec PyProof.Rows L2
end PV
end
section
namespace PV
open PySem PySem.Spec PyProof.Rows L2
inductive RA where
  | loc (i : Nat)
  | ix (i k : Nat)
def XD (d : Option Addr) (H : Hp) : Prop := match d with
  | none => True
  | some dd => ∃ fs, H dd = some (.xd fs)
theorem XD.same {d : Option Addr} {H H' : Hp} (s : Same H H') (h : XD d H) : XD d H' := by
  cases d with
  | none => exact h
  | some dd => obtain ⟨fs, h⟩ := h; exact ⟨fs, s _ _ h⟩
inductive SuE where
  | fld (f : Str)
  | bool (b : Bool)
  deriving DecidableEq
structure XAt {M : PySem.W.Frag} (κ : Kap M) (F H : Hp) (a : Addr) (d : Option Addr) (i : Nat) (x : Exn) (l : List (Nat × SuE)) (B : Nat) (φ : Nat → List Addr) (σ : L2.St) (env : Env) : Prop where
  sl : σ[i]? = some (some (.ref a))
  no : env[i]?.getD none = none
  xd : XD d H
  hb : env.length ≤ B ∧ ∀ q ∈ l, q.1 < B
  vs : ∃ vs : List V, noTL x.ds = true ∧ (x.ns = [] ∨ ∃ (dd : Addr) (fs : List (Str × V)), d = some dd ∧ H dd = some (.xd fs) ∧ x.ns.length = vs.length ∧ ∀ (j : Nat) (n : Str) (v : V), x.ns[j]? = some n → vs[j]? = some v → fs.lookup n = some v) ∧
    ∀ (j : Nat) (n : Str) (z : D) (v : V), x.ns[j]? = some n → x.ds[j]? = some z → vs[j]? = some v → (∃ q ∈ l, q.2 = .fld n) → Rep κ F H z v (φ (B + j))
section
variable {X : Cx} {c : Cfg X.K} {a D : Addr} {oe : Obj} {d : Option Addr} {pn : List (Addr × Obj)} {pos p p' : Pos} {i j : Nat} {n f s y : Str} {l : List (Nat × SuE)} {sts : List Stmt} {e : Expr} {b : Bool}
theorem XAt.step {M : PySem.W.Frag} {κ : Kap M} {F H H' : Hp} {x : Exn} {B : Nat} {φ : Nat → List Addr} {q0 : Nat × SuE} {σ : L2.St} {env : Env} {v : V} {z : PV.D} {fp : List Addr} (T : XAt κ F H a d i x (q0 :: l) B φ σ env) (sm : Same H H') (hj : q0.1 ≠ i) :
    XAt κ F H' a d i x l B (put φ q0.1 fp) (σ.set q0.1 (some v)) (env.set q0.1 (some z)) :=
  ⟨by rw [List.getElem?_set_ne hj]; exact T.sl, by rw [List.getElem?_set_ne hj]; exact T.no, T.xd.same sm, ⟨by rw [List.length_set]; exact T.hb.1, fun q hq => T.hb.2 q (List.mem_cons_of_mem _ hq)⟩, by
    obtain ⟨vs, h2, h3, h1⟩ := T.vs
    refine ⟨vs, h2, h3.imp id fun ⟨dd, fs, q1, q2, q3⟩ => ⟨dd, fs, q1, sm _ _ q2, q3⟩, fun j n z v e1 e2 e3 ⟨q, hq, e4⟩ => ?_⟩
    have hlt := T.hb.2 q0 List.mem_cons_self
    rw [put_ne (by omega)]
    exact (rep_mono (Same.refl _) (Sm.of sm)).1 _ _ _ (h1 j n z v e1 e2 e3 ⟨q, List.mem_cons_of_mem _ hq, e4⟩)⟩
theorem XAt.take {M : PySem.W.Frag} {κ : Kap M} {F H : Hp} {x : Exn} {B k : Nat} {φ : Nat → List Addr} {j : Nat} {σ : L2.St} {env : Env} {v : V} {z : PV.D} {fp : List Addr} (T : XAt κ F H a d i x ((j, .fld f) :: l) B φ σ env) (hj : j ≠ i) (hk : x.ns[k]? = some f) (hl : ∀ q ∈ l, q.2 ≠ .fld f) :
    XAt κ F H a d i x l B (put (put φ (B + k) []) j fp) (σ.set j (some v)) (env.set j (some z)) :=
  ⟨by rw [List.getElem?_set_ne hj]; exact T.sl, by rw [List.getElem?_set_ne hj]; exact T.no, T.xd, ⟨by rw [List.length_set]; exact T.hb.1, fun q hq => T.hb.2 q (List.mem_cons_of_mem _ hq)⟩, by
    obtain ⟨vs, h2, h3, h1⟩ := T.vs
    refine ⟨vs, h2, h3, fun m n z v e1 e2 e3 ⟨q, hq, e4⟩ => ?_⟩
    have hlt : j < B := T.hb.2 (j, .fld f) List.mem_cons_self
    have hmk : m ≠ k := fun e => by
      subst e
      rw [hk] at e1
      cases e1
      exact hl q hq e4
    rw [put_ne (by omega), put_ne (by omega)]
    exact h1 m n z v e1 e2 e3 ⟨q, List.mem_cons_of_mem _ hq, e4⟩⟩
end
theorem SE.any {bb : Bool} {M : PySem.W.Frag} {κ : Kap M} {K F0 F H : Hp} {env : Env} {φ : Nat → List Addr} {σ : L2.St} {i : Nat} {w : Option V} (S : SE bb κ K F0 F env φ σ H) (h : env[i]?.getD none = none) : SE bb κ K F0 F env φ (σ.set i w) H :=
  ⟨by rw [List.length_set]; exact S.len, S.kk, S.f0, S.fh, S.gr, fun j d e => by
    have hj : i ≠ j := fun z => by
      subst z
      rw [e] at h; cases h
    rw [List.getElem?_set_ne hj]; exact S.sl j d e, S.nd, S.dj, S.ow⟩
end PV
end
section
namespace PV
open PySem PySem.Spec PyProof.Rows L2 PySem.Froz
end PV
end
section
namespace PV
open PySem PySem.Spec PyProof.Rows L2 He
end PV
end
section
namespace PV
open PySem PySem.Spec PyProof.Rows L2
section
variable {X : Cx} {c : Cfg X.K} {E : XK} {e : Expr} {es : List Expr} {f : Env → Res D} {pos apos p : Pos}
def jN : List (Env → Res D) := []
def jC (f : Env → Res D) (l : List (Env → Res D)) : List (Env → Res D) := f :: l
inductive EJ (X : Cx) (c : Cfg X.K) (E : XK) : List Expr → List (Env → Res D) → Prop where
  | nil : EJ X c E [] jN
  | cons {e : Expr} {es : List Expr} {f : Env → Res D} {fl : List (Env → Res D)} (h : EV X c E e f) (r : EJ X c E es fl) : EJ X c E (e :: es) (jC f fl)
end
def exF (oe : Obj) : HO := .frz oe (.ext fun _ => True)
structure HeldX (H : Hp) (a : Addr) (oe : Obj) (C : Addr) (dd : Option Addr) : Prop where
  at_ : H a = some (exF oe)
  z : Zc (.ref C) dd oe
  f : ∃ fv, oe.data = .fields fv
  d : XD dd H
theorem HeldX.same {H H' : Hp} {a : Addr} {oe : Obj} {C : Addr} {dd : Option Addr} (h : HeldX H a oe C dd) (s : Same H H') : HeldX H' a oe C dd := ⟨s _ _ h.at_, h.z, h.f, h.d.same s⟩
def Kap.pin {M : PySem.W.Frag} (κ : Kap M) (as : List Addr) : Kap M := { κ with pv := as }
def Cfg.pin {M : PySem.W.Frag} (c : Cfg M) (as : List Addr) : Cfg M := ⟨c.κ.pin as, c.xr, c.mono⟩
theorem isHO_cls {M : PySem.W.Frag} {κ κ' : Kap M} (e : κ.cls = κ'.cls) {k : Kind} {vs : List V} {o : HO} (h : IsHO κ k vs o) : IsHO κ' k vs o := by
  cases k with
  | ins c ns => obtain ⟨h1, dx, h2⟩ := h; exact ⟨h1, dx, by rw [← e]; exact h2⟩
  | inv c ns as => obtain ⟨⟨h1, dx, h2⟩, h3⟩ := h; exact ⟨⟨h1, dx, by rw [← e]; exact h2⟩, h3⟩
  | exc c => obtain ⟨oe, dd, h1, h2, h3⟩ := h; exact ⟨oe, dd, h1, by rw [← e]; exact h2, h3⟩
  | _ => exact h
mutual
theorem Rep.repin {M : PySem.W.Frag} {κ κ' : Kap M} (e : κ.cls = κ'.cls) (F H : Hp) : ∀ (d : D) (v : V) (fp : List Addr), noP d = true → Rep κ F H d v fp → Rep κ' F H d v fp
  | .non, _, _, _, h => by cases h; exact .non
  | .bl _, _, _, _, h => by cases h; exact .bl _
  | .int _, _, _, _, h => by cases h; exact .int _
  | .str _, _, _, _, h => by cases h; exact .str _
  | .tup ds, _, _, hn, h => by
    rw [noP] at hn
    cases h with | tup ha hl => exact .tup ha (RepL.repin e F H ds _ _ hn hl)
  | .nd t k ds, _, _, hn, h => by
    rw [noP] at hn
    cases h with
    | ndO ha hs hl => exact .ndO ha (isHO_cls e hs) (RepL.repin e F H ds _ _ hn hl)
    | ndF ha hr hs hl => exact .ndF ha hr (isHO_cls e hs) (RepL.repin e F H ds _ _ hn hl)
    | ndT ha hr hs hl => exact .ndT ha hr (isHO_cls e hs) (RepL.repin e F H ds _ _ hn hl)
    | ndK ha hl => exact .ndK ha (RepL.repin e F H ds _ _ hn hl)
  | .pin _ _, _, _, hn, _ => by rw [noP] at hn; cases hn
  | .pack _ _, _, _, hn, _ => by rw [noP] at hn; cases hn
theorem RepL.repin {M : PySem.W.Frag} {κ κ' : Kap M} (e : κ.cls = κ'.cls) (F H : Hp) : ∀ (ds : List D) (vs : List V) (fp : List Addr), noPL ds = true → RepL κ F H ds vs fp → RepL κ' F H ds vs fp
  | [], _, _, _, h => by cases h; exact .nil
  | d :: ds, _, _, hn, h => by
    rw [noPL, Bool.and_eq_true] at hn
    cases h with | cons h1 h2 => exact .cons (Rep.repin e F H d _ _ hn.1 h1) (RepL.repin e F H ds _ _ hn.2 h2)
end
mutual
theorem Rep.noP {M : PySem.W.Frag} {κ : Kap M} (e : κ.pv = []) (F H : Hp) : ∀ (d : D) (v : V) (fp : List Addr), Rep κ F H d v fp → PV.noP d = true
  | .non, _, _, _ => rfl
  | .bl _, _, _, _ => rfl
  | .int _, _, _, _ => rfl
  | .str _, _, _, _ => rfl
  | .tup ds, _, _, h => by
    rw [PV.noP]
    cases h with | tup ha hl => exact RepL.noP e F H ds _ _ hl
  | .nd t k ds, _, _, h => by
    rw [PV.noP]
    cases h with
    | ndO ha hs hl => exact RepL.noP e F H ds _ _ hl
    | ndF ha hr hs hl => exact RepL.noP e F H ds _ _ hl
    | ndT ha hr hs hl => exact RepL.noP e F H ds _ _ hl
    | ndK ha hl => exact RepL.noP e F H ds _ _ hl
  | .pin _ _, _, _, h => by
    cases h with | pin hp _ => rw [e] at hp; simp at hp
  | .pack _ _, _, _, h => by
    cases h with | pack hp _ _ => exact absurd e hp
theorem RepL.noP {M : PySem.W.Frag} {κ : Kap M} (e : κ.pv = []) (F H : Hp) : ∀ (ds : List D) (vs : List V) (fp : List Addr), RepL κ F H ds vs fp → noPL ds = true
  | [], _, _, _ => rfl
  | d :: ds, _, _, h => by
    cases h with | cons h1 h2 => rw [noPL, Rep.noP e F H d _ _ h1, RepL.noP e F H ds _ _ h2]; rfl
end
section
variable {M : PySem.W.Frag} {κ : Kap M} {K F0 F H : Hp}
theorem RetOk.pin (e : κ.pv = []) (as : List Addr) {d : D} {v : V} {fp : List Addr} (R : RetOk κ K F0 F H d v fp) : RetOk (κ.pin as) K F0 F H d v fp :=
  ⟨R.kk, ⟨R.f0.same, ⟨R.f0.mks.mt, R.f0.mks.tt⟩⟩, R.fh, R.gr, R.rep.repin (κ := κ) (κ' := κ.pin as) rfl _ _ _ _ _ (R.rep.noP e _ _ _ _ _), R.nd, R.ow, R.nt⟩
end
theorem Cal.pin {P : Program} {w : World} {K : PySem.W.Frag} {mg : Str → Option Value} {base : Heap} {c : Cfg K} {x : Str} {k n : Nat} {Φ : List D → Res D} {dd : List D} (C : Cal P w K mg base c x k n Φ dd) (e : c.κ.pv = []) (as : List Addr) : Cal P w K mg base (c.pin as) x k n Φ dd := by
  obtain ⟨f, fd, ps, dvs, ds, F, hm, hk, hb, hd, hr⟩ := C.ex
  refine ⟨f, fd, ps, dvs, ds, F.imp fun vs H Q E q => ?_, hm, hk, hb, hd, fun F H => ?_⟩
  · obtain ⟨Kh, F0, ds, kk, fh, r, nt, hl, p⟩ := q
    refine ⟨Kh, F0, ds, kk, ⟨fh.1, ⟨fh.2.1.mt, fh.2.1.tt⟩, fh.2.2⟩, r.repin (κ := c.κ.pin as) (κ' := c.κ) rfl _ _ _ _ _ fh.2.2, nt, hl, ?_⟩
    cases z : lenIs n Φ ds with
    | ok d => rw [z] at p; exact fun v H' F' fp R => p v H' F' fp (R.pin e as)
    | exc x => rw [z] at p; exact p
    | stuck => rw [z] at p; exact p
  · have r := hr F H
    exact r.repin (κ := c.κ) (κ' := c.κ.pin as) rfl _ _ _ _ _ (r.noP e _ _ _ _ _)
def SpIO {M : PySem.W.Frag} (c : Cfg M) (n m : Nat) (Φ : List D → Res D) : Sp := fun vs H Q E => ∃ K F0 ds as φ, (vs.length = n ∧ ds.length = n ∧ as.length = m) ∧ SE true (c.κ.pin as) K F0 F0 (ds.map some) φ (vs.map some) H ∧ PostF (c.pin as) E K F0 (Φ ds) Q
def pinsOf : List Nat → Nat → Env → Option (List D)
  | [], _, _ => some []
  | i :: is, j, env => match env[i]? with
    | some (some (.pin j' c)) => if j' = j then (pinsOf is (j + 1) env).map (c :: ·) else none
    | _ => none
section
variable {bb : Bool} {M : PySem.W.Frag} {κ : Kap M} {K F0 F H : Hp} {env : Env} {φ : Nat → List Addr} {σ : L2.St} {i j : Nat} {d : D}
theorem SE.unpin (S : SE bb κ K F0 F env φ σ H) (e : env[i]? = some (some (.pin j d))) : SE bb κ K F0 F (env.set i (some d)) φ σ H ∧ ∃ a, κ.pv[j]? = some a ∧ σ[i]? = some (some (.ref a)) := by
  obtain ⟨v, h1, h2, h3⟩ := S.sl i _ e
  generalize hφ : φ i = fp at h2
  cases h2 with
  | @pin _ a _ _ hp hd =>
    refine ⟨⟨by simpa using S.len, S.kk, S.f0, S.fh, S.gr, fun k z q => ?_, S.nd, S.dj, S.ow⟩, a, hp, h1⟩
    by_cases hk : k = i
    · subst hk
      rw [List.getElem?_set_self (List.getElem?_eq_some_iff.mp e).1] at q
      cases q
      exact ⟨_, h1, by rw [hφ]; exact hd, fun z => by have := h3 z; rw [noT] at this; exact this⟩
    · rw [List.getElem?_set_ne (Ne.symm hk)] at q
      exact S.sl k z q
theorem SE.repin {a : Addr} (S : SE bb κ K F0 F env φ σ H) (e : env[i]? = some (some d)) (hp : κ.pv[j]? = some a) (hv : σ[i]? = some (some (.ref a))) : SE bb κ K F0 F (env.set i (some (.pin j d))) φ σ H := by
  refine ⟨by simpa using S.len, S.kk, S.f0, S.fh, S.gr, fun k z q => ?_, S.nd, S.dj, S.ow⟩
  by_cases hk : k = i
  · subst hk
    rw [List.getElem?_set_self (List.getElem?_eq_some_iff.mp e).1] at q
    cases q
    obtain ⟨v, h1, h2, h3⟩ := S.sl k _ e
    rw [hv] at h1
    cases h1
    exact ⟨_, hv, .pin hp h2, fun z => by rw [noT]; exact h3 z⟩
  · rw [List.getElem?_set_ne (Ne.symm hk)] at q
    exact S.sl k z q
end
def pinsV : Nat → List D → Option (List D)
  | _, [] => some []
  | j, x :: xs => match x with
    | .pin j' c => if j' = j then (pinsV (j + 1) xs).map (c :: ·) else none
    | _ => none
section
variable {β : Type} {R : SR → Res β → Prop} {q : D → Res β} {env : Env} {u w : Env → SR} {f : Env → Res (D × Env)} {fx gx : Res D} {f0 : Env → Res D} {i k : Nat} {x y : D} {c : Res (D × D)} {e' : D → Env}
theorem pins1 (h : env[i]? = some (some x)) : ∀ j, pinsOf [i] j env = pinsV j [x] := fun j => by
  unfold pinsOf pinsV
  rw [h]
  cases x <;> rfl
theorem pins2 {i2 : Nat} {x2 : D} (h : env[i]? = some (some x)) (h2 : env[i2]? = some (some x2)) : ∀ j, pinsOf [i, i2] j env = pinsV j [x, x2] := fun j => by
  have e := pins1 h2 (j + 1)
  unfold pinsOf pinsV
  rw [h]
  cases x with
  | pin j' c => dsimp only; rw [e]
  | _ => rfl
end
@[simp] theorem rd_pin {j : Nat} {d : D} : rd (.pin j d) = rd d := by rw [rd]
@[simp] theorem fz_pin {j : Nat} {d : D} : fz (.pin j d) = fz d := by rw [fz]
section
variable {M : PySem.W.Frag} {κ : Kap M} {F H : Hp}
theorem DGet.tr {H : Hp} {a b : Addr} {kvs : List (List Key × V)} {k : List Key} (e : Rd H a (.dT kvs)) (eb : H b = some (.tup (k.map kV))) : DGet H a (.ref b) (valV kvs k) := .inr ⟨kvs, k, b, e, rfl, eb, rfl⟩
end
def putLT (ks : List (List Key)) (ds : List D) (k : List Key) (d : D) : D := match ixK ks k with
  | some j => .nd .own (.dit ks) (ds.set j d)
  | none => .nd .own (.dit (ks ++ [k])) (ds ++ [d])
section
variable {M : PySem.W.Frag} {κ : Kap M} {F H : Hp}
theorem RepL.putT {ks : List (List Key)} {ds : List D} {vs : List V} {fp fd : List Addr} {d : D} {v : V} (k : List Key) (hn : ks.Nodup) (hl : ks.length = vs.length) (r : RepL κ F H ds vs fp) (rd : Rep κ F H d v fd) (n1 : fp.Nodup) (n2 : fd.Nodup) (dj : ∀ a ∈ fd, a ∉ fp) (nt : noTL ds = true) (nd : noT d = true) :
    ∃ ks' ds' vs' fr, putLT ks ds k d = .nd .own (.dit ks') ds' ∧ IsHO κ (.dit ks') vs' (.dT (putK (ks.zip vs) k v)) ∧ RepL κ F H ds' vs' fr ∧ fr.Nodup ∧ (∀ a ∈ fr, a ∈ fp ∨ a ∈ fd) ∧ noTL ds' = true := by
  unfold putLT
  cases hj : ixK ks k with
  | some j =>
    have lt : j < ds.length := by
      have := (ixK_some hj).2
      have := r.length
      omega
    obtain ⟨fr, h1, h2, h3⟩ := RepL.set j lt r rd n1 n2 dj
    exact ⟨ks, _, _, fr, rfl, ⟨⟨hn, by rw [List.length_set]; exact hl⟩, congrArg HO.dT (putK_some hn hl hj)⟩, h1, h2, h3, noTL_set _ _ _ nt nd⟩
  | none =>
    refine ⟨ks ++ [k], _, vs ++ [v], fp ++ fd, rfl, ⟨⟨nodup_snoc hn hj, by simp [hl]⟩, congrArg HO.dT (putK_none hl hj)⟩, ?_, List.nodup_append.mpr ⟨n1, n2, fun a m b m2 e => dj b m2 (e ▸ m)⟩, fun a m => List.mem_append.mp m, by rw [noTL_append, nt, noTL_cons, nd]; rfl⟩
    have := r.append (RepL.cons rd .nil)
    simpa using this
end
structure CalM (P : Program) (w : World) (K : PySem.W.Frag) (mg : Str → Option Value) (base : Heap) (c : Cfg K) (C m : Str) (k n : Nat) (Φ : List D → Res D) : Prop where
  ex : ∃ (f : Addr) (fd : FuncData) (ps : List Str), Cls K (c.κ.cls C) ∧ Meth K (c.κ.cls C) m f ∧ FnOk P w K mg base (L2.CX P w) k f fd ps (SpIO c n 1 (lenIs n Φ)) ∧ Binds K fd ps []
theorem CalM.pin {P : Program} {w : World} {K : PySem.W.Frag} {mg : Str → Option Value} {base : Heap} {c : Cfg K} {C m : Str} {k n : Nat} {Φ : List D → Res D} (M : CalM P w K mg base c C m k n Φ) (as : List Addr) : CalM P w K mg base (c.pin as) C m k n Φ := ⟨M.ex⟩
def Itt (z : Str) : It :=
  ⟨fun i _ => i < z.cps.size, fun i H v H' => ∃ T c, v = .ref T ∧ H T = none ∧ H' = upd H T (.tup [.int (i : Nat), .str ⟨#[c]⟩]) ∧ z.cps[i]? = some c, fun i _ => z.cps.size ≤ i⟩
end PV
end
section
namespace PySem
end PySem
namespace PV
open PySem PySem.Spec PyProof.Rows L2
end PV
end
section
namespace PV
open PySem PySem.Spec PyProof.Rows L2
structure CalR (P : Program) (w : World) (K : PySem.W.Frag) (mg : Str → Option Value) (base : Heap) (c : Cfg K) (C m : Str) (k : Nat) (Φ : List D → Res D) : Prop where
  ex : ∃ (f : Addr) (fd : FuncData) (ps : List Str), Cls K (c.κ.cls C) ∧ Meth K (c.κ.cls C) m f ∧ FnOk P w K mg base (L2.CX P w) k f fd ps (SpD c 1 (lenIs 1 Φ)) ∧ Binds K fd ps []
theorem CalR.pin {P : Program} {w : World} {K : PySem.W.Frag} {mg : Str → Option Value} {base : Heap} {c : Cfg K} {C m : Str} {k : Nat} {Φ : List D → Res D} (M : CalR P w K mg base c C m k Φ) (e : c.κ.pv = []) (as : List Addr) : CalR P w K mg base (c.pin as) C m k Φ := by
  obtain ⟨f, fd, ps, hC, hM, F, hb⟩ := M.ex
  refine ⟨f, fd, ps, hC, hM, F.imp fun vs H Q E q => ?_, hb⟩
  obtain ⟨Kh, F0, ds, kk, fh, r, nt, hl, p⟩ := q
  refine ⟨Kh, F0, ds, kk, ⟨fh.1, ⟨fh.2.1.mt, fh.2.1.tt⟩, fh.2.2⟩, r.repin (κ := c.κ.pin as) (κ' := c.κ) rfl _ _ _ _ _ fh.2.2, nt, hl, ?_⟩
  cases z : lenIs 1 Φ ds with
  | ok d => rw [z] at p; exact fun v H' F' fp R => p v H' F' fp (R.pin e as)
  | exc x => rw [z] at p; exact p
  | stuck => rw [z] at p; exact p
end PV
namespace PV
open PySem PySem.Spec PyProof.Rows L2
end PV
end
section
namespace PV
open PySem PySem.Spec PyProof.Rows L2 He
def nextZ (g : Addr → Option Obj) (as : List Addr) : List Addr := as.flatMap fun a => match g a with
  | some o => (refsD o).filter fun b => !Nat.beq b mainGlobals
  | none => []
def levZ' (g : Addr → Option Obj) : Nat → List Addr → List Addr
  | 0, as => as
  | n + 1, as => as ++ levZ' g n (nextZ g as)
def placesZ (g : Addr → Option Obj) (n : Nat) : List Addr := cStatics :: levZ' g n [mainGlobals]
end PV
end
section
namespace PV
open PySem PySem.Spec PyProof.Rows L2 PySem.Froz
theorem laid31_eq (f m : Nat) (l p : Bool) (hs : Array Int) : SetTable.laid 31 f m l p hs = (SetTable.layClean 31 hs).bind fun owner =>
    some ({ mask := 31, place := ((liveOf 31 owner).map (·.1)).toArray, dummies := #[], finger := f, led := l, moves := m, plain := p }, ((liveOf 31 owner).map (·.2)).toArray) := rfl
def tab0 : SetTable := { mask := 0, place := #[], dummies := #[], finger := 0, led := true, moves := 0, plain := true }
theorem laid31_ok (f m : Nat) (l p : Bool) {hs : Array Int} (hn : hs.size ≤ 31) : ∃ t' order, SetTable.laid 31 f m l p hs = some (t', order) ∧ order.toList.Perm (List.range hs.size) ∧
    t'.place.size = hs.size ∧ Ris t'.place.toList ∧ t'.mask = 31 ∧ t'.led = l ∧ t'.dummies = #[] := by
  obtain ⟨t', o, e, pm, T, _⟩ := relaid_ok tab0 (wanted := 16) (M := 31) (by decide) (Or.inr (Or.inl rfl)) hn
  have q : SetTable.sizeAbove 16 - 1 = 31 := by decide
  rw [relaid_eq, q] at e
  cases hc : SetTable.layClean 31 hs with
  | none => rw [hc] at e; cases e
  | some owner =>
    rw [hc] at e
    injection e with e
    injection e with e1 e2
    subst e1 e2
    refine ⟨{ mask := 31, place := ((liveOf 31 owner).map (·.1)).toArray, dummies := #[], finger := f, led := l, moves := m, plain := p }, ((liveOf 31 owner).map (·.2)).toArray, by rw [laid31_eq, hc]; rfl, pm, ?_, T.ris, rfl, rfl, rfl⟩
    have := T.sz
    rw [List.length_map, pm.length_eq, List.length_range] at this
    exact this
theorem pick_at {α : Type} (es : Array α) {o : Array Nat} (pm : o.toList.Perm (List.range es.size)) : (o.filterMap (es[·]?)).toList.Perm es.toList := by
  rw [Array.toList_filterMap]
  exact (pm.filterMap _).trans (by rw [PySem.filterMap_getElem?_range])
theorem setMerge_eq (s o : Addr) : setMerge s o = (do
    if s == o then return
    let (eo, epoch, to) ← setState o
    if eo.isEmpty then return
    setRoomFor s eo.size
    let (_, _, ts) ← setState s
    match ts.road to with
    | .slotForSlot => storeSet s eo { to with finger := ts.finger, led := ts.led && to.led, moves := ts.moves, plain := ts.plain && to.plain }
    | .clean =>
      let (es, t) ← (do
        let some (t, order) := SetTable.laid ts.mask ts.finger ts.moves (led := ts.led && to.led) (plain := ts.plain && to.plain) (eo.map (·.1)) | unsupported "internal:set-table-without-room"
        let es' := order.filterMap (eo[·]?)
        if es'.size != eo.size then unsupported "internal:set-table-lost-an-element"
        pure (es', t) : Sem (Array (Int × Value) × SetTable))
      storeSet s es t
    | .oneByOne =>
      for (h, x) in ← setWalkUnseen o [s] (some s) do
        let _ ← holding [x] (setAddHashed s x h)
        pure ()
        if (← setState o).2.1 != epoch then unsupported "set.changed-during-merge") := rfl
section
variable {P : Program} {w : World} {K : Type} [DecidableEq K] {knd : PySem.KeyKind P w K} {A : Around} {E : Value → Shared → Prop} {s : Shared}
structure Cop (knd : PySem.KeyKind P w K) (h : Heap) (a : Addr) (T : List (Row K)) (D : SD) : Prop where
  at_ : h.get? a = some (sObj "set" D)
  pm : D.1.toList.Perm (T.map Prod.fst)
  ok : ∀ r ∈ T, RowOk knd r
  nd : (T.map Prod.snd).Nodup
  bd : D.1.size ≤ 15
  sz : D.2.2.place.size = D.1.size
  dm : D.2.2.dummies = #[]
  mask : D.2.2.mask = 31
  ris : Ris D.2.2.place.toList
  led : w.params.followText "set-order" = true ∨ D.2.2.led = true
theorem relay_empty {r : Addr} {n : Nat} (hn : SetTable.sizeAbove n = 32) {led : Bool} {Q : Unit → Shared → Prop} (ho : s.heap.get? r = some (sObj "set" (#[], 0, .fresh 0 0 led)))
    (hQ : ∀ t, t.mask = 31 → t.place = #[] → t.dummies = #[] → t.led = led → Q () { s with heap := s.heap.update r fun _ => sObj "set" (#[], 1, t) }) : wpAny (model P w) A (setRelay r n) Q E s := by
  rw [setRelay_eq]
  refine wpAny_bind (wpAny_setState_of ho rfl (by rfl) ?_)
  dsimp only
  rw [if_neg (by rw [hn, sizeLine_eq]; decide)]
  have q : SetTable.sizeAbove n - 1 = 31 := by rw [hn]
  obtain ⟨t', o, e, pm, T, h1, h2, _, h4⟩ := relaid_ok (SetTable.fresh 0 0 led) (wanted := n) (M := 31) (hs := (#[] : Array (Int × Value)).map (·.1)) q (Or.inr (Or.inl rfl)) (by simp)
  have eo : o = #[] := by
    have := pm.length_eq
    simp at this
    exact this
  subst eo
  have e' : (SetTable.fresh 0 0 led).relaid ((#[] : Array (Int × Value)).map (·.1)) n = some (t', #[]) := e
  rw [e']
  refine wpAny_bind (wpAny_pure ?_)
  have hp : t'.place = #[] := by
    have := T.sz
    simp at this
    exact this
  have e0 : (Array.filterMap (fun x => (#[] : Array (Int × Value))[x]?) (#[] : Array Nat)) = #[] := rfl
  show wpAny _ _ (storeSet r (Array.filterMap (fun x => (#[] : Array (Int × Value))[x]?) (#[] : Array Nat)) t') _ _ _
  rw [e0]
  refine wpAny_storeSet_of ho rfl ?_ (Nat.zero_le _)
  have e1 : s.heap.update r (Obj.putSet #[] t') = s.heap.update r (fun _ => sObj "set" (#[], 1, t')) := (upd_const _ ho).trans rfl
  exact e1 ▸ hQ t' h1 hp h4 h2
theorem upd_other {h : Heap} {r b : Addr} (f : Obj → Obj) (n : b ≠ r) : (h.update r f).get? b = h.get? b := (Heap.SameBut.update h r f).2 b n
theorem copy_at {a : Addr} {T : List (Row K)} {Q : Value → Shared → Prop} (S : SetT knd s.heap a T) (h8 : 8 ≤ T.length) (h15 : T.length ≤ 15)
    (hQ : ∀ h' D, (∀ b o, s.heap.get? b = some o → h'.get? b = some o) → Cop knd h' s.heap.objs.size T D → Q (.ref s.heap.objs.size) { s with heap := h' }) :
    wpAny (model P w) A (Builtin.Frozenset.copyOf a) Q E s := by
  obtain ⟨⟨es, ep, t⟩, ho, pm, ok, nd, hb, hf, hr, hl⟩ := S
  dsimp only at pm hb hf hr hl
  have sz : es.size = T.length := SetT.size (h := s.heap) (a := a) (D := (es, ep, t)) pm
  have ty : s.TypeIs (.ref a) "set" := ⟨_, ho, rfl⟩
  have lt := Heap.lt_size ho
  have ne : ∀ b o, s.heap.get? b = some o → b ≠ s.heap.objs.size := fun b o q => Nat.ne_of_lt (Heap.lt_size q)
  unfold Builtin.Frozenset.copyOf Builtin.Frozenset.baseOf
  refine wpAny_bind (wpAny_bind (wpAny_isInstance ty PySem.F.sub_set_set (wpAny_pure ?_)))
  unfold PySem.newSet
  refine wpAny_bind (wpAny_bind (wpAny_byText ?_))
  dsimp only
  refine wpAny_newObj_type ?_
  unfold Builtin.Frozenset.addrOf
  refine wpAny_bind (wpAny_pure ?_)
  rw [setMerge_eq]
  have g0 : (s.heap.push (PV.newSet w)).get? s.heap.objs.size = some (PV.newSet w) := Heap.get?_push_size _ rfl
  have ga : (s.heap.push (PV.newSet w)).get? a = some (sObj "set" (es, ep, t)) := Heap.get?_push_of_some _ ho
  have nra : (s.heap.objs.size == a) = false := by simp [Nat.ne_of_gt lt]
  refine wpAny_bind ?_
  rw [nra]
  refine wp_if_neg (by simp) ?_
  try refine wpAny_bind (wpAny_pure ?_)
  refine wpAny_bind (wpAny_setState_of ga rfl hf ?_)
  dsimp only
  refine wp_if_neg (by rw [Array.isEmpty_iff_size_eq_zero]; omega) ?_
  try refine wpAny_bind (wpAny_pure ?_)
  unfold setRoomFor
  refine wpAny_bind (wpAny_bind (wpAny_setState_of g0 rfl (by rfl) ?_))
  have rf : (SetTable.fresh 0 0 (!w.params.followText "set-order")).roomFor es.size = some ((0 + es.size) * 2) := by
    show (if (0 + es.size) * 5 ≥ 7 * 3 then some ((0 + es.size) * 2) else none) = _
    rw [if_pos (by omega)]
  dsimp only
  rw [rf]
  dsimp only
  have h32 : SetTable.sizeAbove ((0 + es.size) * 2) = 32 := by
    have : es.size = 8 ∨ es.size = 9 ∨ es.size = 10 ∨ es.size = 11 ∨ es.size = 12 ∨ es.size = 13 ∨ es.size = 14 ∨ es.size = 15 := by omega
    rcases this with e | e | e | e | e | e | e | e <;> rw [e] <;> decide
  refine relay_empty h32 g0 fun t1 m1 p1 d1 l1 => ?_
  have g1 : ((s.heap.push (PV.newSet w)).update s.heap.objs.size fun _ => sObj "set" (#[], 1, t1)).get? s.heap.objs.size = some (sObj "set" (#[], 1, t1)) := get_upd _ g0 rfl
  have ga1 : ((s.heap.push (PV.newSet w)).update s.heap.objs.size fun _ => sObj "set" (#[], 1, t1)).get? a = some (sObj "set" (es, ep, t)) := (upd_other _ (Nat.ne_of_lt lt)).trans ga
  have f1 : t1.fill = 0 := by
    show t1.place.size + t1.dummies.size = 0
    rw [p1, d1]
    rfl
  refine wpAny_bind (wpAny_setState_of g1 rfl (by
    show (t1.place.size == 0 && decide (t1.fill ≤ t1.mask)) = true
    rw [p1, f1]
    simp) ?_)
  dsimp only
  have ld : w.params.followText "set-order" = true ∨ (t1.led && t.led) = true := by
    rcases hl with q | q
    · exact .inl q
    · cases z : w.params.followText "set-order" with
      | true => exact .inl rfl
      | false =>
        refine .inr ?_
        rw [l1, q, z]
        rfl
  have done : ∀ D1 : SD, D1.1.toList.Perm es.toList → D1.2.2.place.size = D1.1.size → D1.2.2.dummies = #[] → D1.2.2.mask = 31 → Ris D1.2.2.place.toList → D1.2.2.led = (t1.led && t.led) →
      Q (.ref s.heap.objs.size) { s with heap := (((s.heap.push (PV.newSet w)).update s.heap.objs.size fun _ => sObj "set" (#[], 1, t1)).update s.heap.objs.size fun _ => sObj "set" D1) } := by
    intro D1 q1 q2 q3 q4 q5 q6
    refine hQ _ D1 (fun b o q => ?_) ⟨get_upd _ g1 rfl, q1.trans pm, ok, nd, ?_, q2, q3, q4, q5, by rw [q6]; exact ld⟩
    · rw [upd_other _ (ne b o q), upd_other _ (ne b o q)]
      exact Heap.get?_push_of_some _ q
    · rw [← Array.length_toList, q1.length_eq, Array.length_toList]
      omega
  have pz : t.place.size = es.size := by
    simp only [SetTable.fits, Bool.and_eq_true, beq_iff_eq, decide_eq_true_eq] at hf
    exact hf.1
  unfold SetTable.road
  rw [f1]
  simp only [bne_self_eq_false, Bool.false_eq_true, if_false]
  by_cases c : (t1.mask == t.mask && t.dummies.isEmpty) = true
  · rw [if_pos c]
    dsimp only
    rw [Bool.and_eq_true, beq_iff_eq, Array.isEmpty_iff] at c
    refine wpAny_storeSet_of g1 rfl ?_ (fits_of_scanBound hb)
    refine wpAny_pure ?_
    have e2 : ∀ (t2 : SetTable), ((s.heap.push (PV.newSet w)).update s.heap.objs.size fun _ => sObj "set" (#[], 1, t1)).update s.heap.objs.size (Obj.putSet es t2) = ((s.heap.push (PV.newSet w)).update s.heap.objs.size fun _ => sObj "set" (#[], 1, t1)).update s.heap.objs.size fun _ => sObj "set" (es, 2, t2) := fun t2 => (upd_const _ g1).trans rfl
    have := done (es, 2, { t with finger := t1.finger, led := t1.led && t.led, moves := t1.moves, plain := t1.plain && t.plain }) (List.Perm.refl _) pz c.2 (by rw [← m1]; exact c.1.symm) hr rfl
    rw [← e2] at this
    exact this
  · rw [if_neg c]
    dsimp only
    have hn : (es.map (·.1)).size ≤ 31 := by rw [Array.size_map]; omega
    obtain ⟨t', o, e, q1, q2, q3, q4, q5, q6⟩ := laid31_ok t1.finger t1.moves (t1.led && t.led) (t1.plain && t.plain) hn
    rw [Array.size_map] at q1 q2
    rw [m1, e]
    have pp := pick_at es q1
    have pl : (o.filterMap (es[·]?)).size = es.size := by rw [← Array.length_toList, pp.length_eq, Array.length_toList]
    have e2 : ∀ (es2 : Array (Int × Value)) (t2 : SetTable), ((s.heap.push (PV.newSet w)).update s.heap.objs.size fun _ => sObj "set" (#[], 1, t1)).update s.heap.objs.size (Obj.putSet es2 t2) = ((s.heap.push (PV.newSet w)).update s.heap.objs.size fun _ => sObj "set" (#[], 1, t1)).update s.heap.objs.size fun _ => sObj "set" (es2, 2, t2) := fun es2 t2 => (upd_const _ g1).trans rfl
    refine wpAny_bind ?_
    show wpAny _ _ (if ((o.filterMap (es[·]?)).size != es.size) = true then _ else _) _ _ _
    refine wp_if_neg (by rw [pl]; simp) (wpAny_pure ?_)
    refine wpAny_storeSet_of g1 rfl ?_ (by rw [pl]; exact fits_of_scanBound hb)
    refine wpAny_pure ?_
    have := done (o.filterMap (es[·]?), 2, t') pp (q2.trans pl.symm) q6 q4 q3 q5
    rw [← e2] at this
    exact this
theorem walk_at {a : Addr} {es : Array (Int × Value)} {ep : Nat} {t : SetTable} {Q : Array (Int × Value) → Shared → Prop} (ho : s.heap.get? a = some (sObj "set" (es, ep, t))) (hf : t.fits es.size = true)
    (hl : w.params.followText "set-order" = true ∨ t.led = true) (hd : w.params.followText "set-order" = true ∨ (!t.plain && decide (es.size > 1)) = false)
    (hQ : ∀ es', es'.toList.Perm es.toList → Q es' s) : wpAny (model P w) A (setWalk a) Q E s := by
  unfold setWalk
  refine wpAny_bind (wpAny_setState_of ho rfl hf ?_)
  dsimp only
  refine wpAny_bind (wpAny_byText ?_)
  cases z : w.params.followText "set-order" with
  | true =>
    refine wp_if_pos rfl ?_
    exact wpAny_bind (wpAny_askSetting (wpAny_pure (hQ _ (pick_perm _ _))))
  | false =>
    rw [z] at hl hd
    have l1 := hl.resolve_left Bool.false_ne_true
    have d1 := hd.resolve_left Bool.false_ne_true
    refine wp_if_neg Bool.false_ne_true ?_
    refine wp_if_neg (by show ¬ ((!t.plain && decide (es.size > 1)) = true); rw [d1]; exact Bool.false_ne_true) ?_
    refine wpAny_bind (wpAny_of_eq (a := ()) ?_ ?_)
    · show (if (!t.led && decide (es.size > 1)) = true then unsupported "set:maker-not-led" else pure ()) = pure ()
      rw [l1] <;> rfl
    · exact wpAny_pure (hQ _ (List.Perm.refl _))
theorem walk_few {a : Addr} {es : Array (Int × Value)} {ep : Nat} {t : SetTable} {os : List Addr} {f : Option Addr} {Q : Array (Int × Value) → Shared → Prop} (ho : s.heap.get? a = some (sObj "set" (es, ep, t))) (hf : t.fits es.size = true)
    (hl : w.params.followText "set-order" = true ∨ t.led = true) (h1 : es.size ≤ 1)
    (hQ : ∀ es', es'.toList.Perm es.toList → Q es' s) : wpAny (model P w) A (setWalkUnseen a os f) Q E s := by
  unfold setWalkUnseen
  refine wpAny_bind (wpAny_setState_of ho rfl hf ?_)
  dsimp only
  refine wpAny_bind (wpAny_byText ?_)
  refine wp_if_pos (by simp [h1]) ?_
  refine walk_at ho hf hl (.inr ?_) hQ
  have : ¬ es.size > 1 := by omega
  simp [this]
theorem quiet_sets {Q : Bool → Shared → Prop} : ∀ (l : List Addr), (∀ a ∈ l, ∃ T : List (Row K), SetT knd s.heap a T) → Q true s → wpAny (model P w) A (setsQuiet l) Q E s := by
  intro l hl hQ
  unfold setsQuiet
  refine wpAny_bind (wpAny_forIn_list _ (fun r (b : Option Bool × Unit) s' => b = (none, ()) ∧ s' = s ∧ ∀ a ∈ r, ∃ T : List (Row K), SetT knd s.heap a T) _ ?_ ?_ l (none, ()) ⟨rfl, rfl, hl⟩)
  · rintro a rest b s' ⟨rfl, rfl, h⟩
    obtain ⟨T, ⟨es, ep, t⟩, ho, pm, ok, nd, hb, hf, hr, hl'⟩ := h a (.head _)
    refine wpAny_bind (wpAny_setEntries_of ho rfl hf ?_)
    refine wpAny_bind (PySem.MeetsSeq2.wpAny_forIn_array _ (fun r (b : Option Bool × Unit) s2 => b = (none, ()) ∧ s2 = s' ∧ ∀ e ∈ r, e ∈ es.toList) _ ?_ ?_ es (none, ()) ⟨rfl, rfl, fun e he => he⟩)
    · rintro ⟨hh, x⟩ rest2 b s2 ⟨rfl, rfl, h2⟩
      have hx := (rows_elems pm ok _ (h2 _ (.head _))).2
      cases x <;> first | exact wpAny_pure ⟨rfl, rfl, fun e he => h2 e (.tail _ he)⟩ | exact absurd hx Bool.false_ne_true
    · rintro b s2 ⟨rfl, rfl, _⟩
      exact wpAny_pure ⟨rfl, rfl, fun c hc => h c (.tail _ hc)⟩
  · rintro b s' ⟨rfl, rfl, _⟩
    exact wpAny_pure hQ
theorem walk_fill {a r : Addr} {es : Array (Int × Value)} {ep : Nat} {t : SetTable} {os : List Addr} {T0 : List (Row K)} {Q : Array (Int × Value) → Shared → Prop} (S : SetT knd s.heap a T0) (ho : s.heap.get? a = some (sObj "set" (es, ep, t))) (hr : SetT knd s.heap r ([] : List (Row K)))
    (hos : ∀ a ∈ os, ∃ T : List (Row K), SetT knd s.heap a T) (hQ : ∀ es' h', es'.toList.Perm es.toList → Heap.SameBut r s.heap h' → SetT knd h' r ([] : List (Row K)) → Q es' { s with heap := h' }) : wpAny (model P w) A (setWalkUnseen a os (some r)) Q E s := by
  have S0 := S
  obtain ⟨D, ho', pm, ok, nd, hb, hf, hri, hl⟩ := S
  have eD : D = (es, ep, t) := by
    have := Option.some.inj (ho'.symm.trans ho)
    obtain ⟨x, y, z⟩ := D
    injection this with _ _ q
    injection q with q1 q2 q3
    exact Prod.ext q1 (Prod.ext q2 q3)
  subst eD
  dsimp only at pm hb hf hri hl
  have stay : ∀ es', es'.toList.Perm es.toList → Q es' s := fun es' p => hQ es' s.heap p (Heap.SameBut.refl r s.heap) hr
  unfold setWalkUnseen
  refine wpAny_bind (wpAny_setState_of ho rfl hf ?_)
  dsimp only
  refine wpAny_bind (wpAny_byText ?_)
  by_cases c : (w.params.followText "set-order" || (t.led && t.plain) || decide (es.size ≤ 1)) = true
  · refine wp_if_pos c ?_
    refine walk_at ho hf hl ?_ stay
    rw [Bool.or_eq_true, Bool.or_eq_true, Bool.and_eq_true, decide_eq_true_eq] at c
    rcases c with (c | c) | c
    · exact .inl c
    · exact .inr (by rw [c.2]; rfl)
    · refine .inr ?_
      have : ¬ es.size > 1 := by omega
      simp [this]
  · refine wp_if_neg c ?_
    refine wpAny_bind (quiet_sets (knd := knd) (a :: os) (fun b hb' => ?_) ?_)
    · rcases List.mem_cons.mp hb' with rfl | q
      · exact ⟨_, S0⟩
      · exact hos b q
    refine wp_if_neg (by simp) ?_
    refine wpAny_bind (wpAny_rule ?_)
    obtain ⟨⟨ef, epf, tf⟩, hof, pmf, okf, ndf, hbf, hff, hrf, hlf⟩ := hr
    refine wpAny_bind (wpAny_setState_of hof rfl hff ?_)
    split
    · refine wpAny_bind (wpAny_storeSet_of hof rfl ?_ (fits_of_scanBound hbf))
      refine wpAny_pure (hQ es _ (List.Perm.refl _) (Heap.SameBut.update _ r _) ?_)
      have e2 : ∀ t2, s.heap.update r (Obj.putSet ef t2) = s.heap.update r (fun _ => sObj "set" (ef, epf + 1, t2)) := fun t2 => (upd_const _ hof).trans rfl
      rw [e2]
      refine ⟨_, get_upd _ hof rfl, pmf, okf, ndf, hbf, hff, hrf, ?_⟩
      rcases hlf with q | q
      · exact .inl q
      · rcases hl with q' | q'
        · exact .inl q'
        · refine .inr ?_
          show (tf.led && t.led) = true
          rw [show tf.led = true from q, show t.led = true from q']
          rfl
    · exact wpAny_pure (stay es (List.Perm.refl _))
theorem part_row {T : List (Row K)} {r0 : Row K} (h : r0 ∈ T) (nd : (T.map Prod.snd).Nodup) : ∃ T', T.Perm (r0 :: T') ∧ ∀ j, j ∈ T'.map Prod.snd ↔ j ∈ T.map Prod.snd ∧ j ≠ r0.2 := by
  obtain ⟨l1, l2, rfl⟩ := List.append_of_mem h
  refine ⟨l1 ++ l2, List.perm_middle, fun j => ?_⟩
  have p : ((l1 ++ r0 :: l2).map Prod.snd).Perm (r0.2 :: (l1 ++ l2).map Prod.snd) := (List.perm_middle (l₁ := l1) (l₂ := l2) (a := r0)).map Prod.snd
  have nd2 := p.nodup_iff.mp nd
  rw [List.nodup_cons] at nd2
  rw [p.mem_iff, List.mem_cons]
  exact ⟨fun q => ⟨.inr q, fun e => nd2.1 (e ▸ q)⟩, fun q => q.1.resolve_left q.2⟩
theorem erase_list {α : Type} (xs : Array α) (p : Nat) : (SetTable.eraseAt xs p).toList = xs.toList.eraseIdx p := by
  unfold SetTable.eraseAt
  rw [Array.toList_append, Array.toList_extract, Array.toList_extract, List.eraseIdx_eq_take_drop_succ]
  simp [List.extract]
  rw [List.take_of_length_le (by simp)]
theorem ris_erase {xs : Array Nat} (r : Ris xs.toList) (p : Nat) : Ris (SetTable.eraseAt xs p).toList := by
  rw [erase_list]
  exact List.Pairwise.sublist (List.eraseIdx_sublist _ _) r
theorem erase_size {α : Type} (xs : Array α) {p : Nat} (h : p < xs.size) : (SetTable.eraseAt xs p).size = xs.size - 1 := by
  rw [← Array.length_toList, erase_list, List.length_eraseIdx, if_pos (by rw [Array.length_toList]; exact h), Array.length_toList]
def Tidy (h : Heap) (r : Addr) : Prop := ∃ D, h.get? r = some (sObj "set" D) ∧ D.2.2.fits D.1.size = true ∧ D.2.2.tooManyDummies = false
theorem tidy_at {r : Addr} {Q : Unit → Shared → Prop} (t : Tidy s.heap r) (h : Q () s) : wpAny (model P w) A (setTidy r) Q E s := by
  obtain ⟨D, ho, hf, ht⟩ := t
  unfold setTidy
  refine wpAny_bind (wpAny_setState_of ho rfl hf ?_)
  dsimp only
  rw [ht]
  exact wpAny_pure h
theorem cop_drop {r : Addr} {T : List (Row K)} {D : SD} {x : Value} {k : K} {Q : Bool → Shared → Prop} (C : Cop knd s.heap r T D) (hx : knd.is k x = true) (sc : x.scannable = true)
    (hQ : ∀ b h' T', Heap.SameBut r s.heap h' → SetT knd h' r T' → (∀ j, j ∈ T'.map Prod.snd ↔ j ∈ T.map Prod.snd ∧ j ≠ k) → Tidy h' r → Q b { s with heap := h' }) :
    wpAny (model P w) A (setDiscardHashed r x (knd.hash k)) Q E s := by
  obtain ⟨ho, pm, ok, nd, bd, sz, dm, mk, ris, led⟩ := C
  obtain ⟨es, ep, t⟩ := D
  dsimp only at pm bd sz dm mk ris led
  have hf : t.fits es.size = true := by
    show (t.place.size == es.size && decide (t.place.size + t.dummies.size ≤ t.mask)) = true
    rw [sz, dm, mk, Bool.and_eq_true, beq_iff_eq, decide_eq_true_eq]
    exact ⟨rfl, by simp; omega⟩
  have hb : es.size < scanBound := by
    have : scanBound = 4096 := rfl
    omega
  have el := rows_elems pm ok
  unfold setDiscardHashed
  unfold setFind setFindIn
  refine wpAny_bind (wpAny_bind (wpAny_setState_of ho rfl hf ?_))
  dsimp only
  refine wp_if_pos (byScan_of sc hb el) ?_
  refine wpAny_bind (wpAny_rule ?_)
  refine wpAny_bind (wpAny_setScan_of (knd := knd) (k := k) hx ho rfl hf el ?_)
  cases fi : es.toList.findIdx? (fun e => knd.is k e.2) with
  | none =>
    dsimp only
    refine wpAny_pure ?_
    dsimp only
    refine wpAny_pure ?_
    · refine hQ _ s.heap T (Heap.SameBut.refl r s.heap) ⟨_, ho, pm, ok, nd, hb, hf, ris, led⟩ (fun j => ⟨fun q => ⟨q, fun e => ?_⟩, fun q => q.1⟩) ⟨_, ho, hf, ?_⟩
      rotate_left
      · show decide (t.dummies.size > t.mask / 4) = false
        rw [dm, mk]
        decide
      subst e
      obtain ⟨r1, h1, rfl⟩ := List.mem_map.mp q
      have := List.findIdx?_eq_none_iff.mp fi r1.1 (pm.mem_iff.mpr (List.mem_map.mpr ⟨r1, h1, rfl⟩))
      rw [(ok r1 h1).1.1] at this
      cases this
  | some i =>
    obtain ⟨hi, pi, _⟩ := List.findIdx?_eq_some_iff_getElem.mp fi
    obtain ⟨r1, h1, er⟩ := List.mem_map.mp (pm.mem_iff.mp (List.getElem_mem hi))
    have ek : r1.2 = k := by
      refine knd.inj r1.1.2 r1.2 k (ok r1 h1).1.1 ?_
      rw [er]
      exact pi
    obtain ⟨T', pT, mT⟩ := part_row h1 nd
    rw [Array.length_toList] at hi
    dsimp only
    refine wpAny_pure ?_
    dsimp only
    rw [Nat.zero_add]
    refine wpAny_bind (wpAny_setState_of ho rfl hf ?_)
    have zi : (SetTable.eraseAt es i).size = es.size - 1 := erase_size es hi
    have dr : t.drop i = { t with place := SetTable.eraseAt t.place i, dummies := SetTable.insertAt t.dummies (SetTable.below t.dummies (t.place[i]'(sz ▸ hi))) (t.place[i]'(sz ▸ hi)) } := by
      unfold SetTable.drop
      rw [Array.getElem?_eq_getElem (sz ▸ hi)]
    have d1 : (t.drop i).dummies.size = 1 := by
      rw [dr, dm]
      simp [SetTable.insertAt]
    have p1 : (t.drop i).place.size = es.size - 1 := by
      rw [dr]
      show (SetTable.eraseAt t.place i).size = _
      rw [erase_size _ (sz ▸ hi), sz]
    have m1 : (t.drop i).mask = 31 := by
      rw [dr]
      exact mk
    have f1 : (t.drop i).fits (SetTable.eraseAt es i).size = true := by
      show ((t.drop i).place.size == _ && decide ((t.drop i).place.size + (t.drop i).dummies.size ≤ (t.drop i).mask)) = true
      rw [p1, d1, m1, zi, Bool.and_eq_true, beq_iff_eq, decide_eq_true_eq]
      exact ⟨rfl, by omega⟩
    refine wpAny_bind (wpAny_storeSet_of ho rfl ?_ (by rw [zi]; exact fits_of_scanBound (by omega)))
    have e2 : s.heap.update r (Obj.putSet (SetTable.eraseAt es i) (t.drop i)) = s.heap.update r (fun _ => sObj "set" (SetTable.eraseAt es i, ep + 1, t.drop i)) := (upd_const _ ho).trans rfl
    rw [e2]
    refine wpAny_bind (wpAny_point ?_)
    refine wpAny_pure ?_
    have g1 : (s.heap.update r (fun _ => sObj "set" (SetTable.eraseAt es i, ep + 1, t.drop i))).get? r = some (sObj "set" (SetTable.eraseAt es i, ep + 1, t.drop i)) := get_upd _ ho rfl
    · have pe : (r1.1 :: (SetTable.eraseAt es i).toList).Perm (r1.1 :: T'.map Prod.fst) := by
        rw [erase_list, er]
        refine (erase_perm es.toList i _ (List.getElem?_eq_getElem (by rw [Array.length_toList]; exact hi))).trans ?_
        rw [← er]
        exact pm.trans (pT.map Prod.fst)
      have okT : ∀ q ∈ T', RowOk knd q := fun q hq => ok q (pT.mem_iff.mpr (.tail _ hq))
      refine hQ _ _ T' (Heap.SameBut.update _ r _) ⟨_, g1, pe.cons_inv, okT, ?_, ?_, f1, ?_, ?_⟩ (fun j => by rw [mT j, ek]) ⟨_, g1, f1, ?_⟩
      rotate_right
      · show decide ((t.drop i).dummies.size > (t.drop i).mask / 4) = false
        rw [d1, m1]
        decide
      · have := (pT.map Prod.snd).nodup_iff.mp nd
        rw [List.map_cons, List.nodup_cons] at this
        exact this.2
      · show (SetTable.eraseAt es i).size < _
        rw [zi]
        omega
      · show Ris (t.drop i).place.toList
        rw [dr]
        exact ris_erase ris i
      · rcases led with q | q
        · exact .inl q
        · refine .inr ?_
          show (t.drop i).led = true
          rw [dr]
          exact q
theorem any_set {a : Addr} {Q : Bool → Shared → Prop} (ty : s.TypeIs (.ref a) "set") (h : Q true s) : wpAny (model P w) A (Builtin.Frozenset.isAnySet (.ref a)) Q E s := by
  unfold Builtin.Frozenset.isAnySet orM
  exact wpAny_bind (wpAny_isInstance ty PySem.F.sub_set_set (wpAny_pure h))
def Less (T T' : List (Row K)) (k : K) : Prop := ∀ j, j ∈ T'.map Prod.snd ↔ j ∈ T.map Prod.snd ∧ j ≠ k
theorem drop_one {id : String} {r b : Addr} {T : List (Row K)} {D : SD} {q : Row K} {Q : Unit → Shared → Prop} (C : Cop knd s.heap r T D) (U : SetT knd s.heap b [q]) (nrb : r ≠ b)
    (hQ : ∀ h' T', Heap.SameBut r s.heap h' → SetT knd h' r T' → Less T T' q.2 → Q () { s with heap := h' }) :
    wpAny (model P w) A (Builtin.Frozenset.differenceUpdate id r (.ref b)) Q E s := by
  have C0 := C
  obtain ⟨ho, pm, ok, nd, bd, sz, dm, mk, ris, led⟩ := C
  obtain ⟨⟨es, ep, t⟩, hob, pmb, okb, ndb, hbb, hfb, hrb, hlb⟩ := U
  dsimp only at pmb hbb hfb hrb hlb
  have z1 : es.size = 1 := SetT.size (h := s.heap) (a := b) (D := (es, ep, t)) pmb
  have tyb : s.TypeIs (.ref b) "set" := ⟨_, hob, rfl⟩
  have hf : D.2.2.fits D.1.size = true := by
    show (D.2.2.place.size == D.1.size && decide (D.2.2.place.size + D.2.2.dummies.size ≤ D.2.2.mask)) = true
    rw [sz, dm, mk, Bool.and_eq_true, beq_iff_eq, decide_eq_true_eq]
    exact ⟨rfl, by simp; omega⟩
  unfold Builtin.Frozenset.differenceUpdate
  refine wp_if_neg (by simp [Ne.symm nrb]) ?_
  refine wpAny_bind (any_set tyb ?_)
  refine wp_if_pos rfl ?_
  unfold Builtin.Frozenset.addrOf Builtin.Frozenset.sizeOf
  refine wpAny_bind (wpAny_pure ?_)
  refine wpAny_bind (wpAny_bind (wpAny_setEntries_of hob rfl hfb (wpAny_pure ?_)))
  refine wpAny_bind (wpAny_bind (wpAny_setEntries_of ho rfl hf (wpAny_pure ?_)))
  refine wp_if_neg (by rw [z1]; simp) ?_
  refine wpAny_bind (wpAny_setEpoch_of hob rfl hfb ?_)
  refine wpAny_bind (wpAny_holding ?_)
  refine wpAny_bind (walk_few hob hfb hlb (Nat.le_of_eq z1) fun es' p => ?_)
  have e1 : es'.toList = [q.1] := by
    have := p.trans pmb
    exact List.perm_singleton.mp this
  obtain ⟨⟨hq, xq⟩, kq⟩ := q
  obtain ⟨⟨isq, eq⟩, scq⟩ := okb _ (.head _)
  dsimp only at isq eq scq e1
  subst eq
  rw [← Array.forIn_toList, e1, List.forIn_cons]
  refine wpAny_bind (wpAny_bind ?_)
  dsimp only
  refine wpAny_bind (wpAny_holding (cop_drop C0 isq scq fun _ h' T' sb S1 l1 ty1 => ?_))
  unfold Builtin.Frozenset.unchanged
  have hob' : h'.get? b = some (sObj "set" (es, ep, t)) := (sb.2 b (Ne.symm nrb)).trans hob
  refine wpAny_bind (wpAny_bind (wpAny_setEpoch_of (s := { s with heap := h' }) hob' rfl hfb ?_))
  refine wp_if_neg (by simp) (wpAny_pure ?_)
  refine wpAny_pure ?_
  refine wpAny_pure ?_
  refine wpAny_pure ?_
  exact tidy_at (s := { s with heap := h' }) ty1 (hQ h' T' sb S1 l1)
theorem minus_keys {id : String} {a b : Addr} {T : List (Row K)} {q : Row K} {Q : Value → Shared → Prop} (S : SetT knd s.heap a T) (U : SetT knd s.heap b [q]) (h15 : T.length ≤ 15)
    (hQ : ∀ h' p T', (∀ b o, s.heap.get? b = some o → h'.get? b = some o) → s.heap.objs.size ≤ p → SetT knd h' p T' → Less T T' q.2 → Q (.ref p) { s with heap := h' }) :
    wpAny (model P w) A (Builtin.Frozenset.difference id a (.ref b)) Q E s := by
  have S0 := S
  have U0 := U
  obtain ⟨⟨es, ep, t⟩, ho, pm, ok, nd, hb, hf, hr, hl⟩ := S
  obtain ⟨⟨eb, epb, tb⟩, hob, pmb, okb, ndb, hbb, hfb, hrb, hlb⟩ := U
  dsimp only at pm hb hf hr hl pmb hbb hfb hrb hlb
  have sz : es.size = T.length := SetT.size (h := s.heap) (a := a) (D := (es, ep, t)) pm
  have z1 : eb.size = 1 := SetT.size (h := s.heap) (a := b) (D := (eb, epb, tb)) pmb
  have tya : s.TypeIs (.ref a) "set" := ⟨_, ho, rfl⟩
  have tyb : s.TypeIs (.ref b) "set" := ⟨_, hob, rfl⟩
  unfold Builtin.Frozenset.difference
  dsimp only
  refine wpAny_bind (any_set tyb ?_)
  simp only [Bool.not_true, Bool.false_and, Bool.false_eq_true, if_false, if_true]
  unfold Builtin.Frozenset.addrOf
  refine wpAny_bind (wpAny_pure ?_)
  unfold Builtin.Frozenset.sizeOf
  refine wpAny_bind (wpAny_bind (wpAny_setEntries_of hob rfl hfb (wpAny_pure ?_)))
  refine wpAny_bind (wpAny_bind (wpAny_setEntries_of ho rfl hf (wpAny_pure ?_)))
  by_cases c : es.size / 4 > eb.size
  · refine wp_if_pos c ?_
    refine wpAny_bind (wpAny_rule ?_)
    refine wpAny_bind (copy_at S0 (by omega) h15 fun h1 D k1 C => ?_)
    have nrb : s.heap.objs.size ≠ b := Nat.ne_of_gt (Heap.lt_size hob)
    refine wpAny_bind (wpAny_pure ?_)
    refine wpAny_bind (wpAny_holding ?_)
    refine drop_one (s := { s with heap := h1 }) C (U0.stays fun o q => k1 _ _ q) nrb fun h2 T' sb S2 l2 => wpAny_pure ?_
    refine hQ h2 _ T' (fun b o q => ?_) (Nat.le_refl _) S2 l2
    rw [sb.2 b (Nat.ne_of_lt (Heap.lt_size q))]
    exact k1 b o q
  · refine wp_if_neg c ?_
    unfold Builtin.Frozenset.baseOf
    refine wpAny_bind (wpAny_bind (wpAny_isInstance tya PySem.F.sub_set_set (wpAny_pure ?_)))
    unfold PySem.newSet
    refine wpAny_bind (wpAny_bind (wpAny_byText ?_))
    dsimp only
    refine wpAny_newObj_type ?_
    refine wpAny_bind (wpAny_pure ?_)
    have g0 : (s.heap.push (PV.newSet w)).get? s.heap.objs.size = some (PV.newSet w) := Heap.get?_push_size _ rfl
    have kp : ∀ b o, s.heap.get? b = some o → (s.heap.push (PV.newSet w)).get? b = some o := fun b o q => Heap.get?_push_of_some _ q
    have ne : ∀ b o, s.heap.get? b = some o → b ≠ s.heap.objs.size := fun b o q => Nat.ne_of_lt (Heap.lt_size q)
    refine wpAny_bind (wpAny_setEpoch_of (kp _ _ ho) rfl hf ?_)
    refine wpAny_bind (wpAny_holding ?_)
    have hos : ∀ c ∈ [b, s.heap.objs.size], ∃ T : List (Row K), SetT knd (s.heap.push (PV.newSet w)) c T := fun c hc => by
      rcases List.mem_cons.mp hc with rfl | hc
      · exact ⟨_, U0.stays fun o q => kp _ _ q⟩
      · rw [List.mem_singleton.mp hc]
        exact ⟨_, newSet_at g0⟩
    refine wpAny_bind (walk_fill (s := { s with heap := s.heap.push (PV.newSet w) }) (S0.stays fun o q => kp _ _ q) (kp _ _ ho) (newSet_at g0) hos fun es' h1 p sb1 R1 => ?_)
    have k1 : ∀ b o, s.heap.get? b = some o → h1.get? b = some o := fun b o q => (sb1.2 b (ne b o q)).trans (kp b o q)
    refine wpAny_bind (PySem.MeetsSeq2.wpAny_forIn_array _ (fun l _ s' => ∃ dn h' T', es'.toList = dn ++ l ∧ s' = { s with heap := h' } ∧ (∀ b o, s.heap.get? b = some o → h'.get? b = some o) ∧ SetT knd h' s.heap.objs.size T' ∧ T'.length ≤ dn.length ∧
        ∀ j, j ∈ T'.map Prod.snd ↔ j ≠ q.2 ∧ ∃ e ∈ dn, knd.is j e.2 = true) _ ?_ ?_ es' PUnit.unit ⟨[], h1, [], rfl, rfl, k1, R1, Nat.le_refl _, fun j => by simp⟩)
    · rintro ⟨hx, x⟩ rest _ s2 ⟨dn, h2, T2, e2, rfl, k2, R2, l2, m2⟩
      obtain ⟨r0, hr0, e0⟩ := List.mem_map.mp ((p.trans pm).mem_iff.mp (e2 ▸ List.mem_append_right _ (List.mem_cons_self)))
      obtain ⟨⟨i0, q0⟩, sc0⟩ := ok r0 hr0
      rw [e0] at i0 q0 sc0
      dsimp only at i0 q0 sc0
      have dl : dn.length + 1 ≤ 15 := by
        have a1 := congrArg List.length e2
        rw [p.length_eq, Array.length_toList, List.length_append, List.length_cons] at a1
        omega
      subst q0
      dsimp only
      refine wpAny_bind (wpAny_holding ?_)
      have hel := rows_elems pmb okb
      refine wpAny_bind (PySem.W.setFind_any (s := { s with heap := h2 }) (S := fun j => decide (j = q.2)) i0 sc0 (k2 _ _ hob) rfl hel (fun j => ?_) hbb hfb fun r hr' => ?_)
      · have eb1 : eb.toList = [q.1] := List.perm_singleton.mp pmb
        rw [eb1, decide_eq_true_eq]
        obtain ⟨⟨iq, _⟩, _⟩ := okb _ (.head _)
        constructor
        · rintro rfl
          exact ⟨_, .head _, iq⟩
        · rintro ⟨e, he, ie⟩
          rw [List.mem_singleton.mp he] at ie
          exact knd.inj _ _ _ ie iq
      refine wpAny_bind (wpAny_pure ?_)
      have fin : ∀ (Z : ForInStep PUnit → Shared → Prop) h3 , (∀ b o, s.heap.get? b = some o → h3.get? b = some o) → Z (.yield PUnit.unit) { s with heap := h3 } →
          wpAny (model P w) A (do
            Builtin.Frozenset.unchanged id a ep
            pure (ForInStep.yield PUnit.unit)) Z E { s with heap := h3 } := fun Z h3 k3 hz => by
        unfold Builtin.Frozenset.unchanged
        refine wpAny_bind (wpAny_bind (wpAny_setEpoch_of (s := { s with heap := h3 }) (k3 _ _ ho) rfl hf ?_))
        exact wp_if_neg (by simp) (wpAny_pure (wpAny_pure hz))
      have e3 : es'.toList = (dn ++ [(knd.hash r0.2, x)]) ++ rest := by rw [e2, List.append_assoc]; rfl
      have l3' : (dn ++ [(knd.hash r0.2, x)]).length = dn.length + 1 := by rw [List.length_append]; rfl
      by_cases c2 : r0.2 = q.2
      · refine wp_if_neg (by rw [hr', decide_eq_true c2]; exact Bool.false_ne_true) (wpAny_pure ?_)
        refine fin _ h2 k2 ⟨_, h2, T2, e3, rfl, k2, R2, by rw [l3']; exact Nat.le_succ_of_le l2, fun j => ?_⟩
        rw [m2 j]
        refine and_congr_right fun hj => ⟨fun ⟨e, he, ie⟩ => ⟨e, List.mem_append_left _ he, ie⟩, fun ⟨e, he, ie⟩ => ?_⟩
        rcases List.mem_append.mp he with he | he
        · exact ⟨e, he, ie⟩
        · rw [List.mem_singleton.mp he] at ie
          exact absurd ((knd.inj _ _ _ ie i0).trans c2) hj
      · refine wp_if_pos (by rw [hr', decide_eq_false c2]; rfl) ?_
        refine wpAny_bind (sett_add (s := { s with heap := h2 }) R2 i0 sc0 (by have : scanBound = 4096 := rfl; omega) fun _ h3 T3 sb3 R3 m3 l3 => wpAny_pure ?_)
        have k3 : ∀ b o, s.heap.get? b = some o → h3.get? b = some o := fun b o q => (sb3.2 b (ne b o q)).trans (k2 b o q)
        refine fin _ h3 k3 ⟨_, h3, T3, e3, rfl, k3, R3, by rw [l3']; exact Nat.le_trans l3 (Nat.succ_le_succ l2), fun j => ?_⟩
        rw [m3 j, m2 j]
        constructor
        · rintro (⟨h1, e, he, ie⟩ | rfl)
          · exact ⟨h1, e, List.mem_append_left _ he, ie⟩
          · exact ⟨c2, _, List.mem_append_right _ (List.mem_singleton.mpr rfl), i0⟩
        · rintro ⟨h1, e, he, ie⟩
          rcases List.mem_append.mp he with he | he
          · exact .inl ⟨h1, e, he, ie⟩
          · rw [List.mem_singleton.mp he] at ie
            exact .inr (knd.inj _ _ _ ie i0)
    · rintro _ s2 ⟨dn, h2, T2, e2, rfl, k2, R2, l2, m2⟩
      refine wpAny_pure (wpAny_pure ?_)
      refine hQ h2 _ T2 k2 (Nat.le_refl _) R2 fun j => ?_
      rw [m2 j, and_comm]
      refine and_congr_left fun _ => ?_
      rw [List.append_nil] at e2
      constructor
      · rintro ⟨e, he, ie⟩
        obtain ⟨r0, hr0, rfl⟩ := List.mem_map.mp ((p.trans pm).mem_iff.mp (e2 ▸ he))
        rw [knd.inj _ _ _ ie (ok r0 hr0).1.1]
        exact List.mem_map.mpr ⟨r0, hr0, rfl⟩
      · intro hj
        obtain ⟨r0, hr0, rfl⟩ := List.mem_map.mp hj
        exact ⟨r0.1, e2 ▸ (p.trans pm).mem_iff.mpr (List.mem_map.mpr ⟨r0, hr0, rfl⟩), (ok r0 hr0).1.1⟩
theorem entry_sub : entryFor table "set.__sub__" = some Builtin.«frozenset.__sub__» := entryFor_alias (id' := "frozenset.__sub__") (by kernel_rfl) rfl (by decide +kernel) (by kernel_rfl)
theorem sub_sets {a b : Addr} {T : List (Row K)} {q : Row K} {Q : Value → Shared → Prop} (S : SetT knd s.heap a T) (U : SetT knd s.heap b [q]) (h15 : T.length ≤ 15)
    (hQ : ∀ h' p T', (∀ b o, s.heap.get? b = some o → h'.get? b = some o) → s.heap.objs.size ≤ p → SetT knd h' p T' → Less T T' q.2 → Q (.ref p) { s with heap := h' }) :
    wpAny (model P w) A (binaryOp .Sub (.ref a) (.ref b)) Q E s := by
  have tya : s.TypeIs (.ref a) "set" := by obtain ⟨D, ho, _⟩ := S; exact ⟨_, ho, rfl⟩
  have tyb : s.TypeIs (.ref b) "set" := by obtain ⟨D, ho, _⟩ := U; exact ⟨_, ho, rfl⟩
  refine wpAny_binaryOp_same (op := .Sub) tya tyb PySem.F.fills_set_sub PySem.F.slot_set_sub ?_
  refine wpAny_call_entry PySem.F.slot_set_sub tya entry_sub ?_ (PySem.F.args_set_sub_2 _ _)
  show wpAny _ _ (do
    let (self, other) ← Builtin.Frozenset.slot1 "__sub__" ⟨[.ref a, .ref b], []⟩
    let (l, r) := if false = true then (other, self) else (self, other)
    if !(← Builtin.Frozenset.isAnySet l <&&> Builtin.Frozenset.isAnySet r) then rule s!"frozenset.{"__sub__"}.declined"; return ← ret .notImplemented
    ret (← Builtin.Frozenset.difference s!"frozenset.{"__sub__"}" (← Builtin.Frozenset.addrOf l) r)) _ _ _
  unfold Builtin.Frozenset.slot1 slotArgs
  refine wpAny_bind (wpAny_bind (wpAny_pure (wpAny_pure ?_)))
  dsimp only
  unfold andM Builtin.Frozenset.addrOf
  refine wpAny_bind (wpAny_bind (any_set tya ?_))
  show wpAny _ _ (Builtin.Frozenset.isAnySet (.ref b)) _ _ _
  refine any_set tyb ?_
  simp only [Bool.not_true, Bool.false_eq_true, if_false]
  refine wpAny_bind (wpAny_pure ?_)
  refine wpAny_bind (minus_keys S U h15 fun h' p T' k z R l => ?_)
  exact wpAny_pure ⟨_, rfl, by simp, hQ h' p T' k z R l⟩
end
def leafO : Option Str → Leaf
  | none => .none
  | some x => .text x
def leafV : Option Str → V
  | none => .non
  | some x => .str x
def strOf : Leaf → Str
  | .text x => x
  | _ => ⟨#[]⟩
theorem leafO_inj {a b : Option Str} (h : leafO a = leafO b) : a = b := by
  cases a <;> cases b <;> cases h <;> rfl
section
variable {P : Program} {w : World} {A : Around} {E : Value → Shared → Prop} {s : Shared}
theorem texts_set {h : Heap} {a : Addr} {T : List (Row Leaf)} (S : SetT (leafKind P w) h a T) (ht : ∀ j ∈ T.map Prod.snd, ∃ x, j = .text x) :
    SetT (strKind P w) h a (T.map fun r => (r.1, strOf r.2)) := by
  obtain ⟨D, ho, pm, ok, nd, hb, hf, hr, hl⟩ := S
  refine ⟨D, ho, by rw [List.map_map]; exact pm, ?_, ?_, hb, hf, hr, hl⟩
  · intro r hr'
    obtain ⟨⟨⟨h0, v⟩, k⟩, hq, rfl⟩ := List.mem_map.mp hr'
    obtain ⟨⟨i0, e0⟩, sc⟩ := ok _ hq
    obtain ⟨x, rfl⟩ := ht k (List.mem_map.mpr ⟨_, hq, rfl⟩)
    exact ⟨⟨i0, e0⟩, sc⟩
  · rw [List.map_map]
    have e1 : (T.map (Prod.snd ∘ fun r : Row Leaf => (r.1, strOf r.2))) = (T.map Prod.snd).map strOf := by rw [List.map_map]; rfl
    rw [e1]
    refine List.Pairwise.of_map (S := (· ≠ ·)) Leaf.text (fun a b ne e => ne (congrArg _ e)) ?_
    have e2 : ((T.map Prod.snd).map strOf).map Leaf.text = T.map Prod.snd := by
      rw [List.map_map]
      refine (List.map_congr_left fun j hj => ?_).trans (List.map_id _)
      obtain ⟨x, rfl⟩ := ht j hj
      rfl
    rw [e2]
    exact nd
end
section
variable {X : Cx} {c : Cfg X.K} {E : XK} {pos : Pos}
theorem leaf_its {its : List Value} {xs : List (Option Str)} (r : Vals (xs.map leafV) its) (P : Program) (w : World) : ∀ (i : Nat) (v : Value), its.toArray[i]? = some v → ∃ k, (xs.map leafO)[i]? = some k ∧ (leafKind P w).is k v = true ∧ v.scannable = true := by
  intro i v hv
  rw [List.getElem?_toArray] at hv
  have hi : i < xs.length := by
    have := (List.getElem?_eq_some_iff.mp hv).1
    rw [← r.length, List.length_map] at this
    exact this
  obtain ⟨u, hu, e⟩ := r.get (i := i) (x := leafV xs[i]) (by simp [hi])
  have : v = u := Option.some.inj (hv.symm.trans hu)
  subst this
  refine ⟨leafO xs[i], by simp [hi], ?_⟩
  cases z : xs[i] with
  | none =>
    rw [z] at e
    have e : v = .none := e
    subst e
    exact ⟨rfl, rfl⟩
  | some x =>
    rw [z] at e
    obtain ⟨t, e⟩ := e
    subst e
    exact ⟨by show Value.isStrOf x (.str x t) = true; simp [Value.isStrOf], rfl⟩
def tSortMinus (K : PySem.W.Frag) (ta tb : TE) : TE := fun σ H Q => ta σ H fun x H1 => ∃ l, ∃ xs : List (Option Str), x = .ref l ∧ SqL K H1 l (xs.map leafV) ∧ xs.length ≤ 4000 ∧ (onceL xs).length ≤ 15 ∧
  tb σ H1 fun y H2 => ∃ l2, y = .ref l2 ∧ SqL K H2 l2 [.non] ∧ ∀ ys : List Str, ys.Nodup → (∀ y, y ∈ ys ↔ some y ∈ xs) → ∀ p, H2 p = none → Q (.ref p) (upd H2 p (.lst ((ys.mergeSort leS).map V.str)))
theorem pe_sortMinus {a b : Expr} {ta tb : TE} {p p2 p3 q q3 pb : Pos} (hc : X.calm = true) (hu : X.A.units + 64 < cLine) (hg : Gl X "sorted") (hm : X.mg "sorted" = none) (hg2 : Gl X "set") (hm2 : X.mg "set" = none) (ha : PE X a ta) (hb : PE X b tb)
    (na : starEach [a] X.env = (false, eval a X.env) :: starEach [] X.env := by rfl) (nb : starEach [b] X.env = (false, eval b X.env) :: starEach [] X.env := by rfl) :
    PE X (.Call (.Name "sorted" p) [.BinOp (.Call (.Name "set" p2) [a] [] q) .Sub (.Call (.Name "set" p3) [b] [] q3) pb] [] pos) (tSortMinus X.K ta tb) := by
  refine ⟨fun pins s σ H Q I h => ?_⟩
  refine Call_ (ld_blt I hg hm PyProof.Rows.boot_sorted ?_)
  refine PyProof.Rows.callWith_builtin1 (PyProof.Rows.args_cons ?_ rfl) rfl rfl
  refine wpAny_BinOp ?_
  refine Call_ (ld_blt I hg2 hm2 PyProof.Rows.boot_set ?_)
  refine PyProof.Rows.callWith_type1 (PyProof.Rows.args_cons (thn (ha.run pins s σ H _ I h) fun v s1 ⟨x, H1, I1, r1, q1⟩ => PyProof.Rows.args_nil ?_) na) na rfl
  obtain ⟨l, xs, rfl, hq, hl, h15, q1⟩ := q1
  cases r1
  obtain ⟨its, r, pl, hz⟩ := I1.list hq
  have sz : its.toArray.size = (xs.map leafO).length := by rw [List.size_toArray, ← r.length, List.length_map, List.length_map]
  have hd := I1.ok.hd hc
  refine set_keys (knd := leafKind X.prog X.w) (xs.map leafO) hd pl.isList sz (by rw [List.length_map]; unfold scanBound; omega) (leaf_its r X.prog X.w) fun h1 tk T S mem k => ?_
  have S' := S
  obtain ⟨D, ho, pm, ok, nd, _⟩ := S'
  have tl : T.length ≤ 15 := by
    have e1 : (T.map Prod.snd).Perm ((onceL xs).map leafO) := by
      refine (List.perm_ext_iff_of_nodup nd ?_).mpr fun j => ?_
      · exact List.Pairwise.map _ (fun a b ne e => ne (leafO_inj e)) (nodup_once xs)
      · rw [mem j, List.mem_map, List.mem_map]
        exact exists_congr fun o => and_congr_left fun _ => mem_once.symm
    have := e1.length_eq
    rw [List.length_map, List.length_map] at this
    omega
  have I1p : Inv X ((s1.heap.objs.size, sObj "set" D) :: pins) σ H1 { s1 with heap := h1, toks := tk } := ClX.pin_new I1 k (Nat.le_refl _) ho (by intro v e; cases e)
  refine Call_ (ld_blt (ClX.unpin I1p) hg2 hm2 PyProof.Rows.boot_set ?_)
  refine PyProof.Rows.callWith_type1 (PyProof.Rows.args_cons (thn (hb.run _ _ σ H1 _ I1p q1) fun v s2 ⟨x, H2, I2, r2, q2⟩ => PyProof.Rows.args_nil ?_) nb) nb rfl
  obtain ⟨l2, rfl, hq2, q2⟩ := q2
  cases r2
  obtain ⟨its2, r2, pl2, hz2⟩ := I2.list hq2
  have sz2 : its2.toArray.size = ([none].map leafO).length := by rw [List.size_toArray, ← r2.length]; rfl
  refine set_keys (knd := leafKind X.prog X.w) ([none].map leafO) hd pl2.isList sz2 (by show 1 + 1 < 4096; decide) (leaf_its (xs := [none]) r2 X.prog X.w) fun h2 tk2 T2 S2 mem2 k2 => ?_
  have T21 : ∃ row, T2 = [row] ∧ row.2 = .none := by
    obtain ⟨_, _, _, _, nd2, _⟩ := S2
    have e1 : (T2.map Prod.snd).Perm [.none] := (List.perm_ext_iff_of_nodup nd2 (by simp)).mpr fun j => by rw [mem2 j]; rfl
    have e2 := List.perm_singleton.mp e1
    obtain ⟨row, e3, e4⟩ : ∃ row, T2 = [row] ∧ row.2 = .none := by
      cases T2 with
      | nil => cases e2
      | cons row T2 =>
        rw [List.map_cons] at e2
        injection e2 with e2 e5
        cases T2 with
        | nil => exact ⟨row, rfl, e2⟩
        | cons _ _ => cases e5
    exact ⟨row, e3, e4⟩
  obtain ⟨row, rfl, erow⟩ := T21
  have S1 : SetT (leafKind X.prog X.w) h2 s1.heap.objs.size T := S.stays fun o q => by
    have e := ClX.pin_at I2
    rw [ho] at q
    cases q
    exact k2 _ _ e
  refine sub_sets (s := { s2 with heap := h2, toks := tk2 }) S1 S2 tl fun h3 p' T3 k3 z3 S3 l3 => ?_
  refine PyProof.Rows.args_nil ?_
  have ht : ∀ j ∈ T3.map Prod.snd, ∃ x, j = .text x := fun j hj => by
    obtain ⟨h4, h5⟩ := (l3 j).mp hj
    obtain ⟨o, _, rfl⟩ := List.mem_map.mp ((mem j).mp h4)
    cases o with
    | none => exact absurd erow.symm h5
    | some x => exact ⟨x, rfl⟩
  have S4 := texts_set S3 ht
  refine sorted_texts (s := { s2 with heap := h3, toks := tk2 }) S4 hd (by omega) fun s5 p5 out c5 bs k5 g5 o5 hp hpo pm5 eo => ?_
  have nb' : bs.Nodup := pm5.nodup_iff.mpr (by obtain ⟨_, _, _, _, nd, _⟩ := S4; exact nd)
  have lt : s2.heap.objs.size ≤ p' := Nat.le_trans (Nat.le_of_lt (by obtain ⟨_, q, _⟩ := S2; exact Heap.lt_size q)) z3
  have lt3 : p' < h3.objs.size := by obtain ⟨_, q, _⟩ := S3; exact Heap.lt_size q
  have kk : ∀ b u, s2.heap.get? b = some u → s5.heap.get? b = some u := fun b u q => k5 b u (k3 b u (k2 b u q))
  have ps : s2.heap.objs.size ≤ p5 := Nat.le_trans lt (Nat.le_trans (Nat.le_of_lt lt3) hp)
  have le : PySem.W.dataLe false PyData.str = leS := PySem.W.dataLe_str (β := Str) id
  rw [le] at eo
  have vo := each_strs eo
  have lb : ((bs.mergeSort leS).map V.str).length ≤ sizeLine := by
    obtain ⟨_, _, q, _, _, hb, _⟩ := S4
    rw [List.length_map, List.length_mergeSort, pm5.length_eq, List.length_map, ← SetT.size (h := h3) (a := p') q]
    exact fits_of_scanBound hb
  have new : ObjOk X.prog X.w (upd H2 p5 (.lst ((bs.mergeSort leS).map V.str))) s5.heap p5 (.lst ((bs.mergeSort leS).map V.str)) := ⟨lb, out, c5, vo, hpo⟩
  have I3 : Inv X pins σ H2 s2 := ClX.unpin I2
  refine ⟨.ref p5, upd H2 p5 (.lst ((bs.mergeSort leS).map V.str)), I3.call' (ch := []) o5 (Un.laid kk ps (I3.hok.fresh ps)) (I3.hok.laid kk ps new) (by rw [g5]; exact I3.bare) (fun _ z => nomatch z), rfl,
    q2 bs nb' (fun y => ?_) p5 (I3.hok.fresh ps)⟩
  rw [pm5.mem_iff, List.map_map, List.mem_map]
  constructor
  · rintro ⟨r0, hr0, e0⟩
    have hj : r0.2 ∈ T3.map Prod.snd := List.mem_map.mpr ⟨r0, hr0, rfl⟩
    obtain ⟨x, ex⟩ := ht _ hj
    obtain ⟨h4, _⟩ := (l3 _).mp hj
    obtain ⟨o, ho', eo'⟩ := List.mem_map.mp ((mem _).mp h4)
    have e0 : strOf r0.2 = y := e0
    rw [ex] at e0 eo'
    have : o = some y := leafO_inj (eo'.trans (by rw [show x = y from e0]; rfl))
    exact this ▸ ho'
  · intro hy
    have : Leaf.text y ∈ T3.map Prod.snd := (l3 _).mpr ⟨(mem _).mpr (List.mem_map.mpr ⟨some y, hy, rfl⟩), by rw [erow]; exact fun e => nomatch e⟩
    obtain ⟨r0, hr0, e0⟩ := List.mem_map.mp this
    exact ⟨r0, hr0, by show strOf r0.2 = y; rw [e0]; rfl⟩
def ostrs? : List D → Option (List (Option Str))
  | [] => some []
  | .str x :: r => (ostrs? r).map fun xs => some x :: xs
  | .non :: r => (ostrs? r).map fun xs => none :: xs
  | _ :: _ => none
theorem ostrs_rep {M : PySem.W.Frag} {κ : Kap M} {F H : Hp} : ∀ {ds : List D} {vs : List V} {fp : List Addr} {xs : List (Option Str)}, RepL κ F H ds vs fp → ostrs? ds = some xs → vs = xs.map leafV
  | _, _, _, _, .nil, h => by
    cases h
    rfl
  | _, _, _, xs, .cons (d := d) r t, h => by
    cases d with
    | str x =>
      rw [ostrs?] at h
      cases q : ostrs? _ with
      | none => rw [q] at h; cases h
      | some ys =>
        rw [q] at h
        cases h
        have e := ostrs_rep t q
        cases r
        rw [e]
        rfl
    | non =>
      rw [ostrs?] at h
      cases q : ostrs? _ with
      | none => rw [q] at h; cases h
      | some ys =>
        rw [q] at h
        cases h
        have e := ostrs_rep t q
        cases r
        rw [e]
        rfl
    | _ => simp [ostrs?] at h
def someL (xs : List (Option Str)) : List Str := xs.filterMap id
def dSortMinus : D → Res D
  | .nd _ .lst ds => (ofO (ostrs? ds)).bind fun xs => if xs.length ≤ 4000 ∧ (onceL xs).length ≤ 15 then .ok (.lst .own ((setS (someL xs)).map D.str)) else .stuck
  | _ => .stuck
theorem mem_someL {xs : List (Option Str)} {y : Str} : y ∈ someL xs ↔ some y ∈ xs := by
  unfold someL
  rw [List.mem_filterMap]
  exact ⟨fun ⟨a, h, e⟩ => (show a = some y from e) ▸ h, fun h => ⟨_, h, rfl⟩⟩
theorem ev_sortMinus {a b : Expr} {f g : Env → Res D} {p p2 p3 q q3 pb : Pos} (hc : X.calm = true) (hu : X.A.units + 64 < cLine) (hg : Gl X "sorted") (hm : X.mg "sorted" = none) (hg2 : Gl X "set") (hm2 : X.mg "set" = none) (ha : EV X c E a f) (hb : EV X c E b g)
    (hn : ∀ env, g env = .ok (.lst .own [.non])) (na : starEach [a] X.env = (false, eval a X.env) :: starEach [] X.env := by rfl) (nb : starEach [b] X.env = (false, eval b X.env) :: starEach [] X.env := by rfl) :
    EV X c E (.Call (.Name "sorted" p) [.BinOp (.Call (.Name "set" p2) [a] [] q) .Sub (.Call (.Name "set" p3) [b] [] q3) pb] [] pos) (e1 dSortMinus f) :=
  PE.imp (pe_sortMinus hc hu hg hm hg2 hm2 ha hb na nb) fun σ H Q w => by
    obtain ⟨bb, K, F0, F, env, φ, S, p⟩ := w
    refine ⟨bb, K, F0, F, env, φ, S, ?_⟩
    unfold e1 at p
    cases q : f env with
    | exc z => simp only [q, Res.bind] at p; exact p
    | stuck => simp only [q, Res.bind] at p; exact p
    | ok d =>
      simp only [q, Res.bind] at p
      intro v H' F' fp x r nd fr
      unfold dSortMinus at p
      split at p
      case h_2 => exact p.elim
      rename_i t ds
      obtain ⟨l, vs, fq, rfl, h1, h2, _⟩ := r.sqL x.fh
      cases z : ostrs? ds with
      | none => rw [z] at p; exact p.elim
      | some xs =>
        rw [z] at p
        have ev := ostrs_rep h2 z
        subst ev
        by_cases hl : xs.length ≤ 4000 ∧ (onceL xs).length ≤ 15
        · have p' : PostV c E F H (.ok (.lst .own ((setS (someL xs)).map D.str))) Q := by
            have : ((ofO (some xs)).bind fun xs => if xs.length ≤ 4000 ∧ (onceL xs).length ≤ 15 then Res.ok (D.lst .own ((setS (someL xs)).map D.str)) else .stuck) = .ok (.lst .own ((setS (someL xs)).map D.str)) := if_pos hl
            rwa [this] at p
          refine ⟨l, xs, rfl, h1, hl.1, hl.2, ⟨bb, K, F0, F', env, φ, S.ext x, ?_⟩⟩
          rw [hn env]
          intro v2 H2 F2 fp2 x2 r2 nd2 fr2
          obtain ⟨l2, vs2, fq2, rfl, h3, h4, _⟩ := r2.sqL x2.fh
          have ev2 : vs2 = [.non] := by
            cases h4 with
            | cons r t => cases r; cases t; rfl
          subst ev2
          refine ⟨l2, rfl, h3, fun ys nd' m a' ha' => ?_⟩
          rw [perm_sortS (perm_once nd' (xs := someL xs) (fun y => by rw [m y, mem_someL]))]
          have p2 : PostV c E F2 H2 (.ok (.lst .own ((setS (someL xs)).map D.str))) Q := fun v3 H3 F3 fp3 x3 r3 nd3 fr3 => p' v3 H3 F3 fp3 ((x.trans x2).trans x3) r3 nd3 fun a m => ⟨(x.trans x2).hh.free (fr3 a m).1, (fr3 a m).2⟩
          exact PostV.newO p2 x2.fh ha' rfl (strs_repL _) rfl
        · have : ((ofO (some xs)).bind fun xs => if xs.length ≤ 4000 ∧ (onceL xs).length ≤ 15 then Res.ok (D.lst .own ((setS (someL xs)).map D.str)) else .stuck) = .stuck := if_neg hl
          rw [this] at p
          exact p.elim
end
end PV
end
section
set_option maxHeartbeats 8000000
namespace Gk13
open PySem PySem.Spec PyProof.Rows L2 PV
def top (i : Nat) : Stmt := PySem.Challenge.pw_wirechannel_k13_pieces.main.body.getD i (.Pass ⟨0, 0, 0, 0⟩)
abbrev si_Channel : Stmt := inCls (top 9) 0
abbrev s_ends_of : Stmt := top 1
abbrev s_nets_of : Stmt := top 2
abbrev s_width_of : Stmt := top 3
abbrev s_stretch_of : Stmt := top 4
abbrev s_net_pieces : Stmt := top 6
abbrev s_pieces_of : Stmt := top 7
abbrev s__law_stem : Stmt := top 11
abbrev s__law_named : Stmt := top 12
abbrev s__law_mix : Stmt := top 13
abbrev s__law_pins : Stmt := top 14
abbrev s__law_many : Stmt := top 15
abbrev s__law_stretch : Stmt := top 16
abbrev s__law_bends : Stmt := top 17
abbrev s__law_keeps : Stmt := top 18
abbrev s__law_open : Stmt := top 19
abbrev s__law_channel : Stmt := top 20
abbrev s__law_made : Stmt := top 21
abbrev s__law_kept : Stmt := top 22
abbrev s__law_same : Stmt := top 23
abbrev s__law_cut : Stmt := top 24
abbrev s__law_stands : Stmt := top 25
abbrev s_law : Stmt := top 26
def d_ends_of : He.DefD := ⟨("ends_of", none), "ends_of", "ends_of", defArgs s_ends_of, defBody s_ends_of, defScope s_ends_of, [], []⟩
def d_nets_of : He.DefD := ⟨("nets_of", none), "nets_of", "nets_of", defArgs s_nets_of, defBody s_nets_of, defScope s_nets_of, [], []⟩
def d_width_of : He.DefD := ⟨("width_of", none), "width_of", "width_of", defArgs s_width_of, defBody s_width_of, defScope s_width_of, [], []⟩
def d_stretch_of : He.DefD := ⟨("stretch_of", none), "stretch_of", "stretch_of", defArgs s_stretch_of, defBody s_stretch_of, defScope s_stretch_of, [], []⟩
def d_net_pieces : He.DefD := ⟨("net_pieces", none), "net_pieces", "net_pieces", defArgs s_net_pieces, defBody s_net_pieces, defScope s_net_pieces, [], []⟩
def d_pieces_of : He.DefD := ⟨("pieces_of", none), "pieces_of", "pieces_of", defArgs s_pieces_of, defBody s_pieces_of, defScope s_pieces_of, [.bl false], []⟩
def d__law_stem : He.DefD := ⟨("_law_stem", none), "_law_stem", "_law_stem", defArgs s__law_stem, defBody s__law_stem, defScope s__law_stem, [], []⟩
def d__law_named : He.DefD := ⟨("_law_named", none), "_law_named", "_law_named", defArgs s__law_named, defBody s__law_named, defScope s__law_named, [], []⟩
def d__law_mix : He.DefD := ⟨("_law_mix", none), "_law_mix", "_law_mix", defArgs s__law_mix, defBody s__law_mix, defScope s__law_mix, [], []⟩
def d__law_pins : He.DefD := ⟨("_law_pins", none), "_law_pins", "_law_pins", defArgs s__law_pins, defBody s__law_pins, defScope s__law_pins, [], []⟩
def d__law_many : He.DefD := ⟨("_law_many", none), "_law_many", "_law_many", defArgs s__law_many, defBody s__law_many, defScope s__law_many, [], []⟩
def d__law_stretch : He.DefD := ⟨("_law_stretch", none), "_law_stretch", "_law_stretch", defArgs s__law_stretch, defBody s__law_stretch, defScope s__law_stretch, [], []⟩
def d__law_bends : He.DefD := ⟨("_law_bends", none), "_law_bends", "_law_bends", defArgs s__law_bends, defBody s__law_bends, defScope s__law_bends, [], []⟩
def d__law_keeps : He.DefD := ⟨("_law_keeps", none), "_law_keeps", "_law_keeps", defArgs s__law_keeps, defBody s__law_keeps, defScope s__law_keeps, [], []⟩
def d__law_open : He.DefD := ⟨("_law_open", none), "_law_open", "_law_open", defArgs s__law_open, defBody s__law_open, defScope s__law_open, [], []⟩
def d__law_channel : He.DefD := ⟨("_law_channel", none), "_law_channel", "_law_channel", defArgs s__law_channel, defBody s__law_channel, defScope s__law_channel, [], []⟩
def d__law_made : He.DefD := ⟨("_law_made", none), "_law_made", "_law_made", defArgs s__law_made, defBody s__law_made, defScope s__law_made, [], []⟩
def d__law_kept : He.DefD := ⟨("_law_kept", none), "_law_kept", "_law_kept", defArgs s__law_kept, defBody s__law_kept, defScope s__law_kept, [], []⟩
def d__law_same : He.DefD := ⟨("_law_same", none), "_law_same", "_law_same", defArgs s__law_same, defBody s__law_same, defScope s__law_same, [], []⟩
def d__law_cut : He.DefD := ⟨("_law_cut", none), "_law_cut", "_law_cut", defArgs s__law_cut, defBody s__law_cut, defScope s__law_cut, [], []⟩
def d__law_stands : He.DefD := ⟨("_law_stands", none), "_law_stands", "_law_stands", defArgs s__law_stands, defBody s__law_stands, defScope s__law_stands, [], []⟩
def d_law : He.DefD := ⟨("law", none), "law", "law", defArgs s_law, defBody s_law, defScope s_law, [], []⟩
def di_Channel : He.DefD := ⟨("Channel", some "__init__"), "__init__", "Channel.__init__", defArgs si_Channel, defBody si_Channel, defScope si_Channel, [], []⟩
def fn : List He.DefD := [d_ends_of, d_nets_of, d_width_of, d_stretch_of, d_net_pieces, d_pieces_of, d__law_stem, d__law_named, d__law_mix, d__law_pins, d__law_many, d__law_stretch, d__law_bends, d__law_keeps, d__law_open, d__law_channel, d__law_made, d__law_kept, d__law_same, d__law_cut, d__law_stands, d_law, di_Channel]
def fa : List He.Fa := [.glo "ends_of", .glo "nets_of", .glo "width_of", .glo "stretch_of", .glo "net_pieces", .glo "pieces_of", .glo "_law_stem", .glo "_law_named", .glo "_law_mix", .glo "_law_pins", .glo "_law_many", .glo "_law_stretch", .glo "_law_bends", .glo "_law_keeps", .glo "_law_open", .glo "_law_channel", .glo "_law_made", .glo "_law_kept", .glo "_law_same", .glo "_law_cut", .glo "_law_stands", .glo "law", .glo "Channel", .mkr "Channel", .cls "Channel", .noat "Channel" "top", .noat "Channel" "bottom", .noat "Channel" "left", .noat "Channel" "right", .noat "Channel" "wide", .noat "Channel" "bends", .noat "Channel" "keeps", .free "all", .free "any", .free "bool", .free "enumerate", .free "int", .free "isinstance", .free "len", .free "list", .free "max", .free "min", .free "range", .free "set", .free "sorted", .free "sum", .free "tuple", .free "zip"]
abbrev R : PySem.W.OpenRow := PySem.W.OpenLaw.row PySem.Challenge.rw_wirechannel_k13_pieces
abbrev hk : PySem.W.Hook := He.hookD 4 fa fn
def ob (s : PySem.W.SharedT) : He.AlD := He.obsDG 4 fa fn (HandSHeadRun.getT s)
theorem ob_eq (s : PySem.W.SharedT) : ob s = hk.obs s.abs := He.obsDG_eq (HandSHeadRun.getT_eq s)
def loose : List Str := ["ends_of", "nets_of", "width_of", "stretch_of", "net_pieces", "pieces_of", "Channel", "_law_stem", "_law_named", "_law_mix", "_law_pins", "_law_many", "_law_stretch", "_law_bends", "_law_keeps", "_law_open", "_law_channel", "_law_made", "_law_kept", "_law_same", "_law_cut", "_law_stands"]
set_option maxHeartbeats 0 in
theorem run (w : World) : HandSHeadRun.RunEq R (PySem.W.view R.prog [26]) hk ob 9000 loose w := by
  intro os
  kernel_rfl
end Gk13
end
section
set_option maxHeartbeats 8000000
namespace Gw
open PySem PySem.Spec PyProof.Rows L2 PV
def b__law_stem_1 : PV.Env → SR := sSeq (sSet 3 (e2 dAdd (eVar 3) (e2 dIx (eVar 2) (e2 dMod (eVar 0) (eC (.int 26)))))) (sSet 0 (e2 dDiv (eVar 0) (eC (.int 26))))
def N__law_stem : List Str := ["_law_cell", "_law_size", "_law_signs", "_law_stem_here", "_law_k"]
def g__law_stem : PV.Env → SR := sSeq (sSet 2 (eC (.str "abcdefghijklmnopqrstuvwxyz"))) (sSeq (sSet 3 (eC (.str ""))) (sSeq (sFor (yLift (yL rng1 (lCons (eVar 1) (lNil)))) (put1 4) (b__law_stem_1) [4]) (sRetV 3)))
def Φ__law_stem : List D → Res D := runF N__law_stem.length g__law_stem
def q__law_named_1 : PV.Env → Res D := e2 dAdd (e2 dAdd (eSl (eVar 2) (oNo) (oSome (eVar 3))) (eVar 5)) (eSl (eVar 2) (oSome (eVar 3)) (oSome (eVar 1)))
def q__law_named_2 : PV.Env → Res D := e2 dAdd (e2 dAdd (e2 dAdd (eSl (eVar 2) (oNo) (oSome (e2 dMod (eVar 1) (eC (.int 4))))) (e2 dIx (eC (.str "mt")) (e2 dDiv (eVar 6) (eC (.int 4))))) (e2 dIx (eC (.str "nu")) (e2 dMod (e2 dDiv (eVar 6) (eC (.int 2))) (eC (.int 2))))) (e2 dIx (eC (.str "ov")) (e2 dMod (eVar 6) (eC (.int 2))))
def q__law_named_3 : PV.Env → Res D := eSl (eVar 2) (oNo) (oSome (e2 dAdd (eVar 6) (eC (.int 1))))
def N__law_named : List Str := ["_law_cell", "_law_size", "_law_stem_here", "_law_at", "_law_other", "_law_sign", "_law_k"]
def g__law_named : PV.Env → SR := sSeq (sSet 0 (e2 dMod (e2 dMul (e2 dAdd (e2 dMod (eVar 0) (e2 dPow (eC (.int 10)) (eC (.int 24)))) (eC (.int 5))) (eC (.int 7046029254386353131))) (e2 dAdd (e2 dPow (eC (.int 10)) (eC (.int 24))) (eC (.int 7))))) (sSeq (sSet 1 (e2 dMod (eVar 0) (eC (.int 6)))) (sSeq (sSet 2 (eCall (lenIs 2 Φ__law_stem) [] (lCons (e2 dDiv (eVar 0) (eC (.int 512))) (lCons (eC (.int 6)) (lNil))))) (sSeq (sSet 3 (e2 dMod (e2 dDiv (eVar 0) (eC (.int 8))) (e2 dAdd (eVar 1) (eC (.int 1))))) (sSeq (sIf (eB (e2 dEq (e2 dMod (e2 dDiv (eVar 0) (eC (.int 64))) (eC (.int 3))) (eC (.int 0)))) (sRet (eLc (yVal false (eC (.str "hgfedcba"))) (putb 5) (bYes) (q__law_named_1) [5])) (sNil)) (sSeq (sIf (eB (e2 dEq (e2 dMod (e2 dDiv (eVar 0) (eC (.int 64))) (eC (.int 3))) (eC (.int 1)))) (sRet (eLc (yL rng1 (lCons (eC (.int 8)) (lNil))) (putb 6) (bYes) (q__law_named_2) [6])) (sNil)) (sSeq (sSet 4 (e2 dAdd (e2 dIx (eC (.str "ab")) (eC_ dInt (lCons (e2 dEq (e2 dIx (eVar 2) (eC (.int 0))) (eC (.str "a"))) (lNil)))) (eSl (eVar 2) (oSome (eC (.int 1))) (oNo)))) (sRet (e2 dAdd (eLc (yL rng1 (lCons (eC (.int 6)) (lNil))) (putb 6) (bYes) (q__law_named_3) [6]) (eLst (lCons (eSl (eVar 4) (oNo) (oSome (eC (.int 1)))) (lCons (eSl (eVar 4) (oNo) (oSome (eC (.int 3)))) (lNil))))))))))))
def Φ__law_named : List D → Res D := runF N__law_named.length g__law_named
def N__law_mix : List Str := ["_law_cell", "_law_k"]
def g__law_mix : PV.Env → SR := sRet (e2 dDiv (e2 dMod (e2 dAdd (e2 dAdd (e2 dMul (e2 dMod (eVar 0) (e2 dPow (eC (.int 10)) (eC (.int 30)))) (e2 dAdd (e2 dMul (eVar 1) (eVar 1)) (eC (.int 48271)))) (e2 dMul (e2 dMul (e2 dMul (eC (.int 7919)) (eVar 1)) (eVar 1)) (eVar 1))) (eC (.int 11))) (eC (.int 2147483647))) (eC (.int 7)))
def Φ__law_mix : List D → Res D := runF N__law_mix.length g__law_mix
def b_ends_of_1 : PV.Env → SR := sSeq (sIf (eB (e2 dEq (e2 dIx (eVar 4) (eC (.int 0))) (eVar 1))) (sApp 2 (eTup (lCons (eC (.str "top")) (lCons (eVar 3) (lNil))))) (sNil)) (sIf (eB (e2 dEq (e2 dIx (eVar 4) (eC (.int 1))) (eVar 1))) (sApp 2 (eTup (lCons (eC (.str "bottom")) (lCons (eVar 3) (lNil))))) (sNil))
def a_ends_of_1 : PV.Env → SR := sSet 2 (eLst (lNil))
def a_ends_of_2 : PV.Env → SR := sIf (eB (e2 dIn1 (eVar 1) (e1 (dFld ["Channel"] "left") (eVar 0)))) (sApp 2 (eTup (lCons (eC (.str "left")) (lNil)))) (sNil)
def a_ends_of_3 : PV.Env → SR := sFor (yLift (yL (enz2 true) (lCons (e1 (dFld ["Channel"] "top") (eVar 0)) (lCons (e1 (dFld ["Channel"] "bottom") (eVar 0)) (lNil))))) (putT 2 (putC (put1 3) (putC (put1 4) (putN)))) (b_ends_of_1) [3, 4]
def a_ends_of_4 : PV.Env → SR := sIf (eB (e2 dIn1 (eVar 1) (e1 (dFld ["Channel"] "right") (eVar 0)))) (sApp 2 (eTup (lCons (eC (.str "right")) (lNil)))) (sNil)
def a_ends_of_5 : PV.Env → SR := sRetV 2
def N_ends_of : List Str := ["channel", "name", "ends", "column", "pair"]
def g_ends_of : PV.Env → SR := sSeq (a_ends_of_1) (sSeq (a_ends_of_2) (sSeq (a_ends_of_3) (sSeq (a_ends_of_4) (a_ends_of_5))))
def Φ_ends_of : List D → Res D := runF N_ends_of.length g_ends_of
def J_ends_of_2 (v_channel : D) (v_name : D) (v_ends : D) (v_column : D) (v_pair : D) : Res (Fo D) :=
  (ifR ((((dIx (rd v_pair) (D.int 1))).bind fun t9 => (dEq t9 (rd v_name))).bind asB)
  ((appV v_ends (Res.ok (D.tup [(D.str "bottom"), (rd v_column)]))).bind fun v_ends =>
  (Res.ok (Fo.nx v_ends)))
  (Res.ok (Fo.nx v_ends)))
theorem jo_J_ends_of_2 (v_channel : D) (v_name : D) (v_ends : D) (v_column : D) (v_pair : D) : RB (fun s : D => [some v_channel, some v_name, some s, none, none]) [3 , 4] ((sSeq (sIf (eB (e2 dEq (e2 dIx (eVar 4) (eC (D.int 1))) (eVar 1))) (sApp 2 (eTup (lCons (eC (D.str "bottom")) (lCons (eVar 3) lNil)))) sNil) sNil) [some v_channel, some v_name, some v_ends, some v_column, some v_pair]) (J_ends_of_2 v_channel v_name v_ends v_column v_pair) := (b_if (tx := ((((dIx (rd v_pair) (D.int 1))).bind fun t9 => (dEq t9 (rd v_name))).bind asB)) rfl (b_app (fx := (Res.ok (D.tup [(D.str "bottom"), (rd v_column)]))) (en := fun v_ends => [some v_channel, some v_name, some v_ends, some v_column, some v_pair]) rfl (x_tupP (ds := [(D.str "bottom"), (rd v_column)]) (x_consP (a := (D.str "bottom")) (as := [(rd v_column)]) rfl (x_consP (a := (rd v_column)) (as := []) rfl rfl)) 2 rfl rfl) (fun _ => rfl) fun v_ends => (r_nilB rfl)) (b_nil (r_nilB rfl)))
def B_ends_of_1 (v_channel : D) (v_name : D) (t6 : D) (v_ends : D) : Res (Fo D) :=
  ((up2 t6).bind fun t7 => (ifR ((((dIx (rd t7.2) (D.int 0))).bind fun t8 => (dEq t8 (rd v_name))).bind asB)
  ((appV v_ends (Res.ok (D.tup [(D.str "top"), (rd t7.1)]))).bind fun v_ends =>
  (J_ends_of_2 v_channel v_name v_ends t7.1 t7.2))
  (J_ends_of_2 v_channel v_name v_ends t7.1 t7.2)))
theorem bo_B_ends_of_1 (v_channel : D) (v_name : D) (t6 : D) (v_ends : D) : RB (fun s : D => [some v_channel, some v_name, some s, none, none]) [3 , 4] (tgt (putT 2 (putC (put1 3) (putC (put1 4) putN))) b_ends_of_1 t6 [some v_channel, some v_name, some v_ends, none, none]) (B_ends_of_1 v_channel v_name t6 v_ends) := b_tgt (en := fun t7 => [some v_channel, some v_name, some v_ends, some t7.1, some t7.2]) t_2 (up2_nox t6) (fun _ => rfl) fun t7 => (b_last (b_assoc (b_if (tx := ((((dIx (rd t7.2) (D.int 0))).bind fun t8 => (dEq t8 (rd v_name))).bind asB)) rfl (b_app (fx := (Res.ok (D.tup [(D.str "top"), (rd t7.1)]))) (en := fun v_ends => [some v_channel, some v_name, some v_ends, some t7.1, some t7.2]) rfl (x_tupP (ds := [(D.str "top"), (rd t7.1)]) (x_consP (a := (D.str "top")) (as := [(rd t7.1)]) rfl (x_consP (a := (rd t7.1)) (as := []) rfl rfl)) 2 rfl rfl) (fun _ => rfl) fun v_ends => (jo_J_ends_of_2 v_channel v_name v_ends t7.1 t7.2)) (b_nil (jo_J_ends_of_2 v_channel v_name v_ends t7.1 t7.2)))))
def J_ends_of_3 (v_ends : D) : Res D :=
  (okR v_ends)
theorem jo_J_ends_of_3 (v_ends : D) (o_0 o_1 : Option D) : RF ((sSeq a_ends_of_5 sNil) [o_0, o_1, some v_ends, none, none]) (J_ends_of_3 v_ends) := (f_retV rfl)
def J_ends_of_1 (v_channel : D) (v_name : D) (v_ends : D) : Res D :=
  ((((((((dFld ["Channel"] "top") (rd v_channel))).bind fun t3 => (((((dFld ["Channel"] "bottom") (rd v_channel))).bind fun t2 => Res.ok [t2])).bind fun t4 => Res.ok (t3 :: t4))).bind fun t5 => ((enz2 true) t5))).bind fun t12 => (afterV (forV (fun d s => B_ends_of_1 v_channel v_name d s) t12 v_ends) (fun t10 =>
  (ifR (((((dFld ["Channel"] "right") (rd v_channel))).bind fun t11 => (dIn1 (rd v_name) t11)).bind asB)
  ((appV t10 (Res.ok (D.tup [(D.str "right")]))).bind fun v_ends =>
  (J_ends_of_3 v_ends))
  (J_ends_of_3 t10))) okR))
theorem jo_J_ends_of_1 (v_channel : D) (v_name : D) (v_ends : D) : RF ((sSeq (sSeq a_ends_of_3 (sSeq a_ends_of_4 a_ends_of_5)) sNil) [some v_channel, some v_name, some v_ends, none, none]) (J_ends_of_1 v_channel v_name v_ends) := (f_assoc (f_for (fun s : D => [some v_channel, some v_name, some s, none, none]) (step := (fun d s => B_ends_of_1 v_channel v_name d s)) (s0 := v_ends) (ix := ((((((dFld ["Channel"] "top") (rd v_channel))).bind fun t3 => (((((dFld ["Channel"] "bottom") (rd v_channel))).bind fun t2 => Res.ok [t2])).bind fun t4 => Res.ok (t3 :: t4))).bind fun t5 => ((enz2 true) t5))) (x_yL (as := ((((dFld ["Channel"] "top") (rd v_channel))).bind fun t3 => (((((dFld ["Channel"] "bottom") (rd v_channel))).bind fun t2 => Res.ok [t2])).bind fun t4 => Res.ok (t3 :: t4))) (x_cons (a := ((dFld ["Channel"] "top") (rd v_channel))) (as := ((((dFld ["Channel"] "bottom") (rd v_channel))).bind fun t2 => Res.ok [t2])) rfl (x_cons (a := ((dFld ["Channel"] "bottom") (rd v_channel))) (as := (Res.ok [])) rfl rfl))) rfl (fun d s => bo_B_ends_of_1 v_channel v_name d s) fun t10 => (f_assoc (f_if (tx := (((((dFld ["Channel"] "right") (rd v_channel))).bind fun t11 => (dIn1 (rd v_name) t11)).bind asB)) rfl (f_app (fx := (Res.ok (D.tup [(D.str "right")]))) (en := fun v_ends => [some v_channel, some v_name, some v_ends, none, none]) rfl (x_tupP (ds := [(D.str "right")]) (x_consP (a := (D.str "right")) (as := []) rfl rfl) 1 rfl rfl) (fun _ => rfl) fun v_ends => (jo_J_ends_of_3 v_ends (some v_channel) (some v_name))) (f_nil (jo_J_ends_of_3 t10 (some v_channel) (some v_name)))))))
def M_ends_of (v_channel : D) (v_name : D) : Res D :=
  (ifR (((((dFld ["Channel"] "left") (rd v_channel))).bind fun t1 => (dIn1 (rd v_name) t1)).bind asB)
  ((appV (D.lst Tag.own []) (Res.ok (D.tup [(D.str "left")]))).bind fun v_ends =>
  (J_ends_of_1 v_channel v_name v_ends))
  (J_ends_of_1 v_channel v_name (D.lst Tag.own [])))
theorem me_ends_of (v_channel : D) (v_name : D) : RF (g_ends_of [some v_channel, some v_name, none, none, none]) (M_ends_of v_channel v_name) := (f_last (f_assoc (f_setV (x := (D.lst Tag.own [])) (en := [some v_channel, some v_name, some (D.lst Tag.own []), none, none]) (x_lstP (ds := []) rfl 0 rfl rfl) rfl rfl (f_assoc (f_if (tx := (((((dFld ["Channel"] "left") (rd v_channel))).bind fun t1 => (dIn1 (rd v_name) t1)).bind asB)) rfl (f_app (fx := (Res.ok (D.tup [(D.str "left")]))) (en := fun v_ends => [some v_channel, some v_name, some v_ends, none, none]) rfl (x_tupP (ds := [(D.str "left")]) (x_consP (a := (D.str "left")) (as := []) rfl rfl) 1 rfl rfl) (fun _ => rfl) fun v_ends => (jo_J_ends_of_1 v_channel v_name v_ends)) (f_nil (jo_J_ends_of_1 v_channel v_name (D.lst Tag.own []))))))))
def Ψ_ends_of (ds : List D) : Res D := match ds with
  | [a0, a1] => M_ends_of a0 a1
  | _ => Res.stuck
theorem ps_ends_of (ds : List D) : Ψ_ends_of ds = Res.stuck ∨ Φ_ends_of ds = Ψ_ends_of ds := by
  unfold Ψ_ends_of
  split
  · exact phi_of rfl (me_ends_of _ _)
  · exact .inl rfl
theorem pe_ends_of {v_channel : D} {v_name : D} : Ψ_ends_of [v_channel, v_name] = M_ends_of v_channel v_name := rfl
def q_nets_of_1 : PV.Env → Res D := eVar 2
def t_nets_of_1 : PV.Env → Res Bool := eB (e1 dNotN (eVar 2))
def N_nets_of : List Str := ["channel", "names", "name"]
def g_nets_of : PV.Env → SR := sSeq (sSet 1 (e2 dAdd (e1 (dFld ["Channel"] "left") (eVar 0)) (e1 (dFld ["Channel"] "right") (eVar 0)))) (sSeq (sSet 1 (e2 dAdd (eVar 1) (eLc (yVal false (e2 dAdd (e1 (dFld ["Channel"] "top") (eVar 0)) (e1 (dFld ["Channel"] "bottom") (eVar 0)))) (putb 2) (t_nets_of_1) (q_nets_of_1) [2]))) (sRet (e1 dSortSet (eVar 1))))
def Φ_nets_of : List D → Res D := runF N_nets_of.length g_nets_of
def M_nets_of (v_channel : D) : Res D :=
  ((((((dFld ["Channel"] "left") (rd v_channel))).bind fun t1 => ((((dFld ["Channel"] "right") (rd v_channel))).bind fun t2 => (dAdd t1 t2))).bind chk).bind fun v_names =>
  ((((((((((((dFld ["Channel"] "top") (rd v_channel))).bind fun t3 => ((((dFld ["Channel"] "bottom") (rd v_channel))).bind fun t4 => (dAdd t3 t4)))).bind fun t5 => (itemsOf false t5))).bind fun t8 => ((lcV (fun t6 => (ifR ((dNotN (rd t6)).bind asB) ((chk (rd t6)).bind fun y => Res.ok (some y)) (Res.ok none))) t8).bind lstB))).bind fun t9 => (dAdd (rd v_names) t9)).bind chk).bind fun v_names =>
  (((dSortSet (rd v_names)).bind chk).bind okR)))
theorem me_nets_of (v_channel : D) : RF (g_nets_of [some v_channel, none, none]) (M_nets_of v_channel) := (f_last (f_assoc (f_set (fx := ((((dFld ["Channel"] "left") (rd v_channel))).bind fun t1 => ((((dFld ["Channel"] "right") (rd v_channel))).bind fun t2 => (dAdd t1 t2)))) (en := fun v_names => [some v_channel, some v_names, none]) rfl (fun _ => rfl) fun v_names => (f_assoc (f_set (fx := ((((((((((dFld ["Channel"] "top") (rd v_channel))).bind fun t3 => ((((dFld ["Channel"] "bottom") (rd v_channel))).bind fun t4 => (dAdd t3 t4)))).bind fun t5 => (itemsOf false t5))).bind fun t8 => ((lcV (fun t6 => (ifR ((dNotN (rd t6)).bind asB) ((chk (rd t6)).bind fun y => Res.ok (some y)) (Res.ok none))) t8).bind lstB))).bind fun t9 => (dAdd (rd v_names) t9))) (en := fun v_names => [some v_channel, some v_names, none]) (x_e2 (a := (Res.ok (rd v_names))) (b := ((((((((dFld ["Channel"] "top") (rd v_channel))).bind fun t3 => ((((dFld ["Channel"] "bottom") (rd v_channel))).bind fun t4 => (dAdd t3 t4)))).bind fun t5 => (itemsOf false t5))).bind fun t8 => ((lcV (fun t6 => (ifR ((dNotN (rd t6)).bind asB) ((chk (rd t6)).bind fun y => Res.ok (some y)) (Res.ok none))) t8).bind lstB))) rfl (x_lc (ix := ((((((dFld ["Channel"] "top") (rd v_channel))).bind fun t3 => ((((dFld ["Channel"] "bottom") (rd v_channel))).bind fun t4 => (dAdd t3 t4)))).bind fun t5 => (itemsOf false t5))) (step := fun t6 => (ifR ((dNotN (rd t6)).bind asB) ((chk (rd t6)).bind fun y => Res.ok (some y)) (Res.ok none))) rfl rfl (fun t6 => t_lcb (tt := ((dNotN (rd t6)).bind asB)) (fx := (Res.ok (rd t6))) rfl rfl))) (fun _ => rfl) fun v_names => (f_ret (fx := (dSortSet (rd v_names))) rfl))))))
def Ψ_nets_of (ds : List D) : Res D := match ds with
  | [a0] => M_nets_of a0
  | _ => Res.stuck
theorem ps_nets_of (ds : List D) : Ψ_nets_of ds = Res.stuck ∨ Φ_nets_of ds = Ψ_nets_of ds := by
  unfold Ψ_nets_of
  split
  · exact phi_of rfl (me_nets_of _)
  · exact .inl rfl
theorem pe_nets_of {v_channel : D} : Ψ_nets_of [v_channel] = M_nets_of v_channel := rfl
def b_width_of_1 : PV.Env → SR := sIf (eB (e2 dEq (eVar 2) (eVar 1))) (sRetV 3) (sNil)
def N_width_of : List Str := ["channel", "name", "other", "width"]
def g_width_of : PV.Env → SR := sSeq (sFor (yLift (yVal true (e1 (dFld ["Channel"] "wide") (eVar 0)))) (putT 2 (putC (put1 2) (putC (put1 3) (putN)))) (b_width_of_1) [2, 3]) (sRet (eC (.int 1)))
def Φ_width_of : List D → Res D := runF N_width_of.length g_width_of
def B_width_of_1 (v_name : D) (t2 : D) : Res (Fo Unit) :=
  ((up2 t2).bind fun t3 => (ifR ((dEq (rd t3.1) (rd v_name)).bind asB)
  (rtR t3.2)
  (Res.ok (Fo.nx ()))))
theorem bo_B_width_of_1 (v_name : D) (o_0 : Option D) (t2 : D) : RB (fun s : Unit => [o_0, some v_name, none, none]) [2 , 3] (tgt (putT 2 (putC (put1 2) (putC (put1 3) putN))) b_width_of_1 t2 [o_0, some v_name, none, none]) (B_width_of_1 v_name t2) := b_tgt (en := fun t3 => [o_0, some v_name, some t3.1, some t3.2]) t_2 (up2_nox t2) (fun _ => rfl) fun t3 => (b_last (b_if (tx := ((dEq (rd t3.1) (rd v_name)).bind asB)) rfl (b_retV rfl) (b_nil (r_nilB rfl))))
def M_width_of (v_channel : D) (v_name : D) : Res D :=
  ((((((dFld ["Channel"] "wide") (rd v_channel))).bind fun t1 => (itemsOf true t1))).bind fun t5 => (afterV (forV (fun d s => B_width_of_1 v_name d) t5 ()) (fun t4 =>
  (okR (D.int 1))) okR))
theorem me_width_of (v_channel : D) (v_name : D) : RF (g_width_of [some v_channel, some v_name, none, none]) (M_width_of v_channel v_name) := (f_last (f_assoc (f_for (fun s : Unit => [some v_channel, some v_name, none, none]) (step := (fun d s => B_width_of_1 v_name d)) (s0 := ()) (ix := ((((dFld ["Channel"] "wide") (rd v_channel))).bind fun t1 => (itemsOf true t1))) rfl rfl (fun d s => bo_B_width_of_1 v_name (some v_channel) d) fun t4 => (f_retC (x := (D.int 1)) rfl rfl))))
def Ψ_width_of (ds : List D) : Res D := match ds with
  | [a0, a1] => M_width_of a0 a1
  | _ => Res.stuck
theorem ps_width_of (ds : List D) : Ψ_width_of ds = Res.stuck ∨ Φ_width_of ds = Ψ_width_of ds := by
  unfold Ψ_width_of
  split
  · exact phi_of rfl (me_width_of _ _)
  · exact .inl rfl
theorem pe_width_of {v_channel : D} {v_name : D} : Ψ_width_of [v_channel, v_name] = M_width_of v_channel v_name := rfl
def q_stretch_of_1 : PV.Env → Res D := e2 dIx (eVar 6) (eC (.int 1))
def t_stretch_of_1 : PV.Env → Res Bool := eB (e2 dEq (eC_ dLen (lCons (eVar 6) (lNil))) (eC (.int 2)))
def a_stretch_of_1 : PV.Env → SR := sSet 2 (eCall (lenIs 2 Ψ_ends_of) [] (lCons (eVar 0) (lCons (eVar 1) (lNil))))
def a_stretch_of_2 : PV.Env → SR := sIf (eB (e2 dEq (eC_ dLen (lCons (eVar 2) (lNil))) (eC (.int 0)))) (sRet (eC .non)) (sNil)
def a_stretch_of_3 : PV.Env → SR := sSet 3 (eLc (yVal false (eVar 2)) (putb 6) (t_stretch_of_1) (q_stretch_of_1) [6])
def a_stretch_of_4 : PV.Env → SR := sIf (eB (e2 dEq (e2 dIx (eVar 2) (eC (.int 0))) (eTup (lCons (eC (.str "left")) (lNil))))) (sApp 3 (e1 dNeg (eC (.int 1)))) (sNil)
def a_stretch_of_5 : PV.Env → SR := sIf (eB (e2 dEq (e2 dIx (eVar 2) (e1 dNeg (eC (.int 1)))) (eTup (lCons (eC (.str "right")) (lNil))))) (sApp 3 (eC_ dLen (lCons (e1 (dFld ["Channel"] "top") (eVar 0)) (lNil)))) (sNil)
def a_stretch_of_6 : PV.Env → SR := sPar 4 5 (lCons (eC_ dMin (lCons (eVar 3) (lNil))) (lCons (eC_ dMax (lCons (eVar 3) (lNil))) (lNil)))
def a_stretch_of_7 : PV.Env → SR := sIf (eB (e2 dEq (eVar 4) (eVar 5))) (sRet (eC .non)) (sNil)
def a_stretch_of_8 : PV.Env → SR := sRet (eTup (lCons (eVar 4) (lCons (eVar 5) (lNil))))
def N_stretch_of : List Str := ["channel", "name", "ends", "columns", "first", "last", "end"]
def g_stretch_of : PV.Env → SR := sSeq (a_stretch_of_1) (sSeq (a_stretch_of_2) (sSeq (a_stretch_of_3) (sSeq (a_stretch_of_4) (sSeq (a_stretch_of_5) (sSeq (a_stretch_of_6) (sSeq (a_stretch_of_7) (a_stretch_of_8)))))))
def Φ_stretch_of : List D → Res D := runF N_stretch_of.length g_stretch_of
def J_stretch_of_2 (v_columns : D) : Res D :=
  (((((dMin [(rd v_columns)])).bind fun t9 => ((((dMax [(rd v_columns)])).bind fun t8 => Res.ok [t8])).bind fun t10 => Res.ok (t9 :: t10)).bind parV).bind fun t11 =>
  (ifR ((dEq (rd t11.1) (rd t11.2)).bind asB)
  (okR D.non)
  ((chk (D.tup [(rd t11.1), (rd t11.2)])).bind okR)))
theorem jo_J_stretch_of_2 (v_columns : D) (o_0 o_1 o_2 : Option D) : RF ((sSeq (sSeq a_stretch_of_6 (sSeq a_stretch_of_7 a_stretch_of_8)) sNil) [o_0, o_1, o_2, some v_columns, none, none, none]) (J_stretch_of_2 v_columns) := (f_assoc (f_par (as := (((dMin [(rd v_columns)])).bind fun t9 => ((((dMax [(rd v_columns)])).bind fun t8 => Res.ok [t8])).bind fun t10 => Res.ok (t9 :: t10))) (en := fun t11 => [o_0, o_1, o_2, some v_columns, some t11.1, some t11.2, none]) (x_cons (a := (dMin [(rd v_columns)])) (as := (((dMax [(rd v_columns)])).bind fun t8 => Res.ok [t8])) (x_eC (as := (Res.ok [(rd v_columns)])) (x_consP (a := (rd v_columns)) (as := []) rfl rfl)) (x_cons (a := (dMax [(rd v_columns)])) (as := (Res.ok [])) (x_eC (as := (Res.ok [(rd v_columns)])) (x_consP (a := (rd v_columns)) (as := []) rfl rfl)) rfl)) (fun _ => rfl) fun t11 => (f_assoc (f_if (tx := ((dEq (rd t11.1) (rd t11.2)).bind asB)) rfl (f_retC (x := D.non) rfl rfl) (f_nil (f_ret (fx := (Res.ok (D.tup [(rd t11.1), (rd t11.2)]))) (x_tupP (ds := [(rd t11.1), (rd t11.2)]) (x_consP (a := (rd t11.1)) (as := [(rd t11.2)]) rfl (x_consP (a := (rd t11.2)) (as := []) rfl rfl)) 2 rfl rfl)))))))
def J_stretch_of_1 (v_channel : D) (v_ends : D) (v_columns : D) : Res D :=
  (ifR ((((dIx (rd v_ends) (D.int (-1)))).bind fun t7 => (dEq t7 (D.tup [(D.str "right")]))).bind asB)
  ((appV v_columns ((((((dFld ["Channel"] "top") (rd v_channel))).bind fun t12 => Res.ok [t12])).bind fun t13 => (dLen t13))).bind fun v_columns =>
  (J_stretch_of_2 v_columns))
  (J_stretch_of_2 v_columns))
theorem jo_J_stretch_of_1 (v_channel : D) (v_ends : D) (v_columns : D) (o_1 : Option D) : RF ((sSeq (sSeq a_stretch_of_5 (sSeq a_stretch_of_6 (sSeq a_stretch_of_7 a_stretch_of_8))) sNil) [some v_channel, o_1, some v_ends, some v_columns, none, none, none]) (J_stretch_of_1 v_channel v_ends v_columns) := (f_assoc (f_if (tx := ((((dIx (rd v_ends) (D.int (-1)))).bind fun t7 => (dEq t7 (D.tup [(D.str "right")]))).bind asB)) (x_B (a := (((dIx (rd v_ends) (D.int (-1)))).bind fun t7 => (dEq t7 (D.tup [(D.str "right")])))) (x_e2 (a := (dIx (rd v_ends) (D.int (-1)))) (b := (Res.ok (D.tup [(D.str "right")]))) rfl (x_tupP (ds := [(D.str "right")]) (x_consP (a := (D.str "right")) (as := []) rfl rfl) 1 rfl rfl))) (f_app (fx := ((((((dFld ["Channel"] "top") (rd v_channel))).bind fun t12 => Res.ok [t12])).bind fun t13 => (dLen t13))) (en := fun v_columns => [some v_channel, o_1, some v_ends, some v_columns, none, none, none]) rfl (x_eC (as := ((((dFld ["Channel"] "top") (rd v_channel))).bind fun t12 => Res.ok [t12])) (x_cons (a := ((dFld ["Channel"] "top") (rd v_channel))) (as := (Res.ok [])) rfl rfl)) (fun _ => rfl) fun v_columns => (jo_J_stretch_of_2 v_columns (some v_channel) o_1 (some v_ends))) (f_nil (jo_J_stretch_of_2 v_columns (some v_channel) o_1 (some v_ends)))))
def M_stretch_of (v_channel : D) (v_name : D) : Res D :=
  (((callD (lenIs 2 Ψ_ends_of) [(rd v_channel), (rd v_name)]).bind chk).bind fun v_ends =>
  (ifR ((((dLen [(rd v_ends)])).bind fun t1 => (dEq t1 (D.int 0))).bind asB)
  (okR D.non)
  (((((itemsOf false (rd v_ends))).bind fun t5 => ((lcV (fun t2 => (ifR ((((dLen [(rd t2)])).bind fun t4 => (dEq t4 (D.int 2))).bind asB) (((dIx (rd t2) (D.int 1))).bind fun y => (chk y).bind fun y => Res.ok (some y)) (Res.ok none))) t5).bind lstB)).bind chk).bind fun v_columns =>
  (ifR ((((dIx (rd v_ends) (D.int 0))).bind fun t6 => (dEq t6 (D.tup [(D.str "left")]))).bind asB)
  ((appV v_columns (Res.ok (D.int (-1)))).bind fun v_columns =>
  (J_stretch_of_1 v_channel v_ends v_columns))
  (J_stretch_of_1 v_channel v_ends v_columns)))))
theorem me_stretch_of (v_channel : D) (v_name : D) : RF (g_stretch_of [some v_channel, some v_name, none, none, none, none, none]) (M_stretch_of v_channel v_name) := (f_last (f_assoc (f_set (fx := (callD (lenIs 2 Ψ_ends_of) [(rd v_channel), (rd v_name)])) (en := fun v_ends => [some v_channel, some v_name, some v_ends, none, none, none, none]) (x_callP (as := [(rd v_channel), (rd v_name)]) (x_consP (a := (rd v_channel)) (as := [(rd v_name)]) rfl (x_consP (a := (rd v_name)) (as := []) rfl rfl)) rfl) (fun _ => rfl) fun v_ends => (f_assoc (f_if (tx := ((((dLen [(rd v_ends)])).bind fun t1 => (dEq t1 (D.int 0))).bind asB)) (x_B (a := (((dLen [(rd v_ends)])).bind fun t1 => (dEq t1 (D.int 0)))) (x_e2 (a := (dLen [(rd v_ends)])) (b := (Res.ok (D.int 0))) (x_eC (as := (Res.ok [(rd v_ends)])) (x_consP (a := (rd v_ends)) (as := []) rfl rfl)) rfl)) (f_retC (x := D.non) rfl rfl) (f_nil (f_assoc (f_set (fx := (((itemsOf false (rd v_ends))).bind fun t5 => ((lcV (fun t2 => (ifR ((((dLen [(rd t2)])).bind fun t4 => (dEq t4 (D.int 2))).bind asB) (((dIx (rd t2) (D.int 1))).bind fun y => (chk y).bind fun y => Res.ok (some y)) (Res.ok none))) t5).bind lstB))) (en := fun v_columns => [some v_channel, some v_name, some v_ends, some v_columns, none, none, none]) (x_lc (ix := (itemsOf false (rd v_ends))) (step := fun t2 => (ifR ((((dLen [(rd t2)])).bind fun t4 => (dEq t4 (D.int 2))).bind asB) (((dIx (rd t2) (D.int 1))).bind fun y => (chk y).bind fun y => Res.ok (some y)) (Res.ok none))) rfl rfl (fun t2 => t_lcb (tt := ((((dLen [(rd t2)])).bind fun t4 => (dEq t4 (D.int 2))).bind asB)) (fx := (dIx (rd t2) (D.int 1))) (x_B (a := (((dLen [(rd t2)])).bind fun t4 => (dEq t4 (D.int 2)))) (x_e2 (a := (dLen [(rd t2)])) (b := (Res.ok (D.int 2))) (x_eC (as := (Res.ok [(rd t2)])) (x_consP (a := (rd t2)) (as := []) rfl rfl)) rfl)) rfl)) (fun _ => rfl) fun v_columns => (f_assoc (f_if (tx := ((((dIx (rd v_ends) (D.int 0))).bind fun t6 => (dEq t6 (D.tup [(D.str "left")]))).bind asB)) (x_B (a := (((dIx (rd v_ends) (D.int 0))).bind fun t6 => (dEq t6 (D.tup [(D.str "left")])))) (x_e2 (a := (dIx (rd v_ends) (D.int 0))) (b := (Res.ok (D.tup [(D.str "left")]))) rfl (x_tupP (ds := [(D.str "left")]) (x_consP (a := (D.str "left")) (as := []) rfl rfl) 1 rfl rfl))) (f_app (fx := (Res.ok (D.int (-1)))) (en := fun v_columns => [some v_channel, some v_name, some v_ends, some v_columns, none, none, none]) rfl rfl (fun _ => rfl) fun v_columns => (jo_J_stretch_of_1 v_channel v_ends v_columns (some v_name))) (f_nil (jo_J_stretch_of_1 v_channel v_ends v_columns (some v_name)))))))))))))
def Ψ_stretch_of (ds : List D) : Res D := match ds with
  | [a0, a1] => M_stretch_of a0 a1
  | _ => Res.stuck
theorem ps_stretch_of (ds : List D) : Ψ_stretch_of ds = Res.stuck ∨ Φ_stretch_of ds = Ψ_stretch_of ds := by
  unfold Ψ_stretch_of
  split
  · exact phi_of rfl (me_stretch_of _ _)
  · exact .inl rfl
theorem pe_stretch_of {v_channel : D} {v_name : D} : Ψ_stretch_of [v_channel, v_name] = M_stretch_of v_channel v_name := rfl
def q_net_pieces_1 : PV.Env → Res D := eVar 8
def t_net_pieces_1 : PV.Env → Res Bool := eB (e2 dEq (eVar 9) (eVar 1))
def b_net_pieces_1 : PV.Env → SR := sSeq (sApp 6 (eTup (lCons (eVar 1) (lCons (eVar 7) (lCons (eVar 8) (lCons (eVar 5) (lNil))))))) (sSet 7 (eVar 8))
def a_net_pieces_1 : PV.Env → SR := sSet 3 (eCall (lenIs 2 Ψ_stretch_of) [] (lCons (eVar 0) (lCons (eVar 1) (lNil))))
def a_net_pieces_2 : PV.Env → SR := sIf (eB (e1 dIsN (eVar 3))) (sRet (eLst (lNil))) (sNil)
def a_net_pieces_3 : PV.Env → SR := sSet 4 (eLst (lNil))
def a_net_pieces_4 : PV.Env → SR := sIf (eT (eVar 2)) (sSet 4 (eLc (yVal false (e1 (dFld ["Channel"] "bends") (eVar 0))) (putT 2 (putD (putb 8) (putD (putb 9) (putN)))) (t_net_pieces_1) (q_net_pieces_1) [8, 9])) (sNil)
def a_net_pieces_5 : PV.Env → SR := sSet 5 (eCall (lenIs 2 Ψ_width_of) [] (lCons (eVar 0) (lCons (eVar 1) (lNil))))
def a_net_pieces_6 : PV.Env → SR := sSet 6 (eLst (lNil))
def a_net_pieces_7 : PV.Env → SR := sSet 7 (e2 dIx (eVar 3) (eC (.int 0)))
def a_net_pieces_8 : PV.Env → SR := sFrz 5 (sFor (yLift (yVal true (e2 dAdd (eVar 4) (eLst (lCons (e2 dIx (eVar 3) (eC (.int 1))) (lNil)))))) (put1 8) (b_net_pieces_1) [8])
def a_net_pieces_9 : PV.Env → SR := sRetV 6
def N_net_pieces : List Str := ["channel", "name", "bent", "stretch", "cuts", "width", "pieces", "first", "column", "other"]
def g_net_pieces : PV.Env → SR := sSeq (a_net_pieces_1) (sSeq (a_net_pieces_2) (sSeq (a_net_pieces_3) (sSeq (a_net_pieces_4) (sSeq (a_net_pieces_5) (sSeq (a_net_pieces_6) (sSeq (a_net_pieces_7) (sSeq (a_net_pieces_8) (a_net_pieces_9))))))))
def Φ_net_pieces : List D → Res D := runF N_net_pieces.length g_net_pieces
def B_net_pieces_1 (v_name : D) (v_width : D) (t5 : D) (v_pieces : D) (v_first : D) : Res (Fo (D × D)) :=
  ((chk t5).bind fun t6 => ((appV v_pieces (Res.ok (D.tup [(rd v_name), (rd v_first), (rd t6), (rd v_width)]))).bind fun v_pieces =>
  ((chk (rd t6)).bind fun v_first =>
  (Res.ok (Fo.nx (v_pieces, v_first))))))
theorem bo_B_net_pieces_1 (v_name : D) (v_width : D) (o_0 o_2 o_3 o_4 : Option D) (t5 : D) (v_pieces : D) (v_first : D) : RB (fun s : (D × D) => [o_0, some v_name, o_2, o_3, o_4, some v_width, some s.1, some s.2, none, none]) [8] (tgt (put1 8) b_net_pieces_1 t5 [o_0, some v_name, o_2, o_3, o_4, some v_width, some v_pieces, some v_first, none, none]) (B_net_pieces_1 v_name v_width t5 v_pieces v_first) := b_tgt (en := fun t6 => [o_0, some v_name, o_2, o_3, o_4, some v_width, some v_pieces, some v_first, some t6, none]) t_1 (chk_nox t5) (fun _ => rfl) fun t6 => (b_last (b_assoc (b_app (fx := (Res.ok (D.tup [(rd v_name), (rd v_first), (rd t6), (rd v_width)]))) (en := fun v_pieces => [o_0, some v_name, o_2, o_3, o_4, some v_width, some v_pieces, some v_first, some t6, none]) rfl (x_tupP (ds := [(rd v_name), (rd v_first), (rd t6), (rd v_width)]) (x_consP (a := (rd v_name)) (as := [(rd v_first), (rd t6), (rd v_width)]) rfl (x_consP (a := (rd v_first)) (as := [(rd t6), (rd v_width)]) rfl (x_consP (a := (rd t6)) (as := [(rd v_width)]) rfl (x_consP (a := (rd v_width)) (as := []) rfl rfl)))) 4 rfl rfl) (fun _ => rfl) fun v_pieces => (b_set (fx := (Res.ok (rd t6))) (en := fun v_first => [o_0, some v_name, o_2, o_3, o_4, some v_width, some v_pieces, some v_first, some t6, none]) rfl (fun _ => rfl) fun v_first => (r_nilB rfl)))))
def J_net_pieces_1 (v_channel : D) (v_name : D) (v_stretch : D) (v_cuts : D) : Res D :=
  (((callD (lenIs 2 Ψ_width_of) [(rd v_channel), (rd v_name)]).bind chk).bind fun v_width =>
  (((dIx (rd v_stretch) (D.int 0)).bind chk).bind fun v_first =>
  (((((((((((dIx (rd v_stretch) (D.int 1))).bind fun t1 => Res.ok [t1])).bind fun t2 => (lstB t2))).bind fun t3 => (dAdd (rd v_cuts) t3))).bind fun t4 => (itemsOf true t4))).bind fun t8 => (afterV (forV (fun d s => B_net_pieces_1 v_name (fz v_width) d s.1 s.2) t8 ((D.lst Tag.own []), v_first)) (fun t7 =>
  (okR t7.1)) okR))))
theorem jo_J_net_pieces_1 (v_channel : D) (v_name : D) (v_stretch : D) (v_cuts : D) (o_2 : Option D) : RF ((sSeq (sSeq a_net_pieces_5 (sSeq a_net_pieces_6 (sSeq a_net_pieces_7 (sSeq a_net_pieces_8 a_net_pieces_9)))) sNil) [some v_channel, some v_name, o_2, some v_stretch, some v_cuts, none, none, none, none, none]) (J_net_pieces_1 v_channel v_name v_stretch v_cuts) := (f_assoc (f_set (fx := (callD (lenIs 2 Ψ_width_of) [(rd v_channel), (rd v_name)])) (en := fun v_width => [some v_channel, some v_name, o_2, some v_stretch, some v_cuts, some v_width, none, none, none, none]) (x_callP (as := [(rd v_channel), (rd v_name)]) (x_consP (a := (rd v_channel)) (as := [(rd v_name)]) rfl (x_consP (a := (rd v_name)) (as := []) rfl rfl)) rfl) (fun _ => rfl) fun v_width => (f_assoc (f_setV (x := (D.lst Tag.own [])) (en := [some v_channel, some v_name, o_2, some v_stretch, some v_cuts, some v_width, some (D.lst Tag.own []), none, none, none]) (x_lstP (ds := []) rfl 0 rfl rfl) rfl rfl (f_assoc (f_set (fx := (dIx (rd v_stretch) (D.int 0))) (en := fun v_first => [some v_channel, some v_name, o_2, some v_stretch, some v_cuts, some v_width, some (D.lst Tag.own []), some v_first, none, none]) rfl (fun _ => rfl) fun v_first => (f_assoc (f_frz (en := [some v_channel, some v_name, o_2, some v_stretch, some v_cuts, some (fz v_width), some (D.lst Tag.own []), some v_first, none, none]) rfl (f_for (fun s : (D × D) => [some v_channel, some v_name, o_2, some v_stretch, some v_cuts, some (fz v_width), some s.1, some s.2, none, none]) (step := (fun d s => B_net_pieces_1 v_name (fz v_width) d s.1 s.2)) (s0 := ((D.lst Tag.own []), v_first)) (ix := (((((((((dIx (rd v_stretch) (D.int 1))).bind fun t1 => Res.ok [t1])).bind fun t2 => (lstB t2))).bind fun t3 => (dAdd (rd v_cuts) t3))).bind fun t4 => (itemsOf true t4))) (x_yVal (a := (((((((dIx (rd v_stretch) (D.int 1))).bind fun t1 => Res.ok [t1])).bind fun t2 => (lstB t2))).bind fun t3 => (dAdd (rd v_cuts) t3))) (x_e2 (a := (Res.ok (rd v_cuts))) (b := (((((dIx (rd v_stretch) (D.int 1))).bind fun t1 => Res.ok [t1])).bind fun t2 => (lstB t2))) rfl (x_lst (as := (((dIx (rd v_stretch) (D.int 1))).bind fun t1 => Res.ok [t1])) (x_cons (a := (dIx (rd v_stretch) (D.int 1))) (as := (Res.ok [])) rfl rfl)))) rfl (fun d s => bo_B_net_pieces_1 v_name (fz v_width) (some v_channel) o_2 (some v_stretch) (some v_cuts) d s.1 s.2) fun t7 => (f_retV rfl))))))))))
def M_net_pieces (v_channel : D) (v_name : D) (v_bent : D) : Res D :=
  (((callD (lenIs 2 Ψ_stretch_of) [(rd v_channel), (rd v_name)]).bind chk).bind fun v_stretch =>
  (ifR ((dIsN (rd v_stretch)).bind asB)
  (okR (D.lst Tag.own []))
  (ifR (tru (rd v_bent))
  ((((((((dFld ["Channel"] "bends") (rd v_channel))).bind fun t9 => (itemsOf false t9))).bind fun t12 => ((lcV (fun t10 => ((ub2 t10).bind fun t11 => (ifR ((dEq (rd t11.2) (rd v_name)).bind asB) ((chk (rd t11.1)).bind fun y => Res.ok (some y)) (Res.ok none)))) t12).bind lstB)).bind chk).bind fun v_cuts =>
  (J_net_pieces_1 v_channel v_name v_stretch v_cuts))
  (J_net_pieces_1 v_channel v_name v_stretch (D.lst Tag.own [])))))
theorem me_net_pieces (v_channel : D) (v_name : D) (v_bent : D) : RF (g_net_pieces [some v_channel, some v_name, some v_bent, none, none, none, none, none, none, none]) (M_net_pieces v_channel v_name v_bent) := (f_last (f_assoc (f_set (fx := (callD (lenIs 2 Ψ_stretch_of) [(rd v_channel), (rd v_name)])) (en := fun v_stretch => [some v_channel, some v_name, some v_bent, some v_stretch, none, none, none, none, none, none]) (x_callP (as := [(rd v_channel), (rd v_name)]) (x_consP (a := (rd v_channel)) (as := [(rd v_name)]) rfl (x_consP (a := (rd v_name)) (as := []) rfl rfl)) rfl) (fun _ => rfl) fun v_stretch => (f_assoc (f_if (tx := ((dIsN (rd v_stretch)).bind asB)) rfl (f_retC (x := (D.lst Tag.own [])) (x_lstP (ds := []) rfl 0 rfl rfl) rfl) (f_nil (f_assoc (f_setV (x := (D.lst Tag.own [])) (en := [some v_channel, some v_name, some v_bent, some v_stretch, some (D.lst Tag.own []), none, none, none, none, none]) (x_lstP (ds := []) rfl 0 rfl rfl) rfl rfl (f_assoc (f_if (tx := (tru (rd v_bent))) rfl (f_set (fx := ((((((dFld ["Channel"] "bends") (rd v_channel))).bind fun t9 => (itemsOf false t9))).bind fun t12 => ((lcV (fun t10 => ((ub2 t10).bind fun t11 => (ifR ((dEq (rd t11.2) (rd v_name)).bind asB) ((chk (rd t11.1)).bind fun y => Res.ok (some y)) (Res.ok none)))) t12).bind lstB))) (en := fun v_cuts => [some v_channel, some v_name, some v_bent, some v_stretch, some v_cuts, none, none, none, none, none]) (x_lc (ix := ((((dFld ["Channel"] "bends") (rd v_channel))).bind fun t9 => (itemsOf false t9))) (step := fun t10 => ((ub2 t10).bind fun t11 => (ifR ((dEq (rd t11.2) (rd v_name)).bind asB) ((chk (rd t11.1)).bind fun y => Res.ok (some y)) (Res.ok none)))) rfl rfl (fun t10 => t_lc (tt := fun t11 => ((dEq (rd t11.2) (rd v_name)).bind asB)) (fx := fun t11 => (Res.ok (rd t11.1))) t_2b (fun t11 => rfl) (fun t11 => rfl))) (fun _ => rfl) fun v_cuts => (jo_J_net_pieces_1 v_channel v_name v_stretch v_cuts (some v_bent))) (f_nil (jo_J_net_pieces_1 v_channel v_name v_stretch (D.lst Tag.own []) (some v_bent)))))))))))))
def Ψ_net_pieces (ds : List D) : Res D := match ds with
  | [a0, a1, a2] => M_net_pieces a0 a1 a2
  | _ => Res.stuck
theorem ps_net_pieces (ds : List D) : Ψ_net_pieces ds = Res.stuck ∨ Φ_net_pieces ds = Ψ_net_pieces ds := by
  unfold Ψ_net_pieces
  split
  · exact phi_of rfl (me_net_pieces _ _ _)
  · exact .inl rfl
theorem pe_net_pieces {v_channel : D} {v_name : D} {v_bent : D} : Ψ_net_pieces [v_channel, v_name, v_bent] = M_net_pieces v_channel v_name v_bent := rfl
def q_pieces_of_1 : PV.Env → Res D := eTup (lCons (eC .non) (lCons (eVar 4) (lCons (eVar 5) (lCons (eVar 6) (lNil)))))
def b_pieces_of_1 : PV.Env → SR := sExt 2 (eCall (lenIs 3 Ψ_net_pieces) [] (lCons (eVar 0) (lCons (eVar 3) (lCons (eVar 1) (lNil)))))
def N_pieces_of : List Str := ["channel", "bent", "pieces", "name", "first", "last", "many"]
def g_pieces_of : PV.Env → SR := sSeq (sSet 2 (eLc (yVal false (e1 (dFld ["Channel"] "keeps") (eVar 0))) (putT 3 (putD (putb 4) (putD (putb 5) (putD (putb 6) (putN))))) (bYes) (q_pieces_of_1) [4, 5, 6])) (sSeq (sFor (yLift (yVal true (eCall (lenIs 1 Ψ_nets_of) [] (lCons (eVar 0) (lNil))))) (put1 3) (b_pieces_of_1) [3]) (sRetV 2))
def Φ_pieces_of : List D → Res D := runF N_pieces_of.length g_pieces_of
def B_pieces_of_1 (v_channel : D) (v_bent : D) (t6 : D) (v_pieces : D) : Res (Fo D) :=
  ((chk t6).bind fun t7 => ((extV v_pieces (callD (lenIs 3 Ψ_net_pieces) [(rd v_channel), (rd t7), (rd v_bent)])).bind fun v_pieces =>
  (Res.ok (Fo.nx v_pieces))))
theorem bo_B_pieces_of_1 (v_channel : D) (v_bent : D) (t6 : D) (v_pieces : D) : RB (fun s : D => [some v_channel, some v_bent, some s, none, none, none, none]) [3] (tgt (put1 3) b_pieces_of_1 t6 [some v_channel, some v_bent, some v_pieces, none, none, none, none]) (B_pieces_of_1 v_channel v_bent t6 v_pieces) := b_tgt (en := fun t7 => [some v_channel, some v_bent, some v_pieces, some t7, none, none, none]) t_1 (chk_nox t6) (fun _ => rfl) fun t7 => (b_last (b_ext (fx := (callD (lenIs 3 Ψ_net_pieces) [(rd v_channel), (rd t7), (rd v_bent)])) (en := fun v_pieces => [some v_channel, some v_bent, some v_pieces, some t7, none, none, none]) rfl (x_callP (as := [(rd v_channel), (rd t7), (rd v_bent)]) (x_consP (a := (rd v_channel)) (as := [(rd t7), (rd v_bent)]) rfl (x_consP (a := (rd t7)) (as := [(rd v_bent)]) rfl (x_consP (a := (rd v_bent)) (as := []) rfl rfl))) rfl) (fun _ => rfl) fun v_pieces => (r_nilB rfl)))
def M_pieces_of (v_channel : D) (v_bent : D) : Res D :=
  ((((((((dFld ["Channel"] "keeps") (rd v_channel))).bind fun t1 => (itemsOf false t1))).bind fun t4 => ((lcV (fun t2 => ((ub3 t2).bind fun t3 => ((chk (D.tup [D.non, (rd t3.1), (rd t3.2.1), (rd t3.2.2)])).bind fun y => Res.ok (some y)))) t4).bind lstB)).bind chk).bind fun v_pieces =>
  (((((callD (lenIs 1 Ψ_nets_of) [(rd v_channel)])).bind fun t5 => (itemsOf true t5))).bind fun t9 => (afterV (forV (fun d s => B_pieces_of_1 v_channel v_bent d s) t9 v_pieces) (fun t8 =>
  (okR t8)) okR)))
theorem me_pieces_of (v_channel : D) (v_bent : D) : RF (g_pieces_of [some v_channel, some v_bent, none, none, none, none, none]) (M_pieces_of v_channel v_bent) := (f_last (f_assoc (f_set (fx := ((((((dFld ["Channel"] "keeps") (rd v_channel))).bind fun t1 => (itemsOf false t1))).bind fun t4 => ((lcV (fun t2 => ((ub3 t2).bind fun t3 => ((chk (D.tup [D.non, (rd t3.1), (rd t3.2.1), (rd t3.2.2)])).bind fun y => Res.ok (some y)))) t4).bind lstB))) (en := fun v_pieces => [some v_channel, some v_bent, some v_pieces, none, none, none, none]) (x_lc (ix := ((((dFld ["Channel"] "keeps") (rd v_channel))).bind fun t1 => (itemsOf false t1))) (step := fun t2 => ((ub3 t2).bind fun t3 => ((chk (D.tup [D.non, (rd t3.1), (rd t3.2.1), (rd t3.2.2)])).bind fun y => Res.ok (some y)))) rfl rfl (fun t2 => t_lc1 (fx := fun t3 => (Res.ok (D.tup [D.non, (rd t3.1), (rd t3.2.1), (rd t3.2.2)]))) t_3b (fun t3 => (x_tupP (ds := [D.non, (rd t3.1), (rd t3.2.1), (rd t3.2.2)]) (x_consP (a := D.non) (as := [(rd t3.1), (rd t3.2.1), (rd t3.2.2)]) rfl (x_consP (a := (rd t3.1)) (as := [(rd t3.2.1), (rd t3.2.2)]) rfl (x_consP (a := (rd t3.2.1)) (as := [(rd t3.2.2)]) rfl (x_consP (a := (rd t3.2.2)) (as := []) rfl rfl)))) 4 rfl rfl)))) (fun _ => rfl) fun v_pieces => (f_assoc (f_for (fun s : D => [some v_channel, some v_bent, some s, none, none, none, none]) (step := (fun d s => B_pieces_of_1 v_channel v_bent d s)) (s0 := v_pieces) (ix := (((callD (lenIs 1 Ψ_nets_of) [(rd v_channel)])).bind fun t5 => (itemsOf true t5))) (x_yVal (a := (callD (lenIs 1 Ψ_nets_of) [(rd v_channel)])) (x_callP (as := [(rd v_channel)]) (x_consP (a := (rd v_channel)) (as := []) rfl rfl) rfl)) rfl (fun d s => bo_B_pieces_of_1 v_channel v_bent d s) fun t8 => (f_retV rfl))))))
def Ψ_pieces_of (ds : List D) : Res D := match ds with
  | [a0, a1] => M_pieces_of a0 a1
  | _ => Res.stuck
theorem ps_pieces_of (ds : List D) : Ψ_pieces_of ds = Res.stuck ∨ Φ_pieces_of ds = Ψ_pieces_of ds := by
  unfold Ψ_pieces_of
  split
  · exact phi_of rfl (me_pieces_of _ _)
  · exact .inl rfl
theorem pe_pieces_of {v_channel : D} {v_bent : D} : Ψ_pieces_of [v_channel, v_bent] = M_pieces_of v_channel v_bent := rfl
def b__law_pins_1 : PV.Env → SR := sSeq (sSet 9 (e2 dAdd (e2 dMul (eC (.int 2)) (eVar 6)) (eVar 8))) (sSeq (sSet 10 (eCall (lenIs 2 Φ__law_mix) [] (lCons (eVar 2) (lCons (eVar 9) (lNil))))) (sSeq (sIf (eB (e2 dLt (eVar 9) (eC_ dLen (lCons (eVar 1) (lNil))))) (sSet 10 (eCall (lenIs 2 Φ__law_mix) [] (lCons (e2 dIx (eVar 1) (eVar 9)) (lCons (eVar 9) (lNil))))) (sNil)) (sApp 7 (e2 dIx (eLst (lCons (e2 dIx (eVar 0) (e2 dMod (eVar 10) (eC (.int 8)))) (lCons (e2 dIx (eVar 0) (e2 dMod (e2 dDiv (eVar 10) (eC (.int 8))) (eC (.int 3)))) (lCons (e2 dIx (eVar 0) (e2 dMod (e2 dDiv (eVar 10) (eC (.int 8))) (eC (.int 5)))) (lCons (eC .non) (lNil)))))) (e2 dMod (e2 dDiv (eVar 10) (eC (.int 64))) (eC (.int 4)))))))
def b__law_pins_2 : PV.Env → SR := sSeq (sSet 7 (eLst (lNil))) (sSeq (sFor (yLift (yL rng1 (lCons (eC (.int 2)) (lNil)))) (put1 8) (b__law_pins_1) [8, 9, 10]) (sSeq (sApp 4 (e2 dIx (eVar 7) (eC (.int 0)))) (sApp 5 (e2 dIx (eVar 7) (eC (.int 1))))))
def N__law_pins : List Str := ["_law_words", "_law_cells", "_law_seed", "_law_width", "_law_top", "_law_bottom", "_law_c", "_law_row", "_law_side", "_law_k", "_law_one"]
def g__law_pins : PV.Env → SR := sSeq (sSet 4 (eLst (lNil))) (sSeq (sSet 5 (eLst (lNil))) (sSeq (sFor (yLift (yL rng1 (lCons (eVar 3) (lNil)))) (put1 6) (b__law_pins_2) [6, 7, 8, 9, 10]) (sFrz 5 (sFrz 4 (sRet (eTup (lCons (eVar 4) (lCons (eVar 5) (lNil)))))))))
def Φ__law_pins : List D → Res D := runF N__law_pins.length g__law_pins
def J__law_pins_1 (y_words : D) (y_cells : D) (y_seed : D) (y_top : D) (y_bottom : D) (y_c : D) (y_row : D) (y_one : D) : Res (Fo D) :=
  ((appV y_row (((((((((dMod (rd y_one) (D.int 8))).bind fun t7 => (dIx (rd y_words) t7))).bind fun t15 => ((((((((dDiv (rd y_one) (D.int 8))).bind fun t8 => (dMod t8 (D.int 3)))).bind fun t9 => (dIx (rd y_words) t9))).bind fun t13 => ((((((((dDiv (rd y_one) (D.int 8))).bind fun t10 => (dMod t10 (D.int 5)))).bind fun t11 => (dIx (rd y_words) t11))).bind fun t12 => Res.ok [t12, D.non])).bind fun t14 => Res.ok (t13 :: t14))).bind fun t16 => Res.ok (t15 :: t16))).bind fun t17 => (lstB t17))).bind fun t19 => (((((dDiv (rd y_one) (D.int 64))).bind fun t18 => (dMod t18 (D.int 4)))).bind fun t20 => (dIx t19 t20)))).bind fun y_row =>
  (Res.ok (Fo.nx y_row)))
theorem jo_J__law_pins_1 (y_words : D) (y_cells : D) (y_seed : D) (y_top : D) (y_bottom : D) (y_c : D) (y_row : D) (y_one : D) (o_3 o_8 o_9 : Option D) : RB (fun s : D => [some y_words, some y_cells, some y_seed, o_3, some y_top, some y_bottom, some y_c, some s, none, none, none]) [8 , 9 , 10] ((sSeq (sApp 7 (e2 dIx (eLst (lCons (e2 dIx (eVar 0) (e2 dMod (eVar 10) (eC (D.int 8)))) (lCons (e2 dIx (eVar 0) (e2 dMod (e2 dDiv (eVar 10) (eC (D.int 8))) (eC (D.int 3)))) (lCons (e2 dIx (eVar 0) (e2 dMod (e2 dDiv (eVar 10) (eC (D.int 8))) (eC (D.int 5)))) (lCons (eC D.non) lNil))))) (e2 dMod (e2 dDiv (eVar 10) (eC (D.int 64))) (eC (D.int 4))))) sNil) [some y_words, some y_cells, some y_seed, o_3, some y_top, some y_bottom, some y_c, some y_row, o_8, o_9, some y_one]) (J__law_pins_1 y_words y_cells y_seed y_top y_bottom y_c y_row y_one) := (b_app (fx := (((((((((dMod (rd y_one) (D.int 8))).bind fun t7 => (dIx (rd y_words) t7))).bind fun t15 => ((((((((dDiv (rd y_one) (D.int 8))).bind fun t8 => (dMod t8 (D.int 3)))).bind fun t9 => (dIx (rd y_words) t9))).bind fun t13 => ((((((((dDiv (rd y_one) (D.int 8))).bind fun t10 => (dMod t10 (D.int 5)))).bind fun t11 => (dIx (rd y_words) t11))).bind fun t12 => Res.ok [t12, D.non])).bind fun t14 => Res.ok (t13 :: t14))).bind fun t16 => Res.ok (t15 :: t16))).bind fun t17 => (lstB t17))).bind fun t19 => (((((dDiv (rd y_one) (D.int 64))).bind fun t18 => (dMod t18 (D.int 4)))).bind fun t20 => (dIx t19 t20)))) (en := fun y_row => [some y_words, some y_cells, some y_seed, o_3, some y_top, some y_bottom, some y_c, some y_row, o_8, o_9, some y_one]) rfl (x_e2 (a := (((((((dMod (rd y_one) (D.int 8))).bind fun t7 => (dIx (rd y_words) t7))).bind fun t15 => ((((((((dDiv (rd y_one) (D.int 8))).bind fun t8 => (dMod t8 (D.int 3)))).bind fun t9 => (dIx (rd y_words) t9))).bind fun t13 => ((((((((dDiv (rd y_one) (D.int 8))).bind fun t10 => (dMod t10 (D.int 5)))).bind fun t11 => (dIx (rd y_words) t11))).bind fun t12 => Res.ok [t12, D.non])).bind fun t14 => Res.ok (t13 :: t14))).bind fun t16 => Res.ok (t15 :: t16))).bind fun t17 => (lstB t17))) (b := (((dDiv (rd y_one) (D.int 64))).bind fun t18 => (dMod t18 (D.int 4)))) (x_lst (as := (((((dMod (rd y_one) (D.int 8))).bind fun t7 => (dIx (rd y_words) t7))).bind fun t15 => ((((((((dDiv (rd y_one) (D.int 8))).bind fun t8 => (dMod t8 (D.int 3)))).bind fun t9 => (dIx (rd y_words) t9))).bind fun t13 => ((((((((dDiv (rd y_one) (D.int 8))).bind fun t10 => (dMod t10 (D.int 5)))).bind fun t11 => (dIx (rd y_words) t11))).bind fun t12 => Res.ok [t12, D.non])).bind fun t14 => Res.ok (t13 :: t14))).bind fun t16 => Res.ok (t15 :: t16))) (x_cons (a := (((dMod (rd y_one) (D.int 8))).bind fun t7 => (dIx (rd y_words) t7))) (as := (((((((dDiv (rd y_one) (D.int 8))).bind fun t8 => (dMod t8 (D.int 3)))).bind fun t9 => (dIx (rd y_words) t9))).bind fun t13 => ((((((((dDiv (rd y_one) (D.int 8))).bind fun t10 => (dMod t10 (D.int 5)))).bind fun t11 => (dIx (rd y_words) t11))).bind fun t12 => Res.ok [t12, D.non])).bind fun t14 => Res.ok (t13 :: t14))) rfl (x_cons (a := (((((dDiv (rd y_one) (D.int 8))).bind fun t8 => (dMod t8 (D.int 3)))).bind fun t9 => (dIx (rd y_words) t9))) (as := (((((((dDiv (rd y_one) (D.int 8))).bind fun t10 => (dMod t10 (D.int 5)))).bind fun t11 => (dIx (rd y_words) t11))).bind fun t12 => Res.ok [t12, D.non])) rfl (x_cons (a := (((((dDiv (rd y_one) (D.int 8))).bind fun t10 => (dMod t10 (D.int 5)))).bind fun t11 => (dIx (rd y_words) t11))) (as := (Res.ok [D.non])) rfl (x_consP (a := D.non) (as := []) rfl rfl))))) rfl) (fun _ => rfl) fun y_row => (r_nilB rfl))
def B__law_pins_2 (y_words : D) (y_cells : D) (y_seed : D) (y_top : D) (y_bottom : D) (y_c : D) (t3 : D) (y_row : D) : Res (Fo D) :=
  ((chk t3).bind fun t4 => (((((dMul (D.int 2) (rd y_c))).bind fun t5 => (dAdd t5 (rd t4))).bind chk).bind fun y_k =>
  (((callD (lenIs 2 Φ__law_mix) [(rd y_seed), (rd y_k)]).bind chk).bind fun y_one =>
  (ifR ((((dLen [(rd y_cells)])).bind fun t6 => (dLt (rd y_k) t6)).bind asB)
  (((((((dIx (rd y_cells) (rd y_k))).bind fun t21 => Res.ok [t21, (rd y_k)])).bind fun t22 => (callD (lenIs 2 Φ__law_mix) (t22 ++ []))).bind chk).bind fun y_one =>
  (J__law_pins_1 y_words y_cells y_seed y_top y_bottom y_c y_row y_one))
  (J__law_pins_1 y_words y_cells y_seed y_top y_bottom y_c y_row y_one)))))
theorem bo_B__law_pins_2 (y_words : D) (y_cells : D) (y_seed : D) (y_top : D) (y_bottom : D) (y_c : D) (o_3 : Option D) (t3 : D) (y_row : D) : RB (fun s : D => [some y_words, some y_cells, some y_seed, o_3, some y_top, some y_bottom, some y_c, some s, none, none, none]) [8 , 9 , 10] (tgt (put1 8) b__law_pins_1 t3 [some y_words, some y_cells, some y_seed, o_3, some y_top, some y_bottom, some y_c, some y_row, none, none, none]) (B__law_pins_2 y_words y_cells y_seed y_top y_bottom y_c t3 y_row) := b_tgt (en := fun t4 => [some y_words, some y_cells, some y_seed, o_3, some y_top, some y_bottom, some y_c, some y_row, some t4, none, none]) t_1 (chk_nox t3) (fun _ => rfl) fun t4 => (b_last (b_assoc (b_set (fx := (((dMul (D.int 2) (rd y_c))).bind fun t5 => (dAdd t5 (rd t4)))) (en := fun y_k => [some y_words, some y_cells, some y_seed, o_3, some y_top, some y_bottom, some y_c, some y_row, some t4, some y_k, none]) rfl (fun _ => rfl) fun y_k => (b_assoc (b_set (fx := (callD (lenIs 2 Φ__law_mix) [(rd y_seed), (rd y_k)])) (en := fun y_one => [some y_words, some y_cells, some y_seed, o_3, some y_top, some y_bottom, some y_c, some y_row, some t4, some y_k, some y_one]) (x_callP (as := [(rd y_seed), (rd y_k)]) (x_consP (a := (rd y_seed)) (as := [(rd y_k)]) rfl (x_consP (a := (rd y_k)) (as := []) rfl rfl)) rfl) (fun _ => rfl) fun y_one => (b_assoc (b_if (tx := ((((dLen [(rd y_cells)])).bind fun t6 => (dLt (rd y_k) t6)).bind asB)) (x_B (a := (((dLen [(rd y_cells)])).bind fun t6 => (dLt (rd y_k) t6))) (x_e2 (a := (Res.ok (rd y_k))) (b := (dLen [(rd y_cells)])) rfl (x_eC (as := (Res.ok [(rd y_cells)])) (x_consP (a := (rd y_cells)) (as := []) rfl rfl)))) (b_set (fx := (((((dIx (rd y_cells) (rd y_k))).bind fun t21 => Res.ok [t21, (rd y_k)])).bind fun t22 => (callD (lenIs 2 Φ__law_mix) (t22 ++ [])))) (en := fun y_one => [some y_words, some y_cells, some y_seed, o_3, some y_top, some y_bottom, some y_c, some y_row, some t4, some y_k, some y_one]) (x_call (as := (((dIx (rd y_cells) (rd y_k))).bind fun t21 => Res.ok [t21, (rd y_k)])) (x_cons (a := (dIx (rd y_cells) (rd y_k))) (as := (Res.ok [(rd y_k)])) rfl (x_consP (a := (rd y_k)) (as := []) rfl rfl))) (fun _ => rfl) fun y_one => (jo_J__law_pins_1 y_words y_cells y_seed y_top y_bottom y_c y_row y_one o_3 (some t4) (some y_k))) (b_nil (jo_J__law_pins_1 y_words y_cells y_seed y_top y_bottom y_c y_row y_one o_3 (some t4) (some y_k))))))))))
def B__law_pins_1 (y_words : D) (y_cells : D) (y_seed : D) (t1 : D) (y_top : D) (y_bottom : D) : Res (Fo (D × D)) :=
  ((chk t1).bind fun t2 => (((rng1 [(D.int 2)])).bind fun t24 => (afterV (forV (fun d s => B__law_pins_2 y_words y_cells y_seed y_top y_bottom t2 d s) t24 (D.lst Tag.own [])) (fun t23 =>
  ((appV y_top (dIx (rd t23) (D.int 0))).bind fun y_top =>
  ((appV y_bottom (dIx (rd t23) (D.int 1))).bind fun y_bottom =>
  (Res.ok (Fo.nx (y_top, y_bottom)))))) rtR)))
theorem bo_B__law_pins_1 (y_words : D) (y_cells : D) (y_seed : D) (o_3 : Option D) (t1 : D) (y_top : D) (y_bottom : D) : RB (fun s : (D × D) => [some y_words, some y_cells, some y_seed, o_3, some s.1, some s.2, none, none, none, none, none]) [6 , 7 , 8 , 9 , 10] (tgt (put1 6) b__law_pins_2 t1 [some y_words, some y_cells, some y_seed, o_3, some y_top, some y_bottom, none, none, none, none, none]) (B__law_pins_1 y_words y_cells y_seed t1 y_top y_bottom) := b_tgt (en := fun t2 => [some y_words, some y_cells, some y_seed, o_3, some y_top, some y_bottom, some t2, none, none, none, none]) t_1 (chk_nox t1) (fun _ => rfl) fun t2 => (b_last (b_assoc (b_setV (x := (D.lst Tag.own [])) (en := [some y_words, some y_cells, some y_seed, o_3, some y_top, some y_bottom, some t2, some (D.lst Tag.own []), none, none, none]) (x_lstP (ds := []) rfl 0 rfl rfl) rfl rfl (b_assoc (b_for (fun s : D => [some y_words, some y_cells, some y_seed, o_3, some y_top, some y_bottom, some t2, some s, none, none, none]) (step := (fun d s => B__law_pins_2 y_words y_cells y_seed y_top y_bottom t2 d s)) (s0 := (D.lst Tag.own [])) (ix := (rng1 [(D.int 2)])) (x_yL (as := (Res.ok [(D.int 2)])) (x_consP (a := (D.int 2)) (as := []) rfl rfl)) rfl (fun d s => bo_B__law_pins_2 y_words y_cells y_seed y_top y_bottom t2 o_3 d s) fun t23 => (b_assoc (b_app (fx := (dIx (rd t23) (D.int 0))) (en := fun y_top => [some y_words, some y_cells, some y_seed, o_3, some y_top, some y_bottom, some t2, some t23, none, none, none]) rfl rfl (fun _ => rfl) fun y_top => (b_app (fx := (dIx (rd t23) (D.int 1))) (en := fun y_bottom => [some y_words, some y_cells, some y_seed, o_3, some y_top, some y_bottom, some t2, some t23, none, none, none]) rfl rfl (fun _ => rfl) fun y_bottom => (r_nilB rfl)))))))))
def M__law_pins (y_words : D) (y_cells : D) (y_seed : D) (y_width : D) : Res D :=
  (((rng1 [(rd y_width)])).bind fun t26 => (afterV (forV (fun d s => B__law_pins_1 y_words y_cells y_seed d s.1 s.2) t26 ((D.lst Tag.own []), (D.lst Tag.own []))) (fun t25 =>
  ((chk (D.tup [(rd (fz t25.1)), (rd (fz t25.2))])).bind okR)) okR))
theorem me__law_pins (y_words : D) (y_cells : D) (y_seed : D) (y_width : D) : RF (g__law_pins [some y_words, some y_cells, some y_seed, some y_width, none, none, none, none, none, none, none]) (M__law_pins y_words y_cells y_seed y_width) := (f_last (f_assoc (f_setV (x := (D.lst Tag.own [])) (en := [some y_words, some y_cells, some y_seed, some y_width, some (D.lst Tag.own []), none, none, none, none, none, none]) (x_lstP (ds := []) rfl 0 rfl rfl) rfl rfl (f_assoc (f_setV (x := (D.lst Tag.own [])) (en := [some y_words, some y_cells, some y_seed, some y_width, some (D.lst Tag.own []), some (D.lst Tag.own []), none, none, none, none, none]) (x_lstP (ds := []) rfl 0 rfl rfl) rfl rfl (f_assoc (f_for (fun s : (D × D) => [some y_words, some y_cells, some y_seed, some y_width, some s.1, some s.2, none, none, none, none, none]) (step := (fun d s => B__law_pins_1 y_words y_cells y_seed d s.1 s.2)) (s0 := ((D.lst Tag.own []), (D.lst Tag.own []))) (ix := (rng1 [(rd y_width)])) (x_yL (as := (Res.ok [(rd y_width)])) (x_consP (a := (rd y_width)) (as := []) rfl rfl)) rfl (fun d s => bo_B__law_pins_1 y_words y_cells y_seed (some y_width) d s.1 s.2) fun t25 => (f_frz (en := [some y_words, some y_cells, some y_seed, some y_width, some t25.1, some (fz t25.2), none, none, none, none, none]) rfl (f_frz (en := [some y_words, some y_cells, some y_seed, some y_width, some (fz t25.1), some (fz t25.2), none, none, none, none, none]) rfl (f_ret (fx := (Res.ok (D.tup [(rd (fz t25.1)), (rd (fz t25.2))]))) (x_tupP (ds := [(rd (fz t25.1)), (rd (fz t25.2))]) (x_consP (a := (rd (fz t25.1))) (as := [(rd (fz t25.2))]) rfl (x_consP (a := (rd (fz t25.2))) (as := []) rfl rfl)) 2 rfl rfl)))))))))))
def Ψ__law_pins (ds : List D) : Res D := match ds with
  | [a0, a1, a2, a3] => M__law_pins a0 a1 a2 a3
  | _ => Res.stuck
theorem ps__law_pins (ds : List D) : Ψ__law_pins ds = Res.stuck ∨ Φ__law_pins ds = Ψ__law_pins ds := by
  unfold Ψ__law_pins
  split
  · exact phi_of rfl (me__law_pins _ _ _ _)
  · exact .inl rfl
theorem pe__law_pins {y_words : D} {y_cells : D} {y_seed : D} {y_width : D} : Ψ__law_pins [y_words, y_cells, y_seed, y_width] = M__law_pins y_words y_cells y_seed y_width := rfl
def N__law_many : List Str := ["_law_top", "_law_bottom", "_law_left", "_law_right", "_law_word", "_law_some"]
def g__law_many : PV.Env → SR := sSeq (sSet 5 (e2 dAdd (e2 dAdd (e2 dAdd (eVar 0) (eVar 1)) (eVar 2)) (eVar 3))) (sRet (eCnt (eVar 5) (eVar 4)))
def Φ__law_many : List D → Res D := runF N__law_many.length g__law_many
def M__law_many (y_top : D) (y_bottom : D) (y_left : D) (y_right : D) (y_word : D) : Res D :=
  (((((((dAdd (rd y_top) (rd y_bottom))).bind fun t1 => (dAdd t1 (rd y_left)))).bind fun t2 => (dAdd t2 (rd y_right))).bind chk).bind fun y_some =>
  (((cntV (Res.ok (rd y_some)) (Res.ok (rd y_word))).bind chk).bind okR))
theorem me__law_many (y_top : D) (y_bottom : D) (y_left : D) (y_right : D) (y_word : D) : RF (g__law_many [some y_top, some y_bottom, some y_left, some y_right, some y_word, none]) (M__law_many y_top y_bottom y_left y_right y_word) := (f_last (f_assoc (f_set (fx := (((((dAdd (rd y_top) (rd y_bottom))).bind fun t1 => (dAdd t1 (rd y_left)))).bind fun t2 => (dAdd t2 (rd y_right)))) (en := fun y_some => [some y_top, some y_bottom, some y_left, some y_right, some y_word, some y_some]) rfl (fun _ => rfl) fun y_some => (f_ret (fx := (cntV (Res.ok (rd y_some)) (Res.ok (rd y_word)))) rfl))))
def Ψ__law_many (ds : List D) : Res D := match ds with
  | [a0, a1, a2, a3, a4] => M__law_many a0 a1 a2 a3 a4
  | _ => Res.stuck
theorem ps__law_many (ds : List D) : Ψ__law_many ds = Res.stuck ∨ Φ__law_many ds = Ψ__law_many ds := by
  unfold Ψ__law_many
  split
  · exact phi_of rfl (me__law_many _ _ _ _ _)
  · exact .inl rfl
theorem pe__law_many {y_top : D} {y_bottom : D} {y_left : D} {y_right : D} {y_word : D} : Ψ__law_many [y_top, y_bottom, y_left, y_right, y_word] = M__law_many y_top y_bottom y_left y_right y_word := rfl
def q__law_stretch_1 : PV.Env → Res D := eVar 6
def t__law_stretch_1 : PV.Env → Res Bool := eB (e2 dIn1 (eVar 4) (eLst (lCons (e2 dIx (eVar 0) (eVar 6)) (lCons (e2 dIx (eVar 1) (eVar 6)) (lNil)))))
def N__law_stretch : List Str := ["_law_top", "_law_bottom", "_law_left", "_law_right", "_law_word", "_law_places", "_law_c"]
def g__law_stretch : PV.Env → SR := sSeq (sSet 5 (eLc (yL rng1 (lCons (eC_ dLen (lCons (eVar 0) (lNil))) (lNil))) (putb 6) (t__law_stretch_1) (q__law_stretch_1) [6])) (sSeq (sIf (eB (e2 dIn1 (eVar 4) (eVar 2))) (sApp 5 (e1 dNeg (eC (.int 1)))) (sNil)) (sSeq (sIf (eB (e2 dIn1 (eVar 4) (eVar 3))) (sApp 5 (eC_ dLen (lCons (eVar 0) (lNil)))) (sNil)) (sRet (eTup (lCons (eC_ dMin (lCons (e2 dAdd (eVar 5) (eLst (lCons (eC (.int 99)) (lNil)))) (lNil))) (lCons (eC_ dMax (lCons (e2 dAdd (eVar 5) (eLst (lCons (e1 dNeg (eC (.int 9))) (lNil)))) (lNil))) (lNil)))))))
def Φ__law_stretch : List D → Res D := runF N__law_stretch.length g__law_stretch
def J__law_stretch_2 (y_places : D) : Res D :=
  (((((((((((dAdd (rd y_places) (D.lst Tag.own [(D.int 99)]))).bind fun t11 => Res.ok [t11])).bind fun t12 => (dMin t12))).bind fun t16 => ((((((((dAdd (rd y_places) (D.lst Tag.own [(D.int (-9))]))).bind fun t13 => Res.ok [t13])).bind fun t14 => (dMax t14))).bind fun t15 => Res.ok [t15])).bind fun t17 => Res.ok (t16 :: t17))).bind fun t18 => (tupA t18)).bind chk).bind okR)
theorem jo_J__law_stretch_2 (y_places : D) (o_0 o_1 o_2 o_3 o_4 : Option D) : RF ((sSeq (sRet (eTup (lCons (eC_ dMin (lCons (e2 dAdd (eVar 5) (eLst (lCons (eC (D.int 99)) lNil))) lNil)) (lCons (eC_ dMax (lCons (e2 dAdd (eVar 5) (eLst (lCons (e1 dNeg (eC (D.int 9))) lNil))) lNil)) lNil)))) sNil) [o_0, o_1, o_2, o_3, o_4, some y_places, none]) (J__law_stretch_2 y_places) := (f_ret (fx := (((((((((dAdd (rd y_places) (D.lst Tag.own [(D.int 99)]))).bind fun t11 => Res.ok [t11])).bind fun t12 => (dMin t12))).bind fun t16 => ((((((((dAdd (rd y_places) (D.lst Tag.own [(D.int (-9))]))).bind fun t13 => Res.ok [t13])).bind fun t14 => (dMax t14))).bind fun t15 => Res.ok [t15])).bind fun t17 => Res.ok (t16 :: t17))).bind fun t18 => (tupA t18))) (x_tup (as := (((((((dAdd (rd y_places) (D.lst Tag.own [(D.int 99)]))).bind fun t11 => Res.ok [t11])).bind fun t12 => (dMin t12))).bind fun t16 => ((((((((dAdd (rd y_places) (D.lst Tag.own [(D.int (-9))]))).bind fun t13 => Res.ok [t13])).bind fun t14 => (dMax t14))).bind fun t15 => Res.ok [t15])).bind fun t17 => Res.ok (t16 :: t17))) (x_cons (a := (((((dAdd (rd y_places) (D.lst Tag.own [(D.int 99)]))).bind fun t11 => Res.ok [t11])).bind fun t12 => (dMin t12))) (as := (((((((dAdd (rd y_places) (D.lst Tag.own [(D.int (-9))]))).bind fun t13 => Res.ok [t13])).bind fun t14 => (dMax t14))).bind fun t15 => Res.ok [t15])) (x_eC (as := (((dAdd (rd y_places) (D.lst Tag.own [(D.int 99)]))).bind fun t11 => Res.ok [t11])) (x_cons (a := (dAdd (rd y_places) (D.lst Tag.own [(D.int 99)]))) (as := (Res.ok [])) (x_e2 (a := (Res.ok (rd y_places))) (b := (Res.ok (D.lst Tag.own [(D.int 99)]))) rfl (x_lstP (ds := [(D.int 99)]) (x_consP (a := (D.int 99)) (as := []) rfl rfl) 1 rfl rfl)) rfl)) (x_cons (a := (((((dAdd (rd y_places) (D.lst Tag.own [(D.int (-9))]))).bind fun t13 => Res.ok [t13])).bind fun t14 => (dMax t14))) (as := (Res.ok [])) (x_eC (as := (((dAdd (rd y_places) (D.lst Tag.own [(D.int (-9))]))).bind fun t13 => Res.ok [t13])) (x_cons (a := (dAdd (rd y_places) (D.lst Tag.own [(D.int (-9))]))) (as := (Res.ok [])) (x_e2 (a := (Res.ok (rd y_places))) (b := (Res.ok (D.lst Tag.own [(D.int (-9))]))) rfl (x_lstP (ds := [(D.int (-9))]) (x_consP (a := (D.int (-9))) (as := []) rfl rfl) 1 rfl rfl)) rfl)) rfl))))
def J__law_stretch_1 (y_top : D) (y_right : D) (y_word : D) (y_places : D) : Res D :=
  (ifR ((dIn1 (rd y_word) (rd y_right)).bind asB)
  ((appV y_places (dLen [(rd y_top)])).bind fun y_places =>
  (J__law_stretch_2 y_places))
  (J__law_stretch_2 y_places))
theorem jo_J__law_stretch_1 (y_top : D) (y_right : D) (y_word : D) (y_places : D) (o_1 o_2 : Option D) : RF ((sSeq (sSeq (sIf (eB (e2 dIn1 (eVar 4) (eVar 3))) (sApp 5 (eC_ dLen (lCons (eVar 0) lNil))) sNil) (sRet (eTup (lCons (eC_ dMin (lCons (e2 dAdd (eVar 5) (eLst (lCons (eC (D.int 99)) lNil))) lNil)) (lCons (eC_ dMax (lCons (e2 dAdd (eVar 5) (eLst (lCons (e1 dNeg (eC (D.int 9))) lNil))) lNil)) lNil))))) sNil) [some y_top, o_1, o_2, some y_right, some y_word, some y_places, none]) (J__law_stretch_1 y_top y_right y_word y_places) := (f_assoc (f_if (tx := ((dIn1 (rd y_word) (rd y_right)).bind asB)) rfl (f_app (fx := (dLen [(rd y_top)])) (en := fun y_places => [some y_top, o_1, o_2, some y_right, some y_word, some y_places, none]) rfl (x_eC (as := (Res.ok [(rd y_top)])) (x_consP (a := (rd y_top)) (as := []) rfl rfl)) (fun _ => rfl) fun y_places => (jo_J__law_stretch_2 y_places (some y_top) o_1 o_2 (some y_right) (some y_word))) (f_nil (jo_J__law_stretch_2 y_places (some y_top) o_1 o_2 (some y_right) (some y_word)))))
def M__law_stretch (y_top : D) (y_bottom : D) (y_left : D) (y_right : D) (y_word : D) : Res D :=
  (((((((((dLen [(rd y_top)])).bind fun t1 => Res.ok [t1])).bind fun t2 => (rng1 t2))).bind fun t10 => ((lcV (fun t3 => (ifR ((((((((dIx (rd y_top) (rd t3))).bind fun t6 => ((((dIx (rd y_bottom) (rd t3))).bind fun t5 => Res.ok [t5])).bind fun t7 => Res.ok (t6 :: t7))).bind fun t8 => (lstB t8))).bind fun t9 => (dIn1 (rd y_word) t9)).bind asB) ((chk (rd t3)).bind fun y => Res.ok (some y)) (Res.ok none))) t10).bind lstB)).bind chk).bind fun y_places =>
  (ifR ((dIn1 (rd y_word) (rd y_left)).bind asB)
  ((appV y_places (Res.ok (D.int (-1)))).bind fun y_places =>
  (J__law_stretch_1 y_top y_right y_word y_places))
  (J__law_stretch_1 y_top y_right y_word y_places)))
theorem me__law_stretch (y_top : D) (y_bottom : D) (y_left : D) (y_right : D) (y_word : D) : RF (g__law_stretch [some y_top, some y_bottom, some y_left, some y_right, some y_word, none, none]) (M__law_stretch y_top y_bottom y_left y_right y_word) := (f_last (f_assoc (f_set (fx := (((((((dLen [(rd y_top)])).bind fun t1 => Res.ok [t1])).bind fun t2 => (rng1 t2))).bind fun t10 => ((lcV (fun t3 => (ifR ((((((((dIx (rd y_top) (rd t3))).bind fun t6 => ((((dIx (rd y_bottom) (rd t3))).bind fun t5 => Res.ok [t5])).bind fun t7 => Res.ok (t6 :: t7))).bind fun t8 => (lstB t8))).bind fun t9 => (dIn1 (rd y_word) t9)).bind asB) ((chk (rd t3)).bind fun y => Res.ok (some y)) (Res.ok none))) t10).bind lstB))) (en := fun y_places => [some y_top, some y_bottom, some y_left, some y_right, some y_word, some y_places, none]) (x_lc (ix := (((((dLen [(rd y_top)])).bind fun t1 => Res.ok [t1])).bind fun t2 => (rng1 t2))) (step := fun t3 => (ifR ((((((((dIx (rd y_top) (rd t3))).bind fun t6 => ((((dIx (rd y_bottom) (rd t3))).bind fun t5 => Res.ok [t5])).bind fun t7 => Res.ok (t6 :: t7))).bind fun t8 => (lstB t8))).bind fun t9 => (dIn1 (rd y_word) t9)).bind asB) ((chk (rd t3)).bind fun y => Res.ok (some y)) (Res.ok none))) (x_yL (as := (((dLen [(rd y_top)])).bind fun t1 => Res.ok [t1])) (x_cons (a := (dLen [(rd y_top)])) (as := (Res.ok [])) (x_eC (as := (Res.ok [(rd y_top)])) (x_consP (a := (rd y_top)) (as := []) rfl rfl)) rfl)) rfl (fun t3 => t_lcb (tt := ((((((((dIx (rd y_top) (rd t3))).bind fun t6 => ((((dIx (rd y_bottom) (rd t3))).bind fun t5 => Res.ok [t5])).bind fun t7 => Res.ok (t6 :: t7))).bind fun t8 => (lstB t8))).bind fun t9 => (dIn1 (rd y_word) t9)).bind asB)) (fx := (Res.ok (rd t3))) (x_B (a := (((((((dIx (rd y_top) (rd t3))).bind fun t6 => ((((dIx (rd y_bottom) (rd t3))).bind fun t5 => Res.ok [t5])).bind fun t7 => Res.ok (t6 :: t7))).bind fun t8 => (lstB t8))).bind fun t9 => (dIn1 (rd y_word) t9))) (x_e2 (a := (Res.ok (rd y_word))) (b := (((((dIx (rd y_top) (rd t3))).bind fun t6 => ((((dIx (rd y_bottom) (rd t3))).bind fun t5 => Res.ok [t5])).bind fun t7 => Res.ok (t6 :: t7))).bind fun t8 => (lstB t8))) rfl (x_lst (as := (((dIx (rd y_top) (rd t3))).bind fun t6 => ((((dIx (rd y_bottom) (rd t3))).bind fun t5 => Res.ok [t5])).bind fun t7 => Res.ok (t6 :: t7))) (x_cons (a := (dIx (rd y_top) (rd t3))) (as := (((dIx (rd y_bottom) (rd t3))).bind fun t5 => Res.ok [t5])) rfl (x_cons (a := (dIx (rd y_bottom) (rd t3))) (as := (Res.ok [])) rfl rfl))))) rfl)) (fun _ => rfl) fun y_places => (f_assoc (f_if (tx := ((dIn1 (rd y_word) (rd y_left)).bind asB)) rfl (f_app (fx := (Res.ok (D.int (-1)))) (en := fun y_places => [some y_top, some y_bottom, some y_left, some y_right, some y_word, some y_places, none]) rfl rfl (fun _ => rfl) fun y_places => (jo_J__law_stretch_1 y_top y_right y_word y_places (some y_bottom) (some y_left))) (f_nil (jo_J__law_stretch_1 y_top y_right y_word y_places (some y_bottom) (some y_left))))))))
def Ψ__law_stretch (ds : List D) : Res D := match ds with
  | [a0, a1, a2, a3, a4] => M__law_stretch a0 a1 a2 a3 a4
  | _ => Res.stuck
theorem ps__law_stretch (ds : List D) : Ψ__law_stretch ds = Res.stuck ∨ Φ__law_stretch ds = Ψ__law_stretch ds := by
  unfold Ψ__law_stretch
  split
  · exact phi_of rfl (me__law_stretch _ _ _ _ _)
  · exact .inl rfl
theorem pe__law_stretch {y_top : D} {y_bottom : D} {y_left : D} {y_right : D} {y_word : D} : Ψ__law_stretch [y_top, y_bottom, y_left, y_right, y_word] = M__law_stretch y_top y_bottom y_left y_right y_word := rfl
def q__law_bends_1 : PV.Env → Res D := eVar 15
def t__law_bends_1 : PV.Env → Res Bool := eB (e1 dNotN (eVar 15))
def a__law_bends_1 : PV.Env → SR := sSet 10 (eCall (lenIs 2 Φ__law_mix) [] (lCons (e2 dIx (e2 dAdd (eVar 2) (eLst (lCons (eVar 3) (lNil)))) (e2 dMod (eVar 9) (e2 dAdd (eC_ dLen (lCons (eVar 2) (lNil))) (eC (.int 1))))) (lCons (e2 dAdd (eVar 9) (eC (.int 200))) (lNil))))
def a__law_bends_2 : PV.Env → SR := sSet 11 (e2 dIx (eVar 1) (e2 dMod (eVar 10) (eC (.int 8))))
def a__law_bends_3 : PV.Env → SR := sIf (bAnd (eB (e2 dEq (e2 dMod (e2 dDiv (eVar 10) (eC (.int 8))) (eC (.int 3))) (eC (.int 0)))) (eB (e1 dNotN (e2 dIx (eVar 4) (eVar 9))))) (sSet 11 (e2 dIx (eVar 4) (eVar 9))) (sNil)
def a__law_bends_4 : PV.Env → SR := sAsg (eCall (lenIs 5 Ψ__law_stretch) [] (lCons (eVar 4) (lCons (eVar 5) (lCons (eVar 6) (lCons (eVar 7) (lCons (eVar 11) (lNil))))))) (putT 2 (putC (put1 12) (putC (put1 13) (putN))))
def a__law_bends_5 : PV.Env → SR := sSet 14 (eLc (yVal false (eLst (lCons (e2 dIx (eVar 4) (eVar 9)) (lCons (e2 dIx (eVar 5) (eVar 9)) (lNil))))) (putb 15) (t__law_bends_1) (q__law_bends_1) [15])
def a__law_bends_6 : PV.Env → SR := sIf (bAnd (eB (e2 dLt (eVar 12) (eVar 9))) (bAnd (eB (e2 dLt (eVar 9) (eVar 13))) (bAnd (bOr (eB (e2 dEq (eVar 14) (eLst (lNil)))) (eB (e2 dIn1 (eVar 11) (eVar 14)))) (eB (e2 dGt (e2 dMod (e2 dDiv (eVar 10) (eC (.int 24))) (eC (.int 3))) (eC (.int 0))))))) (sApp 8 (eTup (lCons (eVar 9) (lCons (eVar 11) (lNil))))) (sNil)
def b__law_bends_1 : PV.Env → SR := sSeq (a__law_bends_1) (sSeq (a__law_bends_2) (sSeq (a__law_bends_3) (sSeq (a__law_bends_4) (sSeq (a__law_bends_5) (a__law_bends_6)))))
def N__law_bends : List Str := ["_law_lists", "_law_words", "_law_cells", "_law_seed", "_law_top", "_law_bottom", "_law_left", "_law_right", "_law_bends_here", "_law_c", "_law_one", "_law_word", "_law_l", "_law_r", "_law_here", "_law_x"]
def g__law_bends : PV.Env → SR := sSeq (sAsg (eVar 0) (putT 4 (putC (put1 4) (putC (put1 5) (putC (put1 6) (putC (put1 7) (putN))))))) (sSeq (sSet 8 (eLst (lNil))) (sSeq (sFor (yLift (yL rng1 (lCons (eC_ dLen (lCons (eVar 4) (lNil))) (lNil)))) (put1 9) (b__law_bends_1) [9, 10, 11, 12, 13, 14]) (sRetV 8)))
def Φ__law_bends : List D → Res D := runF N__law_bends.length g__law_bends
def J__law_bends_1 (y_words : D) (y_cells : D) (y_seed : D) (y_top : D) (y_bottom : D) (y_left : D) (y_right : D) (y_bends_here : D) (y_c : D) (y_one : D) (y_word : D) : Res (Fo D) :=
  (((callD (lenIs 5 Ψ__law_stretch) [(rd y_top), (rd y_bottom), (rd y_left), (rd y_right), (rd y_word)]).bind up2).bind fun t19 =>
  (((((((((((dIx (rd y_top) (rd y_c))).bind fun t22 => ((((dIx (rd y_bottom) (rd y_c))).bind fun t21 => Res.ok [t21])).bind fun t23 => Res.ok (t22 :: t23))).bind fun t24 => (lstB t24))).bind fun t25 => (itemsOf false t25))).bind fun t28 => ((lcV (fun t26 => (ifR ((dNotN (rd t26)).bind asB) ((chk (rd t26)).bind fun y => Res.ok (some y)) (Res.ok none))) t28).bind lstB)).bind chk).bind fun y_here =>
  (ifR (ifR ((dLt (rd t19.1) (rd y_c)).bind asB) (ifR ((dLt (rd y_c) (rd t19.2)).bind asB) (ifR (ifR ((dEq (rd y_here) (D.lst Tag.own [])).bind asB) (Res.ok true) ((dIn1 (rd y_word) (rd y_here)).bind asB)) ((((((dDiv (rd y_one) (D.int 24))).bind fun t29 => (dMod t29 (D.int 3)))).bind fun t30 => (dGt t30 (D.int 0))).bind asB) (Res.ok false)) (Res.ok false)) (Res.ok false))
  ((appV y_bends_here (Res.ok (D.tup [(rd y_c), (rd y_word)]))).bind fun y_bends_here =>
  (Res.ok (Fo.nx y_bends_here)))
  (Res.ok (Fo.nx y_bends_here)))))
theorem jo_J__law_bends_1 (y_words : D) (y_cells : D) (y_seed : D) (y_top : D) (y_bottom : D) (y_left : D) (y_right : D) (y_bends_here : D) (y_c : D) (y_one : D) (y_word : D) (o_0 : Option D) : RB (fun s : D => [o_0, some y_words, some y_cells, some y_seed, some y_top, some y_bottom, some y_left, some y_right, some s, none, none, none, none, none, none, none]) [9 , 10 , 11 , 12 , 13 , 14] ((sSeq (sSeq a__law_bends_4 (sSeq a__law_bends_5 a__law_bends_6)) sNil) [o_0, some y_words, some y_cells, some y_seed, some y_top, some y_bottom, some y_left, some y_right, some y_bends_here, some y_c, some y_one, some y_word, none, none, none, none]) (J__law_bends_1 y_words y_cells y_seed y_top y_bottom y_left y_right y_bends_here y_c y_one y_word) := (b_assoc (b_asg (fx := (callD (lenIs 5 Ψ__law_stretch) [(rd y_top), (rd y_bottom), (rd y_left), (rd y_right), (rd y_word)])) (en := fun t19 => [o_0, some y_words, some y_cells, some y_seed, some y_top, some y_bottom, some y_left, some y_right, some y_bends_here, some y_c, some y_one, some y_word, some t19.1, some t19.2, none, none]) (x_callP (as := [(rd y_top), (rd y_bottom), (rd y_left), (rd y_right), (rd y_word)]) (x_consP (a := (rd y_top)) (as := [(rd y_bottom), (rd y_left), (rd y_right), (rd y_word)]) rfl (x_consP (a := (rd y_bottom)) (as := [(rd y_left), (rd y_right), (rd y_word)]) rfl (x_consP (a := (rd y_left)) (as := [(rd y_right), (rd y_word)]) rfl (x_consP (a := (rd y_right)) (as := [(rd y_word)]) rfl (x_consP (a := (rd y_word)) (as := []) rfl rfl))))) rfl) (fun _ => t_2) up2_nox (fun _ => rfl) fun t19 => (b_assoc (b_set (fx := (((((((((dIx (rd y_top) (rd y_c))).bind fun t22 => ((((dIx (rd y_bottom) (rd y_c))).bind fun t21 => Res.ok [t21])).bind fun t23 => Res.ok (t22 :: t23))).bind fun t24 => (lstB t24))).bind fun t25 => (itemsOf false t25))).bind fun t28 => ((lcV (fun t26 => (ifR ((dNotN (rd t26)).bind asB) ((chk (rd t26)).bind fun y => Res.ok (some y)) (Res.ok none))) t28).bind lstB))) (en := fun y_here => [o_0, some y_words, some y_cells, some y_seed, some y_top, some y_bottom, some y_left, some y_right, some y_bends_here, some y_c, some y_one, some y_word, some t19.1, some t19.2, some y_here, none]) (x_lc (ix := (((((((dIx (rd y_top) (rd y_c))).bind fun t22 => ((((dIx (rd y_bottom) (rd y_c))).bind fun t21 => Res.ok [t21])).bind fun t23 => Res.ok (t22 :: t23))).bind fun t24 => (lstB t24))).bind fun t25 => (itemsOf false t25))) (step := fun t26 => (ifR ((dNotN (rd t26)).bind asB) ((chk (rd t26)).bind fun y => Res.ok (some y)) (Res.ok none))) (x_yVal (a := (((((dIx (rd y_top) (rd y_c))).bind fun t22 => ((((dIx (rd y_bottom) (rd y_c))).bind fun t21 => Res.ok [t21])).bind fun t23 => Res.ok (t22 :: t23))).bind fun t24 => (lstB t24))) (x_lst (as := (((dIx (rd y_top) (rd y_c))).bind fun t22 => ((((dIx (rd y_bottom) (rd y_c))).bind fun t21 => Res.ok [t21])).bind fun t23 => Res.ok (t22 :: t23))) (x_cons (a := (dIx (rd y_top) (rd y_c))) (as := (((dIx (rd y_bottom) (rd y_c))).bind fun t21 => Res.ok [t21])) rfl (x_cons (a := (dIx (rd y_bottom) (rd y_c))) (as := (Res.ok [])) rfl rfl)))) rfl (fun t26 => t_lcb (tt := ((dNotN (rd t26)).bind asB)) (fx := (Res.ok (rd t26))) rfl rfl)) (fun _ => rfl) fun y_here => (b_if (tx := (ifR ((dLt (rd t19.1) (rd y_c)).bind asB) (ifR ((dLt (rd y_c) (rd t19.2)).bind asB) (ifR (ifR ((dEq (rd y_here) (D.lst Tag.own [])).bind asB) (Res.ok true) ((dIn1 (rd y_word) (rd y_here)).bind asB)) ((((((dDiv (rd y_one) (D.int 24))).bind fun t29 => (dMod t29 (D.int 3)))).bind fun t30 => (dGt t30 (D.int 0))).bind asB) (Res.ok false)) (Res.ok false)) (Res.ok false))) (x_bAnd (pa := ((dLt (rd t19.1) (rd y_c)).bind asB)) (qa := (ifR ((dLt (rd y_c) (rd t19.2)).bind asB) (ifR (ifR ((dEq (rd y_here) (D.lst Tag.own [])).bind asB) (Res.ok true) ((dIn1 (rd y_word) (rd y_here)).bind asB)) ((((((dDiv (rd y_one) (D.int 24))).bind fun t29 => (dMod t29 (D.int 3)))).bind fun t30 => (dGt t30 (D.int 0))).bind asB) (Res.ok false)) (Res.ok false))) rfl (x_bAnd (pa := ((dLt (rd y_c) (rd t19.2)).bind asB)) (qa := (ifR (ifR ((dEq (rd y_here) (D.lst Tag.own [])).bind asB) (Res.ok true) ((dIn1 (rd y_word) (rd y_here)).bind asB)) ((((((dDiv (rd y_one) (D.int 24))).bind fun t29 => (dMod t29 (D.int 3)))).bind fun t30 => (dGt t30 (D.int 0))).bind asB) (Res.ok false))) rfl (x_bAnd (pa := (ifR ((dEq (rd y_here) (D.lst Tag.own [])).bind asB) (Res.ok true) ((dIn1 (rd y_word) (rd y_here)).bind asB))) (qa := ((((((dDiv (rd y_one) (D.int 24))).bind fun t29 => (dMod t29 (D.int 3)))).bind fun t30 => (dGt t30 (D.int 0))).bind asB)) (x_bOr (pa := ((dEq (rd y_here) (D.lst Tag.own [])).bind asB)) (qa := ((dIn1 (rd y_word) (rd y_here)).bind asB)) (x_B (a := (dEq (rd y_here) (D.lst Tag.own []))) (x_e2 (a := (Res.ok (rd y_here))) (b := (Res.ok (D.lst Tag.own []))) rfl (x_lstP (ds := []) rfl 0 rfl rfl))) rfl) rfl))) (b_app (fx := (Res.ok (D.tup [(rd y_c), (rd y_word)]))) (en := fun y_bends_here => [o_0, some y_words, some y_cells, some y_seed, some y_top, some y_bottom, some y_left, some y_right, some y_bends_here, some y_c, some y_one, some y_word, some t19.1, some t19.2, some y_here, none]) rfl (x_tupP (ds := [(rd y_c), (rd y_word)]) (x_consP (a := (rd y_c)) (as := [(rd y_word)]) rfl (x_consP (a := (rd y_word)) (as := []) rfl rfl)) 2 rfl rfl) (fun _ => rfl) fun y_bends_here => (r_nilB rfl)) (b_nil (r_nilB rfl)))))))
def B__law_bends_1 (y_words : D) (y_cells : D) (y_seed : D) (y_top : D) (y_bottom : D) (y_left : D) (y_right : D) (t5 : D) (y_bends_here : D) : Res (Fo D) :=
  ((chk t5).bind fun t6 => (((((((((dAdd (rd y_cells) (D.lst Tag.own [(rd y_seed)]))).bind fun t9 => (((((((dLen [(rd y_cells)])).bind fun t7 => (dAdd t7 (D.int 1)))).bind fun t8 => (dMod (rd t6) t8))).bind fun t10 => (dIx t9 t10)))).bind fun t12 => ((((dAdd (rd t6) (D.int 200))).bind fun t11 => Res.ok [t11])).bind fun t13 => Res.ok (t12 :: t13))).bind fun t14 => (callD (lenIs 2 Φ__law_mix) (t14 ++ []))).bind chk).bind fun y_one =>
  (((((dMod (rd y_one) (D.int 8))).bind fun t15 => (dIx (rd y_words) t15)).bind chk).bind fun y_word =>
  (ifR (ifR ((((((dDiv (rd y_one) (D.int 8))).bind fun t16 => (dMod t16 (D.int 3)))).bind fun t17 => (dEq t17 (D.int 0))).bind asB) ((((dIx (rd y_top) (rd t6))).bind fun t18 => (dNotN t18)).bind asB) (Res.ok false))
  (((dIx (rd y_top) (rd t6)).bind chk).bind fun y_word =>
  (J__law_bends_1 y_words y_cells y_seed y_top y_bottom y_left y_right y_bends_here t6 y_one y_word))
  (J__law_bends_1 y_words y_cells y_seed y_top y_bottom y_left y_right y_bends_here t6 y_one y_word)))))
theorem bo_B__law_bends_1 (y_words : D) (y_cells : D) (y_seed : D) (y_top : D) (y_bottom : D) (y_left : D) (y_right : D) (o_0 : Option D) (t5 : D) (y_bends_here : D) : RB (fun s : D => [o_0, some y_words, some y_cells, some y_seed, some y_top, some y_bottom, some y_left, some y_right, some s, none, none, none, none, none, none, none]) [9 , 10 , 11 , 12 , 13 , 14] (tgt (put1 9) b__law_bends_1 t5 [o_0, some y_words, some y_cells, some y_seed, some y_top, some y_bottom, some y_left, some y_right, some y_bends_here, none, none, none, none, none, none, none]) (B__law_bends_1 y_words y_cells y_seed y_top y_bottom y_left y_right t5 y_bends_here) := b_tgt (en := fun t6 => [o_0, some y_words, some y_cells, some y_seed, some y_top, some y_bottom, some y_left, some y_right, some y_bends_here, some t6, none, none, none, none, none, none]) t_1 (chk_nox t5) (fun _ => rfl) fun t6 => (b_last (b_assoc (b_set (fx := (((((((dAdd (rd y_cells) (D.lst Tag.own [(rd y_seed)]))).bind fun t9 => (((((((dLen [(rd y_cells)])).bind fun t7 => (dAdd t7 (D.int 1)))).bind fun t8 => (dMod (rd t6) t8))).bind fun t10 => (dIx t9 t10)))).bind fun t12 => ((((dAdd (rd t6) (D.int 200))).bind fun t11 => Res.ok [t11])).bind fun t13 => Res.ok (t12 :: t13))).bind fun t14 => (callD (lenIs 2 Φ__law_mix) (t14 ++ [])))) (en := fun y_one => [o_0, some y_words, some y_cells, some y_seed, some y_top, some y_bottom, some y_left, some y_right, some y_bends_here, some t6, some y_one, none, none, none, none, none]) (x_call (as := (((((dAdd (rd y_cells) (D.lst Tag.own [(rd y_seed)]))).bind fun t9 => (((((((dLen [(rd y_cells)])).bind fun t7 => (dAdd t7 (D.int 1)))).bind fun t8 => (dMod (rd t6) t8))).bind fun t10 => (dIx t9 t10)))).bind fun t12 => ((((dAdd (rd t6) (D.int 200))).bind fun t11 => Res.ok [t11])).bind fun t13 => Res.ok (t12 :: t13))) (x_cons (a := (((dAdd (rd y_cells) (D.lst Tag.own [(rd y_seed)]))).bind fun t9 => (((((((dLen [(rd y_cells)])).bind fun t7 => (dAdd t7 (D.int 1)))).bind fun t8 => (dMod (rd t6) t8))).bind fun t10 => (dIx t9 t10)))) (as := (((dAdd (rd t6) (D.int 200))).bind fun t11 => Res.ok [t11])) (x_e2 (a := (dAdd (rd y_cells) (D.lst Tag.own [(rd y_seed)]))) (b := (((((dLen [(rd y_cells)])).bind fun t7 => (dAdd t7 (D.int 1)))).bind fun t8 => (dMod (rd t6) t8))) (x_e2 (a := (Res.ok (rd y_cells))) (b := (Res.ok (D.lst Tag.own [(rd y_seed)]))) rfl (x_lstP (ds := [(rd y_seed)]) (x_consP (a := (rd y_seed)) (as := []) rfl rfl) 1 rfl rfl)) (x_e2 (a := (Res.ok (rd t6))) (b := (((dLen [(rd y_cells)])).bind fun t7 => (dAdd t7 (D.int 1)))) rfl (x_e2 (a := (dLen [(rd y_cells)])) (b := (Res.ok (D.int 1))) (x_eC (as := (Res.ok [(rd y_cells)])) (x_consP (a := (rd y_cells)) (as := []) rfl rfl)) rfl))) (x_cons (a := (dAdd (rd t6) (D.int 200))) (as := (Res.ok [])) rfl rfl))) (fun _ => rfl) fun y_one => (b_assoc (b_set (fx := (((dMod (rd y_one) (D.int 8))).bind fun t15 => (dIx (rd y_words) t15))) (en := fun y_word => [o_0, some y_words, some y_cells, some y_seed, some y_top, some y_bottom, some y_left, some y_right, some y_bends_here, some t6, some y_one, some y_word, none, none, none, none]) rfl (fun _ => rfl) fun y_word => (b_assoc (b_if (tx := (ifR ((((((dDiv (rd y_one) (D.int 8))).bind fun t16 => (dMod t16 (D.int 3)))).bind fun t17 => (dEq t17 (D.int 0))).bind asB) ((((dIx (rd y_top) (rd t6))).bind fun t18 => (dNotN t18)).bind asB) (Res.ok false))) rfl (b_set (fx := (dIx (rd y_top) (rd t6))) (en := fun y_word => [o_0, some y_words, some y_cells, some y_seed, some y_top, some y_bottom, some y_left, some y_right, some y_bends_here, some t6, some y_one, some y_word, none, none, none, none]) rfl (fun _ => rfl) fun y_word => (jo_J__law_bends_1 y_words y_cells y_seed y_top y_bottom y_left y_right y_bends_here t6 y_one y_word o_0)) (b_nil (jo_J__law_bends_1 y_words y_cells y_seed y_top y_bottom y_left y_right y_bends_here t6 y_one y_word o_0)))))))))
def M__law_bends (y_lists : D) (y_words : D) (y_cells : D) (y_seed : D) : Res D :=
  ((up4 (rd y_lists)).bind fun t1 =>
  (((((((dLen [(rd t1.1)])).bind fun t3 => Res.ok [t3])).bind fun t4 => (rng1 t4))).bind fun t32 => (afterV (forV (fun d s => B__law_bends_1 y_words y_cells y_seed t1.1 t1.2.1 t1.2.2.1 t1.2.2.2 d s) t32 (D.lst Tag.own [])) (fun t31 =>
  (okR t31)) okR)))
theorem me__law_bends (y_lists : D) (y_words : D) (y_cells : D) (y_seed : D) : RF (g__law_bends [some y_lists, some y_words, some y_cells, some y_seed, none, none, none, none, none, none, none, none, none, none, none, none]) (M__law_bends y_lists y_words y_cells y_seed) := (f_last (f_assoc (f_asg (fx := (Res.ok (rd y_lists))) (en := fun t1 => [some y_lists, some y_words, some y_cells, some y_seed, some t1.1, some t1.2.1, some t1.2.2.1, some t1.2.2.2, none, none, none, none, none, none, none, none]) rfl (fun _ => t_4) up4_nox (fun _ => rfl) fun t1 => (f_assoc (f_setV (x := (D.lst Tag.own [])) (en := [some y_lists, some y_words, some y_cells, some y_seed, some t1.1, some t1.2.1, some t1.2.2.1, some t1.2.2.2, some (D.lst Tag.own []), none, none, none, none, none, none, none]) (x_lstP (ds := []) rfl 0 rfl rfl) rfl rfl (f_assoc (f_for (fun s : D => [some y_lists, some y_words, some y_cells, some y_seed, some t1.1, some t1.2.1, some t1.2.2.1, some t1.2.2.2, some s, none, none, none, none, none, none, none]) (step := (fun d s => B__law_bends_1 y_words y_cells y_seed t1.1 t1.2.1 t1.2.2.1 t1.2.2.2 d s)) (s0 := (D.lst Tag.own [])) (ix := (((((dLen [(rd t1.1)])).bind fun t3 => Res.ok [t3])).bind fun t4 => (rng1 t4))) (x_yL (as := (((dLen [(rd t1.1)])).bind fun t3 => Res.ok [t3])) (x_cons (a := (dLen [(rd t1.1)])) (as := (Res.ok [])) (x_eC (as := (Res.ok [(rd t1.1)])) (x_consP (a := (rd t1.1)) (as := []) rfl rfl)) rfl)) rfl (fun d s => bo_B__law_bends_1 y_words y_cells y_seed t1.1 t1.2.1 t1.2.2.1 t1.2.2.2 (some y_lists) d s) fun t31 => (f_retV rfl))))))))
def Ψ__law_bends (ds : List D) : Res D := match ds with
  | [a0, a1, a2, a3] => M__law_bends a0 a1 a2 a3
  | _ => Res.stuck
theorem ps__law_bends (ds : List D) : Ψ__law_bends ds = Res.stuck ∨ Φ__law_bends ds = Ψ__law_bends ds := by
  unfold Ψ__law_bends
  split
  · exact phi_of rfl (me__law_bends _ _ _ _)
  · exact .inl rfl
theorem pe__law_bends {y_lists : D} {y_words : D} {y_cells : D} {y_seed : D} : Ψ__law_bends [y_lists, y_words, y_cells, y_seed] = M__law_bends y_lists y_words y_cells y_seed := rfl
def b__law_keeps_1 : PV.Env → SR := sSeq (sSet 6 (eCall (lenIs 2 Φ__law_mix) [] (lCons (e2 dAdd (eVar 5) (eVar 2)) (lCons (e2 dAdd (eVar 4) (eC (.int 300))) (lNil))))) (sSeq (sSet 7 (e2 dMod (eVar 6) (eVar 0))) (sIf (eB (e2 dEq (e2 dMod (e2 dDiv (eVar 6) (eC (.int 64))) (eC (.int 4))) (eC (.int 0)))) (sApp 3 (eTup (lCons (eVar 7) (lCons (e2 dAdd (eVar 7) (e2 dMod (e2 dDiv (eVar 6) (eC (.int 256))) (e2 dSub (eVar 0) (eVar 7)))) (lCons (e2 dAdd (eC (.int 1)) (e2 dMod (e2 dDiv (eVar 6) (eC (.int 1024))) (eC (.int 3)))) (lNil)))))) (sNil)))
def N__law_keeps : List Str := ["_law_width", "_law_cells", "_law_seed", "_law_keeps_here", "_law_k", "_law_cell", "_law_one", "_law_first"]
def g__law_keeps : PV.Env → SR := sSeq (sSet 3 (eLst (lNil))) (sSeq (sFor (yLift (yL (enum1 true) (lCons (eSl (eVar 1) (oNo) (oSome (eC (.int 6)))) (lNil)))) (putT 2 (putC (put1 4) (putC (put1 5) (putN)))) (b__law_keeps_1) [4, 5, 6, 7]) (sRetV 3))
def Φ__law_keeps : List D → Res D := runF N__law_keeps.length g__law_keeps
def B__law_keeps_1 (y_width : D) (y_seed : D) (t3 : D) (y_keeps_here : D) : Res (Fo D) :=
  ((up2 t3).bind fun t4 => (((((((dAdd (rd t4.2) (rd y_seed))).bind fun t6 => ((((dAdd (rd t4.1) (D.int 300))).bind fun t5 => Res.ok [t5])).bind fun t7 => Res.ok (t6 :: t7))).bind fun t8 => (callD (lenIs 2 Φ__law_mix) (t8 ++ []))).bind chk).bind fun y_one =>
  (((dMod (rd y_one) (rd y_width)).bind chk).bind fun y_first =>
  (ifR ((((((dDiv (rd y_one) (D.int 64))).bind fun t9 => (dMod t9 (D.int 4)))).bind fun t10 => (dEq t10 (D.int 0))).bind asB)
  ((appV y_keeps_here (((((((((((dDiv (rd y_one) (D.int 256))).bind fun t11 => (((dSub (rd y_width) (rd y_first))).bind fun t12 => (dMod t11 t12)))).bind fun t13 => (dAdd (rd y_first) t13))).bind fun t17 => ((((((((dDiv (rd y_one) (D.int 1024))).bind fun t14 => (dMod t14 (D.int 3)))).bind fun t15 => (dAdd (D.int 1) t15))).bind fun t16 => Res.ok [t16])).bind fun t18 => Res.ok (t17 :: t18))).bind fun t19 => Res.ok ((rd y_first) :: t19))).bind fun t20 => (tupA t20))).bind fun y_keeps_here =>
  (Res.ok (Fo.nx y_keeps_here)))
  (Res.ok (Fo.nx y_keeps_here))))))
theorem bo_B__law_keeps_1 (y_width : D) (y_seed : D) (o_1 : Option D) (t3 : D) (y_keeps_here : D) : RB (fun s : D => [some y_width, o_1, some y_seed, some s, none, none, none, none]) [4 , 5 , 6 , 7] (tgt (putT 2 (putC (put1 4) (putC (put1 5) putN))) b__law_keeps_1 t3 [some y_width, o_1, some y_seed, some y_keeps_here, none, none, none, none]) (B__law_keeps_1 y_width y_seed t3 y_keeps_here) := b_tgt (en := fun t4 => [some y_width, o_1, some y_seed, some y_keeps_here, some t4.1, some t4.2, none, none]) t_2 (up2_nox t3) (fun _ => rfl) fun t4 => (b_last (b_assoc (b_set (fx := (((((dAdd (rd t4.2) (rd y_seed))).bind fun t6 => ((((dAdd (rd t4.1) (D.int 300))).bind fun t5 => Res.ok [t5])).bind fun t7 => Res.ok (t6 :: t7))).bind fun t8 => (callD (lenIs 2 Φ__law_mix) (t8 ++ [])))) (en := fun y_one => [some y_width, o_1, some y_seed, some y_keeps_here, some t4.1, some t4.2, some y_one, none]) (x_call (as := (((dAdd (rd t4.2) (rd y_seed))).bind fun t6 => ((((dAdd (rd t4.1) (D.int 300))).bind fun t5 => Res.ok [t5])).bind fun t7 => Res.ok (t6 :: t7))) (x_cons (a := (dAdd (rd t4.2) (rd y_seed))) (as := (((dAdd (rd t4.1) (D.int 300))).bind fun t5 => Res.ok [t5])) rfl (x_cons (a := (dAdd (rd t4.1) (D.int 300))) (as := (Res.ok [])) rfl rfl))) (fun _ => rfl) fun y_one => (b_assoc (b_set (fx := (dMod (rd y_one) (rd y_width))) (en := fun y_first => [some y_width, o_1, some y_seed, some y_keeps_here, some t4.1, some t4.2, some y_one, some y_first]) rfl (fun _ => rfl) fun y_first => (b_if (tx := ((((((dDiv (rd y_one) (D.int 64))).bind fun t9 => (dMod t9 (D.int 4)))).bind fun t10 => (dEq t10 (D.int 0))).bind asB)) rfl (b_app (fx := (((((((((((dDiv (rd y_one) (D.int 256))).bind fun t11 => (((dSub (rd y_width) (rd y_first))).bind fun t12 => (dMod t11 t12)))).bind fun t13 => (dAdd (rd y_first) t13))).bind fun t17 => ((((((((dDiv (rd y_one) (D.int 1024))).bind fun t14 => (dMod t14 (D.int 3)))).bind fun t15 => (dAdd (D.int 1) t15))).bind fun t16 => Res.ok [t16])).bind fun t18 => Res.ok (t17 :: t18))).bind fun t19 => Res.ok ((rd y_first) :: t19))).bind fun t20 => (tupA t20))) (en := fun y_keeps_here => [some y_width, o_1, some y_seed, some y_keeps_here, some t4.1, some t4.2, some y_one, some y_first]) rfl (x_tup (as := (((((((((dDiv (rd y_one) (D.int 256))).bind fun t11 => (((dSub (rd y_width) (rd y_first))).bind fun t12 => (dMod t11 t12)))).bind fun t13 => (dAdd (rd y_first) t13))).bind fun t17 => ((((((((dDiv (rd y_one) (D.int 1024))).bind fun t14 => (dMod t14 (D.int 3)))).bind fun t15 => (dAdd (D.int 1) t15))).bind fun t16 => Res.ok [t16])).bind fun t18 => Res.ok (t17 :: t18))).bind fun t19 => Res.ok ((rd y_first) :: t19))) (x_cons (a := (Res.ok (rd y_first))) (as := (((((((dDiv (rd y_one) (D.int 256))).bind fun t11 => (((dSub (rd y_width) (rd y_first))).bind fun t12 => (dMod t11 t12)))).bind fun t13 => (dAdd (rd y_first) t13))).bind fun t17 => ((((((((dDiv (rd y_one) (D.int 1024))).bind fun t14 => (dMod t14 (D.int 3)))).bind fun t15 => (dAdd (D.int 1) t15))).bind fun t16 => Res.ok [t16])).bind fun t18 => Res.ok (t17 :: t18))) rfl (x_cons (a := (((((dDiv (rd y_one) (D.int 256))).bind fun t11 => (((dSub (rd y_width) (rd y_first))).bind fun t12 => (dMod t11 t12)))).bind fun t13 => (dAdd (rd y_first) t13))) (as := (((((((dDiv (rd y_one) (D.int 1024))).bind fun t14 => (dMod t14 (D.int 3)))).bind fun t15 => (dAdd (D.int 1) t15))).bind fun t16 => Res.ok [t16])) rfl (x_cons (a := (((((dDiv (rd y_one) (D.int 1024))).bind fun t14 => (dMod t14 (D.int 3)))).bind fun t15 => (dAdd (D.int 1) t15))) (as := (Res.ok [])) rfl rfl)))) (fun _ => rfl) fun y_keeps_here => (r_nilB rfl)) (b_nil (r_nilB rfl))))))))
def M__law_keeps (y_width : D) (y_cells : D) (y_seed : D) : Res D :=
  (((((((dSl (rd y_cells) none (some 6))).bind fun t1 => Res.ok [t1])).bind fun t2 => ((enum1 true) t2))).bind fun t22 => (afterV (forV (fun d s => B__law_keeps_1 y_width y_seed d s) t22 (D.lst Tag.own [])) (fun t21 =>
  (okR t21)) okR))
theorem me__law_keeps (y_width : D) (y_cells : D) (y_seed : D) : RF (g__law_keeps [some y_width, some y_cells, some y_seed, none, none, none, none, none]) (M__law_keeps y_width y_cells y_seed) := (f_last (f_assoc (f_setV (x := (D.lst Tag.own [])) (en := [some y_width, some y_cells, some y_seed, some (D.lst Tag.own []), none, none, none, none]) (x_lstP (ds := []) rfl 0 rfl rfl) rfl rfl (f_assoc (f_for (fun s : D => [some y_width, some y_cells, some y_seed, some s, none, none, none, none]) (step := (fun d s => B__law_keeps_1 y_width y_seed d s)) (s0 := (D.lst Tag.own [])) (ix := (((((dSl (rd y_cells) none (some 6))).bind fun t1 => Res.ok [t1])).bind fun t2 => ((enum1 true) t2))) (x_yL (as := (((dSl (rd y_cells) none (some 6))).bind fun t1 => Res.ok [t1])) (x_cons (a := (dSl (rd y_cells) none (some 6))) (as := (Res.ok [])) rfl rfl)) rfl (fun d s => bo_B__law_keeps_1 y_width y_seed (some y_cells) d s) fun t21 => (f_retV rfl))))))
def Ψ__law_keeps (ds : List D) : Res D := match ds with
  | [a0, a1, a2] => M__law_keeps a0 a1 a2
  | _ => Res.stuck
theorem ps__law_keeps (ds : List D) : Ψ__law_keeps ds = Res.stuck ∨ Φ__law_keeps ds = Ψ__law_keeps ds := by
  unfold Ψ__law_keeps
  split
  · exact phi_of rfl (me__law_keeps _ _ _)
  · exact .inl rfl
theorem pe__law_keeps {y_width : D} {y_cells : D} {y_seed : D} : Ψ__law_keeps [y_width, y_cells, y_seed] = M__law_keeps y_width y_cells y_seed := rfl
def q__law_open_1 : PV.Env → Res D := e2 dIx (eVar 0) (eVar 2)
def t__law_open_1 : PV.Env → Res Bool := eB (e2 dEq (e2 dMod (e2 dDiv (eVar 1) (e2 dIx (eLst (lCons (eC (.int 1)) (lCons (eC (.int 2)) (lCons (eC (.int 4)) (lCons (eC (.int 8)) (lCons (eC (.int 16)) (lCons (eC (.int 32)) (lCons (eC (.int 64)) (lCons (eC (.int 128)) (lNil)))))))))) (eVar 2))) (eC (.int 2))) (eC (.int 1)))
def N__law_open : List Str := ["_law_words", "_law_bits", "_law_k"]
def g__law_open : PV.Env → SR := sSeq (sIf (eB (e2 dEq (e2 dMod (e2 dDiv (eVar 1) (eC (.int 256))) (eC (.int 2))) (eC (.int 0)))) (sRet (eLst (lNil))) (sNil)) (sRet (eC_ dSort (lCons (eLc (yL rng1 (lCons (eC (.int 8)) (lNil))) (putb 2) (t__law_open_1) (q__law_open_1) [2]) (lNil))))
def Φ__law_open : List D → Res D := runF N__law_open.length g__law_open
def M__law_open (y_words : D) (y_bits : D) : Res D :=
  (ifR ((((((dDiv (rd y_bits) (D.int 256))).bind fun t1 => (dMod t1 (D.int 2)))).bind fun t2 => (dEq t2 (D.int 0))).bind asB)
  (okR (D.lst Tag.own []))
  (((((((((rng1 [(D.int 8)])).bind fun t8 => ((lcV (fun t3 => (ifR ((((((((dIx (D.lst Tag.own [(D.int 1), (D.int 2), (D.int 4), (D.int 8), (D.int 16), (D.int 32), (D.int 64), (D.int 128)]) (rd t3))).bind fun t5 => (dDiv (rd y_bits) t5))).bind fun t6 => (dMod t6 (D.int 2)))).bind fun t7 => (dEq t7 (D.int 1))).bind asB) (((dIx (rd y_words) (rd t3))).bind fun y => (chk y).bind fun y => Res.ok (some y)) (Res.ok none))) t8).bind lstB))).bind fun t9 => Res.ok [t9])).bind fun t10 => (dSort t10)).bind chk).bind okR))
theorem me__law_open (y_words : D) (y_bits : D) : RF (g__law_open [some y_words, some y_bits, none]) (M__law_open y_words y_bits) := (f_last (f_assoc (f_if (tx := ((((((dDiv (rd y_bits) (D.int 256))).bind fun t1 => (dMod t1 (D.int 2)))).bind fun t2 => (dEq t2 (D.int 0))).bind asB)) rfl (f_retC (x := (D.lst Tag.own [])) (x_lstP (ds := []) rfl 0 rfl rfl) rfl) (f_nil (f_ret (fx := (((((((rng1 [(D.int 8)])).bind fun t8 => ((lcV (fun t3 => (ifR ((((((((dIx (D.lst Tag.own [(D.int 1), (D.int 2), (D.int 4), (D.int 8), (D.int 16), (D.int 32), (D.int 64), (D.int 128)]) (rd t3))).bind fun t5 => (dDiv (rd y_bits) t5))).bind fun t6 => (dMod t6 (D.int 2)))).bind fun t7 => (dEq t7 (D.int 1))).bind asB) (((dIx (rd y_words) (rd t3))).bind fun y => (chk y).bind fun y => Res.ok (some y)) (Res.ok none))) t8).bind lstB))).bind fun t9 => Res.ok [t9])).bind fun t10 => (dSort t10))) (x_eC (as := (((((rng1 [(D.int 8)])).bind fun t8 => ((lcV (fun t3 => (ifR ((((((((dIx (D.lst Tag.own [(D.int 1), (D.int 2), (D.int 4), (D.int 8), (D.int 16), (D.int 32), (D.int 64), (D.int 128)]) (rd t3))).bind fun t5 => (dDiv (rd y_bits) t5))).bind fun t6 => (dMod t6 (D.int 2)))).bind fun t7 => (dEq t7 (D.int 1))).bind asB) (((dIx (rd y_words) (rd t3))).bind fun y => (chk y).bind fun y => Res.ok (some y)) (Res.ok none))) t8).bind lstB))).bind fun t9 => Res.ok [t9])) (x_cons (a := (((rng1 [(D.int 8)])).bind fun t8 => ((lcV (fun t3 => (ifR ((((((((dIx (D.lst Tag.own [(D.int 1), (D.int 2), (D.int 4), (D.int 8), (D.int 16), (D.int 32), (D.int 64), (D.int 128)]) (rd t3))).bind fun t5 => (dDiv (rd y_bits) t5))).bind fun t6 => (dMod t6 (D.int 2)))).bind fun t7 => (dEq t7 (D.int 1))).bind asB) (((dIx (rd y_words) (rd t3))).bind fun y => (chk y).bind fun y => Res.ok (some y)) (Res.ok none))) t8).bind lstB))) (as := (Res.ok [])) (x_lc (ix := (rng1 [(D.int 8)])) (step := fun t3 => (ifR ((((((((dIx (D.lst Tag.own [(D.int 1), (D.int 2), (D.int 4), (D.int 8), (D.int 16), (D.int 32), (D.int 64), (D.int 128)]) (rd t3))).bind fun t5 => (dDiv (rd y_bits) t5))).bind fun t6 => (dMod t6 (D.int 2)))).bind fun t7 => (dEq t7 (D.int 1))).bind asB) (((dIx (rd y_words) (rd t3))).bind fun y => (chk y).bind fun y => Res.ok (some y)) (Res.ok none))) (x_yL (as := (Res.ok [(D.int 8)])) (x_consP (a := (D.int 8)) (as := []) rfl rfl)) rfl (fun t3 => t_lcb (tt := ((((((((dIx (D.lst Tag.own [(D.int 1), (D.int 2), (D.int 4), (D.int 8), (D.int 16), (D.int 32), (D.int 64), (D.int 128)]) (rd t3))).bind fun t5 => (dDiv (rd y_bits) t5))).bind fun t6 => (dMod t6 (D.int 2)))).bind fun t7 => (dEq t7 (D.int 1))).bind asB)) (fx := (dIx (rd y_words) (rd t3))) (x_B (a := (((((((dIx (D.lst Tag.own [(D.int 1), (D.int 2), (D.int 4), (D.int 8), (D.int 16), (D.int 32), (D.int 64), (D.int 128)]) (rd t3))).bind fun t5 => (dDiv (rd y_bits) t5))).bind fun t6 => (dMod t6 (D.int 2)))).bind fun t7 => (dEq t7 (D.int 1)))) (x_e2 (a := (((((dIx (D.lst Tag.own [(D.int 1), (D.int 2), (D.int 4), (D.int 8), (D.int 16), (D.int 32), (D.int 64), (D.int 128)]) (rd t3))).bind fun t5 => (dDiv (rd y_bits) t5))).bind fun t6 => (dMod t6 (D.int 2)))) (b := (Res.ok (D.int 1))) (x_e2 (a := (((dIx (D.lst Tag.own [(D.int 1), (D.int 2), (D.int 4), (D.int 8), (D.int 16), (D.int 32), (D.int 64), (D.int 128)]) (rd t3))).bind fun t5 => (dDiv (rd y_bits) t5))) (b := (Res.ok (D.int 2))) (x_e2 (a := (Res.ok (rd y_bits))) (b := (dIx (D.lst Tag.own [(D.int 1), (D.int 2), (D.int 4), (D.int 8), (D.int 16), (D.int 32), (D.int 64), (D.int 128)]) (rd t3))) rfl (x_e2 (a := (Res.ok (D.lst Tag.own [(D.int 1), (D.int 2), (D.int 4), (D.int 8), (D.int 16), (D.int 32), (D.int 64), (D.int 128)]))) (b := (Res.ok (rd t3))) (x_lstP (ds := [(D.int 1), (D.int 2), (D.int 4), (D.int 8), (D.int 16), (D.int 32), (D.int 64), (D.int 128)]) (x_consP (a := (D.int 1)) (as := [(D.int 2), (D.int 4), (D.int 8), (D.int 16), (D.int 32), (D.int 64), (D.int 128)]) rfl (x_consP (a := (D.int 2)) (as := [(D.int 4), (D.int 8), (D.int 16), (D.int 32), (D.int 64), (D.int 128)]) rfl (x_consP (a := (D.int 4)) (as := [(D.int 8), (D.int 16), (D.int 32), (D.int 64), (D.int 128)]) rfl (x_consP (a := (D.int 8)) (as := [(D.int 16), (D.int 32), (D.int 64), (D.int 128)]) rfl (x_consP (a := (D.int 16)) (as := [(D.int 32), (D.int 64), (D.int 128)]) rfl (x_consP (a := (D.int 32)) (as := [(D.int 64), (D.int 128)]) rfl (x_consP (a := (D.int 64)) (as := [(D.int 128)]) rfl (x_consP (a := (D.int 128)) (as := []) rfl rfl)))))))) 8 rfl rfl) rfl)) rfl) rfl)) rfl)) rfl)))))))
def Ψ__law_open (ds : List D) : Res D := match ds with
  | [a0, a1] => M__law_open a0 a1
  | _ => Res.stuck
theorem ps__law_open (ds : List D) : Ψ__law_open ds = Res.stuck ∨ Φ__law_open ds = Ψ__law_open ds := by
  unfold Ψ__law_open
  split
  · exact phi_of rfl (me__law_open _ _)
  · exact .inl rfl
theorem pe__law_open {y_words : D} {y_bits : D} : Ψ__law_open [y_words, y_bits] = M__law_open y_words y_bits := rfl
def q__law_channel_v2_1 : PV.Env → Res D := eVar 14
def t__law_channel_v2_1 : PV.Env → Res Bool := eB (e2 dEq (eCall (lenIs 5 Ψ__law_many) [] (lCons (eVar 6) (lCons (eVar 7) (lCons (eVar 9) (lCons (eVar 10) (lCons (eVar 14) (lNil))))))) (eC (.int 1)))
def q__law_channel_v2_2 : PV.Env → Res D := eIf (eB (e2 dIn1 (eVar 14) (eVar 11))) (eC .non) (eVar 14)
def q__law_channel_v2_3 : PV.Env → Res D := eIf (eB (e2 dIn1 (eVar 14) (eVar 11))) (eC .non) (eVar 14)
def q__law_channel_v2_4 : PV.Env → Res D := eVar 14
def t__law_channel_v2_2 : PV.Env → Res Bool := eB (e2 dIn0 (eVar 14) (eVar 11))
def q__law_channel_v2_5 : PV.Env → Res D := eVar 14
def t__law_channel_v2_3 : PV.Env → Res Bool := eB (e2 dIn0 (eVar 14) (eVar 11))
def b__law_channel_v2_1 : PV.Env → SR := sSeq (sSet 15 (eCall (lenIs 2 Φ__law_mix) [] (lCons (e2 dAdd (eVar 2) (eVar 13)) (lCons (eC (.int 500)) (lNil))))) (sIf (bAnd (eB (e2 dEq (e2 dMod (eVar 15) (eC (.int 4))) (eC (.int 0)))) (eB (e2 dGt (eCall (lenIs 5 Ψ__law_many) [] (lCons (eVar 6) (lCons (eVar 7) (lCons (eVar 9) (lCons (eVar 10) (lCons (eVar 14) (lNil))))))) (eC (.int 1))))) (sApp 12 (eTup (lCons (eVar 14) (lCons (e2 dAdd (eC (.int 2)) (e2 dMod (e2 dDiv (eVar 15) (eC (.int 4))) (eC (.int 2)))) (lNil))))) (sNil))
def a__law_channel_v2_1 : PV.Env → SR := sSet 2 (e2 dMod (e2 dMul (e2 dMod (eC_ dSum (lCons (eSl (eVar 0) (oNo) (oSome (eC (.int 1)))) (lNil))) (e2 dPow (eC (.int 10)) (eC (.int 30)))) (eC (.int 40014))) (eC (.int 2147483563)))
def a__law_channel_v2_2 : PV.Env → SR := sSet 3 (eCall (lenIs 1 Φ__law_named) [] (lCons (eC_ dSum (lCons (eSl (eVar 0) (oNo) (oSome (eC (.int 1)))) (lNil))) (lNil)))
def a__law_channel_v2_3 : PV.Env → SR := sSet 4 (e2 dAdd (eC (.int 1)) (e2 dMod (eVar 2) (eVar 1)))
def a__law_channel_v2_4 : PV.Env → SR := sSet 5 (eSl (eVar 0) (oSome (eC (.int 1))) (oNo))
def a__law_channel_v2_5 : PV.Env → SR := sFrz 5 (sFrz 3 (sAsg (eCall (lenIs 4 Ψ__law_pins) [] (lCons (eVar 3) (lCons (eVar 5) (lCons (eVar 2) (lCons (eVar 4) (lNil)))))) (putT 2 (putC (put1 6) (putC (put1 7) (putN))))))
def a__law_channel_v2_6 : PV.Env → SR := sSet 8 (eCall (lenIs 2 Φ__law_mix) [] (lCons (eC_ dSum (lCons (eSl (eVar 0) (oSome (eC (.int 1))) (oSome (eC (.int 2)))) (lNil))) (lCons (e2 dAdd (eC (.int 400)) (e2 dMod (eVar 2) (eC (.int 7)))) (lNil))))
def a__law_channel_v2_7 : PV.Env → SR := sFrz 3 (sSet 9 (eCall (lenIs 2 Ψ__law_open) [] (lCons (eVar 3) (lCons (eVar 8) (lNil)))))
def a__law_channel_v2_8 : PV.Env → SR := sFrz 3 (sSet 10 (eCall (lenIs 2 Ψ__law_open) [] (lCons (eVar 3) (lCons (e2 dDiv (eVar 8) (eC (.int 512))) (lNil)))))
def a__law_channel_v2_9 : PV.Env → SR := sFrz 10 (sFrz 9 (sFrz 7 (sFrz 6 (sSet 11 (eLc (yVal false (eVar 3)) (putb 14) (t__law_channel_v2_1) (q__law_channel_v2_1) [14])))))
def a__law_channel_v2_10 : PV.Env → SR := sSet 6 (eLc (yVal false (eVar 6)) (putb 14) (bYes) (q__law_channel_v2_2) [14])
def a__law_channel_v2_11 : PV.Env → SR := sSet 7 (eLc (yVal false (eVar 7)) (putb 14) (bYes) (q__law_channel_v2_3) [14])
def a__law_channel_v2_12 : PV.Env → SR := sSet 9 (eLc (yVal false (eVar 9)) (putb 14) (t__law_channel_v2_2) (q__law_channel_v2_4) [14])
def a__law_channel_v2_13 : PV.Env → SR := sSet 10 (eLc (yVal false (eVar 10)) (putb 14) (t__law_channel_v2_3) (q__law_channel_v2_5) [14])
def a__law_channel_v2_14 : PV.Env → SR := sSet 12 (eLst (lNil))
def a__law_channel_v2_15 : PV.Env → SR := sFrz 10 (sFrz 9 (sFrz 7 (sFrz 6 (sFor (yLift (yL (enum1 true) (lCons (eC_ dSort (lCons (eVar 3) (lNil))) (lNil)))) (putT 2 (putC (put1 13) (putC (put1 14) (putN)))) (b__law_channel_v2_1) [13, 14, 15]))))
def a__law_channel_v2_16 : PV.Env → SR := sFrz 10 (sFrz 9 (sFrz 7 (sFrz 6 (sFrz 5 (sFrz 3 (sSet 16 (eCall (lenIs 4 Ψ__law_bends) [] (lCons (eLst (lCons (eVar 6) (lCons (eVar 7) (lCons (eVar 9) (lCons (eVar 10) (lNil)))))) (lCons (eVar 3) (lCons (eVar 5) (lCons (eVar 2) (lNil))))))))))))
def a__law_channel_v2_17 : PV.Env → SR := sSet 17 (eLst (lNil))
def a__law_channel_v2_18 : PV.Env → SR := sIf (eB (e2 dEq (e2 dMod (e2 dDiv (eVar 2) (eC (.int 97))) (eC (.int 3))) (eC (.int 0)))) (sFrz 5 (sSet 17 (eCall (lenIs 3 Ψ__law_keeps) [] (lCons (eVar 4) (lCons (eVar 5) (lCons (eVar 2) (lNil))))))) (sNil)
def a__law_channel_v2_19 : PV.Env → SR := sFrz 17 (sFrz 16 (sFrz 12 (sFrz 10 (sFrz 9 (sFrz 7 (sFrz 6 (sRet (eLst (lCons (eVar 6) (lCons (eVar 7) (lCons (eVar 9) (lCons (eVar 10) (lCons (eVar 12) (lCons (eVar 16) (lCons (eVar 17) (lNil))))))))))))))))
def N__law_channel_v2 : List Str := ["_law_script", "_law_most", "_law_seed", "_law_words", "_law_width", "_law_cells", "_law_top", "_law_bottom", "_law_bits", "_law_left", "_law_right", "_law_lone", "_law_wide", "_law_k", "_law_word", "_law_one", "_law_bends_here", "_law_keeps_here"]
def g__law_channel_v2 : PV.Env → SR := sSeq (a__law_channel_v2_1) (sSeq (a__law_channel_v2_2) (sSeq (a__law_channel_v2_3) (sSeq (a__law_channel_v2_4) (sSeq (a__law_channel_v2_5) (sSeq (a__law_channel_v2_6) (sSeq (a__law_channel_v2_7) (sSeq (a__law_channel_v2_8) (sSeq (a__law_channel_v2_9) (sSeq (a__law_channel_v2_10) (sSeq (a__law_channel_v2_11) (sSeq (a__law_channel_v2_12) (sSeq (a__law_channel_v2_13) (sSeq (a__law_channel_v2_14) (sSeq (a__law_channel_v2_15) (sSeq (a__law_channel_v2_16) (sSeq (a__law_channel_v2_17) (sSeq (a__law_channel_v2_18) (a__law_channel_v2_19))))))))))))))))))
def Φ__law_channel_v2 : List D → Res D := runF N__law_channel_v2.length g__law_channel_v2
def B__law_channel_v2_1 (y_seed : D) (y_words : D) (y_width : D) (y_cells : D) (y_top : D) (y_bottom : D) (y_left : D) (y_right : D) (t44 : D) (y_wide : D) : Res (Fo D) :=
  ((up2 t44).bind fun t45 => (((((((dAdd (rd y_seed) (rd t45.1))).bind fun t46 => Res.ok [t46, (D.int 500)])).bind fun t47 => (callD (lenIs 2 Φ__law_mix) (t47 ++ []))).bind chk).bind fun y_one =>
  (ifR (ifR ((((dMod (rd y_one) (D.int 4))).bind fun t48 => (dEq t48 (D.int 0))).bind asB) ((((callD (lenIs 5 Ψ__law_many) [(rd y_top), (rd y_bottom), (rd y_left), (rd y_right), (rd t45.2)])).bind fun t49 => (dGt t49 (D.int 1))).bind asB) (Res.ok false))
  ((appV y_wide (((((((((((dDiv (rd y_one) (D.int 4))).bind fun t50 => (dMod t50 (D.int 2)))).bind fun t51 => (dAdd (D.int 2) t51))).bind fun t52 => Res.ok [t52])).bind fun t53 => Res.ok ((rd t45.2) :: t53))).bind fun t54 => (tupA t54))).bind fun y_wide =>
  (Res.ok (Fo.nx y_wide)))
  (Res.ok (Fo.nx y_wide)))))
theorem bo_B__law_channel_v2_1 (y_seed : D) (y_words : D) (y_width : D) (y_cells : D) (y_top : D) (y_bottom : D) (y_left : D) (y_right : D) (o_0 o_1 o_8 o_11 : Option D) (t44 : D) (y_wide : D) : RB (fun s : D => [o_0, o_1, some y_seed, some y_words, some y_width, some y_cells, some y_top, some y_bottom, o_8, some y_left, some y_right, o_11, some s, none, none, none, none, none]) [13 , 14 , 15] (tgt (putT 2 (putC (put1 13) (putC (put1 14) putN))) b__law_channel_v2_1 t44 [o_0, o_1, some y_seed, some y_words, some y_width, some y_cells, some y_top, some y_bottom, o_8, some y_left, some y_right, o_11, some y_wide, none, none, none, none, none]) (B__law_channel_v2_1 y_seed y_words y_width y_cells y_top y_bottom y_left y_right t44 y_wide) := b_tgt (en := fun t45 => [o_0, o_1, some y_seed, some y_words, some y_width, some y_cells, some y_top, some y_bottom, o_8, some y_left, some y_right, o_11, some y_wide, some t45.1, some t45.2, none, none, none]) t_2 (up2_nox t44) (fun _ => rfl) fun t45 => (b_last (b_assoc (b_set (fx := (((((dAdd (rd y_seed) (rd t45.1))).bind fun t46 => Res.ok [t46, (D.int 500)])).bind fun t47 => (callD (lenIs 2 Φ__law_mix) (t47 ++ [])))) (en := fun y_one => [o_0, o_1, some y_seed, some y_words, some y_width, some y_cells, some y_top, some y_bottom, o_8, some y_left, some y_right, o_11, some y_wide, some t45.1, some t45.2, some y_one, none, none]) (x_call (as := (((dAdd (rd y_seed) (rd t45.1))).bind fun t46 => Res.ok [t46, (D.int 500)])) (x_cons (a := (dAdd (rd y_seed) (rd t45.1))) (as := (Res.ok [(D.int 500)])) rfl (x_consP (a := (D.int 500)) (as := []) rfl rfl))) (fun _ => rfl) fun y_one => (b_if (tx := (ifR ((((dMod (rd y_one) (D.int 4))).bind fun t48 => (dEq t48 (D.int 0))).bind asB) ((((callD (lenIs 5 Ψ__law_many) [(rd y_top), (rd y_bottom), (rd y_left), (rd y_right), (rd t45.2)])).bind fun t49 => (dGt t49 (D.int 1))).bind asB) (Res.ok false))) (x_bAnd (pa := ((((dMod (rd y_one) (D.int 4))).bind fun t48 => (dEq t48 (D.int 0))).bind asB)) (qa := ((((callD (lenIs 5 Ψ__law_many) [(rd y_top), (rd y_bottom), (rd y_left), (rd y_right), (rd t45.2)])).bind fun t49 => (dGt t49 (D.int 1))).bind asB)) rfl (x_B (a := (((callD (lenIs 5 Ψ__law_many) [(rd y_top), (rd y_bottom), (rd y_left), (rd y_right), (rd t45.2)])).bind fun t49 => (dGt t49 (D.int 1)))) (x_e2 (a := (callD (lenIs 5 Ψ__law_many) [(rd y_top), (rd y_bottom), (rd y_left), (rd y_right), (rd t45.2)])) (b := (Res.ok (D.int 1))) (x_callP (as := [(rd y_top), (rd y_bottom), (rd y_left), (rd y_right), (rd t45.2)]) (x_consP (a := (rd y_top)) (as := [(rd y_bottom), (rd y_left), (rd y_right), (rd t45.2)]) rfl (x_consP (a := (rd y_bottom)) (as := [(rd y_left), (rd y_right), (rd t45.2)]) rfl (x_consP (a := (rd y_left)) (as := [(rd y_right), (rd t45.2)]) rfl (x_consP (a := (rd y_right)) (as := [(rd t45.2)]) rfl (x_consP (a := (rd t45.2)) (as := []) rfl rfl))))) rfl) rfl))) (b_app (fx := (((((((((((dDiv (rd y_one) (D.int 4))).bind fun t50 => (dMod t50 (D.int 2)))).bind fun t51 => (dAdd (D.int 2) t51))).bind fun t52 => Res.ok [t52])).bind fun t53 => Res.ok ((rd t45.2) :: t53))).bind fun t54 => (tupA t54))) (en := fun y_wide => [o_0, o_1, some y_seed, some y_words, some y_width, some y_cells, some y_top, some y_bottom, o_8, some y_left, some y_right, o_11, some y_wide, some t45.1, some t45.2, some y_one, none, none]) rfl (x_tup (as := (((((((((dDiv (rd y_one) (D.int 4))).bind fun t50 => (dMod t50 (D.int 2)))).bind fun t51 => (dAdd (D.int 2) t51))).bind fun t52 => Res.ok [t52])).bind fun t53 => Res.ok ((rd t45.2) :: t53))) (x_cons (a := (Res.ok (rd t45.2))) (as := (((((((dDiv (rd y_one) (D.int 4))).bind fun t50 => (dMod t50 (D.int 2)))).bind fun t51 => (dAdd (D.int 2) t51))).bind fun t52 => Res.ok [t52])) rfl (x_cons (a := (((((dDiv (rd y_one) (D.int 4))).bind fun t50 => (dMod t50 (D.int 2)))).bind fun t51 => (dAdd (D.int 2) t51))) (as := (Res.ok [])) rfl rfl))) (fun _ => rfl) fun y_wide => (r_nilB rfl)) (b_nil (r_nilB rfl))))))
def J__law_channel_v2_1 (y_top : D) (y_bottom : D) (y_left : D) (y_right : D) (y_wide : D) (y_bends_here : D) (y_keeps_here : D) : Res D :=
  ((chk (D.lst Tag.own [(rd (fz y_top)), (rd (fz y_bottom)), (rd (fz y_left)), (rd (fz y_right)), (rd (fz y_wide)), (rd (fz y_bends_here)), (rd (fz y_keeps_here))])).bind okR)
theorem jo_J__law_channel_v2_1 (y_top : D) (y_bottom : D) (y_left : D) (y_right : D) (y_wide : D) (y_bends_here : D) (y_keeps_here : D) (o_0 o_1 o_2 o_3 o_4 o_5 o_8 o_11 : Option D) : RF ((sSeq a__law_channel_v2_19 sNil) [o_0, o_1, o_2, o_3, o_4, o_5, some y_top, some y_bottom, o_8, some y_left, some y_right, o_11, some y_wide, none, none, none, some y_bends_here, some y_keeps_here]) (J__law_channel_v2_1 y_top y_bottom y_left y_right y_wide y_bends_here y_keeps_here) := (f_frz (en := [o_0, o_1, o_2, o_3, o_4, o_5, some y_top, some y_bottom, o_8, some y_left, some y_right, o_11, some y_wide, none, none, none, some y_bends_here, some (fz y_keeps_here)]) rfl (f_frz (en := [o_0, o_1, o_2, o_3, o_4, o_5, some y_top, some y_bottom, o_8, some y_left, some y_right, o_11, some y_wide, none, none, none, some (fz y_bends_here), some (fz y_keeps_here)]) rfl (f_frz (en := [o_0, o_1, o_2, o_3, o_4, o_5, some y_top, some y_bottom, o_8, some y_left, some y_right, o_11, some (fz y_wide), none, none, none, some (fz y_bends_here), some (fz y_keeps_here)]) rfl (f_frz (en := [o_0, o_1, o_2, o_3, o_4, o_5, some y_top, some y_bottom, o_8, some y_left, some (fz y_right), o_11, some (fz y_wide), none, none, none, some (fz y_bends_here), some (fz y_keeps_here)]) rfl (f_frz (en := [o_0, o_1, o_2, o_3, o_4, o_5, some y_top, some y_bottom, o_8, some (fz y_left), some (fz y_right), o_11, some (fz y_wide), none, none, none, some (fz y_bends_here), some (fz y_keeps_here)]) rfl (f_frz (en := [o_0, o_1, o_2, o_3, o_4, o_5, some y_top, some (fz y_bottom), o_8, some (fz y_left), some (fz y_right), o_11, some (fz y_wide), none, none, none, some (fz y_bends_here), some (fz y_keeps_here)]) rfl (f_frz (en := [o_0, o_1, o_2, o_3, o_4, o_5, some (fz y_top), some (fz y_bottom), o_8, some (fz y_left), some (fz y_right), o_11, some (fz y_wide), none, none, none, some (fz y_bends_here), some (fz y_keeps_here)]) rfl (f_ret (fx := (Res.ok (D.lst Tag.own [(rd (fz y_top)), (rd (fz y_bottom)), (rd (fz y_left)), (rd (fz y_right)), (rd (fz y_wide)), (rd (fz y_bends_here)), (rd (fz y_keeps_here))]))) (x_lstP (ds := [(rd (fz y_top)), (rd (fz y_bottom)), (rd (fz y_left)), (rd (fz y_right)), (rd (fz y_wide)), (rd (fz y_bends_here)), (rd (fz y_keeps_here))]) (x_consP (a := (rd (fz y_top))) (as := [(rd (fz y_bottom)), (rd (fz y_left)), (rd (fz y_right)), (rd (fz y_wide)), (rd (fz y_bends_here)), (rd (fz y_keeps_here))]) rfl (x_consP (a := (rd (fz y_bottom))) (as := [(rd (fz y_left)), (rd (fz y_right)), (rd (fz y_wide)), (rd (fz y_bends_here)), (rd (fz y_keeps_here))]) rfl (x_consP (a := (rd (fz y_left))) (as := [(rd (fz y_right)), (rd (fz y_wide)), (rd (fz y_bends_here)), (rd (fz y_keeps_here))]) rfl (x_consP (a := (rd (fz y_right))) (as := [(rd (fz y_wide)), (rd (fz y_bends_here)), (rd (fz y_keeps_here))]) rfl (x_consP (a := (rd (fz y_wide))) (as := [(rd (fz y_bends_here)), (rd (fz y_keeps_here))]) rfl (x_consP (a := (rd (fz y_bends_here))) (as := [(rd (fz y_keeps_here))]) rfl (x_consP (a := (rd (fz y_keeps_here))) (as := []) rfl rfl))))))) 7 rfl rfl)))))))))
def M__law_channel_v2 (y_script : D) (y_most : D) : Res D :=
  (((((((((((((dSl (rd y_script) none (some 1))).bind fun t1 => Res.ok [t1])).bind fun t2 => (dSum t2))).bind fun t3 => (((dPow (D.int 10) (D.int 30))).bind fun t4 => (dMod t3 t4)))).bind fun t5 => (dMul t5 (D.int 40014)))).bind fun t6 => (dMod t6 (D.int 2147483563))).bind chk).bind fun y_seed =>
  (((((((((((dSl (rd y_script) none (some 1))).bind fun t7 => Res.ok [t7])).bind fun t8 => (dSum t8))).bind fun t9 => Res.ok [t9])).bind fun t10 => (callD (lenIs 1 Φ__law_named) (t10 ++ []))).bind chk).bind fun y_words =>
  (((((dMod (rd y_seed) (rd y_most))).bind fun t11 => (dAdd (D.int 1) t11)).bind chk).bind fun y_width =>
  (((dSl (rd y_script) (some 1) none).bind chk).bind fun y_cells =>
  (((callD (lenIs 4 Ψ__law_pins) [(rd (fz y_words)), (rd (fz y_cells)), (rd y_seed), (rd y_width)]).bind up2).bind fun t12 =>
  (((((((((((dSl (rd y_script) (some 1) (some 2))).bind fun t14 => Res.ok [t14])).bind fun t15 => (dSum t15))).bind fun t18 => ((((((dMod (rd y_seed) (D.int 7))).bind fun t16 => (dAdd (D.int 400) t16))).bind fun t17 => Res.ok [t17])).bind fun t19 => Res.ok (t18 :: t19))).bind fun t20 => (callD (lenIs 2 Φ__law_mix) (t20 ++ []))).bind chk).bind fun y_bits =>
  (((callD (lenIs 2 Ψ__law_open) [(rd (fz (fz y_words))), (rd y_bits)]).bind chk).bind fun y_left =>
  (((((((((dDiv (rd y_bits) (D.int 512))).bind fun t21 => Res.ok [t21])).bind fun t22 => Res.ok ((rd (fz (fz (fz y_words)))) :: t22))).bind fun t23 => (callD (lenIs 2 Ψ__law_open) (t23 ++ []))).bind chk).bind fun y_right =>
  (((((itemsOf false (rd (fz (fz (fz y_words)))))).bind fun t27 => ((lcV (fun t24 => (ifR ((((callD (lenIs 5 Ψ__law_many) [(rd (fz t12.1)), (rd (fz t12.2)), (rd (fz y_left)), (rd (fz y_right)), (rd t24)])).bind fun t26 => (dEq t26 (D.int 1))).bind asB) ((chk (rd t24)).bind fun y => Res.ok (some y)) (Res.ok none))) t27).bind lstB)).bind chk).bind fun y_lone =>
  (((((itemsOf false (rd (fz t12.1)))).bind fun t31 => ((lcV (fun t28 => (((ifR ((dIn1 (rd t28) (rd y_lone)).bind asB) (Res.ok D.non) (Res.ok (rd t28)))).bind fun y => (chk y).bind fun y => Res.ok (some y))) t31).bind lstB)).bind chk).bind fun y_top =>
  (((((itemsOf false (rd (fz t12.2)))).bind fun t35 => ((lcV (fun t32 => (((ifR ((dIn1 (rd t32) (rd y_lone)).bind asB) (Res.ok D.non) (Res.ok (rd t32)))).bind fun y => (chk y).bind fun y => Res.ok (some y))) t35).bind lstB)).bind chk).bind fun y_bottom =>
  (((((itemsOf false (rd (fz y_left)))).bind fun t38 => ((lcV (fun t36 => (ifR ((dIn0 (rd t36) (rd y_lone)).bind asB) ((chk (rd t36)).bind fun y => Res.ok (some y)) (Res.ok none))) t38).bind lstB)).bind chk).bind fun y_left =>
  (((((itemsOf false (rd (fz y_right)))).bind fun t41 => ((lcV (fun t39 => (ifR ((dIn0 (rd t39) (rd y_lone)).bind asB) ((chk (rd t39)).bind fun y => Res.ok (some y)) (Res.ok none))) t41).bind lstB)).bind chk).bind fun y_right =>
  (((((((dSort [(rd (fz (fz (fz y_words))))])).bind fun t42 => Res.ok [t42])).bind fun t43 => ((enum1 true) t43))).bind fun t58 => (afterV (forV (fun d s => B__law_channel_v2_1 y_seed (fz (fz (fz y_words))) y_width (fz y_cells) (fz y_top) (fz y_bottom) (fz y_left) (fz y_right) d s) t58 (D.lst Tag.own [])) (fun t55 =>
  (((callD (lenIs 4 Ψ__law_bends) [(D.lst Tag.own [(rd (fz (fz y_top))), (rd (fz (fz y_bottom))), (rd (fz (fz y_left))), (rd (fz (fz y_right)))]), (rd (fz (fz (fz (fz y_words))))), (rd (fz (fz y_cells))), (rd y_seed)]).bind chk).bind fun y_bends_here =>
  (ifR ((((((dDiv (rd y_seed) (D.int 97))).bind fun t56 => (dMod t56 (D.int 3)))).bind fun t57 => (dEq t57 (D.int 0))).bind asB)
  (((callD (lenIs 3 Ψ__law_keeps) [(rd y_width), (rd (fz (fz (fz y_cells)))), (rd y_seed)]).bind chk).bind fun y_keeps_here =>
  (J__law_channel_v2_1 (fz (fz y_top)) (fz (fz y_bottom)) (fz (fz y_left)) (fz (fz y_right)) t55 y_bends_here y_keeps_here))
  (J__law_channel_v2_1 (fz (fz y_top)) (fz (fz y_bottom)) (fz (fz y_left)) (fz (fz y_right)) t55 y_bends_here (D.lst Tag.own []))))) okR)))))))))))))))
theorem me__law_channel_v2 (y_script : D) (y_most : D) : RF (g__law_channel_v2 [some y_script, some y_most, none, none, none, none, none, none, none, none, none, none, none, none, none, none, none, none]) (M__law_channel_v2 y_script y_most) := (f_last (f_assoc (f_set (fx := (((((((((((dSl (rd y_script) none (some 1))).bind fun t1 => Res.ok [t1])).bind fun t2 => (dSum t2))).bind fun t3 => (((dPow (D.int 10) (D.int 30))).bind fun t4 => (dMod t3 t4)))).bind fun t5 => (dMul t5 (D.int 40014)))).bind fun t6 => (dMod t6 (D.int 2147483563)))) (en := fun y_seed => [some y_script, some y_most, some y_seed, none, none, none, none, none, none, none, none, none, none, none, none, none, none, none]) (x_e2 (a := (((((((((dSl (rd y_script) none (some 1))).bind fun t1 => Res.ok [t1])).bind fun t2 => (dSum t2))).bind fun t3 => (((dPow (D.int 10) (D.int 30))).bind fun t4 => (dMod t3 t4)))).bind fun t5 => (dMul t5 (D.int 40014)))) (b := (Res.ok (D.int 2147483563))) (x_e2 (a := (((((((dSl (rd y_script) none (some 1))).bind fun t1 => Res.ok [t1])).bind fun t2 => (dSum t2))).bind fun t3 => (((dPow (D.int 10) (D.int 30))).bind fun t4 => (dMod t3 t4)))) (b := (Res.ok (D.int 40014))) (x_e2 (a := (((((dSl (rd y_script) none (some 1))).bind fun t1 => Res.ok [t1])).bind fun t2 => (dSum t2))) (b := (dPow (D.int 10) (D.int 30))) (x_eC (as := (((dSl (rd y_script) none (some 1))).bind fun t1 => Res.ok [t1])) (x_cons (a := (dSl (rd y_script) none (some 1))) (as := (Res.ok [])) rfl rfl)) rfl) rfl) rfl) (fun _ => rfl) fun y_seed => (f_assoc (f_set (fx := (((((((((dSl (rd y_script) none (some 1))).bind fun t7 => Res.ok [t7])).bind fun t8 => (dSum t8))).bind fun t9 => Res.ok [t9])).bind fun t10 => (callD (lenIs 1 Φ__law_named) (t10 ++ [])))) (en := fun y_words => [some y_script, some y_most, some y_seed, some y_words, none, none, none, none, none, none, none, none, none, none, none, none, none, none]) (x_call (as := (((((((dSl (rd y_script) none (some 1))).bind fun t7 => Res.ok [t7])).bind fun t8 => (dSum t8))).bind fun t9 => Res.ok [t9])) (x_cons (a := (((((dSl (rd y_script) none (some 1))).bind fun t7 => Res.ok [t7])).bind fun t8 => (dSum t8))) (as := (Res.ok [])) (x_eC (as := (((dSl (rd y_script) none (some 1))).bind fun t7 => Res.ok [t7])) (x_cons (a := (dSl (rd y_script) none (some 1))) (as := (Res.ok [])) rfl rfl)) rfl)) (fun _ => rfl) fun y_words => (f_assoc (f_set (fx := (((dMod (rd y_seed) (rd y_most))).bind fun t11 => (dAdd (D.int 1) t11))) (en := fun y_width => [some y_script, some y_most, some y_seed, some y_words, some y_width, none, none, none, none, none, none, none, none, none, none, none, none, none]) rfl (fun _ => rfl) fun y_width => (f_assoc (f_set (fx := (dSl (rd y_script) (some 1) none)) (en := fun y_cells => [some y_script, some y_most, some y_seed, some y_words, some y_width, some y_cells, none, none, none, none, none, none, none, none, none, none, none, none]) rfl (fun _ => rfl) fun y_cells => (f_assoc (f_frz (en := [some y_script, some y_most, some y_seed, some y_words, some y_width, some (fz y_cells), none, none, none, none, none, none, none, none, none, none, none, none]) rfl (f_frz (en := [some y_script, some y_most, some y_seed, some (fz y_words), some y_width, some (fz y_cells), none, none, none, none, none, none, none, none, none, none, none, none]) rfl (f_asg (fx := (callD (lenIs 4 Ψ__law_pins) [(rd (fz y_words)), (rd (fz y_cells)), (rd y_seed), (rd y_width)])) (en := fun t12 => [some y_script, some y_most, some y_seed, some (fz y_words), some y_width, some (fz y_cells), some t12.1, some t12.2, none, none, none, none, none, none, none, none, none, none]) (x_callP (as := [(rd (fz y_words)), (rd (fz y_cells)), (rd y_seed), (rd y_width)]) (x_consP (a := (rd (fz y_words))) (as := [(rd (fz y_cells)), (rd y_seed), (rd y_width)]) rfl (x_consP (a := (rd (fz y_cells))) (as := [(rd y_seed), (rd y_width)]) rfl (x_consP (a := (rd y_seed)) (as := [(rd y_width)]) rfl (x_consP (a := (rd y_width)) (as := []) rfl rfl)))) rfl) (fun _ => t_2) up2_nox (fun _ => rfl) fun t12 => (f_assoc (f_set (fx := (((((((((dSl (rd y_script) (some 1) (some 2))).bind fun t14 => Res.ok [t14])).bind fun t15 => (dSum t15))).bind fun t18 => ((((((dMod (rd y_seed) (D.int 7))).bind fun t16 => (dAdd (D.int 400) t16))).bind fun t17 => Res.ok [t17])).bind fun t19 => Res.ok (t18 :: t19))).bind fun t20 => (callD (lenIs 2 Φ__law_mix) (t20 ++ [])))) (en := fun y_bits => [some y_script, some y_most, some y_seed, some (fz y_words), some y_width, some (fz y_cells), some t12.1, some t12.2, some y_bits, none, none, none, none, none, none, none, none, none]) (x_call (as := (((((((dSl (rd y_script) (some 1) (some 2))).bind fun t14 => Res.ok [t14])).bind fun t15 => (dSum t15))).bind fun t18 => ((((((dMod (rd y_seed) (D.int 7))).bind fun t16 => (dAdd (D.int 400) t16))).bind fun t17 => Res.ok [t17])).bind fun t19 => Res.ok (t18 :: t19))) (x_cons (a := (((((dSl (rd y_script) (some 1) (some 2))).bind fun t14 => Res.ok [t14])).bind fun t15 => (dSum t15))) (as := (((((dMod (rd y_seed) (D.int 7))).bind fun t16 => (dAdd (D.int 400) t16))).bind fun t17 => Res.ok [t17])) (x_eC (as := (((dSl (rd y_script) (some 1) (some 2))).bind fun t14 => Res.ok [t14])) (x_cons (a := (dSl (rd y_script) (some 1) (some 2))) (as := (Res.ok [])) rfl rfl)) (x_cons (a := (((dMod (rd y_seed) (D.int 7))).bind fun t16 => (dAdd (D.int 400) t16))) (as := (Res.ok [])) rfl rfl))) (fun _ => rfl) fun y_bits => (f_assoc (f_frz (en := [some y_script, some y_most, some y_seed, some (fz (fz y_words)), some y_width, some (fz y_cells), some t12.1, some t12.2, some y_bits, none, none, none, none, none, none, none, none, none]) rfl (f_set (fx := (callD (lenIs 2 Ψ__law_open) [(rd (fz (fz y_words))), (rd y_bits)])) (en := fun y_left => [some y_script, some y_most, some y_seed, some (fz (fz y_words)), some y_width, some (fz y_cells), some t12.1, some t12.2, some y_bits, some y_left, none, none, none, none, none, none, none, none]) (x_callP (as := [(rd (fz (fz y_words))), (rd y_bits)]) (x_consP (a := (rd (fz (fz y_words)))) (as := [(rd y_bits)]) rfl (x_consP (a := (rd y_bits)) (as := []) rfl rfl)) rfl) (fun _ => rfl) fun y_left => (f_assoc (f_frz (en := [some y_script, some y_most, some y_seed, some (fz (fz (fz y_words))), some y_width, some (fz y_cells), some t12.1, some t12.2, some y_bits, some y_left, none, none, none, none, none, none, none, none]) rfl (f_set (fx := (((((((dDiv (rd y_bits) (D.int 512))).bind fun t21 => Res.ok [t21])).bind fun t22 => Res.ok ((rd (fz (fz (fz y_words)))) :: t22))).bind fun t23 => (callD (lenIs 2 Ψ__law_open) (t23 ++ [])))) (en := fun y_right => [some y_script, some y_most, some y_seed, some (fz (fz (fz y_words))), some y_width, some (fz y_cells), some t12.1, some t12.2, some y_bits, some y_left, some y_right, none, none, none, none, none, none, none]) (x_call (as := (((((dDiv (rd y_bits) (D.int 512))).bind fun t21 => Res.ok [t21])).bind fun t22 => Res.ok ((rd (fz (fz (fz y_words)))) :: t22))) (x_cons (a := (Res.ok (rd (fz (fz (fz y_words)))))) (as := (((dDiv (rd y_bits) (D.int 512))).bind fun t21 => Res.ok [t21])) rfl (x_cons (a := (dDiv (rd y_bits) (D.int 512))) (as := (Res.ok [])) rfl rfl))) (fun _ => rfl) fun y_right => (f_assoc (f_frz (en := [some y_script, some y_most, some y_seed, some (fz (fz (fz y_words))), some y_width, some (fz y_cells), some t12.1, some t12.2, some y_bits, some y_left, some (fz y_right), none, none, none, none, none, none, none]) rfl (f_frz (en := [some y_script, some y_most, some y_seed, some (fz (fz (fz y_words))), some y_width, some (fz y_cells), some t12.1, some t12.2, some y_bits, some (fz y_left), some (fz y_right), none, none, none, none, none, none, none]) rfl (f_frz (en := [some y_script, some y_most, some y_seed, some (fz (fz (fz y_words))), some y_width, some (fz y_cells), some t12.1, some (fz t12.2), some y_bits, some (fz y_left), some (fz y_right), none, none, none, none, none, none, none]) rfl (f_frz (en := [some y_script, some y_most, some y_seed, some (fz (fz (fz y_words))), some y_width, some (fz y_cells), some (fz t12.1), some (fz t12.2), some y_bits, some (fz y_left), some (fz y_right), none, none, none, none, none, none, none]) rfl (f_set (fx := (((itemsOf false (rd (fz (fz (fz y_words)))))).bind fun t27 => ((lcV (fun t24 => (ifR ((((callD (lenIs 5 Ψ__law_many) [(rd (fz t12.1)), (rd (fz t12.2)), (rd (fz y_left)), (rd (fz y_right)), (rd t24)])).bind fun t26 => (dEq t26 (D.int 1))).bind asB) ((chk (rd t24)).bind fun y => Res.ok (some y)) (Res.ok none))) t27).bind lstB))) (en := fun y_lone => [some y_script, some y_most, some y_seed, some (fz (fz (fz y_words))), some y_width, some (fz y_cells), some (fz t12.1), some (fz t12.2), some y_bits, some (fz y_left), some (fz y_right), some y_lone, none, none, none, none, none, none]) (x_lc (ix := (itemsOf false (rd (fz (fz (fz y_words)))))) (step := fun t24 => (ifR ((((callD (lenIs 5 Ψ__law_many) [(rd (fz t12.1)), (rd (fz t12.2)), (rd (fz y_left)), (rd (fz y_right)), (rd t24)])).bind fun t26 => (dEq t26 (D.int 1))).bind asB) ((chk (rd t24)).bind fun y => Res.ok (some y)) (Res.ok none))) rfl rfl (fun t24 => t_lcb (tt := ((((callD (lenIs 5 Ψ__law_many) [(rd (fz t12.1)), (rd (fz t12.2)), (rd (fz y_left)), (rd (fz y_right)), (rd t24)])).bind fun t26 => (dEq t26 (D.int 1))).bind asB)) (fx := (Res.ok (rd t24))) (x_B (a := (((callD (lenIs 5 Ψ__law_many) [(rd (fz t12.1)), (rd (fz t12.2)), (rd (fz y_left)), (rd (fz y_right)), (rd t24)])).bind fun t26 => (dEq t26 (D.int 1)))) (x_e2 (a := (callD (lenIs 5 Ψ__law_many) [(rd (fz t12.1)), (rd (fz t12.2)), (rd (fz y_left)), (rd (fz y_right)), (rd t24)])) (b := (Res.ok (D.int 1))) (x_callP (as := [(rd (fz t12.1)), (rd (fz t12.2)), (rd (fz y_left)), (rd (fz y_right)), (rd t24)]) (x_consP (a := (rd (fz t12.1))) (as := [(rd (fz t12.2)), (rd (fz y_left)), (rd (fz y_right)), (rd t24)]) rfl (x_consP (a := (rd (fz t12.2))) (as := [(rd (fz y_left)), (rd (fz y_right)), (rd t24)]) rfl (x_consP (a := (rd (fz y_left))) (as := [(rd (fz y_right)), (rd t24)]) rfl (x_consP (a := (rd (fz y_right))) (as := [(rd t24)]) rfl (x_consP (a := (rd t24)) (as := []) rfl rfl))))) rfl) rfl)) rfl)) (fun _ => rfl) fun y_lone => (f_assoc (f_set (fx := (((itemsOf false (rd (fz t12.1)))).bind fun t31 => ((lcV (fun t28 => (((ifR ((dIn1 (rd t28) (rd y_lone)).bind asB) (Res.ok D.non) (Res.ok (rd t28)))).bind fun y => (chk y).bind fun y => Res.ok (some y))) t31).bind lstB))) (en := fun y_top => [some y_script, some y_most, some y_seed, some (fz (fz (fz y_words))), some y_width, some (fz y_cells), some y_top, some (fz t12.2), some y_bits, some (fz y_left), some (fz y_right), some y_lone, none, none, none, none, none, none]) (x_lc (ix := (itemsOf false (rd (fz t12.1)))) (step := fun t28 => (((ifR ((dIn1 (rd t28) (rd y_lone)).bind asB) (Res.ok D.non) (Res.ok (rd t28)))).bind fun y => (chk y).bind fun y => Res.ok (some y))) rfl rfl (fun t28 => t_lcb1 (fx := (ifR ((dIn1 (rd t28) (rd y_lone)).bind asB) (Res.ok D.non) (Res.ok (rd t28)))) rfl)) (fun _ => rfl) fun y_top => (f_assoc (f_set (fx := (((itemsOf false (rd (fz t12.2)))).bind fun t35 => ((lcV (fun t32 => (((ifR ((dIn1 (rd t32) (rd y_lone)).bind asB) (Res.ok D.non) (Res.ok (rd t32)))).bind fun y => (chk y).bind fun y => Res.ok (some y))) t35).bind lstB))) (en := fun y_bottom => [some y_script, some y_most, some y_seed, some (fz (fz (fz y_words))), some y_width, some (fz y_cells), some y_top, some y_bottom, some y_bits, some (fz y_left), some (fz y_right), some y_lone, none, none, none, none, none, none]) (x_lc (ix := (itemsOf false (rd (fz t12.2)))) (step := fun t32 => (((ifR ((dIn1 (rd t32) (rd y_lone)).bind asB) (Res.ok D.non) (Res.ok (rd t32)))).bind fun y => (chk y).bind fun y => Res.ok (some y))) rfl rfl (fun t32 => t_lcb1 (fx := (ifR ((dIn1 (rd t32) (rd y_lone)).bind asB) (Res.ok D.non) (Res.ok (rd t32)))) rfl)) (fun _ => rfl) fun y_bottom => (f_assoc (f_set (fx := (((itemsOf false (rd (fz y_left)))).bind fun t38 => ((lcV (fun t36 => (ifR ((dIn0 (rd t36) (rd y_lone)).bind asB) ((chk (rd t36)).bind fun y => Res.ok (some y)) (Res.ok none))) t38).bind lstB))) (en := fun y_left => [some y_script, some y_most, some y_seed, some (fz (fz (fz y_words))), some y_width, some (fz y_cells), some y_top, some y_bottom, some y_bits, some y_left, some (fz y_right), some y_lone, none, none, none, none, none, none]) (x_lc (ix := (itemsOf false (rd (fz y_left)))) (step := fun t36 => (ifR ((dIn0 (rd t36) (rd y_lone)).bind asB) ((chk (rd t36)).bind fun y => Res.ok (some y)) (Res.ok none))) rfl rfl (fun t36 => t_lcb (tt := ((dIn0 (rd t36) (rd y_lone)).bind asB)) (fx := (Res.ok (rd t36))) rfl rfl)) (fun _ => rfl) fun y_left => (f_assoc (f_set (fx := (((itemsOf false (rd (fz y_right)))).bind fun t41 => ((lcV (fun t39 => (ifR ((dIn0 (rd t39) (rd y_lone)).bind asB) ((chk (rd t39)).bind fun y => Res.ok (some y)) (Res.ok none))) t41).bind lstB))) (en := fun y_right => [some y_script, some y_most, some y_seed, some (fz (fz (fz y_words))), some y_width, some (fz y_cells), some y_top, some y_bottom, some y_bits, some y_left, some y_right, some y_lone, none, none, none, none, none, none]) (x_lc (ix := (itemsOf false (rd (fz y_right)))) (step := fun t39 => (ifR ((dIn0 (rd t39) (rd y_lone)).bind asB) ((chk (rd t39)).bind fun y => Res.ok (some y)) (Res.ok none))) rfl rfl (fun t39 => t_lcb (tt := ((dIn0 (rd t39) (rd y_lone)).bind asB)) (fx := (Res.ok (rd t39))) rfl rfl)) (fun _ => rfl) fun y_right => (f_assoc (f_setV (x := (D.lst Tag.own [])) (en := [some y_script, some y_most, some y_seed, some (fz (fz (fz y_words))), some y_width, some (fz y_cells), some y_top, some y_bottom, some y_bits, some y_left, some y_right, some y_lone, some (D.lst Tag.own []), none, none, none, none, none]) (x_lstP (ds := []) rfl 0 rfl rfl) rfl rfl (f_assoc (f_frz (en := [some y_script, some y_most, some y_seed, some (fz (fz (fz y_words))), some y_width, some (fz y_cells), some y_top, some y_bottom, some y_bits, some y_left, some (fz y_right), some y_lone, some (D.lst Tag.own []), none, none, none, none, none]) rfl (f_frz (en := [some y_script, some y_most, some y_seed, some (fz (fz (fz y_words))), some y_width, some (fz y_cells), some y_top, some y_bottom, some y_bits, some (fz y_left), some (fz y_right), some y_lone, some (D.lst Tag.own []), none, none, none, none, none]) rfl (f_frz (en := [some y_script, some y_most, some y_seed, some (fz (fz (fz y_words))), some y_width, some (fz y_cells), some y_top, some (fz y_bottom), some y_bits, some (fz y_left), some (fz y_right), some y_lone, some (D.lst Tag.own []), none, none, none, none, none]) rfl (f_frz (en := [some y_script, some y_most, some y_seed, some (fz (fz (fz y_words))), some y_width, some (fz y_cells), some (fz y_top), some (fz y_bottom), some y_bits, some (fz y_left), some (fz y_right), some y_lone, some (D.lst Tag.own []), none, none, none, none, none]) rfl (f_for (fun s : D => [some y_script, some y_most, some y_seed, some (fz (fz (fz y_words))), some y_width, some (fz y_cells), some (fz y_top), some (fz y_bottom), some y_bits, some (fz y_left), some (fz y_right), some y_lone, some s, none, none, none, none, none]) (step := (fun d s => B__law_channel_v2_1 y_seed (fz (fz (fz y_words))) y_width (fz y_cells) (fz y_top) (fz y_bottom) (fz y_left) (fz y_right) d s)) (s0 := (D.lst Tag.own [])) (ix := (((((dSort [(rd (fz (fz (fz y_words))))])).bind fun t42 => Res.ok [t42])).bind fun t43 => ((enum1 true) t43))) (x_yL (as := (((dSort [(rd (fz (fz (fz y_words))))])).bind fun t42 => Res.ok [t42])) (x_cons (a := (dSort [(rd (fz (fz (fz y_words))))])) (as := (Res.ok [])) (x_eC (as := (Res.ok [(rd (fz (fz (fz y_words))))])) (x_consP (a := (rd (fz (fz (fz y_words))))) (as := []) rfl rfl)) rfl)) rfl (fun d s => bo_B__law_channel_v2_1 y_seed (fz (fz (fz y_words))) y_width (fz y_cells) (fz y_top) (fz y_bottom) (fz y_left) (fz y_right) (some y_script) (some y_most) (some y_bits) (some y_lone) d s) fun t55 => (f_assoc (f_frz (en := [some y_script, some y_most, some y_seed, some (fz (fz (fz y_words))), some y_width, some (fz y_cells), some (fz y_top), some (fz y_bottom), some y_bits, some (fz y_left), some (fz (fz y_right)), some y_lone, some t55, none, none, none, none, none]) rfl (f_frz (en := [some y_script, some y_most, some y_seed, some (fz (fz (fz y_words))), some y_width, some (fz y_cells), some (fz y_top), some (fz y_bottom), some y_bits, some (fz (fz y_left)), some (fz (fz y_right)), some y_lone, some t55, none, none, none, none, none]) rfl (f_frz (en := [some y_script, some y_most, some y_seed, some (fz (fz (fz y_words))), some y_width, some (fz y_cells), some (fz y_top), some (fz (fz y_bottom)), some y_bits, some (fz (fz y_left)), some (fz (fz y_right)), some y_lone, some t55, none, none, none, none, none]) rfl (f_frz (en := [some y_script, some y_most, some y_seed, some (fz (fz (fz y_words))), some y_width, some (fz y_cells), some (fz (fz y_top)), some (fz (fz y_bottom)), some y_bits, some (fz (fz y_left)), some (fz (fz y_right)), some y_lone, some t55, none, none, none, none, none]) rfl (f_frz (en := [some y_script, some y_most, some y_seed, some (fz (fz (fz y_words))), some y_width, some (fz (fz y_cells)), some (fz (fz y_top)), some (fz (fz y_bottom)), some y_bits, some (fz (fz y_left)), some (fz (fz y_right)), some y_lone, some t55, none, none, none, none, none]) rfl (f_frz (en := [some y_script, some y_most, some y_seed, some (fz (fz (fz (fz y_words)))), some y_width, some (fz (fz y_cells)), some (fz (fz y_top)), some (fz (fz y_bottom)), some y_bits, some (fz (fz y_left)), some (fz (fz y_right)), some y_lone, some t55, none, none, none, none, none]) rfl (f_set (fx := (callD (lenIs 4 Ψ__law_bends) [(D.lst Tag.own [(rd (fz (fz y_top))), (rd (fz (fz y_bottom))), (rd (fz (fz y_left))), (rd (fz (fz y_right)))]), (rd (fz (fz (fz (fz y_words))))), (rd (fz (fz y_cells))), (rd y_seed)])) (en := fun y_bends_here => [some y_script, some y_most, some y_seed, some (fz (fz (fz (fz y_words)))), some y_width, some (fz (fz y_cells)), some (fz (fz y_top)), some (fz (fz y_bottom)), some y_bits, some (fz (fz y_left)), some (fz (fz y_right)), some y_lone, some t55, none, none, none, some y_bends_here, none]) (x_callP (as := [(D.lst Tag.own [(rd (fz (fz y_top))), (rd (fz (fz y_bottom))), (rd (fz (fz y_left))), (rd (fz (fz y_right)))]), (rd (fz (fz (fz (fz y_words))))), (rd (fz (fz y_cells))), (rd y_seed)]) (x_consP (a := (D.lst Tag.own [(rd (fz (fz y_top))), (rd (fz (fz y_bottom))), (rd (fz (fz y_left))), (rd (fz (fz y_right)))])) (as := [(rd (fz (fz (fz (fz y_words))))), (rd (fz (fz y_cells))), (rd y_seed)]) (x_lstP (ds := [(rd (fz (fz y_top))), (rd (fz (fz y_bottom))), (rd (fz (fz y_left))), (rd (fz (fz y_right)))]) (x_consP (a := (rd (fz (fz y_top)))) (as := [(rd (fz (fz y_bottom))), (rd (fz (fz y_left))), (rd (fz (fz y_right)))]) rfl (x_consP (a := (rd (fz (fz y_bottom)))) (as := [(rd (fz (fz y_left))), (rd (fz (fz y_right)))]) rfl (x_consP (a := (rd (fz (fz y_left)))) (as := [(rd (fz (fz y_right)))]) rfl (x_consP (a := (rd (fz (fz y_right)))) (as := []) rfl rfl)))) 4 rfl rfl) (x_consP (a := (rd (fz (fz (fz (fz y_words)))))) (as := [(rd (fz (fz y_cells))), (rd y_seed)]) rfl (x_consP (a := (rd (fz (fz y_cells)))) (as := [(rd y_seed)]) rfl (x_consP (a := (rd y_seed)) (as := []) rfl rfl)))) rfl) (fun _ => rfl) fun y_bends_here => (f_assoc (f_setV (x := (D.lst Tag.own [])) (en := [some y_script, some y_most, some y_seed, some (fz (fz (fz (fz y_words)))), some y_width, some (fz (fz y_cells)), some (fz (fz y_top)), some (fz (fz y_bottom)), some y_bits, some (fz (fz y_left)), some (fz (fz y_right)), some y_lone, some t55, none, none, none, some y_bends_here, some (D.lst Tag.own [])]) (x_lstP (ds := []) rfl 0 rfl rfl) rfl rfl (f_assoc (f_if (tx := ((((((dDiv (rd y_seed) (D.int 97))).bind fun t56 => (dMod t56 (D.int 3)))).bind fun t57 => (dEq t57 (D.int 0))).bind asB)) rfl (f_frz (en := [some y_script, some y_most, some y_seed, some (fz (fz (fz (fz y_words)))), some y_width, some (fz (fz (fz y_cells))), some (fz (fz y_top)), some (fz (fz y_bottom)), some y_bits, some (fz (fz y_left)), some (fz (fz y_right)), some y_lone, some t55, none, none, none, some y_bends_here, some (D.lst Tag.own [])]) rfl (f_set (fx := (callD (lenIs 3 Ψ__law_keeps) [(rd y_width), (rd (fz (fz (fz y_cells)))), (rd y_seed)])) (en := fun y_keeps_here => [some y_script, some y_most, some y_seed, some (fz (fz (fz (fz y_words)))), some y_width, some (fz (fz (fz y_cells))), some (fz (fz y_top)), some (fz (fz y_bottom)), some y_bits, some (fz (fz y_left)), some (fz (fz y_right)), some y_lone, some t55, none, none, none, some y_bends_here, some y_keeps_here]) (x_callP (as := [(rd y_width), (rd (fz (fz (fz y_cells)))), (rd y_seed)]) (x_consP (a := (rd y_width)) (as := [(rd (fz (fz (fz y_cells)))), (rd y_seed)]) rfl (x_consP (a := (rd (fz (fz (fz y_cells))))) (as := [(rd y_seed)]) rfl (x_consP (a := (rd y_seed)) (as := []) rfl rfl))) rfl) (fun _ => rfl) fun y_keeps_here => (jo_J__law_channel_v2_1 (fz (fz y_top)) (fz (fz y_bottom)) (fz (fz y_left)) (fz (fz y_right)) t55 y_bends_here y_keeps_here (some y_script) (some y_most) (some y_seed) (some (fz (fz (fz (fz y_words))))) (some y_width) (some (fz (fz (fz y_cells)))) (some y_bits) (some y_lone)))) (f_nil (jo_J__law_channel_v2_1 (fz (fz y_top)) (fz (fz y_bottom)) (fz (fz y_left)) (fz (fz y_right)) t55 y_bends_here (D.lst Tag.own []) (some y_script) (some y_most) (some y_seed) (some (fz (fz (fz (fz y_words))))) (some y_width) (some (fz (fz y_cells))) (some y_bits) (some y_lone))))))))))))))))))))))))))))))))))))))))))))))))))))))))))
def Ψ__law_channel_v2 (ds : List D) : Res D := match ds with
  | [a0, a1] => M__law_channel_v2 a0 a1
  | _ => Res.stuck
theorem ps__law_channel_v2 (ds : List D) : Ψ__law_channel_v2 ds = Res.stuck ∨ Φ__law_channel_v2 ds = Ψ__law_channel_v2 ds := by
  unfold Ψ__law_channel_v2
  split
  · exact phi_of rfl (me__law_channel_v2 _ _)
  · exact .inl rfl
theorem pe__law_channel_v2 {y_script : D} {y_most : D} : Ψ__law_channel_v2 [y_script, y_most] = M__law_channel_v2 y_script y_most := rfl
def q__law_made_1 : PV.Env → Res D := eC_ dList (lCons (eVar 2) (lNil))
def N__law_made : List Str := ["_law_lists", "_law_copies", "_law_one"]
def g__law_made : PV.Env → SR := sSeq (sSet 1 (eLc (yVal false (eVar 0)) (putb 2) (bYes) (q__law_made_1) [2])) (sFrz 1 (sRet (eC_ (dMake "Channel" ["top", "bottom", "left", "right", "wide", "bends", "keeps"]) (lCons (e2 dIx (eVar 1) (eC (.int 0))) (lCons (e2 dIx (eVar 1) (eC (.int 1))) (lCons (e2 dIx (eVar 1) (eC (.int 2))) (lCons (e2 dIx (eVar 1) (eC (.int 3))) (lCons (e2 dIx (eVar 1) (eC (.int 4))) (lCons (e2 dIx (eVar 1) (eC (.int 5))) (lCons (e2 dIx (eVar 1) (eC (.int 6))) (lNil)))))))))))
def Φ__law_made : List D → Res D := runF N__law_made.length g__law_made
def M__law_made (y_lists : D) : Res D :=
  (((((itemsOf false (rd y_lists))).bind fun t4 => ((lcV (fun t1 => (((dList [(rd t1)])).bind fun y => (chk y).bind fun y => Res.ok (some y))) t4).bind lstB)).bind chk).bind fun y_copies =>
  (((((((dIx (rd (fz y_copies)) (D.int 0))).bind fun t16 => ((((dIx (rd (fz y_copies)) (D.int 1))).bind fun t14 => ((((dIx (rd (fz y_copies)) (D.int 2))).bind fun t12 => ((((dIx (rd (fz y_copies)) (D.int 3))).bind fun t10 => ((((dIx (rd (fz y_copies)) (D.int 4))).bind fun t8 => ((((dIx (rd (fz y_copies)) (D.int 5))).bind fun t6 => ((((dIx (rd (fz y_copies)) (D.int 6))).bind fun t5 => Res.ok [t5])).bind fun t7 => Res.ok (t6 :: t7))).bind fun t9 => Res.ok (t8 :: t9))).bind fun t11 => Res.ok (t10 :: t11))).bind fun t13 => Res.ok (t12 :: t13))).bind fun t15 => Res.ok (t14 :: t15))).bind fun t17 => Res.ok (t16 :: t17))).bind fun t18 => ((dMake "Channel" ["top" , "bottom" , "left" , "right" , "wide" , "bends" , "keeps"]) t18)).bind chk).bind okR))
theorem me__law_made (y_lists : D) : RF (g__law_made [some y_lists, none, none]) (M__law_made y_lists) := (f_last (f_assoc (f_set (fx := (((itemsOf false (rd y_lists))).bind fun t4 => ((lcV (fun t1 => (((dList [(rd t1)])).bind fun y => (chk y).bind fun y => Res.ok (some y))) t4).bind lstB))) (en := fun y_copies => [some y_lists, some y_copies, none]) (x_lc (ix := (itemsOf false (rd y_lists))) (step := fun t1 => (((dList [(rd t1)])).bind fun y => (chk y).bind fun y => Res.ok (some y))) rfl rfl (fun t1 => t_lcb1 (fx := (dList [(rd t1)])) (x_eC (as := (Res.ok [(rd t1)])) (x_consP (a := (rd t1)) (as := []) rfl rfl)))) (fun _ => rfl) fun y_copies => (f_frz (en := [some y_lists, some (fz y_copies), none]) rfl (f_ret (fx := (((((dIx (rd (fz y_copies)) (D.int 0))).bind fun t16 => ((((dIx (rd (fz y_copies)) (D.int 1))).bind fun t14 => ((((dIx (rd (fz y_copies)) (D.int 2))).bind fun t12 => ((((dIx (rd (fz y_copies)) (D.int 3))).bind fun t10 => ((((dIx (rd (fz y_copies)) (D.int 4))).bind fun t8 => ((((dIx (rd (fz y_copies)) (D.int 5))).bind fun t6 => ((((dIx (rd (fz y_copies)) (D.int 6))).bind fun t5 => Res.ok [t5])).bind fun t7 => Res.ok (t6 :: t7))).bind fun t9 => Res.ok (t8 :: t9))).bind fun t11 => Res.ok (t10 :: t11))).bind fun t13 => Res.ok (t12 :: t13))).bind fun t15 => Res.ok (t14 :: t15))).bind fun t17 => Res.ok (t16 :: t17))).bind fun t18 => ((dMake "Channel" ["top" , "bottom" , "left" , "right" , "wide" , "bends" , "keeps"]) t18))) (x_eC (as := (((dIx (rd (fz y_copies)) (D.int 0))).bind fun t16 => ((((dIx (rd (fz y_copies)) (D.int 1))).bind fun t14 => ((((dIx (rd (fz y_copies)) (D.int 2))).bind fun t12 => ((((dIx (rd (fz y_copies)) (D.int 3))).bind fun t10 => ((((dIx (rd (fz y_copies)) (D.int 4))).bind fun t8 => ((((dIx (rd (fz y_copies)) (D.int 5))).bind fun t6 => ((((dIx (rd (fz y_copies)) (D.int 6))).bind fun t5 => Res.ok [t5])).bind fun t7 => Res.ok (t6 :: t7))).bind fun t9 => Res.ok (t8 :: t9))).bind fun t11 => Res.ok (t10 :: t11))).bind fun t13 => Res.ok (t12 :: t13))).bind fun t15 => Res.ok (t14 :: t15))).bind fun t17 => Res.ok (t16 :: t17))) (x_cons (a := (dIx (rd (fz y_copies)) (D.int 0))) (as := (((dIx (rd (fz y_copies)) (D.int 1))).bind fun t14 => ((((dIx (rd (fz y_copies)) (D.int 2))).bind fun t12 => ((((dIx (rd (fz y_copies)) (D.int 3))).bind fun t10 => ((((dIx (rd (fz y_copies)) (D.int 4))).bind fun t8 => ((((dIx (rd (fz y_copies)) (D.int 5))).bind fun t6 => ((((dIx (rd (fz y_copies)) (D.int 6))).bind fun t5 => Res.ok [t5])).bind fun t7 => Res.ok (t6 :: t7))).bind fun t9 => Res.ok (t8 :: t9))).bind fun t11 => Res.ok (t10 :: t11))).bind fun t13 => Res.ok (t12 :: t13))).bind fun t15 => Res.ok (t14 :: t15))) rfl (x_cons (a := (dIx (rd (fz y_copies)) (D.int 1))) (as := (((dIx (rd (fz y_copies)) (D.int 2))).bind fun t12 => ((((dIx (rd (fz y_copies)) (D.int 3))).bind fun t10 => ((((dIx (rd (fz y_copies)) (D.int 4))).bind fun t8 => ((((dIx (rd (fz y_copies)) (D.int 5))).bind fun t6 => ((((dIx (rd (fz y_copies)) (D.int 6))).bind fun t5 => Res.ok [t5])).bind fun t7 => Res.ok (t6 :: t7))).bind fun t9 => Res.ok (t8 :: t9))).bind fun t11 => Res.ok (t10 :: t11))).bind fun t13 => Res.ok (t12 :: t13))) rfl (x_cons (a := (dIx (rd (fz y_copies)) (D.int 2))) (as := (((dIx (rd (fz y_copies)) (D.int 3))).bind fun t10 => ((((dIx (rd (fz y_copies)) (D.int 4))).bind fun t8 => ((((dIx (rd (fz y_copies)) (D.int 5))).bind fun t6 => ((((dIx (rd (fz y_copies)) (D.int 6))).bind fun t5 => Res.ok [t5])).bind fun t7 => Res.ok (t6 :: t7))).bind fun t9 => Res.ok (t8 :: t9))).bind fun t11 => Res.ok (t10 :: t11))) rfl (x_cons (a := (dIx (rd (fz y_copies)) (D.int 3))) (as := (((dIx (rd (fz y_copies)) (D.int 4))).bind fun t8 => ((((dIx (rd (fz y_copies)) (D.int 5))).bind fun t6 => ((((dIx (rd (fz y_copies)) (D.int 6))).bind fun t5 => Res.ok [t5])).bind fun t7 => Res.ok (t6 :: t7))).bind fun t9 => Res.ok (t8 :: t9))) rfl (x_cons (a := (dIx (rd (fz y_copies)) (D.int 4))) (as := (((dIx (rd (fz y_copies)) (D.int 5))).bind fun t6 => ((((dIx (rd (fz y_copies)) (D.int 6))).bind fun t5 => Res.ok [t5])).bind fun t7 => Res.ok (t6 :: t7))) rfl (x_cons (a := (dIx (rd (fz y_copies)) (D.int 5))) (as := (((dIx (rd (fz y_copies)) (D.int 6))).bind fun t5 => Res.ok [t5])) rfl (x_cons (a := (dIx (rd (fz y_copies)) (D.int 6))) (as := (Res.ok [])) rfl rfl)))))))))))))
def Ψ__law_made (ds : List D) : Res D := match ds with
  | [a0] => M__law_made a0
  | _ => Res.stuck
theorem ps__law_made (ds : List D) : Ψ__law_made ds = Res.stuck ∨ Φ__law_made ds = Ψ__law_made ds := by
  unfold Ψ__law_made
  split
  · exact phi_of rfl (me__law_made _)
  · exact .inl rfl
theorem pe__law_made {y_lists : D} : Ψ__law_made [y_lists] = M__law_made y_lists := rfl
def N__law_kept : List Str := ["_law_channel_here", "_law_lists", "_law_told"]
def g__law_kept : PV.Env → SR := sSeq (sSet 2 (eLst (lCons (e1 (dFld ["Channel"] "top") (eVar 0)) (lCons (e1 (dFld ["Channel"] "bottom") (eVar 0)) (lCons (e1 (dFld ["Channel"] "left") (eVar 0)) (lCons (e1 (dFld ["Channel"] "right") (eVar 0)) (lCons (e1 (dFld ["Channel"] "wide") (eVar 0)) (lCons (e1 (dFld ["Channel"] "bends") (eVar 0)) (lCons (e1 (dFld ["Channel"] "keeps") (eVar 0)) (lNil)))))))))) (sRet (e2 dEq (eVar 2) (eVar 1)))
def Φ__law_kept : List D → Res D := runF N__law_kept.length g__law_kept
def M__law_kept (y_channel_here : D) (y_lists : D) : Res D :=
  ((((((((dFld ["Channel"] "top") (rd y_channel_here))).bind fun t12 => (((((dFld ["Channel"] "bottom") (rd y_channel_here))).bind fun t10 => (((((dFld ["Channel"] "left") (rd y_channel_here))).bind fun t8 => (((((dFld ["Channel"] "right") (rd y_channel_here))).bind fun t6 => (((((dFld ["Channel"] "wide") (rd y_channel_here))).bind fun t4 => (((((dFld ["Channel"] "bends") (rd y_channel_here))).bind fun t2 => (((((dFld ["Channel"] "keeps") (rd y_channel_here))).bind fun t1 => Res.ok [t1])).bind fun t3 => Res.ok (t2 :: t3))).bind fun t5 => Res.ok (t4 :: t5))).bind fun t7 => Res.ok (t6 :: t7))).bind fun t9 => Res.ok (t8 :: t9))).bind fun t11 => Res.ok (t10 :: t11))).bind fun t13 => Res.ok (t12 :: t13))).bind fun t14 => (lstB t14)).bind chk).bind fun y_told =>
  (((dEq (rd y_told) (rd y_lists)).bind chk).bind okR))
theorem me__law_kept (y_channel_here : D) (y_lists : D) : RF (g__law_kept [some y_channel_here, some y_lists, none]) (M__law_kept y_channel_here y_lists) := (f_last (f_assoc (f_set (fx := ((((((dFld ["Channel"] "top") (rd y_channel_here))).bind fun t12 => (((((dFld ["Channel"] "bottom") (rd y_channel_here))).bind fun t10 => (((((dFld ["Channel"] "left") (rd y_channel_here))).bind fun t8 => (((((dFld ["Channel"] "right") (rd y_channel_here))).bind fun t6 => (((((dFld ["Channel"] "wide") (rd y_channel_here))).bind fun t4 => (((((dFld ["Channel"] "bends") (rd y_channel_here))).bind fun t2 => (((((dFld ["Channel"] "keeps") (rd y_channel_here))).bind fun t1 => Res.ok [t1])).bind fun t3 => Res.ok (t2 :: t3))).bind fun t5 => Res.ok (t4 :: t5))).bind fun t7 => Res.ok (t6 :: t7))).bind fun t9 => Res.ok (t8 :: t9))).bind fun t11 => Res.ok (t10 :: t11))).bind fun t13 => Res.ok (t12 :: t13))).bind fun t14 => (lstB t14))) (en := fun y_told => [some y_channel_here, some y_lists, some y_told]) (x_lst (as := ((((dFld ["Channel"] "top") (rd y_channel_here))).bind fun t12 => (((((dFld ["Channel"] "bottom") (rd y_channel_here))).bind fun t10 => (((((dFld ["Channel"] "left") (rd y_channel_here))).bind fun t8 => (((((dFld ["Channel"] "right") (rd y_channel_here))).bind fun t6 => (((((dFld ["Channel"] "wide") (rd y_channel_here))).bind fun t4 => (((((dFld ["Channel"] "bends") (rd y_channel_here))).bind fun t2 => (((((dFld ["Channel"] "keeps") (rd y_channel_here))).bind fun t1 => Res.ok [t1])).bind fun t3 => Res.ok (t2 :: t3))).bind fun t5 => Res.ok (t4 :: t5))).bind fun t7 => Res.ok (t6 :: t7))).bind fun t9 => Res.ok (t8 :: t9))).bind fun t11 => Res.ok (t10 :: t11))).bind fun t13 => Res.ok (t12 :: t13))) (x_cons (a := ((dFld ["Channel"] "top") (rd y_channel_here))) (as := ((((dFld ["Channel"] "bottom") (rd y_channel_here))).bind fun t10 => (((((dFld ["Channel"] "left") (rd y_channel_here))).bind fun t8 => (((((dFld ["Channel"] "right") (rd y_channel_here))).bind fun t6 => (((((dFld ["Channel"] "wide") (rd y_channel_here))).bind fun t4 => (((((dFld ["Channel"] "bends") (rd y_channel_here))).bind fun t2 => (((((dFld ["Channel"] "keeps") (rd y_channel_here))).bind fun t1 => Res.ok [t1])).bind fun t3 => Res.ok (t2 :: t3))).bind fun t5 => Res.ok (t4 :: t5))).bind fun t7 => Res.ok (t6 :: t7))).bind fun t9 => Res.ok (t8 :: t9))).bind fun t11 => Res.ok (t10 :: t11))) rfl (x_cons (a := ((dFld ["Channel"] "bottom") (rd y_channel_here))) (as := ((((dFld ["Channel"] "left") (rd y_channel_here))).bind fun t8 => (((((dFld ["Channel"] "right") (rd y_channel_here))).bind fun t6 => (((((dFld ["Channel"] "wide") (rd y_channel_here))).bind fun t4 => (((((dFld ["Channel"] "bends") (rd y_channel_here))).bind fun t2 => (((((dFld ["Channel"] "keeps") (rd y_channel_here))).bind fun t1 => Res.ok [t1])).bind fun t3 => Res.ok (t2 :: t3))).bind fun t5 => Res.ok (t4 :: t5))).bind fun t7 => Res.ok (t6 :: t7))).bind fun t9 => Res.ok (t8 :: t9))) rfl (x_cons (a := ((dFld ["Channel"] "left") (rd y_channel_here))) (as := ((((dFld ["Channel"] "right") (rd y_channel_here))).bind fun t6 => (((((dFld ["Channel"] "wide") (rd y_channel_here))).bind fun t4 => (((((dFld ["Channel"] "bends") (rd y_channel_here))).bind fun t2 => (((((dFld ["Channel"] "keeps") (rd y_channel_here))).bind fun t1 => Res.ok [t1])).bind fun t3 => Res.ok (t2 :: t3))).bind fun t5 => Res.ok (t4 :: t5))).bind fun t7 => Res.ok (t6 :: t7))) rfl (x_cons (a := ((dFld ["Channel"] "right") (rd y_channel_here))) (as := ((((dFld ["Channel"] "wide") (rd y_channel_here))).bind fun t4 => (((((dFld ["Channel"] "bends") (rd y_channel_here))).bind fun t2 => (((((dFld ["Channel"] "keeps") (rd y_channel_here))).bind fun t1 => Res.ok [t1])).bind fun t3 => Res.ok (t2 :: t3))).bind fun t5 => Res.ok (t4 :: t5))) rfl (x_cons (a := ((dFld ["Channel"] "wide") (rd y_channel_here))) (as := ((((dFld ["Channel"] "bends") (rd y_channel_here))).bind fun t2 => (((((dFld ["Channel"] "keeps") (rd y_channel_here))).bind fun t1 => Res.ok [t1])).bind fun t3 => Res.ok (t2 :: t3))) rfl (x_cons (a := ((dFld ["Channel"] "bends") (rd y_channel_here))) (as := ((((dFld ["Channel"] "keeps") (rd y_channel_here))).bind fun t1 => Res.ok [t1])) rfl (x_cons (a := ((dFld ["Channel"] "keeps") (rd y_channel_here))) (as := (Res.ok [])) rfl rfl)))))))) (fun _ => rfl) fun y_told => (f_ret (fx := (dEq (rd y_told) (rd y_lists))) rfl))))
def Ψ__law_kept (ds : List D) : Res D := match ds with
  | [a0, a1] => M__law_kept a0 a1
  | _ => Res.stuck
theorem ps__law_kept (ds : List D) : Ψ__law_kept ds = Res.stuck ∨ Φ__law_kept ds = Ψ__law_kept ds := by
  unfold Ψ__law_kept
  split
  · exact phi_of rfl (me__law_kept _ _)
  · exact .inl rfl
theorem pe__law_kept {y_channel_here : D} {y_lists : D} : Ψ__law_kept [y_channel_here, y_lists] = M__law_kept y_channel_here y_lists := rfl
def B__law_clear_1 (y_pieces : D) (y_tracks_here : D) (y_one : D) (y_t : D) (t3 : D) : Res (Fo Unit) :=
  ((chk t3).bind fun t4 => (ifR (ifR ((((dIx (rd y_tracks_here) (rd t4))).bind fun t5 => (dGe t5 (D.int 0))).bind asB) (ifR ((((((dIx (rd y_pieces) (rd t4))).bind fun t6 => (dIx t6 (D.int 0)))).bind fun t7 => (dIsN t7)).bind asB) (Res.ok true) ((((((dIx (rd y_pieces) (rd t4))).bind fun t8 => (dIx t8 (D.int 0)))).bind fun t10 => (((((dIx (rd y_pieces) (rd y_one))).bind fun t9 => (dIx t9 (D.int 0)))).bind fun t11 => (dNe t10 t11))).bind asB)) (Res.ok false))
  (ifR ((((((((((dIx (rd y_pieces) (rd t4))).bind fun t12 => (dIx t12 (D.int 1)))).bind fun t15 => ((((((dIx (rd y_pieces) (rd y_one))).bind fun t13 => (dIx t13 (D.int 1)))).bind fun t14 => Res.ok [t14])).bind fun t16 => Res.ok (t15 :: t16))).bind fun t17 => (dMax t17))).bind fun t24 => (((((((((dIx (rd y_pieces) (rd t4))).bind fun t18 => (dIx t18 (D.int 2)))).bind fun t21 => ((((((dIx (rd y_pieces) (rd y_one))).bind fun t19 => (dIx t19 (D.int 2)))).bind fun t20 => Res.ok [t20])).bind fun t22 => Res.ok (t21 :: t22))).bind fun t23 => (dMin t23))).bind fun t25 => (dLe t24 t25))).bind asB)
  (ifR (ifR ((((dIx (rd y_tracks_here) (rd t4))).bind fun t28 => (((((((dIx (rd y_pieces) (rd y_one))).bind fun t26 => (dIx t26 (D.int 3)))).bind fun t27 => (dAdd (rd y_t) t27))).bind fun t29 => (dLt t28 t29))).bind asB) ((((((dIx (rd y_tracks_here) (rd t4))).bind fun t31 => (((((dIx (rd y_pieces) (rd t4))).bind fun t30 => (dIx t30 (D.int 3)))).bind fun t32 => (dAdd t31 t32)))).bind fun t33 => (dLt (rd y_t) t33)).bind asB) (Res.ok false))
  (rtR (D.bl false))
  (Res.ok (Fo.nx ())))
  (Res.ok (Fo.nx ())))
  (Res.ok (Fo.nx ()))))
def M__law_clear (y_pieces : D) (y_tracks_here : D) (y_one : D) (y_t : D) : Res D :=
  (((((((dLen [(rd y_pieces)])).bind fun t1 => Res.ok [t1])).bind fun t2 => (rng1 t2))).bind fun t35 => (afterV (forV (fun d s => B__law_clear_1 y_pieces y_tracks_here y_one y_t d) t35 ()) (fun t34 =>
  (okR (D.bl true))) okR))
def q__law_same_v2_1 : PV.Env → Res D := e1 (dIsi "bool") (eVar 4)
def b__law_same_v2_1 : PV.Env → SR := sIf (bOr (bNot (eT (e1 (dIsi "tuple") (eVar 2)))) (bOr (eB (e2 dNe (eVar 2) (eVar 3))) (eT (eC_ dAny (lCons (eLc (yVal false (eVar 2)) (putb 4) (bYes) (q__law_same_v2_1) [4]) (lNil)))))) (sRet (eC (.bl false))) (sNil)
def N__law_same_v2 : List Str := ["_law_found", "_law_due", "_law_one", "_law_other", "_law_part"]
def g__law_same_v2 : PV.Env → SR := sSeq (sIf (bOr (bNot (eT (e1 (dIsi "list") (eVar 0)))) (eB (e2 dNe (eC_ dLen (lCons (eVar 0) (lNil))) (eC_ dLen (lCons (eVar 1) (lNil)))))) (sRet (eC (.bl false))) (sNil)) (sSeq (sFor (yLift (yL (zip2 true) (lCons (eVar 0) (lCons (eVar 1) (lNil))))) (putT 2 (putC (put1 2) (putC (put1 3) (putN)))) (b__law_same_v2_1) [2, 3]) (sRet (eC (.bl true))))
def Φ__law_same_v2 : List D → Res D := runF N__law_same_v2.length g__law_same_v2
def B__law_same_v2_1 (t4 : D) : Res (Fo Unit) :=
  ((up2 t4).bind fun t5 => (ifR (ifR ((((dIsi "tuple") (rd t5.1)).bind tru).bind fun t6 => Res.ok (!t6)) (Res.ok true) (ifR ((dNe (rd t5.1) (rd t5.2)).bind asB) (Res.ok true) ((((((((itemsOf false (rd t5.1))).bind fun t10 => ((lcV (fun t7 => ((((dIsi "bool") (rd t7))).bind fun y => (chk y).bind fun y => Res.ok (some y))) t10).bind lstB))).bind fun t11 => Res.ok [t11])).bind fun t12 => (dAny t12)).bind tru)))
  (rtR (D.bl false))
  (Res.ok (Fo.nx ()))))
theorem bo_B__law_same_v2_1 (o_0 o_1 : Option D) (t4 : D) : RB (fun s : Unit => [o_0, o_1, none, none, none]) [2 , 3] (tgt (putT 2 (putC (put1 2) (putC (put1 3) putN))) b__law_same_v2_1 t4 [o_0, o_1, none, none, none]) (B__law_same_v2_1 t4) := b_tgt (en := fun t5 => [o_0, o_1, some t5.1, some t5.2, none]) t_2 (up2_nox t4) (fun _ => rfl) fun t5 => (b_last (b_if (tx := (ifR ((((dIsi "tuple") (rd t5.1)).bind tru).bind fun t6 => Res.ok (!t6)) (Res.ok true) (ifR ((dNe (rd t5.1) (rd t5.2)).bind asB) (Res.ok true) ((((((((itemsOf false (rd t5.1))).bind fun t10 => ((lcV (fun t7 => ((((dIsi "bool") (rd t7))).bind fun y => (chk y).bind fun y => Res.ok (some y))) t10).bind lstB))).bind fun t11 => Res.ok [t11])).bind fun t12 => (dAny t12)).bind tru)))) (x_bOr (pa := ((((dIsi "tuple") (rd t5.1)).bind tru).bind fun t6 => Res.ok (!t6))) (qa := (ifR ((dNe (rd t5.1) (rd t5.2)).bind asB) (Res.ok true) ((((((((itemsOf false (rd t5.1))).bind fun t10 => ((lcV (fun t7 => ((((dIsi "bool") (rd t7))).bind fun y => (chk y).bind fun y => Res.ok (some y))) t10).bind lstB))).bind fun t11 => Res.ok [t11])).bind fun t12 => (dAny t12)).bind tru))) rfl (x_bOr (pa := ((dNe (rd t5.1) (rd t5.2)).bind asB)) (qa := ((((((((itemsOf false (rd t5.1))).bind fun t10 => ((lcV (fun t7 => ((((dIsi "bool") (rd t7))).bind fun y => (chk y).bind fun y => Res.ok (some y))) t10).bind lstB))).bind fun t11 => Res.ok [t11])).bind fun t12 => (dAny t12)).bind tru)) rfl (x_T (a := (((((((itemsOf false (rd t5.1))).bind fun t10 => ((lcV (fun t7 => ((((dIsi "bool") (rd t7))).bind fun y => (chk y).bind fun y => Res.ok (some y))) t10).bind lstB))).bind fun t11 => Res.ok [t11])).bind fun t12 => (dAny t12))) (x_eC (as := (((((itemsOf false (rd t5.1))).bind fun t10 => ((lcV (fun t7 => ((((dIsi "bool") (rd t7))).bind fun y => (chk y).bind fun y => Res.ok (some y))) t10).bind lstB))).bind fun t11 => Res.ok [t11])) (x_cons (a := (((itemsOf false (rd t5.1))).bind fun t10 => ((lcV (fun t7 => ((((dIsi "bool") (rd t7))).bind fun y => (chk y).bind fun y => Res.ok (some y))) t10).bind lstB))) (as := (Res.ok [])) (x_lc (ix := (itemsOf false (rd t5.1))) (step := fun t7 => ((((dIsi "bool") (rd t7))).bind fun y => (chk y).bind fun y => Res.ok (some y))) rfl rfl (fun t7 => t_lcb1 (fx := ((dIsi "bool") (rd t7))) rfl)) rfl))))) (b_retC (x := (D.bl false)) rfl rfl) (b_nil (r_nilB rfl))))
def M__law_same_v2 (y_found : D) (y_due : D) : Res D :=
  (ifR (ifR ((((dIsi "list") (rd y_found)).bind tru).bind fun t1 => Res.ok (!t1)) (Res.ok true) ((((dLen [(rd y_found)])).bind fun t2 => (((dLen [(rd y_due)])).bind fun t3 => (dNe t2 t3))).bind asB))
  (okR (D.bl false))
  ((((zip2 true) [(rd y_found), (rd y_due)])).bind fun t14 => (afterV (forV (fun d s => B__law_same_v2_1 d) t14 ()) (fun t13 =>
  (okR (D.bl true))) okR)))
theorem me__law_same_v2 (y_found : D) (y_due : D) : RF (g__law_same_v2 [some y_found, some y_due, none, none, none]) (M__law_same_v2 y_found y_due) := (f_last (f_assoc (f_if (tx := (ifR ((((dIsi "list") (rd y_found)).bind tru).bind fun t1 => Res.ok (!t1)) (Res.ok true) ((((dLen [(rd y_found)])).bind fun t2 => (((dLen [(rd y_due)])).bind fun t3 => (dNe t2 t3))).bind asB))) (x_bOr (pa := ((((dIsi "list") (rd y_found)).bind tru).bind fun t1 => Res.ok (!t1))) (qa := ((((dLen [(rd y_found)])).bind fun t2 => (((dLen [(rd y_due)])).bind fun t3 => (dNe t2 t3))).bind asB)) rfl (x_B (a := (((dLen [(rd y_found)])).bind fun t2 => (((dLen [(rd y_due)])).bind fun t3 => (dNe t2 t3)))) (x_e2 (a := (dLen [(rd y_found)])) (b := (dLen [(rd y_due)])) (x_eC (as := (Res.ok [(rd y_found)])) (x_consP (a := (rd y_found)) (as := []) rfl rfl)) (x_eC (as := (Res.ok [(rd y_due)])) (x_consP (a := (rd y_due)) (as := []) rfl rfl))))) (f_retC (x := (D.bl false)) rfl rfl) (f_nil (f_assoc (f_for (fun s : Unit => [some y_found, some y_due, none, none, none]) (step := (fun d s => B__law_same_v2_1 d)) (s0 := ()) (ix := ((zip2 true) [(rd y_found), (rd y_due)])) (x_yL (as := (Res.ok [(rd y_found), (rd y_due)])) (x_consP (a := (rd y_found)) (as := [(rd y_due)]) rfl (x_consP (a := (rd y_due)) (as := []) rfl rfl))) rfl (fun d s => bo_B__law_same_v2_1 (some y_found) (some y_due) d) fun t13 => (f_retC (x := (D.bl true)) rfl rfl)))))))
def Ψ__law_same_v2 (ds : List D) : Res D := match ds with
  | [a0, a1] => M__law_same_v2 a0 a1
  | _ => Res.stuck
theorem ps__law_same_v2 (ds : List D) : Ψ__law_same_v2 ds = Res.stuck ∨ Φ__law_same_v2 ds = Ψ__law_same_v2 ds := by
  unfold Ψ__law_same_v2
  split
  · exact phi_of rfl (me__law_same_v2 _ _)
  · exact .inl rfl
theorem pe__law_same_v2 {y_found : D} {y_due : D} : Ψ__law_same_v2 [y_found, y_due] = M__law_same_v2 y_found y_due := rfl
def b__law_cut_1 : PV.Env → SR := sIf (bOr (eB (e2 dNe (e2 dIx (e2 dIx (eVar 0) (eVar 4)) (eC (.int 2))) (e2 dIx (eVar 2) (eVar 4)))) (eB (e2 dNe (e2 dIx (e2 dIx (eVar 0) (e2 dAdd (eVar 4) (eC (.int 1)))) (eC (.int 1))) (e2 dIx (eVar 2) (eVar 4))))) (sRet (eC (.bl false))) (sNil)
def q__law_cut_1 : PV.Env → Res D := e2 dEq (e2 dIx (eVar 5) (eC (.int 3))) (eVar 3)
def N__law_cut : List Str := ["_law_own", "_law_stretch_here", "_law_cuts", "_law_width", "_law_k", "_law_piece"]
def g__law_cut : PV.Env → SR := sSeq (sIf (bOr (eB (e2 dNe (eC_ dLen (lCons (eVar 0) (lNil))) (e2 dAdd (eC_ dLen (lCons (eVar 2) (lNil))) (eC (.int 1))))) (bOr (eB (e2 dNe (e2 dIx (e2 dIx (eVar 0) (eC (.int 0))) (eC (.int 1))) (e2 dIx (eVar 1) (eC (.int 0))))) (eB (e2 dNe (e2 dIx (e2 dIx (eVar 0) (e1 dNeg (eC (.int 1)))) (eC (.int 2))) (e2 dIx (eVar 1) (eC (.int 1))))))) (sRet (eC (.bl false))) (sNil)) (sSeq (sFor (yLift (yL rng1 (lCons (eC_ dLen (lCons (eVar 2) (lNil))) (lNil)))) (put1 4) (b__law_cut_1) [4]) (sRet (eC_ dAll (lCons (eLc (yVal false (eVar 0)) (putb 5) (bYes) (q__law_cut_1) [5]) (lNil)))))
def Φ__law_cut : List D → Res D := runF N__law_cut.length g__law_cut
def B__law_cut_1 (y_own : D) (y_cuts : D) (y_width : D) (t12 : D) : Res (Fo Unit) :=
  ((chk t12).bind fun t13 => (ifR (ifR ((((((dIx (rd y_own) (rd t13))).bind fun t14 => (dIx t14 (D.int 2)))).bind fun t15 => (((dIx (rd y_cuts) (rd t13))).bind fun t16 => (dNe t15 t16))).bind asB) (Res.ok true) ((((((((dAdd (rd t13) (D.int 1))).bind fun t17 => (dIx (rd y_own) t17))).bind fun t18 => (dIx t18 (D.int 1)))).bind fun t19 => (((dIx (rd y_cuts) (rd t13))).bind fun t20 => (dNe t19 t20))).bind asB))
  (rtR (D.bl false))
  (Res.ok (Fo.nx ()))))
theorem bo_B__law_cut_1 (y_own : D) (y_cuts : D) (y_width : D) (o_1 : Option D) (t12 : D) : RB (fun s : Unit => [some y_own, o_1, some y_cuts, some y_width, none, none]) [4] (tgt (put1 4) b__law_cut_1 t12 [some y_own, o_1, some y_cuts, some y_width, none, none]) (B__law_cut_1 y_own y_cuts y_width t12) := b_tgt (en := fun t13 => [some y_own, o_1, some y_cuts, some y_width, some t13, none]) t_1 (chk_nox t12) (fun _ => rfl) fun t13 => (b_last (b_if (tx := (ifR ((((((dIx (rd y_own) (rd t13))).bind fun t14 => (dIx t14 (D.int 2)))).bind fun t15 => (((dIx (rd y_cuts) (rd t13))).bind fun t16 => (dNe t15 t16))).bind asB) (Res.ok true) ((((((((dAdd (rd t13) (D.int 1))).bind fun t17 => (dIx (rd y_own) t17))).bind fun t18 => (dIx t18 (D.int 1)))).bind fun t19 => (((dIx (rd y_cuts) (rd t13))).bind fun t20 => (dNe t19 t20))).bind asB))) rfl (b_retC (x := (D.bl false)) rfl rfl) (b_nil (r_nilB rfl))))
def M__law_cut (y_own : D) (y_stretch_here : D) (y_cuts : D) (y_width : D) : Res D :=
  (ifR (ifR ((((dLen [(rd y_own)])).bind fun t2 => (((((dLen [(rd y_cuts)])).bind fun t1 => (dAdd t1 (D.int 1)))).bind fun t3 => (dNe t2 t3))).bind asB) (Res.ok true) (ifR ((((((dIx (rd y_own) (D.int 0))).bind fun t4 => (dIx t4 (D.int 1)))).bind fun t5 => (((dIx (rd y_stretch_here) (D.int 0))).bind fun t6 => (dNe t5 t6))).bind asB) (Res.ok true) ((((((dIx (rd y_own) (D.int (-1)))).bind fun t7 => (dIx t7 (D.int 2)))).bind fun t8 => (((dIx (rd y_stretch_here) (D.int 1))).bind fun t9 => (dNe t8 t9))).bind asB)))
  (okR (D.bl false))
  (((((((dLen [(rd y_cuts)])).bind fun t10 => Res.ok [t10])).bind fun t11 => (rng1 t11))).bind fun t29 => (afterV (forV (fun d s => B__law_cut_1 y_own y_cuts y_width d) t29 ()) (fun t21 =>
  (((((((((itemsOf false (rd y_own))).bind fun t26 => ((lcV (fun t22 => (((((dIx (rd t22) (D.int 3))).bind fun t24 => (dEq t24 (rd y_width)))).bind fun y => (chk y).bind fun y => Res.ok (some y))) t26).bind lstB))).bind fun t27 => Res.ok [t27])).bind fun t28 => (dAll t28)).bind chk).bind okR)) okR)))
theorem me__law_cut (y_own : D) (y_stretch_here : D) (y_cuts : D) (y_width : D) : RF (g__law_cut [some y_own, some y_stretch_here, some y_cuts, some y_width, none, none]) (M__law_cut y_own y_stretch_here y_cuts y_width) := (f_last (f_assoc (f_if (tx := (ifR ((((dLen [(rd y_own)])).bind fun t2 => (((((dLen [(rd y_cuts)])).bind fun t1 => (dAdd t1 (D.int 1)))).bind fun t3 => (dNe t2 t3))).bind asB) (Res.ok true) (ifR ((((((dIx (rd y_own) (D.int 0))).bind fun t4 => (dIx t4 (D.int 1)))).bind fun t5 => (((dIx (rd y_stretch_here) (D.int 0))).bind fun t6 => (dNe t5 t6))).bind asB) (Res.ok true) ((((((dIx (rd y_own) (D.int (-1)))).bind fun t7 => (dIx t7 (D.int 2)))).bind fun t8 => (((dIx (rd y_stretch_here) (D.int 1))).bind fun t9 => (dNe t8 t9))).bind asB)))) (x_bOr (pa := ((((dLen [(rd y_own)])).bind fun t2 => (((((dLen [(rd y_cuts)])).bind fun t1 => (dAdd t1 (D.int 1)))).bind fun t3 => (dNe t2 t3))).bind asB)) (qa := (ifR ((((((dIx (rd y_own) (D.int 0))).bind fun t4 => (dIx t4 (D.int 1)))).bind fun t5 => (((dIx (rd y_stretch_here) (D.int 0))).bind fun t6 => (dNe t5 t6))).bind asB) (Res.ok true) ((((((dIx (rd y_own) (D.int (-1)))).bind fun t7 => (dIx t7 (D.int 2)))).bind fun t8 => (((dIx (rd y_stretch_here) (D.int 1))).bind fun t9 => (dNe t8 t9))).bind asB))) (x_B (a := (((dLen [(rd y_own)])).bind fun t2 => (((((dLen [(rd y_cuts)])).bind fun t1 => (dAdd t1 (D.int 1)))).bind fun t3 => (dNe t2 t3)))) (x_e2 (a := (dLen [(rd y_own)])) (b := (((dLen [(rd y_cuts)])).bind fun t1 => (dAdd t1 (D.int 1)))) (x_eC (as := (Res.ok [(rd y_own)])) (x_consP (a := (rd y_own)) (as := []) rfl rfl)) (x_e2 (a := (dLen [(rd y_cuts)])) (b := (Res.ok (D.int 1))) (x_eC (as := (Res.ok [(rd y_cuts)])) (x_consP (a := (rd y_cuts)) (as := []) rfl rfl)) rfl))) rfl) (f_retC (x := (D.bl false)) rfl rfl) (f_nil (f_assoc (f_for (fun s : Unit => [some y_own, some y_stretch_here, some y_cuts, some y_width, none, none]) (step := (fun d s => B__law_cut_1 y_own y_cuts y_width d)) (s0 := ()) (ix := (((((dLen [(rd y_cuts)])).bind fun t10 => Res.ok [t10])).bind fun t11 => (rng1 t11))) (x_yL (as := (((dLen [(rd y_cuts)])).bind fun t10 => Res.ok [t10])) (x_cons (a := (dLen [(rd y_cuts)])) (as := (Res.ok [])) (x_eC (as := (Res.ok [(rd y_cuts)])) (x_consP (a := (rd y_cuts)) (as := []) rfl rfl)) rfl)) rfl (fun d s => bo_B__law_cut_1 y_own y_cuts y_width (some y_stretch_here) d) fun t21 => (f_ret (fx := (((((((itemsOf false (rd y_own))).bind fun t26 => ((lcV (fun t22 => (((((dIx (rd t22) (D.int 3))).bind fun t24 => (dEq t24 (rd y_width)))).bind fun y => (chk y).bind fun y => Res.ok (some y))) t26).bind lstB))).bind fun t27 => Res.ok [t27])).bind fun t28 => (dAll t28))) (x_eC (as := (((((itemsOf false (rd y_own))).bind fun t26 => ((lcV (fun t22 => (((((dIx (rd t22) (D.int 3))).bind fun t24 => (dEq t24 (rd y_width)))).bind fun y => (chk y).bind fun y => Res.ok (some y))) t26).bind lstB))).bind fun t27 => Res.ok [t27])) (x_cons (a := (((itemsOf false (rd y_own))).bind fun t26 => ((lcV (fun t22 => (((((dIx (rd t22) (D.int 3))).bind fun t24 => (dEq t24 (rd y_width)))).bind fun y => (chk y).bind fun y => Res.ok (some y))) t26).bind lstB))) (as := (Res.ok [])) (x_lc (ix := (itemsOf false (rd y_own))) (step := fun t22 => (((((dIx (rd t22) (D.int 3))).bind fun t24 => (dEq t24 (rd y_width)))).bind fun y => (chk y).bind fun y => Res.ok (some y))) rfl rfl (fun t22 => t_lcb1 (fx := (((dIx (rd t22) (D.int 3))).bind fun t24 => (dEq t24 (rd y_width)))) rfl)) rfl)))))))))
def Ψ__law_cut (ds : List D) : Res D := match ds with
  | [a0, a1, a2, a3] => M__law_cut a0 a1 a2 a3
  | _ => Res.stuck
theorem ps__law_cut (ds : List D) : Ψ__law_cut ds = Res.stuck ∨ Φ__law_cut ds = Ψ__law_cut ds := by
  unfold Ψ__law_cut
  split
  · exact phi_of rfl (me__law_cut _ _ _ _)
  · exact .inl rfl
theorem pe__law_cut {y_own : D} {y_stretch_here : D} {y_cuts : D} {y_width : D} : Ψ__law_cut [y_own, y_stretch_here, y_cuts, y_width] = M__law_cut y_own y_stretch_here y_cuts y_width := rfl
def q__law_stands_1 : PV.Env → Res D := eTup (lCons (eC .non) (lCons (eVar 11) (lCons (eVar 12) (lCons (eVar 13) (lNil)))))
def q__law_stands_2 : PV.Env → Res D := e2 dIx (eVar 14) (eC (.int 0))
def q__law_stands_3 : PV.Env → Res D := eVar 14
def t__law_stands_1 : PV.Env → Res Bool := eB (e2 dEq (e2 dIx (eVar 14) (eC (.int 0))) (eVar 6))
def q__law_stands_4 : PV.Env → Res D := eVar 15
def t__law_stands_2 : PV.Env → Res Bool := bAnd (eT (eVar 2)) (eB (e2 dEq (eVar 16) (eVar 6)))
def q__law_stands_5 : PV.Env → Res D := eVar 13
def t__law_stands_3 : PV.Env → Res Bool := eB (e2 dEq (eVar 16) (eVar 6))
def a__law_stands_1 : PV.Env → SR := sSet 7 (eCall (lenIs 5 Ψ__law_stretch) [] (lCons (e2 dIx (eVar 0) (eC (.int 0))) (lCons (e2 dIx (eVar 0) (eC (.int 1))) (lCons (e2 dIx (eVar 0) (eC (.int 2))) (lCons (e2 dIx (eVar 0) (eC (.int 3))) (lCons (eVar 6) (lNil)))))))
def a__law_stands_2 : PV.Env → SR := sSet 8 (eLc (yVal false (eVar 1)) (putb 14) (t__law_stands_1) (q__law_stands_3) [14])
def a__law_stands_3 : PV.Env → SR := sSet 9 (eLc (yVal false (e2 dIx (eVar 0) (eC (.int 5)))) (putT 2 (putD (putb 15) (putD (putb 16) (putN)))) (t__law_stands_2) (q__law_stands_4) [15, 16])
def a__law_stands_4 : PV.Env → SR := sSet 10 (eC_ dMax (lCons (e2 dAdd (eLst (lCons (eC (.int 1)) (lNil))) (eLc (yVal false (e2 dIx (eVar 0) (eC (.int 4)))) (putT 2 (putD (putb 16) (putD (putb 13) (putN)))) (t__law_stands_3) (q__law_stands_5) [16, 13])) (lNil)))
def a__law_stands_5 : PV.Env → SR := sIf (eB (e2 dEq (e2 dIx (eVar 7) (eC (.int 0))) (e2 dIx (eVar 7) (eC (.int 1))))) (sIf (eB (e2 dNe (eVar 8) (eLst (lNil)))) (sRet (eC (.bl false))) (sNil)) (sFrz 9 (sFrz 8 (sIf (bNot (eT (eCall (lenIs 4 Ψ__law_cut) [] (lCons (eVar 8) (lCons (eVar 7) (lCons (eVar 9) (lCons (eVar 10) (lNil)))))))) (sRet (eC (.bl false))) (sNil))))
def a__law_stands_6 : PV.Env → SR := sSet 5 (e2 dAdd (eVar 5) (eC_ dLen (lCons (eVar 8) (lNil))))
def b__law_stands_1 : PV.Env → SR := sSeq (a__law_stands_1) (sSeq (a__law_stands_2) (sSeq (a__law_stands_3) (sSeq (a__law_stands_4) (sSeq (a__law_stands_5) (a__law_stands_6)))))
def a__law_stands_7 : PV.Env → SR := sSet 3 (eC_ dLen (lCons (e2 dIx (eVar 0) (eC (.int 6))) (lNil)))
def a__law_stands_8 : PV.Env → SR := sIf (bNot (eT (eCall (lenIs 2 Ψ__law_same_v2) [] (lCons (eSl (eVar 1) (oNo) (oSome (eVar 3))) (lCons (eLc (yVal false (e2 dIx (eVar 0) (eC (.int 6)))) (putT 3 (putD (putb 11) (putD (putb 12) (putD (putb 13) (putN))))) (bYes) (q__law_stands_1) [11, 12, 13]) (lNil)))))) (sRet (eC (.bl false))) (sNil)
def a__law_stands_9 : PV.Env → SR := sSet 4 (eLc (yVal false (eSl (eVar 1) (oSome (eVar 3)) (oNo))) (putb 14) (bYes) (q__law_stands_2) [14])
def a__law_stands_10 : PV.Env → SR := sIf (eB (e2 dNe (eVar 4) (eC_ dSort (lCons (eVar 4) (lNil))))) (sRet (eC (.bl false))) (sNil)
def a__law_stands_11 : PV.Env → SR := sSet 5 (eC (.int 0))
def a__law_stands_12 : PV.Env → SR := sFor (yLift (yVal true (e1 dSortMinus (e2 dAdd (e2 dAdd (e2 dAdd (e2 dIx (eVar 0) (eC (.int 0))) (e2 dIx (eVar 0) (eC (.int 1)))) (e2 dIx (eVar 0) (eC (.int 2)))) (e2 dIx (eVar 0) (eC (.int 3))))))) (put1 6) (b__law_stands_1) [6, 7, 8, 9, 10]
def a__law_stands_13 : PV.Env → SR := sRet (e2 dEq (eVar 5) (e2 dSub (eC_ dLen (lCons (eVar 1) (lNil))) (eVar 3)))
def N__law_stands : List Str := ["_law_lists", "_law_pieces", "_law_bent", "_law_many_here", "_law_names", "_law_told", "_law_word", "_law_stretch_here", "_law_own", "_law_cuts", "_law_width", "_law_l", "_law_r", "_law_k", "_law_piece", "_law_c", "_law_other"]
def g__law_stands : PV.Env → SR := sSeq (a__law_stands_7) (sSeq (a__law_stands_8) (sSeq (a__law_stands_9) (sSeq (a__law_stands_10) (sSeq (a__law_stands_11) (sSeq (a__law_stands_12) (a__law_stands_13))))))
def Φ__law_stands : List D → Res D := runF N__law_stands.length g__law_stands
def J__law_stands_1 (y_lists : D) (y_pieces : D) (y_bent : D) (y_many_here : D) (y_told : D) (y_own : D) : Res (Fo D) :=
  (((((dLen [(rd y_own)])).bind fun t55 => (dAdd (rd y_told) t55)).bind chk).bind fun y_told =>
  (Res.ok (Fo.nx y_told)))
theorem jo_J__law_stands_1 (y_lists : D) (y_pieces : D) (y_bent : D) (y_many_here : D) (y_told : D) (y_own : D) (o_4 o_6 o_7 o_9 o_10 : Option D) : RB (fun s : D => [some y_lists, some y_pieces, some y_bent, some y_many_here, o_4, some s, none, none, none, none, none, none, none, none, none, none, none]) [6 , 7 , 8 , 9 , 10] ((sSeq a__law_stands_6 sNil) [some y_lists, some y_pieces, some y_bent, some y_many_here, o_4, some y_told, o_6, o_7, some y_own, o_9, o_10, none, none, none, none, none, none]) (J__law_stands_1 y_lists y_pieces y_bent y_many_here y_told y_own) := (b_set (fx := (((dLen [(rd y_own)])).bind fun t55 => (dAdd (rd y_told) t55))) (en := fun y_told => [some y_lists, some y_pieces, some y_bent, some y_many_here, o_4, some y_told, o_6, o_7, some y_own, o_9, o_10, none, none, none, none, none, none]) (x_e2 (a := (Res.ok (rd y_told))) (b := (dLen [(rd y_own)])) rfl (x_eC (as := (Res.ok [(rd y_own)])) (x_consP (a := (rd y_own)) (as := []) rfl rfl))) (fun _ => rfl) fun y_told => (r_nilB rfl))
def B__law_stands_1 (y_lists : D) (y_pieces : D) (y_bent : D) (y_many_here : D) (t28 : D) (y_told : D) : Res (Fo D) :=
  ((chk t28).bind fun t29 => (((((((dIx (rd y_lists) (D.int 0))).bind fun t35 => ((((dIx (rd y_lists) (D.int 1))).bind fun t33 => ((((dIx (rd y_lists) (D.int 2))).bind fun t31 => ((((dIx (rd y_lists) (D.int 3))).bind fun t30 => Res.ok [t30, (rd t29)])).bind fun t32 => Res.ok (t31 :: t32))).bind fun t34 => Res.ok (t33 :: t34))).bind fun t36 => Res.ok (t35 :: t36))).bind fun t37 => (callD (lenIs 5 Ψ__law_stretch) (t37 ++ []))).bind chk).bind fun y_stretch_here =>
  (((((itemsOf false (rd y_pieces))).bind fun t41 => ((lcV (fun t38 => (ifR ((((dIx (rd t38) (D.int 0))).bind fun t40 => (dEq t40 (rd t29))).bind asB) ((chk (rd t38)).bind fun y => Res.ok (some y)) (Res.ok none))) t41).bind lstB)).bind chk).bind fun y_own =>
  (((((((dIx (rd y_lists) (D.int 5))).bind fun t42 => (itemsOf false t42))).bind fun t45 => ((lcV (fun t43 => ((ub2 t43).bind fun t44 => (ifR (ifR (tru (rd y_bent)) ((dEq (rd t44.2) (rd t29)).bind asB) (Res.ok false)) ((chk (rd t44.1)).bind fun y => Res.ok (some y)) (Res.ok none)))) t45).bind lstB)).bind chk).bind fun y_cuts =>
  (((((((((((((dIx (rd y_lists) (D.int 4))).bind fun t46 => (itemsOf false t46))).bind fun t49 => ((lcV (fun t47 => ((ub2 t47).bind fun t48 => (ifR ((dEq (rd t48.1) (rd t29)).bind asB) ((chk (rd t48.2)).bind fun y => Res.ok (some y)) (Res.ok none)))) t49).bind lstB))).bind fun t50 => (dAdd (D.lst Tag.own [(D.int 1)]) t50))).bind fun t51 => Res.ok [t51])).bind fun t52 => (dMax t52)).bind chk).bind fun y_width =>
  (ifR ((((dIx (rd y_stretch_here) (D.int 0))).bind fun t53 => (((dIx (rd y_stretch_here) (D.int 1))).bind fun t54 => (dEq t53 t54))).bind asB)
  (ifR ((dNe (rd y_own) (D.lst Tag.own [])).bind asB)
  (rtR (D.bl false))
  (J__law_stands_1 y_lists y_pieces y_bent y_many_here y_told y_own))
  (ifR (((callD (lenIs 4 Ψ__law_cut) [(rd (fz y_own)), (rd y_stretch_here), (rd (fz y_cuts)), (rd y_width)]).bind tru).bind fun t56 => Res.ok (!t56))
  (rtR (D.bl false))
  (J__law_stands_1 y_lists y_pieces y_bent y_many_here y_told (fz y_own)))))))))
theorem bo_B__law_stands_1 (y_lists : D) (y_pieces : D) (y_bent : D) (y_many_here : D) (o_4 : Option D) (t28 : D) (y_told : D) : RB (fun s : D => [some y_lists, some y_pieces, some y_bent, some y_many_here, o_4, some s, none, none, none, none, none, none, none, none, none, none, none]) [6 , 7 , 8 , 9 , 10] (tgt (put1 6) b__law_stands_1 t28 [some y_lists, some y_pieces, some y_bent, some y_many_here, o_4, some y_told, none, none, none, none, none, none, none, none, none, none, none]) (B__law_stands_1 y_lists y_pieces y_bent y_many_here t28 y_told) := b_tgt (en := fun t29 => [some y_lists, some y_pieces, some y_bent, some y_many_here, o_4, some y_told, some t29, none, none, none, none, none, none, none, none, none, none]) t_1 (chk_nox t28) (fun _ => rfl) fun t29 => (b_last (b_assoc (b_set (fx := (((((dIx (rd y_lists) (D.int 0))).bind fun t35 => ((((dIx (rd y_lists) (D.int 1))).bind fun t33 => ((((dIx (rd y_lists) (D.int 2))).bind fun t31 => ((((dIx (rd y_lists) (D.int 3))).bind fun t30 => Res.ok [t30, (rd t29)])).bind fun t32 => Res.ok (t31 :: t32))).bind fun t34 => Res.ok (t33 :: t34))).bind fun t36 => Res.ok (t35 :: t36))).bind fun t37 => (callD (lenIs 5 Ψ__law_stretch) (t37 ++ [])))) (en := fun y_stretch_here => [some y_lists, some y_pieces, some y_bent, some y_many_here, o_4, some y_told, some t29, some y_stretch_here, none, none, none, none, none, none, none, none, none]) (x_call (as := (((dIx (rd y_lists) (D.int 0))).bind fun t35 => ((((dIx (rd y_lists) (D.int 1))).bind fun t33 => ((((dIx (rd y_lists) (D.int 2))).bind fun t31 => ((((dIx (rd y_lists) (D.int 3))).bind fun t30 => Res.ok [t30, (rd t29)])).bind fun t32 => Res.ok (t31 :: t32))).bind fun t34 => Res.ok (t33 :: t34))).bind fun t36 => Res.ok (t35 :: t36))) (x_cons (a := (dIx (rd y_lists) (D.int 0))) (as := (((dIx (rd y_lists) (D.int 1))).bind fun t33 => ((((dIx (rd y_lists) (D.int 2))).bind fun t31 => ((((dIx (rd y_lists) (D.int 3))).bind fun t30 => Res.ok [t30, (rd t29)])).bind fun t32 => Res.ok (t31 :: t32))).bind fun t34 => Res.ok (t33 :: t34))) rfl (x_cons (a := (dIx (rd y_lists) (D.int 1))) (as := (((dIx (rd y_lists) (D.int 2))).bind fun t31 => ((((dIx (rd y_lists) (D.int 3))).bind fun t30 => Res.ok [t30, (rd t29)])).bind fun t32 => Res.ok (t31 :: t32))) rfl (x_cons (a := (dIx (rd y_lists) (D.int 2))) (as := (((dIx (rd y_lists) (D.int 3))).bind fun t30 => Res.ok [t30, (rd t29)])) rfl (x_cons (a := (dIx (rd y_lists) (D.int 3))) (as := (Res.ok [(rd t29)])) rfl (x_consP (a := (rd t29)) (as := []) rfl rfl)))))) (fun _ => rfl) fun y_stretch_here => (b_assoc (b_set (fx := (((itemsOf false (rd y_pieces))).bind fun t41 => ((lcV (fun t38 => (ifR ((((dIx (rd t38) (D.int 0))).bind fun t40 => (dEq t40 (rd t29))).bind asB) ((chk (rd t38)).bind fun y => Res.ok (some y)) (Res.ok none))) t41).bind lstB))) (en := fun y_own => [some y_lists, some y_pieces, some y_bent, some y_many_here, o_4, some y_told, some t29, some y_stretch_here, some y_own, none, none, none, none, none, none, none, none]) (x_lc (ix := (itemsOf false (rd y_pieces))) (step := fun t38 => (ifR ((((dIx (rd t38) (D.int 0))).bind fun t40 => (dEq t40 (rd t29))).bind asB) ((chk (rd t38)).bind fun y => Res.ok (some y)) (Res.ok none))) rfl rfl (fun t38 => t_lcb (tt := ((((dIx (rd t38) (D.int 0))).bind fun t40 => (dEq t40 (rd t29))).bind asB)) (fx := (Res.ok (rd t38))) rfl rfl)) (fun _ => rfl) fun y_own => (b_assoc (b_set (fx := (((((dIx (rd y_lists) (D.int 5))).bind fun t42 => (itemsOf false t42))).bind fun t45 => ((lcV (fun t43 => ((ub2 t43).bind fun t44 => (ifR (ifR (tru (rd y_bent)) ((dEq (rd t44.2) (rd t29)).bind asB) (Res.ok false)) ((chk (rd t44.1)).bind fun y => Res.ok (some y)) (Res.ok none)))) t45).bind lstB))) (en := fun y_cuts => [some y_lists, some y_pieces, some y_bent, some y_many_here, o_4, some y_told, some t29, some y_stretch_here, some y_own, some y_cuts, none, none, none, none, none, none, none]) (x_lc (ix := (((dIx (rd y_lists) (D.int 5))).bind fun t42 => (itemsOf false t42))) (step := fun t43 => ((ub2 t43).bind fun t44 => (ifR (ifR (tru (rd y_bent)) ((dEq (rd t44.2) (rd t29)).bind asB) (Res.ok false)) ((chk (rd t44.1)).bind fun y => Res.ok (some y)) (Res.ok none)))) rfl rfl (fun t43 => t_lc (tt := fun t44 => (ifR (tru (rd y_bent)) ((dEq (rd t44.2) (rd t29)).bind asB) (Res.ok false))) (fx := fun t44 => (Res.ok (rd t44.1))) t_2b (fun t44 => rfl) (fun t44 => rfl))) (fun _ => rfl) fun y_cuts => (b_assoc (b_set (fx := (((((((((((dIx (rd y_lists) (D.int 4))).bind fun t46 => (itemsOf false t46))).bind fun t49 => ((lcV (fun t47 => ((ub2 t47).bind fun t48 => (ifR ((dEq (rd t48.1) (rd t29)).bind asB) ((chk (rd t48.2)).bind fun y => Res.ok (some y)) (Res.ok none)))) t49).bind lstB))).bind fun t50 => (dAdd (D.lst Tag.own [(D.int 1)]) t50))).bind fun t51 => Res.ok [t51])).bind fun t52 => (dMax t52))) (en := fun y_width => [some y_lists, some y_pieces, some y_bent, some y_many_here, o_4, some y_told, some t29, some y_stretch_here, some y_own, some y_cuts, some y_width, none, none, none, none, none, none]) (x_eC (as := (((((((((dIx (rd y_lists) (D.int 4))).bind fun t46 => (itemsOf false t46))).bind fun t49 => ((lcV (fun t47 => ((ub2 t47).bind fun t48 => (ifR ((dEq (rd t48.1) (rd t29)).bind asB) ((chk (rd t48.2)).bind fun y => Res.ok (some y)) (Res.ok none)))) t49).bind lstB))).bind fun t50 => (dAdd (D.lst Tag.own [(D.int 1)]) t50))).bind fun t51 => Res.ok [t51])) (x_cons (a := (((((((dIx (rd y_lists) (D.int 4))).bind fun t46 => (itemsOf false t46))).bind fun t49 => ((lcV (fun t47 => ((ub2 t47).bind fun t48 => (ifR ((dEq (rd t48.1) (rd t29)).bind asB) ((chk (rd t48.2)).bind fun y => Res.ok (some y)) (Res.ok none)))) t49).bind lstB))).bind fun t50 => (dAdd (D.lst Tag.own [(D.int 1)]) t50))) (as := (Res.ok [])) (x_e2 (a := (Res.ok (D.lst Tag.own [(D.int 1)]))) (b := (((((dIx (rd y_lists) (D.int 4))).bind fun t46 => (itemsOf false t46))).bind fun t49 => ((lcV (fun t47 => ((ub2 t47).bind fun t48 => (ifR ((dEq (rd t48.1) (rd t29)).bind asB) ((chk (rd t48.2)).bind fun y => Res.ok (some y)) (Res.ok none)))) t49).bind lstB))) (x_lstP (ds := [(D.int 1)]) (x_consP (a := (D.int 1)) (as := []) rfl rfl) 1 rfl rfl) (x_lc (ix := (((dIx (rd y_lists) (D.int 4))).bind fun t46 => (itemsOf false t46))) (step := fun t47 => ((ub2 t47).bind fun t48 => (ifR ((dEq (rd t48.1) (rd t29)).bind asB) ((chk (rd t48.2)).bind fun y => Res.ok (some y)) (Res.ok none)))) rfl rfl (fun t47 => t_lc (tt := fun t48 => ((dEq (rd t48.1) (rd t29)).bind asB)) (fx := fun t48 => (Res.ok (rd t48.2))) t_2b (fun t48 => rfl) (fun t48 => rfl)))) rfl)) (fun _ => rfl) fun y_width => (b_assoc (b_if (tx := ((((dIx (rd y_stretch_here) (D.int 0))).bind fun t53 => (((dIx (rd y_stretch_here) (D.int 1))).bind fun t54 => (dEq t53 t54))).bind asB)) rfl (b_if (tx := ((dNe (rd y_own) (D.lst Tag.own [])).bind asB)) (x_B (a := (dNe (rd y_own) (D.lst Tag.own []))) (x_e2 (a := (Res.ok (rd y_own))) (b := (Res.ok (D.lst Tag.own []))) rfl (x_lstP (ds := []) rfl 0 rfl rfl))) (b_retC (x := (D.bl false)) rfl rfl) (b_nil (jo_J__law_stands_1 y_lists y_pieces y_bent y_many_here y_told y_own o_4 (some t29) (some y_stretch_here) (some y_cuts) (some y_width)))) (b_frz (en := [some y_lists, some y_pieces, some y_bent, some y_many_here, o_4, some y_told, some t29, some y_stretch_here, some y_own, some (fz y_cuts), some y_width, none, none, none, none, none, none]) rfl (b_frz (en := [some y_lists, some y_pieces, some y_bent, some y_many_here, o_4, some y_told, some t29, some y_stretch_here, some (fz y_own), some (fz y_cuts), some y_width, none, none, none, none, none, none]) rfl (b_if (tx := (((callD (lenIs 4 Ψ__law_cut) [(rd (fz y_own)), (rd y_stretch_here), (rd (fz y_cuts)), (rd y_width)]).bind tru).bind fun t56 => Res.ok (!t56))) (x_bNot (pa := ((callD (lenIs 4 Ψ__law_cut) [(rd (fz y_own)), (rd y_stretch_here), (rd (fz y_cuts)), (rd y_width)]).bind tru)) (x_T (a := (callD (lenIs 4 Ψ__law_cut) [(rd (fz y_own)), (rd y_stretch_here), (rd (fz y_cuts)), (rd y_width)])) (x_callP (as := [(rd (fz y_own)), (rd y_stretch_here), (rd (fz y_cuts)), (rd y_width)]) (x_consP (a := (rd (fz y_own))) (as := [(rd y_stretch_here), (rd (fz y_cuts)), (rd y_width)]) rfl (x_consP (a := (rd y_stretch_here)) (as := [(rd (fz y_cuts)), (rd y_width)]) rfl (x_consP (a := (rd (fz y_cuts))) (as := [(rd y_width)]) rfl (x_consP (a := (rd y_width)) (as := []) rfl rfl)))) rfl))) (b_retC (x := (D.bl false)) rfl rfl) (b_nil (jo_J__law_stands_1 y_lists y_pieces y_bent y_many_here y_told (fz y_own) o_4 (some t29) (some y_stretch_here) (some (fz y_cuts)) (some y_width)))))))))))))))))
def M__law_stands (y_lists : D) (y_pieces : D) (y_bent : D) : Res D :=
  (((((((dIx (rd y_lists) (D.int 6))).bind fun t1 => Res.ok [t1])).bind fun t2 => (dLen t2)).bind chk).bind fun y_many_here =>
  (ifR (((((((((oInt (rd y_many_here))).bind fun t3 => (dSl (rd y_pieces) none t3))).bind fun t9 => ((((((((dIx (rd y_lists) (D.int 6))).bind fun t4 => (itemsOf false t4))).bind fun t7 => ((lcV (fun t5 => ((ub3 t5).bind fun t6 => ((chk (D.tup [D.non, (rd t6.1), (rd t6.2.1), (rd t6.2.2)])).bind fun y => Res.ok (some y)))) t7).bind lstB))).bind fun t8 => Res.ok [t8])).bind fun t10 => Res.ok (t9 :: t10))).bind fun t11 => (callD (lenIs 2 Ψ__law_same_v2) (t11 ++ []))).bind tru).bind fun t12 => Res.ok (!t12))
  (okR (D.bl false))
  (((((((((oInt (rd y_many_here))).bind fun t13 => (dSl (rd y_pieces) t13 none))).bind fun t14 => (itemsOf false t14))).bind fun t18 => ((lcV (fun t15 => (((dIx (rd t15) (D.int 0))).bind fun y => (chk y).bind fun y => Res.ok (some y))) t18).bind lstB)).bind chk).bind fun y_names =>
  (ifR ((((dSort [(rd y_names)])).bind fun t19 => (dNe (rd y_names) t19)).bind asB)
  (okR (D.bl false))
  (((((((((((((dIx (rd y_lists) (D.int 0))).bind fun t20 => (((dIx (rd y_lists) (D.int 1))).bind fun t21 => (dAdd t20 t21)))).bind fun t22 => (((dIx (rd y_lists) (D.int 2))).bind fun t23 => (dAdd t22 t23)))).bind fun t24 => (((dIx (rd y_lists) (D.int 3))).bind fun t25 => (dAdd t24 t25)))).bind fun t26 => (dSortMinus t26))).bind fun t27 => (itemsOf true t27))).bind fun t60 => (afterV (forV (fun d s => B__law_stands_1 y_lists y_pieces y_bent y_many_here d s) t60 (D.int 0)) (fun t57 =>
  (((((((dLen [(rd y_pieces)])).bind fun t58 => (dSub t58 (rd y_many_here)))).bind fun t59 => (dEq (rd t57) t59)).bind chk).bind okR)) okR))))))
theorem me__law_stands (y_lists : D) (y_pieces : D) (y_bent : D) : RF (g__law_stands [some y_lists, some y_pieces, some y_bent, none, none, none, none, none, none, none, none, none, none, none, none, none, none]) (M__law_stands y_lists y_pieces y_bent) := (f_last (f_assoc (f_set (fx := (((((dIx (rd y_lists) (D.int 6))).bind fun t1 => Res.ok [t1])).bind fun t2 => (dLen t2))) (en := fun y_many_here => [some y_lists, some y_pieces, some y_bent, some y_many_here, none, none, none, none, none, none, none, none, none, none, none, none, none]) (x_eC (as := (((dIx (rd y_lists) (D.int 6))).bind fun t1 => Res.ok [t1])) (x_cons (a := (dIx (rd y_lists) (D.int 6))) (as := (Res.ok [])) rfl rfl)) (fun _ => rfl) fun y_many_here => (f_assoc (f_if (tx := (((((((((oInt (rd y_many_here))).bind fun t3 => (dSl (rd y_pieces) none t3))).bind fun t9 => ((((((((dIx (rd y_lists) (D.int 6))).bind fun t4 => (itemsOf false t4))).bind fun t7 => ((lcV (fun t5 => ((ub3 t5).bind fun t6 => ((chk (D.tup [D.non, (rd t6.1), (rd t6.2.1), (rd t6.2.2)])).bind fun y => Res.ok (some y)))) t7).bind lstB))).bind fun t8 => Res.ok [t8])).bind fun t10 => Res.ok (t9 :: t10))).bind fun t11 => (callD (lenIs 2 Ψ__law_same_v2) (t11 ++ []))).bind tru).bind fun t12 => Res.ok (!t12))) (x_bNot (pa := ((((((((oInt (rd y_many_here))).bind fun t3 => (dSl (rd y_pieces) none t3))).bind fun t9 => ((((((((dIx (rd y_lists) (D.int 6))).bind fun t4 => (itemsOf false t4))).bind fun t7 => ((lcV (fun t5 => ((ub3 t5).bind fun t6 => ((chk (D.tup [D.non, (rd t6.1), (rd t6.2.1), (rd t6.2.2)])).bind fun y => Res.ok (some y)))) t7).bind lstB))).bind fun t8 => Res.ok [t8])).bind fun t10 => Res.ok (t9 :: t10))).bind fun t11 => (callD (lenIs 2 Ψ__law_same_v2) (t11 ++ []))).bind tru)) (x_T (a := (((((((oInt (rd y_many_here))).bind fun t3 => (dSl (rd y_pieces) none t3))).bind fun t9 => ((((((((dIx (rd y_lists) (D.int 6))).bind fun t4 => (itemsOf false t4))).bind fun t7 => ((lcV (fun t5 => ((ub3 t5).bind fun t6 => ((chk (D.tup [D.non, (rd t6.1), (rd t6.2.1), (rd t6.2.2)])).bind fun y => Res.ok (some y)))) t7).bind lstB))).bind fun t8 => Res.ok [t8])).bind fun t10 => Res.ok (t9 :: t10))).bind fun t11 => (callD (lenIs 2 Ψ__law_same_v2) (t11 ++ [])))) (x_call (as := (((((oInt (rd y_many_here))).bind fun t3 => (dSl (rd y_pieces) none t3))).bind fun t9 => ((((((((dIx (rd y_lists) (D.int 6))).bind fun t4 => (itemsOf false t4))).bind fun t7 => ((lcV (fun t5 => ((ub3 t5).bind fun t6 => ((chk (D.tup [D.non, (rd t6.1), (rd t6.2.1), (rd t6.2.2)])).bind fun y => Res.ok (some y)))) t7).bind lstB))).bind fun t8 => Res.ok [t8])).bind fun t10 => Res.ok (t9 :: t10))) (x_cons (a := (((oInt (rd y_many_here))).bind fun t3 => (dSl (rd y_pieces) none t3))) (as := (((((((dIx (rd y_lists) (D.int 6))).bind fun t4 => (itemsOf false t4))).bind fun t7 => ((lcV (fun t5 => ((ub3 t5).bind fun t6 => ((chk (D.tup [D.non, (rd t6.1), (rd t6.2.1), (rd t6.2.2)])).bind fun y => Res.ok (some y)))) t7).bind lstB))).bind fun t8 => Res.ok [t8])) rfl (x_cons (a := (((((dIx (rd y_lists) (D.int 6))).bind fun t4 => (itemsOf false t4))).bind fun t7 => ((lcV (fun t5 => ((ub3 t5).bind fun t6 => ((chk (D.tup [D.non, (rd t6.1), (rd t6.2.1), (rd t6.2.2)])).bind fun y => Res.ok (some y)))) t7).bind lstB))) (as := (Res.ok [])) (x_lc (ix := (((dIx (rd y_lists) (D.int 6))).bind fun t4 => (itemsOf false t4))) (step := fun t5 => ((ub3 t5).bind fun t6 => ((chk (D.tup [D.non, (rd t6.1), (rd t6.2.1), (rd t6.2.2)])).bind fun y => Res.ok (some y)))) rfl rfl (fun t5 => t_lc1 (fx := fun t6 => (Res.ok (D.tup [D.non, (rd t6.1), (rd t6.2.1), (rd t6.2.2)]))) t_3b (fun t6 => (x_tupP (ds := [D.non, (rd t6.1), (rd t6.2.1), (rd t6.2.2)]) (x_consP (a := D.non) (as := [(rd t6.1), (rd t6.2.1), (rd t6.2.2)]) rfl (x_consP (a := (rd t6.1)) (as := [(rd t6.2.1), (rd t6.2.2)]) rfl (x_consP (a := (rd t6.2.1)) (as := [(rd t6.2.2)]) rfl (x_consP (a := (rd t6.2.2)) (as := []) rfl rfl)))) 4 rfl rfl)))) rfl))))) (f_retC (x := (D.bl false)) rfl rfl) (f_nil (f_assoc (f_set (fx := (((((((oInt (rd y_many_here))).bind fun t13 => (dSl (rd y_pieces) t13 none))).bind fun t14 => (itemsOf false t14))).bind fun t18 => ((lcV (fun t15 => (((dIx (rd t15) (D.int 0))).bind fun y => (chk y).bind fun y => Res.ok (some y))) t18).bind lstB))) (en := fun y_names => [some y_lists, some y_pieces, some y_bent, some y_many_here, some y_names, none, none, none, none, none, none, none, none, none, none, none, none]) (x_lc (ix := (((((oInt (rd y_many_here))).bind fun t13 => (dSl (rd y_pieces) t13 none))).bind fun t14 => (itemsOf false t14))) (step := fun t15 => (((dIx (rd t15) (D.int 0))).bind fun y => (chk y).bind fun y => Res.ok (some y))) rfl rfl (fun t15 => t_lcb1 (fx := (dIx (rd t15) (D.int 0))) rfl)) (fun _ => rfl) fun y_names => (f_assoc (f_if (tx := ((((dSort [(rd y_names)])).bind fun t19 => (dNe (rd y_names) t19)).bind asB)) (x_B (a := (((dSort [(rd y_names)])).bind fun t19 => (dNe (rd y_names) t19))) (x_e2 (a := (Res.ok (rd y_names))) (b := (dSort [(rd y_names)])) rfl (x_eC (as := (Res.ok [(rd y_names)])) (x_consP (a := (rd y_names)) (as := []) rfl rfl)))) (f_retC (x := (D.bl false)) rfl rfl) (f_nil (f_assoc (f_setV (x := (D.int 0)) (en := [some y_lists, some y_pieces, some y_bent, some y_many_here, some y_names, some (D.int 0), none, none, none, none, none, none, none, none, none, none, none]) rfl rfl rfl (f_assoc (f_for (fun s : D => [some y_lists, some y_pieces, some y_bent, some y_many_here, some y_names, some s, none, none, none, none, none, none, none, none, none, none, none]) (step := (fun d s => B__law_stands_1 y_lists y_pieces y_bent y_many_here d s)) (s0 := (D.int 0)) (ix := (((((((((((dIx (rd y_lists) (D.int 0))).bind fun t20 => (((dIx (rd y_lists) (D.int 1))).bind fun t21 => (dAdd t20 t21)))).bind fun t22 => (((dIx (rd y_lists) (D.int 2))).bind fun t23 => (dAdd t22 t23)))).bind fun t24 => (((dIx (rd y_lists) (D.int 3))).bind fun t25 => (dAdd t24 t25)))).bind fun t26 => (dSortMinus t26))).bind fun t27 => (itemsOf true t27))) rfl rfl (fun d s => bo_B__law_stands_1 y_lists y_pieces y_bent y_many_here (some y_names) d s) fun t57 => (f_ret (fx := (((((dLen [(rd y_pieces)])).bind fun t58 => (dSub t58 (rd y_many_here)))).bind fun t59 => (dEq (rd t57) t59))) (x_e2 (a := (Res.ok (rd t57))) (b := (((dLen [(rd y_pieces)])).bind fun t58 => (dSub t58 (rd y_many_here)))) rfl (x_e2 (a := (dLen [(rd y_pieces)])) (b := (Res.ok (rd y_many_here))) (x_eC (as := (Res.ok [(rd y_pieces)])) (x_consP (a := (rd y_pieces)) (as := []) rfl rfl)) rfl))))))))))))))))))
def Ψ__law_stands (ds : List D) : Res D := match ds with
  | [a0, a1, a2] => M__law_stands a0 a1 a2
  | _ => Res.stuck
theorem ps__law_stands (ds : List D) : Ψ__law_stands ds = Res.stuck ∨ Φ__law_stands ds = Ψ__law_stands ds := by
  unfold Ψ__law_stands
  split
  · exact phi_of rfl (me__law_stands _ _ _)
  · exact .inl rfl
theorem pe__law_stands {y_lists : D} {y_pieces : D} {y_bent : D} : Ψ__law_stands [y_lists, y_pieces, y_bent] = M__law_stands y_lists y_pieces y_bent := rfl
def q_law_k13_1 : PV.Env → Res D := eAnd (e1 (dIsi "tuple") (eVar 7)) (e2 dEq (eC_ dLen (lCons (eVar 7) (lNil))) (eC (.int 4)))
def a_law_k13_1 : PV.Env → SR := sSet 5 (eCall (lenIs 2 Ψ_pieces_of) [] (lCons (eVar 2) (lCons (eVar 4) (lNil))))
def a_law_k13_2 : PV.Env → SR := sIf (bOr (bNot (eT (e1 (dIsi "list") (eVar 5)))) (bNot (eT (eC_ dAll (lCons (eLc (yVal false (eVar 5)) (putb 7) (bYes) (q_law_k13_1) [7]) (lNil)))))) (sRet (eC (.bl false))) (sNil)
def a_law_k13_3 : PV.Env → SR := sIf (bOr (bNot (eT (eCall (lenIs 2 Ψ__law_same_v2) [] (lCons (eVar 5) (lCons (eC_ dList (lCons (eVar 5) (lNil))) (lNil)))))) (bNot (eT (eCall (lenIs 3 Ψ__law_stands) [] (lCons (eVar 1) (lCons (eVar 5) (lCons (eVar 4) (lNil)))))))) (sRet (eC (.bl false))) (sNil)
def a_law_k13_4 : PV.Env → SR := sSet 6 (eC_ dList (lCons (eVar 5) (lNil)))
def a_law_k13_5 : PV.Env → SR := sClear 5
def a_law_k13_6 : PV.Env → SR := sFrz 6 (sIf (bNot (eT (eCall (lenIs 2 Ψ__law_same_v2) [] (lCons (eCall (lenIs 2 Ψ_pieces_of) [] (lCons (eVar 2) (lCons (eVar 4) (lNil)))) (lCons (eVar 6) (lNil)))))) (sRet (eC (.bl false))) (sNil))
def a_law_k13_7 : PV.Env → SR := sFrz 6 (sIf (bAnd (bNot (eT (eVar 4))) (bNot (eT (eCall (lenIs 2 Ψ__law_same_v2) [] (lCons (eVar 3) (lCons (eVar 6) (lNil))))))) (sRet (eC (.bl false))) (sNil))
def b_law_k13_1 : PV.Env → SR := sSeq (a_law_k13_1) (sSeq (a_law_k13_2) (sSeq (a_law_k13_3) (sSeq (a_law_k13_4) (sSeq (a_law_k13_5) (sSeq (a_law_k13_6) (a_law_k13_7))))))
def a_law_k13_8 : PV.Env → SR := sSet 1 (eCall (lenIs 2 Ψ__law_channel_v2) [] (lCons (eVar 0) (lCons (eC (.int 40)) (lNil))))
def a_law_k13_9 : PV.Env → SR := sFrz 1 (sSet 2 (eCall (lenIs 1 Ψ__law_made) [] (lCons (eVar 1) (lNil))))
def a_law_k13_10 : PV.Env → SR := sSet 3 (eCall (lenIs 2 Ψ_pieces_of) [.bl false] (lCons (eVar 2) (lNil)))
def a_law_k13_11 : PV.Env → SR := sFrz 3 (sFrz 1 (sFor (yLift (yVal true (eTup (lCons (eC (.bl false)) (lCons (eC (.bl true)) (lNil)))))) (put1 4) (b_law_k13_1) [4, 5, 6]))
def a_law_k13_12 : PV.Env → SR := sFrz 1 (sRet (eCall (lenIs 2 Ψ__law_kept) [] (lCons (eVar 2) (lCons (eVar 1) (lNil)))))
def N_law_k13 : List Str := ["_law_script", "_law_lists", "_law_channel_here", "_law_plain", "_law_bent", "_law_pieces", "_law_kept_here", "_law_piece"]
def g_law_k13 : PV.Env → SR := sSeq (a_law_k13_8) (sSeq (a_law_k13_9) (sSeq (a_law_k13_10) (sSeq (a_law_k13_11) (a_law_k13_12))))
def Φ_law_k13 : List D → Res D := runF N_law_k13.length g_law_k13
def B_law_k13_1 (y_lists : D) (y_channel_here : D) (y_plain : D) (t1 : D) : Res (Fo Unit) :=
  ((chk t1).bind fun t2 => (((callD (lenIs 2 Ψ_pieces_of) [(rd y_channel_here), (rd t2)]).bind chk).bind fun y_pieces =>
  (ifR (ifR ((((dIsi "list") (rd y_pieces)).bind tru).bind fun t3 => Res.ok (!t3)) (Res.ok true) (((((((((itemsOf false (rd y_pieces))).bind fun t8 => ((lcV (fun t4 => (((andV ((dIsi "tuple") (rd t4)) (((dLen [(rd t4)])).bind fun t6 => (dEq t6 (D.int 4))))).bind fun y => (chk y).bind fun y => Res.ok (some y))) t8).bind lstB))).bind fun t9 => Res.ok [t9])).bind fun t10 => (dAll t10)).bind tru).bind fun t11 => Res.ok (!t11)))
  (rtR (D.bl false))
  (ifR (ifR (((((((((dList [(rd y_pieces)])).bind fun t12 => Res.ok [t12])).bind fun t13 => Res.ok ((rd y_pieces) :: t13))).bind fun t14 => (callD (lenIs 2 Ψ__law_same_v2) (t14 ++ []))).bind tru).bind fun t15 => Res.ok (!t15)) (Res.ok true) (((callD (lenIs 3 Ψ__law_stands) [(rd y_lists), (rd y_pieces), (rd t2)]).bind tru).bind fun t16 => Res.ok (!t16)))
  (rtR (D.bl false))
  (((dList [(rd y_pieces)]).bind chk).bind fun y_kept_here =>
  ((clearV y_pieces).bind fun y_pieces =>
  (ifR (((((((callD (lenIs 2 Ψ_pieces_of) [(rd y_channel_here), (rd t2)])).bind fun t17 => Res.ok [t17, (rd (fz y_kept_here))])).bind fun t18 => (callD (lenIs 2 Ψ__law_same_v2) (t18 ++ []))).bind tru).bind fun t19 => Res.ok (!t19))
  (rtR (D.bl false))
  (ifR (ifR ((tru (rd t2)).bind fun t20 => Res.ok (!t20)) (((callD (lenIs 2 Ψ__law_same_v2) [(rd y_plain), (rd (fz (fz y_kept_here)))]).bind tru).bind fun t21 => Res.ok (!t21)) (Res.ok false))
  (rtR (D.bl false))
  (Res.ok (Fo.nx ()))))))))))
theorem bo_B_law_k13_1 (y_lists : D) (y_channel_here : D) (y_plain : D) (o_0 : Option D) (t1 : D) : RB (fun s : Unit => [o_0, some y_lists, some y_channel_here, some y_plain, none, none, none, none]) [4 , 5 , 6] (tgt (put1 4) b_law_k13_1 t1 [o_0, some y_lists, some y_channel_here, some y_plain, none, none, none, none]) (B_law_k13_1 y_lists y_channel_here y_plain t1) := b_tgt (en := fun t2 => [o_0, some y_lists, some y_channel_here, some y_plain, some t2, none, none, none]) t_1 (chk_nox t1) (fun _ => rfl) fun t2 => (b_last (b_assoc (b_set (fx := (callD (lenIs 2 Ψ_pieces_of) [(rd y_channel_here), (rd t2)])) (en := fun y_pieces => [o_0, some y_lists, some y_channel_here, some y_plain, some t2, some y_pieces, none, none]) (x_callP (as := [(rd y_channel_here), (rd t2)]) (x_consP (a := (rd y_channel_here)) (as := [(rd t2)]) rfl (x_consP (a := (rd t2)) (as := []) rfl rfl)) rfl) (fun _ => rfl) fun y_pieces => (b_assoc (b_if (tx := (ifR ((((dIsi "list") (rd y_pieces)).bind tru).bind fun t3 => Res.ok (!t3)) (Res.ok true) (((((((((itemsOf false (rd y_pieces))).bind fun t8 => ((lcV (fun t4 => (((andV ((dIsi "tuple") (rd t4)) (((dLen [(rd t4)])).bind fun t6 => (dEq t6 (D.int 4))))).bind fun y => (chk y).bind fun y => Res.ok (some y))) t8).bind lstB))).bind fun t9 => Res.ok [t9])).bind fun t10 => (dAll t10)).bind tru).bind fun t11 => Res.ok (!t11)))) (x_bOr (pa := ((((dIsi "list") (rd y_pieces)).bind tru).bind fun t3 => Res.ok (!t3))) (qa := (((((((((itemsOf false (rd y_pieces))).bind fun t8 => ((lcV (fun t4 => (((andV ((dIsi "tuple") (rd t4)) (((dLen [(rd t4)])).bind fun t6 => (dEq t6 (D.int 4))))).bind fun y => (chk y).bind fun y => Res.ok (some y))) t8).bind lstB))).bind fun t9 => Res.ok [t9])).bind fun t10 => (dAll t10)).bind tru).bind fun t11 => Res.ok (!t11))) rfl (x_bNot (pa := ((((((((itemsOf false (rd y_pieces))).bind fun t8 => ((lcV (fun t4 => (((andV ((dIsi "tuple") (rd t4)) (((dLen [(rd t4)])).bind fun t6 => (dEq t6 (D.int 4))))).bind fun y => (chk y).bind fun y => Res.ok (some y))) t8).bind lstB))).bind fun t9 => Res.ok [t9])).bind fun t10 => (dAll t10)).bind tru)) (x_T (a := (((((((itemsOf false (rd y_pieces))).bind fun t8 => ((lcV (fun t4 => (((andV ((dIsi "tuple") (rd t4)) (((dLen [(rd t4)])).bind fun t6 => (dEq t6 (D.int 4))))).bind fun y => (chk y).bind fun y => Res.ok (some y))) t8).bind lstB))).bind fun t9 => Res.ok [t9])).bind fun t10 => (dAll t10))) (x_eC (as := (((((itemsOf false (rd y_pieces))).bind fun t8 => ((lcV (fun t4 => (((andV ((dIsi "tuple") (rd t4)) (((dLen [(rd t4)])).bind fun t6 => (dEq t6 (D.int 4))))).bind fun y => (chk y).bind fun y => Res.ok (some y))) t8).bind lstB))).bind fun t9 => Res.ok [t9])) (x_cons (a := (((itemsOf false (rd y_pieces))).bind fun t8 => ((lcV (fun t4 => (((andV ((dIsi "tuple") (rd t4)) (((dLen [(rd t4)])).bind fun t6 => (dEq t6 (D.int 4))))).bind fun y => (chk y).bind fun y => Res.ok (some y))) t8).bind lstB))) (as := (Res.ok [])) (x_lc (ix := (itemsOf false (rd y_pieces))) (step := fun t4 => (((andV ((dIsi "tuple") (rd t4)) (((dLen [(rd t4)])).bind fun t6 => (dEq t6 (D.int 4))))).bind fun y => (chk y).bind fun y => Res.ok (some y))) rfl rfl (fun t4 => t_lcb1 (fx := (andV ((dIsi "tuple") (rd t4)) (((dLen [(rd t4)])).bind fun t6 => (dEq t6 (D.int 4))))) (x_and (a := ((dIsi "tuple") (rd t4))) (b := (((dLen [(rd t4)])).bind fun t6 => (dEq t6 (D.int 4)))) rfl (x_e2 (a := (dLen [(rd t4)])) (b := (Res.ok (D.int 4))) (x_eC (as := (Res.ok [(rd t4)])) (x_consP (a := (rd t4)) (as := []) rfl rfl)) rfl)))) rfl))))) (b_retC (x := (D.bl false)) rfl rfl) (b_nil (b_assoc (b_if (tx := (ifR (((((((((dList [(rd y_pieces)])).bind fun t12 => Res.ok [t12])).bind fun t13 => Res.ok ((rd y_pieces) :: t13))).bind fun t14 => (callD (lenIs 2 Ψ__law_same_v2) (t14 ++ []))).bind tru).bind fun t15 => Res.ok (!t15)) (Res.ok true) (((callD (lenIs 3 Ψ__law_stands) [(rd y_lists), (rd y_pieces), (rd t2)]).bind tru).bind fun t16 => Res.ok (!t16)))) (x_bOr (pa := (((((((((dList [(rd y_pieces)])).bind fun t12 => Res.ok [t12])).bind fun t13 => Res.ok ((rd y_pieces) :: t13))).bind fun t14 => (callD (lenIs 2 Ψ__law_same_v2) (t14 ++ []))).bind tru).bind fun t15 => Res.ok (!t15))) (qa := (((callD (lenIs 3 Ψ__law_stands) [(rd y_lists), (rd y_pieces), (rd t2)]).bind tru).bind fun t16 => Res.ok (!t16))) (x_bNot (pa := ((((((((dList [(rd y_pieces)])).bind fun t12 => Res.ok [t12])).bind fun t13 => Res.ok ((rd y_pieces) :: t13))).bind fun t14 => (callD (lenIs 2 Ψ__law_same_v2) (t14 ++ []))).bind tru)) (x_T (a := (((((((dList [(rd y_pieces)])).bind fun t12 => Res.ok [t12])).bind fun t13 => Res.ok ((rd y_pieces) :: t13))).bind fun t14 => (callD (lenIs 2 Ψ__law_same_v2) (t14 ++ [])))) (x_call (as := (((((dList [(rd y_pieces)])).bind fun t12 => Res.ok [t12])).bind fun t13 => Res.ok ((rd y_pieces) :: t13))) (x_cons (a := (Res.ok (rd y_pieces))) (as := (((dList [(rd y_pieces)])).bind fun t12 => Res.ok [t12])) rfl (x_cons (a := (dList [(rd y_pieces)])) (as := (Res.ok [])) (x_eC (as := (Res.ok [(rd y_pieces)])) (x_consP (a := (rd y_pieces)) (as := []) rfl rfl)) rfl))))) (x_bNot (pa := ((callD (lenIs 3 Ψ__law_stands) [(rd y_lists), (rd y_pieces), (rd t2)]).bind tru)) (x_T (a := (callD (lenIs 3 Ψ__law_stands) [(rd y_lists), (rd y_pieces), (rd t2)])) (x_callP (as := [(rd y_lists), (rd y_pieces), (rd t2)]) (x_consP (a := (rd y_lists)) (as := [(rd y_pieces), (rd t2)]) rfl (x_consP (a := (rd y_pieces)) (as := [(rd t2)]) rfl (x_consP (a := (rd t2)) (as := []) rfl rfl))) rfl)))) (b_retC (x := (D.bl false)) rfl rfl) (b_nil (b_assoc (b_set (fx := (dList [(rd y_pieces)])) (en := fun y_kept_here => [o_0, some y_lists, some y_channel_here, some y_plain, some t2, some y_pieces, some y_kept_here, none]) (x_eC (as := (Res.ok [(rd y_pieces)])) (x_consP (a := (rd y_pieces)) (as := []) rfl rfl)) (fun _ => rfl) fun y_kept_here => (b_assoc (b_clear (en := fun y_pieces => [o_0, some y_lists, some y_channel_here, some y_plain, some t2, some y_pieces, some y_kept_here, none]) rfl (fun _ => rfl) fun y_pieces => (b_assoc (b_frz (en := [o_0, some y_lists, some y_channel_here, some y_plain, some t2, some y_pieces, some (fz y_kept_here), none]) rfl (b_if (tx := (((((((callD (lenIs 2 Ψ_pieces_of) [(rd y_channel_here), (rd t2)])).bind fun t17 => Res.ok [t17, (rd (fz y_kept_here))])).bind fun t18 => (callD (lenIs 2 Ψ__law_same_v2) (t18 ++ []))).bind tru).bind fun t19 => Res.ok (!t19))) (x_bNot (pa := ((((((callD (lenIs 2 Ψ_pieces_of) [(rd y_channel_here), (rd t2)])).bind fun t17 => Res.ok [t17, (rd (fz y_kept_here))])).bind fun t18 => (callD (lenIs 2 Ψ__law_same_v2) (t18 ++ []))).bind tru)) (x_T (a := (((((callD (lenIs 2 Ψ_pieces_of) [(rd y_channel_here), (rd t2)])).bind fun t17 => Res.ok [t17, (rd (fz y_kept_here))])).bind fun t18 => (callD (lenIs 2 Ψ__law_same_v2) (t18 ++ [])))) (x_call (as := (((callD (lenIs 2 Ψ_pieces_of) [(rd y_channel_here), (rd t2)])).bind fun t17 => Res.ok [t17, (rd (fz y_kept_here))])) (x_cons (a := (callD (lenIs 2 Ψ_pieces_of) [(rd y_channel_here), (rd t2)])) (as := (Res.ok [(rd (fz y_kept_here))])) (x_callP (as := [(rd y_channel_here), (rd t2)]) (x_consP (a := (rd y_channel_here)) (as := [(rd t2)]) rfl (x_consP (a := (rd t2)) (as := []) rfl rfl)) rfl) (x_consP (a := (rd (fz y_kept_here))) (as := []) rfl rfl))))) (b_retC (x := (D.bl false)) rfl rfl) (b_nil (b_frz (en := [o_0, some y_lists, some y_channel_here, some y_plain, some t2, some y_pieces, some (fz (fz y_kept_here)), none]) rfl (b_if (tx := (ifR ((tru (rd t2)).bind fun t20 => Res.ok (!t20)) (((callD (lenIs 2 Ψ__law_same_v2) [(rd y_plain), (rd (fz (fz y_kept_here)))]).bind tru).bind fun t21 => Res.ok (!t21)) (Res.ok false))) (x_bAnd (pa := ((tru (rd t2)).bind fun t20 => Res.ok (!t20))) (qa := (((callD (lenIs 2 Ψ__law_same_v2) [(rd y_plain), (rd (fz (fz y_kept_here)))]).bind tru).bind fun t21 => Res.ok (!t21))) rfl (x_bNot (pa := ((callD (lenIs 2 Ψ__law_same_v2) [(rd y_plain), (rd (fz (fz y_kept_here)))]).bind tru)) (x_T (a := (callD (lenIs 2 Ψ__law_same_v2) [(rd y_plain), (rd (fz (fz y_kept_here)))])) (x_callP (as := [(rd y_plain), (rd (fz (fz y_kept_here)))]) (x_consP (a := (rd y_plain)) (as := [(rd (fz (fz y_kept_here)))]) rfl (x_consP (a := (rd (fz (fz y_kept_here)))) (as := []) rfl rfl)) rfl)))) (b_retC (x := (D.bl false)) rfl rfl) (b_nil (r_nilB rfl)))))))))))))))))))))
def M_law_k13 (y_script : D) : Res D :=
  (((callD (lenIs 2 Ψ__law_channel_v2) [(rd y_script), (D.int 40)]).bind chk).bind fun y_lists =>
  (((callD (lenIs 1 Ψ__law_made) [(rd (fz y_lists))]).bind chk).bind fun y_channel_here =>
  (((callD (lenIs 2 Ψ_pieces_of) [(rd y_channel_here), D.bl false]).bind chk).bind fun y_plain =>
  (((itemsOf true (D.tup [(D.bl false), (D.bl true)]))).bind fun t23 => (afterV (forV (fun d s => B_law_k13_1 (fz (fz y_lists)) y_channel_here (fz y_plain) d) t23 ()) (fun t22 =>
  (((callD (lenIs 2 Ψ__law_kept) [(rd y_channel_here), (rd (fz (fz (fz y_lists))))]).bind chk).bind okR)) okR)))))
theorem me_law_k13 (y_script : D) : RF (g_law_k13 [some y_script, none, none, none, none, none, none, none]) (M_law_k13 y_script) := (f_last (f_assoc (f_set (fx := (callD (lenIs 2 Ψ__law_channel_v2) [(rd y_script), (D.int 40)])) (en := fun y_lists => [some y_script, some y_lists, none, none, none, none, none, none]) (x_callP (as := [(rd y_script), (D.int 40)]) (x_consP (a := (rd y_script)) (as := [(D.int 40)]) rfl (x_consP (a := (D.int 40)) (as := []) rfl rfl)) rfl) (fun _ => rfl) fun y_lists => (f_assoc (f_frz (en := [some y_script, some (fz y_lists), none, none, none, none, none, none]) rfl (f_set (fx := (callD (lenIs 1 Ψ__law_made) [(rd (fz y_lists))])) (en := fun y_channel_here => [some y_script, some (fz y_lists), some y_channel_here, none, none, none, none, none]) (x_callP (as := [(rd (fz y_lists))]) (x_consP (a := (rd (fz y_lists))) (as := []) rfl rfl) rfl) (fun _ => rfl) fun y_channel_here => (f_assoc (f_set (fx := (callD (lenIs 2 Ψ_pieces_of) [(rd y_channel_here), D.bl false])) (en := fun y_plain => [some y_script, some (fz y_lists), some y_channel_here, some y_plain, none, none, none, none]) (x_callP (as := [(rd y_channel_here)]) (x_consP (a := (rd y_channel_here)) (as := []) rfl rfl) rfl) (fun _ => rfl) fun y_plain => (f_assoc (f_frz (en := [some y_script, some (fz y_lists), some y_channel_here, some (fz y_plain), none, none, none, none]) rfl (f_frz (en := [some y_script, some (fz (fz y_lists)), some y_channel_here, some (fz y_plain), none, none, none, none]) rfl (f_for (fun s : Unit => [some y_script, some (fz (fz y_lists)), some y_channel_here, some (fz y_plain), none, none, none, none]) (step := (fun d s => B_law_k13_1 (fz (fz y_lists)) y_channel_here (fz y_plain) d)) (s0 := ()) (ix := (itemsOf true (D.tup [(D.bl false), (D.bl true)]))) (x_yVal (a := (Res.ok (D.tup [(D.bl false), (D.bl true)]))) (x_tupP (ds := [(D.bl false), (D.bl true)]) (x_consP (a := (D.bl false)) (as := [(D.bl true)]) rfl (x_consP (a := (D.bl true)) (as := []) rfl rfl)) 2 rfl rfl)) rfl (fun d s => bo_B_law_k13_1 (fz (fz y_lists)) y_channel_here (fz y_plain) (some y_script) d) fun t22 => (f_frz (en := [some y_script, some (fz (fz (fz y_lists))), some y_channel_here, some (fz y_plain), none, none, none, none]) rfl (f_ret (fx := (callD (lenIs 2 Ψ__law_kept) [(rd y_channel_here), (rd (fz (fz (fz y_lists))))])) (x_callP (as := [(rd y_channel_here), (rd (fz (fz (fz y_lists))))]) (x_consP (a := (rd y_channel_here)) (as := [(rd (fz (fz (fz y_lists))))]) rfl (x_consP (a := (rd (fz (fz (fz y_lists))))) (as := []) rfl rfl)) rfl)))))))))))))))
def Ψ_law_k13 (ds : List D) : Res D := match ds with
  | [a0] => M_law_k13 a0
  | _ => Res.stuck
theorem ps_law_k13 (ds : List D) : Ψ_law_k13 ds = Res.stuck ∨ Φ_law_k13 ds = Ψ_law_k13 ds := by
  unfold Ψ_law_k13
  split
  · exact phi_of rfl (me_law_k13 _)
  · exact .inl rfl
theorem pe_law_k13 {y_script : D} : Ψ_law_k13 [y_script] = M_law_k13 y_script := rfl
end Gw
end
section
namespace Gw
open PySem PySem.Spec PyProof.Rows L2 PV
def mixZ (v k : Int) : Int := (v % 1000000000000000000000000000000 * (k * k + 48271) + 7919 * k * k * k + 11) % 2147483647 / 7
theorem mixZ_nonneg (v k : Int) : 0 ≤ mixZ v k := by
  unfold mixZ
  have := Int.emod_nonneg (v % 1000000000000000000000000000000 * (k * k + 48271) + 7919 * k * k * k + 11) (b := 2147483647) (by decide)
  omega
theorem mix_eq (v k : Int) (h0 : 0 ≤ k) (h1 : k < 1000000) : Φ__law_mix [.int v, .int k] = .ok (.int (mixZ v k)) := by
  have hk : k * k ≤ 1000000 * 1000000 := Int.mul_le_mul (by omega) (by omega) h0 (by decide)
  have hk0 : 0 ≤ k * k := Int.mul_nonneg h0 h0
  unfold Φ__law_mix g__law_mix N__law_mix mixZ
  have c0 : OkMul k k := OkMul_l (by omega)
  have c1 : OkMul (v % 1000000000000000000000000000000) (k * k + 48271) := OkMul_r (show (k * k + 48271).natAbs < _ by
    generalize k * k = z at hk hk0
    omega)
  have c2 : OkMul (7919 * k) k := OkMul_r (show k.natAbs < _ by omega)
  have c3 : OkMul (7919 * k * k) k := OkMul_r (show k.natAbs < _ by omega)
  simp [c0, c1, c2, c3]
theorem stem_eq (c n : Int) (h0 : 0 ≤ n) (h1 : n ≤ 100) : ∃ l : List Nat, l.length = n.toNat ∧ (∀ k ∈ l, isLet k) ∧ Φ__law_stem [.int c, .int n] = .ok (.str (S l)) := by
  have hr : rngD 0 n.toNat = (List.range n.toNat).map fun i : Nat => D.int (i : Int) := rng0 _
  have hl := abc_len
  obtain ⟨env, h2, c', l, h3, h4, rfl⟩ := forL_inv (s := put1 4) (u := b__law_stem_1) (fg := [4]) (fun i : Nat => D.int (i : Int)) (fun i env => ∃ (r : Int) (l : List Nat), l.length = i ∧ (∀ k ∈ l, isLet k) ∧ env = [some (.int r), some (.int n), some (.str "abcdefghijklmnopqrstuvwxyz"), some (.str (S l)), none]) (List.range n.toNat) (env := [some (.int c), some (.int n), some (.str "abcdefghijklmnopqrstuvwxyz"), some (.str (S [])), none]) ⟨c, [], rfl, by simp, rfl⟩ (by
      rintro i env x hx ⟨r, l, hw, hm, rfl⟩
      have hi : i < 100 := by
        have := (List.getElem?_eq_some_iff.mp hx).1
        simp at this
        omega
      obtain ⟨k, g1, g2⟩ := abc_at (i := r % 26) (by omega) (by omega)
      have hb : l.length + 1 ≤ 1000000 := by omega
      refine ⟨[some (.int r), some (.int n), some (.str "abcdefghijklmnopqrstuvwxyz"), some (.str (S l)), some (.int (x : Int))], [some (.int (r / 26)), some (.int n), some (.str "abcdefghijklmnopqrstuvwxyz"), some (.str (S (l ++ [k]))), some (.int (x : Int))], rfl, .inl ?_, r / 26, l ++ [k], by simp [hw], ?_, rfl⟩
      · unfold b__law_stem_1
        simp [g1, hl, S_one, hb]
      · intro j hj
        rcases List.mem_append.mp hj with hj | hj
        · exact hm j hj
        · rw [List.mem_singleton.mp hj]; exact g2)
  refine ⟨l, by simpa using h3, h4, ?_⟩
  have e : (S [] : Str) = Str.ofString "" := rfl
  rw [← hr, e] at h2
  unfold Φ__law_stem g__law_stem N__law_stem
  have g1 : R62 n := R62_of (by omega)
  simp [g1, h2]
theorem name_part {st : List Nat} (h : ∀ k ∈ st, isLet k) {a b : Option Int} : ∀ k ∈ cutL st a b, isLet k := fun k hk => h k (List.mem_of_mem_drop (List.mem_of_mem_take hk))
theorem cutL_len {α : Type} (xs : List α) (a b : Option Int) : (cutL xs a b).length ≤ xs.length := by
  unfold cutL
  simp
  omega
def inserted (st : List Nat) (at_ size : Int) (k : Nat) : List Nat := cutL st none (some at_) ++ [k] ++ cutL st (some at_) (some size)
def tailed (st : List Nat) (size : Int) (k : Nat) : List Nat := cutL st none (some (size % 4)) ++ ([if k / 4 = 0 then 109 else 116] ++ ([if k / 2 % 2 = 0 then 110 else 117] ++ [if k % 2 = 0 then 111 else 118]))
def other (st : List Nat) : List Nat := (if st.head? = some 97 then 98 else 97) :: st.drop 1
def namesOf (c : Int) (st : List Nat) : List (List Nat) :=
  if c / 64 % 3 = 0 then [104, 103, 102, 101, 100, 99, 98, 97].map (inserted st (c / 8 % (c % 6 + 1)) (c % 6))
  else if c / 64 % 3 = 1 then (List.range 8).map (tailed st (c % 6))
  else (List.range 6).map (fun k => st.take (k + 1)) ++ [(other st).take 1, (other st).take 3]
theorem namesOf_len (c : Int) (st : List Nat) : (namesOf c st).length = 8 := by
  unfold namesOf
  split
  · rfl
  split
  · rfl
  · rfl
theorem namesOf_nodup (c : Int) (st : List Nat) (h : st.length = 6) : (namesOf c st).Nodup := by
  unfold namesOf
  split
  · refine nodup_map (fun a b hab => ?_) (by decide)
    unfold inserted at hab
    simpa using hab
  split
  · have e : (List.range 8).map (tailed st (c % 6)) = [0, 1, 2, 3, 4, 5, 6, 7].map (tailed st (c % 6)) := rfl
    rw [e]
    simp [tailed]
  · match st, h with
    | [a0, a1, a2, a3, a4, a5], _ =>
      have e : (List.range 6) = [0, 1, 2, 3, 4, 5] := rfl
      rw [e]
      simp [other]
      split <;> rename_i q
      · subst q; simp
      · simp [q]
theorem namesOf_name (c : Int) (st : List Nat) (h : st.length = 6) (hl : ∀ k ∈ st, isLet k) : ∀ w ∈ namesOf c st, NameL w := by
  unfold namesOf
  split
  · intro w hw
    obtain ⟨k, hk, rfl⟩ := List.mem_map.mp hw
    have hs : 0 ≤ c % 6 ∧ c % 6 < 6 := by omega
    have ha : 0 ≤ c / 8 % (c % 6 + 1) := Int.emod_nonneg _ (by omega)
    have hb : c / 8 % (c % 6 + 1) < c % 6 + 1 := Int.emod_lt_of_pos _ (by omega)
    refine ⟨by unfold inserted; simp; omega, ?_, ?_⟩
    · unfold inserted
      rw [cutL_to ha, cutL_mid ha hs.1]
      simp
      omega
    · unfold inserted
      intro j hj
      simp only [List.mem_append, List.mem_singleton] at hj
      rcases hj with (hj | hj) | hj
      · exact name_part hl _ hj
      · subst hj
        simp at hk
        unfold isLet
        omega
      · exact name_part hl _ hj
  split
  · intro w hw
    obtain ⟨k, hk, rfl⟩ := List.mem_map.mp hw
    have hs : 0 ≤ c % 6 % 4 ∧ c % 6 % 4 < 4 := by omega
    refine ⟨by unfold tailed; simp, ?_, ?_⟩
    · unfold tailed
      rw [cutL_to hs.1]
      simp
      omega
    · unfold tailed
      intro j hj
      simp only [List.mem_append, List.mem_singleton] at hj
      rcases hj with hj | hj | hj | hj
      · exact name_part hl _ hj
      all_goals subst hj; split <;> unfold isLet <;> omega
  · intro w hw
    match st, h with
    | [a0, a1, a2, a3, a4, a5], _ =>
      have A : isLet a0 ∧ isLet a1 ∧ isLet a2 ∧ isLet a3 ∧ isLet a4 ∧ isLet a5 := by simpa using hl
      have e : (List.range 6) = [0, 1, 2, 3, 4, 5] := rfl
      rw [e] at hw
      have ho : isLet (if a0 = 97 then 98 else 97) := by split <;> unfold isLet <;> omega
      simp [other] at hw
      rcases hw with rfl | rfl | rfl | rfl | rfl | rfl | rfl | rfl <;> refine ⟨by simp, by simp, ?_⟩ <;> simp [A, ho]
theorem named_eq (v : Int) : ∃ ws : List (List Nat), ws.length = 8 ∧ ws.Nodup ∧ (∀ w ∈ ws, NameL w) ∧ Φ__law_named [.int v] = .ok (.lst .own (ws.map fun w => .str (S w))) := by
  unfold Φ__law_named g__law_named N__law_named
  generalize hv : (v % 10 ^ 24 + 5) * 7046029254386353131 % (10 ^ 24 + 7) = c
  simp at hv
  obtain ⟨st, hst1, hst2, hst3⟩ := stem_eq (c / 512) 6 (by decide) (by decide)
  have hs : 0 < c % 6 + 1 := by clear hv; omega
  have hst1' : st.length = 6 := hst1
  refine ⟨namesOf c st, namesOf_len _ _, namesOf_nodup _ _ hst1, namesOf_name _ _ hst1 hst2, ?_⟩
  have hcl : ∀ a b : Option Int, (cutL st a b).length ≤ 6 := fun a b => by rw [← hst1']; exact cutL_len st a b
  unfold namesOf
  by_cases h0 : c / 64 % 3 = 0
  · have hq : lcL (putb 5) bYes q__law_named_1 [some (D.int c), some (D.int (c % 6)), some (D.str (S st)), some (D.int (c / 8 % (c % 6 + 1))), none, none, none] (List.map (fun k => D.str { cps := #[k] }) (Str.ofString "hgfedcba").cps.toList) = .ok ((Str.ofString "hgfedcba").cps.toList.map fun k => .str (S (inserted st (c / 8 % (c % 6 + 1)) (c % 6) k))) :=
      lcL_map _ (fun k => [some (D.int c), some (D.int (c % 6)), some (D.str (S st)), some (D.int (c / 8 % (c % 6 + 1))), none, some (.str ⟨#[k]⟩), none]) _ fun k _ => by
        refine ⟨rfl, ?_, rfl⟩
        have b1 := hcl none (some (c / 8 % (c % 6 + 1)))
        have b2 := hcl (some (c / 8 % (c % 6 + 1))) (some (c % 6))
        have b3 : (cutL st none (some (c / 8 % (c % 6 + 1)))).length + 1 ≤ 1000000 := by clear hv; omega
        have b4 : (cutL st none (some (c / 8 % (c % 6 + 1)))).length + 1 + (cutL st (some (c / 8 % (c % 6 + 1))) (some (c % 6))).length ≤ 1000000 := by clear hv; omega
        unfold q__law_named_1 inserted
        simp [S_one, hst1', b3, b4]
    have e : (Str.ofString "hgfedcba").cps.toList = [104, 103, 102, 101, 100, 99, 98, 97] := by decide +kernel
    rw [if_pos h0]
    rw [e] at hq
    simp at hq
    simp [hv, hst3, h0, hs, hq, e]
  by_cases h1 : c / 64 % 3 = 1
  · rw [if_neg h0, if_pos h1]
    have hq : lcL (putb 6) bYes q__law_named_2 [some (D.int c), some (D.int (c % 6)), some (D.str (S st)), some (D.int (c / 8 % (c % 6 + 1))), none, none, none] (rngD 0 8) = .ok ((List.range 8).map fun k => .str (S (tailed st (c % 6) k))) :=
      (congrArg _ (rng0 8)).trans (lcL_map (fun k => .str (S (tailed st (c % 6) k))) (fun k => [some (D.int c), some (D.int (c % 6)), some (D.str (S st)), some (D.int (c / 8 % (c % 6 + 1))), none, none, some (.int (k : Int))]) _ fun k hk => by
        refine ⟨rfl, ?_, rfl⟩
        have b1 := hcl none (some (c % 6 % 4))
        have b3 : (cutL st none (some (c % 6 % 4))).length + 1 ≤ 1000000 := by clear hv; omega
        have b4 : (cutL st none (some (c % 6 % 4))).length + (1 + 1) ≤ 1000000 := by clear hv; omega
        have b5 : (cutL st none (some (c % 6 % 4))).length + (1 + (1 + 1)) ≤ 1000000 := by clear hv; omega
        have b5 : (cutL st none (some (c % 6 % 4))).length + 3 ≤ 1000000 := by clear hv; omega
        have b6 : (cutL st none (some (c % 6 % 4))).length + 2 ≤ 1000000 := by clear hv; omega
        have hk8 : k = 0 ∨ k = 1 ∨ k = 2 ∨ k = 3 ∨ k = 4 ∨ k = 5 ∨ k = 6 ∨ k = 7 := by simp at hk; clear hv; omega
        have e1 : (Str.ofString "mt") = S [109, 116] := by decide +kernel
        have e2 : (Str.ofString "nu") = S [110, 117] := by decide +kernel
        have e3 : (Str.ofString "ov") = S [111, 118] := by decide +kernel
        unfold q__law_named_2 tailed
        rcases hk8 with rfl | rfl | rfl | rfl | rfl | rfl | rfl | rfl <;> simp [S_one, hst1', b3, b4, b5, b6, e1, e2, e3, atI, ixN])
    simp [hv, hst3, h0, h1, hs, hq]
  · rw [if_neg h0, if_neg h1]
    have hq : ∀ d, lcL (putb 6) bYes q__law_named_3 [some (D.int c), some (D.int (c % 6)), some (D.str (S st)), some (D.int (c / 8 % (c % 6 + 1))), some d, none, none] (rngD 0 6) = .ok ((List.range 6).map fun k => .str (S (st.take (k + 1)))) := fun d =>
      (congrArg _ (rng0 6)).trans (lcL_map (fun k => .str (S (st.take (k + 1)))) (fun k => [some (D.int c), some (D.int (c % 6)), some (D.str (S st)), some (D.int (c / 8 % (c % 6 + 1))), some d, none, some (.int (k : Int))]) _ fun k hk => by
        refine ⟨rfl, ?_, rfl⟩
        have q := cutL_to (xs := st) (b := (k : Int) + 1) (by clear hv; omega)
        unfold q__law_named_3
        simp [hst1', q])
    have e1 : (Str.ofString "ab") = S [97, 98] := by decide +kernel
    have e2 : (Str.ofString "a") = S [97] := by decide +kernel
    match st, hst1' with
    | [a0, a1, a2, a3, a4, a5], _ =>
    have q1 := cutL_from (xs := [a0, a1, a2, a3, a4, a5]) (a := 1) (by decide)
    have q2 : ∀ l : List Nat, cutL l none (some 1) = l.take 1 := fun l => cutL_to (xs := l) (b := 1) (by decide)
    have q3 : ∀ l : List Nat, cutL l none (some 3) = l.take 3 := fun l => cutL_to (xs := l) (b := 3) (by decide)
    by_cases ha : a0 = 97
    · subst ha
      simp [hv, hst3, h0, h1, hs, hq, e1, e2, S_one, other, q1, q2, q3, atI, ixN]
    · simp [hv, hst3, h0, h1, hs, hq, e1, e2, S_one, other, q1, q2, q3, atI, ixN, ha]
structure Pc where
  nm : Option (List Nat)
  f : Int
  l : Int
  w : Int
  deriving DecidableEq, Inhabited
def nmD : Option (List Nat) → D
  | none => .non
  | some l => .str (S l)
def pcD (p : Pc) : D := .tup [nmD p.nm, .int p.f, .int p.l, .int p.w]
@[simp] theorem rd_nmD (x : Option (List Nat)) : rd (nmD x) = nmD x := by cases x <;> rfl
@[simp] theorem fz_nmD (x : Option (List Nat)) : fz (nmD x) = nmD x := by cases x <;> rfl
@[simp] theorem noT_nmD (x : Option (List Nat)) : noT (nmD x) = true := by cases x <;> rfl
@[simp] theorem fa_nmD (x : Option (List Nat)) : fa (nmD x) = nmD x := by cases x <;> simp [nmD]
theorem pcD_calm (p : Pc) : calmD (pcD p) := by
  refine ⟨?_, ?_, ?_⟩ <;> simp [pcD]
@[simp] theorem rd_pcD (p : Pc) : rd (pcD p) = pcD p := (pcD_calm p).1
@[simp] theorem fz_pcD (p : Pc) : fz (pcD p) = pcD p := (pcD_calm p).2.1
@[simp] theorem noT_pcD (p : Pc) : noT (pcD p) = true := (pcD_calm p).2.2
@[simp] theorem fa_pcD (p : Pc) : fa (pcD p) = pcD p := by simp [pcD]
@[simp high] theorem faL_pcs {ps : List Pc} : faL (ps.map pcD) = ps.map pcD := by rw [faL_map]; simp
@[simp high] theorem rdL_pcs {ps : List Pc} : rdL (ps.map pcD) = ps.map pcD := (map_calm pcD_calm).1
@[simp high] theorem fzL_pcs {ps : List Pc} : fzL (ps.map pcD) = ps.map pcD := (map_calm pcD_calm).2.1
@[simp high] theorem noTL_pcs {ps : List Pc} : noTL (ps.map pcD) = true := (map_calm pcD_calm).2.2
@[simp] theorem pc_0 (p : Pc) : dIx (pcD p) (.int 0) = .ok (nmD p.nm) := by
  unfold pcD
  simp [atI, ixN]
@[simp] theorem pc_1 (p : Pc) : dIx (pcD p) (.int 1) = .ok (.int p.f) := by
  unfold pcD
  simp [atI, ixN]
@[simp] theorem pc_2 (p : Pc) : dIx (pcD p) (.int 2) = .ok (.int p.l) := by
  unfold pcD
  simp [atI, ixN]
@[simp] theorem pc_3 (p : Pc) : dIx (pcD p) (.int 3) = .ok (.int p.w) := by
  unfold pcD
  simp [atI, ixN]
theorem nm_eq (a b : Option (List Nat)) : dEq (nmD a) (nmD b) = .ok (.bl (decide (a = b))) := by
  cases a <;> cases b
  · rfl
  · rfl
  · rfl
  · rename_i x y
    show dEq (.str (S x)) (.str (S y)) = _
    rw [dEq_str]
    by_cases h : x = y
    · subst h; simp
    · simp [h]
theorem nm_ne (a b : Option (List Nat)) : dNe (nmD a) (nmD b) = .ok (.bl (!decide (a = b))) := by
  cases a <;> cases b
  · rfl
  · rfl
  · rfl
  · rename_i x y
    show dNe (.str (S x)) (.str (S y)) = _
    rw [dNe_str]
    by_cases h : x = y
    · subst h; simp
    · simp [h]
@[simp high] theorem isN_nm (a : Option (List Nat)) : dIsN (nmD a) = .ok (.bl a.isNone) := by cases a <;> rfl
@[simp high] theorem notN_nm (a : Option (List Nat)) : dNotN (nmD a) = .ok (.bl a.isSome) := by cases a <;> rfl
theorem strOk_let {l : List Nat} (h : ∀ k ∈ l, isLet k) : PyData.strOk (S l) = true := by
  unfold PyData.strOk S
  simp
  intro i hi
  have := h _ hi
  unfold isLet at this
  omega
def NmOk (x : Option (List Nat)) : Prop := ∀ l, x = some l → NameL l
theorem pl_nm {x : Option (List Nat)} (h : NmOk x) (n : Nat) : plD n (nmD x) = true := by
  cases x with
  | none => cases n <;> rfl
  | some l => cases n <;> exact strOk_let (h l rfl).2.2
abbrev Nm := List Nat
theorem wsAt {ws : List Nm} (h8 : ws.length = 8) {i : Int} (h0 : 0 ≤ i) (h1 : i < 8) : atI (ws.map fun w => D.str (S w)) i = some (.str (S ws[i.toNat]!)) := by
  rw [atI_map, atI_at h0 (by omega), Option.map_some]
def pinZ (ws : List Nm) (one : Int) : Option Nm :=
  if one / 64 % 4 = 0 then some ws[(one % 8).toNat]! else if one / 64 % 4 = 1 then some ws[(one / 8 % 3).toNat]! else if one / 64 % 4 = 2 then some ws[(one / 8 % 5).toNat]! else none
def cellZ (cs : List Int) (seed k : Int) : Int := if k < cs.length then mixZ (cs[k.toNat]?.getD 0) k else mixZ seed k
theorem cellZ_nonneg (cs : List Int) (seed k : Int) : 0 ≤ cellZ cs seed k := by
  unfold cellZ
  split <;> exact mixZ_nonneg _ _
theorem pinsJ (ws : List Nm) (h8 : ws.length = 8) (C sd t b c : D) (acc : List (Option Nm)) (ha : acc.length < 100) (one : Int) (h0 : 0 ≤ one) :
    J__law_pins_1 (.lst .frz (ws.map fun w => .str (S w))) C sd t b c (.lst .own (acc.map nmD)) (.int one) = .ok (.nx (.lst .own ((acc ++ [pinZ ws one]).map nmD))) := by
  have a1 := wsAt h8 (i := one % 8) (by omega) (by omega)
  have a2 := wsAt h8 (i := one / 8 % 3) (by omega) (by omega)
  have a3 := wsAt h8 (i := one / 8 % 5) (by omega) (by omega)
  have hb : acc.length < 1000000 := by omega
  unfold J__law_pins_1 pinZ
  rcases (show one / 64 % 4 = 0 ∨ one / 64 % 4 = 1 ∨ one / 64 % 4 = 2 ∨ one / 64 % 4 = 3 by omega) with k | k | k | k <;> simp [a1, a2, a3, k, hb, nmD]
theorem pins2 (ws : List Nm) (h8 : ws.length = 8) (cs : List Int) (hc : cs.length ≤ 1000) (seed : Int) (t b : D) (c s : Nat) (hs : 2 * c + s < 1000) (acc : List (Option Nm)) (ha : acc.length < 100) :
    B__law_pins_2 (.lst .frz (ws.map fun w => .str (S w))) (.lst .frz (cs.map D.int)) (.int seed) t b (.int c) (.int s) (.lst .own (acc.map nmD)) = .ok (.nx (.lst .own ((acc ++ [pinZ ws (cellZ cs seed ((2 * c + s : Nat) : Int))]).map nmD))) := by
  have hk : (2 : Int) * c + s = ((2 * c + s : Nat) : Int) := by omega
  have m1 := mix_eq seed ((2 * c + s : Nat) : Int) (by omega) (by omega)
  have hc0 : ((2 * c + s : Nat) : Int) < cs.length → cellZ cs seed ((2 * c + s : Nat) : Int) = mixZ (cs[2 * c + s]?.getD 0) ((2 * c + s : Nat) : Int) := fun h => by unfold cellZ; rw [if_pos h]; rfl
  have hc1 : ¬ ((2 * c + s : Nat) : Int) < cs.length → cellZ cs seed ((2 * c + s : Nat) : Int) = mixZ seed ((2 * c + s : Nat) : Int) := fun h => by unfold cellZ; rw [if_neg h]
  have m2 := mix_eq (cs[2 * c + s]?.getD 0) ((2 * c + s : Nat) : Int) (by omega) (by omega)
  unfold B__law_pins_2
  have j1 := pinsJ ws h8 (.lst .frz (cs.map D.int)) (.int seed) t b (.int c) acc ha
  generalize hK : 2 * c + s = K at *
  by_cases q : (K : Int) < cs.length
  · have a1 : atI (cs.map D.int) (K : Int) = some (.int cs[K]!) := atI_mget (by omega)
    rw [hc0 q]
    simp [hk, m1, q, a1, m2, j1 _ (mixZ_nonneg _ _)]
  · rw [hc1 q]
    simp [hk, m1, q, j1 _ (mixZ_nonneg _ _)]
theorem rd_nms {xs : List (Option Nm)} : rdL (xs.map nmD) = xs.map nmD := by rw [rdL_map]; simp
def topZ (ws : List Nm) (cs : List Int) (seed : Int) (n : Nat) (s : Nat) : List (Option Nm) := (List.range n).map fun c => pinZ ws (cellZ cs seed ((2 * c + s : Nat) : Int))
theorem pins_eq (ws : List Nm) (h8 : ws.length = 8) (cs : List Int) (hc : cs.length ≤ 1000) (seed : Int) (n : Nat) (hn : n ≤ 100) :
    M__law_pins (.lst .frz (ws.map fun w => .str (S w))) (.lst .frz (cs.map D.int)) (.int seed) (.int n) = .ok (.tup [.lst .frz ((topZ ws cs seed n 0).map nmD), .lst .frz ((topZ ws cs seed n 1).map nmD)]) := by
  have row : ∀ (t b : D) (c : Nat), c < 100 → forV (fun d s => B__law_pins_2 (.lst .frz (ws.map fun w => .str (S w))) (.lst .frz (cs.map D.int)) (.int seed) t b (.int c) d s) [.int 0, .int 1] (.lst .own []) = .ok (.nx (.lst .own [nmD (pinZ ws (cellZ cs seed ((2 * c + 0 : Nat) : Int))), nmD (pinZ ws (cellZ cs seed ((2 * c + 1 : Nat) : Int)))])) := by
    intro t b c hcc
    have p0 := pins2 ws h8 cs hc seed t b c 0 (by omega) [] (by simp)
    have p1 := pins2 ws h8 cs hc seed t b c 1 (by omega) [pinZ ws (cellZ cs seed ((2 * c + 0 : Nat) : Int))] (by simp)
    simp only [List.map_nil, List.nil_append, List.map_cons, List.cons_append] at p0 p1
    rw [forV_cons]
    rw [show (D.int 0) = D.int ((0 : Nat) : Int) from rfl, p0]
    simp only [rb_ok]
    rw [forV_cons, show (D.int 1) = D.int ((1 : Nat) : Int) from rfl, p1]
    rfl
  have hr := rng0 n
  obtain ⟨s', l1, rfl⟩ := forV_inv (f := fun d s => B__law_pins_1 (.lst .frz (ws.map fun w => .str (S w))) (.lst .frz (cs.map D.int)) (.int seed) d s.1 s.2) (ei := fun i : Nat => D.int (i : Int))
    (fun pre s => s = (D.lst .own ((pre.map fun c => pinZ ws (cellZ cs seed ((2 * c + 0 : Nat) : Int))).map nmD), D.lst .own ((pre.map fun c => pinZ ws (cellZ cs seed ((2 * c + 1 : Nat) : Int))).map nmD))) (List.range n) rfl (by
      rintro pre c post s e rfl
      have hlen := congrArg List.length e
      rw [List.length_range, List.length_append, List.length_cons] at hlen
      have hb : pre.length < 1000000 := by omega
      have hc : c < 100 := by
        have : c ∈ List.range n := by rw [e]; simp
        rw [List.mem_range] at this
        omega
      refine ⟨_, ?_, rfl⟩
      have r2 : rng1 [.int 2] = .ok [.int 0, .int 1] := rfl
      unfold B__law_pins_1
      simp [r2, row _ _ c hc, hb])
  have r1 : rng1 [.int (n : Int)] = .ok ((List.range n).map fun i : Nat => D.int (i : Int)) := by rw [rng1_nat (by omega), hr]
  unfold M__law_pins
  simp only [List.map_nil] at l1
  simp [r1, l1, topZ]
theorem eqD_nm (a b : Option Nm) : eqD (nmD a) (nmD b) = decide (a = b) := by
  have := nm_eq a b
  unfold dEq at this
  split at this
  · injection this with h; injection h
  · cases this
theorem flat_nm (a : Option Nm) : flatD (nmD a) = true := by cases a <;> rfl
theorem inL_nms (a : Option Nm) : ∀ xs : List (Option Nm), inL (nmD a) (xs.map nmD) = decide (a ∈ xs)
  | [] => rfl
  | x :: xs => by
    have ih := inL_nms a xs
    unfold inL at ih ⊢
    rw [List.map_cons, List.any_cons, ih, eqD_nm]
    by_cases h : x = a
    · subst h; simp
    · have : ¬ a = x := fun z => h z.symm
      simp [h, this]
theorem all_flat (xs : List (Option Nm)) : (xs.map nmD).all flatD = true := by simp [flat_nm]
@[simp] theorem in_nms {t : Tag} (a : Option Nm) (xs : List (Option Nm)) : dIn1 (nmD a) (.nd t .lst (xs.map nmD)) = .ok (.bl (decide (a ∈ xs))) := by
  rw [dIn1_lst (flat_nm a) (all_flat xs), inL_nms]
@[simp] theorem nin_nms {t : Tag} (a : Option Nm) (xs : List (Option Nm)) : dIn0 (nmD a) (.nd t .lst (xs.map nmD)) = .ok (.bl (!decide (a ∈ xs))) := by
  rw [dIn0_lst (flat_nm a) (all_flat xs), inL_nms]
theorem strs_nms (ls : List Nm) : (ls.map fun w => D.str (S w)) = (ls.map some).map nmD := by rw [List.map_map]; rfl
theorem mem_somes {ls : List Nm} {w : Nm} : some w ∈ ls.map some ↔ w ∈ ls := by simp
@[simp] theorem in_strs {t : Tag} (w : Nm) (ls : List Nm) : dIn1 (.str (S w)) (.nd t .lst (ls.map fun w => .str (S w))) = .ok (.bl (decide (w ∈ ls))) := by
  rw [strs_nms, show D.str (S w) = nmD (some w) from rfl, in_nms]
  simp
@[simp] theorem nin_strs {t : Tag} (w : Nm) (ls : List Nm) : dIn0 (.str (S w)) (.nd t .lst (ls.map fun w => .str (S w))) = .ok (.bl (!decide (w ∈ ls))) := by
  rw [strs_nms, show D.str (S w) = nmD (some w) from rfl, nin_nms]
  simp
@[simp] theorem in_nm_strs {t : Tag} (a : Option Nm) (ls : List Nm) : dIn1 (nmD a) (.nd t .lst (ls.map fun w => .str (S w))) = .ok (.bl (decide (a ∈ ls.map some))) := by
  rw [strs_nms, in_nms]
@[simp] theorem in_str_nms {t : Tag} (w : Nm) (xs : List (Option Nm)) : dIn1 (.str (S w)) (.nd t .lst (xs.map nmD)) = .ok (.bl (decide (some w ∈ xs))) := by
  rw [show D.str (S w) = nmD (some w) from rfl, in_nms]
def AllOk (xs : List (Option Nm)) : Prop := ∀ x ∈ xs, NmOk x
theorem pl_nms {xs : List (Option Nm)} (h : AllOk xs) (n : Nat) : plL n (xs.map nmD) = true := by
  rw [plL_eq, List.all_eq_true]
  intro d hd
  obtain ⟨x, hx, rfl⟩ := List.mem_map.mp hd
  exact pl_nm (h x hx) n
theorem cnt_nms {t : Tag} {xs : List (Option Nm)} {a : Option Nm} (h : AllOk xs) (ha : NmOk a) : dCnt (.nd t .lst (xs.map nmD)) (nmD a) = .ok (.int (xs.count a : Nat)) := by
  have h1 : plD 50 (.nd t .lst (xs.map nmD)) = true := by rw [plD]; exact pl_nms h 49
  show (if plD 50 (.nd t .lst (xs.map nmD)) = true ∧ plD 50 (nmD a) = true then Res.ok (D.int ((xs.map nmD).countP fun z => eqD z (nmD a) : Nat)) else .stuck) = _
  rw [if_pos ⟨h1, pl_nm ha 50⟩, List.countP_map]
  congr 4
  funext x
  show eqD (nmD x) (nmD a) = (x == a)
  rw [eqD_nm]
  by_cases e : x = a <;> simp [e]
def allZ (top bottom : List (Option Nm)) (left right : List Nm) : List (Option Nm) := top ++ bottom ++ left.map some ++ right.map some
theorem many_eq (top bottom : List (Option Nm)) (left right : List Nm) (w : Nm) (hok : AllOk (allZ top bottom left right)) (hw : NameL w) (hl : (allZ top bottom left right).length ≤ 1000) :
    M__law_many (.lst .frz (top.map nmD)) (.lst .frz (bottom.map nmD)) (.lst .frz (left.map fun w => .str (S w))) (.lst .frz (right.map fun w => .str (S w))) (.str (S w)) = .ok (.int ((allZ top bottom left right).count (some w) : Nat)) := by
  have hl' : top.length + bottom.length + left.length + right.length ≤ 1000 := by
    unfold allZ at hl
    simp at hl
    omega
  have hc := cnt_nms (t := .tmp) hok (a := some w) (fun l h => by cases h; exact hw)
  unfold M__law_many
  unfold allZ at hc
  rw [strs_nms left, strs_nms right]
  have e : ∀ a b : List (Option Nm), a.map nmD ++ b.map nmD = (a ++ b).map nmD := fun a b => by rw [List.map_append]
  have h1 : top.length + bottom.length ≤ 1000000 := by omega
  have h2 : top.length + bottom.length + left.length ≤ 1000000 := by omega
  have h3 : top.length + bottom.length + left.length + right.length ≤ 1000000 := by omega
  simp only [rd_frz, rd_nms, dAdd_lst, List.length_map, bigL_e, h1, if_true, rb_ok, e, List.length_append, h2, h3, chk_e, noT_own, noTL_map, noT_nmD, List.all_eq_true, implies_true, rd_own, cntV_e, rd_str, show D.str (S w) = nmD (some w) from rfl, rd_nmD, hc, noT_int, okR_e]
  simp [hc, allZ, rd_nms]
theorem atI_nm {xs : List (Option Nm)} {c : Nat} (h : c < xs.length) : atI (xs.map nmD) (c : Int) = some (nmD (xs[c]?.getD none)) := by
  refine atI_lit ?_
  rw [List.getElem?_map, List.getElem?_eq_getElem h]
  rfl
def placesZ (top bottom : List (Option Nm)) (left right : List Nm) (w : Nm) : List Int :=
  (((List.range top.length).filter fun c => decide (some w ∈ [top[c]?.getD none, bottom[c]?.getD none])).map fun c : Nat => (c : Int)) ++ (if w ∈ left then [-1] else []) ++ (if w ∈ right then [(top.length : Int)] else [])
@[simp] theorem in_two {t : Tag} (w : Nm) (x y : Option Nm) : dIn1 (.str (S w)) (.nd t .lst [nmD x, nmD y]) = .ok (.bl (decide (some w ∈ [x, y]))) := in_str_nms w [x, y]
theorem stretch_eq (top bottom : List (Option Nm)) (left right : List Nm) (w : Nm) (hl : top.length ≤ 1000) (hb : bottom.length = top.length) :
    M__law_stretch (.lst .frz (top.map nmD)) (.lst .frz (bottom.map nmD)) (.lst .frz (left.map fun w => .str (S w))) (.lst .frz (right.map fun w => .str (S w))) (.str (S w)) =
      .ok (.tup [.int (minS (placesZ top bottom left right w) 99), .int (maxS (placesZ top bottom left right w) (-9))]) := by
  have r1 : rng1 [.int (top.length : Int)] = .ok ((List.range top.length).map fun i : Nat => D.int (i : Int)) := by rw [rng1_nat (by omega), rng0]
  generalize hP : ((List.range top.length).filter fun c => decide (some w ∈ [top[c]?.getD none, bottom[c]?.getD none])) = P
  have hPl : P.length ≤ 1000 := by
    rw [← hP]
    refine Nat.le_trans (List.length_filter_le _ _) ?_
    rw [List.length_range]
    exact hl
  have j2 : ∀ zs : List Int, zs.length ≤ 2000 → J__law_stretch_2 (.lst .own (zs.map D.int)) = .ok (.tup [.int (minS zs 99), .int (maxS zs (-9))]) := by
    intro zs hz
    have hz1 : zs.length + 1 ≤ 1000000 := by omega
    unfold J__law_stretch_2
    simp [hz1, dMin_snoc, dMax_snoc]
  have j1 : ∀ zs : List Int, zs.length ≤ 1500 → J__law_stretch_1 (.lst .frz (top.map nmD)) (.lst .frz (right.map fun w => .str (S w))) (.str (S w)) (.lst .own (zs.map D.int)) =
      .ok (.tup [.int (minS (zs ++ (if w ∈ right then [(top.length : Int)] else [])) 99), .int (maxS (zs ++ (if w ∈ right then [(top.length : Int)] else [])) (-9))]) := by
    intro zs hz
    have hz1 : zs.length < 1000000 := by omega
    unfold J__law_stretch_1
    by_cases h : w ∈ right
    · have k := j2 (zs ++ [(top.length : Int)]) (by simp; omega)
      rw [← intsD_snoc] at k
      simp [h, hz1, k]
    · simp [h, j2 zs (by omega)]
  have lc : ∀ f : D → Res (Option D), (∀ c ∈ List.range top.length, f (.int (c : Int)) = .ok (if decide (some w ∈ [top[c]?.getD none, bottom[c]?.getD none]) = true then some (.int (c : Int)) else none)) →
      lcV f ((List.range top.length).map fun i : Nat => D.int (i : Int)) = .ok ((P.map fun c : Nat => (c : Int)).map D.int) := by
    intro f hf
    rw [lcV_filter (ei := fun i : Nat => D.int (i : Int)) _ _ hf, hP, List.map_map]
    rfl
  unfold M__law_stretch placesZ
  rw [hP]
  have hb0 : (P.map fun c : Nat => (c : Int)).length ≤ 1000000 := by rw [List.length_map]; omega
  simp only [rd_frz, rd_nms, dLen_lst, List.length_map, rb_ok, r1]
  rw [lc _ (by
    intro c hc
    rw [List.mem_range] at hc
    have a1 := atI_nm hc
    have a2 := atI_nm (xs := bottom) (c := c) (by omega)
    simp [a1, a2]
    split <;> simp_all)]
  have k1 := j1 (P.map fun c : Nat => (c : Int)) (by rw [List.length_map]; omega)
  have k2 := j1 ((P.map fun c : Nat => (c : Int)) ++ [-1]) (by rw [List.length_append, List.length_map]; simp; omega)
  rw [← intsD_snoc] at k2
  have hb1 : P.length ≤ 1000000 := by omega
  have hb2 : P.length < 1000000 := by omega
  generalize hZ : (P.map fun c : Nat => (c : Int)) = Z at *
  have hZl : Z.length = P.length := by rw [← hZ, List.length_map]
  by_cases h : w ∈ left
  · simp [h, hb1, hb2, k2, hZl]
  · simp [h, hb1, k1, hZl]
theorem shaped_pl {d : D} (h : plD 50 d = true) : SeqAt.shaped (toP d) = true := by
  obtain ⟨h1, h2⟩ := pl_shaped d 50 h
  unfold SeqAt.shaped
  simp [h1]
  omega
theorem dEq_pl {x y : D} (hx : plD 50 x = true) (hy : plD 50 y = true) : dEq x y = .ok (.bl (eqD x y)) := by
  unfold dEq eqOk
  rw [shaped_pl hx, shaped_pl hy]
  simp
theorem somesOk {ls : List Nm} (h : ∀ w ∈ ls, NameL w) : AllOk (ls.map some) := by
  intro x hx l hl
  obtain ⟨w, hw, rfl⟩ := List.mem_map.mp hx
  rw [← Option.some.inj hl]
  exact h w hw
theorem pl_strs {t : Tag} {ls : List Nm} (h : ∀ w ∈ ls, NameL w) : plD 50 (.nd t .lst (ls.map fun w => .str (S w))) = true := by
  rw [plD, strs_nms]
  exact pl_nms (somesOk h) 49
theorem eq_nil {t u : Tag} {ls : List Nm} (h : ∀ w ∈ ls, NameL w) : dEq (.nd t .lst (ls.map fun w => .str (S w))) (.nd u .lst []) = .ok (.bl (decide (ls = []))) := by
  rw [dEq_pl (pl_strs h) (by rfl)]
  cases ls with
  | nil => simp [eqD, toP, toPL, PyData.eqv, PyData.eqvAll]
  | cons w ls => simp [eqD, toP, toPL, PyData.eqv, PyData.eqvAll]
def oneB (cs : List Int) (seed : Int) (c : Nat) : Int := mixZ ((cs ++ [seed])[c % (cs.length + 1)]?.getD 0) ((c + 200 : Nat) : Int)
def wordB (ws : List Nm) (top : List (Option Nm)) (one : Int) (c : Nat) : Nm := if one / 8 % 3 = 0 then (top[c]?.getD none).getD ws[(one % 8).toNat]! else ws[(one % 8).toNat]!
def hereB (top bottom : List (Option Nm)) (c : Nat) : List Nm := [top[c]?.getD none, bottom[c]?.getD none].filterMap id
def bendB (top bottom : List (Option Nm)) (left right : List Nm) (c : Nat) (one : Int) (w : Nm) : List (Int × Nm) :=
  if minS (placesZ top bottom left right w) 99 < c ∧ (c : Int) < maxS (placesZ top bottom left right w) (-9) ∧ (hereB top bottom c = [] ∨ w ∈ hereB top bottom c) ∧ 0 < one / 24 % 3 then [((c : Int), w)] else []
def bendsZ (ws : List Nm) (cs : List Int) (seed : Int) (top bottom : List (Option Nm)) (left right : List Nm) : List (Int × Nm) :=
  (List.range top.length).flatMap fun c => bendB top bottom left right c (oneB cs seed c) (wordB ws top (oneB cs seed c) c)
def bdD (b : Int × Nm) : D := .tup [.int b.1, .str (S b.2)]
@[simp] theorem rd_bdD (b : Int × Nm) : rd (bdD b) = bdD b := by simp [bdD]
@[simp] theorem fz_bdD (b : Int × Nm) : fz (bdD b) = bdD b := by simp [bdD]
@[simp] theorem fa_bdD (b : Int × Nm) : fa (bdD b) = bdD b := by simp [bdD]
@[simp] theorem noT_bdD (b : Int × Nm) : noT (bdD b) = true := by simp [bdD]
section
variable {ws : List Nm} {cs : List Int} {seed : Int} {top bottom : List (Option Nm)} {left right : List Nm}
theorem here_ok (htop : AllOk top) (hbot : AllOk bottom) (c : Nat) : ∀ w ∈ hereB top bottom c, NameL w := by
  intro w hw
  unfold hereB at hw
  simp only [List.mem_filterMap, List.mem_cons, List.not_mem_nil, or_false, id] at hw
  obtain ⟨a, h1, rfl⟩ := hw
  have key : ∀ xs : List (Option Nm), AllOk xs → some w = xs[c]?.getD none → NameL w := by
    intro xs hx e
    cases h : xs[c]? with
    | none => rw [h] at e; cases e
    | some y =>
      rw [h] at e
      exact hx y (List.mem_of_getElem? h) w e.symm
  rcases h1 with h1 | h1
  · exact key _ htop h1
  · exact key _ hbot h1
theorem bendsJ (W C SD : D) (htop : AllOk top) (hbot : AllOk bottom) (hl : top.length ≤ 1000) (hb : bottom.length = top.length) (c : Nat) (hc : c < top.length) (one : Int) (h0 : 0 ≤ one) (w : Nm) (acc : List (Int × Nm)) (ha : acc.length < 2000) :
    J__law_bends_1 W C SD (.lst .frz (top.map nmD)) (.lst .frz (bottom.map nmD)) (.lst .frz (left.map fun w => .str (S w))) (.lst .frz (right.map fun w => .str (S w))) (.lst .own (acc.map bdD)) (.int c) (.int one) (.str (S w)) =
      .ok (.nx (.lst .own ((acc ++ bendB top bottom left right c one w).map bdD))) := by
  have st := stretch_eq top bottom left right w hl hb
  have a1 := atI_nm hc
  have a2 := atI_nm (xs := bottom) (c := c) (by omega)
  have hk := here_ok htop hbot c
  have lc : ∀ f : D → Res (Option D), (∀ x : Option Nm, f (nmD x) = .ok (if x.isSome = true then some (nmD x) else none)) → lcV f [nmD (top[c]?.getD none), nmD (bottom[c]?.getD none)] = .ok ((hereB top bottom c).map fun w => .str (S w)) := by
    intro f hf
    have := lcV_eq (f := f) (ei := nmD) (fun w => D.str (S w)) (fun x : Option Nm => x) [top[c]?.getD none, bottom[c]?.getD none] (fun x _ => by rw [hf]; cases x <;> rfl)
    exact this
  unfold J__law_bends_1 bendB
  generalize hH : hereB top bottom c = H at *
  have hHl : H.length ≤ 2 := by
    rw [← hH]
    exact Nat.le_trans (List.length_filterMap_le _ _) (by simp)
  generalize minS (placesZ top bottom left right w) 99 = lo at *
  generalize maxS (placesZ top bottom left right w) (-9) = hi at *
  have hb1 : acc.length < 1000000 := by omega
  have hb2 : H.length ≤ 1000000 := by omega
  simp [pe__law_stretch, st, a1, a2]
  rw [lc _ (fun x => by cases x <;> simp [nmD])]
  simp [hb2, eq_nil hk]
  by_cases c1 : lo < (c : Int)
  · by_cases c2 : (c : Int) < hi
    · by_cases c3 : H = []
      · by_cases c4 : 0 < one / 24 % 3
        · simp [c1, c2, c3, c4, hb1, bdD]
        · simp [c1, c2, c3, c4]
      · by_cases c5 : w ∈ H
        · by_cases c4 : 0 < one / 24 % 3
          · simp [c1, c2, c3, c4, c5, hb1, bdD]
          · simp [c1, c2, c3, c4, c5]
        · simp [c1, c2, c3, c5]
    · simp [c1, c2]
  · simp [c1]
theorem bends_eq (h8 : ws.length = 8) (htop : AllOk top) (hbot : AllOk bottom) (hl : top.length ≤ 1000) (hb : bottom.length = top.length) (hc : cs.length ≤ 1000) :
    M__law_bends (.lst .frz [.lst .frz (top.map nmD), .lst .frz (bottom.map nmD), .lst .frz (left.map fun w => .str (S w)), .lst .frz (right.map fun w => .str (S w))]) (.lst .frz (ws.map fun w => .str (S w))) (.lst .frz (cs.map D.int)) (.int seed) =
      .ok (.lst .own ((bendsZ ws cs seed top bottom left right).map bdD)) := by
  have r1 : rng1 [.int (top.length : Int)] = .ok ((List.range top.length).map fun i : Nat => D.int (i : Int)) := by rw [rng1_nat (by omega), rng0]
  have loop := forV_gather (f := fun d s => B__law_bends_1 (.lst .frz (ws.map fun w => .str (S w))) (.lst .frz (cs.map D.int)) (.int seed) (.lst .frz (top.map nmD)) (.lst .frz (bottom.map nmD)) (.lst .frz (left.map fun w => .str (S w))) (.lst .frz (right.map fun w => .str (S w))) d s)
    (ei := fun i : Nat => D.int (i : Int)) bdD (fun c => bendB top bottom left right c (oneB cs seed c) (wordB ws top (oneB cs seed c) c)) 1500 (List.range top.length) [] (by simp; omega) (by
      intro c hcm acc ha
      rw [List.mem_range] at hcm
      obtain ⟨K, hK⟩ : ∃ K : Nat, K = c + 200 := ⟨_, rfl⟩
      obtain ⟨m, hm⟩ : ∃ m : Nat, m = c % (cs.length + 1) := ⟨_, rfl⟩
      have e2 : (c : Int) + 200 = (K : Int) := by omega
      have e1 : (c : Int) % ((cs.length : Int) + 1) = (m : Int) := by rw [hm]; exact (Int.natCast_emod c (cs.length + 1)).symm
      have hlt : m < (cs ++ [seed]).length := by
        rw [hm, List.length_append]
        exact Nat.mod_lt _ (by simp)
      have ix : atI (cs.map D.int ++ [D.int seed]) (m : Int) = some (.int ((cs ++ [seed])[m]?.getD 0)) := by
        rw [intsD_snoc]
        refine atI_lit ?_
        rw [List.getElem?_map, List.getElem?_eq_getElem hlt]
        rfl
      have one0 : oneB cs seed c = mixZ ((cs ++ [seed])[m]?.getD 0) (K : Int) := by unfold oneB; rw [hm, hK]
      generalize (cs ++ [seed])[m]?.getD 0 = cell at *
      have hn := mixZ_nonneg cell (K : Int)
      have m1 := mix_eq cell (K : Int) (by omega) (by omega)
      have p1 : (0 : Int) < (cs.length : Int) + 1 := by omega
      have hcl : cs.length + 1 ≤ 1000000 := by omega
      have at1 := atI_nm hcm
      rw [one0]
      generalize mixZ cell (K : Int) = one at *
      have w1 := wsAt h8 (i := one % 8) (by omega) (by omega)
      have J := fun w => bendsJ (left := left) (right := right) (.lst .frz (ws.map fun w => .str (S w))) (.lst .frz (cs.map D.int)) (.int seed) htop hbot hl hb c hcm one hn w acc (by omega)
      have J0 := J (wordB ws top one c)
      generalize hw0 : ws[(one % 8).toNat]! = w0 at *
      clear hm hK J
      unfold B__law_bends_1
      by_cases q : one / 8 % 3 = 0
      · cases hx : top[c]?.getD none with
        | none =>
          have e3 : wordB ws top one c = w0 := by unfold wordB; rw [if_pos q, hx]; assumption
          rw [e3] at J0 ⊢
          rw [hx] at at1
          have at2 : atI (top.map nmD) (c : Int) = some .non := at1
          simp [e1, e2, p1, hcl, ix, m1, q, at2, w1, J0]
        | some w =>
          have e3 : wordB ws top one c = w := by unfold wordB; rw [if_pos q, hx]; rfl
          rw [e3] at J0 ⊢
          rw [hx] at at1
          have at2 : atI (top.map nmD) (c : Int) = some (.str (S w)) := at1
          simp [e1, e2, p1, hcl, ix, m1, q, at2, w1, J0]
      · have e3 : wordB ws top one c = w0 := by unfold wordB; rw [if_neg q]; assumption
        rw [e3] at J0 ⊢
        simp [e1, e2, p1, hcl, ix, m1, q, w1, J0]) (by intro c _; unfold bendB; split <;> simp)
  have hz : bendsZ ws cs seed top bottom left right = (List.range top.length).flatMap fun c => bendB top bottom left right c (oneB cs seed c) (wordB ws top (oneB cs seed c) c) := rfl
  rw [← hz] at loop
  simp only [List.map_nil, List.nil_append] at loop
  unfold M__law_bends
  simp [r1, rd_nms]
  rw [loop]
  rfl
def kpD (k : Int × Int × Int) : D := .tup [.int k.1, .int k.2.1, .int k.2.2]
@[simp] theorem rd_kpD (b : Int × Int × Int) : rd (kpD b) = kpD b := by simp [kpD]
@[simp] theorem fz_kpD (b : Int × Int × Int) : fz (kpD b) = kpD b := by simp [kpD]
@[simp] theorem fa_kpD (b : Int × Int × Int) : fa (kpD b) = kpD b := by simp [kpD]
@[simp] theorem noT_kpD (b : Int × Int × Int) : noT (kpD b) = true := by simp [kpD]
def keepB (W : Int) (one : Int) : List (Int × Int × Int) := if one / 64 % 4 = 0 then [(one % W, one % W + one / 256 % (W - one % W), 1 + one / 1024 % 3)] else []
def keepsZ (W : Int) (cs : List Int) (seed : Int) : List (Int × Int × Int) := (cs.take 6).zipIdx.flatMap fun p => keepB W (mixZ (p.1 + seed) ((p.2 + 300 : Nat) : Int))
theorem keeps_eq (W : Int) (hW : 0 < W) : M__law_keeps (.int W) (.lst .frz (cs.map D.int)) (.int seed) = .ok (.lst .own ((keepsZ W cs seed).map kpD)) := by
  have hl6 : (cs.take 6).length ≤ 6 := by rw [List.length_take]; omega
  have loop := forV_gather (f := fun d s => B__law_keeps_1 (.int W) (.int seed) d s) (ei := fun p : Int × Nat => .tup [.int (p.2 : Int), .int p.1]) kpD (fun p => keepB W (mixZ (p.1 + seed) ((p.2 + 300 : Nat) : Int))) 100 (cs.take 6).zipIdx [] (by simp; omega) (by
    rintro ⟨v, k⟩ hq acc ha
    have hk : k < 100 := by
      have := List.snd_lt_of_mem_zipIdx hq
      simp at this
      omega
    obtain ⟨K, hK⟩ : ∃ K : Nat, K = k + 300 := ⟨_, rfl⟩
    have e1 : (k : Int) + 300 = (K : Int) := by omega
    have m1 := mix_eq (v + seed) (K : Int) (by omega) (by omega)
    have hn := mixZ_nonneg (v + seed) (K : Int)
    dsimp only
    rw [← hK]
    generalize mixZ (v + seed) (K : Int) = one at *
    have f1 := Int.emod_nonneg one (show W ≠ 0 by omega)
    have f2 := Int.emod_lt_of_pos one hW
    have p2 : 0 < W - one % W := by omega
    have hb : acc.length < 1000000 := by omega
    unfold B__law_keeps_1 keepB
    by_cases q : one / 64 % 4 = 0
    · simp [e1, m1, hW, q, hb, kpD, Int.sub_pos.mp p2]
    · simp [e1, m1, hW, q]) (by intro c _; unfold keepB; split <;> simp)
  have hz : keepsZ W cs seed = (cs.take 6).zipIdx.flatMap fun p => keepB W (mixZ (p.1 + seed) ((p.2 + 300 : Nat) : Int)) := rfl
  rw [← hz] at loop
  simp only [List.map_nil, List.nil_append] at loop
  have e := enumD_map (ei := D.int) (cs.take 6) 0
  rw [← e] at loop
  unfold M__law_keeps
  have hcut : cutL cs none (some 6) = cs.take 6 := cutL_to (by decide)
  simp [hcut, loop, -List.map_take]
def sortN (ls : List Nm) : List Nm := ls.mergeSort fun a b => decide (a ≤ b)
theorem sort_nms {t : Tag} (ls : List Nm) (h : ∀ w ∈ ls, NameL w) : dSort [.nd t .lst (ls.map fun w => .str (S w))] = .ok (.lst .own ((sortN ls).map fun w => .str (S w))) := sort_strs S ls fun w hw => strOk_let (h w hw).2.2
def openL (ws : List Nm) (bits : Int) : List Nm := ((List.range 8).filter fun k => bits / (2 ^ k : Int) % 2 == 1).map fun k => ws[k]!
def openZ (ws : List Nm) (bits : Int) : List Nm := if bits / 256 % 2 = 0 then [] else sortN (openL ws bits)
theorem pows (k : Nat) (h : k < 8) : atI [D.int 1, .int 2, .int 4, .int 8, .int 16, .int 32, .int 64, .int 128] (k : Int) = some (.int (2 ^ k : Int)) ∧ OkDiv 0 (2 ^ k : Int) := by
  rcases (show k = 0 ∨ k = 1 ∨ k = 2 ∨ k = 3 ∨ k = 4 ∨ k = 5 ∨ k = 6 ∨ k = 7 by omega) with rfl | rfl | rfl | rfl | rfl | rfl | rfl | rfl <;> exact ⟨rfl, by unfold OkDiv; decide⟩
theorem open_eq (h8 : ws.length = 8) (hok : ∀ w ∈ ws, NameL w) (bits : Int) : M__law_open (.lst .frz (ws.map fun w => .str (S w))) (.int bits) = .ok (.lst .own ((openZ ws bits).map fun w => .str (S w))) := by
  have r1 : rng1 [.int 8] = .ok ((List.range 8).map fun i : Nat => D.int (i : Int)) := rfl
  have lc : ∀ f : D → Res (Option D), (∀ k < 8, f (.int ((k : Nat) : Int)) = .ok (if bits / (2 ^ k : Int) % 2 = 1 then some (.str (S ws[k]!)) else none)) →
      lcV f ((List.range 8).map fun i : Nat => D.int (i : Int)) = .ok ((openL ws bits).map fun w => .str (S w)) := by
    intro f hf
    unfold openL
    rw [lcV_eq (ei := fun i : Nat => D.int (i : Int)) (fun w : Nm => D.str (S w)) (fun k => if (bits / (2 ^ k : Int) % 2 == 1) = true then some ws[k]! else none) _ (fun k hk => by
      rw [hf k (List.mem_range.mp hk)]
      by_cases q : bits / (2 ^ k : Int) % 2 = 1 <;> simp [q])]
    congr 2
    generalize List.range 8 = l
    induction l with
    | nil => rfl
    | cons x l ih =>
      rw [List.filter_cons, List.filterMap_cons]
      by_cases q : bits / (2 ^ x : Int) % 2 = 1
      · simp only [q, beq_self_eq_true, if_true, List.map_cons]
        rw [ih]
      · simp only [q, beq_iff_eq, if_false]
        rw [← ih]
        simp only [beq_iff_eq]
  unfold M__law_open openZ
  by_cases q : bits / 256 % 2 = 0
  · simp [q]
  · simp [q, r1]
    rw [lc _ (by
      intro k hk
      obtain ⟨h1, h2⟩ := pows k hk
      have h3 : OkDiv bits (2 ^ k : Int) := h2
      have a1 : atI (ws.map fun w => D.str (S w)) (k : Int) = some (.str (S ws[k]!)) := atI_mget (by omega)
      generalize ws[k]! = w at *
      generalize (2 ^ k : Int) = z at *
      by_cases q : bits / z % 2 = 1
      · simp [h1, h3, q, a1]
      · simp [h1, h3, q])]
    have hLl : (openL ws bits).length ≤ 8 := by
      unfold openL
      rw [List.length_map]
      exact List.length_filter_le _ _
    have hLo : ∀ w ∈ openL ws bits, NameL w := by
      intro w hw
      unfold openL at hw
      obtain ⟨k, hk, rfl⟩ := List.mem_map.mp hw
      have := List.mem_range.mp (List.mem_filter.mp hk).1
      exact hok _ (mem_at (by omega))
    generalize openL ws bits = L at *
    have hb : L.length ≤ 1000000 := by omega
    simp [hb, sort_nms L hLo]
end
theorem bstep {α β : Type} {a : Res α} {x : α} {k : α → Res β} {r : Res β} (h : a = .ok x) (h2 : k x = r) : a.bind k = r := by rw [h]; exact h2
structure Ch where
  top : List (Option Nm)
  bottom : List (Option Nm)
  left : List Nm
  right : List Nm
  wide : List (Nm × Int)
  bends : List (Int × Nm)
  keeps : List (Int × Int × Int)
def wdD (p : Nm × Int) : D := .tup [.str (S p.1), .int p.2]
@[simp] theorem rd_wdD (b : Nm × Int) : rd (wdD b) = wdD b := by simp [wdD]
@[simp] theorem fz_wdD (b : Nm × Int) : fz (wdD b) = wdD b := by simp [wdD]
@[simp] theorem fa_wdD (b : Nm × Int) : fa (wdD b) = wdD b := by simp [wdD]
@[simp] theorem noT_wdD (b : Nm × Int) : noT (wdD b) = true := by simp [wdD]
def chL (t : Tag) (h : Ch) : List D := [.nd t .lst (h.top.map nmD), .nd t .lst (h.bottom.map nmD), .nd t .lst (h.left.map fun w => .str (S w)), .nd t .lst (h.right.map fun w => .str (S w)), .nd t .lst (h.wide.map wdD), .nd t .lst (h.bends.map bdD), .nd t .lst (h.keeps.map kpD)]
def seedZ (m : Int) : Int := m % 1000000000000000000000000000000 * 40014 % 2147483563
def loneZ (ws : List Nm) (top bottom : List (Option Nm)) (left right : List Nm) : List Nm := ws.filter fun w => (allZ top bottom left right).count (some w) == 1
def easeP (lone : List Nm) (x : Option Nm) : Option Nm := if x ∈ lone.map some then none else x
def wideB (seed : Int) (all : List (Option Nm)) (w : Nm) (k : Nat) : List (Nm × Int) := if mixZ (seed + k) 500 % 4 = 0 ∧ 1 < all.count (some w) then [(w, 2 + mixZ (seed + k) 500 / 4 % 2)] else []
def wideZ (ws : List Nm) (seed : Int) (all : List (Option Nm)) : List (Nm × Int) := (sortN ws).zipIdx.flatMap fun p => wideB seed all p.1 p.2
def bitsZ (cs : List Int) (seed : Int) : Int := mixZ (cs.take 1).sum (400 + seed % 7)
def chanZ (ws : List Nm) (cs : List Int) (seed : Int) (W : Nat) : Ch :=
  let top := topZ ws cs seed W 0
  let bottom := topZ ws cs seed W 1
  let left := openZ ws (bitsZ cs seed)
  let right := openZ ws (bitsZ cs seed / 512)
  let lone := loneZ ws top bottom left right
  let top' := top.map (easeP lone)
  let bottom' := bottom.map (easeP lone)
  let left' := left.filter fun w => !decide (w ∈ lone)
  let right' := right.filter fun w => !decide (w ∈ lone)
  { top := top', bottom := bottom', left := left', right := right', wide := wideZ ws seed (allZ top' bottom' left' right'), bends := bendsZ ws cs seed top' bottom' left' right',
    keeps := if seed / 97 % 3 = 0 then keepsZ W cs seed else [] }
theorem mem_sortN {ls : List Nm} {w : Nm} : w ∈ sortN ls ↔ w ∈ ls := (List.mergeSort_perm ls _).mem_iff
theorem len_sortN {ls : List Nm} : (sortN ls).length = ls.length := List.length_mergeSort ls
theorem openZ_ok {ws : List Nm} (h8 : ws.length = 8) {bits : Int} : (∀ w ∈ openZ ws bits, w ∈ ws) ∧ (openZ ws bits).length ≤ 8 := by
  unfold openZ
  split
  · simp
  · rw [len_sortN]
    refine ⟨fun w hw => ?_, ?_⟩
    · rw [mem_sortN] at hw
      unfold openL at hw
      obtain ⟨k, hk, rfl⟩ := List.mem_map.mp hw
      have := List.mem_range.mp (List.mem_filter.mp hk).1
      exact mem_at (by omega)
    · unfold openL
      rw [List.length_map]
      exact List.length_filter_le _ _
theorem pinZ_ok {ws : List Nm} (h8 : ws.length = 8) {one : Int} (h0 : 0 ≤ one) : ∀ w, pinZ ws one = some w → w ∈ ws := by
  intro w hw
  unfold pinZ at hw
  split at hw
  · cases hw; exact mem_at (by omega)
  split at hw
  · cases hw; exact mem_at (by omega)
  split at hw
  · cases hw; exact mem_at (by omega)
  · cases hw
theorem topZ_ok {ws : List Nm} (h8 : ws.length = 8) {cs : List Int} {seed : Int} {n s : Nat} : ∀ x ∈ topZ ws cs seed n s, ∀ w, x = some w → w ∈ ws := by
  intro x hx w e
  obtain ⟨c, hc, rfl⟩ := List.mem_map.mp hx
  exact pinZ_ok h8 (cellZ_nonneg _ _ _) w e
theorem easeP_ok {lone : List Nm} {x : Option Nm} {w : Nm} (h : easeP lone x = some w) : x = some w := by
  unfold easeP at h
  split at h
  · cases h
  · exact h
structure ChOk (ws : List Nm) (W : Nat) (h : Ch) : Prop where
  lt : h.top.length = W
  lb : h.bottom.length = W
  top : ∀ x ∈ h.top, ∀ w, x = some w → w ∈ ws
  bottom : ∀ x ∈ h.bottom, ∀ w, x = some w → w ∈ ws
  left : ∀ w ∈ h.left, w ∈ ws
  right : ∀ w ∈ h.right, w ∈ ws
  ll : h.left.length ≤ 8
  lr : h.right.length ≤ 8
  wide : ∀ p ∈ h.wide, p.1 ∈ ws
  bends : ∀ p ∈ h.bends, p.2 ∈ ws
  lw : h.wide.length ≤ 8
  lbd : h.bends.length ≤ W
  lk : h.keeps.length ≤ 6
theorem topZ_len {ws : List Nm} {cs : List Int} {seed : Int} {n s : Nat} : (topZ ws cs seed n s).length = n := by simp [topZ]
theorem flatMap_len {α β : Type} {g : α → List β} (h : ∀ x, (g x).length ≤ 1) : ∀ l : List α, (l.flatMap g).length ≤ l.length
  | [] => by simp
  | x :: l => by
    have := flatMap_len h l
    have := h x
    rw [List.flatMap_cons, List.length_append, List.length_cons]
    omega
theorem chanZ_ok {ws : List Nm} (h8 : ws.length = 8) {cs : List Int} {seed : Int} {W : Nat} : ChOk ws W (chanZ ws cs seed W) := by
  refine ⟨by simp [chanZ, topZ_len], by simp [chanZ, topZ_len], ?_, ?_, ?_, ?_, ?_, ?_, ?_, ?_, ?_, ?_, ?_⟩
  · intro x hx w e
    simp only [chanZ] at hx
    obtain ⟨y, hy, rfl⟩ := List.mem_map.mp hx
    exact topZ_ok h8 y hy w (easeP_ok e)
  · intro x hx w e
    simp only [chanZ] at hx
    obtain ⟨y, hy, rfl⟩ := List.mem_map.mp hx
    exact topZ_ok h8 y hy w (easeP_ok e)
  · intro w hw
    simp only [chanZ] at hw
    exact (openZ_ok h8).1 w (List.mem_filter.mp hw).1
  · intro w hw
    simp only [chanZ] at hw
    exact (openZ_ok h8).1 w (List.mem_filter.mp hw).1
  · simp only [chanZ]
    exact Nat.le_trans (List.length_filter_le _ _) (openZ_ok h8).2
  · simp only [chanZ]
    exact Nat.le_trans (List.length_filter_le _ _) (openZ_ok h8).2
  · intro p hp
    simp only [chanZ, wideZ] at hp
    obtain ⟨q, hq, h⟩ := List.mem_flatMap.mp hp
    unfold wideB at h
    split at h
    · rw [List.mem_singleton] at h
      subst h
      exact mem_sortN.mp (List.fst_mem_of_mem_zipIdx hq)
    · cases h
  · intro p hp
    simp only [chanZ, bendsZ] at hp
    obtain ⟨c, hc, h⟩ := List.mem_flatMap.mp hp
    unfold bendB at h
    split at h
    · rw [List.mem_singleton] at h
      subst h
      have k := mem_at (xs := ws) (k := (oneB cs seed c % 8).toNat) (by omega)
      dsimp only
      unfold wordB
      split
      · cases e : (List.map (easeP (loneZ ws (topZ ws cs seed W 0) (topZ ws cs seed W 1) (openZ ws (bitsZ cs seed)) (openZ ws (bitsZ cs seed / 512)))) (topZ ws cs seed W 0))[c]?.getD none with
        | none => exact k
        | some w =>
          generalize hL : List.map (easeP (loneZ ws (topZ ws cs seed W 0) (topZ ws cs seed W 1) (openZ ws (bitsZ cs seed)) (openZ ws (bitsZ cs seed / 512)))) (topZ ws cs seed W 0) = L at *
          cases h2 : L[c]? with
          | none => rw [h2] at e; cases e
          | some y =>
            rw [h2] at e
            have := List.mem_of_getElem? h2
            rw [← hL] at this
            obtain ⟨z, hz, rfl⟩ := List.mem_map.mp this
            exact topZ_ok h8 z hz w (easeP_ok e)
      · exact k
    · cases h
  · simp only [chanZ, wideZ]
    refine Nat.le_trans (flatMap_len (fun p => by unfold wideB; split <;> simp) _) ?_
    rw [List.length_zipIdx, len_sortN]
    omega
  · simp only [chanZ, bendsZ]
    refine Nat.le_trans (flatMap_len (fun c => by unfold bendB; split <;> simp) _) ?_
    rw [List.length_range, List.length_map, topZ_len]
    exact Nat.le_refl _
  · simp only [chanZ]
    split
    · unfold keepsZ
      refine Nat.le_trans (flatMap_len (fun p => by unfold keepB; split <;> simp) _) ?_
      rw [List.length_zipIdx, List.length_take]
      omega
    · simp
theorem allOk_of {ws : List Nm} (hok : ∀ w ∈ ws, NameL w) {xs : List (Option Nm)} (h : ∀ x ∈ xs, ∀ w, x = some w → w ∈ ws) : AllOk xs := fun x hx w e => hok w (h x hx w e)
theorem all_ok {ws : List Nm} (hok : ∀ w ∈ ws, NameL w) {top bottom : List (Option Nm)} {left right : List Nm} (h1 : ∀ x ∈ top, ∀ w, x = some w → w ∈ ws) (h2 : ∀ x ∈ bottom, ∀ w, x = some w → w ∈ ws) (h3 : ∀ w ∈ left, w ∈ ws) (h4 : ∀ w ∈ right, w ∈ ws) : AllOk (allZ top bottom left right) := by
  intro x hx
  unfold allZ at hx
  simp only [List.mem_append] at hx
  rcases hx with ((hx | hx) | hx) | hx
  · exact fun w e => hok w (h1 x hx w e)
  · exact fun w e => hok w (h2 x hx w e)
  · obtain ⟨w, hw, rfl⟩ := List.mem_map.mp hx
    intro l e
    rw [← Option.some.inj e]
    exact hok w (h3 w hw)
  · obtain ⟨w, hw, rfl⟩ := List.mem_map.mp hx
    intro l e
    rw [← Option.some.inj e]
    exact hok w (h4 w hw)
theorem rd_strs {ls : List Nm} : rdL (ls.map fun w => D.str (S w)) = ls.map fun w => .str (S w) := by rw [rdL_map]; simp
theorem fz_strs {ls : List Nm} : fzL (ls.map fun w => D.str (S w)) = ls.map fun w => .str (S w) := by rw [fzL_map]; simp
theorem fz_nms {xs : List (Option Nm)} : fzL (xs.map nmD) = xs.map nmD := by rw [fzL_map]; simp
theorem fa_strs {ls : List Nm} : faL (ls.map fun w => D.str (S w)) = ls.map fun w => .str (S w) := by rw [faL_map]; simp
theorem fa_nms {xs : List (Option Nm)} : faL (xs.map nmD) = xs.map nmD := by rw [faL_map]; simp
theorem chan_eq (ns : List Int) (hn : ns.length ≤ 63) (most : Int) (hm0 : 1 ≤ most) (hm1 : most ≤ 40) (m : Int) (hm : (cutL ns none (some 1)).sum = m) (ws : List Nm) (h8 : ws.length = 8) (hok : ∀ w ∈ ws, NameL w)
    (hw : Φ__law_named [.int m] = .ok (.lst .own (ws.map fun w => .str (S w)))) :
    M__law_channel_v2 (.lst .frz (ns.map D.int)) (.int most) = .ok (.lst .own (chL .frz (chanZ ws (ns.drop 1) (seedZ m) (1 + seedZ m % most).toNat))) := by
  obtain ⟨W, hW⟩ : ∃ W : Nat, W = (1 + seedZ m % most).toNat := ⟨_, rfl⟩
  rw [← hW]
  have s0 : 0 ≤ seedZ m := Int.emod_nonneg _ (by decide)
  have f1 := Int.emod_nonneg (seedZ m) (show most ≠ 0 by omega)
  have f2 := Int.emod_lt_of_pos (seedZ m) (show 0 < most by omega)
  have hWi : 1 + seedZ m % most = (W : Int) := by omega
  have hW1 : 1 ≤ W ∧ W ≤ 40 := by omega
  have hsd : m % 1000000000000000000000000000000 * 40014 % 2147483563 = seedZ m := rfl
  have hcut : cutL ns (some 1) none = ns.drop 1 := cutL_from (by decide)
  have hcs : (ns.drop 1).length ≤ 62 := by rw [List.length_drop]; omega
  have hcut2 : cutL ns (some 1) (some 2) = (ns.drop 1).take 1 := cutL_mid (by decide) (by decide)
  have hmp : 0 < most := by omega
  have hbm := mix_eq ((ns.drop 1).take 1).sum (400 + seedZ m % 7) (by omega) (by omega)
  have hbz : mixZ ((ns.drop 1).take 1).sum (400 + seedZ m % 7) = bitsZ (ns.drop 1) (seedZ m) := rfl
  rw [hbz] at hbm
  generalize hcsE : ns.drop 1 = cs at *
  generalize hsE : seedZ m = seed at *
  have pe := pins_eq ws h8 cs (by omega) seed W (by omega)
  have ct := topZ_ok (cs := cs) (seed := seed) (n := W) (s := 0) h8
  have cb := topZ_ok (cs := cs) (seed := seed) (n := W) (s := 1) h8
  have lt0 := topZ_len (ws := ws) (cs := cs) (seed := seed) (n := W) (s := 0)
  have lb0 := topZ_len (ws := ws) (cs := cs) (seed := seed) (n := W) (s := 1)
  have oe := open_eq (ws := ws) h8 hok
  have ol := openZ_ok (ws := ws) h8 (bits := bitsZ cs seed)
  have or_ := openZ_ok (ws := ws) h8 (bits := bitsZ cs seed / 512)
  have oe1 := oe (bitsZ cs seed)
  have oe2 := oe (bitsZ cs seed / 512)
  have CO := chanZ_ok (ws := ws) h8 (cs := cs) (seed := seed) (W := W)
  unfold chanZ at CO ⊢
  generalize topZ ws cs seed W 0 = top at *
  generalize topZ ws cs seed W 1 = bottom at *
  generalize bitsZ cs seed = bits at *
  generalize openZ ws bits = left at *
  generalize openZ ws (bits / 512) = right at *
  have aok := all_ok hok ct cb ol.1 or_.1
  have alen : (allZ top bottom left right).length ≤ 1000 := by unfold allZ; simp; omega
  have me := fun w hw => many_eq top bottom left right w aok (hok w hw) alen
  unfold M__law_channel_v2
  refine bstep (x := D.int seed) (by simp [hm, hsd]) ?_
  refine bstep (x := D.lst .own (ws.map fun w => .str (S w))) (by simp [hm, hw]) ?_
  refine bstep (x := D.int W) (by simp [hmp, hWi]) ?_
  refine bstep (x := D.lst .own (cs.map D.int)) (by simp [hcut]) ?_
  refine bstep (x := ((.lst .frz (top.map nmD), .lst .frz (bottom.map nmD)) : D × D)) (by simp [pe__law_pins, rd_strs, fz_strs, pe, rd_nms, fz_nms]) ?_
  refine bstep (x := D.int bits) (by simp [hcut2, hbm, -List.map_take]) ?_
  refine bstep (x := D.lst .own (left.map fun w => .str (S w))) (by simp [pe__law_open, rd_strs, fz_strs, oe1]) ?_
  refine bstep (x := D.lst .own (right.map fun w => .str (S w))) (by simp [pe__law_open, rd_strs, fz_strs, oe2]) ?_
  have hll : left.length ≤ 8 := ol.2
  have hrl : right.length ≤ 8 := or_.2
  -- the lone ones
  have lone_len : (loneZ ws top bottom left right).length ≤ 8 := by
    unfold loneZ
    exact Nat.le_trans (List.length_filter_le _ _) (by omega)
  refine bstep (x := D.lst .own ((loneZ ws top bottom left right).map fun w => .str (S w))) ?_ ?_
  · have hb : (loneZ ws top bottom left right).length ≤ 1000000 := by omega
    simp only [fz_own, fz_frz, rd_frz, rd_own, fz_strs, rd_strs, rd_nms, fz_nms, itemsOf_lstF, rb_ok]
    rw [lcV_filter (ei := fun w => D.str (S w)) (fun w => (allZ top bottom left right).count (some w) == 1) ws (by
      intro w hw
      have := me w hw
      by_cases q : (allZ top bottom left right).count (some w) = 1
      · simp [pe__law_many, fz_strs, rd_strs, rd_nms, fz_nms, this, q]
      · have q' : ((allZ top bottom left right).count (some w) : Int) ≠ 1 := by omega
        simp [pe__law_many, fz_strs, rd_strs, rd_nms, fz_nms, this, q, q'])]
    have hz : (ws.filter fun w => (allZ top bottom left right).count (some w) == 1) = loneZ ws top bottom left right := rfl
    rw [hz]
    simp [hb]
  dsimp only at CO ⊢
  generalize loneZ ws top bottom left right = lone at *
  have hin : ∀ x : Option Nm, easeP lone x = if decide (x ∈ lone.map some) = true then none else x := fun x => by unfold easeP; simp
  have ease : ∀ (xs : List (Option Nm)) (f : D → Res (Option D)), (∀ x : Option Nm, f (nmD x) = .ok (some (nmD (easeP lone x)))) → lcV f (xs.map nmD) = .ok ((xs.map (easeP lone)).map nmD) := fun xs f hf => lcV_map nmD (easeP lone) xs fun x _ => hf x
  have eb : ∀ x : Option Nm, (ifR ((dIn1 (rd (nmD x)) (rd (D.lst .own (lone.map fun w => D.str (S w))))).bind asB) (Res.ok D.non) (Res.ok (rd (nmD x)))).bind (fun y => (chk y).bind fun y => Res.ok (some y)) = .ok (some (nmD (easeP lone x))) := by
    intro x
    rw [hin]
    by_cases q : x ∈ lone.map some
    · simp only [rd_nmD, rd_own, rd_strs, in_nm_strs, rb_ok, asB_bl, ifR_e, q, decide_true, if_true, chk_e, noT_non]
      rfl
    · simp only [rd_nmD, rd_own, rd_strs, in_nm_strs, rb_ok, asB_bl, ifR_e, q, decide_false, chk_e]
      simp
  refine bstep (x := D.lst .own ((top.map (easeP lone)).map nmD)) ?_ ?_
  · have hb : top.length ≤ 1000000 := by omega
    simp only [fz_own, fz_frz, rd_frz, rd_nms, fz_nms, itemsOf_lstF, rb_ok]
    rw [ease top _ eb]
    simp [hb]
  refine bstep (x := D.lst .own ((bottom.map (easeP lone)).map nmD)) ?_ ?_
  · have hb : bottom.length ≤ 1000000 := by omega
    simp only [fz_own, fz_frz, rd_frz, rd_nms, fz_nms, itemsOf_lstF, rb_ok]
    rw [ease bottom _ eb]
    simp [hb]
  have lf : ∀ (ls : List Nm), ls.length ≤ 8 → (((itemsOf false (rd (fz (D.lst .own (ls.map fun w => D.str (S w)))))).bind fun t => (lcV (fun t36 => (ifR ((dIn0 (rd t36) (rd (D.lst .own (lone.map fun w => D.str (S w))))).bind asB) ((chk (rd t36)).bind fun y => Res.ok (some y)) (Res.ok none))) t).bind lstB)).bind chk =
      .ok (.lst .own ((ls.filter fun w => !decide (w ∈ lone)).map fun w => .str (S w))) := by
    intro ls hls
    simp only [fz_own, fz_strs, rd_frz, rd_strs, itemsOf_lstF, rb_ok]
    rw [lcV_filter (ei := fun w => D.str (S w)) (fun w => !decide (w ∈ lone)) ls (by
      intro w _
      by_cases q : w ∈ lone <;> simp [rd_strs, q])]
    have hb : (ls.filter fun w => !decide (w ∈ lone)).length ≤ 1000000 := by
      have := List.length_filter_le (fun w => !decide (w ∈ lone)) ls
      omega
    generalize ls.filter (fun w => !decide (w ∈ lone)) = L at *
    simp [hb]
  refine bstep (x := D.lst .own ((left.filter fun w => !decide (w ∈ lone)).map fun w => .str (S w))) (lf left hll) ?_
  refine bstep (x := D.lst .own ((right.filter fun w => !decide (w ∈ lone)).map fun w => .str (S w))) (lf right hrl) ?_
  obtain ⟨q1, q2, q3, q4, q5, q6, q7, q8, _, _, _, _, _⟩ := CO
  dsimp only at q1 q2 q3 q4 q5 q6 q7 q8
  generalize top.map (easeP lone) = top' at *
  generalize bottom.map (easeP lone) = bottom' at *
  generalize (left.filter fun w => !decide (w ∈ lone)) = left' at *
  generalize (right.filter fun w => !decide (w ∈ lone)) = right' at *
  have aok' := all_ok hok q3 q4 q5 q6
  have alen' : (allZ top' bottom' left' right').length ≤ 1000 := by unfold allZ; simp; omega
  have me' := fun w hw => many_eq top' bottom' left' right' w aok' (hok w hw) alen'
  have be := bends_eq (cs := cs) (seed := seed) (left := left') (right := right') h8 (allOk_of hok q3) (allOk_of hok q4) (by omega) (by omega) (by omega)
  have ke := keeps_eq (cs := cs) (seed := seed) (W : Int) (by omega)
  have loop := forV_gather (f := fun d s => B__law_channel_v2_1 (.int seed) (.lst .frz (ws.map fun w => .str (S w))) (.int W) (.lst .frz (cs.map D.int)) (.lst .frz (top'.map nmD)) (.lst .frz (bottom'.map nmD)) (.lst .frz (left'.map fun w => .str (S w))) (.lst .frz (right'.map fun w => .str (S w))) d s)
    (ei := fun p : Nm × Nat => .tup [.int (p.2 : Int), .str (S p.1)]) wdD (fun p => wideB seed (allZ top' bottom' left' right') p.1 p.2) 100 (sortN ws).zipIdx [] (by simp [len_sortN]; omega) (by
      rintro ⟨w, k⟩ hq acc ha
      have hk : k < 100 := by
        have := List.snd_lt_of_mem_zipIdx hq
        simp [len_sortN] at this
        omega
      have hwm : w ∈ ws := mem_sortN.mp (List.fst_mem_of_mem_zipIdx hq)
      have m1 := mix_eq (seed + k) 500 (by omega) (by omega)
      have hc := me' w hwm
      have hb : acc.length < 1000000 := by omega
      dsimp only
      unfold B__law_channel_v2_1 wideB
      generalize mixZ (seed + k) 500 = one at *
      generalize (allZ top' bottom' left' right').count (some w) = N at *
      by_cases q : one % 4 = 0
      · by_cases r : 1 < N
        · have r' : (1 : Int) < (N : Int) := by omega
          simp [m1, q, r, r', pe__law_many, rd_strs, fz_strs, rd_nms, fz_nms, hc, hb, wdD]
        · have r' : ¬ (1 : Int) < (N : Int) := by omega
          simp [m1, q, r, r', pe__law_many, rd_strs, fz_strs, rd_nms, fz_nms, hc, hb]
      · simp [m1, q]) (by intro c _; unfold wideB; split <;> simp)
  have e := enumD_map (ei := fun w => D.str (S w)) (sortN ws) 0
  rw [← e] at loop
  have hwz : ((sortN ws).zipIdx.flatMap fun p => wideB seed (allZ top' bottom' left' right') p.1 p.2) = wideZ ws seed (allZ top' bottom' left' right') := rfl
  rw [hwz] at loop
  generalize wideZ ws seed (allZ top' bottom' left' right') = wide at *
  simp only [List.map_nil, List.nil_append] at loop
  refine bstep (x := enumD 0 ((sortN ws).map fun w => .str (S w))) (by simp [sort_nms ws hok, rd_strs, fz_strs]) ?_
  simp only [fz_own, fz_frz, rd_frz, rd_nms, fz_nms, rd_strs, fz_strs, fzL_ints, rdL_ints, rd_int]
  rw [loop]
  simp only [afterV_nx]
  refine bstep (x := D.lst .own ((bendsZ ws cs seed top' bottom' left' right').map bdD)) (by simp [pe__law_bends, rd_strs, fz_strs, rd_nms, fz_nms, be]) ?_
  generalize bendsZ ws cs seed top' bottom' left' right' = bends at *
  have bd1 : fzL (bends.map bdD) = bends.map bdD := by rw [fzL_map]; simp
  have bd2 : rdL (bends.map bdD) = bends.map bdD := by rw [rdL_map]; simp
  have wd1 : fzL (wide.map wdD) = wide.map wdD := by rw [fzL_map]; simp
  have wd2 : rdL (wide.map wdD) = wide.map wdD := by rw [rdL_map]; simp
  have kp1 : ∀ l : List (Int × Int × Int), fzL (l.map kpD) = l.map kpD := fun l => by rw [fzL_map]; simp
  have kp2 : ∀ l : List (Int × Int × Int), rdL (l.map kpD) = l.map kpD := fun l => by rw [rdL_map]; simp
  unfold J__law_channel_v2_1 chL
  by_cases q : seed / 97 % 3 = 0
  · simp [q, pe__law_keeps, ke, rd_strs, fz_strs, rd_nms, fz_nms, bd1, bd2, wd1, wd2, kp1, kp2]
  · simp [q, rd_strs, fz_strs, rd_nms, fz_nms, bd1, bd2, wd1, wd2, kp1, kp2]
def chN : List Str := ["top", "bottom", "left", "right", "wide", "bends", "keeps"]
def chI (t : Tag) (h : Ch) : D := .nd t (.ins "Channel" chN) (chL .frz h)
section
variable {t : Tag} {h : Ch}
theorem chL_frz : rdL (chL .frz h) = chL .frz h ∧ fzL (chL .frz h) = chL .frz h ∧ faL (chL .frz h) = chL .frz h ∧ noTL (chL .frz h) = true := by
  unfold chL
  have bd1 : ∀ l : List (Int × Nm), fzL (l.map bdD) = l.map bdD := fun l => by rw [fzL_map]; simp
  have bd2 : ∀ l : List (Int × Nm), rdL (l.map bdD) = l.map bdD := fun l => by rw [rdL_map]; simp
  have bd3 : ∀ l : List (Int × Nm), faL (l.map bdD) = l.map bdD := fun l => by rw [faL_map]; simp
  have wd1 : ∀ l : List (Nm × Int), fzL (l.map wdD) = l.map wdD := fun l => by rw [fzL_map]; simp
  have wd2 : ∀ l : List (Nm × Int), rdL (l.map wdD) = l.map wdD := fun l => by rw [rdL_map]; simp
  have wd3 : ∀ l : List (Nm × Int), faL (l.map wdD) = l.map wdD := fun l => by rw [faL_map]; simp
  have kp1 : ∀ l : List (Int × Int × Int), fzL (l.map kpD) = l.map kpD := fun l => by rw [fzL_map]; simp
  have kp2 : ∀ l : List (Int × Int × Int), rdL (l.map kpD) = l.map kpD := fun l => by rw [rdL_map]; simp
  have kp3 : ∀ l : List (Int × Int × Int), faL (l.map kpD) = l.map kpD := fun l => by rw [faL_map]; simp
  refine ⟨?_, ?_, ?_, ?_⟩ <;> simp [rd_strs, fz_strs, fa_strs, rd_nms, fz_nms, fa_nms, bd1, bd2, bd3, wd1, wd2, wd3, kp1, kp2, kp3]
@[simp] theorem rdL_chL : rdL (chL .frz h) = chL .frz h := chL_frz.1
@[simp] theorem fzL_chL : fzL (chL .frz h) = chL .frz h := chL_frz.2.1
@[simp] theorem faL_chL : faL (chL .frz h) = chL .frz h := chL_frz.2.2.1
@[simp] theorem noTL_chL : noTL (chL .frz h) = true := chL_frz.2.2.2
@[simp] theorem rd_chO : rd (chI .own h) = chI .tmp h := by simp [chI]
@[simp] theorem rd_chF : rd (chI .frz h) = chI .frz h := by simp [chI]
@[simp] theorem fz_chO : fz (chI .own h) = chI .frz h := by simp [chI]
@[simp] theorem fz_chF : fz (chI .frz h) = chI .frz h := by simp [chI]
@[simp] theorem fa_ch : fa (chI t h) = chI .frz h := by simp [chI]
@[simp] theorem noT_chO : noT (chI .own h) = true := by simp [chI]
@[simp] theorem noT_chF : noT (chI .frz h) = true := by simp [chI]
@[simp] theorem noT_chT : noT (chI .tmp h) = false := by simp [chI]
theorem dFld_ch (f : Str) (v : D) (hl : (chN.zip (chL .frz h)).lookup f = some v) (hv : rd v = v) : dFld ["Channel"] f (chI t h) = .ok v := by
  unfold chI
  rw [dFld_e, if_pos (by decide), hl, ofO_some, rb_ok, hv]
@[simp] theorem fld_top : dFld ["Channel"] "top" (chI t h) = .ok (.nd .frz .lst (h.top.map nmD)) := dFld_ch _ _ rfl (by simp [rd_nms])
@[simp] theorem fld_bottom : dFld ["Channel"] "bottom" (chI t h) = .ok (.nd .frz .lst (h.bottom.map nmD)) := dFld_ch _ _ rfl (by simp [rd_nms])
@[simp] theorem fld_left : dFld ["Channel"] "left" (chI t h) = .ok (.nd .frz .lst (h.left.map fun w => .str (S w))) := dFld_ch _ _ rfl (by simp [rd_strs])
@[simp] theorem fld_right : dFld ["Channel"] "right" (chI t h) = .ok (.nd .frz .lst (h.right.map fun w => .str (S w))) := dFld_ch _ _ rfl (by simp [rd_strs])
@[simp] theorem fld_wide : dFld ["Channel"] "wide" (chI t h) = .ok (.nd .frz .lst (h.wide.map wdD)) := dFld_ch _ _ rfl (by rw [rd_frz, rdL_map]; simp)
@[simp] theorem fld_bends : dFld ["Channel"] "bends" (chI t h) = .ok (.nd .frz .lst (h.bends.map bdD)) := dFld_ch _ _ rfl (by rw [rd_frz, rdL_map]; simp)
@[simp] theorem fld_keeps : dFld ["Channel"] "keeps" (chI t h) = .ok (.nd .frz .lst (h.keeps.map kpD)) := dFld_ch _ _ rfl (by rw [rd_frz, rdL_map]; simp)
end
inductive En where
  | left | right | top (c : Nat) | bottom (c : Nat)
  deriving DecidableEq
def enD : En → D
  | .left => .tup [.str "left"]
  | .right => .tup [.str "right"]
  | .top c => .tup [.str "top", .int c]
  | .bottom c => .tup [.str "bottom", .int c]
@[simp] theorem rd_enD (e : En) : rd (enD e) = enD e := by cases e <;> simp [enD]
@[simp] theorem fz_enD (e : En) : fz (enD e) = enD e := by cases e <;> simp [enD]
@[simp] theorem fa_enD (e : En) : fa (enD e) = enD e := by cases e <;> simp [enD]
@[simp] theorem noT_enD (e : En) : noT (enD e) = true := by cases e <;> simp [enD]
@[simp] theorem imO_enD (e : En) : imO (enD e) = true := by cases e <;> simp [enD]
def pinE (top bottom : List (Option Nm)) (w : Nm) (c : Nat) : List En := (if top[c]?.getD none = some w then [En.top c] else []) ++ (if bottom[c]?.getD none = some w then [En.bottom c] else [])
def endsZ (top bottom : List (Option Nm)) (left right : List Nm) (w : Nm) : List En :=
  (if w ∈ left then [En.left] else []) ++ ((List.range top.length).flatMap (pinE top bottom w) ++ (if w ∈ right then [En.right] else []))
theorem pinE_len (top bottom : List (Option Nm)) (w : Nm) (c : Nat) : (pinE top bottom w c).length ≤ 2 := by
  unfold pinE
  split <;> split <;> simp
theorem zip_rows {top bottom : List (Option Nm)} (hb : bottom.length = top.length) : enumD 0 (zipD (top.map nmD) (bottom.map nmD)) = (List.range top.length).map fun c : Nat => .tup [.int (c : Int), .tup [nmD (top[c]?.getD none), nmD (bottom[c]?.getD none)]] := by
  rw [zipD_map, enumD_map (ei := fun q : Option Nm × Option Nm => D.tup [nmD q.1, nmD q.2])]
  apply List.ext_getElem
  · simp [hb]
  · intro i h1 h2
    simp [hb] at h1
    simp [h1, hb]
theorem eq_nmw (x : Option Nm) (w : Nm) : dEq (nmD x) (.str (S w)) = .ok (.bl (decide (x = some w))) := nm_eq x (some w)
theorem ends_eq (h : Ch) (w : Nm) (hl : h.top.length ≤ 1000) (hb : h.bottom.length = h.top.length) : M_ends_of (chI .frz h) (.str (S w)) = .ok (.lst .own ((endsZ h.top h.bottom h.left h.right w).map enD)) := by
  have turn : ∀ c ∈ List.range h.top.length, ∀ acc : List En, acc.length + 2 ≤ 3000 → B_ends_of_1 (chI .frz h) (.str (S w)) (.tup [.int (c : Int), .tup [nmD (h.top[c]?.getD none), nmD (h.bottom[c]?.getD none)]]) (.lst .own (acc.map enD)) =
      .ok (.nx (.lst .own ((acc ++ pinE h.top h.bottom w c).map enD))) := by
    intro c _ acc ha
    have b1 : acc.length < 1000000 := by omega
    have b2 : acc.length + 1 < 1000000 := by omega
    unfold B_ends_of_1 J_ends_of_2 pinE
    generalize h.top[c]?.getD none = x
    generalize h.bottom[c]?.getD none = y
    by_cases q1 : x = some w <;> by_cases q2 : y = some w <;> simp [eq_nmw, q1, q2, b1, b2, enD]
  have J1 : ∀ acc : List En, acc.length ≤ 1 → J_ends_of_1 (chI .frz h) (.str (S w)) (.lst .own (acc.map enD)) = .ok (.lst .own ((acc ++ ((List.range h.top.length).flatMap (pinE h.top h.bottom w) ++ (if w ∈ h.right then [En.right] else []))).map enD)) := by
    intro acc ha
    have loop := forV_gatherN (f := fun d s => B_ends_of_1 (chI .frz h) (.str (S w)) d s) (ei := fun c : Nat => .tup [.int (c : Int), .tup [nmD (h.top[c]?.getD none), nmD (h.bottom[c]?.getD none)]]) enD (pinE h.top h.bottom w) 3000 2 (List.range h.top.length) acc (by simp; omega) turn (fun c _ => pinE_len _ _ _ _)
    rw [← zip_rows hb] at loop
    have hlen : ((List.range h.top.length).flatMap (pinE h.top h.bottom w)).length ≤ 2 * h.top.length := by
      have : ∀ l : List Nat, (l.flatMap (pinE h.top h.bottom w)).length ≤ 2 * l.length := by
        intro l
        induction l with
        | nil => simp
        | cons c l ih =>
          have := pinE_len h.top h.bottom w c
          rw [List.flatMap_cons, List.length_append, List.length_cons]
          omega
      have := this (List.range h.top.length)
      rwa [List.length_range] at this
    generalize (List.range h.top.length).flatMap (pinE h.top h.bottom w) = P at *
    have b1 : acc.length + P.length < 1000000 := by omega
    unfold J_ends_of_1
    simp [rd_nms, fz_nms]
    simp only [List.map_append] at loop
    rw [loop]
    unfold J_ends_of_3
    by_cases q : w ∈ h.right
    · simp [q, b1, enD]
    · simp [q]
  unfold M_ends_of endsZ
  by_cases q : w ∈ h.left
  · have k := J1 [En.left] (by simp)
    simp only [List.map_cons, List.map_nil, enD] at k
    simp [q, k]
  · have k := J1 [] (by simp)
    simp only [List.map_nil] at k
    simp [q, k]
def endCol : En → Option Int
  | .top c => some c
  | .bottom c => some c
  | _ => none
theorem pinE_no {top bottom : List (Option Nm)} {w : Nm} {c : Nat} : ∀ e ∈ pinE top bottom w c, e ≠ .left ∧ e ≠ .right := by
  intro e he
  unfold pinE at he
  rcases List.mem_append.mp he with he | he <;> (split at he <;> simp at he; subst he; simp)
theorem mid_no {top bottom : List (Option Nm)} {w : Nm} : ∀ e ∈ (List.range top.length).flatMap (pinE top bottom w), e ≠ .left ∧ e ≠ .right := by
  intro e he
  obtain ⟨c, _, h⟩ := List.mem_flatMap.mp he
  exact pinE_no e h
theorem ends_head {top bottom : List (Option Nm)} {left right : List Nm} {w : Nm} : (endsZ top bottom left right w).head? = some .left ↔ w ∈ left := by
  unfold endsZ
  by_cases q : w ∈ left
  · simp [q]
  · simp only [q, if_false, List.nil_append, iff_false]
    intro h
    have := List.mem_of_mem_head? (by rw [h]; rfl : En.left ∈ _)
    rcases List.mem_append.mp this with h1 | h1
    · exact (mid_no _ h1).1 rfl
    · split at h1 <;> simp at h1
theorem ends_last {top bottom : List (Option Nm)} {left right : List Nm} {w : Nm} : (endsZ top bottom left right w).getLast? = some .right ↔ w ∈ right := by
  unfold endsZ
  by_cases q : w ∈ right
  · simp [q]
  · simp only [q, if_false, List.append_nil, iff_false]
    intro h
    have := List.mem_of_getLast? h
    rcases List.mem_append.mp this with h1 | h1
    · split at h1 <;> simp at h1
    · exact (mid_no _ h1).2 rfl
theorem ends_len {top bottom : List (Option Nm)} {left right : List Nm} {w : Nm} : (endsZ top bottom left right w).length ≤ 2 * top.length + 2 := by
  have : ∀ l : List Nat, (l.flatMap (pinE top bottom w)).length ≤ 2 * l.length := by
    intro l
    induction l with
    | nil => simp
    | cons c l ih =>
      have := pinE_len top bottom w c
      rw [List.flatMap_cons, List.length_append, List.length_cons]
      omega
  have := this (List.range top.length)
  rw [List.length_range] at this
  unfold endsZ
  rw [List.length_append, List.length_append]
  have a : (if w ∈ left then [En.left] else []).length ≤ 1 := by split <;> simp
  have b : (if w ∈ right then [En.right] else []).length ≤ 1 := by split <;> simp
  omega
def colsZ (h : Ch) (w : Nm) : List Int := (endsZ h.top h.bottom h.left h.right w).filterMap endCol ++ (if w ∈ h.left then [-1] else []) ++ (if w ∈ h.right then [(h.top.length : Int)] else [])
def stretchZ (h : Ch) (w : Nm) : Option (Int × Int) := if endsZ h.top h.bottom h.left h.right w = [] then none else if (minI (colsZ h w)).getD 0 = (maxI (colsZ h w)).getD 0 then none else some ((minI (colsZ h w)).getD 0, (maxI (colsZ h w)).getD 0)
def stD : Option (Int × Int) → D
  | none => .non
  | some p => .tup [.int p.1, .int p.2]
@[simp] theorem rd_stD (e : Option (Int × Int)) : rd (stD e) = stD e := by cases e <;> simp [stD]
@[simp] theorem fz_stD (e : Option (Int × Int)) : fz (stD e) = stD e := by cases e <;> simp [stD]
@[simp] theorem fa_stD (e : Option (Int × Int)) : fa (stD e) = stD e := by cases e <;> simp [stD]
@[simp] theorem noT_stD (e : Option (Int × Int)) : noT (stD e) = true := by cases e <;> simp [stD]
@[simp] theorem imO_stD (e : Option (Int × Int)) : imO (stD e) = true := by cases e <;> simp [stD]
theorem pl_en (e : En) : plD 50 (enD e) = true := by cases e <;> (simp only [enD, plD, plL]; decide +kernel)
theorem eq_left (e : En) : dEq (enD e) (.tup [.str "left"]) = .ok (.bl (decide (e = .left))) := by
  rw [show D.tup [.str "left"] = enD .left from rfl, dEq_pl (pl_en e) (pl_en .left)]
  cases e <;> rfl
theorem eq_right (e : En) : dEq (enD e) (.tup [.str "right"]) = .ok (.bl (decide (e = .right))) := by
  rw [show D.tup [.str "right"] = enD .right from rfl, dEq_pl (pl_en e) (pl_en .right)]
  cases e <;> rfl
theorem cols_ne {h : Ch} {w : Nm} (hne : endsZ h.top h.bottom h.left h.right w ≠ []) : colsZ h w ≠ [] := by
  intro e
  unfold colsZ at e
  rw [List.append_eq_nil_iff, List.append_eq_nil_iff] at e
  obtain ⟨⟨e1, e2⟩, e3⟩ := e
  cases hx : endsZ h.top h.bottom h.left h.right w with
  | nil => exact hne hx
  | cons a as =>
    have ha : a ∈ endsZ h.top h.bottom h.left h.right w := by rw [hx]; exact List.mem_cons_self
    have hc : endCol a = none := by
      rw [List.filterMap_eq_nil_iff] at e1
      exact e1 a ha
    cases a with
    | left =>
      have : w ∈ h.left := ends_head.mp (by rw [hx]; rfl)
      rw [if_pos this] at e2
      cases e2
    | right =>
      have hr : w ∈ h.right := by
        unfold endsZ at ha
        rcases List.mem_append.mp ha with h1 | h1
        · split at h1 <;> simp at h1
        · rcases List.mem_append.mp h1 with h1 | h1
          · exact absurd rfl (mid_no _ h1).2
          · split at h1
            · assumption
            · simp at h1
      rw [if_pos hr] at e3
      cases e3
    | top c => cases hc
    | bottom c => cases hc
theorem stretch_of_eq (h : Ch) (w : Nm) (hl : h.top.length ≤ 1000) (hb : h.bottom.length = h.top.length) : M_stretch_of (chI .frz h) (.str (S w)) = .ok (stD (stretchZ h w)) := by
  have ce := ends_eq h w hl hb
  have hh := ends_head (top := h.top) (bottom := h.bottom) (left := h.left) (right := h.right) (w := w)
  have ht := ends_last (top := h.top) (bottom := h.bottom) (left := h.left) (right := h.right) (w := w)
  have el := ends_len (top := h.top) (bottom := h.bottom) (left := h.left) (right := h.right) (w := w)
  have cn := cols_ne (h := h) (w := w)
  have J2 : ∀ zs : List Int, zs ≠ [] → J_stretch_of_2 (.lst .own (zs.map D.int)) = .ok (stD (if (minI zs).getD 0 = (maxI zs).getD 0 then none else some ((minI zs).getD 0, (maxI zs).getD 0))) := by
    intro zs hz
    obtain ⟨a, ha, _⟩ := minI_some hz
    obtain ⟨b, hb, _⟩ := maxI_some hz
    unfold J_stretch_of_2
    by_cases q : a = b
    · simp [dMin_ints, dMax_ints, ha, hb, q, stD]
    · simp [dMin_ints, dMax_ints, ha, hb, q, stD]
  unfold M_stretch_of
  unfold stretchZ
  unfold colsZ at cn ⊢
  generalize hE : endsZ h.top h.bottom h.left h.right w = es at *
  have rE : rdL (es.map enD) = es.map enD := by rw [rdL_map]; simp
  refine bstep (x := D.lst .own (es.map enD)) (by simp [pe_ends_of, ce]) ?_
  by_cases q : es = []
  · subst q
    simp [stD]
  rw [if_neg q]
  have lc : ∀ f : D → Res (Option D), (∀ e : En, f (enD e) = .ok ((endCol e).map D.int)) → lcV f (es.map enD) = .ok ((es.filterMap endCol).map D.int) := fun f hf => lcV_eq D.int endCol es fun e _ => hf e
  have cl : (es.filterMap endCol).length ≤ 3000 := by
    have := List.length_filterMap_le endCol es
    omega
  obtain ⟨a, as, hes⟩ : ∃ a as, es = a :: as := by
    cases es with
    | nil => exact absurd rfl q
    | cons a as => exact ⟨a, as, rfl⟩
  have a0 : atI (es.map enD) 0 = some (enD a) := by rw [hes]; exact at_0
  obtain ⟨z, hz⟩ : ∃ z, es.getLast? = some z := ⟨es.getLast q, List.getLast?_eq_some_getLast q⟩
  have a1 : atI (es.map enD) (-1) = some (enD z) := atI_neg (by rw [List.getLast?_map, hz]; rfl)
  have hh' : a = .left ↔ w ∈ h.left := by rw [← hh, hes]; simp
  have ht' : z = .right ↔ w ∈ h.right := by rw [← ht, hz]; simp
  have ql : (es.length : Int) ≠ 0 := by
    have := List.length_pos_iff.mpr q
    omega
  have J1 : ∀ zs : List Int, zs.length ≤ 4000 → zs ++ (if w ∈ h.right then [(h.top.length : Int)] else []) ≠ [] → J_stretch_of_1 (chI .frz h) (.lst .own (es.map enD)) (.lst .own (zs.map D.int)) =
      .ok (stD (if (minI (zs ++ (if w ∈ h.right then [(h.top.length : Int)] else []))).getD 0 = (maxI (zs ++ (if w ∈ h.right then [(h.top.length : Int)] else []))).getD 0 then none else some ((minI (zs ++ (if w ∈ h.right then [(h.top.length : Int)] else []))).getD 0, (maxI (zs ++ (if w ∈ h.right then [(h.top.length : Int)] else []))).getD 0))) := by
    intro zs hzl hne
    have hb1 : zs.length < 1000000 := by omega
    unfold J_stretch_of_1
    by_cases r : w ∈ h.right
    · rw [if_pos r] at hne ⊢
      have k := J2 (zs ++ [(h.top.length : Int)]) hne
      rw [← intsD_snoc] at k
      simp [rE, a1, eq_right, ht'.mpr r, hb1, k]
    · rw [if_neg r, List.append_nil] at hne ⊢
      have r' : ¬ z = .right := fun e => r (ht'.mp e)
      simp [rE, a1, eq_right, r', J2 zs hne]
  have cn' := cn q
  refine (show ifR _ _ _ = _ from ?_)
  have t1 : (((dLen [rd (D.lst .own (es.map enD))]).bind fun t1 => dEq t1 (D.int 0)).bind asB) = .ok false := by simp [ql, q]
  rw [t1, ifR_e, if_neg Bool.false_ne_true]
  refine bstep (x := D.lst .own ((es.filterMap endCol).map D.int)) ?_ ?_
  · have hb1 : (es.filterMap endCol).length ≤ 1000000 := by omega
    simp only [rd_own, rE, itemsOf_lstF, rb_ok]
    rw [lc _ (fun e => by cases e <;> simp [enD, endCol])]
    generalize es.filterMap endCol = cs at *
    simp [hb1]
  · generalize es.filterMap endCol = cs at *
    have hb1 : cs.length < 1000000 := by omega
    by_cases r : w ∈ h.left
    · rw [if_pos r] at cn' ⊢
      have k := J1 (cs ++ [-1]) (by rw [List.length_append]; simp; omega) cn'
      rw [← intsD_snoc] at k
      simp [rE, a0, eq_left, hh'.mpr r, hb1, k]
    · rw [if_neg r, List.append_nil] at cn' ⊢
      have r' : ¬ a = .left := fun e => r (hh'.mp e)
      simp [rE, a0, eq_left, r', J1 cs (by omega) cn']
theorem callStretch {t : Tag} (h : Ch) (w : Nm) (hl : h.top.length ≤ 1000) (hb : h.bottom.length = h.top.length) : callD (lenIs 2 Ψ_stretch_of) [chI t h, .str (S w)] = .ok (stD (stretchZ h w)) := by
  have e := stretch_of_eq h w hl hb
  cases t <;> simp [pe_stretch_of, e]
def lsD (t : Tag) (h : Ch) : D := .nd t .lst (chL .frz h)
section
variable {t : Tag} {h : Ch}
@[simp] theorem rd_lsO : rd (lsD .own h) = lsD .tmp h := by simp [lsD]
@[simp] theorem rd_lsF : rd (lsD .frz h) = lsD .frz h := by simp [lsD]
@[simp] theorem fz_lsO : fz (lsD .own h) = lsD .frz h := by simp [lsD]
@[simp] theorem fz_lsF : fz (lsD .frz h) = lsD .frz h := by simp [lsD]
@[simp] theorem fa_ls : fa (lsD t h) = lsD .frz h := by simp [lsD]
@[simp] theorem noT_lsO : noT (lsD .own h) = true := by simp [lsD]
@[simp] theorem noT_lsF : noT (lsD .frz h) = true := by simp [lsD]
@[simp] theorem noT_lsT : noT (lsD .tmp h) = false := by simp [lsD]
theorem ls_ix {k : Nat} {v : D} (hv : (chL .frz h)[k]? = some v) (hr : rd v = v) : dIx (lsD t h) (.int (k : Int)) = .ok v := by
  unfold lsD
  rw [dIx_lst, atI_lit hv, ofO_some, rb_ok, hr]
@[simp] theorem ls_0 : dIx (lsD t h) (.int 0) = .ok (.nd .frz .lst (h.top.map nmD)) := ls_ix (k := 0) rfl (by simp [rd_nms])
@[simp] theorem ls_1 : dIx (lsD t h) (.int 1) = .ok (.nd .frz .lst (h.bottom.map nmD)) := ls_ix (k := 1) rfl (by simp [rd_nms])
@[simp] theorem ls_2 : dIx (lsD t h) (.int 2) = .ok (.nd .frz .lst (h.left.map fun w => .str (S w))) := ls_ix (k := 2) rfl (by simp [rd_strs])
@[simp] theorem ls_3 : dIx (lsD t h) (.int 3) = .ok (.nd .frz .lst (h.right.map fun w => .str (S w))) := ls_ix (k := 3) rfl (by simp [rd_strs])
@[simp] theorem ls_4 : dIx (lsD t h) (.int 4) = .ok (.nd .frz .lst (h.wide.map wdD)) := ls_ix (k := 4) rfl (by rw [rd_frz, rdL_map]; simp)
@[simp] theorem ls_5 : dIx (lsD t h) (.int 5) = .ok (.nd .frz .lst (h.bends.map bdD)) := ls_ix (k := 5) rfl (by rw [rd_frz, rdL_map]; simp)
@[simp] theorem ls_6 : dIx (lsD t h) (.int 6) = .ok (.nd .frz .lst (h.keeps.map kpD)) := ls_ix (k := 6) rfl (by rw [rd_frz, rdL_map]; simp)
end
theorem rd_wds (l : List (Nm × Int)) : rdL (l.map wdD) = l.map wdD := by rw [rdL_map]; simp
theorem fz_wds (l : List (Nm × Int)) : fzL (l.map wdD) = l.map wdD := by rw [fzL_map]; simp
theorem rd_bds (l : List (Int × Nm)) : rdL (l.map bdD) = l.map bdD := by rw [rdL_map]; simp
theorem fz_bds (l : List (Int × Nm)) : fzL (l.map bdD) = l.map bdD := by rw [fzL_map]; simp
theorem rd_kps (l : List (Int × Int × Int)) : rdL (l.map kpD) = l.map kpD := by rw [rdL_map]; simp
theorem fz_kps (l : List (Int × Int × Int)) : fzL (l.map kpD) = l.map kpD := by rw [fzL_map]; simp
theorem made_eq (h : Ch) : M__law_made (lsD .frz h) = .ok (chI .own h) := by
  have f1 : fz (.nd .own .lst (chL .own h)) = lsD .frz h := by
    simp [lsD, chL, fz_strs, fz_nms, fz_wds, fz_bds, fz_kps]
  unfold M__law_made chI
  refine bstep (x := D.lst .own (chL .own h)) ?_ ?_
  · simp [lsD, chL, lcV, rd_strs, fz_strs, rd_nms, fz_nms, rd_wds, fz_wds, rd_bds, fz_bds, rd_kps, fz_kps]
  · rw [f1]
    simp only [rd_lsF, ls_0, ls_1, ls_2, ls_3, ls_4, ls_5, ls_6, rb_ok]
    simp [chL, chN]
theorem pl_ls {ws : List Nm} (hok : ∀ w ∈ ws, NameL w) {W : Nat} {h : Ch} (c : ChOk ws W h) (t : Tag) : plD 50 (lsD t h) = true := by
  have l1 := pl_nms (allOk_of hok c.top) 48
  have l2 := pl_nms (allOk_of hok c.bottom) 48
  have l3 := pl_nms (somesOk fun w hw => hok w (c.left w hw)) 48
  have l4 := pl_nms (somesOk fun w hw => hok w (c.right w hw)) 48
  have l5 : plL 48 (h.wide.map wdD) = true := by
    rw [plL_eq, List.all_eq_true]
    intro d hd
    obtain ⟨p, hp, rfl⟩ := List.mem_map.mp hd
    simp only [wdD, plD, plL, Bool.and_true, Bool.and_eq_true, and_true]
    exact strOk_let (hok _ (c.wide p hp)).2.2
  have l6 : plL 48 (h.bends.map bdD) = true := by
    rw [plL_eq, List.all_eq_true]
    intro d hd
    obtain ⟨p, hp, rfl⟩ := List.mem_map.mp hd
    simp only [bdD, plD, plL, Bool.and_true, Bool.true_and]
    exact strOk_let (hok _ (c.bends p hp)).2.2
  have l7 : plL 48 (h.keeps.map kpD) = true := by
    rw [plL_eq, List.all_eq_true]
    intro d hd
    obtain ⟨p, hp, rfl⟩ := List.mem_map.mp hd
    simp only [kpD, plD, plL, Bool.and_true]
  rw [← strs_nms] at l3 l4
  unfold lsD chL
  simp only [plD, plL, l1, l2, l3, l4, l5, l6, l7, Bool.and_true]
theorem kept_eq {ws : List Nm} (hok : ∀ w ∈ ws, NameL w) {W : Nat} {h : Ch} (c : ChOk ws W h) : M__law_kept (chI .frz h) (lsD .frz h) = .ok (.bl true) := by
  have pl := pl_ls hok c .tmp
  have e := (dNe_same (x := lsD .tmp h) (y := lsD .frz h) pl (by decide) rfl).2
  unfold M__law_kept
  refine bstep (x := lsD .own h) ?_ (by simp [e])
  simp [lsD, chL, rd_strs, fz_strs, rd_nms, fz_nms, rd_wds, fz_wds, rd_bds, fz_bds, rd_kps, fz_kps]
def namesT (h : Ch) : List Nm := h.left ++ h.right ++ h.wide.map (·.1) ++ h.bends.map (·.2) ++ (h.top ++ h.bottom).filterMap id
def Fits (h : Ch) : Prop := (1 ≤ h.top.length ∧ h.top.length ≤ 40 ∧ h.bottom.length = h.top.length) ∧ h.keeps.length ≤ 8 ∧ (onceL ((namesT h).map S)).length ≤ 24
instance (h : Ch) : Decidable (Fits h) := by unfold Fits; infer_instance
theorem S_inj {a b : Nm} (h : S a = S b) : a = b := by
  unfold S at h
  injection h with h
  exact Array.toList_inj.mpr h |> fun e => by simpa using e
theorem once_mapS : ∀ ls : List Nm, onceL (ls.map S) = (onceL ls).map S
  | [] => rfl
  | a :: ls => by
    have ih := once_mapS ls
    have m : S a ∈ ls.map S ↔ a ∈ ls := by
      rw [List.mem_map]
      exact ⟨fun ⟨b, hb, e⟩ => S_inj e ▸ hb, fun h => ⟨a, h, rfl⟩⟩
    rw [List.map_cons]
    unfold onceL
    by_cases h : a ∈ ls
    · rw [if_pos h, if_pos (m.mpr h), ih]
    · rw [if_neg h, if_neg (fun q => h (m.mp q)), List.map_cons, ih]
theorem setS_map (ls : List Nm) : setS (ls.map S) = (sortN (onceL ls)).map S := by
  unfold setS sortN
  rw [once_mapS, List.map_mergeSort (s := leS)]
  intro a _ b _
  rfl
theorem strs_map (xs : List Str) : PV.strs? (xs.map D.str) = some xs := by
  induction xs with
  | nil => rfl
  | cons x xs ih => rw [List.map_cons, PV.strs?, ih]; rfl
theorem sortSet_nms {t : Tag} (ls : List Nm) (h : ls.length ≤ 4000) : dSortSet (.nd t .lst (ls.map fun w => .str (S w))) = .ok (.lst .own ((sortN (onceL ls)).map fun w => .str (S w))) := by
  have e : (ls.map fun w => D.str (S w)) = (ls.map S).map D.str := by rw [List.map_map]; rfl
  unfold dSortSet
  rw [e]
  dsimp only
  rw [strs_map]
  show (if (ls.map S).length ≤ 4000 then Res.ok (D.lst .own ((setS (ls.map S)).map D.str)) else .stuck) = _
  rw [if_pos (by simpa using h), setS_map, List.map_map]
  rfl
theorem sortN_sorted (ls : List Nm) : (sortN ls).Pairwise fun a b => decide (a ≤ b) = true := by
  refine List.pairwise_mergeSort (fun a b c h1 h2 => ?_) (fun a b => ?_) ls
  · rw [decide_eq_true_eq] at h1 h2 ⊢
    exact List.le_trans h1 h2
  · rw [Bool.or_eq_true, decide_eq_true_eq, decide_eq_true_eq]
    exact List.le_total _ _
theorem sortN_perm {xs ys : List Nm} (p : xs.Perm ys) : sortN xs = sortN ys :=
  List.Perm.eq_of_pairwise (fun a b _ _ h1 h2 => List.le_antisymm (of_decide_eq_true h1) (of_decide_eq_true h2)) (sortN_sorted xs) (sortN_sorted ys) ((List.mergeSort_perm xs _).trans (p.trans (List.mergeSort_perm ys _).symm))
theorem sort_once {xs ys : List Nm} (h : ∀ w, w ∈ xs ↔ w ∈ ys) : sortN (onceL xs) = sortN (onceL ys) :=
  sortN_perm (perm_once (nodup_once xs) fun w => by rw [mem_once, h w])
def namesZ (h : Ch) : List Nm := h.left ++ h.right ++ (h.top ++ h.bottom).filterMap id
def netsZ (h : Ch) : List Nm := sortN (onceL (namesZ h))
theorem mem_nets {h : Ch} {w : Nm} : w ∈ netsZ h ↔ w ∈ h.left ∨ w ∈ h.right ∨ some w ∈ h.top ∨ some w ∈ h.bottom := by
  unfold netsZ namesZ
  rw [mem_sortN, mem_once]
  simp only [List.mem_append, List.mem_filterMap, id, exists_eq_right]
  constructor
  · rintro ((a | a) | (a | a))
    · exact .inl a
    · exact .inr (.inl a)
    · exact .inr (.inr (.inl a))
    · exact .inr (.inr (.inr a))
  · rintro (a | a | a | a)
    · exact .inl (.inl a)
    · exact .inl (.inr a)
    · exact .inr (.inl a)
    · exact .inr (.inr a)
theorem nets_eq (h : Ch) (hl : h.left.length ≤ 8) (hr : h.right.length ≤ 8) (ht : h.top.length ≤ 1000) (hb : h.bottom.length = h.top.length) : M_nets_of (chI .frz h) = .ok (.lst .own ((netsZ h).map fun w => .str (S w))) := by
  have lf : (((h.top ++ h.bottom).filterMap id).map fun w => D.str (S w)).length ≤ 2000 := by
    rw [List.length_map]
    refine Nat.le_trans (List.length_filterMap_le _ _) ?_
    rw [List.length_append]
    omega
  have lc : ∀ f : D → Res (Option D), (∀ x : Option Nm, f (nmD x) = .ok (x.map fun w => .str (S w))) → lcV f ((h.top.map nmD) ++ (h.bottom.map nmD)) = .ok (((h.top ++ h.bottom).filterMap id).map fun w => .str (S w)) := by
    intro f hf
    rw [← List.map_append, lcV_eq (ei := nmD) (fun w : Nm => D.str (S w)) id _ (fun x _ => hf x)]
  unfold M_nets_of
  refine bstep (x := .lst .own ((h.left ++ h.right).map fun w => .str (S w))) ?_ ?_
  · have b1 : h.left.length + h.right.length ≤ 1000000 := by omega
    simp [b1, rd_strs]
  refine bstep (x := .lst .own ((namesZ h).map fun w => .str (S w))) ?_ ?_
  · have b1 : h.top.length + h.bottom.length ≤ 1000000 := by omega
    have b2 : (((h.top ++ h.bottom).filterMap id).map fun w => D.str (S w)).length ≤ 1000000 := by omega
    have b3 : (h.left.length + h.right.length) + (((h.top ++ h.bottom).filterMap id).map fun w => D.str (S w)).length ≤ 1000000 := by omega
    have lc' := lc (fun t6 => ifR ((dNotN (rd t6)).bind asB) ((chk (rd t6)).bind fun y => Res.ok (some y)) (Res.ok none)) (fun x => by cases x <;> simp [nmD] : ∀ x : Option Nm, (ifR ((dNotN (rd (nmD x))).bind asB) ((chk (rd (nmD x))).bind fun y => Res.ok (some y)) (Res.ok none)) = .ok (x.map fun w => .str (S w)))
    unfold namesZ
    generalize hP : (h.top ++ h.bottom).filterMap id = P at *
    have A : (((dFld ["Channel"] "top") (rd (chI .frz h))).bind fun t3 => ((dFld ["Channel"] "bottom") (rd (chI .frz h))).bind fun t4 => dAdd t3 t4) = .ok (.lst .own (h.top.map nmD ++ h.bottom.map nmD)) := by simp [b1, rd_nms]
    rw [A]
    simp only [rb_ok, itemsOf_lstF, rdL_append, rd_nms]
    rw [lc']
    rw [List.length_map] at b2 b3
    simp [b2, b3, rd_strs]
  · have b1 : (namesZ h).length ≤ 4000 := by
      unfold namesZ
      rw [List.length_map] at lf
      simp only [List.length_append]
      omega
    have e := sortSet_nms (t := .tmp) (namesZ h) b1
    unfold netsZ
    generalize namesZ h = L at *
    simp [rd_strs, e]
def wZ (h : Ch) (w : Nm) : Int := ((h.wide.find? fun p => p.1 == w).map (·.2)).getD 1
theorem width_eq (h : Ch) (w : Nm) : M_width_of (chI .frz h) (.str (S w)) = .ok (.int (wZ h w)) := by
  have loop := forV_some (f := fun d s => B_width_of_1 (.str (S w)) d) (s := ()) (ei := wdD) (fun p => if p.1 = w then some (.int p.2) else none) h.wide (by
    rintro ⟨v, k⟩ _
    have e := eq_nmw (some v) w
    unfold B_width_of_1
    by_cases q : v = w
    · subst q
      simp [wdD, nmD] at e ⊢
    · simp [wdD, nmD, q] at e ⊢)
  have fs : h.wide.findSome? (fun p => if p.1 = w then some (D.int p.2) else none) = (h.wide.find? fun p => p.1 == w).map fun p => .int p.2 := by
    induction h.wide with
    | nil => rfl
    | cons p l ih =>
      rw [List.findSome?_cons, List.find?_cons]
      by_cases q : p.1 = w
      · simp [q]
      · have : (p.1 == w) = false := by simpa using q
        simp [q, this, ih]
  rw [fs] at loop
  unfold M_width_of wZ
  cases z : h.wide.find? fun p => p.1 == w with
  | none =>
    rw [z] at loop
    simp at loop
    simp [fz_wds, loop]
  | some p =>
    rw [z] at loop
    simp at loop
    simp [fz_wds, loop]
def memDec {κ : Type} [DecidableEq κ] (k : κ) (ks : List κ) : Decidable (k ∈ ks) := inferInstance
instance (k : Key) (ks : List Key) : Decidable (k ∈ ks) := memDec k ks
theorem nodup_len {α : Type} [DecidableEq α] : ∀ (l l' : List α), l.Nodup → (∀ a ∈ l, a ∈ l') → l.length ≤ l'.length
  | [], _, _, _ => Nat.zero_le _
  | a :: l, l', hn, hs => by
    rw [List.nodup_cons] at hn
    have ih := nodup_len l (l'.erase a) hn.2 fun b hb => by
      rw [List.mem_erase_of_ne]
      · exact hs b (List.mem_cons_of_mem _ hb)
      · rintro rfl; exact hn.1 hb
    have := List.length_erase_of_mem (hs a List.mem_cons_self)
    have h0 : 0 < l'.length := List.length_pos_of_mem (hs a List.mem_cons_self)
    rw [List.length_cons]
    omega
abbrev Tr := Nat × Nat × Int
def pcR (ps : List Pc) (k : Nat) : Pc := ps.getD k default
def wdR (ps : List Pc) (k : Nat) : Int := (pcR ps k).w
def bef (ps : List Pc) (o k : Nat) : Prop := (pcR ps o).f < (pcR ps k).f ∨ ((pcR ps o).f = (pcR ps k).f ∧ ((pcR ps o).l < (pcR ps k).l ∨ ((pcR ps o).l = (pcR ps k).l ∧ o < k)))
instance (ps : List Pc) (o k : Nat) : Decidable (bef ps o k) := by unfold bef; infer_instance
theorem bef_asym {ps : List Pc} {o k : Nat} (h : bef ps o k) (h2 : bef ps k o) : False := by unfold bef at h h2; omega
def dif (ps : List Pc) (o k : Nat) : Prop := ¬ ((pcR ps o).nm ≠ none ∧ (pcR ps o).nm = (pcR ps k).nm)
instance (ps : List Pc) (o k : Nat) : Decidable (dif ps o k) := by unfold dif; infer_instance
def ovl (ps : List Pc) (o k : Nat) : Prop := (pcR ps o).f ≤ (pcR ps k).l ∧ (pcR ps k).f ≤ (pcR ps o).l
instance (ps : List Pc) (o k : Nat) : Decidable (ovl ps o k) := by unfold ovl; infer_instance
abbrev Tk := List (Option Int)
def atT (tr : Tk) (k : Nat) : Option Int := tr.getD k none
theorem atT_set {tr : Tk} {n : Nat} {v : Option Int} (h : n < tr.length) (k : Nat) : atT (tr.set n v) k = if k = n then v else atT tr k := by
  unfold atT
  rw [List.getD_eq_getElem?_getD, List.getD_eq_getElem?_getD, List.getElem?_set]
  by_cases e : k = n
  · subst e; simp [h]
  · rw [if_neg (Ne.symm e), if_neg e]
def upB (ps : List Pc) (ab : List Tr) (tr : Tk) (n : Nat) (t : Int) (x : Tr) : Bool := decide (x.2.1 = n) && (match atT tr x.1 with
  | none => true
  | some y => decide (t < y + wdR ps x.1))
def onB (ps : List Pc) (tr : Tk) (n : Nat) (t : Int) (o : Nat) : Bool := match atT tr o with
  | none => false
  | some y => decide (dif ps o n) && ((decide (y < t + wdR ps n) && decide (t < y + wdR ps o)) && decide (ovl ps o n))
def begB (ps : List Pc) (ab : List Tr) (tr : Tk) (n : Nat) (t : Int) : Bool := !(ab.any (upB ps ab tr n t)) && !((List.range ps.length).any (onB ps tr n t))
def Fit (ps : List Pc) (ab : List Tr) (tr : Tk) (k : Nat) (y : Int) : Prop := (∀ x ∈ ab, x.2.1 = k → ∃ y', atT tr x.1 = some y' ∧ y' + wdR ps x.1 ≤ y) ∧
  ∀ o y', atT tr o = some y' → o ≠ k → (y' < y ∨ (y' = y ∧ bef ps o k)) → dif ps o k → ¬ (y < y' + wdR ps o ∧ ovl ps o k)
def Blk (ps : List Pc) (ab : List Tr) (tr : Tk) (k : Nat) (s : Int) : Prop := (∃ x ∈ ab, x.2.1 = k ∧ ∀ y', atT tr x.1 = some y' → s < y' + wdR ps x.1) ∨
  ∃ o y', atT tr o = some y' ∧ o ≠ k ∧ (y' < s ∨ (y' = s ∧ bef ps o k)) ∧ dif ps o k ∧ s < y' + wdR ps o ∧ ovl ps o k
structure PsOk (ps : List Pc) : Prop where
  wd : ∀ k < ps.length, 1 ≤ wdR ps k ∧ wdR ps k ≤ 3
  fl : ∀ k < ps.length, (pcR ps k).f ≤ (pcR ps k).l
structure RI (ps : List Pc) (ab : List Tr) (t : Int) (pre : List Nat) (tr : Tk) : Prop where
  len : tr.length = ps.length
  t0 : 0 ≤ t
  bd : ∀ k y, atT tr k = some y → 0 ≤ y ∧ y ≤ t ∧ (y = t → k ∈ pre)
  fit : ∀ k y, atT tr k = some y → Fit ps ab tr k y
  blk : ∀ k < ps.length, ∀ s, 0 ≤ s → (s < t ∨ (s = t ∧ k ∈ pre)) → (∀ y, atT tr k = some y → s < y) → Blk ps ab tr k s
  occ : ∀ s, 0 ≤ s → s < t → ∃ o y, atT tr o = some y ∧ y ≤ s ∧ s < y + wdR ps o
theorem atT_lt {tr : Tk} {k : Nat} {y : Int} (h : atT tr k = some y) : k < tr.length := by
  by_cases q : k < tr.length
  · exact q
  · unfold atT at h
    rw [List.getD_eq_getElem?_getD, List.getElem?_eq_none (by omega)] at h
    cases h
def putTk (ps : List Pc) (ab : List Tr) (t : Int) (tr : Tk) (n : Nat) : Tk := if atT tr n = none ∧ begB ps ab tr n t = true then tr.set n (some t) else tr
theorem RI.step {ps : List Pc} {ab : List Tr} {t : Int} {pre : List Nat} {tr : Tk} (P : PsOk ps) (I : RI ps ab t pre tr) {n : Nat} (hn : n < ps.length) (hb : ∀ k ∈ pre, bef ps k n) : RI ps ab t (pre ++ [n]) (putTk ps ab t tr n) := by
  unfold putTk
  have t0 := I.t0
  by_cases hp : atT tr n = none ∧ begB ps ab tr n t = true
  · rw [if_pos hp]
    obtain ⟨hno, hbg⟩ := hp
    have hl : n < tr.length := by rw [I.len]; exact hn
    have at' := atT_set (v := some t) hl
    unfold begB at hbg
    rw [Bool.and_eq_true, Bool.not_eq_true', Bool.not_eq_true', List.any_eq_false, List.any_eq_false] at hbg
    have ne : ∀ k y, atT tr k = some y → k ≠ n := fun k y e z => by rw [z, hno] at e; cases e
    have pers : ∀ k s, s ≤ t → Blk ps ab tr k s → Blk ps ab (tr.set n (some t)) k s := by
      intro k s hs hB
      rcases hB with ⟨x, hx, hk, hy⟩ | ⟨o, y', ho, hok, hlt, hd, hs', hov⟩
      · refine .inl ⟨x, hx, hk, fun y' e => ?_⟩
        rw [at'] at e
        by_cases z : x.1 = n
        · rw [if_pos z] at e
          cases e
          have := (P.wd n hn).1
          rw [z]
          omega
        · rw [if_neg z] at e
          exact hy y' e
      · exact .inr ⟨o, y', by rw [at', if_neg (ne o y' ho)]; exact ho, hok, hlt, hd, hs', hov⟩
    refine ⟨by simpa using I.len, t0, fun k y e => ?_, fun k y e => ?_, fun k hk s h0 hs hy => ?_, fun s h0 hs => ?_⟩
    · rw [at'] at e
      by_cases z : k = n
      · rw [if_pos z] at e
        cases e
        exact ⟨t0, by omega, fun _ => by rw [z]; simp⟩
      · rw [if_neg z] at e
        obtain ⟨h1, h2, h3⟩ := I.bd k y e
        exact ⟨h1, h2, fun h => List.mem_append_left _ (h3 h)⟩
    · rw [at'] at e
      by_cases z : k = n
      · rw [if_pos z] at e
        cases e
        subst z
        refine ⟨fun x hx hxk => ?_, fun o y' ho hok hlt hd hc => ?_⟩
        · have := hbg.1 x hx
          unfold upB at this
          cases q : atT tr x.1 with
          | none => rw [q] at this; simp [hxk] at this
          | some y' =>
            rw [q] at this
            simp [hxk] at this
            exact ⟨y', by rw [at', if_neg (ne _ _ q)]; exact q, this⟩
        · rw [at', if_neg hok] at ho
          have hol : o < ps.length := by rw [← I.len]; exact atT_lt ho
          have := hbg.2 o (List.mem_range.mpr hol)
          unfold onB at this
          rw [ho] at this
          obtain ⟨_, h2, _⟩ := I.bd o y' ho
          have hw := (P.wd k hn).1
          have h3 : y' < t + wdR ps k := by omega
          simp [hd, h3, hc.1, hc.2] at this
      · rw [if_neg z] at e
        obtain ⟨f1, f2⟩ := I.fit k y e
        refine ⟨fun x hx hxk => ?_, fun o y' ho hok hlt hd hc => ?_⟩
        · obtain ⟨y', e1, e2⟩ := f1 x hx hxk
          exact ⟨y', by rw [at', if_neg (ne _ _ e1)]; exact e1, e2⟩
        · rw [at'] at ho
          by_cases z2 : o = n
          · rw [if_pos z2] at ho
            cases ho
            obtain ⟨_, h2, h3⟩ := I.bd k y e
            rcases hlt with h | ⟨h, hbe⟩
            · omega
            · subst z2
              exact bef_asym hbe (hb k (h3 h.symm))
          · rw [if_neg z2] at ho
            exact f2 o y' ho hok hlt hd hc
    · by_cases z : k = n
      · have := hy t (by rw [at', if_pos z])
        refine pers k s (by omega) (I.blk k hk s h0 (.inl this) fun y e => ?_)
        rw [z, hno] at e
        cases e
      · have hs2 : s < t ∨ (s = t ∧ k ∈ pre) := hs.imp id fun h => ⟨h.1, by simpa [z] using h.2⟩
        exact pers k s (by omega) (I.blk k hk s h0 hs2 fun y e => hy y (by rw [at', if_neg z]; exact e))
    · obtain ⟨o, y, h1, h2, h3⟩ := I.occ s h0 hs
      exact ⟨o, y, by rw [at', if_neg (ne _ _ h1)]; exact h1, h2, h3⟩
  · rw [if_neg hp]
    refine ⟨I.len, t0, fun k y e => ?_, I.fit, fun k hk s h0 hs hy => ?_, I.occ⟩
    · obtain ⟨h1, h2, h3⟩ := I.bd k y e
      exact ⟨h1, h2, fun h => List.mem_append_left _ (h3 h)⟩
    · by_cases hs2 : s < t ∨ (s = t ∧ k ∈ pre)
      · exact I.blk k hk s h0 hs2 hy
      · have st : s = t ∧ k = n := by
          rcases hs with h | ⟨h, m⟩
          · exact absurd (.inl h) hs2
          · refine ⟨h, ?_⟩
            rcases List.mem_append.mp m with m | m
            · exact absurd (.inr ⟨h, m⟩) hs2
            · simpa using m
        obtain ⟨rfl, rfl⟩ := st
        have hno : atT tr k = none := by
          cases q : atT tr k with
          | none => rfl
          | some y =>
            have h1 := hy y q
            have h2 := (I.bd k y q).2.1
            omega
        have hbf : begB ps ab tr k s = false := by
          cases q : begB ps ab tr k s with
          | false => rfl
          | true => exact absurd ⟨hno, q⟩ hp
        unfold begB at hbf
        rw [Bool.and_eq_false_iff] at hbf
        rcases hbf with h | h
        · rw [Bool.not_eq_false', List.any_eq_true] at h
          obtain ⟨x, hx, hu⟩ := h
          unfold upB at hu
          rw [Bool.and_eq_true, decide_eq_true_eq] at hu
          refine .inl ⟨x, hx, hu.1, fun y' e => ?_⟩
          have := hu.2
          rw [e] at this
          simpa using this
        · rw [Bool.not_eq_false', List.any_eq_true] at h
          obtain ⟨o, ho, hu⟩ := h
          unfold onB at hu
          cases q : atT tr o with
          | none => rw [q] at hu; cases hu
          | some y' =>
            rw [q] at hu
            simp only [Bool.and_eq_true, decide_eq_true_eq] at hu
            obtain ⟨hd, ⟨_, h2⟩, h3⟩ := hu
            have b := I.bd o y' q
            refine .inr ⟨o, y', q, (fun z => by rw [z, hno] at q; cases q), ?_, hd, h2, h3⟩
            by_cases z : y' = s
            · exact .inr ⟨z, hb o (b.2.2 z)⟩
            · exact .inl (by omega)
def rowR (ps : List Pc) (ab : List Tr) (t : Int) (tr : Tk) (ns : List Nat) : Tk := ns.foldl (putTk ps ab t) tr
theorem RI.row {ps : List Pc} {ab : List Tr} {t : Int} (P : PsOk ps) : ∀ (ns pre : List Nat) (tr : Tk), RI ps ab t pre tr → (∀ k ∈ ns, k < ps.length) → (pre ++ ns).Pairwise (bef ps) → RI ps ab t (pre ++ ns) (rowR ps ab t tr ns)
  | [], pre, tr, I, _, _ => by rw [List.append_nil]; exact I
  | n :: ns, pre, tr, I, h, hp => by
    have e : pre ++ n :: ns = (pre ++ [n]) ++ ns := by simp
    rw [e] at hp ⊢
    have hb : ∀ k ∈ pre, bef ps k n := by
      intro k hk
      have := (List.pairwise_append.mp (List.pairwise_append.mp hp).1).2.2
      exact this k hk n (by simp)
    exact RI.row P ns (pre ++ [n]) _ (I.step P (h n (by simp)) hb) (fun k hk => h k (by simp [hk])) hp
theorem at_map {α : Type} {e : α → D} (xs : List α) (k : Nat) (d : α) (h : k < xs.length) : atI (xs.map e) (k : Int) = some (e (xs.getD k d)) :=
  atI_lit (by rw [List.getElem?_map, List.getElem?_eq_getElem h, List.getD_eq_getElem?_getD, List.getElem?_eq_getElem h]; rfl)
theorem at_pc {ps : List Pc} {k : Nat} (h : k < ps.length) : atI (ps.map pcD) (k : Int) = some (pcD (pcR ps k)) := at_map ps k default h
theorem forV_any {σ α : Type} {f : D → σ → Res (Fo σ)} {ei : α → D} {s : σ} {d : D} (p : α → Bool) : ∀ xs : List α, (∀ x ∈ xs, f (ei x) s = if p x = true then .ok (.rt d) else .ok (.nx s)) → forV f (xs.map ei) s = if xs.any p = true then .ok (.rt d) else .ok (.nx s)
  | [], _ => rfl
  | x :: xs, q => by
    rw [List.map_cons, forV_cons, List.any_cons, q x (List.mem_cons_self ..)]
    by_cases h : p x = true
    · rw [if_pos h, h]; rfl
    · rw [if_neg h]
      have h' : p x = false := by simpa using h
      rw [h', Bool.false_or]
      exact forV_any p xs fun y hy => q y (List.mem_cons_of_mem _ hy)
def atF (fs : List Int) (k : Nat) : Int := fs.getD k 0
theorem atF_set {fs : List Int} {n : Nat} {v : Int} (h : n < fs.length) (k : Nat) : atF (fs.set n v) k = if k = n then v else atF fs k := by
  unfold atF
  rw [List.getD_eq_getElem?_getD, List.getD_eq_getElem?_getD, List.getElem?_set]
  by_cases e : k = n
  · subst e; simp [h]
  · rw [if_neg (Ne.symm e), if_neg e]
structure IsHv (n : Nat) (w : Nat → Int) (ab : List Tr) (W : Nat → Int) : Prop where
  own : ∀ q < n, w q ≤ W q
  up : ∀ x ∈ ab, W x.1 + w x.2.1 ≤ W x.2.1
  is : ∀ q < n, W q = w q ∨ ∃ x ∈ ab, x.2.1 = q ∧ W q = W x.1 + w q
abbrev CSt := List Int × Tk
def stepC (ps : List Pc) (s : CSt) (x : Tr) : CSt := if atF s.1 x.2.1 < atF s.1 x.1 + wdR ps x.2.1 then (s.1.set x.2.1 (atF s.1 x.1 + wdR ps x.2.1), s.2.set x.2.1 (some (x.1 : Int))) else s
structure CI (ps : List Pc) (pre : List Tr) (s : CSt) : Prop where
  l1 : s.1.length = ps.length
  l2 : s.2.length = ps.length
  up : ∀ x ∈ pre, atF s.1 x.1 + wdR ps x.2.1 ≤ atF s.1 x.2.1
  own : ∀ q < ps.length, wdR ps q ≤ atF s.1 q
  no : ∀ q < ps.length, atT s.2 q = none → atF s.1 q = wdR ps q
  be : ∀ q < ps.length, ∀ p, atT s.2 q = some p → ∃ x ∈ pre, (x.1 : Int) = p ∧ x.2.1 = q ∧ atF s.1 q = atF s.1 x.1 + wdR ps q
theorem CI.step {ps : List Pc} {pre : List Tr} {s : CSt} {lv : Nat → Int} (I : CI ps pre s) (x : Tr) (hx : x.1 < ps.length ∧ x.2.1 < ps.length ∧ lv x.1 < lv x.2.1) (hp : ∀ y ∈ pre, lv y.1 < lv y.2.1 ∧ lv y.2.1 ≤ lv x.2.1) : CI ps (pre ++ [x]) (stepC ps s x) := by
  unfold stepC
  have npq : x.1 ≠ x.2.1 := fun z => by have := hx.2.2; rw [z] at this; omega
  have nosrc : ∀ y ∈ pre, y.1 ≠ x.2.1 := fun y hy z => by have := hp y hy; rw [z] at this; omega
  by_cases h : atF s.1 x.2.1 < atF s.1 x.1 + wdR ps x.2.1
  · rw [if_pos h]
    have g1 := atF_set (v := atF s.1 x.1 + wdR ps x.2.1) (n := x.2.1) (fs := s.1) (by rw [I.l1]; exact hx.2.1)
    have g2 := atT_set (v := some (x.1 : Int)) (n := x.2.1) (tr := s.2) (by rw [I.l2]; exact hx.2.1)
    refine ⟨by simpa using I.l1, by simpa using I.l2, fun y hy => ?_, fun q hq => ?_, fun q hq e => ?_, fun q hq p e => ?_⟩
    · dsimp only
      rw [g1, g1]
      rcases List.mem_append.mp hy with hy | hy
      · rw [if_neg (nosrc y hy)]
        have := I.up y hy
        by_cases z : y.2.1 = x.2.1
        · rw [if_pos z]; rw [z] at this ⊢; omega
        · rw [if_neg z]; exact this
      · obtain rfl : y = x := by simpa using hy
        rw [if_neg npq, if_pos rfl]
        exact Int.le_refl _
    · dsimp only
      rw [g1]
      have := I.own q hq
      by_cases z : q = x.2.1
      · rw [if_pos z]; rw [z] at this ⊢; omega
      · rw [if_neg z]; exact this
    · dsimp only at e ⊢
      rw [g2] at e
      by_cases z : q = x.2.1
      · rw [if_pos z] at e; cases e
      · rw [if_neg z] at e
        rw [g1, if_neg z]
        exact I.no q hq e
    · dsimp only at e ⊢
      rw [g2] at e
      by_cases z : q = x.2.1
      · rw [if_pos z] at e
        cases e
        exact ⟨x, by simp, rfl, z.symm, by rw [g1, if_pos z, g1, if_neg npq, z]⟩
      · rw [if_neg z] at e
        obtain ⟨y, hy, e1, e2, e3⟩ := I.be q hq p e
        exact ⟨y, List.mem_append_left _ hy, e1, e2, by rw [g1, if_neg z, g1, if_neg (nosrc y hy)]; exact e3⟩
  · rw [if_neg h]
    refine ⟨I.l1, I.l2, fun y hy => ?_, I.own, I.no, fun q hq p e => ?_⟩
    · rcases List.mem_append.mp hy with hy | hy
      · exact I.up y hy
      · obtain rfl : y = x := by simpa using hy
        omega
    · obtain ⟨y, hy, e1⟩ := I.be q hq p e
      exact ⟨y, List.mem_append_left _ hy, e1⟩
theorem CI.all {ps : List Pc} {lv : Nat → Int} : ∀ (xs pre : List Tr) (s : CSt), CI ps pre s → (∀ x ∈ pre ++ xs, x.1 < ps.length ∧ x.2.1 < ps.length ∧ lv x.1 < lv x.2.1) → (pre ++ xs).Pairwise (fun a b => lv a.2.1 ≤ lv b.2.1) → CI ps (pre ++ xs) (xs.foldl (stepC ps) s)
  | [], pre, s, I, _, _ => by rw [List.append_nil]; exact I
  | x :: xs, pre, s, I, h, hp => by
    have e : pre ++ x :: xs = (pre ++ [x]) ++ xs := by simp
    have J := I.step (lv := lv) x (h x (by simp)) fun y hy => ⟨(h y (by simp [hy])).2.2, by
      rw [e] at hp
      exact (List.pairwise_append.mp (List.pairwise_append.mp hp).1).2.2 y hy x (by simp)⟩
    rw [e] at h hp ⊢
    exact CI.all xs (pre ++ [x]) _ J h hp
theorem CI.hv {ps : List Pc} {ab pre : List Tr} {s : CSt} (I : CI ps pre s) (hp : pre.Perm ab) : IsHv ps.length (wdR ps) ab (atF s.1) := by
  refine ⟨I.own, fun x hx => I.up x (hp.mem_iff.mpr hx), fun q hq => ?_⟩
  cases e : atT s.2 q with
  | none => exact .inl (I.no q hq e)
  | some p =>
    obtain ⟨x, hx, e1, e2, e3⟩ := I.be q hq p e
    exact .inr ⟨x, hp.mem_iff.mp hx, e2, e3⟩
inductive BackR (bs : Tk) : Option Int → List Nat → Prop
  | nil : BackR bs none []
  | cons (a : Nat) (r : List Nat) : BackR bs (atT bs a) r → BackR bs (some (a : Int)) (a :: r)
def Down (ab : List Tr) : List Nat → Prop
  | a :: b :: r => (∃ x ∈ ab, x.1 = b ∧ x.2.1 = a) ∧ Down ab (b :: r)
  | _ => True
theorem Down.at {ab : List Tr} : ∀ {l : List Nat}, Down ab l → ∀ k, k + 1 < l.length → ∃ x ∈ ab, x.1 = l.getD (k + 1) 0 ∧ x.2.1 = l.getD k 0
  | [], _, k, h => by simp at h
  | [a], _, k, h => by simp at h
  | a :: b :: r, h, 0, _ => h.1
  | a :: b :: r, h, k + 1, hk => by
    have := Down.at h.2 k (by simpa using hk)
    simpa using this
def relax (w : Nat → Int) (V : List Int) (x : Tr) : List Int := V.set x.2.1 (max (atF V x.2.1) (atF V x.1 + w x.2.1))
structure RX (n : Nat) (w : Nat → Int) (W : Nat → Int) (V : List Int) : Prop where
  len : V.length = n
  own : ∀ q < n, w q ≤ atF V q
  le : ∀ q < n, atF V q ≤ W q
theorem RX.step {n : Nat} {w W : Nat → Int} {ab : List Tr} {V : List Int} (h : IsHv n w ab W) (I : RX n w W V) {x : Tr} (hx : x ∈ ab) (hl : x.1 < n ∧ x.2.1 < n) : RX n w W (relax w V x) ∧ (∀ q, atF V q ≤ atF (relax w V x) q) ∧ atF V x.1 + w x.2.1 ≤ atF (relax w V x) x.2.1 := by
  have g := atF_set (fs := V) (n := x.2.1) (v := max (atF V x.2.1) (atF V x.1 + w x.2.1)) (by rw [I.len]; exact hl.2)
  unfold relax
  have u := h.up x hx
  have a := I.le x.1 hl.1
  have b := I.le x.2.1 hl.2
  refine ⟨⟨by simpa using I.len, fun q hq => ?_, fun q hq => ?_⟩, fun q => ?_, ?_⟩
  · rw [g]
    have := I.own q hq
    by_cases z : q = x.2.1
    · rw [if_pos z]; rw [z] at this ⊢; omega
    · rw [if_neg z]; exact this
  · rw [g]
    by_cases z : q = x.2.1
    · rw [if_pos z, z]; omega
    · rw [if_neg z]; exact I.le q hq
  · rw [g]
    by_cases z : q = x.2.1
    · rw [if_pos z, z]; omega
    · rw [if_neg z]; exact Int.le_refl _
  · rw [g, if_pos rfl]; omega
theorem imOL_map {α : Type} {ei : α → D} (h : ∀ x, imO (ei x) = true) : ∀ xs : List α, imOL (xs.map ei) = true
  | [] => rfl
  | x :: xs => by rw [List.map_cons, imOL, h x, imOL_map h xs]; rfl
def someF (x : Int) : Int := x / 9 % (if x / 500 % 2 = 0 then 12 else 41)
def someL (x y : Int) : Int := min 40 (someF x + y % (if x / 1000 % 3 = 0 then 2 else if x / 1000 % 3 = 1 then 6 else 41))
def PcOk (ws : List (List Nat)) (p : Pc) : Prop := -1 ≤ p.f ∧ p.f ≤ p.l ∧ p.l ≤ 40 ∧ 1 ≤ p.w ∧ p.w ≤ 3 ∧ ∀ l, p.nm = some l → l ∈ ws
theorem PcOk.nm {ws : List (List Nat)} {p : Pc} (h : PcOk ws p) (hok : ∀ w ∈ ws, NameL w) : NmOk p.nm := fun l hl => hok l (h.2.2.2.2.2 l hl)
abbrev Pl : Type := List (Nat × Int)
def meetB (ps : List Pc) (n : Nat) (t : Int) (p : Nat × Int) : Bool := decide (dif ps n p.1) && decide (ovl ps n p.1) && (decide (t < p.2 + wdR ps p.1) && decide (p.2 < t + wdR ps n))
structure PutI (ps : List Pc) (ab : List Tr) (pre : List Nat) (pl : Pl) : Prop where
  ks : pl.map (·.1) = pre
  nd : pre.Nodup
  lt : ∀ k ∈ pre, k < ps.length
  bd : ∀ p ∈ pl, 0 ≤ p.2 ∧ p.2 + wdR ps p.1 ≤ 30 + 3 * pre.length
  up : ∀ x ∈ ab, x.2.1 ∈ pre → ∃ y y', (x.1, y) ∈ pl ∧ (x.2.1, y') ∈ pl ∧ y + wdR ps x.1 ≤ y'
  ap : ∀ p ∈ pl, ∀ q ∈ pl, p.1 ≠ q.1 → dif ps p.1 q.1 → ovl ps p.1 q.1 → p.2 + wdR ps p.1 ≤ q.2 ∨ q.2 + wdR ps q.1 ≤ p.2
theorem PutI.mem {ps : List Pc} {ab : List Tr} {pre : List Nat} {pl : Pl} (I : PutI ps ab pre pl) {k : Nat} (h : k ∈ pre) : ∃ y, (k, y) ∈ pl := by
  rw [← I.ks] at h
  obtain ⟨⟨a, y⟩, hp, rfl⟩ := List.mem_map.mp h
  exact ⟨y, hp⟩
theorem PutI.step {ps : List Pc} {ab : List Tr} {pre : List Nat} {pl : Pl} (P : PsOk ps) (I : PutI ps ab pre pl) {n : Nat} (hn : n < ps.length) (hp : n ∉ pre) (t : Int) (h0 : 0 ≤ t) (hb : t ≤ 30 + 3 * pre.length)
    (hu : ∀ x ∈ ab, x.2.1 = n → ∃ y, (x.1, y) ∈ pl ∧ y + wdR ps x.1 ≤ t) (hm : pl.any (meetB ps n t) = false) : PutI ps ab (pre ++ [n]) (pl ++ [(n, t)]) := by
  have w := P.wd n hn
  rw [List.any_eq_false] at hm
  have no : ∀ p ∈ pl, dif ps n p.1 → ovl ps n p.1 → t + wdR ps n ≤ p.2 ∨ p.2 + wdR ps p.1 ≤ t := fun p hp d o => by
    have := hm p hp
    unfold meetB at this
    simp only [Bool.and_eq_true, decide_eq_true_eq] at this
    by_cases z : t + wdR ps n ≤ p.2
    · exact .inl z
    · exact .inr (by
        have : ¬ t < p.2 + wdR ps p.1 := fun q => this ⟨⟨d, o⟩, q, by omega⟩
        omega)
  have sd : ∀ a b, dif ps a b → dif ps b a := fun a b d => by
    unfold dif at d ⊢
    rintro ⟨h1, h2⟩
    exact d ⟨by rw [← h2]; exact h1, h2.symm⟩
  have nin : ∀ p ∈ pl, p.1 ∈ pre := fun p hp => by rw [← I.ks]; exact List.mem_map.mpr ⟨p, hp, rfl⟩
  refine ⟨by rw [List.map_append, I.ks]; rfl, ?_, fun k hk => ?_, fun p hp => ?_, fun x hx hk => ?_, fun p hp q hq ne d o => ?_⟩
  · rw [List.nodup_append]
    refine ⟨I.nd, by simp, fun a ha b hb => ?_⟩
    have : b = n := by simpa using hb
    rw [this]
    exact fun z => hp (z ▸ ha)
  · rcases List.mem_append.mp hk with h | h
    · exact I.lt k h
    · have : k = n := by simpa using h
      rw [this]; exact hn
  · rw [List.length_append, List.length_singleton]
    rcases List.mem_append.mp hp with h | h
    · have := I.bd p h
      omega
    · have : p = (n, t) := by simpa using h
      subst this
      dsimp only
      omega
  · rcases List.mem_append.mp hk with h | h
    · obtain ⟨y, y', h1, h2, h3⟩ := I.up x hx h
      exact ⟨y, y', List.mem_append_left _ h1, List.mem_append_left _ h2, h3⟩
    · have e : x.2.1 = n := by simpa using h
      obtain ⟨y, h1, h2⟩ := hu x hx e
      exact ⟨y, t, List.mem_append_left _ h1, by rw [e]; simp, h2⟩
  · rcases List.mem_append.mp hp with h | h <;> rcases List.mem_append.mp hq with h' | h'
    · exact I.ap p h q h' ne d o
    · have : q = (n, t) := by simpa using h'
      subst this
      exact (no p h (sd _ _ d) ⟨o.2, o.1⟩).symm
    · have : p = (n, t) := by simpa using h
      subst this
      exact no q h' d o
    · have a : p = (n, t) := by simpa using h
      have b : q = (n, t) := by simpa using h'
      rw [a, b] at ne
      exact absurd rfl ne
def upZ (ab : List Tr) (q : Nat) : List Nat := (ab.filter fun t => decide (t.2.1 = q)).map (·.1)
def rdyZ (ab : List Tr) (ws : List Nat) : List Nat := ws.filter fun q => !((upZ ab q).any fun p => decide (p ∈ ws))
structure TurnI (n : Nat) (ab : List Tr) (ws ts : List Nat) : Prop where
  pm : (ts ++ ws).Perm (List.range n)
  od : ∀ pre q post, ts = pre ++ q :: post → ∀ p ∈ upZ ab q, p ∈ pre
theorem TurnI.step {n : Nat} {ab : List Tr} {ws ts : List Nat} (I : TurnI n ab ws ts) (hv : ∀ t ∈ ab, t.1 < n) {r : Nat} (hr : r ∈ rdyZ ab ws) : TurnI n ab (ws.erase r) (ts ++ [r]) := by
  unfold rdyZ at hr
  obtain ⟨h1, h2⟩ := List.mem_filter.mp hr
  refine ⟨?_, fun pre q post e p hp => ?_⟩
  · rw [List.append_assoc]
    exact (List.Perm.append_left ts (List.perm_cons_erase h1).symm).trans I.pm
  · by_cases z : post = []
    · subst z
      have e1 := congrArg List.dropLast e
      have e2 := congrArg List.getLast? e
      rw [List.dropLast_concat, List.dropLast_append_of_ne_nil (by simp)] at e1
      simp at e1 e2
      subst e1 e2
      have np : p ∉ ws := fun m => by
        have : ((upZ ab r).any fun p => decide (p ∈ ws)) = true := List.any_eq_true.mpr ⟨p, hp, by simpa using m⟩
        rw [this] at h2
        cases h2
      have hpn : p < n := by
        unfold upZ at hp
        obtain ⟨t, ht, rfl⟩ := List.mem_map.mp hp
        exact hv t (List.mem_filter.mp ht).1
      have := I.pm.mem_iff.mpr (List.mem_range.mpr hpn)
      rcases List.mem_append.mp this with m | m
      · exact m
      · exact absurd m np
    · obtain ⟨post', x, rfl⟩ : ∃ post' x, post = post' ++ [x] := ⟨post.dropLast, post.getLast z, (List.dropLast_concat_getLast z).symm⟩
      have e1 := congrArg List.dropLast e
      rw [List.dropLast_concat, ← List.cons_append, ← List.append_assoc, List.dropLast_concat] at e1
      exact I.od pre q post' e1 p hp
def clrZ (ps : List Pc) (tr : List Int) (one : Nat) (t : Int) (q : Nat) : Bool :=
  decide (0 ≤ atF tr q) && (decide (dif ps q one) && (decide (ovl ps q one) && (decide (atF tr q < t + wdR ps one) && decide (t < atF tr q + wdR ps q))))
theorem dif_c {ps : List Pc} {n k : Nat} : decide (dif ps n k) = ((pcR ps n).nm.isNone || !decide ((pcR ps n).nm = (pcR ps k).nm)) := by
  rw [Bool.eq_iff_iff, decide_eq_true_eq]
  unfold dif
  cases (pcR ps n).nm <;> simp
theorem ovl_c {ps : List Pc} {n k : Nat} : decide (ovl ps n k) = (decide ((pcR ps n).f ≤ (pcR ps k).l) && decide ((pcR ps k).f ≤ (pcR ps n).l)) := by
  rw [Bool.eq_iff_iff, decide_eq_true_eq]
  unfold ovl
  simp
theorem at_F {tr : List Int} {k : Nat} (h : k < tr.length) : atI (tr.map D.int) (k : Int) = some (.int (atF tr k)) := at_map tr k 0 h
theorem clr_turn (ps : List Pc) (tr : List Int) (one : Nat) (t : Int) (q : Nat) (hq : q < ps.length) (ho : one < ps.length) (hl : tr.length = ps.length) (P : PsOk ps) :
    B__law_clear_1 (.lst .frz (ps.map pcD)) (.lst .frz (tr.map D.int)) (.int (one : Int)) (.int t) (.int (q : Int)) = if clrZ ps tr one t q = true then .ok (.rt (.bl false)) else .ok (.nx ()) := by
  have e1 := at_F (tr := tr) (k := q) (by omega)
  have e2 := at_pc hq
  have e3 := at_pc ho
  have ne := nm_ne (pcR ps q).nm (pcR ps one).nm
  have f1 := P.fl q hq
  have f2 := P.fl one ho
  unfold B__law_clear_1 clrZ
  rw [dif_c, ovl_c]
  unfold wdR
  generalize atF tr q = y at *
  generalize pcR ps q = p at *
  generalize pcR ps one = o at *
  obtain ⟨pn, pf, pl, pw⟩ := p
  obtain ⟨on, of, ol, ow⟩ := o
  dsimp only at f1 f2 ne ⊢
  have rps := (map_calm (xs := ps) pcD_calm).1
  have o1 : (max pf of ≤ min pl ol) = (pf ≤ ol ∧ of ≤ pl) := propext (by omega)
  by_cases z0 : 0 ≤ y
  · cases pn with
    | none => by_cases z3 : pf ≤ ol <;> by_cases z4 : of ≤ pl <;> by_cases z5 : y < t + ow <;> by_cases z6 : t < y + pw <;> simp [rps, e1, e2, e3, nmD, z0, z3, z4, z5, z6, o1, rtR]
    | some z =>
      have nn : dIsN (nmD (some z)) = .ok (.bl false) := rfl
      cases z2 : decide (some z = on) <;> by_cases z3 : pf ≤ ol <;> by_cases z4 : of ≤ pl <;> by_cases z5 : y < t + ow <;> by_cases z6 : t < y + pw <;>
        (rw [z2] at ne; simp [-dIsN_e, rps, nn, e1, e2, e3, ne, z0, z3, z4, z5, z6, o1, rtR])
  · simp [rps, e1, z0]
theorem clear_eq (ps : List Pc) (tr : List Int) (one : Nat) (t : Int) (ho : one < ps.length) (hl : tr.length = ps.length) (hb : ps.length ≤ 1000) (P : PsOk ps) :
    M__law_clear (.lst .frz (ps.map pcD)) (.lst .frz (tr.map D.int)) (.int (one : Int)) (.int t) = .ok (.bl (!((List.range ps.length).any (clrZ ps tr one t)))) := by
  have l := forV_any (f := fun d s => B__law_clear_1 (.lst .frz (ps.map pcD)) (.lst .frz (tr.map D.int)) (.int (one : Int)) (.int t) d) (ei := fun q : Nat => D.int (q : Int)) (s := ()) (d := .bl false) (clrZ ps tr one t) (List.range ps.length) fun q hq => clr_turn ps tr one t q (List.mem_range.mp hq) ho hl P
  have rps := (map_calm (xs := ps) pcD_calm).1
  unfold M__law_clear
  have r0 : rng1 [.int (ps.length : Int)] = .ok ((List.range ps.length).map fun i : Nat => D.int (i : Int)) := by
    rw [rng1_nat (by omega), rng0]
  have ln : dLen [rd (.lst .frz (ps.map pcD))] = .ok (.int (ps.length : Int)) := by rw [rd_frz, rps]; simp
  rw [ln, rb_ok, rb_ok, r0, rb_ok, l]
  cases (List.range ps.length).any (clrZ ps tr one t) <;> rfl
structure TkI (ps : List Pc) (ab : List Tr) (pre : List Nat) (tr : List Int) : Prop where
  len : tr.length = ps.length
  neg : ∀ k < ps.length, k ∉ pre → atF tr k = -1
  lt : ∀ k ∈ pre, k < ps.length
  bd : ∀ k ∈ pre, 0 ≤ atF tr k ∧ atF tr k + wdR ps k ≤ 2 + 3 * pre.length
  up : ∀ x ∈ ab, x.2.1 ∈ pre → x.1 ∈ pre ∧ atF tr x.1 + wdR ps x.1 ≤ atF tr x.2.1
  ap : ∀ k ∈ pre, ∀ q ∈ pre, k ≠ q → dif ps k q → ovl ps k q → atF tr k + wdR ps k ≤ atF tr q ∨ atF tr q + wdR ps q ≤ atF tr k
theorem atF_put {tr : List Int} {n k : Nat} {t : Int} (hn : n < tr.length) : atF (tr.set n t) k = if k = n then t else atF tr k := by
  unfold atF
  rw [List.getD_eq_getElem?_getD, List.getD_eq_getElem?_getD]
  by_cases e : k = n
  · subst e
    rw [List.getElem?_set_self hn, if_pos rfl]
    rfl
  · rw [List.getElem?_set_ne (fun z => e z.symm), if_neg e]
theorem TkI.step {ps : List Pc} {ab : List Tr} {pre : List Nat} {tr : List Int} (P : PsOk ps) (I : TkI ps ab pre tr) {n : Nat} (hn : n < ps.length) (hp : n ∉ pre) (t : Int) (h0 : 0 ≤ t) (hb : t ≤ 2 + 3 * pre.length)
    (hu : ∀ x ∈ ab, x.2.1 = n → x.1 ∈ pre ∧ atF tr x.1 + wdR ps x.1 ≤ t) (hm : (List.range ps.length).any (clrZ ps tr n t) = false) : TkI ps ab (pre ++ [n]) (tr.set n t) := by
  have w := P.wd n hn
  have hnl : n < tr.length := by rw [I.len]; exact hn
  have A : ∀ k, atF (tr.set n t) k = if k = n then t else atF tr k := fun k => atF_put hnl
  have Ap : ∀ k ∈ pre, atF (tr.set n t) k = atF tr k := fun k hk => by rw [A]; exact if_neg fun z => hp (by rw [← z]; exact hk)
  have An : atF (tr.set n t) n = t := by rw [A, if_pos rfl]
  rw [List.any_eq_false] at hm
  have no : ∀ k ∈ pre, dif ps k n → ovl ps k n → atF tr k + wdR ps k ≤ t ∨ t + wdR ps n ≤ atF tr k := fun k hk d o => by
    have := hm k (List.mem_range.mpr (I.lt k hk))
    have b := (I.bd k hk).1
    unfold clrZ at this
    simp only [Bool.and_eq_true, decide_eq_true_eq] at this
    by_cases z : atF tr k < t + wdR ps n
    · exact .inl (by
        have : ¬ t < atF tr k + wdR ps k := fun q => this ⟨b, d, o, z, q⟩
        omega)
    · exact .inr (by omega)
  have sd : ∀ a b, dif ps a b → dif ps b a := fun a b d => by
    unfold dif at d ⊢
    rintro ⟨h1, h2⟩
    exact d ⟨by rw [← h2]; exact h1, h2.symm⟩
  refine ⟨by rw [List.length_set]; exact I.len, fun k hk hkn => ?_, fun k hk => ?_, fun k hk => ?_, fun x hx hk => ?_, fun k hk q hq ne d o => ?_⟩
  · rw [List.mem_append, not_or] at hkn
    have : k ≠ n := fun z => hkn.2 (by simp [z])
    rw [A, if_neg this]
    exact I.neg k hk hkn.1
  · rcases List.mem_append.mp hk with h | h
    · exact I.lt k h
    · have : k = n := by simpa using h
      rw [this]; exact hn
  · rw [List.length_append, List.length_singleton]
    rcases List.mem_append.mp hk with h | h
    · have := I.bd k h
      rw [Ap k h]
      omega
    · have : k = n := by simpa using h
      subst this
      rw [An]
      omega
  · rcases List.mem_append.mp hk with h | h
    · obtain ⟨h1, h2⟩ := I.up x hx h
      rw [Ap _ h1, Ap _ h]
      exact ⟨List.mem_append_left _ h1, h2⟩
    · have e : x.2.1 = n := by simpa using h
      obtain ⟨h1, h2⟩ := hu x hx e
      rw [Ap _ h1, e, An]
      exact ⟨List.mem_append_left _ h1, h2⟩
  · rcases List.mem_append.mp hk with h | h <;> rcases List.mem_append.mp hq with h' | h'
    · rw [Ap _ h, Ap _ h']
      exact I.ap k h q h' ne d o
    · have : q = n := by simpa using h'
      subst this
      rw [Ap _ h, An]
      exact no k h d o
    · have : k = n := by simpa using h
      subst this
      rw [Ap _ h', An]
      exact (no q h' (sd _ _ d) ⟨o.2, o.1⟩).symm
    · have a : k = n := by simpa using h
      have b : q = n := by simpa using h'
      exact absurd (a.trans b.symm) ne
theorem callNets' {t : Tag} (h : Ch) (hl : h.left.length ≤ 8) (hr : h.right.length ≤ 8) (ht : h.top.length ≤ 1000) (hb : h.bottom.length = h.top.length) : callD (lenIs 1 Ψ_nets_of) [chI t h] = .ok (.lst .own ((netsZ h).map fun w => .str (S w))) := by
  have e := nets_eq h hl hr ht hb
  cases t <;> simp [pe_nets_of, e]
def segZ (w : Nm) (k : Int) : Int → List Int → List Pc
  | _, [] => []
  | a, c :: cs => ⟨some w, a, c, k⟩ :: segZ w k c cs
def cutsZ (h : Ch) (w : Nm) (bent : Bool) : List Int := if bent = true then (h.bends.filter fun b => decide (b.2 = w)).map Prod.fst else []
def netPcs (h : Ch) (bent : Bool) (w : Nm) : List Pc := match stretchZ h w with
  | none => []
  | some p => segZ w (wZ h w) p.1 (cutsZ h w bent ++ [p.2])
def pcsZ (h : Ch) (bent : Bool) : List Pc := (h.keeps.map fun k => ⟨none, k.1, k.2.1, k.2.2⟩) ++ (netsZ h).flatMap (netPcs h bent)
theorem seg_len (w : Nm) (k : Int) : ∀ (cs : List Int) (a : Int), (segZ w k a cs).length = cs.length
  | [], _ => rfl
  | c :: cs, a => by rw [segZ, List.length_cons, List.length_cons, seg_len w k cs c]
theorem seg_loop (w : Nm) (k : Int) : ∀ (cs : List Int) (acc : List Pc) (a : Int), acc.length + cs.length ≤ 900000 →
    forV (fun d s => B_net_pieces_1 (.str (S w)) (.int k) d s.1 s.2) (cs.map D.int) (.lst .own (acc.map pcD), .int a) = .ok (.nx (.lst .own ((acc ++ segZ w k a cs).map pcD), .int (cs.getLast?.getD a)))
  | [], acc, a, _ => by simp [segZ]
  | c :: cs, acc, a, h => by
    rw [List.length_cons] at h
    have b1 : acc.length < 1000000 := by omega
    have st : B_net_pieces_1 (.str (S w)) (.int k) (.int c) (.lst .own (acc.map pcD)) (.int a) = .ok (.nx (.lst .own ((acc ++ [(⟨some w, a, c, k⟩ : Pc)]).map pcD), .int c)) := by
      unfold B_net_pieces_1
      simp [b1, pcD, nmD]
    rw [List.map_cons, forV_cons]
    dsimp only
    rw [st]
    simp only [rb_ok]
    rw [seg_loop w k cs (acc ++ [(⟨some w, a, c, k⟩ : Pc)]) c (by rw [List.length_append, List.length_singleton]; omega)]
    rw [segZ, List.append_assoc, List.getLast?_cons]
    rfl
theorem net_pieces_eq (h : Ch) (w : Nm) (bent : Bool) (hl : h.top.length ≤ 1000) (hb : h.bottom.length = h.top.length) (hn : h.bends.length ≤ 1000) :
    M_net_pieces (chI .frz h) (.str (S w)) (.bl bent) = .ok (.lst .own ((netPcs h bent w).map pcD)) := by
  have st := callStretch (t := .frz) h w hl hb
  have we := width_eq h w
  have J : ∀ (p : Int × Int) (cs : List Int), cs.length ≤ 1000 → J_net_pieces_1 (chI .frz h) (.str (S w)) (stD (some p)) (.lst .own (cs.map D.int)) = .ok (.lst .own ((segZ w (wZ h w) p.1 (cs ++ [p.2])).map pcD)) := by
    intro p cs hc
    have sl := seg_loop w (wZ h w) (cs ++ [p.2]) [] p.1 (by simp; omega)
    have b1 : cs.length + 1 ≤ 1000000 := by omega
    have rc : rdL (cs.map D.int) = cs.map D.int := by rw [rdL_map]; simp
    have fc : fzL (cs.map D.int) = cs.map D.int := by rw [fzL_map]; simp
    simp only [List.map_append, List.map_nil, List.nil_append, List.map_cons] at sl
    unfold J_net_pieces_1 stD
    simp [pe_width_of, we, b1, rc, fc, sl]
  unfold M_net_pieces netPcs cutsZ
  simp only [rd_str, show rd (chI .frz h) = chI .frz h by simp, st]
  generalize stretchZ h w = z at *
  cases z with
  | none => simp [stD]
  | some p =>
    cases bent with
    | false =>
      have j := J p [] (by simp)
      simp only [List.map_nil] at j
      simp only [stD] at j ⊢
      simp [j]
    | true =>
      have lc := lcV_eq (f := fun t10 => (ub2 t10).bind fun t11 => ifR ((dEq (rd t11.2) (.str (S w))).bind asB) ((chk (rd t11.1)).bind fun y => Res.ok (some y)) (Res.ok none)) (ei := bdD) D.int (fun b => if decide (b.2 = w) = true then some b.1 else none) h.bends (by
        rintro ⟨c, v⟩ _
        have e := eq_nmw (some v) w
        by_cases q : v = w <;> simp [bdD, nmD, q] at e ⊢)
      have fm : h.bends.filterMap (fun b => if decide (b.2 = w) = true then some b.1 else none) = (h.bends.filter fun b => decide (b.2 = w)).map Prod.fst := by
        induction h.bends with
        | nil => rfl
        | cons b l ih =>
          rw [List.filterMap_cons, List.filter_cons]
          by_cases q : decide (b.2 = w) = true
          · rw [if_pos q, if_pos q, List.map_cons, ih]
          · rw [if_neg q, if_neg q, ih]
      rw [fm] at lc
      have cl : ((h.bends.filter fun b => decide (b.2 = w)).map Prod.fst).length ≤ 1000 := by
        rw [List.length_map]
        exact Nat.le_trans (List.length_filter_le _ _) hn
      have j := J p _ cl
      generalize (h.bends.filter fun b => decide (b.2 = w)).map Prod.fst = C at *
      have b1 : C.length ≤ 1000000 := by omega
      have A : ((dFld ["Channel"] "bends" (chI .frz h)).bind fun t9 => itemsOf false t9) = .ok (h.bends.map bdD) := by simp [rd_bds]
      refine bstep (x := stD (some p)) (by simp [stD]) ?_
      have i1 : ((dIsN (rd (stD (some p)))).bind asB) = .ok false := by simp [stD]
      have i2 : tru (rd (.bl true)) = .ok true := by simp
      rw [i1, i2]
      simp only [ifR_e, Bool.false_eq_true, if_false, if_true]
      rw [A]
      simp only [rb_ok]
      rw [lc]
      simp [b1, j]
theorem cuts_len (h : Ch) (w : Nm) (bent : Bool) : (cutsZ h w bent).length ≤ h.bends.length := by
  unfold cutsZ
  split
  · rw [List.length_map]
    exact List.length_filter_le _ _
  · exact Nat.zero_le _
theorem net_len (h : Ch) (bent : Bool) (w : Nm) : (netPcs h bent w).length ≤ h.bends.length + 1 := by
  unfold netPcs
  split
  · exact Nat.zero_le _
  · rw [seg_len, List.length_append, List.length_singleton]
    have := cuts_len h w bent
    omega
theorem pieces_of_eq (h : Ch) (bent : Bool) (hl : h.top.length ≤ 1000) (hb : h.bottom.length = h.top.length) (hn : h.bends.length ≤ 1000) (hk : h.keeps.length ≤ 1000) (h1 : h.left.length ≤ 8) (h2 : h.right.length ≤ 8) (hz : (netsZ h).length ≤ 500) :
    M_pieces_of (chI .frz h) (.bl bent) = .ok (.lst .own ((pcsZ h bent).map pcD)) := by
  have ne := nets_eq h h1 h2 hl hb
  have turn : ∀ w ∈ netsZ h, ∀ acc : List Pc, acc.length + 1001 ≤ 900000 → B_pieces_of_1 (chI .frz h) (.bl bent) (.str (S w)) (.lst .own (acc.map pcD)) = .ok (.nx (.lst .own ((acc ++ netPcs h bent w).map pcD))) := by
    intro w _ acc ha
    have np := net_pieces_eq h w bent hl hb hn
    have nl := net_len h bent w
    generalize netPcs h bent w = Z at *
    have b1 : acc.length + Z.length ≤ 1000000 := by omega
    unfold B_pieces_of_1
    simp [pe_net_pieces, np, b1]
  have loop := forV_gatherN (f := fun d s => B_pieces_of_1 (chI .frz h) (.bl bent) d s) (ei := fun w => .str (S w)) pcD (netPcs h bent) 900000 1001 (netsZ h) (h.keeps.map fun k => (⟨none, k.1, k.2.1, k.2.2⟩ : Pc)) (by rw [List.length_map]; omega) turn (fun w _ => by have := net_len h bent w; omega)
  have lc := lcV_map (f := fun t2 => (ub3 t2).bind fun t3 => (chk (D.tup [D.non, rd t3.1, rd t3.2.1, rd t3.2.2])).bind fun y => Res.ok (some y)) (ei := kpD) pcD (fun k => (⟨none, k.1, k.2.1, k.2.2⟩ : Pc)) h.keeps (by
    rintro ⟨a, b, c⟩ _
    simp [kpD, pcD, nmD])
  have A : ((dFld ["Channel"] "keeps" (rd (chI .frz h))).bind fun t1 => itemsOf false t1) = .ok (h.keeps.map kpD) := by simp [rd_kps]
  unfold M_pieces_of pcsZ
  refine bstep (x := .lst .own ((h.keeps.map fun k => (⟨none, k.1, k.2.1, k.2.2⟩ : Pc)).map pcD)) ?_ ?_
  · have b1 : (h.keeps.map fun k => (⟨none, k.1, k.2.1, k.2.2⟩ : Pc)).length ≤ 1000000 := by rw [List.length_map]; omega
    rw [A]
    simp only [rb_ok]
    rw [lc]
    generalize (h.keeps.map fun k => (⟨none, k.1, k.2.1, k.2.2⟩ : Pc)) = Z at *
    simp [b1]
  · have cn := callNets' (t := .frz) h h1 h2 hl hb
    generalize (h.keeps.map fun k => (⟨none, k.1, k.2.1, k.2.2⟩ : Pc)) = Z at *
    have ft : fzL ((netsZ h).map fun w => D.str (S w)) = (netsZ h).map fun w => .str (S w) := fz_strs
    have nt : noTL ((netsZ h).map fun w => D.str (S w)) = true := by rw [noTL_eq, List.all_map]; simp
    rw [show rd (chI .frz h) = chI .frz h by simp, cn]
    simp only [rb_ok]
    rw [itemsOf_ownT, if_pos nt, ft]
    simp only [rb_ok, loop, afterV_nx]
    simp
theorem seg_nm (w : Nm) (k : Int) : ∀ (cs : List Int) (a : Int), ∀ p ∈ segZ w k a cs, p.nm = some w
  | [], _, p, hp => by cases hp
  | c :: cs, a, p, hp => by
    rw [segZ] at hp
    rcases List.mem_cons.mp hp with rfl | hp
    · rfl
    · exact seg_nm w k cs c p hp
abbrev T3 : Type := Nat × Nat × Int
abbrev endsH (h : Ch) (w : Nm) : List En := endsZ h.top h.bottom h.left h.right w
structure Good (h : Ch) : Prop where
  ends : ∀ w, (endsH h w).length ≠ 1
  wide : ∀ p ∈ h.wide, endsH h p.1 ≠ []
  bend : ∀ b ∈ h.bends, endsH h b.2 ≠ [] ∧ ∃ (l r : Int) (c : Nat), stretchZ h b.2 = some (l, r) ∧ b.1 = (c : Int) ∧ l < b.1 ∧ b.1 < r ∧ c < h.top.length ∧
    ((h.top[c]?.getD none = none ∧ h.bottom[c]?.getD none = none) ∨ h.top[c]?.getD none = some b.2 ∨ h.bottom[c]?.getD none = some b.2)
  keep : ∀ k ∈ h.keeps, k.1 ≤ k.2.1 ∧ k.2.1 < (h.top.length : Int) ∧ 1 ≤ k.2.2 ∧ k.2.2 ≤ 3
theorem places_sub {h : Ch} {w : Nm} (hb : h.bottom.length = h.top.length) {z : Int} (hz : z ∈ placesZ h.top h.bottom h.left h.right w) : z ∈ colsZ h w ∧ endsH h w ≠ [] := by
  unfold placesZ at hz
  unfold colsZ
  rcases List.mem_append.mp hz with hz | hz
  · rcases List.mem_append.mp hz with hz | hz
    · obtain ⟨c, hc, rfl⟩ := List.mem_map.mp hz
      obtain ⟨hr, hp⟩ := List.mem_filter.mp hc
      have hp' : some w = h.top[c]?.getD none ∨ some w = h.bottom[c]?.getD none := by simpa using hp
      have : ∃ e ∈ endsH h w, endCol e = some (c : Int) := by
        rcases hp' with q | q
        · refine ⟨.top c, ?_, rfl⟩
          unfold endsH endsZ
          refine List.mem_append_right _ (List.mem_append_left _ (List.mem_flatMap.mpr ⟨c, hr, ?_⟩))
          unfold pinE
          rw [if_pos q.symm]
          simp
        · refine ⟨.bottom c, ?_, rfl⟩
          unfold endsH endsZ
          refine List.mem_append_right _ (List.mem_append_left _ (List.mem_flatMap.mpr ⟨c, hr, ?_⟩))
          unfold pinE
          rw [if_pos q.symm]
          simp
      obtain ⟨e, he, hcol⟩ := this
      refine ⟨List.mem_append_left _ (List.mem_append_left _ (List.mem_filterMap.mpr ⟨e, he, hcol⟩)), List.ne_nil_of_mem he⟩
    · by_cases q : w ∈ h.left
      · rw [if_pos q] at hz ⊢
        exact ⟨List.mem_append_left _ (List.mem_append_right _ hz), by unfold endsH endsZ; rw [if_pos q]; simp⟩
      · rw [if_neg q] at hz; cases hz
  · by_cases q : w ∈ h.right
    · rw [if_pos q] at hz ⊢
      exact ⟨List.mem_append_right _ hz, by unfold endsH endsZ; rw [if_pos q]; simp⟩
    · rw [if_neg q] at hz; cases hz
abbrev Rw : Type := Int × Int × Nat
abbrev StS : Type := List (Nat × Nat) × List Int
def atZ (ends : List Int) (f : Int) : Nat := ends.findIdx fun e => decide (e < f)
def stepS (st : StS) (r : Rw) : StS := (st.1 ++ [(r.2.2, atZ st.2 r.1)], if atZ st.2 r.1 = st.2.length then st.2 ++ [r.2.1] else st.2.set (atZ st.2 r.1) r.2.1)
theorem at_le (ends : List Int) (f : Int) : atZ ends f ≤ ends.length := List.findIdx_le_length
theorem at_here {ends : List Int} {f : Int} (h : atZ ends f < ends.length) : ends[atZ ends f] < f := by
  have := List.findIdx_getElem (w := h)
  exact of_decide_eq_true this
structure StripI (F E : Nat → Int) (st : StS) : Prop where
  a : ∀ p ∈ st.1, p.2 < st.2.length ∧ E p.1 ≤ st.2.getD p.2 0
  b : ∀ p ∈ st.1, ∀ q ∈ st.1, p.2 = q.2 → p.1 ≠ q.1 → E p.1 < F q.1 ∨ E q.1 < F p.1
theorem getD_set0 {zs : List Int} {n : Nat} {v : Int} (h : n < zs.length) (k : Nat) : (zs.set n v).getD k 0 = if k = n then v else zs.getD k 0 := atF_set h k
theorem StripI.step {F E : Nat → Int} {st : StS} (I : StripI F E st) {r : Rw} (h1 : r.1 = F r.2.2) (h2 : r.2.1 = E r.2.2) (h3 : r.1 ≤ r.2.1) : StripI F E (stepS st r) := by
  have al := at_le st.2 r.1
  unfold stepS
  by_cases q : atZ st.2 r.1 = st.2.length
  · rw [if_pos q]
    refine ⟨fun p hp => ?_, fun p hp p' hp' e ne => ?_⟩
    · dsimp only
      rcases List.mem_append.mp hp with h | h
      · obtain ⟨g1, g2⟩ := I.a p h
        refine ⟨by rw [List.length_append]; omega, ?_⟩
        rw [List.getD_eq_getElem?_getD, List.getElem?_append_left g1, ← List.getD_eq_getElem?_getD]
        exact g2
      · have : p = (r.2.2, atZ st.2 r.1) := by simpa using h
        subst this
        dsimp only
        refine ⟨by rw [q, List.length_append]; simp, ?_⟩
        rw [q, List.getD_eq_getElem?_getD, List.getElem?_append_right (Nat.le_refl _), h2]
        simp
    · have old : ∀ p ∈ st.1, p.2 < st.2.length := fun p hp => (I.a p hp).1
      rcases List.mem_append.mp hp with h | h <;> rcases List.mem_append.mp hp' with h' | h'
      · exact I.b p h p' h' e ne
      · have : p' = (r.2.2, atZ st.2 r.1) := by simpa using h'
        subst this
        have := old p h
        dsimp only at e
        omega
      · have : p = (r.2.2, atZ st.2 r.1) := by simpa using h
        subst this
        have := old p' h'
        dsimp only at e
        omega
      · have a : p = (r.2.2, atZ st.2 r.1) := by simpa using h
        have b : p' = (r.2.2, atZ st.2 r.1) := by simpa using h'
        rw [a, b] at ne
        exact absurd rfl ne
  · rw [if_neg q]
    have lt : atZ st.2 r.1 < st.2.length := by omega
    have hh := at_here lt
    have hg : st.2.getD (atZ st.2 r.1) 0 < r.1 := by
      rw [List.getD_eq_getElem?_getD, List.getElem?_eq_getElem lt]
      exact hh
    refine ⟨fun p hp => ?_, fun p hp p' hp' e ne => ?_⟩
    · dsimp only
      rw [List.length_set, getD_set0 lt]
      rcases List.mem_append.mp hp with h | h
      · obtain ⟨g1, g2⟩ := I.a p h
        refine ⟨g1, ?_⟩
        by_cases z : p.2 = atZ st.2 r.1
        · rw [if_pos z]; rw [z] at g2; omega
        · rw [if_neg z]; exact g2
      · have : p = (r.2.2, atZ st.2 r.1) := by simpa using h
        subst this
        dsimp only
        rw [if_pos rfl, h2]
        exact ⟨lt, Int.le_refl _⟩
    · have one : ∀ p ∈ st.1, p.2 = atZ st.2 r.1 → E p.1 < F r.2.2 := fun p hp z => by
        have := (I.a p hp).2
        rw [z] at this
        omega
      rcases List.mem_append.mp hp with h | h <;> rcases List.mem_append.mp hp' with h' | h'
      · exact I.b p h p' h' e ne
      · have : p' = (r.2.2, atZ st.2 r.1) := by simpa using h'
        subst this
        exact .inl (one p h e)
      · have : p = (r.2.2, atZ st.2 r.1) := by simpa using h
        subst this
        exact .inr (one p' h' e.symm)
      · have a : p = (r.2.2, atZ st.2 r.1) := by simpa using h
        have b : p' = (r.2.2, atZ st.2 r.1) := by simpa using h'
        rw [a, b] at ne
        exact absurd rfl ne
theorem StripI.all {F E : Nat → Int} : ∀ (os : List Rw) (st : StS), StripI F E st → (∀ r ∈ os, r.1 = F r.2.2 ∧ r.2.1 = E r.2.2 ∧ r.1 ≤ r.2.1) → StripI F E (os.foldl stepS st)
  | [], st, I, _ => I
  | r :: os, st, I, h => by
    obtain ⟨h1, h2, h3⟩ := h r (by simp)
    exact StripI.all os _ (I.step h1 h2 h3) fun r hr => h r (by simp [hr])
structure SpI (ps : List Pc) (L : List Int) (Dn : Nat → Prop) (tr : List Int) (fr : Int) : Prop where
  len : tr.length = ps.length
  nn : 0 ≤ fr
  bd : ∀ q < ps.length, Dn q → 0 ≤ atF tr q ∧ atF tr q + wdR ps q ≤ fr
  up : ∀ q < ps.length, ∀ k < ps.length, Dn q → Dn k → atF L q < atF L k → atF tr q + wdR ps q ≤ atF tr k
  ap : ∀ q < ps.length, ∀ k < ps.length, q ≠ k → Dn q → Dn k → atF tr q + wdR ps q ≤ atF tr k ∨ atF tr k + wdR ps k ≤ atF tr q
theorem SpI.imp {ps : List Pc} {L tr : List Int} {fr : Int} {A B : Nat → Prop} (I : SpI ps L A tr fr) (h : ∀ q < ps.length, B q → A q) : SpI ps L B tr fr :=
  ⟨I.len, I.nn, fun q hq b => I.bd q hq (h q hq b), fun q hq k hk b c => I.up q hq k hk (h q hq b) (h k hk c), fun q hq k hk n b c => I.ap q hq k hk n (h q hq b) (h k hk c)⟩
def doneS (L : List Int) (lev : Nat) (pre : List Nat) (q : Nat) : Prop := atF L q < lev ∨ (atF L q = lev ∧ q ∈ pre)
theorem SpI.put {ps : List Pc} {L tr : List Int} {fr e : Int} {lev p : Nat} {pre : List Nat} (I : SpI ps L (doneS L lev pre) tr fr) (hp : p < ps.length) (hn : p ∉ pre) (hL : atF L p = lev) (hw : ∀ q < ps.length, 0 ≤ wdR ps q) (he : 0 ≤ e) :
    SpI ps L (doneS L lev (pre ++ [p])) (tr.set p fr) (fr + wdR ps p + e) := by
  have w0 := hw p hp
  have f0 := I.nn
  have at_ : ∀ q, atF (tr.set p fr) q = if q = p then fr else atF tr q := fun q => atF_set (by rw [I.len]; exact hp) q
  have dn : ∀ q, q ≠ p → doneS L lev (pre ++ [p]) q → doneS L lev pre q := fun q hq h => by
    rcases h with h | ⟨h, m⟩
    · exact .inl h
    · rcases List.mem_append.mp m with m | m
      · exact .inr ⟨h, m⟩
      · exact absurd (List.mem_singleton.mp m) hq
  have le : ∀ q, doneS L lev (pre ++ [p]) q → atF L q ≤ lev := fun q h => by
    rcases h with h | ⟨h, _⟩ <;> omega
  refine ⟨by rw [List.length_set]; exact I.len, by omega, fun q hq d => ?_, fun q hq k hk d1 d2 lt => ?_, fun q hq k hk ne d1 d2 => ?_⟩
  · rw [at_]
    by_cases z : q = p
    · subst z
      rw [if_pos rfl]
      omega
    · rw [if_neg z]
      have := I.bd q hq (dn q z d)
      omega
  · rw [at_, at_]
    by_cases z : q = p
    · subst z
      have := le k d2
      omega
    · rw [if_neg z]
      by_cases y : k = p
      · rw [if_pos y]
        exact (I.bd q hq (dn q z d1)).2
      · rw [if_neg y]
        exact I.up q hq k hk (dn q z d1) (dn k y d2) lt
  · rw [at_, at_]
    by_cases z : q = p
    · rw [if_pos z]
      by_cases y : k = p
      · omega
      · rw [if_neg y]
        exact .inr (I.bd k hk (dn k y d2)).2
    · rw [if_neg z]
      by_cases y : k = p
      · rw [if_pos y]
        exact .inl (I.bd q hq (dn q z d1)).2
      · rw [if_neg y]
        exact I.ap q hq k hk ne (dn q z d1) (dn k y d2)
@[simp] theorem imO_pcD (x : Pc) : imO (pcD x) = true := by unfold pcD; cases x.nm <;> simp [nmD]
theorem faL_mp {α : Type} {f : α → D} (h : ∀ x, fa (f x) = f x) : ∀ l : List α, faL (l.map f) = l.map f
  | [] => by rw [List.map_nil, faL_nil]
  | x :: l => by rw [List.map_cons, faL_cons, h, faL_mp h l]
theorem imOL_mp {α : Type} {f : α → D} (h : ∀ x, imO (f x) = true) (l : List α) : imOL (l.map f) = true := by rw [imOL_eq, List.all_map, List.all_eq_true]; exact fun x _ => h x
theorem noTL_mp {α : Type} {f : α → D} (h : ∀ x, noT (f x) = true) (l : List α) : noTL (l.map f) = true := by rw [noTL_map, List.all_eq_true]; exact fun x _ => h x
section
variable (ps : List Pc) (ab : List T3) (ns : List Int)
@[simp high] theorem imOL_pcs : imOL (ps.map pcD) = true := imOL_mp imO_pcD ps
@[simp high] theorem faL_ints : faL (ns.map D.int) = ns.map D.int := faL_mp (f := D.int) (fun _ => by simp) ns
@[simp high] theorem noTL_ints : noTL (ns.map D.int) = true := noTL_mp (f := D.int) (fun _ => by simp) ns
@[simp high] theorem imOL_ints : imOL (ns.map D.int) = true := imOL_mp (f := D.int) (fun _ => by simp) ns
end
theorem nets_len {ws : List Nm} (h8 : ws.length = 8) {W : Nat} {h : Ch} (c : ChOk ws W h) : (netsZ h).length ≤ 8 := by
  have nd : (netsZ h).Nodup := (List.mergeSort_perm _ _).nodup_iff.mpr (nodup_once _)
  have sub : ∀ w ∈ netsZ h, w ∈ ws := by
    intro w hw
    rcases mem_nets.mp hw with z | z | z | z
    · exact c.left w z
    · exact c.right w z
    · exact c.top _ z w rfl
    · exact c.bottom _ z w rfl
  have := nd.length_le_of_subset sub
  omega
theorem nets_sub {ws : List Nm} {W : Nat} {h : Ch} (c : ChOk ws W h) : ∀ w ∈ netsZ h, w ∈ ws := by
  intro w hw
  rcases mem_nets.mp hw with z | z | z | z
  · exact c.left w z
  · exact c.right w z
  · exact c.top _ z w rfl
  · exact c.bottom _ z w rfl
theorem pcs_nets (h : Ch) (bent : Bool) : ∀ p ∈ pcsZ h bent, ∀ w, p.nm = some w → w ∈ netsZ h := by
  intro p hp w e
  unfold pcsZ at hp
  rcases List.mem_append.mp hp with hp | hp
  · obtain ⟨k, hk, rfl⟩ := List.mem_map.mp hp
    cases e
  · obtain ⟨v, hv, hp⟩ := List.mem_flatMap.mp hp
    unfold netPcs at hp
    split at hp
    · cases hp
    · have := seg_nm _ _ _ _ p hp
      rw [this] at e
      cases e
      exact hv
theorem nets_nd (h : Ch) : (netsZ h).Nodup := (List.mergeSort_perm _ _).nodup_iff.mpr (nodup_once _)
theorem net_nm {h : Ch} {bent : Bool} {w : Nm} {x : Pc} (hx : x ∈ netPcs h bent w) : x.nm = some w := by
  unfold netPcs at hx
  split at hx
  · cases hx
  · exact seg_nm _ _ _ _ x hx
theorem chan_wide3 (ws : List Nm) (cs : List Int) (seed : Int) (W : Nat) : ∀ p ∈ (chanZ ws cs seed W).wide, 1 ≤ p.2 ∧ p.2 ≤ 3 := by
  intro p hp
  unfold chanZ wideZ at hp
  obtain ⟨q, _, hq⟩ := List.mem_flatMap.mp hp
  unfold wideB at hq
  split at hq
  · simp only [List.mem_singleton] at hq
    subst hq
    dsimp only
    omega
  · simp at hq
abbrev E4 := Fin 4 × Int
def e4 (tr : List Int) (jl jr : Nm → Nat) (w : Nm) : En → E4
  | .left => (1, atF tr (jl w))
  | .right => (2, atF tr (jr w))
  | .top c => (3, c)
  | .bottom c => (0, c)
theorem stretch_of {h : Ch} {w : Nm} {a b : Int} (hab : a < b) (ha : a ∈ colsZ h w) (hb : b ∈ colsZ h w) (hn : endsZ h.top h.bottom h.left h.right w ≠ []) :
    ∃ l r, stretchZ h w = some (l, r) ∧ l ∈ colsZ h w ∧ r ∈ colsZ h w ∧ (∀ z ∈ colsZ h w, l ≤ z ∧ z ≤ r) := by
  have z : colsZ h w ≠ [] := List.ne_nil_of_mem ha
  obtain ⟨l, h1, h2, h3⟩ := minI_some z
  obtain ⟨r, h4, h5, h6⟩ := maxI_some z
  refine ⟨l, r, ?_, h2, h5, fun x hx => ⟨h3 x hx, h6 x hx⟩⟩
  unfold stretchZ
  rw [if_neg hn, h1, h4, if_neg]
  · rfl
  · have := h3 a ha
    have := h6 b hb
    show ¬ l = r
    omega
structure ChanOk (ws : List Nm) (W : Nat) (h : Ch) : Prop where
  co : ChOk ws W h
  gd : Good h
  nl : h.left.Nodup
  nr : h.right.Nodup
  kb : ∀ k ∈ h.keeps, 0 ≤ k.1 ∧ k.1 ≤ k.2.1 ∧ k.2.1 < (W : Int)
  w3 : ∀ p ∈ h.wide, 1 ≤ p.2 ∧ p.2 ≤ 3
  bs : h.bends.Pairwise fun a b => a.1 < b.1
theorem sortN_lt {ls : List Nm} (n : ls.Nodup) : (sortN ls).Pairwise (· < ·) := by
  have s := sortN_sorted ls
  have nd : (sortN ls).Nodup := (List.mergeSort_perm ls _).nodup_iff.mpr n
  refine List.Pairwise.imp₂ (fun a b h1 h2 => ?_) s nd
  by_cases q : a < b
  · exact q
  · exact absurd (List.le_antisymm (of_decide_eq_true h1) (List.not_lt.mp q)) h2
theorem wide_lt {ws : List Nm} (nd : ws.Nodup) (seed : Int) (all : List (Option Nm)) : ((wideZ ws seed all).map (·.1)).Pairwise (· < ·) := by
  have key : ∀ (xs : List Nm) (k : Nat), xs.Pairwise (· < ·) → (((xs.zipIdx k).flatMap fun p => wideB seed all p.1 p.2).map (·.1)).Sublist xs := by
    intro xs
    induction xs with
    | nil => intro k _; exact List.Sublist.slnil
    | cons x xs ih =>
      intro k h
      have ih := ih (k + 1) (List.pairwise_cons.mp h).2
      rw [List.zipIdx_cons, List.flatMap_cons, List.map_append]
      unfold wideB
      dsimp only
      split
      · exact ih.cons₂ x
      · exact ih.cons x
  unfold wideZ
  exact (sortN_lt nd).sublist (key (sortN ws) 0 (sortN_lt nd))
def loneB (h : Ch) (w : Nm) : Bool := decide ((endsH h w).length = 1)
def noneB (h : Ch) (w : Nm) : Bool := decide (endsH h w = [])
def pinsB (x y : Option Nm) (w : Nm) : Bool := decide ((x = none ∧ y = none) ∨ x = some w ∨ y = some w)
def pinsOk (h : Ch) (w : Nm) (c : Nat) : Bool := pinsB (h.top[c]?.getD none) (h.bottom[c]?.getD none) w
def bendOk (h : Ch) (b : Int × Nm) : Bool := match stretchZ h b.2 with
  | none => false
  | some p => decide (p.1 < b.1) && (decide (b.1 < p.2) && pinsOk h b.2 b.1.toNat)
def keepOk (h : Ch) (k : Int × Int × Int) : Bool := decide (k.1 ≤ k.2.1 ∧ k.2.1 < (h.top.length : Int) ∧ 1 ≤ k.2.2 ∧ k.2.2 ≤ 3)
def loneF (h : Ch) : Option Nm := (netsZ h).find? (loneB h)
def noneF (h : Ch) : Option Nm := (h.wide.map (·.1) ++ h.bends.map (·.2)).find? (noneB h)
def bendF (h : Ch) : Option (Int × Nm) := h.bends.find? fun b => !bendOk h b
def keepF (h : Ch) : Option ((Int × Int × Int) × Nat) := h.keeps.zipIdx.find? fun q => !keepOk h q.1
instance (k : Nat) : Decidable (isLet k) := inferInstanceAs (Decidable (_ ∧ _))
instance (l : List Nat) : Decidable (NameL l) := inferInstanceAs (Decidable (_ ∧ _ ∧ _))
structure Six (ws us : List Nm) : Prop where
  len : us.length = 6
  ok : ∀ u ∈ us, NameL u
  lt : us.Pairwise fun a b => a < b
  new : ∀ u ∈ us, u ∉ ws
theorem cols_sub {h : Ch} {w : Nm} (hb : h.bottom.length = h.top.length) {z : Int} (hz : z ∈ colsZ h w) : z ∈ placesZ h.top h.bottom h.left h.right w := by
  unfold colsZ at hz
  unfold placesZ
  rcases List.mem_append.mp hz with hz | hz
  · rcases List.mem_append.mp hz with hz | hz
    · refine List.mem_append_left _ (List.mem_append_left _ ?_)
      obtain ⟨e, he, ec⟩ := List.mem_filterMap.mp hz
      unfold endsZ at he
      rcases List.mem_append.mp he with he | he
      · split at he <;> simp at he
        subst he
        cases ec
      rcases List.mem_append.mp he with he | he
      · obtain ⟨c, hc, he⟩ := List.mem_flatMap.mp he
        refine List.mem_map.mpr ⟨c, List.mem_filter.mpr ⟨hc, ?_⟩, ?_⟩
        · rw [decide_eq_true_eq]
          unfold pinE at he
          rcases List.mem_append.mp he with he | he
          · split at he
            · rename_i q; simp [q]
            · cases he
          · split at he
            · rename_i q; simp [q]
            · cases he
        · unfold pinE at he
          rcases List.mem_append.mp he with he | he
          · split at he
            · rw [List.mem_singleton] at he; subst he; cases ec; rfl
            · cases he
          · split at he
            · rw [List.mem_singleton] at he; subst he; cases ec; rfl
            · cases he
      · split at he <;> simp at he
        subst he
        cases ec
    · exact List.mem_append_left _ (List.mem_append_right _ hz)
  · exact List.mem_append_right _ hz
def othB (h : Ch) (w : Nm) (c : Nat) : Bool := !decide (hereB h.top h.bottom c = []) && !decide (w ∈ hereB h.top h.bottom c)
theorem inL_ints (c : Int) : ∀ zs : List Int, inL (.int c) (zs.map D.int) = decide (c ∈ zs)
  | [] => rfl
  | z :: zs => by
    rw [List.map_cons]
    have ih := inL_ints c zs
    have e : eqD (.int z) (.int c) = decide (c = z) := by
      rw [Bool.eq_iff_iff]
      simp only [eqD, toP, PyData.eqv, beq_iff_eq, decide_eq_true_eq]
      exact ⟨fun h => h.symm, fun h => h.symm⟩
    have : inL (.int c) (.int z :: zs.map D.int) = (eqD (.int z) (.int c) || inL (.int c) (zs.map D.int)) := by simp [inL]
    rw [this, e, ih]
    by_cases q : c = z <;> simp [q]
theorem same_turn (p : Pc) (hp : ∀ w, p.nm = some w → NameL w) : B__law_same_v2_1 (.tup [pcD p, pcD p]) = .ok (.nx ()) := by
  unfold B__law_same_v2_1
  have p1 : plD 2 (pcD p) = true := by
    unfold pcD
    cases q : p.nm with
    | none => simp [nmD, plD, plL]
    | some w => simp [nmD, plD, plL, strOk_let (hp w q).2.2]
  have ne : dNe (pcD p) (pcD p) = .ok (.bl false) := (dNe_same (n := 2) p1 (by decide) rfl).1
  have i1 : dIsi "tuple" (pcD p) = .ok (.bl true) := rfl
  have i2 : ∀ z, dIsi "bool" (.int z) = .ok (.bl false) := fun z => rfl
  have i3 : ∀ z, dIsi "bool" (.str z) = .ok (.bl false) := fun z => rfl
  have i4 : dIsi "bool" .non = .ok (.bl false) := rfl
  have up : up2 (.tup [pcD p, pcD p]) = .ok (pcD p, pcD p) := by simp
  rw [up, rb_ok, rd_pcD, i1, ne]
  simp only [rb_ok, tru_bl, asB_bl, ifR_e, Bool.not_true, Bool.false_eq_true, if_false]
  unfold pcD nmD
  cases p.nm <;> simp [i2, i3, i4, lcV] <;> rfl
theorem zip_two (ps : List Pc) : ps.zip ps = ps.map fun p => (p, p) := by
  induction ps with
  | nil => rfl
  | cons p ps ih => rw [List.zip_cons_cons, ih, List.map_cons]
theorem same_eq (ps : List Pc) (pn : ∀ p ∈ ps, ∀ w, p.nm = some w → NameL w) (hl : ps.length ≤ 10000) : M__law_same_v2 (.lst .frz (ps.map pcD)) (.lst .frz (ps.map pcD)) = .ok (.bl true) := by
  obtain ⟨rL, fL, nL⟩ := map_calm (xs := ps) pcD_calm
  unfold M__law_same_v2
  have i1 : dIsi "list" (.lst .frz (ps.map pcD)) = .ok (.bl true) := rfl
  have zp : (zip2 true) [.lst .frz (ps.map pcD), .lst .frz (ps.map pcD)] = .ok (ps.map fun p => D.tup [pcD p, pcD p]) := by
    rw [zip2_e, itemsOf_frzT, nL, if_pos rfl, fL, rb_ok, rb_ok, zipD_map, zip_two, List.map_map]
    rfl
  rw [rd_frz, rL, i1, zp]
  have lp : forV (fun d s => B__law_same_v2_1 d) (ps.map fun p => D.tup [pcD p, pcD p]) () = .ok (.nx ()) := forV_same _ fun p hp => same_turn p (pn p hp)
  simp [lp]
theorem seg_at (w : Nm) (k : Int) : ∀ (cs : List Int) (a : Int) (i : Nat), i < cs.length → (segZ w k a cs)[i]? = some ⟨some w, (a :: cs).getD i 0, cs.getD i 0, k⟩
  | [], _, _, h => absurd h (Nat.not_lt_zero _)
  | c :: cs, a, 0, _ => rfl
  | c :: cs, a, i + 1, h => by
    rw [segZ, List.getElem?_cons_succ, seg_at w k cs c i (Nat.lt_of_succ_lt_succ h)]
    rfl
theorem seg_ix {t : Tag} (w : Nm) (k a : Int) (cs : List Int) {i : Nat} (h : i < cs.length) : dIx (.nd t .lst ((segZ w k a cs).map pcD)) (.int (i : Int)) = .ok (pcD ⟨some w, (a :: cs).getD i 0, cs.getD i 0, k⟩) := by
  have e := atI_lit (k := i) (v := pcD ⟨some w, (a :: cs).getD i 0, cs.getD i 0, k⟩) (xs := (segZ w k a cs).map pcD) (by rw [List.getElem?_map, seg_at w k cs a i h]; rfl)
  rw [dIx_lst, e, ofO_some, rb_ok, rd_pcD]
theorem cut_ix {t : Tag} (cs : List Int) {i : Nat} (h : i < cs.length) : dIx (.nd t .lst (cs.map D.int)) (.int (i : Int)) = .ok (.int (cs.getD i 0)) := by
  have e := atI_lit (k := i) (v := D.int (cs.getD i 0)) (xs := cs.map D.int) (by rw [List.getElem?_map, List.getElem?_eq_getElem h]; simp [h])
  rw [dIx_lst, e, ofO_some, rb_ok, rd_int]
theorem cut_eq (w : Nm) (k a b : Int) (cs : List Int) (hl : cs.length ≤ 10000) : M__law_cut (.lst .frz ((segZ w k a (cs ++ [b])).map pcD)) (.tup [.int a, .int b]) (.lst .frz (cs.map D.int)) (.int k) = .ok (.bl true) := by
  obtain ⟨rL, fL, nL⟩ := map_calm (xs := segZ w k a (cs ++ [b])) pcD_calm
  have ln : (segZ w k a (cs ++ [b])).length = cs.length + 1 := by rw [seg_len, List.length_append, List.length_singleton]
  have l1 : (cs ++ [b]).length = cs.length + 1 := by rw [List.length_append, List.length_singleton]
  have g0 : dIx (.lst .frz ((segZ w k a (cs ++ [b])).map pcD)) (.int 0) = .ok (pcD ⟨some w, a, (cs ++ [b]).getD 0 0, k⟩) := seg_ix (i := 0) w k a (cs ++ [b]) (by omega)
  have gl : dIx (.lst .frz ((segZ w k a (cs ++ [b])).map pcD)) (.int (-1)) = .ok (pcD ⟨some w, (a :: (cs ++ [b])).getD cs.length 0, b, k⟩) := by
    have e := atI_neg (xs := (segZ w k a (cs ++ [b])).map pcD) (v := pcD ⟨some w, (a :: (cs ++ [b])).getD cs.length 0, b, k⟩) (by
      rw [List.getLast?_eq_getElem?, List.length_map, ln, Nat.add_sub_cancel, List.getElem?_map, seg_at w k _ a cs.length (by omega)]
      simp)
    rw [dIx_lst, e, ofO_some, rb_ok, rd_pcD]
  have rC : rd (.lst .frz (cs.map D.int)) = .lst .frz (cs.map D.int) := by rw [rd_frz, rdL_ints]
  have rT : rd (.tup [.int a, .int b]) = .tup [.int a, .int b] := rfl
  have t0 : dIx (.tup [.int a, .int b]) (.int 0) = .ok (.int a) := rfl
  have t1 : dIx (.tup [.int a, .int b]) (.int 1) = .ok (.int b) := rfl
  have turn : ∀ i ∈ List.range cs.length, B__law_cut_1 (.lst .frz ((segZ w k a (cs ++ [b])).map pcD)) (.lst .frz (cs.map D.int)) (.int k) (.int (i : Int)) = .ok (.nx ()) := by
    intro i hi
    rw [List.mem_range] at hi
    have g1 := seg_ix (t := .frz) (i := i) w k a (cs ++ [b]) (by omega)
    have g2 := seg_ix (t := .frz) (i := i + 1) w k a (cs ++ [b]) (by omega)
    have c1 := cut_ix (t := .frz) cs hi
    have e1 : (cs ++ [b]).getD i 0 = cs.getD i 0 := by simp [List.getD_eq_getElem?_getD, List.getElem?_append_left hi]
    have e2 : (a :: (cs ++ [b])).getD (i + 1) 0 = cs.getD i 0 := by rw [List.getD_cons_succ, e1]
    rw [e1] at g1
    rw [e2] at g2
    unfold B__law_cut_1
    rw [rd_frz, rL, rC, chk_e]
    have ai : ((i + 1 : Nat) : Int) = (i : Int) + 1 := by omega
    rw [ai] at g2
    simp [g1, g2, c1, pc_1, pc_2]
  have lc : lcV (fun t22 => (((((dIx (rd t22) (D.int 3))).bind fun t24 => (dEq t24 (rd (.int k))))).bind fun y => (chk y).bind fun y => Res.ok (some y))) ((segZ w k a (cs ++ [b])).map pcD) = .ok (((segZ w k a (cs ++ [b])).map fun _ => true).map D.bl) := by
    refine lcV_map D.bl (fun _ => true) _ fun p hp => ?_
    obtain ⟨i, hi, e⟩ := List.getElem_of_mem hp
    have e3 := seg_at w k (cs ++ [b]) a i (by rw [seg_len] at hi; exact hi)
    rw [List.getElem?_eq_getElem hi, e] at e3
    have e4 : p.w = k := by rw [Option.some.inj e3]
    rw [rd_pcD, pc_3, e4]
    simp
  have r1 : rng1 [.int (cs.length : Int)] = .ok ((List.range cs.length).map fun i : Nat => D.int (i : Int)) := by rw [rng1_nat (by omega), rng0]
  have lp : forV (fun d s => B__law_cut_1 (.lst .frz ((segZ w k a (cs ++ [b])).map pcD)) (.lst .frz (cs.map D.int)) (.int k) d) ((List.range cs.length).map fun i : Nat => D.int (i : Int)) () = .ok (.nx ()) := forV_same _ turn
  have b1 : (((segZ w k a (cs ++ [b])).map fun _ => true).map D.bl).length ≤ bigL := by
    rw [List.length_map, List.length_map, ln]
    unfold bigL
    omega
  unfold M__law_cut
  rw [rd_frz, rL, rC, rT]
  simp only [dLen_lst, List.length_map, ln, rb_ok, g0, gl, t0, t1, pc_1, pc_2, List.length_append]
  rw [r1]
  simp only [rb_ok]
  rw [lp, itemsOf_lstF, rL]
  have da : dAll [rd (.lst .own (((segZ w k a (cs ++ [b])).map fun _ => true).map D.bl))] = .ok (.bl true) := by
    rw [rd_own, rdL_map]
    show dAll [.lst .tmp (((segZ w k a (cs ++ [b])).map fun _ => true).map D.bl)] = _
    rw [dAll_bls]
    simp
  simp only [rb_ok, lc, lstB_e, if_pos b1, afterV_nx]
  simp [-List.map_map, da]
def lofZ (h : Ch) (w : Nm) : Int := minS (placesZ h.top h.bottom h.left h.right w) 99
def hifZ (h : Ch) (w : Nm) : Int := maxS (placesZ h.top h.bottom h.left h.right w) (-9)
theorem places_bd {h : Ch} {w : Nm} {z : Int} (hz : z ∈ placesZ h.top h.bottom h.left h.right w) : -1 ≤ z ∧ z ≤ h.top.length := by
  unfold placesZ at hz
  rcases List.mem_append.mp hz with hz | hz
  · rcases List.mem_append.mp hz with hz | hz
    · obtain ⟨c, hc, rfl⟩ := List.mem_map.mp hz
      have := List.mem_range.mp (List.mem_filter.mp hc).1
      omega
    · split at hz
      · rw [List.mem_singleton] at hz
        omega
      · cases hz
  · split at hz
    · rw [List.mem_singleton] at hz
      omega
    · cases hz
theorem net_ends {h : Ch} {w : Nm} (hb : h.bottom.length = h.top.length) (hw : w ∈ netsZ h) : endsZ h.top h.bottom h.left h.right w ≠ [] := by
  have key : ∃ z, z ∈ placesZ h.top h.bottom h.left h.right w := by
    unfold placesZ
    have pin : ∀ xs : List (Option Nm), xs.length = h.top.length → some w ∈ xs → (∀ c, xs[c]?.getD none = some w → some w ∈ [h.top[c]?.getD none, h.bottom[c]?.getD none]) → ∃ z, z ∈ (((List.range h.top.length).filter fun c => decide (some w ∈ [h.top[c]?.getD none, h.bottom[c]?.getD none])).map fun c : Nat => (c : Int)) := fun xs hl hm hx => by
      obtain ⟨c, hc, e⟩ := List.getElem_of_mem hm
      refine ⟨(c : Int), List.mem_map.mpr ⟨c, List.mem_filter.mpr ⟨List.mem_range.mpr (hl ▸ hc), decide_eq_true (hx c ?_)⟩, rfl⟩⟩
      rw [List.getElem?_eq_getElem hc, e]
      rfl
    rcases mem_nets.mp hw with q | q | q | q
    · exact ⟨-1, List.mem_append_left _ (List.mem_append_right _ (by rw [if_pos q]; exact List.mem_singleton.mpr rfl))⟩
    · exact ⟨_, List.mem_append_right _ (by rw [if_pos q]; exact List.mem_singleton.mpr rfl)⟩
    · obtain ⟨z, hz⟩ := pin h.top rfl q fun c e => by rw [e]; exact .head _
      exact ⟨z, List.mem_append_left _ (List.mem_append_left _ hz)⟩
    · obtain ⟨z, hz⟩ := pin h.bottom hb q fun c e => by rw [e]; exact .tail _ (.head _)
      exact ⟨z, List.mem_append_left _ (List.mem_append_left _ hz)⟩
  obtain ⟨z, hz⟩ := key
  exact (places_sub hb hz).2
theorem str_both {h : Ch} {w : Nm} (hb : h.bottom.length = h.top.length) (hl : h.top.length ≤ 90) (hw : w ∈ netsZ h) : stretchZ h w = if lofZ h w = hifZ h w then none else some (lofZ h w, hifZ h w) := by
  have en := net_ends hb hw
  have cn := cols_ne en
  obtain ⟨a, h1, h2, h3⟩ := minI_some cn
  obtain ⟨b, h4, h5, h6⟩ := maxI_some cn
  obtain ⟨m, k1, k2, k3⟩ := minI_some (zs := placesZ h.top h.bottom h.left h.right w ++ [99]) (by simp)
  obtain ⟨n, k4, k5, k6⟩ := maxI_some (zs := placesZ h.top h.bottom h.left h.right w ++ [-9]) (by simp)
  have pa := places_bd (cols_sub hb h2)
  have pb := places_bd (cols_sub hb h5)
  have el : lofZ h w = a := by
    unfold lofZ minS
    rw [k1]
    show m = a
    have q1 := k3 a (List.mem_append_left _ (cols_sub hb h2))
    rcases List.mem_append.mp k2 with q | q
    · have := h3 m (places_sub hb q).1
      omega
    · rw [List.mem_singleton] at q
      omega
  have eh : hifZ h w = b := by
    unfold hifZ maxS
    rw [k4]
    show n = b
    have q1 := k6 b (List.mem_append_left _ (cols_sub hb h5))
    rcases List.mem_append.mp k5 with q | q
    · have := h6 n (places_sub hb q).1
      omega
    · rw [List.mem_singleton] at q
      omega
  unfold stretchZ
  rw [if_neg en, h1, h4, el, eh]
  rfl
theorem max_one : ∀ (zs : List Int), maxI (1 :: zs) = some (zs.foldl max 1) := fun _ => rfl
theorem wide_max {h : Ch} (w : Nm) (nd : (h.wide.map (·.1)).Nodup) (w1 : ∀ p ∈ h.wide, 1 ≤ p.2) : (((h.wide.filter fun p => decide (p.1 = w)).map (·.2)).foldl max 1) = wZ h w := by
  unfold wZ
  generalize h.wide = ls at *
  induction ls with
  | nil => rfl
  | cons p ls ih =>
    rw [List.map_cons, List.nodup_cons] at nd
    by_cases e : p.1 = w
    · have f0 : ls.filter (fun p => decide (p.1 = w)) = [] := by
        rw [List.filter_eq_nil_iff]
        intro q hq
        rw [decide_eq_true_eq]
        intro e2
        exact nd.1 (by rw [e, ← e2]; exact List.mem_map.mpr ⟨q, hq, rfl⟩)
      rw [List.filter_cons, if_pos (decide_eq_true e), f0, List.find?_cons, beq_iff_eq.mpr e]
      have := w1 p (.head _)
      show max 1 p.2 = p.2
      omega
    · have e' : (p.1 == w) = false := beq_eq_false_iff_ne.mpr e
      rw [List.filter_cons, if_neg (by simp [e]), List.find?_cons, e']
      exact ih nd.2 fun q hq => w1 q (.tail _ hq)
theorem segnm {w : Nm} {k : Int} : ∀ {cs : List Int} {a : Int} {p : Pc}, p ∈ segZ w k a cs → p.nm = some w
  | [], _, _, h => nomatch h
  | c :: cs, a, p, h => by
    rw [segZ] at h
    rcases List.mem_cons.mp h with rfl | h
    · rfl
    · exact segnm h
theorem netnm {h : Ch} {bent : Bool} {w : Nm} {p : Pc} (hp : p ∈ netPcs h bent w) : p.nm = some w := by
  unfold netPcs at hp
  split at hp
  · cases hp
  · exact segnm hp
theorem ownpcs (h : Ch) (bent : Bool) {w : Nm} (hw : w ∈ netsZ h) : (pcsZ h bent).filter (fun p => decide (p.nm = some w)) = netPcs h bent w := by
  unfold pcsZ
  rw [List.filter_append]
  have k0 : (h.keeps.map fun k => (⟨none, k.1, k.2.1, k.2.2⟩ : Pc)).filter (fun p => decide (p.nm = some w)) = [] := by
    rw [List.filter_eq_nil_iff]
    intro p hp
    obtain ⟨k, _, rfl⟩ := List.mem_map.mp hp
    simp
  rw [k0, List.nil_append]
  have nd := nets_nd h
  generalize netsZ h = ls at *
  induction ls with
  | nil => cases hw
  | cons v ls ih =>
    rw [List.nodup_cons] at nd
    rw [List.flatMap_cons, List.filter_append]
    by_cases e : v = w
    · subst e
      have f1 : (netPcs h bent v).filter (fun p => decide (p.nm = some v)) = netPcs h bent v := by
        rw [List.filter_eq_self]
        exact fun p hp => decide_eq_true (netnm hp)
      have f2 : (ls.flatMap (netPcs h bent)).filter (fun p => decide (p.nm = some v)) = [] := by
        rw [List.filter_eq_nil_iff]
        intro p hp
        obtain ⟨u, hu, hp⟩ := List.mem_flatMap.mp hp
        rw [decide_eq_true_eq, netnm hp]
        intro e
        injection e with e
        exact nd.1 (e ▸ hu)
      rw [f1, f2, List.append_nil]
    · have f1 : (netPcs h bent v).filter (fun p => decide (p.nm = some w)) = [] := by
        rw [List.filter_eq_nil_iff]
        intro p hp
        rw [decide_eq_true_eq, netnm hp]
        intro e2
        injection e2 with e2
        exact e e2
      rw [f1, List.nil_append]
      exact ih ((List.mem_cons.mp hw).resolve_left (Ne.symm e)) nd.2
theorem ostrs_nms : ∀ xs : List (Option Nm), ostrs? (xs.map nmD) = some (xs.map (Option.map S))
  | [] => rfl
  | none :: xs => by rw [List.map_cons, List.map_cons]; show (ostrs? (xs.map nmD)).map _ = _; rw [ostrs_nms xs]; rfl
  | some w :: xs => by rw [List.map_cons, List.map_cons]; show (ostrs? (xs.map nmD)).map _ = _; rw [ostrs_nms xs]; rfl
theorem minusn {t : Tag} {ws : List Nm} {W : Nat} {h : Ch} (h8 : ws.length = 8) (co : ChOk ws W h) (hW : W ≤ 1000) :
    dSortMinus (.nd t .lst ((allZ h.top h.bottom h.left h.right).map nmD)) = .ok (.lst .own ((netsZ h).map fun w => .str (S w))) := by
  have l1 : (allZ h.top h.bottom h.left h.right).length ≤ 4000 := by
    unfold allZ
    simp only [List.length_append, List.length_map, co.lt, co.lb]
    have := co.ll
    have := co.lr
    omega
  have l2 : (onceL ((allZ h.top h.bottom h.left h.right).map (Option.map S))).length ≤ 15 := by
    refine Nat.le_trans (nodup_len _ (none :: ws.map fun w => some (S w)) (nodup_once _) fun a ha => ?_) (by simp [h8])
    obtain ⟨x, hx, rfl⟩ := List.mem_map.mp (mem_once.mp ha)
    cases x with
    | none => exact .head _
    | some w =>
      refine .tail _ (List.mem_map.mpr ⟨w, ?_, rfl⟩)
      unfold allZ at hx
      rcases List.mem_append.mp hx with hx | hx
      · rcases List.mem_append.mp hx with hx | hx
        · rcases List.mem_append.mp hx with hx | hx
          · exact co.top _ hx w rfl
          · exact co.bottom _ hx w rfl
        · exact co.left w (mem_somes.mp hx)
      · exact co.right w (mem_somes.mp hx)
  show (ofO (ostrs? ((allZ h.top h.bottom h.left h.right).map nmD))).bind _ = _
  rw [ostrs_nms]
  have e1 : PV.someL ((allZ h.top h.bottom h.left h.right).map (Option.map S)) = ((allZ h.top h.bottom h.left h.right).filterMap id).map S := by
    unfold PV.someL
    rw [List.filterMap_map, List.map_filterMap]
    rfl
  have e2 : sortN (onceL ((allZ h.top h.bottom h.left h.right).filterMap id)) = netsZ h := by
    unfold netsZ
    refine sort_once fun w => ?_
    unfold namesZ allZ
    simp only [List.filterMap_append, List.mem_append, List.mem_filterMap, id, List.mem_map]
    constructor
    · rintro (((⟨a, h1, rfl⟩ | ⟨a, h1, rfl⟩) | ⟨a, ⟨v, h1, rfl⟩, e⟩) | ⟨a, ⟨v, h1, rfl⟩, e⟩)
      · exact .inr (.inl ⟨_, h1, rfl⟩)
      · exact .inr (.inr ⟨_, h1, rfl⟩)
      · injection e with e; subst e; exact .inl (.inl h1)
      · injection e with e; subst e; exact .inl (.inr h1)
    · rintro ((h1 | h1) | (⟨a, h1, rfl⟩ | ⟨a, h1, rfl⟩))
      · exact .inl (.inr ⟨_, ⟨w, h1, rfl⟩, rfl⟩)
      · exact .inr ⟨_, ⟨w, h1, rfl⟩, rfl⟩
      · exact .inl (.inl (.inl ⟨_, h1, rfl⟩))
      · exact .inl (.inl (.inr ⟨_, h1, rfl⟩))
  show (if _ ∧ _ then _ else _) = _
  rw [if_pos ⟨by rw [List.length_map]; exact l1, l2⟩, e1, setS_map, e2, List.map_map]
  rfl
theorem ints_map (zs : List Int) : ints? (zs.map D.int) = some zs := by
  induction zs with
  | nil => rfl
  | cons z zs ih => rw [List.map_cons, ints?, ih]; rfl
theorem ci (z : Int) : calmD (D.int z) := ⟨rfl, rfl, rfl⟩
def lnD (u : Nm) : D := .tup [.str "lone", .str (S u)]
def ntD (u : Nm) : D := .tup [.str "nonet", .str (S u)]
def bnD (c : Int) : D := .tup [.str "bend", .int c]
def keD (p : Nat) : D := .tup [.str "keep", .int (p : Int)]
inductive Told (h : Ch) : D → Prop
  | lone (u : Nm) (n : NameL u) (e : loneF h = some u) : Told h (lnD u)
  | net (u : Nm) (n : NameL u) (e0 : loneF h = none) (e : noneF h = some u) : Told h (ntD u)
  | bend (b : Int × Nm) (e0 : loneF h = none) (e1 : noneF h = none) (e : bendF h = some b) : Told h (bnD b.1)
  | keep (q : (Int × Int × Int) × Nat) (e0 : loneF h = none) (e1 : noneF h = none) (e2 : bendF h = none) (e : keepF h = some q) : Told h (keD q.2)
inductive Told1 (h : Ch) : D → Prop
  | lone (u : Nm) (n : NameL u) (e : loneF h = some u) : Told1 h (lnD u)
inductive Told2 (h : Ch) : D → Prop
  | lone (u : Nm) (n : NameL u) (e : loneF h = some u) : Told2 h (lnD u)
  | net (u : Nm) (n : NameL u) (e0 : loneF h = none) (e : (h.wide.map (·.1)).find? (noneB h) = some u) : Told2 h (ntD u)
inductive Told3 (h : Ch) : D → Prop
  | lone (u : Nm) (n : NameL u) (e : loneF h = some u) : Told3 h (lnD u)
  | net (u : Nm) (n : NameL u) (e0 : loneF h = none) (e : noneF h = some u) : Told3 h (ntD u)
  | bend (b : Int × Nm) (e0 : loneF h = none) (e1 : noneF h = none) (e : bendF h = some b) : Told3 h (bnD b.1)
theorem pin_new {ws : List Nm} {W : Nat} {h : Ch} (C : ChOk ws W h) {u : Nm} (hu : u ∉ ws) (l r : List Nm) : endsZ h.top h.bottom l r u = (if u ∈ l then [En.left] else []) ++ (if u ∈ r then [En.right] else []) := by
  have t : ∀ (xs : List (Option Nm)), (∀ x ∈ xs, ∀ w, x = some w → w ∈ ws) → ∀ c : Nat, xs[c]?.getD none ≠ some u := by
    intro xs hx c e
    cases z : xs[c]? with
    | none => rw [z] at e; cases e
    | some y =>
      rw [z] at e
      exact hu (hx y (List.mem_of_getElem? z) u e)
  have f : (List.range h.top.length).flatMap (pinE h.top h.bottom u) = [] := by
    rw [List.flatMap_eq_nil_iff]
    intro c _
    unfold pinE
    rw [if_neg (t _ C.top c), if_neg (t _ C.bottom c)]
    rfl
  unfold endsZ
  rw [f, List.nil_append]
structure Drawn (ws us : List Nm) (W : Nat) (h0 : Ch) : Prop where
  c : ChanOk ws W h0
  w0 : 0 < W
  w1 : W ≤ 30
  ok : ∀ w ∈ ws, NameL w
  s : Six ws us
section
variable {ws us : List Nm} {W : Nat} {h0 : Ch} (R : Drawn ws us W h0)
include R
end
theorem callSame {t u : Tag} (ps : List Pc) (pn : ∀ p ∈ ps, ∀ w, p.nm = some w → NameL w) (hl : ps.length ≤ 10000) : callD (lenIs 2 Ψ__law_same_v2) [.nd t .lst (ps.map pcD), .nd u .lst (ps.map pcD)] = .ok (.bl true) := by
  obtain ⟨rL, fL, nL⟩ := map_calm (xs := ps) pcD_calm
  have aL : faL (ps.map pcD) = ps.map pcD := by rw [faL_map]; exact List.map_congr_left fun p _ => fa_pcD p
  have e := same_eq ps pn hl
  cases t <;> cases u <;> simp [fL, nL, aL, pe__law_same_v2, e]
theorem callCut {t u : Tag} (w : Nm) (k a b : Int) (cs : List Int) (hl : cs.length ≤ 10000) : callD (lenIs 4 Ψ__law_cut) [.nd t .lst ((segZ w k a (cs ++ [b])).map pcD), .tup [.int a, .int b], .nd u .lst (cs.map D.int), .int k] = .ok (.bl true) := by
  obtain ⟨rL, fL, nL⟩ := map_calm (xs := segZ w k a (cs ++ [b])) pcD_calm
  have aL : faL ((segZ w k a (cs ++ [b])).map pcD) = (segZ w k a (cs ++ [b])).map pcD := by rw [faL_map]; exact List.map_congr_left fun p _ => fa_pcD p
  have e := cut_eq w k a b cs hl
  cases t <;> cases u <;> simp [fL, nL, aL, pe__law_cut, e]
theorem stands_turn {ws : List Nm} {W : Nat} {h : Ch} (hok : ∀ w ∈ ws, NameL w) (hW : W ≤ 90) (co : ChOk ws W h) (nd : (h.wide.map (·.1)).Nodup) (w1 : ∀ p ∈ h.wide, 1 ≤ p.2) (bent : Bool) (hp : (pcsZ h bent).length ≤ 10000) (m : D) {w : Nm} (hw : w ∈ netsZ h) (n : Nat) :
    B__law_stands_1 (lsD .frz h) (.lst .frz ((pcsZ h bent).map pcD)) (.bl bent) m (.str (S w)) (.int (n : Int)) = .ok (.nx (.int ((n + (netPcs h bent w).length : Nat) : Int))) := by
  have hb : h.bottom.length = h.top.length := by rw [co.lt, co.lb]
  have hl : h.top.length ≤ 90 := by rw [co.lt]; exact hW
  have st := str_both hb hl hw
  have se := stretch_eq h.top h.bottom h.left h.right w (by omega) hb
  obtain ⟨rL, fL, nL⟩ := map_calm (xs := pcsZ h bent) pcD_calm
  obtain ⟨rO, fO, nO⟩ := map_calm (xs := netPcs h bent w) pcD_calm
  have cl : (cutsZ h w bent).length ≤ 90 := Nat.le_trans (cuts_len h w bent) (Nat.le_trans co.lbd hW)
  have nl : (netPcs h bent w).length ≤ 91 := Nat.le_trans (net_len h bent w) (by have := co.lbd; omega)
  have lo : lcV (fun t38 => (ifR ((((dIx (rd t38) (D.int 0))).bind fun t40 => (dEq t40 (rd (.str (S w))))).bind asB) ((chk (rd t38)).bind fun y => Res.ok (some y)) (Res.ok none))) ((pcsZ h bent).map pcD) = .ok ((netPcs h bent w).map pcD) := by
    have e := lcV_filter (f := fun t38 => (ifR ((((dIx (rd t38) (D.int 0))).bind fun t40 => (dEq t40 (rd (.str (S w))))).bind asB) ((chk (rd t38)).bind fun y => Res.ok (some y)) (Res.ok none))) (ei := pcD) (fun p => decide (p.nm = some w)) (pcsZ h bent) fun p _ => by
      have e := eq_nmw p.nm w
      rw [rd_pcD, pc_0, rb_ok, rd_str, e]
      by_cases q : p.nm = some w <;> simp [q]
    rw [e, ownpcs h bent hw]
  have lc : lcV (fun t43 => ((ub2 t43).bind fun t44 => (ifR (ifR (tru (rd (.bl bent))) ((dEq (rd t44.2) (rd (.str (S w)))).bind asB) (Res.ok false)) ((chk (rd t44.1)).bind fun y => Res.ok (some y)) (Res.ok none)))) (h.bends.map bdD) = .ok ((cutsZ h w bent).map D.int) := by
    have e := lcV_eq (f := fun t43 => ((ub2 t43).bind fun t44 => (ifR (ifR (tru (rd (.bl bent))) ((dEq (rd t44.2) (rd (.str (S w)))).bind asB) (Res.ok false)) ((chk (rd t44.1)).bind fun y => Res.ok (some y)) (Res.ok none)))) (ei := bdD) D.int (fun b => if bent = true ∧ b.2 = w then some b.1 else none) h.bends (by
      rintro ⟨c, v⟩ _
      have e := eq_nmw (some v) w
      cases bent <;> by_cases q : v = w <;> simp [bdD, nmD, q] at e ⊢)
    rw [e]
    congr 2
    unfold cutsZ
    cases bent with
    | false => simp
    | true =>
      rw [if_pos rfl]
      have key : ∀ l : List (Int × Nm), l.filterMap (fun b => if true = true ∧ b.2 = w then some b.1 else none) = (l.filter fun b => decide (b.2 = w)).map Prod.fst := by
        intro l
        induction l with
        | nil => rfl
        | cons b l ih =>
          rw [List.filterMap_cons, List.filter_cons]
          by_cases q : b.2 = w
          · rw [if_pos ⟨rfl, q⟩, if_pos (decide_eq_true q), List.map_cons, ih]
          · rw [if_neg (fun z => q z.2), if_neg (by simp [q]), ih]
      exact key _
  have lw : lcV (fun t47 => ((ub2 t47).bind fun t48 => (ifR ((dEq (rd t48.1) (rd (.str (S w)))).bind asB) ((chk (rd t48.2)).bind fun y => Res.ok (some y)) (Res.ok none)))) (h.wide.map wdD) = .ok (((h.wide.filter fun p => decide (p.1 = w)).map (·.2)).map D.int) := by
    have e := lcV_eq (f := fun t47 => ((ub2 t47).bind fun t48 => (ifR ((dEq (rd t48.1) (rd (.str (S w)))).bind asB) ((chk (rd t48.2)).bind fun y => Res.ok (some y)) (Res.ok none)))) (ei := wdD) D.int (fun p => if p.1 = w then some p.2 else none) h.wide (by
      rintro ⟨v, k⟩ _
      have e := eq_nmw (some v) w
      by_cases q : v = w <;> simp [wdD, nmD, q] at e ⊢)
    rw [e]
    congr 2
    have key : ∀ l : List (Nm × Int), l.filterMap (fun p => if p.1 = w then some p.2 else none) = (l.filter fun p => decide (p.1 = w)).map (·.2) := by
      intro l
      induction l with
      | nil => rfl
      | cons b l ih =>
        rw [List.filterMap_cons, List.filter_cons]
        by_cases q : b.1 = w
        · rw [if_pos q, if_pos (decide_eq_true q), List.map_cons, ih]
        · rw [if_neg q, if_neg (by simp [q]), ih]
    exact key _
  have wm := wide_max w nd w1
  have wl : (h.wide.filter fun p => decide (p.1 = w)).length ≤ 8 := Nat.le_trans (List.length_filter_le _ _) co.lw
  have e1 : dIx (lsD .frz h) (.int 5) = .ok (.nd .frz .lst (h.bends.map bdD)) := ls_5
  have cs : callD (lenIs 5 Ψ__law_stretch) ([.nd .frz .lst (h.top.map nmD), .nd .frz .lst (h.bottom.map nmD), .nd .frz .lst (h.left.map fun w => .str (S w)), .nd .frz .lst (h.right.map fun w => .str (S w)), .str (S w)] ++ []) = .ok (.tup [.int (lofZ h w), .int (hifZ h w)]) := by
    simp [pe__law_stretch, se, lofZ, hifZ]
  have rl : rd (lsD .frz h) = lsD .frz h := by simp [lsD]
  have rT : rd (.tup [.int (lofZ h w), .int (hifZ h w)]) = .tup [.int (lofZ h w), .int (hifZ h w)] := rfl
  have t0 : dIx (.tup [.int (lofZ h w), .int (hifZ h w)]) (.int 0) = .ok (.int (lofZ h w)) := rfl
  have t1 : dIx (.tup [.int (lofZ h w), .int (hifZ h w)]) (.int 1) = .ok (.int (hifZ h w)) := rfl
  have J : ∀ (o : D), rd o = .lst .tmp ((netPcs h bent w).map pcD) ∨ rd o = .lst .frz ((netPcs h bent w).map pcD) → J__law_stands_1 (lsD .frz h) (.lst .frz ((pcsZ h bent).map pcD)) (.bl bent) m (.int (n : Int)) o = .ok (.nx (.int ((n + (netPcs h bent w).length : Nat) : Int))) := by
    intro o ho
    unfold J__law_stands_1
    rcases ho with ho | ho <;> rw [ho] <;> simp
  have b1 : ((netPcs h bent w).map pcD).length ≤ bigL := by rw [List.length_map]; unfold bigL; omega
  have b2 : ((cutsZ h w bent).map D.int).length ≤ bigL := by rw [List.length_map]; unfold bigL; omega
  have b3 : (((h.wide.filter fun p => decide (p.1 = w)).map (·.2)).map D.int).length ≤ bigL := by rw [List.length_map, List.length_map]; unfold bigL; omega
  unfold B__law_stands_1
  refine bstep (x := .str (S w)) (by simp) ?_
  refine bstep (x := .tup [.int (lofZ h w), .int (hifZ h w)]) ?_ ?_
  · rw [rl]
    simp only [ls_0, ls_1, ls_2, ls_3, rb_ok, rd_str]
    rw [cs]
    simp
  refine bstep (x := .lst .own ((netPcs h bent w).map pcD)) ?_ ?_
  · rw [rd_frz, rL, itemsOf_lstF, rL, rb_ok, lo, rb_ok, lstB_e, if_pos b1, rb_ok]
    simp [nO]
  refine bstep (x := .lst .own ((cutsZ h w bent).map D.int)) ?_ ?_
  · rw [rl, ls_5, rb_ok, itemsOf_lstF, rd_bds, rb_ok, lc, rb_ok, lstB_e, if_pos b2, rb_ok]
    simp
  refine bstep (x := .int (wZ h w)) ?_ ?_
  · rw [rl, ls_4, rb_ok, itemsOf_lstF, rd_wds, rb_ok, lw, rb_ok, lstB_e, if_pos b3, rb_ok]
    have ea : dAdd (D.lst Tag.own [D.int 1]) (.lst .own (((h.wide.filter fun p => decide (p.1 = w)).map (·.2)).map D.int)) = .ok (.lst .own ((1 :: (h.wide.filter fun p => decide (p.1 = w)).map (·.2)).map D.int)) := by
      rw [dAdd_lst, if_pos (by simp; omega)]
      simp
    rw [ea]
    simp only [rb_ok]
    rw [dMax_ints, max_one, wm]
    simp
  rw [rT, t0, t1]
  simp only [rb_ok]
  by_cases c : lofZ h w = hifZ h w
  · have n0 : netPcs h bent w = [] := by
      unfold netPcs
      rw [st, if_pos c]
    rw [n0] at J ⊢
    have j := J (.lst .own ([].map pcD)) (.inl rfl)
    have ne : dNe (D.nd Tag.tmp Kind.lst []) (D.lst Tag.own []) = .ok (.bl false) := rfl
    have j' := j
    simp at j'
    simp [c]
    rw [ne]
    simp [j']
  · have n1 : netPcs h bent w = segZ w (wZ h w) (lofZ h w) (cutsZ h w bent ++ [hifZ h w]) := by
      unfold netPcs
      rw [st, if_neg c]
    have cc := callCut (t := .frz) (u := .frz) w (wZ h w) (lofZ h w) (hifZ h w) (cutsZ h w bent) (by omega)
    rw [← n1] at cc
    have j := J (.lst .frz ((netPcs h bent w).map pcD)) (.inr (by rw [rd_frz, rO]))
    have d1 : dEq (.int (lofZ h w)) (.int (hifZ h w)) = .ok (.bl false) := by simp [c]
    have a1 : rd (fz (.lst .own ((netPcs h bent w).map pcD))) = .lst .frz ((netPcs h bent w).map pcD) := by rw [fz_own, fO, rd_frz, rO]
    have a2 : rd (fz (.lst .own ((cutsZ h w bent).map D.int))) = .lst .frz ((cutsZ h w bent).map D.int) := by simp
    rw [d1, a1, a2, rd_int, cc, fz_own, fO]
    simp only [rb_ok, asB_bl, tru_bl, ifR_e, Bool.false_eq_true, if_false, Bool.not_true]
    exact j
def nmsL (h : Ch) (bent : Bool) : List Nm := (netsZ h).flatMap fun w => (netPcs h bent w).map fun _ => w
theorem nms_map (h : Ch) (bent : Bool) : ((netsZ h).flatMap (netPcs h bent)).map (fun p => nmD p.nm) = (nmsL h bent).map fun w => .str (S w) := by
  unfold nmsL
  rw [List.map_flatMap, List.map_flatMap]
  congr 1
  funext w
  rw [List.map_map]
  exact List.map_congr_left fun p hp => by rw [net_nm hp]; rfl
theorem nms_sorted (h : Ch) (bent : Bool) : (nmsL h bent).Pairwise fun a b => decide (a ≤ b) = true := by
  have s := sortN_sorted (onceL (namesZ h))
  unfold nmsL
  change (netsZ h).Pairwise _ at s
  generalize netsZ h = ls at *
  induction ls with
  | nil => exact List.Pairwise.nil
  | cons w ls ih =>
    rw [List.pairwise_cons] at s
    rw [List.flatMap_cons, List.pairwise_append]
    refine ⟨?_, ih s.2, ?_⟩
    · refine List.pairwise_of_forall_mem_list fun a ha b hb => ?_
      obtain ⟨_, _, rfl⟩ := List.mem_map.mp ha
      obtain ⟨_, _, rfl⟩ := List.mem_map.mp hb
      exact decide_eq_true (List.le_refl _)
    · intro a ha b hb
      obtain ⟨_, _, rfl⟩ := List.mem_map.mp ha
      obtain ⟨v, hv, hb⟩ := List.mem_flatMap.mp hb
      obtain ⟨_, _, rfl⟩ := List.mem_map.mp hb
      exact s.1 v hv
theorem stands_eq {ws : List Nm} {W : Nat} {h : Ch} (h8 : ws.length = 8) (hok : ∀ w ∈ ws, NameL w) (hW : W ≤ 90) (co : ChOk ws W h) (nd : (h.wide.map (·.1)).Nodup) (w1 : ∀ p ∈ h.wide, 1 ≤ p.2) (bent : Bool) (hp : (pcsZ h bent).length ≤ 10000) :
    M__law_stands (lsD .frz h) (.lst .frz ((pcsZ h bent).map pcD)) (.bl bent) = .ok (.bl true) := by
  have pn : ∀ p ∈ pcsZ h bent, ∀ w, p.nm = some w → NameL w := fun p hp w e => hok w (nets_sub co w (pcs_nets h bent p hp w e))
  obtain ⟨rL, fL, nL⟩ := map_calm (xs := pcsZ h bent) pcD_calm
  have rl : rd (lsD .frz h) = lsD .frz h := by simp [lsD]
  have lk := co.lk
  generalize hK : (h.keeps.map fun k => (⟨none, k.1, k.2.1, k.2.2⟩ : Pc)) = K
  generalize hN : (netsZ h).flatMap (netPcs h bent) = N
  have ep : pcsZ h bent = K ++ N := by unfold pcsZ; rw [hK, hN]
  have lK : K.length = h.keeps.length := by rw [← hK, List.length_map]
  have tk : cutL (pcsZ h bent) none (some (h.keeps.length : Int)) = K := by
    rw [cutL_to (by omega), ep, Int.toNat_natCast, ← lK]
    simp
  have dp : cutL (pcsZ h bent) (some (h.keeps.length : Int)) none = N := by
    rw [cutL_from (by omega), ep, Int.toNat_natCast, ← lK]
    simp
  obtain ⟨rK, fK, nK⟩ := map_calm (xs := K) pcD_calm
  obtain ⟨rN, fN, nN⟩ := map_calm (xs := N) pcD_calm
  have lc := lcV_map (f := fun t5 => (ub3 t5).bind fun t6 => ((chk (D.tup [D.non, (rd t6.1), (rd t6.2.1), (rd t6.2.2)])).bind fun y => Res.ok (some y))) (ei := kpD) pcD (fun k => (⟨none, k.1, k.2.1, k.2.2⟩ : Pc)) h.keeps (by
    rintro ⟨a, b, c⟩ _
    simp [kpD, pcD, nmD])
  rw [hK] at lc
  have bK : (K.map pcD).length ≤ bigL := by rw [List.length_map, lK]; unfold bigL; omega
  have s1 : callD (lenIs 2 Ψ__law_same_v2) ([.lst .own (K.map pcD), .lst .own (K.map pcD)] ++ []) = .ok (.bl true) := callSame K (fun p hp => pn p (ep ▸ List.mem_append_left _ hp)) (by omega)
  have ln : lcV (fun t15 => (((dIx (rd t15) (D.int 0))).bind fun y => (chk y).bind fun y => Res.ok (some y))) (N.map pcD) = .ok ((nmsL h bent).map fun w => .str (S w)) := by
    have e := lcV_map (f := fun t15 => (((dIx (rd t15) (D.int 0))).bind fun y => (chk y).bind fun y => Res.ok (some y))) (ei := pcD) nmD (fun p => p.nm) N fun p _ => by
      rw [rd_pcD, pc_0]
      simp
    rw [e, List.map_map, ← nms_map, hN]
    rfl
  have lN : (nmsL h bent).length = N.length := by
    rw [← hN]
    unfold nmsL
    rw [List.length_flatMap, List.length_flatMap]
    simp
  have lNp : N.length + h.keeps.length = (pcsZ h bent).length := by rw [ep, List.length_append, lK]; omega
  have bN : ((nmsL h bent).map fun w => D.str (S w)).length ≤ bigL := by rw [List.length_map, lN]; unfold bigL; omega
  have okN : ∀ w ∈ nmsL h bent, NameL w := fun w hw => by
    unfold nmsL at hw
    obtain ⟨v, hv, hw⟩ := List.mem_flatMap.mp hw
    obtain ⟨_, _, rfl⟩ := List.mem_map.mp hw
    exact hok _ (nets_sub co _ hv)
  have so : ∀ t, dSort [.nd t .lst ((nmsL h bent).map fun w => .str (S w))] = .ok (.lst .own ((nmsL h bent).map fun w => .str (S w))) := fun t => by
    rw [sort_nms _ okN]
    have : sortN (nmsL h bent) = nmsL h bent := List.mergeSort_of_pairwise (nms_sorted h bent)
    rw [this]
  have mn := minusn (t := .own) h8 co (by omega)
  have pS : plD 2 (.lst .tmp ((nmsL h bent).map fun w => .str (S w))) = true := by
    rw [plD, plL_eq, List.all_map, List.all_eq_true]
    exact fun w hw => by
      show plD 1 (.str (S w)) = true
      rw [plD]
      exact strOk_let (okN w hw).2.2
  have rS : rd (.lst .own ((nmsL h bent).map fun w => .str (S w))) = .lst .tmp ((nmsL h bent).map fun w => .str (S w)) := by rw [rd_own, rd_strs]
  have ne : dNe (.lst .tmp ((nmsL h bent).map fun w => .str (S w))) (.lst .own ((nmsL h bent).map fun w => .str (S w))) = .ok (.bl false) := (dNe_same pS (by decide) rfl).1
  unfold M__law_stands
  refine bstep (x := .int (h.keeps.length : Int)) (by rw [rl, ls_6]; simp) ?_
  simp only [rd_int, oInt_e, rb_ok, rd_frz, rL, dSl_lst, cutL_map, tk, dp, rK, rN, rl, ls_6, ls_0, ls_1, ls_2, ls_3, itemsOf_lstF, rd_kps, lc, lstB_e, if_pos bK, s1, tru_bl, ifR_e, Bool.not_true, Bool.false_eq_true, if_false]
  refine bstep (x := .lst .own ((nmsL h bent).map fun w => .str (S w))) ?_ ?_
  · rw [ln, rb_ok, lstB_e, if_pos bN, rb_ok]
    simp [noTL_map]
  rw [rS, so]
  simp only [rb_ok, ne, asB_bl, ifR_e, Bool.false_eq_true, if_false]
  have ad : ((((dAdd (D.nd Tag.frz Kind.lst (h.top.map nmD)) (D.nd Tag.frz Kind.lst (h.bottom.map nmD))).bind fun t22 => dAdd t22 (D.nd Tag.frz Kind.lst (h.left.map fun w => D.str (S w)))).bind fun t24 => dAdd t24 (D.nd Tag.frz Kind.lst (h.right.map fun w => D.str (S w)))).bind fun t26 => dSortMinus t26) =
      .ok (.lst .own ((netsZ h).map fun w => .str (S w))) := by
    have h1 : h.top.length + h.bottom.length ≤ bigL := by rw [co.lt, co.lb]; unfold bigL; omega
    have h2 : h.top.length + h.bottom.length + h.left.length ≤ bigL := by have := co.ll; rw [co.lt, co.lb]; unfold bigL; omega
    have h3 : h.top.length + h.bottom.length + h.left.length + h.right.length ≤ bigL := by have := co.ll; have := co.lr; rw [co.lt, co.lb]; unfold bigL; omega
    have eb : bigL = 1000000 := rfl
    rw [eb] at h1 h2 h3
    rw [strs_nms h.left, strs_nms h.right]
    rw [dAdd_lst, if_pos (by simp; omega), rb_ok, ← List.map_append, rd_nms, dAdd_lst, if_pos (by simp; omega), rb_ok, ← List.map_append, rd_nms, dAdd_lst, if_pos (by simp; omega), rb_ok, ← List.map_append, rd_nms]
    exact mn
  rw [ad]
  have nn : noTL ((netsZ h).map fun w => D.str (S w)) = true := by simp [noTL_map]
  rw [rb_ok, itemsOf_ownT, if_pos nn, fz_strs, rb_ok]
  have nz := nets_len h8 co
  have fo := (forV_fold (f := fun d s => B__law_stands_1 (lsD .frz h) (.lst .frz ((pcsZ h bent).map pcD)) (.bl bent) (.int (h.keeps.length : Int)) d s) (ei := fun w => D.str (S w)) (fun n : Nat => D.int (n : Int)) (fun n w => n + (netPcs h bent w).length) (fun _ => True) (netsZ h) 0 trivial) ?_
  rotate_left
  · exact fun w hw n _ => ⟨stands_turn hok hW co nd w1 bent hp _ hw n, trivial⟩
  have fl : (netsZ h).foldl (fun n w => n + (netPcs h bent w).length) 0 = N.length := by
    rw [← hN]
    generalize netsZ h = ls
    have key : ∀ (ls : List Nm) (k : Nat), ls.foldl (fun n w => n + (netPcs h bent w).length) k = k + (ls.flatMap (netPcs h bent)).length := by
      intro ls
      induction ls with
      | nil => intro k; simp
      | cons w ls ih => intro k; rw [List.foldl_cons, ih, List.flatMap_cons, List.length_append]; omega
    rw [key]
    omega
  have fo1 := fo.1
  rw [fl] at fo1
  have z0 : D.int 0 = D.int ((0 : Nat) : Int) := rfl
  rw [z0, fo1]
  simp only [afterV_nx, dLen_lst, List.length_map, ep, List.length_append, lK, rb_ok]
  have sb : dSub (.int ((h.keeps.length + N.length : Nat) : Int)) (.int (h.keeps.length : Int)) = .ok (.int (N.length : Int)) := by
    simp
    omega
  rw [sb]
  simp
theorem pcs_few {h : Ch} (bent : Bool) (hk : h.keeps.length ≤ 6) (hb : h.bends.length ≤ 40) (hn : (netsZ h).length ≤ 8) : (pcsZ h bent).length ≤ 1000 := by
  have key : ∀ ls : List Nm, (ls.flatMap (netPcs h bent)).length ≤ 41 * ls.length := by
    intro ls
    induction ls with
    | nil => simp
    | cons w ls ih =>
      have := net_len h bent w
      rw [List.flatMap_cons, List.length_append, List.length_cons]
      omega
  have := key (netsZ h)
  unfold pcsZ
  rw [List.length_append, List.length_map]
  omega
theorem turn_k13 {ws : List Nm} {W : Nat} {h : Ch} (h8 : ws.length = 8) (hok : ∀ w ∈ ws, NameL w) (hW : W ≤ 40) (co : ChOk ws W h) (nd : (h.wide.map (·.1)).Nodup) (w1 : ∀ p ∈ h.wide, 1 ≤ p.2) (bent : Bool) :
    B_law_k13_1 (lsD .frz h) (chI .own h) (.lst .frz ((pcsZ h false).map pcD)) (.bl bent) = .ok (.nx ()) := by
  have hl : h.top.length ≤ 40 := by rw [co.lt]; exact hW
  have hb : h.bottom.length = h.top.length := by rw [co.lt, co.lb]
  have nz := nets_len h8 co
  have lb : h.bends.length ≤ 40 := Nat.le_trans co.lbd hW
  have pl := pcs_few bent co.lk lb nz
  have pn : ∀ p ∈ pcsZ h bent, ∀ w, p.nm = some w → NameL w := fun p hp w e => hok w (nets_sub co w (pcs_nets h bent p hp w e))
  have po := pieces_of_eq h bent (by omega) hb (by omega) (by have := co.lk; omega) co.ll co.lr (by omega)
  have se := stands_eq h8 hok (by omega) co nd w1 bent (by omega)
  have pf : bent = false → pcsZ h false = pcsZ h bent := fun e => by rw [e]
  obtain ⟨rL, fL, nL⟩ := map_calm (xs := pcsZ h bent) pcD_calm
  have aL : faL ((pcsZ h bent).map pcD) = (pcsZ h bent).map pcD := by rw [faL_map]; exact List.map_congr_left fun p _ => fa_pcD p
  have iL : imOL ((pcsZ h bent).map pcD) = true := imOL_map imO_pcD _
  generalize pcsZ h bent = ps at *
  have cp : callD (lenIs 2 Ψ_pieces_of) [rd (chI .own h), rd (.bl bent)] = .ok (.lst .own (ps.map pcD)) := by
    simp [pe_pieces_of, po, iL, nL]
  have i1 : dIsi "list" (rd (.lst .own (ps.map pcD))) = .ok (.bl true) := rfl
  have lc : lcV (fun t4 => (((andV ((dIsi "tuple") (rd t4)) (((dLen [(rd t4)])).bind fun t6 => (dEq t6 (D.int 4))))).bind fun y => (chk y).bind fun y => Res.ok (some y))) (ps.map pcD) = .ok ((ps.map fun _ => true).map D.bl) := by
    refine lcV_map D.bl (fun _ => true) ps fun p _ => ?_
    have i2 : dIsi "tuple" (pcD p) = .ok (.bl true) := rfl
    have i3 : dLen [pcD p] = .ok (.int 4) := rfl
    rw [rd_pcD, i2, i3]
    rfl
  have bl : ((ps.map fun _ => true).map D.bl).length ≤ bigL := by rw [List.length_map, List.length_map]; unfold bigL; omega
  have da : dAll [rd (.lst .own ((ps.map fun _ => true).map D.bl))] = .ok (.bl true) := by
    rw [rd_own, rdL_map]
    show dAll [.lst .tmp ((ps.map fun _ => true).map D.bl)] = _
    rw [dAll_bls]
    simp
  have da2 : dAll [.lst .own ((ps.map fun _ => true).map D.bl)] = .ok (.bl true) := by
    rw [dAll_bls]
    simp
  have cs1 := fun t u => callSame (t := t) (u := u) ps pn (by omega)
  have cst : callD (lenIs 3 Ψ__law_stands) [lsD .frz h, .lst .tmp (ps.map pcD), .bl bent] = .ok (.bl true) := by
    have fls : fa (lsD .frz h) = lsD .frz h := by simp [lsD]
    have nls : noT (lsD .frz h) = true := by simp [lsD]
    unfold callD
    simp [noTL_cons, faL, fls, nls, fL, nL, aL, pe__law_stands, se, lenIs]
  have rl : rd (lsD .frz h) = lsD .frz h := by simp [lsD]
  have dl : dList [.lst .tmp (ps.map pcD)] = .ok (.lst .own (ps.map pcD)) := by
    simp [rL]
  have rT : rd (.lst .own (ps.map pcD)) = .lst .tmp (ps.map pcD) := by rw [rd_own, rL]
  unfold B_law_k13_1
  refine bstep (x := .bl bent) (by simp) ?_
  refine bstep (x := .lst .own (ps.map pcD)) (by rw [cp]; simp [nL]) ?_
  rw [i1, rT, itemsOf_lstF, rL, dl, rl, rd_bl, rd_chO]
  simp only [rb_ok, lc, lstB_e, if_pos bl, da2, tru_bl, ifR_e, Bool.not_true, Bool.false_eq_true, if_false, List.append_nil, cs1, cst]
  refine bstep (x := .lst .own (ps.map pcD)) (by simp [nL]) ?_
  refine bstep (x := .lst .own []) (by simp [clearV, lstO]) ?_
  have rl' : lsD .frz h = lsD .frz h := rfl
  have fz1 : rd (fz (.lst .own (ps.map pcD))) = .lst .frz (ps.map pcD) := by rw [fz_own, fL, rd_frz, rL]
  have fz2 : rd (fz (fz (.lst .own (ps.map pcD)))) = .lst .frz (ps.map pcD) := by rw [fz_own, fL, fz_frz, fL, rd_frz, rL]
  rw [rd_chO, rd_bl] at cp
  rw [cp, fz1, fz2]
  simp only [rb_ok, List.append_nil, cs1, tru_bl, ifR_e, Bool.not_true, Bool.false_eq_true, if_false]
  cases bent with
  | true => simp
  | false =>
    rw [pf rfl, rd_frz, rL, cs1]
    simp
theorem law_true_k13 (ns : List Int) (hn : ns.length ≤ 63) : Ψ_law_k13 [scriptD ns] = .ok (.bl true) := by
  obtain ⟨m, hm⟩ : ∃ m, (cutL ns none (some 1)).sum = m := ⟨_, rfl⟩
  obtain ⟨ws, h8, nd, hok, hw⟩ := named_eq m
  have ce := chan_eq ns hn 40 (by decide) (by decide) m hm ws h8 hok hw
  have co := chanZ_ok (ws := ws) h8 (cs := ns.drop 1) (seed := seedZ m) (W := (1 + seedZ m % 40).toNat)
  have hW : 0 < (1 + seedZ m % 40).toNat ∧ (1 + seedZ m % 40).toNat ≤ 40 := by omega
  have wn : ((chanZ ws (ns.drop 1) (seedZ m) (1 + seedZ m % 40).toNat).wide.map (·.1)).Nodup := by
    simp only [chanZ]
    exact List.Pairwise.imp (S := (· ≠ ·)) (fun {a b} h => by rintro rfl; exact List.lt_irrefl _ h) (wide_lt nd _ _)
  have w3 := chan_wide3 ws (ns.drop 1) (seedZ m) (1 + seedZ m % 40).toNat
  generalize (1 + seedZ m % 40).toNat = W at *
  generalize chanZ ws (ns.drop 1) (seedZ m) W = h at *
  have tn := turn_k13 h8 hok hW.2 co wn (fun p hp => (w3 p hp).1)
  have ke := kept_eq hok co
  have hb : h.bottom.length = h.top.length := by rw [co.lt, co.lb]
  have nz := nets_len h8 co
  have po := pieces_of_eq h false (by rw [co.lt]; omega) hb (by have := co.lbd; omega) (by have := co.lk; omega) co.ll co.lr (by omega)
  have fc : fz (.lst .own (chL .frz h)) = lsD .frz h := by simp [lsD, chL, fz_strs, fz_nms, fz_wds, fz_bds, fz_kps]
  have ff : fz (lsD .frz h) = lsD .frz h := by simp [lsD]
  have nls : noT (lsD .frz h) = true := by simp [lsD]
  obtain ⟨rL, fL, nL⟩ := map_calm (xs := pcsZ h false) pcD_calm
  have iL : imOL ((pcsZ h false).map pcD) = true := imOL_map imO_pcD _
  rw [pe_law_k13]
  unfold M_law_k13 scriptD
  refine bstep (x := .lst .own (chL .frz h)) ?_ ?_
  · have nc : noT (.lst .own (chL .frz h)) = true := by simp [chL_frz.2.2.2]
    simp [pe__law_channel_v2, ce, nc]
  rw [fc, ff, ff]
  have cm : callD (lenIs 1 Ψ__law_made) [rd (lsD .frz h)] = .ok (chI .own h) := by
    have me := made_eq h
    rw [rd_lsF]
    unfold callD
    simp [noTL_cons, nls, ff, fzL, pe__law_made, me, lenIs]
  refine bstep (x := chI .own h) (by rw [cm]; simp) ?_
  refine bstep (x := .lst .own ((pcsZ h false).map pcD)) ?_ ?_
  · simp [pe_pieces_of, po, iL, nL]
  have fp : fz (.lst .own ((pcsZ h false).map pcD)) = .lst .frz ((pcsZ h false).map pcD) := by rw [fz_own, fL]
  have it : itemsOf true (D.tup [(D.bl false), (D.bl true)]) = .ok ([false, true].map D.bl) := rfl
  have lp : forV (fun d s => B_law_k13_1 (lsD .frz h) (chI .own h) (.lst .frz ((pcsZ h false).map pcD)) d) ([false, true].map D.bl) () = .ok (.nx ()) := forV_same _ fun b _ => tn b
  rw [fp, it, rb_ok, lp]
  simp only [afterV_nx]
  have ck : callD (lenIs 2 Ψ__law_kept) [rd (chI .own h), rd (lsD .frz h)] = .ok (.bl true) := by
    have fls : fa (lsD .frz h) = lsD .frz h := by simp [lsD]
    rw [rd_lsF, rd_chO]
    unfold callD
    simp [noTL_cons, faL, fls, pe__law_kept, ke, lenIs]
  rw [ck]
  rfl
end Gw
end
section
set_option maxHeartbeats 8000000
namespace Gk13
open PySem PySem.Spec PyProof.Rows L2 PV Gw
structure Gx {K : PySem.W.Frag} (κ : Kap K) (mg : Str → Option Value) : Prop where
  a_bends : ClsOk κ ["Channel"] "bends"
  a_bottom : ClsOk κ ["Channel"] "bottom"
  a_keeps : ClsOk κ ["Channel"] "keeps"
  a_left : ClsOk κ ["Channel"] "left"
  a_right : ClsOk κ ["Channel"] "right"
  a_top : ClsOk κ ["Channel"] "top"
  a_wide : ClsOk κ ["Channel"] "wide"
  f_all : mg "all" = none
  f_any : mg "any" = none
  f_bool : mg "bool" = none
  f_enumerate : mg "enumerate" = none
  f_int : mg "int" = none
  f_isinstance : mg "isinstance" = none
  f_len : mg "len" = none
  f_list : mg "list" = none
  f_max : mg "max" = none
  f_min : mg "min" = none
  f_range : mg "range" = none
  f_set : mg "set" = none
  f_sorted : mg "sorted" = none
  f_sum : mg "sum" = none
  f_tuple : mg "tuple" = none
  f_zip : mg "zip" = none
theorem sci_Channel : FnScope ["self", "top", "bottom", "left", "right", "wide", "bends", "keeps"] ["self", "top", "bottom", "left", "right", "wide", "bends", "keeps"] (defScope si_Channel) := ⟨rfl, rfl, rfl, by decide +kernel, rfl, by decide +kernel, by decide +kernel⟩
theorem mk_Channel {P : Program} {w : World} {K : PySem.W.Frag} {mg : Str → Option Value} {base : Heap} {c : Cfg K} {f : Addr} {fd : FuncData} (F : FunD K "__init__" "Channel.__init__" (defArgs si_Channel) (defBody si_Channel) (defScope si_Channel) [] [] f fd) (mk : Mk K (c.κ.cls "Channel") f) (hc : Cls K (c.κ.cls "Channel")) (n_top : NoAttr K (c.κ.cls "Channel") "top") (n_bottom : NoAttr K (c.κ.cls "Channel") "bottom") (n_left : NoAttr K (c.κ.cls "Channel") "left") (n_right : NoAttr K (c.κ.cls "Channel") "right") (n_wide : NoAttr K (c.κ.cls "Channel") "wide") (n_bends : NoAttr K (c.κ.cls "Channel") "bends") (n_keeps : NoAttr K (c.κ.cls "Channel") "keeps") (hm : mg "Channel" = some (.ref (c.κ.cls "Channel"))) : MkC P w K mg base c.κ "Channel" ["top", "bottom", "left", "right", "wide", "bends", "keeps"] := by
  refine ⟨f, fd, ["self", "top", "bottom", "left", "right", "wide", "bends", "keeps"], mk, ?_, hm, F.bindsN fun _ _ _ _ _ _ us hl => match us, hl with | [_, _, _, _, _, _, _, _], _ => rfl⟩
  refine init_ok (l := [("top", 1), ("bottom", 2), ("left", 3), ("right", 4), ("wide", 5), ("bends", 6), ("keeps", 7)]) F sci_Channel hc (fun p hp => by
    simp only [List.mem_cons, List.not_mem_nil, or_false] at hp
    rcases hp with rfl | rfl | rfl | rfl | rfl | rfl | rfl
    · exact n_top
    · exact n_bottom
    · exact n_left
    · exact n_right
    · exact n_wide
    · exact n_bends
    · exact n_keeps
    ) rfl (by simp) (by decide) (by decide) ?_ ?_
  · intro j p h
    have : j < 7 := (List.getElem?_eq_some_iff.mp h).1
    match j, this, h with
    | 0, _, h => exact (congrArg Prod.snd (Option.some.inj h)).symm
    | 1, _, h => exact (congrArg Prod.snd (Option.some.inj h)).symm
    | 2, _, h => exact (congrArg Prod.snd (Option.some.inj h)).symm
    | 3, _, h => exact (congrArg Prod.snd (Option.some.inj h)).symm
    | 4, _, h => exact (congrArg Prod.snd (Option.some.inj h)).symm
    | 5, _, h => exact (congrArg Prod.snd (Option.some.inj h)).symm
    | 6, _, h => exact (congrArg Prod.snd (Option.some.inj h)).symm
  · intro cdv A outer s H E
    exact (init_cons rfl rfl (.inl rfl) (.inl rfl) (by decide) (by decide) (by decide) (by decide) (by rfl) (init_cons rfl rfl (.inl rfl) (.inl rfl) (by decide) (by decide) (by decide) (by decide) (by rfl) (init_cons rfl rfl (.inl rfl) (.inl rfl) (by decide) (by decide) (by decide) (by decide) (by rfl) (init_cons rfl rfl (.inl rfl) (.inl rfl) (by decide) (by decide) (by decide) (by decide) (by rfl) (init_cons rfl rfl (.inl rfl) (.inl rfl) (by decide) (by decide) (by decide) (by decide) (by rfl) (init_cons rfl rfl (.inl rfl) (.inl rfl) (by decide) (by decide) (by decide) (by decide) (by rfl) (init_cons rfl rfl (.inl rfl) (.inl rfl) (by decide) (by decide) (by decide) (by decide) (by rfl) init_nil)))))))
section
variable {P : Program} {w : World} {K : PySem.W.Frag} {mg : Str → Option Value} {base : Heap} {c : Cfg K}
theorem sc_ends_of : FnScope N_ends_of ["channel", "name"] (defScope s_ends_of) := ⟨rfl, rfl, rfl, by decide +kernel, rfl, by decide +kernel, by decide +kernel⟩
set_option maxHeartbeats 4000000 in
theorem eb_ends_of (G : Gx c.κ mg) (f : Addr) (cdv : Value) (A : Around) (outer : List PySem.Env) (s : Shared) (H : Hp) (E : XK) (hr : Room 0 (A.deeper (envOfC "ends_of" (defScope s_ends_of) s.heap.objs.size f cdv))) :
    EB (cxOf (L2.CX P w) P w K mg base N_ends_of "ends_of" (defScope s_ends_of) f cdv A outer s H E) c E (defBody s_ends_of) g_ends_of := by
  have hx : Passes (L2.CX P w) (cxOf (L2.CX P w) P w K mg base N_ends_of "ends_of" (defScope s_ends_of) f cdv A outer s H E) E := passes_call (takes_of rfl rfl rfl rfl) (fun _ _ _ _ z => z)
  exact (eb_cons (es_set 2 (ev_lst l_nil) sc_ends_of.nd) (eb_cons (es_if (et_in1 (ev_var 1) (ev_fld ["Channel"] G.a_left (ev_var 0))) (eb_one (es_app 2 (ev_tup (l_cons ev_str l_nil)))) eb_nil) (eb_cons (es_for [3, 4] (passes_of rfl) rfl (eys_of (ey_ez rfl G.f_enumerate rfl G.f_zip (l_cons (ev_fld ["Channel"] G.a_top (ev_var 0)) (l_cons (ev_fld ["Channel"] G.a_bottom (ev_var 0)) l_nil)))) (eg_tup rfl (egs_cons (eg_name 3 sc_ends_of.nd) (egs_cons (eg_name 4 sc_ends_of.nd) egs_nil))) (eb_cons (es_if (et_eq (hu64 hr) (ev_sub_ (ev_var 4) ev_int) (ev_var 1)) (eb_one (es_app 2 (ev_tup (l_cons ev_str (l_cons (ev_var 3) l_nil))))) eb_nil) (eb_one (es_if (et_eq (hu64 hr) (ev_sub_ (ev_var 4) ev_int) (ev_var 1)) (eb_one (es_app 2 (ev_tup (l_cons ev_str (l_cons (ev_var 3) l_nil))))) eb_nil)))) (eb_cons (es_if (et_in1 (ev_var 1) (ev_fld ["Channel"] G.a_right (ev_var 0))) (eb_one (es_app 2 (ev_tup (l_cons ev_str l_nil)))) eb_nil) (eb_one (es_retV 2))))))
theorem ok_ends_of (G : Gx c.κ mg) {f : Addr} {fd : FuncData} (F : FunD K "ends_of" "ends_of" (defArgs s_ends_of) (defBody s_ends_of) (defScope s_ends_of) [] [] f fd) : FnOk P w K mg base (L2.CX P w) 1 f fd ["channel", "name"] (SpD c 2 Ψ_ends_of) :=
  FnOk.eqv (Φ := Φ_ends_of) (fnd_ok F sc_ends_of fun cdv A outer s H E hr => eb_ends_of G  f cdv A outer s H E hr) ps_ends_of
theorem cal_ends_of (G : Gx c.κ mg) {f : Addr} {fd : FuncData} (F : FunD K "ends_of" "ends_of" (defArgs s_ends_of) (defBody s_ends_of) (defScope s_ends_of) [] [] f fd) (hm : mg "ends_of" = some (.ref f)) : Cal P w K mg base c "ends_of" 1 2 Ψ_ends_of [] :=
  cal_mk (ps := ["channel", "name"]) F hm (ok_ends_of G  F) fun _ _ _ _ _ _ us hl => match us, hl with | [_, _], _ => rfl
theorem sc_nets_of : FnScope N_nets_of ["channel"] (defScope s_nets_of) := ⟨rfl, rfl, rfl, by decide +kernel, rfl, by decide +kernel, by decide +kernel⟩
set_option maxHeartbeats 4000000 in
theorem eb_nets_of (G : Gx c.κ mg) (f : Addr) (cdv : Value) (A : Around) (outer : List PySem.Env) (s : Shared) (H : Hp) (E : XK) (hr : Room 0 (A.deeper (envOfC "nets_of" (defScope s_nets_of) s.heap.objs.size f cdv))) :
    EB (cxOf (L2.CX P w) P w K mg base N_nets_of "nets_of" (defScope s_nets_of) f cdv A outer s H E) c E (defBody s_nets_of) g_nets_of := by
  have hx : Passes (L2.CX P w) (cxOf (L2.CX P w) P w K mg base N_nets_of "nets_of" (defScope s_nets_of) f cdv A outer s H E) E := passes_call (takes_of rfl rfl rfl rfl) (fun _ _ _ _ z => z)
  exact (eb_cons (es_set 1 (ev_add (ev_fld ["Channel"] G.a_left (ev_var 0)) (ev_fld ["Channel"] G.a_right (ev_var 0))) sc_nets_of.nd) (eb_cons (es_set 1 (ev_add (ev_var 1) (ev_lc (own := [("name", 2)]) rfl sc_nets_of.nd (ey_val (ev_add (ev_fld ["Channel"] G.a_top (ev_var 0)) (ev_fld ["Channel"] G.a_bottom (ev_var 0)))) (blkOk_by (own := [("name", 2)]) (N := N_nets_of) (sc := defScope s_nets_of) (by decide +kernel)) (fun _ _ _ _ _ => (eg_nameC 2 sc_nets_of.nd)) (fun _ _ _ _ _ => (ets_one (et_notN (ev_var 2)))) (fun _ _ _ _ _ => (ev_var 2)))) sc_nets_of.nd) (eb_one (es_ret (ev_sortSet rfl (hu64 hr) rfl G.f_sorted rfl G.f_set (ev_var 1))))))
theorem ok_nets_of (G : Gx c.κ mg) {f : Addr} {fd : FuncData} (F : FunD K "nets_of" "nets_of" (defArgs s_nets_of) (defBody s_nets_of) (defScope s_nets_of) [] [] f fd) : FnOk P w K mg base (L2.CX P w) 1 f fd ["channel"] (SpD c 1 Ψ_nets_of) :=
  FnOk.eqv (Φ := Φ_nets_of) (fnd_ok F sc_nets_of fun cdv A outer s H E hr => eb_nets_of G  f cdv A outer s H E hr) ps_nets_of
theorem cal_nets_of (G : Gx c.κ mg) {f : Addr} {fd : FuncData} (F : FunD K "nets_of" "nets_of" (defArgs s_nets_of) (defBody s_nets_of) (defScope s_nets_of) [] [] f fd) (hm : mg "nets_of" = some (.ref f)) : Cal P w K mg base c "nets_of" 1 1 Ψ_nets_of [] :=
  cal_mk (ps := ["channel"]) F hm (ok_nets_of G  F) fun _ _ _ _ _ _ us hl => match us, hl with | [_], _ => rfl
theorem sc_width_of : FnScope N_width_of ["channel", "name"] (defScope s_width_of) := ⟨rfl, rfl, rfl, by decide +kernel, rfl, by decide +kernel, by decide +kernel⟩
set_option maxHeartbeats 4000000 in
theorem eb_width_of (G : Gx c.κ mg) (f : Addr) (cdv : Value) (A : Around) (outer : List PySem.Env) (s : Shared) (H : Hp) (E : XK) (hr : Room 0 (A.deeper (envOfC "width_of" (defScope s_width_of) s.heap.objs.size f cdv))) :
    EB (cxOf (L2.CX P w) P w K mg base N_width_of "width_of" (defScope s_width_of) f cdv A outer s H E) c E (defBody s_width_of) g_width_of := by
  have hx : Passes (L2.CX P w) (cxOf (L2.CX P w) P w K mg base N_width_of "width_of" (defScope s_width_of) f cdv A outer s H E) E := passes_call (takes_of rfl rfl rfl rfl) (fun _ _ _ _ z => z)
  exact (eb_cons (es_for [2, 3] (passes_of rfl) rfl (eys_of (ey_val (ev_fld ["Channel"] G.a_wide (ev_var 0)))) (eg_tup rfl (egs_cons (eg_name 2 sc_width_of.nd) (egs_cons (eg_name 3 sc_width_of.nd) egs_nil))) (eb_one (es_if (et_eq (hu64 hr) (ev_var 2) (ev_var 1)) (eb_one (es_retV 3)) eb_nil))) (eb_one (es_ret ev_int)))
theorem ok_width_of (G : Gx c.κ mg) {f : Addr} {fd : FuncData} (F : FunD K "width_of" "width_of" (defArgs s_width_of) (defBody s_width_of) (defScope s_width_of) [] [] f fd) : FnOk P w K mg base (L2.CX P w) 1 f fd ["channel", "name"] (SpD c 2 Ψ_width_of) :=
  FnOk.eqv (Φ := Φ_width_of) (fnd_ok F sc_width_of fun cdv A outer s H E hr => eb_width_of G  f cdv A outer s H E hr) ps_width_of
theorem cal_width_of (G : Gx c.κ mg) {f : Addr} {fd : FuncData} (F : FunD K "width_of" "width_of" (defArgs s_width_of) (defBody s_width_of) (defScope s_width_of) [] [] f fd) (hm : mg "width_of" = some (.ref f)) : Cal P w K mg base c "width_of" 1 2 Ψ_width_of [] :=
  cal_mk (ps := ["channel", "name"]) F hm (ok_width_of G  F) fun _ _ _ _ _ _ us hl => match us, hl with | [_, _], _ => rfl
theorem sc_stretch_of : FnScope N_stretch_of ["channel", "name"] (defScope s_stretch_of) := ⟨rfl, rfl, rfl, by decide +kernel, rfl, by decide +kernel, by decide +kernel⟩
set_option maxHeartbeats 4000000 in
theorem eb_stretch_of (G : Gx c.κ mg) (C_ends_of : Cal P w K mg base c "ends_of" 1 2 Ψ_ends_of []) (f : Addr) (cdv : Value) (A : Around) (outer : List PySem.Env) (s : Shared) (H : Hp) (E : XK) (hr : Room 1 (A.deeper (envOfC "stretch_of" (defScope s_stretch_of) s.heap.objs.size f cdv))) :
    EB (cxOf (L2.CX P w) P w K mg base N_stretch_of "stretch_of" (defScope s_stretch_of) f cdv A outer s H E) c E (defBody s_stretch_of) g_stretch_of := by
  have hx : Passes (L2.CX P w) (cxOf (L2.CX P w) P w K mg base N_stretch_of "stretch_of" (defScope s_stretch_of) f cdv A outer s H E) E := passes_call (takes_of rfl rfl rfl rfl) (fun _ _ _ _ z => z)
  exact (eb_cons (es_set 2 (ev_callC C_ends_of (hr.mono (by decide)) rfl hx (l_cons (ev_var 0) (l_cons (ev_var 1) l_nil))) sc_stretch_of.nd) (eb_cons (es_if (et_eq (hu64 hr) (ev_len rfl G.f_len (l_cons (ev_var 2) l_nil)) ev_int) (eb_one (es_ret ev_non)) eb_nil) (eb_cons (es_lc 3 (own := [("end", 6)]) rfl sc_stretch_of.nd rfl (sw_true rfl rfl rfl (by decide +kernel)) (ey_val (ev_var 2)) (blkOk_by (own := [("end", 6)]) (N := N_stretch_of) (sc := defScope s_stretch_of) (by decide +kernel)) (fun _ _ _ _ _ => (eg_nameC 6 sc_stretch_of.nd)) (fun _ _ _ _ _ => (ets_one (et_eq (hu64 hr) (ev_len rfl G.f_len (l_cons (ev_var 6) l_nil)) ev_int))) (fun _ _ _ _ _ => (ev_sub_ (ev_var 6) ev_int))) (eb_cons (es_if (et_eq (hu64 hr) (ev_sub_ (ev_var 2) ev_int) (ev_tup (l_cons ev_str l_nil))) (eb_one (es_app 3 (ev_neg ev_int))) eb_nil) (eb_cons (es_if (et_eq (hu64 hr) (ev_sub_ (ev_var 2) (ev_neg ev_int)) (ev_tup (l_cons ev_str l_nil))) (eb_one (es_app 3 (ev_len rfl G.f_len (l_cons (ev_fld ["Channel"] G.a_top (ev_var 0)) l_nil)))) eb_nil) (eb_cons (es_par 4 5 rfl sc_stretch_of.nd (l_cons (ev_min rfl rfl G.f_min (l_cons (ev_var 3) l_nil)) (l_cons (ev_max rfl rfl G.f_max (l_cons (ev_var 3) l_nil)) l_nil)) (by decide) rfl rfl rfl) (eb_cons (es_if (et_eq (hu64 hr) (ev_var 4) (ev_var 5)) (eb_one (es_ret ev_non)) eb_nil) (eb_one (es_ret (ev_tup (l_cons (ev_var 4) (l_cons (ev_var 5) l_nil))))))))))))
theorem ok_stretch_of (G : Gx c.κ mg) (C_ends_of : Cal P w K mg base c "ends_of" 1 2 Ψ_ends_of []) {f : Addr} {fd : FuncData} (F : FunD K "stretch_of" "stretch_of" (defArgs s_stretch_of) (defBody s_stretch_of) (defScope s_stretch_of) [] [] f fd) : FnOk P w K mg base (L2.CX P w) 2 f fd ["channel", "name"] (SpD c 2 Ψ_stretch_of) :=
  FnOk.eqv (Φ := Φ_stretch_of) (fnd_ok F sc_stretch_of fun cdv A outer s H E hr => eb_stretch_of G C_ends_of f cdv A outer s H E hr) ps_stretch_of
theorem cal_stretch_of (G : Gx c.κ mg) (C_ends_of : Cal P w K mg base c "ends_of" 1 2 Ψ_ends_of []) {f : Addr} {fd : FuncData} (F : FunD K "stretch_of" "stretch_of" (defArgs s_stretch_of) (defBody s_stretch_of) (defScope s_stretch_of) [] [] f fd) (hm : mg "stretch_of" = some (.ref f)) : Cal P w K mg base c "stretch_of" 2 2 Ψ_stretch_of [] :=
  cal_mk (ps := ["channel", "name"]) F hm (ok_stretch_of G C_ends_of F) fun _ _ _ _ _ _ us hl => match us, hl with | [_, _], _ => rfl
theorem sc_net_pieces : FnScope N_net_pieces ["channel", "name", "bent"] (defScope s_net_pieces) := ⟨rfl, rfl, rfl, by decide +kernel, rfl, by decide +kernel, by decide +kernel⟩
set_option maxHeartbeats 4000000 in
theorem eb_net_pieces (G : Gx c.κ mg) (C_stretch_of : Cal P w K mg base c "stretch_of" 2 2 Ψ_stretch_of []) (C_width_of : Cal P w K mg base c "width_of" 1 2 Ψ_width_of []) (f : Addr) (cdv : Value) (A : Around) (outer : List PySem.Env) (s : Shared) (H : Hp) (E : XK) (hr : Room 2 (A.deeper (envOfC "net_pieces" (defScope s_net_pieces) s.heap.objs.size f cdv))) :
    EB (cxOf (L2.CX P w) P w K mg base N_net_pieces "net_pieces" (defScope s_net_pieces) f cdv A outer s H E) c E (defBody s_net_pieces) g_net_pieces := by
  have hx : Passes (L2.CX P w) (cxOf (L2.CX P w) P w K mg base N_net_pieces "net_pieces" (defScope s_net_pieces) f cdv A outer s H E) E := passes_call (takes_of rfl rfl rfl rfl) (fun _ _ _ _ z => z)
  exact (eb_cons (es_set 3 (ev_callC C_stretch_of (hr.mono (by decide)) rfl hx (l_cons (ev_var 0) (l_cons (ev_var 1) l_nil))) sc_net_pieces.nd) (eb_cons (es_if (et_isN (ev_var 3)) (eb_one (es_ret (ev_lst l_nil))) eb_nil) (eb_cons (es_set 4 (ev_lst l_nil) sc_net_pieces.nd) (eb_cons (es_if (et_tru (ev_var 2)) (eb_one (es_lc 4 (own := [("column", 8), ("other", 9)]) rfl sc_net_pieces.nd rfl (sw_true rfl rfl rfl (by decide +kernel)) (ey_val (ev_fld ["Channel"] G.a_bends (ev_var 0))) (blkOk_by (own := [("column", 8), ("other", 9)]) (N := N_net_pieces) (sc := defScope s_net_pieces) (by decide +kernel)) (fun _ _ _ _ _ => (eg_tup rfl (egs_consC (eg_nameC 8 sc_net_pieces.nd) (egs_consC (eg_nameC 9 sc_net_pieces.nd) egs_nil)))) (fun _ _ _ _ _ => (ets_one (et_eq (hu64 hr) (ev_var 9) (ev_var 1)))) (fun _ _ _ _ _ => (ev_var 8)))) eb_nil) (eb_cons (es_set 5 (ev_callC C_width_of (hr.mono (by decide)) rfl hx (l_cons (ev_var 0) (l_cons (ev_var 1) l_nil))) sc_net_pieces.nd) (eb_cons (es_set 6 (ev_lst l_nil) sc_net_pieces.nd) (eb_cons (es_set 7 (ev_sub_ (ev_var 3) ev_int) sc_net_pieces.nd) (eb_cons (es_frz 5 (es_for [8] (passes_of rfl) rfl (eys_of (ey_val (ev_add (ev_var 4) (ev_lst (l_cons (ev_sub_ (ev_var 3) ev_int) l_nil))))) (eg_name 8 sc_net_pieces.nd) (eb_cons (es_app 6 (ev_tup (l_cons (ev_var 1) (l_cons (ev_var 7) (l_cons (ev_var 8) (l_cons (ev_var 5) l_nil)))))) (eb_one (es_set 7 (ev_var 8) sc_net_pieces.nd))))) (eb_one (es_retV 6))))))))))
theorem ok_net_pieces (G : Gx c.κ mg) (C_stretch_of : Cal P w K mg base c "stretch_of" 2 2 Ψ_stretch_of []) (C_width_of : Cal P w K mg base c "width_of" 1 2 Ψ_width_of []) {f : Addr} {fd : FuncData} (F : FunD K "net_pieces" "net_pieces" (defArgs s_net_pieces) (defBody s_net_pieces) (defScope s_net_pieces) [] [] f fd) : FnOk P w K mg base (L2.CX P w) 3 f fd ["channel", "name", "bent"] (SpD c 3 Ψ_net_pieces) :=
  FnOk.eqv (Φ := Φ_net_pieces) (fnd_ok F sc_net_pieces fun cdv A outer s H E hr => eb_net_pieces G C_stretch_of C_width_of f cdv A outer s H E hr) ps_net_pieces
theorem cal_net_pieces (G : Gx c.κ mg) (C_stretch_of : Cal P w K mg base c "stretch_of" 2 2 Ψ_stretch_of []) (C_width_of : Cal P w K mg base c "width_of" 1 2 Ψ_width_of []) {f : Addr} {fd : FuncData} (F : FunD K "net_pieces" "net_pieces" (defArgs s_net_pieces) (defBody s_net_pieces) (defScope s_net_pieces) [] [] f fd) (hm : mg "net_pieces" = some (.ref f)) : Cal P w K mg base c "net_pieces" 3 3 Ψ_net_pieces [] :=
  cal_mk (ps := ["channel", "name", "bent"]) F hm (ok_net_pieces G C_stretch_of C_width_of F) fun _ _ _ _ _ _ us hl => match us, hl with | [_, _, _], _ => rfl
theorem sc_pieces_of : FnScope N_pieces_of ["channel", "bent"] (defScope s_pieces_of) := ⟨rfl, rfl, rfl, by decide +kernel, rfl, by decide +kernel, by decide +kernel⟩
set_option maxHeartbeats 4000000 in
theorem eb_pieces_of (G : Gx c.κ mg) (C_net_pieces : Cal P w K mg base c "net_pieces" 3 3 Ψ_net_pieces []) (C_nets_of : Cal P w K mg base c "nets_of" 1 1 Ψ_nets_of []) (f : Addr) (cdv : Value) (A : Around) (outer : List PySem.Env) (s : Shared) (H : Hp) (E : XK) (hr : Room 3 (A.deeper (envOfC "pieces_of" (defScope s_pieces_of) s.heap.objs.size f cdv))) :
    EB (cxOf (L2.CX P w) P w K mg base N_pieces_of "pieces_of" (defScope s_pieces_of) f cdv A outer s H E) c E (defBody s_pieces_of) g_pieces_of := by
  have hx : Passes (L2.CX P w) (cxOf (L2.CX P w) P w K mg base N_pieces_of "pieces_of" (defScope s_pieces_of) f cdv A outer s H E) E := passes_call (takes_of rfl rfl rfl rfl) (fun _ _ _ _ z => z)
  exact (eb_cons (es_lc 2 (own := [("first", 4), ("last", 5), ("many", 6)]) rfl sc_pieces_of.nd rfl (sw_true rfl rfl rfl (by decide +kernel)) (ey_val (ev_fld ["Channel"] G.a_keeps (ev_var 0))) (blkOk_by (own := [("first", 4), ("last", 5), ("many", 6)]) (N := N_pieces_of) (sc := defScope s_pieces_of) (by decide +kernel)) (fun _ _ _ _ _ => (eg_tup rfl (egs_consC (eg_nameC 4 sc_pieces_of.nd) (egs_consC (eg_nameC 5 sc_pieces_of.nd) (egs_consC (eg_nameC 6 sc_pieces_of.nd) egs_nil))))) (fun _ _ _ _ _ => ets_nil) (fun _ _ _ _ _ => (ev_tup (l_cons ev_non (l_cons (ev_var 4) (l_cons (ev_var 5) (l_cons (ev_var 6) l_nil))))))) (eb_cons (es_for [3] (passes_of rfl) rfl (eys_of (ey_val (ev_callC C_nets_of (hr.mono (by decide)) rfl hx (l_cons (ev_var 0) l_nil)))) (eg_name 3 sc_pieces_of.nd) (eb_one (es_ext 2 (ev_callC C_net_pieces (hr.mono (by decide)) rfl hx (l_cons (ev_var 0) (l_cons (ev_var 3) (l_cons (ev_var 1) l_nil))))))) (eb_one (es_retV 2))))
theorem ok_pieces_of (G : Gx c.κ mg) (C_net_pieces : Cal P w K mg base c "net_pieces" 3 3 Ψ_net_pieces []) (C_nets_of : Cal P w K mg base c "nets_of" 1 1 Ψ_nets_of []) {f : Addr} {fd : FuncData} (F : FunD K "pieces_of" "pieces_of" (defArgs s_pieces_of) (defBody s_pieces_of) (defScope s_pieces_of) [.bl false] [] f fd) : FnOk P w K mg base (L2.CX P w) 4 f fd ["channel", "bent"] (SpD c 2 Ψ_pieces_of) :=
  FnOk.eqv (Φ := Φ_pieces_of) (fnd_ok F sc_pieces_of fun cdv A outer s H E hr => eb_pieces_of G C_net_pieces C_nets_of f cdv A outer s H E hr) ps_pieces_of
theorem cal_pieces_of (G : Gx c.κ mg) (C_net_pieces : Cal P w K mg base c "net_pieces" 3 3 Ψ_net_pieces []) (C_nets_of : Cal P w K mg base c "nets_of" 1 1 Ψ_nets_of []) {f : Addr} {fd : FuncData} (F : FunD K "pieces_of" "pieces_of" (defArgs s_pieces_of) (defBody s_pieces_of) (defScope s_pieces_of) [.bl false] [] f fd) (hm : mg "pieces_of" = some (.ref f)) : Cal P w K mg base c "pieces_of" 4 2 Ψ_pieces_of [] :=
  cal_mkD (ps := ["channel", "bent"]) F hm (ok_pieces_of G C_net_pieces C_nets_of F) 2 1 (by simp) (by decide) (fun _ _ _ _ _ _ _ us its hl hz => match us, its, hl, hz with | [_, _], [_], _, _ => ⟨_, rfl, rfl⟩) fun _ _ => .nil
theorem cal_pieces_of_1 (G : Gx c.κ mg) (C_net_pieces : Cal P w K mg base c "net_pieces" 3 3 Ψ_net_pieces []) (C_nets_of : Cal P w K mg base c "nets_of" 1 1 Ψ_nets_of []) {f : Addr} {fd : FuncData} (F : FunD K "pieces_of" "pieces_of" (defArgs s_pieces_of) (defBody s_pieces_of) (defScope s_pieces_of) [.bl false] [] f fd) (hm : mg "pieces_of" = some (.ref f)) : Cal P w K mg base c "pieces_of" 4 2 Ψ_pieces_of [.bl false] :=
  cal_mkD (ps := ["channel", "bent"]) F hm (ok_pieces_of G C_net_pieces C_nets_of F) 1 0 (by simp) (by decide) (fun _ _ _ _ _ _ _ us its hl hz => match us, its, hl, hz with | [_], [_], _, _ => ⟨_, rfl, rfl⟩) fun _ _ => (RepL.cons (fp := []) (fq := []) (.bl false) .nil)
theorem sc__law_stem : FnScope N__law_stem ["_law_cell", "_law_size"] (defScope s__law_stem) := ⟨rfl, rfl, rfl, by decide +kernel, rfl, by decide +kernel, by decide +kernel⟩
set_option maxHeartbeats 4000000 in
theorem eb__law_stem (G : Gx c.κ mg) (f : Addr) (cdv : Value) (A : Around) (outer : List PySem.Env) (s : Shared) (H : Hp) (E : XK) (hr : Room 0 (A.deeper (envOfC "_law_stem" (defScope s__law_stem) s.heap.objs.size f cdv))) :
    EB (cxOf (L2.CX P w) P w K mg base N__law_stem "_law_stem" (defScope s__law_stem) f cdv A outer s H E) c E (defBody s__law_stem) g__law_stem := by
  have hx : Passes (L2.CX P w) (cxOf (L2.CX P w) P w K mg base N__law_stem "_law_stem" (defScope s__law_stem) f cdv A outer s H E) E := passes_call (takes_of rfl rfl rfl rfl) (fun _ _ _ _ z => z)
  exact (eb_cons (es_set 2 ev_str sc__law_stem.nd) (eb_cons (es_set 3 ev_str sc__law_stem.nd) (eb_cons (es_for [4] (passes_of rfl) rfl (eys_of (ey_range1 rfl G.f_range (l_cons (ev_var 1) l_nil))) (eg_name 4 sc__law_stem.nd) (eb_cons (es_set 3 (ev_add (ev_var 3) (ev_sub_ (ev_var 2) (ev_mod (ev_var 0) ev_int))) sc__law_stem.nd) (eb_one (es_set 0 (ev_div (ev_var 0) ev_int) sc__law_stem.nd)))) (eb_one (es_retV 3)))))
theorem ok__law_stem (G : Gx c.κ mg) {f : Addr} {fd : FuncData} (F : FunD K "_law_stem" "_law_stem" (defArgs s__law_stem) (defBody s__law_stem) (defScope s__law_stem) [] [] f fd) : FnOk P w K mg base (L2.CX P w) 1 f fd ["_law_cell", "_law_size"] (SpD c 2 Φ__law_stem) :=
  fnd_ok F sc__law_stem fun cdv A outer s H E hr => eb__law_stem G  f cdv A outer s H E hr
theorem cal__law_stem (G : Gx c.κ mg) {f : Addr} {fd : FuncData} (F : FunD K "_law_stem" "_law_stem" (defArgs s__law_stem) (defBody s__law_stem) (defScope s__law_stem) [] [] f fd) (hm : mg "_law_stem" = some (.ref f)) : Cal P w K mg base c "_law_stem" 1 2 Φ__law_stem [] :=
  cal_mk (ps := ["_law_cell", "_law_size"]) F hm (ok__law_stem G  F) fun _ _ _ _ _ _ us hl => match us, hl with | [_, _], _ => rfl
theorem sc__law_named : FnScope N__law_named ["_law_cell"] (defScope s__law_named) := ⟨rfl, rfl, rfl, by decide +kernel, rfl, by decide +kernel, by decide +kernel⟩
set_option maxHeartbeats 4000000 in
theorem eb__law_named (G : Gx c.κ mg) (C__law_stem : Cal P w K mg base c "_law_stem" 1 2 Φ__law_stem []) (f : Addr) (cdv : Value) (A : Around) (outer : List PySem.Env) (s : Shared) (H : Hp) (E : XK) (hr : Room 1 (A.deeper (envOfC "_law_named" (defScope s__law_named) s.heap.objs.size f cdv))) :
    EB (cxOf (L2.CX P w) P w K mg base N__law_named "_law_named" (defScope s__law_named) f cdv A outer s H E) c E (defBody s__law_named) g__law_named := by
  have hx : Passes (L2.CX P w) (cxOf (L2.CX P w) P w K mg base N__law_named "_law_named" (defScope s__law_named) f cdv A outer s H E) E := passes_call (takes_of rfl rfl rfl rfl) (fun _ _ _ _ z => z)
  exact (eb_cons (es_set 0 (ev_mod (ev_mul (ev_add (ev_mod (ev_var 0) (ev_pow ev_int ev_int)) ev_int) ev_int) (ev_add (ev_pow ev_int ev_int) ev_int)) sc__law_named.nd) (eb_cons (es_set 1 (ev_mod (ev_var 0) ev_int) sc__law_named.nd) (eb_cons (es_set 2 (ev_callC C__law_stem (hr.mono (by decide)) rfl hx (l_cons (ev_div (ev_var 0) ev_int) (l_cons ev_int l_nil))) sc__law_named.nd) (eb_cons (es_set 3 (ev_mod (ev_div (ev_var 0) ev_int) (ev_add (ev_var 1) ev_int)) sc__law_named.nd) (eb_cons (es_if (et_eq (hu64 hr) (ev_mod (ev_div (ev_var 0) ev_int) ev_int) ev_int) (eb_one (es_ret (ev_lc (own := [("_law_sign", 5)]) rfl sc__law_named.nd (ey_val ev_str) (blkOk_by (own := [("_law_sign", 5)]) (N := N__law_named) (sc := defScope s__law_named) (by decide +kernel)) (fun _ _ _ _ _ => (eg_nameC 5 sc__law_named.nd)) (fun _ _ _ _ _ => ets_nil) (fun _ _ _ _ _ => (ev_add (ev_add (ev_slice (ev_var 2) eo_none (eo_some (ev_var 3))) (ev_var 5)) (ev_slice (ev_var 2) (eo_some (ev_var 3)) (eo_some (ev_var 1)))))))) eb_nil) (eb_cons (es_if (et_eq (hu64 hr) (ev_mod (ev_div (ev_var 0) ev_int) ev_int) ev_int) (eb_one (es_ret (ev_lc (own := [("_law_k", 6)]) rfl sc__law_named.nd (ey_range1 rfl G.f_range (l_cons ev_int l_nil)) (blkOk_by (own := [("_law_k", 6)]) (N := N__law_named) (sc := defScope s__law_named) (by decide +kernel)) (fun _ _ _ _ _ => (eg_nameC 6 sc__law_named.nd)) (fun _ _ _ _ _ => ets_nil) (fun _ _ _ _ _ => (ev_add (ev_add (ev_add (ev_slice (ev_var 2) eo_none (eo_some (ev_mod (ev_var 1) ev_int))) (ev_sub_ ev_str (ev_div (ev_var 6) ev_int))) (ev_sub_ ev_str (ev_mod (ev_div (ev_var 6) ev_int) ev_int))) (ev_sub_ ev_str (ev_mod (ev_var 6) ev_int))))))) eb_nil) (eb_cons (es_set 4 (ev_add (ev_sub_ ev_str (ev_int_ rfl G.f_int (l_cons (ev_eq (hu64 hr) (ev_sub_ (ev_var 2) ev_int) ev_str) l_nil))) (ev_slice (ev_var 2) (eo_some ev_int) eo_none)) sc__law_named.nd) (eb_one (es_ret (ev_add (ev_lc (own := [("_law_k", 6)]) rfl sc__law_named.nd (ey_range1 rfl G.f_range (l_cons ev_int l_nil)) (blkOk_by (own := [("_law_k", 6)]) (N := N__law_named) (sc := defScope s__law_named) (by decide +kernel)) (fun _ _ _ _ _ => (eg_nameC 6 sc__law_named.nd)) (fun _ _ _ _ _ => ets_nil) (fun _ _ _ _ _ => (ev_slice (ev_var 2) eo_none (eo_some (ev_add (ev_var 6) ev_int))))) (ev_lst (l_cons (ev_slice (ev_var 4) eo_none (eo_some ev_int)) (l_cons (ev_slice (ev_var 4) eo_none (eo_some ev_int)) l_nil)))))))))))))
theorem ok__law_named (G : Gx c.κ mg) (C__law_stem : Cal P w K mg base c "_law_stem" 1 2 Φ__law_stem []) {f : Addr} {fd : FuncData} (F : FunD K "_law_named" "_law_named" (defArgs s__law_named) (defBody s__law_named) (defScope s__law_named) [] [] f fd) : FnOk P w K mg base (L2.CX P w) 2 f fd ["_law_cell"] (SpD c 1 Φ__law_named) :=
  fnd_ok F sc__law_named fun cdv A outer s H E hr => eb__law_named G C__law_stem f cdv A outer s H E hr
theorem cal__law_named (G : Gx c.κ mg) (C__law_stem : Cal P w K mg base c "_law_stem" 1 2 Φ__law_stem []) {f : Addr} {fd : FuncData} (F : FunD K "_law_named" "_law_named" (defArgs s__law_named) (defBody s__law_named) (defScope s__law_named) [] [] f fd) (hm : mg "_law_named" = some (.ref f)) : Cal P w K mg base c "_law_named" 2 1 Φ__law_named [] :=
  cal_mk (ps := ["_law_cell"]) F hm (ok__law_named G C__law_stem F) fun _ _ _ _ _ _ us hl => match us, hl with | [_], _ => rfl
theorem sc__law_mix : FnScope N__law_mix ["_law_cell", "_law_k"] (defScope s__law_mix) := ⟨rfl, rfl, rfl, by decide +kernel, rfl, by decide +kernel, by decide +kernel⟩
set_option maxHeartbeats 4000000 in
theorem eb__law_mix (G : Gx c.κ mg) (f : Addr) (cdv : Value) (A : Around) (outer : List PySem.Env) (s : Shared) (H : Hp) (E : XK) (hr : Room 0 (A.deeper (envOfC "_law_mix" (defScope s__law_mix) s.heap.objs.size f cdv))) :
    EB (cxOf (L2.CX P w) P w K mg base N__law_mix "_law_mix" (defScope s__law_mix) f cdv A outer s H E) c E (defBody s__law_mix) g__law_mix := by
  have hx : Passes (L2.CX P w) (cxOf (L2.CX P w) P w K mg base N__law_mix "_law_mix" (defScope s__law_mix) f cdv A outer s H E) E := passes_call (takes_of rfl rfl rfl rfl) (fun _ _ _ _ z => z)
  exact (eb_one (es_ret (ev_div (ev_mod (ev_add (ev_add (ev_mul (ev_mod (ev_var 0) (ev_pow ev_int ev_int)) (ev_add (ev_mul (ev_var 1) (ev_var 1)) ev_int)) (ev_mul (ev_mul (ev_mul ev_int (ev_var 1)) (ev_var 1)) (ev_var 1))) ev_int) ev_int) ev_int)))
theorem ok__law_mix (G : Gx c.κ mg) {f : Addr} {fd : FuncData} (F : FunD K "_law_mix" "_law_mix" (defArgs s__law_mix) (defBody s__law_mix) (defScope s__law_mix) [] [] f fd) : FnOk P w K mg base (L2.CX P w) 1 f fd ["_law_cell", "_law_k"] (SpD c 2 Φ__law_mix) :=
  fnd_ok F sc__law_mix fun cdv A outer s H E hr => eb__law_mix G  f cdv A outer s H E hr
theorem cal__law_mix (G : Gx c.κ mg) {f : Addr} {fd : FuncData} (F : FunD K "_law_mix" "_law_mix" (defArgs s__law_mix) (defBody s__law_mix) (defScope s__law_mix) [] [] f fd) (hm : mg "_law_mix" = some (.ref f)) : Cal P w K mg base c "_law_mix" 1 2 Φ__law_mix [] :=
  cal_mk (ps := ["_law_cell", "_law_k"]) F hm (ok__law_mix G  F) fun _ _ _ _ _ _ us hl => match us, hl with | [_, _], _ => rfl
theorem sc__law_pins : FnScope N__law_pins ["_law_words", "_law_cells", "_law_seed", "_law_width"] (defScope s__law_pins) := ⟨rfl, rfl, rfl, by decide +kernel, rfl, by decide +kernel, by decide +kernel⟩
set_option maxHeartbeats 4000000 in
theorem eb__law_pins (G : Gx c.κ mg) (C__law_mix : Cal P w K mg base c "_law_mix" 1 2 Φ__law_mix []) (f : Addr) (cdv : Value) (A : Around) (outer : List PySem.Env) (s : Shared) (H : Hp) (E : XK) (hr : Room 1 (A.deeper (envOfC "_law_pins" (defScope s__law_pins) s.heap.objs.size f cdv))) :
    EB (cxOf (L2.CX P w) P w K mg base N__law_pins "_law_pins" (defScope s__law_pins) f cdv A outer s H E) c E (defBody s__law_pins) g__law_pins := by
  have hx : Passes (L2.CX P w) (cxOf (L2.CX P w) P w K mg base N__law_pins "_law_pins" (defScope s__law_pins) f cdv A outer s H E) E := passes_call (takes_of rfl rfl rfl rfl) (fun _ _ _ _ z => z)
  exact (eb_cons (es_set 4 (ev_lst l_nil) sc__law_pins.nd) (eb_cons (es_set 5 (ev_lst l_nil) sc__law_pins.nd) (eb_cons (es_for [6, 7, 8, 9, 10] (passes_of rfl) rfl (eys_of (ey_range1 rfl G.f_range (l_cons (ev_var 3) l_nil))) (eg_name 6 sc__law_pins.nd) (eb_cons (es_set 7 (ev_lst l_nil) sc__law_pins.nd) (eb_cons (es_for [8, 9, 10] (passes_of rfl) rfl (eys_of (ey_range1 rfl G.f_range (l_cons ev_int l_nil))) (eg_name 8 sc__law_pins.nd) (eb_cons (es_set 9 (ev_add (ev_mul ev_int (ev_var 6)) (ev_var 8)) sc__law_pins.nd) (eb_cons (es_set 10 (ev_callC C__law_mix (hr.mono (by decide)) rfl hx (l_cons (ev_var 2) (l_cons (ev_var 9) l_nil))) sc__law_pins.nd) (eb_cons (es_if (et_lt (ev_var 9) (ev_len rfl G.f_len (l_cons (ev_var 1) l_nil))) (eb_one (es_set 10 (ev_callC C__law_mix (hr.mono (by decide)) rfl hx (l_cons (ev_sub_ (ev_var 1) (ev_var 9)) (l_cons (ev_var 9) l_nil))) sc__law_pins.nd)) eb_nil) (eb_one (es_app 7 (ev_sub_ (ev_lst (l_cons (ev_sub_ (ev_var 0) (ev_mod (ev_var 10) ev_int)) (l_cons (ev_sub_ (ev_var 0) (ev_mod (ev_div (ev_var 10) ev_int) ev_int)) (l_cons (ev_sub_ (ev_var 0) (ev_mod (ev_div (ev_var 10) ev_int) ev_int)) (l_cons ev_non l_nil))))) (ev_mod (ev_div (ev_var 10) ev_int) ev_int)))))))) (eb_cons (es_app 4 (ev_sub_ (ev_var 7) ev_int)) (eb_one (es_app 5 (ev_sub_ (ev_var 7) ev_int))))))) (eb_one (es_frz 5 (es_frz 4 (es_ret (ev_tup (l_cons (ev_var 4) (l_cons (ev_var 5) l_nil))))))))))
theorem ok__law_pins (G : Gx c.κ mg) (C__law_mix : Cal P w K mg base c "_law_mix" 1 2 Φ__law_mix []) {f : Addr} {fd : FuncData} (F : FunD K "_law_pins" "_law_pins" (defArgs s__law_pins) (defBody s__law_pins) (defScope s__law_pins) [] [] f fd) : FnOk P w K mg base (L2.CX P w) 2 f fd ["_law_words", "_law_cells", "_law_seed", "_law_width"] (SpD c 4 Ψ__law_pins) :=
  FnOk.eqv (Φ := Φ__law_pins) (fnd_ok F sc__law_pins fun cdv A outer s H E hr => eb__law_pins G C__law_mix f cdv A outer s H E hr) ps__law_pins
theorem cal__law_pins (G : Gx c.κ mg) (C__law_mix : Cal P w K mg base c "_law_mix" 1 2 Φ__law_mix []) {f : Addr} {fd : FuncData} (F : FunD K "_law_pins" "_law_pins" (defArgs s__law_pins) (defBody s__law_pins) (defScope s__law_pins) [] [] f fd) (hm : mg "_law_pins" = some (.ref f)) : Cal P w K mg base c "_law_pins" 2 4 Ψ__law_pins [] :=
  cal_mk (ps := ["_law_words", "_law_cells", "_law_seed", "_law_width"]) F hm (ok__law_pins G C__law_mix F) fun _ _ _ _ _ _ us hl => match us, hl with | [_, _, _, _], _ => rfl
theorem sc__law_many : FnScope N__law_many ["_law_top", "_law_bottom", "_law_left", "_law_right", "_law_word"] (defScope s__law_many) := ⟨rfl, rfl, rfl, by decide +kernel, rfl, by decide +kernel, by decide +kernel⟩
set_option maxHeartbeats 4000000 in
theorem eb__law_many (G : Gx c.κ mg) (f : Addr) (cdv : Value) (A : Around) (outer : List PySem.Env) (s : Shared) (H : Hp) (E : XK) (hr : Room 0 (A.deeper (envOfC "_law_many" (defScope s__law_many) s.heap.objs.size f cdv))) :
    EB (cxOf (L2.CX P w) P w K mg base N__law_many "_law_many" (defScope s__law_many) f cdv A outer s H E) c E (defBody s__law_many) g__law_many := by
  have hx : Passes (L2.CX P w) (cxOf (L2.CX P w) P w K mg base N__law_many "_law_many" (defScope s__law_many) f cdv A outer s H E) E := passes_call (takes_of rfl rfl rfl rfl) (fun _ _ _ _ z => z)
  exact (eb_cons (es_set 5 (ev_add (ev_add (ev_add (ev_var 0) (ev_var 1)) (ev_var 2)) (ev_var 3)) sc__law_many.nd) (eb_one (es_ret (ev_count (hu65 hr) (ev_var 5) (ev_var 4)))))
theorem ok__law_many (G : Gx c.κ mg) {f : Addr} {fd : FuncData} (F : FunD K "_law_many" "_law_many" (defArgs s__law_many) (defBody s__law_many) (defScope s__law_many) [] [] f fd) : FnOk P w K mg base (L2.CX P w) 1 f fd ["_law_top", "_law_bottom", "_law_left", "_law_right", "_law_word"] (SpD c 5 Ψ__law_many) :=
  FnOk.eqv (Φ := Φ__law_many) (fnd_ok F sc__law_many fun cdv A outer s H E hr => eb__law_many G  f cdv A outer s H E hr) ps__law_many
theorem cal__law_many (G : Gx c.κ mg) {f : Addr} {fd : FuncData} (F : FunD K "_law_many" "_law_many" (defArgs s__law_many) (defBody s__law_many) (defScope s__law_many) [] [] f fd) (hm : mg "_law_many" = some (.ref f)) : Cal P w K mg base c "_law_many" 1 5 Ψ__law_many [] :=
  cal_mk (ps := ["_law_top", "_law_bottom", "_law_left", "_law_right", "_law_word"]) F hm (ok__law_many G  F) fun _ _ _ _ _ _ us hl => match us, hl with | [_, _, _, _, _], _ => rfl
theorem sc__law_stretch : FnScope N__law_stretch ["_law_top", "_law_bottom", "_law_left", "_law_right", "_law_word"] (defScope s__law_stretch) := ⟨rfl, rfl, rfl, by decide +kernel, rfl, by decide +kernel, by decide +kernel⟩
set_option maxHeartbeats 4000000 in
theorem eb__law_stretch (G : Gx c.κ mg) (f : Addr) (cdv : Value) (A : Around) (outer : List PySem.Env) (s : Shared) (H : Hp) (E : XK) (hr : Room 0 (A.deeper (envOfC "_law_stretch" (defScope s__law_stretch) s.heap.objs.size f cdv))) :
    EB (cxOf (L2.CX P w) P w K mg base N__law_stretch "_law_stretch" (defScope s__law_stretch) f cdv A outer s H E) c E (defBody s__law_stretch) g__law_stretch := by
  have hx : Passes (L2.CX P w) (cxOf (L2.CX P w) P w K mg base N__law_stretch "_law_stretch" (defScope s__law_stretch) f cdv A outer s H E) E := passes_call (takes_of rfl rfl rfl rfl) (fun _ _ _ _ z => z)
  exact (eb_cons (es_lc 5 (own := [("_law_c", 6)]) rfl sc__law_stretch.nd rfl (sw_true rfl rfl rfl (by decide +kernel)) (ey_range1 rfl G.f_range (l_cons (ev_len rfl G.f_len (l_cons (ev_var 0) l_nil)) l_nil)) (blkOk_by (own := [("_law_c", 6)]) (N := N__law_stretch) (sc := defScope s__law_stretch) (by decide +kernel)) (fun _ _ _ _ _ => (eg_nameC 6 sc__law_stretch.nd)) (fun _ _ _ _ _ => (ets_one (et_in1 (ev_var 4) (ev_lst (l_cons (ev_sub_ (ev_var 0) (ev_var 6)) (l_cons (ev_sub_ (ev_var 1) (ev_var 6)) l_nil)))))) (fun _ _ _ _ _ => (ev_var 6))) (eb_cons (es_if (et_in1 (ev_var 4) (ev_var 2)) (eb_one (es_app 5 (ev_neg ev_int))) eb_nil) (eb_cons (es_if (et_in1 (ev_var 4) (ev_var 3)) (eb_one (es_app 5 (ev_len rfl G.f_len (l_cons (ev_var 0) l_nil)))) eb_nil) (eb_one (es_ret (ev_tup (l_cons (ev_min rfl rfl G.f_min (l_cons (ev_add (ev_var 5) (ev_lst (l_cons ev_int l_nil))) l_nil)) (l_cons (ev_max rfl rfl G.f_max (l_cons (ev_add (ev_var 5) (ev_lst (l_cons (ev_neg ev_int) l_nil))) l_nil)) l_nil))))))))
theorem ok__law_stretch (G : Gx c.κ mg) {f : Addr} {fd : FuncData} (F : FunD K "_law_stretch" "_law_stretch" (defArgs s__law_stretch) (defBody s__law_stretch) (defScope s__law_stretch) [] [] f fd) : FnOk P w K mg base (L2.CX P w) 1 f fd ["_law_top", "_law_bottom", "_law_left", "_law_right", "_law_word"] (SpD c 5 Ψ__law_stretch) :=
  FnOk.eqv (Φ := Φ__law_stretch) (fnd_ok F sc__law_stretch fun cdv A outer s H E hr => eb__law_stretch G  f cdv A outer s H E hr) ps__law_stretch
theorem cal__law_stretch (G : Gx c.κ mg) {f : Addr} {fd : FuncData} (F : FunD K "_law_stretch" "_law_stretch" (defArgs s__law_stretch) (defBody s__law_stretch) (defScope s__law_stretch) [] [] f fd) (hm : mg "_law_stretch" = some (.ref f)) : Cal P w K mg base c "_law_stretch" 1 5 Ψ__law_stretch [] :=
  cal_mk (ps := ["_law_top", "_law_bottom", "_law_left", "_law_right", "_law_word"]) F hm (ok__law_stretch G  F) fun _ _ _ _ _ _ us hl => match us, hl with | [_, _, _, _, _], _ => rfl
theorem sc__law_bends : FnScope N__law_bends ["_law_lists", "_law_words", "_law_cells", "_law_seed"] (defScope s__law_bends) := ⟨rfl, rfl, rfl, by decide +kernel, rfl, by decide +kernel, by decide +kernel⟩
set_option maxHeartbeats 4000000 in
theorem eb__law_bends (G : Gx c.κ mg) (C__law_mix : Cal P w K mg base c "_law_mix" 1 2 Φ__law_mix []) (C__law_stretch : Cal P w K mg base c "_law_stretch" 1 5 Ψ__law_stretch []) (f : Addr) (cdv : Value) (A : Around) (outer : List PySem.Env) (s : Shared) (H : Hp) (E : XK) (hr : Room 1 (A.deeper (envOfC "_law_bends" (defScope s__law_bends) s.heap.objs.size f cdv))) :
    EB (cxOf (L2.CX P w) P w K mg base N__law_bends "_law_bends" (defScope s__law_bends) f cdv A outer s H E) c E (defBody s__law_bends) g__law_bends := by
  have hx : Passes (L2.CX P w) (cxOf (L2.CX P w) P w K mg base N__law_bends "_law_bends" (defScope s__law_bends) f cdv A outer s H E) E := passes_call (takes_of rfl rfl rfl rfl) (fun _ _ _ _ z => z)
  exact (eb_cons (es_asg (ev_var 0) (eg_tup rfl (egs_cons (eg_name 4 sc__law_bends.nd) (egs_cons (eg_name 5 sc__law_bends.nd) (egs_cons (eg_name 6 sc__law_bends.nd) (egs_cons (eg_name 7 sc__law_bends.nd) egs_nil)))))) (eb_cons (es_set 8 (ev_lst l_nil) sc__law_bends.nd) (eb_cons (es_for [9, 10, 11, 12, 13, 14] (passes_of rfl) rfl (eys_of (ey_range1 rfl G.f_range (l_cons (ev_len rfl G.f_len (l_cons (ev_var 4) l_nil)) l_nil))) (eg_name 9 sc__law_bends.nd) (eb_cons (es_set 10 (ev_callC C__law_mix (hr.mono (by decide)) rfl hx (l_cons (ev_sub_ (ev_add (ev_var 2) (ev_lst (l_cons (ev_var 3) l_nil))) (ev_mod (ev_var 9) (ev_add (ev_len rfl G.f_len (l_cons (ev_var 2) l_nil)) ev_int))) (l_cons (ev_add (ev_var 9) ev_int) l_nil))) sc__law_bends.nd) (eb_cons (es_set 11 (ev_sub_ (ev_var 1) (ev_mod (ev_var 10) ev_int)) sc__law_bends.nd) (eb_cons (es_if (et_w (ew_and (et_eq (hu64 hr) (ev_mod (ev_div (ev_var 10) ev_int) ev_int) ev_int) (ew_and1 (et_notN (ev_sub_ (ev_var 4) (ev_var 9)))))) (eb_one (es_set 11 (ev_sub_ (ev_var 4) (ev_var 9)) sc__law_bends.nd)) eb_nil) (eb_cons (es_asg (ev_callC C__law_stretch (hr.mono (by decide)) rfl hx (l_cons (ev_var 4) (l_cons (ev_var 5) (l_cons (ev_var 6) (l_cons (ev_var 7) (l_cons (ev_var 11) l_nil)))))) (eg_tup rfl (egs_cons (eg_name 12 sc__law_bends.nd) (egs_cons (eg_name 13 sc__law_bends.nd) egs_nil)))) (eb_cons (es_lc 14 (own := [("_law_x", 15)]) rfl sc__law_bends.nd rfl (sw_true rfl rfl rfl (by decide +kernel)) (ey_val (ev_lst (l_cons (ev_sub_ (ev_var 4) (ev_var 9)) (l_cons (ev_sub_ (ev_var 5) (ev_var 9)) l_nil)))) (blkOk_by (own := [("_law_x", 15)]) (N := N__law_bends) (sc := defScope s__law_bends) (by decide +kernel)) (fun _ _ _ _ _ => (eg_nameC 15 sc__law_bends.nd)) (fun _ _ _ _ _ => (ets_one (et_notN (ev_var 15)))) (fun _ _ _ _ _ => (ev_var 15))) (eb_one (es_if (et_w (ew_and (et_lt (ev_var 12) (ev_var 9)) (ew_and (et_lt (ev_var 9) (ev_var 13)) (ew_and (et_w (ew_or (et_eq (hu64 hr) (ev_var 14) (ev_lst l_nil)) (ew_or1 (et_in1 (ev_var 11) (ev_var 14))))) (ew_and1 (et_gt (ev_mod (ev_div (ev_var 10) ev_int) ev_int) ev_int)))))) (eb_one (es_app 8 (ev_tup (l_cons (ev_var 9) (l_cons (ev_var 11) l_nil))))) eb_nil)))))))) (eb_one (es_retV 8)))))
theorem ok__law_bends (G : Gx c.κ mg) (C__law_mix : Cal P w K mg base c "_law_mix" 1 2 Φ__law_mix []) (C__law_stretch : Cal P w K mg base c "_law_stretch" 1 5 Ψ__law_stretch []) {f : Addr} {fd : FuncData} (F : FunD K "_law_bends" "_law_bends" (defArgs s__law_bends) (defBody s__law_bends) (defScope s__law_bends) [] [] f fd) : FnOk P w K mg base (L2.CX P w) 2 f fd ["_law_lists", "_law_words", "_law_cells", "_law_seed"] (SpD c 4 Ψ__law_bends) :=
  FnOk.eqv (Φ := Φ__law_bends) (fnd_ok F sc__law_bends fun cdv A outer s H E hr => eb__law_bends G C__law_mix C__law_stretch f cdv A outer s H E hr) ps__law_bends
theorem cal__law_bends (G : Gx c.κ mg) (C__law_mix : Cal P w K mg base c "_law_mix" 1 2 Φ__law_mix []) (C__law_stretch : Cal P w K mg base c "_law_stretch" 1 5 Ψ__law_stretch []) {f : Addr} {fd : FuncData} (F : FunD K "_law_bends" "_law_bends" (defArgs s__law_bends) (defBody s__law_bends) (defScope s__law_bends) [] [] f fd) (hm : mg "_law_bends" = some (.ref f)) : Cal P w K mg base c "_law_bends" 2 4 Ψ__law_bends [] :=
  cal_mk (ps := ["_law_lists", "_law_words", "_law_cells", "_law_seed"]) F hm (ok__law_bends G C__law_mix C__law_stretch F) fun _ _ _ _ _ _ us hl => match us, hl with | [_, _, _, _], _ => rfl
theorem sc__law_keeps : FnScope N__law_keeps ["_law_width", "_law_cells", "_law_seed"] (defScope s__law_keeps) := ⟨rfl, rfl, rfl, by decide +kernel, rfl, by decide +kernel, by decide +kernel⟩
set_option maxHeartbeats 4000000 in
theorem eb__law_keeps (G : Gx c.κ mg) (C__law_mix : Cal P w K mg base c "_law_mix" 1 2 Φ__law_mix []) (f : Addr) (cdv : Value) (A : Around) (outer : List PySem.Env) (s : Shared) (H : Hp) (E : XK) (hr : Room 1 (A.deeper (envOfC "_law_keeps" (defScope s__law_keeps) s.heap.objs.size f cdv))) :
    EB (cxOf (L2.CX P w) P w K mg base N__law_keeps "_law_keeps" (defScope s__law_keeps) f cdv A outer s H E) c E (defBody s__law_keeps) g__law_keeps := by
  have hx : Passes (L2.CX P w) (cxOf (L2.CX P w) P w K mg base N__law_keeps "_law_keeps" (defScope s__law_keeps) f cdv A outer s H E) E := passes_call (takes_of rfl rfl rfl rfl) (fun _ _ _ _ z => z)
  exact (eb_cons (es_set 3 (ev_lst l_nil) sc__law_keeps.nd) (eb_cons (es_for [4, 5, 6, 7] (passes_of rfl) rfl (eys_of (ey_enum rfl G.f_enumerate (l_cons (ev_slice (ev_var 1) eo_none (eo_some ev_int)) l_nil))) (eg_tup rfl (egs_cons (eg_name 4 sc__law_keeps.nd) (egs_cons (eg_name 5 sc__law_keeps.nd) egs_nil))) (eb_cons (es_set 6 (ev_callC C__law_mix (hr.mono (by decide)) rfl hx (l_cons (ev_add (ev_var 5) (ev_var 2)) (l_cons (ev_add (ev_var 4) ev_int) l_nil))) sc__law_keeps.nd) (eb_cons (es_set 7 (ev_mod (ev_var 6) (ev_var 0)) sc__law_keeps.nd) (eb_one (es_if (et_eq (hu64 hr) (ev_mod (ev_div (ev_var 6) ev_int) ev_int) ev_int) (eb_one (es_app 3 (ev_tup (l_cons (ev_var 7) (l_cons (ev_add (ev_var 7) (ev_mod (ev_div (ev_var 6) ev_int) (ev_sub (ev_var 0) (ev_var 7)))) (l_cons (ev_add ev_int (ev_mod (ev_div (ev_var 6) ev_int) ev_int)) l_nil)))))) eb_nil))))) (eb_one (es_retV 3))))
theorem ok__law_keeps (G : Gx c.κ mg) (C__law_mix : Cal P w K mg base c "_law_mix" 1 2 Φ__law_mix []) {f : Addr} {fd : FuncData} (F : FunD K "_law_keeps" "_law_keeps" (defArgs s__law_keeps) (defBody s__law_keeps) (defScope s__law_keeps) [] [] f fd) : FnOk P w K mg base (L2.CX P w) 2 f fd ["_law_width", "_law_cells", "_law_seed"] (SpD c 3 Ψ__law_keeps) :=
  FnOk.eqv (Φ := Φ__law_keeps) (fnd_ok F sc__law_keeps fun cdv A outer s H E hr => eb__law_keeps G C__law_mix f cdv A outer s H E hr) ps__law_keeps
theorem cal__law_keeps (G : Gx c.κ mg) (C__law_mix : Cal P w K mg base c "_law_mix" 1 2 Φ__law_mix []) {f : Addr} {fd : FuncData} (F : FunD K "_law_keeps" "_law_keeps" (defArgs s__law_keeps) (defBody s__law_keeps) (defScope s__law_keeps) [] [] f fd) (hm : mg "_law_keeps" = some (.ref f)) : Cal P w K mg base c "_law_keeps" 2 3 Ψ__law_keeps [] :=
  cal_mk (ps := ["_law_width", "_law_cells", "_law_seed"]) F hm (ok__law_keeps G C__law_mix F) fun _ _ _ _ _ _ us hl => match us, hl with | [_, _, _], _ => rfl
theorem sc__law_open : FnScope N__law_open ["_law_words", "_law_bits"] (defScope s__law_open) := ⟨rfl, rfl, rfl, by decide +kernel, rfl, by decide +kernel, by decide +kernel⟩
set_option maxHeartbeats 4000000 in
theorem eb__law_open (G : Gx c.κ mg) (f : Addr) (cdv : Value) (A : Around) (outer : List PySem.Env) (s : Shared) (H : Hp) (E : XK) (hr : Room 0 (A.deeper (envOfC "_law_open" (defScope s__law_open) s.heap.objs.size f cdv))) :
    EB (cxOf (L2.CX P w) P w K mg base N__law_open "_law_open" (defScope s__law_open) f cdv A outer s H E) c E (defBody s__law_open) g__law_open := by
  have hx : Passes (L2.CX P w) (cxOf (L2.CX P w) P w K mg base N__law_open "_law_open" (defScope s__law_open) f cdv A outer s H E) E := passes_call (takes_of rfl rfl rfl rfl) (fun _ _ _ _ z => z)
  exact (eb_cons (es_if (et_eq (hu64 hr) (ev_mod (ev_div (ev_var 1) ev_int) ev_int) ev_int) (eb_one (es_ret (ev_lst l_nil))) eb_nil) (eb_one (es_ret (ev_sorted (hu64 hr) rfl G.f_sorted (l_cons (ev_lc (own := [("_law_k", 2)]) rfl sc__law_open.nd (ey_range1 rfl G.f_range (l_cons ev_int l_nil)) (blkOk_by (own := [("_law_k", 2)]) (N := N__law_open) (sc := defScope s__law_open) (by decide +kernel)) (fun _ _ _ _ _ => (eg_nameC 2 sc__law_open.nd)) (fun _ _ _ _ _ => (ets_one (et_eq (hu64 hr) (ev_mod (ev_div (ev_var 1) (ev_sub_ (ev_lst (l_cons ev_int (l_cons ev_int (l_cons ev_int (l_cons ev_int (l_cons ev_int (l_cons ev_int (l_cons ev_int (l_cons ev_int l_nil))))))))) (ev_var 2))) ev_int) ev_int))) (fun _ _ _ _ _ => (ev_sub_ (ev_var 0) (ev_var 2)))) l_nil)))))
theorem ok__law_open (G : Gx c.κ mg) {f : Addr} {fd : FuncData} (F : FunD K "_law_open" "_law_open" (defArgs s__law_open) (defBody s__law_open) (defScope s__law_open) [] [] f fd) : FnOk P w K mg base (L2.CX P w) 1 f fd ["_law_words", "_law_bits"] (SpD c 2 Ψ__law_open) :=
  FnOk.eqv (Φ := Φ__law_open) (fnd_ok F sc__law_open fun cdv A outer s H E hr => eb__law_open G  f cdv A outer s H E hr) ps__law_open
theorem cal__law_open (G : Gx c.κ mg) {f : Addr} {fd : FuncData} (F : FunD K "_law_open" "_law_open" (defArgs s__law_open) (defBody s__law_open) (defScope s__law_open) [] [] f fd) (hm : mg "_law_open" = some (.ref f)) : Cal P w K mg base c "_law_open" 1 2 Ψ__law_open [] :=
  cal_mk (ps := ["_law_words", "_law_bits"]) F hm (ok__law_open G  F) fun _ _ _ _ _ _ us hl => match us, hl with | [_, _], _ => rfl
theorem sc__law_channel : FnScope N__law_channel_v2 ["_law_script", "_law_most"] (defScope s__law_channel) := ⟨rfl, rfl, rfl, by decide +kernel, rfl, by decide +kernel, by decide +kernel⟩
set_option maxHeartbeats 4000000 in
theorem eb__law_channel (G : Gx c.κ mg) (C__law_bends : Cal P w K mg base c "_law_bends" 2 4 Ψ__law_bends []) (C__law_keeps : Cal P w K mg base c "_law_keeps" 2 3 Ψ__law_keeps []) (C__law_many : Cal P w K mg base c "_law_many" 1 5 Ψ__law_many []) (C__law_mix : Cal P w K mg base c "_law_mix" 1 2 Φ__law_mix []) (C__law_named : Cal P w K mg base c "_law_named" 2 1 Φ__law_named []) (C__law_open : Cal P w K mg base c "_law_open" 1 2 Ψ__law_open []) (C__law_pins : Cal P w K mg base c "_law_pins" 2 4 Ψ__law_pins []) (f : Addr) (cdv : Value) (A : Around) (outer : List PySem.Env) (s : Shared) (H : Hp) (E : XK) (hr : Room 2 (A.deeper (envOfC "_law_channel" (defScope s__law_channel) s.heap.objs.size f cdv))) :
    EB (cxOf (L2.CX P w) P w K mg base N__law_channel_v2 "_law_channel" (defScope s__law_channel) f cdv A outer s H E) c E (defBody s__law_channel) g__law_channel_v2 := by
  have hx : Passes (L2.CX P w) (cxOf (L2.CX P w) P w K mg base N__law_channel_v2 "_law_channel" (defScope s__law_channel) f cdv A outer s H E) E := passes_call (takes_of rfl rfl rfl rfl) (fun _ _ _ _ z => z)
  exact (eb_cons (es_set 2 (ev_mod (ev_mul (ev_mod (ev_sum rfl rfl G.f_sum (l_cons (ev_slice (ev_var 0) eo_none (eo_some ev_int)) l_nil)) (ev_pow ev_int ev_int)) ev_int) ev_int) sc__law_channel.nd) (eb_cons (es_set 3 (ev_callC C__law_named (hr.mono (by decide)) rfl hx (l_cons (ev_sum rfl rfl G.f_sum (l_cons (ev_slice (ev_var 0) eo_none (eo_some ev_int)) l_nil)) l_nil)) sc__law_channel.nd) (eb_cons (es_set 4 (ev_add ev_int (ev_mod (ev_var 2) (ev_var 1))) sc__law_channel.nd) (eb_cons (es_set 5 (ev_slice (ev_var 0) (eo_some ev_int) eo_none) sc__law_channel.nd) (eb_cons (es_frz 5 (es_frz 3 (es_asg (ev_callC C__law_pins (hr.mono (by decide)) rfl hx (l_cons (ev_var 3) (l_cons (ev_var 5) (l_cons (ev_var 2) (l_cons (ev_var 4) l_nil))))) (eg_tup rfl (egs_cons (eg_name 6 sc__law_channel.nd) (egs_cons (eg_name 7 sc__law_channel.nd) egs_nil)))))) (eb_cons (es_set 8 (ev_callC C__law_mix (hr.mono (by decide)) rfl hx (l_cons (ev_sum rfl rfl G.f_sum (l_cons (ev_slice (ev_var 0) (eo_some ev_int) (eo_some ev_int)) l_nil)) (l_cons (ev_add ev_int (ev_mod (ev_var 2) ev_int)) l_nil))) sc__law_channel.nd) (eb_cons (es_frz 3 (es_set 9 (ev_callC C__law_open (hr.mono (by decide)) rfl hx (l_cons (ev_var 3) (l_cons (ev_var 8) l_nil))) sc__law_channel.nd)) (eb_cons (es_frz 3 (es_set 10 (ev_callC C__law_open (hr.mono (by decide)) rfl hx (l_cons (ev_var 3) (l_cons (ev_div (ev_var 8) ev_int) l_nil))) sc__law_channel.nd)) (eb_cons (es_frz 10 (es_frz 9 (es_frz 7 (es_frz 6 (es_set 11 (ev_lc (own := [("_law_word", 14)]) rfl sc__law_channel.nd (ey_val (ev_var 3)) (blkOk_by (own := [("_law_word", 14)]) (N := N__law_channel_v2) (sc := defScope s__law_channel) (by decide +kernel)) (fun _ _ _ _ _ => (eg_nameC 14 sc__law_channel.nd)) (fun _ _ _ _ _ => (ets_one (et_eq (hu64 hr) (ev_callC C__law_many (hr.mono (by decide)) rfl passL (l_cons (ev_var 6) (l_cons (ev_var 7) (l_cons (ev_var 9) (l_cons (ev_var 10) (l_cons (ev_var 14) l_nil)))))) ev_int))) (fun _ _ _ _ _ => (ev_var 14))) sc__law_channel.nd))))) (eb_cons (es_set 6 (ev_lc (own := [("_law_word", 14)]) rfl sc__law_channel.nd (ey_val (ev_var 6)) (blkOk_by (own := [("_law_word", 14)]) (N := N__law_channel_v2) (sc := defScope s__law_channel) (by decide +kernel)) (fun _ _ _ _ _ => (eg_nameC 14 sc__law_channel.nd)) (fun _ _ _ _ _ => ets_nil) (fun _ _ _ _ _ => (ev_if (et_in1 (ev_var 14) (ev_var 11)) ev_non (ev_var 14)))) sc__law_channel.nd) (eb_cons (es_set 7 (ev_lc (own := [("_law_word", 14)]) rfl sc__law_channel.nd (ey_val (ev_var 7)) (blkOk_by (own := [("_law_word", 14)]) (N := N__law_channel_v2) (sc := defScope s__law_channel) (by decide +kernel)) (fun _ _ _ _ _ => (eg_nameC 14 sc__law_channel.nd)) (fun _ _ _ _ _ => ets_nil) (fun _ _ _ _ _ => (ev_if (et_in1 (ev_var 14) (ev_var 11)) ev_non (ev_var 14)))) sc__law_channel.nd) (eb_cons (es_set 9 (ev_lc (own := [("_law_word", 14)]) rfl sc__law_channel.nd (ey_val (ev_var 9)) (blkOk_by (own := [("_law_word", 14)]) (N := N__law_channel_v2) (sc := defScope s__law_channel) (by decide +kernel)) (fun _ _ _ _ _ => (eg_nameC 14 sc__law_channel.nd)) (fun _ _ _ _ _ => (ets_one (et_in0 (ev_var 14) (ev_var 11)))) (fun _ _ _ _ _ => (ev_var 14))) sc__law_channel.nd) (eb_cons (es_set 10 (ev_lc (own := [("_law_word", 14)]) rfl sc__law_channel.nd (ey_val (ev_var 10)) (blkOk_by (own := [("_law_word", 14)]) (N := N__law_channel_v2) (sc := defScope s__law_channel) (by decide +kernel)) (fun _ _ _ _ _ => (eg_nameC 14 sc__law_channel.nd)) (fun _ _ _ _ _ => (ets_one (et_in0 (ev_var 14) (ev_var 11)))) (fun _ _ _ _ _ => (ev_var 14))) sc__law_channel.nd) (eb_cons (es_set 12 (ev_lst l_nil) sc__law_channel.nd) (eb_cons (es_frz 10 (es_frz 9 (es_frz 7 (es_frz 6 (es_for [13, 14, 15] (passes_of rfl) rfl (eys_of (ey_enum rfl G.f_enumerate (l_cons (ev_sorted (hu64 hr) rfl G.f_sorted (l_cons (ev_var 3) l_nil)) l_nil))) (eg_tup rfl (egs_cons (eg_name 13 sc__law_channel.nd) (egs_cons (eg_name 14 sc__law_channel.nd) egs_nil))) (eb_cons (es_set 15 (ev_callC C__law_mix (hr.mono (by decide)) rfl hx (l_cons (ev_add (ev_var 2) (ev_var 13)) (l_cons ev_int l_nil))) sc__law_channel.nd) (eb_one (es_if (et_w (ew_and (et_eq (hu64 hr) (ev_mod (ev_var 15) ev_int) ev_int) (ew_and1 (et_gt (ev_callC C__law_many (hr.mono (by decide)) rfl hx (l_cons (ev_var 6) (l_cons (ev_var 7) (l_cons (ev_var 9) (l_cons (ev_var 10) (l_cons (ev_var 14) l_nil)))))) ev_int)))) (eb_one (es_app 12 (ev_tup (l_cons (ev_var 14) (l_cons (ev_add ev_int (ev_mod (ev_div (ev_var 15) ev_int) ev_int)) l_nil))))) eb_nil)))))))) (eb_cons (es_frz 10 (es_frz 9 (es_frz 7 (es_frz 6 (es_frz 5 (es_frz 3 (es_set 16 (ev_callC C__law_bends (hr.mono (by decide)) rfl hx (l_cons (ev_lst (l_cons (ev_var 6) (l_cons (ev_var 7) (l_cons (ev_var 9) (l_cons (ev_var 10) l_nil))))) (l_cons (ev_var 3) (l_cons (ev_var 5) (l_cons (ev_var 2) l_nil))))) sc__law_channel.nd))))))) (eb_cons (es_set 17 (ev_lst l_nil) sc__law_channel.nd) (eb_cons (es_if (et_eq (hu64 hr) (ev_mod (ev_div (ev_var 2) ev_int) ev_int) ev_int) (eb_one (es_frz 5 (es_set 17 (ev_callC C__law_keeps (hr.mono (by decide)) rfl hx (l_cons (ev_var 4) (l_cons (ev_var 5) (l_cons (ev_var 2) l_nil)))) sc__law_channel.nd))) eb_nil) (eb_one (es_frz 17 (es_frz 16 (es_frz 12 (es_frz 10 (es_frz 9 (es_frz 7 (es_frz 6 (es_ret (ev_lst (l_cons (ev_var 6) (l_cons (ev_var 7) (l_cons (ev_var 9) (l_cons (ev_var 10) (l_cons (ev_var 12) (l_cons (ev_var 16) (l_cons (ev_var 17) l_nil)))))))))))))))))))))))))))))))))))
theorem ok__law_channel (G : Gx c.κ mg) (C__law_bends : Cal P w K mg base c "_law_bends" 2 4 Ψ__law_bends []) (C__law_keeps : Cal P w K mg base c "_law_keeps" 2 3 Ψ__law_keeps []) (C__law_many : Cal P w K mg base c "_law_many" 1 5 Ψ__law_many []) (C__law_mix : Cal P w K mg base c "_law_mix" 1 2 Φ__law_mix []) (C__law_named : Cal P w K mg base c "_law_named" 2 1 Φ__law_named []) (C__law_open : Cal P w K mg base c "_law_open" 1 2 Ψ__law_open []) (C__law_pins : Cal P w K mg base c "_law_pins" 2 4 Ψ__law_pins []) {f : Addr} {fd : FuncData} (F : FunD K "_law_channel" "_law_channel" (defArgs s__law_channel) (defBody s__law_channel) (defScope s__law_channel) [] [] f fd) : FnOk P w K mg base (L2.CX P w) 3 f fd ["_law_script", "_law_most"] (SpD c 2 Ψ__law_channel_v2) :=
  FnOk.eqv (Φ := Φ__law_channel_v2) (fnd_ok F sc__law_channel fun cdv A outer s H E hr => eb__law_channel G C__law_bends C__law_keeps C__law_many C__law_mix C__law_named C__law_open C__law_pins f cdv A outer s H E hr) ps__law_channel_v2
theorem cal__law_channel (G : Gx c.κ mg) (C__law_bends : Cal P w K mg base c "_law_bends" 2 4 Ψ__law_bends []) (C__law_keeps : Cal P w K mg base c "_law_keeps" 2 3 Ψ__law_keeps []) (C__law_many : Cal P w K mg base c "_law_many" 1 5 Ψ__law_many []) (C__law_mix : Cal P w K mg base c "_law_mix" 1 2 Φ__law_mix []) (C__law_named : Cal P w K mg base c "_law_named" 2 1 Φ__law_named []) (C__law_open : Cal P w K mg base c "_law_open" 1 2 Ψ__law_open []) (C__law_pins : Cal P w K mg base c "_law_pins" 2 4 Ψ__law_pins []) {f : Addr} {fd : FuncData} (F : FunD K "_law_channel" "_law_channel" (defArgs s__law_channel) (defBody s__law_channel) (defScope s__law_channel) [] [] f fd) (hm : mg "_law_channel" = some (.ref f)) : Cal P w K mg base c "_law_channel" 3 2 Ψ__law_channel_v2 [] :=
  cal_mk (ps := ["_law_script", "_law_most"]) F hm (ok__law_channel G C__law_bends C__law_keeps C__law_many C__law_mix C__law_named C__law_open C__law_pins F) fun _ _ _ _ _ _ us hl => match us, hl with | [_, _], _ => rfl
theorem sc__law_made : FnScope N__law_made ["_law_lists"] (defScope s__law_made) := ⟨rfl, rfl, rfl, by decide +kernel, rfl, by decide +kernel, by decide +kernel⟩
set_option maxHeartbeats 4000000 in
theorem eb__law_made (G : Gx c.κ mg) (K_Channel : MkC P w K mg base c.κ "Channel" ["top", "bottom", "left", "right", "wide", "bends", "keeps"]) (f : Addr) (cdv : Value) (A : Around) (outer : List PySem.Env) (s : Shared) (H : Hp) (E : XK) (hr : Room 2 (A.deeper (envOfC "_law_made" (defScope s__law_made) s.heap.objs.size f cdv))) :
    EB (cxOf (L2.CX P w) P w K mg base N__law_made "_law_made" (defScope s__law_made) f cdv A outer s H E) c E (defBody s__law_made) g__law_made := by
  have hx : Passes (L2.CX P w) (cxOf (L2.CX P w) P w K mg base N__law_made "_law_made" (defScope s__law_made) f cdv A outer s H E) E := passes_call (takes_of rfl rfl rfl rfl) (fun _ _ _ _ z => z)
  exact (eb_cons (es_lc 1 (own := [("_law_one", 2)]) rfl sc__law_made.nd rfl (sw_true rfl rfl rfl (by decide +kernel)) (ey_val (ev_var 0)) (blkOk_by (own := [("_law_one", 2)]) (N := N__law_made) (sc := defScope s__law_made) (by decide +kernel)) (fun _ _ _ _ _ => (eg_nameC 2 sc__law_made.nd)) (fun _ _ _ _ _ => ets_nil) (fun _ _ _ _ _ => (ev_list rfl G.f_list (l_cons (ev_var 2) l_nil)))) (eb_one (es_frz 1 (es_ret (ev_make K_Channel (hr.mono (by decide)) rfl hx (l_cons (ev_sub_ (ev_var 1) ev_int) (l_cons (ev_sub_ (ev_var 1) ev_int) (l_cons (ev_sub_ (ev_var 1) ev_int) (l_cons (ev_sub_ (ev_var 1) ev_int) (l_cons (ev_sub_ (ev_var 1) ev_int) (l_cons (ev_sub_ (ev_var 1) ev_int) (l_cons (ev_sub_ (ev_var 1) ev_int) l_nil))))))))))))
theorem ok__law_made (G : Gx c.κ mg) (K_Channel : MkC P w K mg base c.κ "Channel" ["top", "bottom", "left", "right", "wide", "bends", "keeps"]) {f : Addr} {fd : FuncData} (F : FunD K "_law_made" "_law_made" (defArgs s__law_made) (defBody s__law_made) (defScope s__law_made) [] [] f fd) : FnOk P w K mg base (L2.CX P w) 3 f fd ["_law_lists"] (SpD c 1 Ψ__law_made) :=
  FnOk.eqv (Φ := Φ__law_made) (fnd_ok F sc__law_made fun cdv A outer s H E hr => eb__law_made G K_Channel f cdv A outer s H E hr) ps__law_made
theorem cal__law_made (G : Gx c.κ mg) (K_Channel : MkC P w K mg base c.κ "Channel" ["top", "bottom", "left", "right", "wide", "bends", "keeps"]) {f : Addr} {fd : FuncData} (F : FunD K "_law_made" "_law_made" (defArgs s__law_made) (defBody s__law_made) (defScope s__law_made) [] [] f fd) (hm : mg "_law_made" = some (.ref f)) : Cal P w K mg base c "_law_made" 3 1 Ψ__law_made [] :=
  cal_mk (ps := ["_law_lists"]) F hm (ok__law_made G K_Channel F) fun _ _ _ _ _ _ us hl => match us, hl with | [_], _ => rfl
theorem sc__law_kept : FnScope N__law_kept ["_law_channel_here", "_law_lists"] (defScope s__law_kept) := ⟨rfl, rfl, rfl, by decide +kernel, rfl, by decide +kernel, by decide +kernel⟩
set_option maxHeartbeats 4000000 in
theorem eb__law_kept (G : Gx c.κ mg) (f : Addr) (cdv : Value) (A : Around) (outer : List PySem.Env) (s : Shared) (H : Hp) (E : XK) (hr : Room 0 (A.deeper (envOfC "_law_kept" (defScope s__law_kept) s.heap.objs.size f cdv))) :
    EB (cxOf (L2.CX P w) P w K mg base N__law_kept "_law_kept" (defScope s__law_kept) f cdv A outer s H E) c E (defBody s__law_kept) g__law_kept := by
  have hx : Passes (L2.CX P w) (cxOf (L2.CX P w) P w K mg base N__law_kept "_law_kept" (defScope s__law_kept) f cdv A outer s H E) E := passes_call (takes_of rfl rfl rfl rfl) (fun _ _ _ _ z => z)
  exact (eb_cons (es_set 2 (ev_lst (l_cons (ev_fld ["Channel"] G.a_top (ev_var 0)) (l_cons (ev_fld ["Channel"] G.a_bottom (ev_var 0)) (l_cons (ev_fld ["Channel"] G.a_left (ev_var 0)) (l_cons (ev_fld ["Channel"] G.a_right (ev_var 0)) (l_cons (ev_fld ["Channel"] G.a_wide (ev_var 0)) (l_cons (ev_fld ["Channel"] G.a_bends (ev_var 0)) (l_cons (ev_fld ["Channel"] G.a_keeps (ev_var 0)) l_nil)))))))) sc__law_kept.nd) (eb_one (es_ret (ev_eq (hu64 hr) (ev_var 2) (ev_var 1)))))
theorem ok__law_kept (G : Gx c.κ mg) {f : Addr} {fd : FuncData} (F : FunD K "_law_kept" "_law_kept" (defArgs s__law_kept) (defBody s__law_kept) (defScope s__law_kept) [] [] f fd) : FnOk P w K mg base (L2.CX P w) 1 f fd ["_law_channel_here", "_law_lists"] (SpD c 2 Ψ__law_kept) :=
  FnOk.eqv (Φ := Φ__law_kept) (fnd_ok F sc__law_kept fun cdv A outer s H E hr => eb__law_kept G  f cdv A outer s H E hr) ps__law_kept
theorem cal__law_kept (G : Gx c.κ mg) {f : Addr} {fd : FuncData} (F : FunD K "_law_kept" "_law_kept" (defArgs s__law_kept) (defBody s__law_kept) (defScope s__law_kept) [] [] f fd) (hm : mg "_law_kept" = some (.ref f)) : Cal P w K mg base c "_law_kept" 1 2 Ψ__law_kept [] :=
  cal_mk (ps := ["_law_channel_here", "_law_lists"]) F hm (ok__law_kept G  F) fun _ _ _ _ _ _ us hl => match us, hl with | [_, _], _ => rfl
theorem sc__law_same : FnScope N__law_same_v2 ["_law_found", "_law_due"] (defScope s__law_same) := ⟨rfl, rfl, rfl, by decide +kernel, rfl, by decide +kernel, by decide +kernel⟩
set_option maxHeartbeats 4000000 in
theorem eb__law_same (G : Gx c.κ mg) (f : Addr) (cdv : Value) (A : Around) (outer : List PySem.Env) (s : Shared) (H : Hp) (E : XK) (hr : Room 0 (A.deeper (envOfC "_law_same" (defScope s__law_same) s.heap.objs.size f cdv))) :
    EB (cxOf (L2.CX P w) P w K mg base N__law_same_v2 "_law_same" (defScope s__law_same) f cdv A outer s H E) c E (defBody s__law_same) g__law_same_v2 := by
  have hx : Passes (L2.CX P w) (cxOf (L2.CX P w) P w K mg base N__law_same_v2 "_law_same" (defScope s__law_same) f cdv A outer s H E) E := passes_call (takes_of rfl rfl rfl rfl) (fun _ _ _ _ z => z)
  exact (eb_cons (es_if (et_w (ew_or (et_not (et_tru (ev_isi (ev_var 0) rfl G.f_isinstance rfl G.f_list (by decide +kernel)))) (ew_or1 (et_ne (hu64 hr) (ev_len rfl G.f_len (l_cons (ev_var 0) l_nil)) (ev_len rfl G.f_len (l_cons (ev_var 1) l_nil)))))) (eb_one (es_ret ev_bl)) eb_nil) (eb_cons (es_for [2, 3] (passes_of rfl) rfl (eys_of (ey_zip rfl G.f_zip (l_cons (ev_var 0) (l_cons (ev_var 1) l_nil)))) (eg_tup rfl (egs_cons (eg_name 2 sc__law_same.nd) (egs_cons (eg_name 3 sc__law_same.nd) egs_nil))) (eb_one (es_if (et_w (ew_or (et_not (et_tru (ev_isi (ev_var 2) rfl G.f_isinstance rfl G.f_tuple (by decide +kernel)))) (ew_or (et_ne (hu64 hr) (ev_var 2) (ev_var 3)) (ew_or1 (et_tru (ev_any rfl rfl G.f_any (l_cons (ev_lc (own := [("_law_part", 4)]) rfl sc__law_same.nd (ey_val (ev_var 2)) (blkOk_by (own := [("_law_part", 4)]) (N := N__law_same_v2) (sc := defScope s__law_same) (by decide +kernel)) (fun _ _ _ _ _ => (eg_nameC 4 sc__law_same.nd)) (fun _ _ _ _ _ => ets_nil) (fun _ _ _ _ _ => (ev_isi (ev_var 4) rfl G.f_isinstance rfl G.f_bool (by decide +kernel)))) l_nil))))))) (eb_one (es_ret ev_bl)) eb_nil))) (eb_one (es_ret ev_bl))))
theorem ok__law_same (G : Gx c.κ mg) {f : Addr} {fd : FuncData} (F : FunD K "_law_same" "_law_same" (defArgs s__law_same) (defBody s__law_same) (defScope s__law_same) [] [] f fd) : FnOk P w K mg base (L2.CX P w) 1 f fd ["_law_found", "_law_due"] (SpD c 2 Ψ__law_same_v2) :=
  FnOk.eqv (Φ := Φ__law_same_v2) (fnd_ok F sc__law_same fun cdv A outer s H E hr => eb__law_same G  f cdv A outer s H E hr) ps__law_same_v2
theorem cal__law_same (G : Gx c.κ mg) {f : Addr} {fd : FuncData} (F : FunD K "_law_same" "_law_same" (defArgs s__law_same) (defBody s__law_same) (defScope s__law_same) [] [] f fd) (hm : mg "_law_same" = some (.ref f)) : Cal P w K mg base c "_law_same" 1 2 Ψ__law_same_v2 [] :=
  cal_mk (ps := ["_law_found", "_law_due"]) F hm (ok__law_same G  F) fun _ _ _ _ _ _ us hl => match us, hl with | [_, _], _ => rfl
theorem sc__law_cut : FnScope N__law_cut ["_law_own", "_law_stretch_here", "_law_cuts", "_law_width"] (defScope s__law_cut) := ⟨rfl, rfl, rfl, by decide +kernel, rfl, by decide +kernel, by decide +kernel⟩
set_option maxHeartbeats 4000000 in
theorem eb__law_cut (G : Gx c.κ mg) (f : Addr) (cdv : Value) (A : Around) (outer : List PySem.Env) (s : Shared) (H : Hp) (E : XK) (hr : Room 0 (A.deeper (envOfC "_law_cut" (defScope s__law_cut) s.heap.objs.size f cdv))) :
    EB (cxOf (L2.CX P w) P w K mg base N__law_cut "_law_cut" (defScope s__law_cut) f cdv A outer s H E) c E (defBody s__law_cut) g__law_cut := by
  have hx : Passes (L2.CX P w) (cxOf (L2.CX P w) P w K mg base N__law_cut "_law_cut" (defScope s__law_cut) f cdv A outer s H E) E := passes_call (takes_of rfl rfl rfl rfl) (fun _ _ _ _ z => z)
  exact (eb_cons (es_if (et_w (ew_or (et_ne (hu64 hr) (ev_len rfl G.f_len (l_cons (ev_var 0) l_nil)) (ev_add (ev_len rfl G.f_len (l_cons (ev_var 2) l_nil)) ev_int)) (ew_or (et_ne (hu64 hr) (ev_sub_ (ev_sub_ (ev_var 0) ev_int) ev_int) (ev_sub_ (ev_var 1) ev_int)) (ew_or1 (et_ne (hu64 hr) (ev_sub_ (ev_sub_ (ev_var 0) (ev_neg ev_int)) ev_int) (ev_sub_ (ev_var 1) ev_int)))))) (eb_one (es_ret ev_bl)) eb_nil) (eb_cons (es_for [4] (passes_of rfl) rfl (eys_of (ey_range1 rfl G.f_range (l_cons (ev_len rfl G.f_len (l_cons (ev_var 2) l_nil)) l_nil))) (eg_name 4 sc__law_cut.nd) (eb_one (es_if (et_w (ew_or (et_ne (hu64 hr) (ev_sub_ (ev_sub_ (ev_var 0) (ev_var 4)) ev_int) (ev_sub_ (ev_var 2) (ev_var 4))) (ew_or1 (et_ne (hu64 hr) (ev_sub_ (ev_sub_ (ev_var 0) (ev_add (ev_var 4) ev_int)) ev_int) (ev_sub_ (ev_var 2) (ev_var 4)))))) (eb_one (es_ret ev_bl)) eb_nil))) (eb_one (es_ret (ev_all rfl rfl G.f_all (l_cons (ev_lc (own := [("_law_piece", 5)]) rfl sc__law_cut.nd (ey_val (ev_var 0)) (blkOk_by (own := [("_law_piece", 5)]) (N := N__law_cut) (sc := defScope s__law_cut) (by decide +kernel)) (fun _ _ _ _ _ => (eg_nameC 5 sc__law_cut.nd)) (fun _ _ _ _ _ => ets_nil) (fun _ _ _ _ _ => (ev_eq (hu64 hr) (ev_sub_ (ev_var 5) ev_int) (ev_var 3)))) l_nil))))))
theorem ok__law_cut (G : Gx c.κ mg) {f : Addr} {fd : FuncData} (F : FunD K "_law_cut" "_law_cut" (defArgs s__law_cut) (defBody s__law_cut) (defScope s__law_cut) [] [] f fd) : FnOk P w K mg base (L2.CX P w) 1 f fd ["_law_own", "_law_stretch_here", "_law_cuts", "_law_width"] (SpD c 4 Ψ__law_cut) :=
  FnOk.eqv (Φ := Φ__law_cut) (fnd_ok F sc__law_cut fun cdv A outer s H E hr => eb__law_cut G  f cdv A outer s H E hr) ps__law_cut
theorem cal__law_cut (G : Gx c.κ mg) {f : Addr} {fd : FuncData} (F : FunD K "_law_cut" "_law_cut" (defArgs s__law_cut) (defBody s__law_cut) (defScope s__law_cut) [] [] f fd) (hm : mg "_law_cut" = some (.ref f)) : Cal P w K mg base c "_law_cut" 1 4 Ψ__law_cut [] :=
  cal_mk (ps := ["_law_own", "_law_stretch_here", "_law_cuts", "_law_width"]) F hm (ok__law_cut G  F) fun _ _ _ _ _ _ us hl => match us, hl with | [_, _, _, _], _ => rfl
theorem sc__law_stands : FnScope N__law_stands ["_law_lists", "_law_pieces", "_law_bent"] (defScope s__law_stands) := ⟨rfl, rfl, rfl, by decide +kernel, rfl, by decide +kernel, by decide +kernel⟩
set_option maxHeartbeats 4000000 in
theorem eb__law_stands (G : Gx c.κ mg) (C__law_cut : Cal P w K mg base c "_law_cut" 1 4 Ψ__law_cut []) (C__law_same : Cal P w K mg base c "_law_same" 1 2 Ψ__law_same_v2 []) (C__law_stretch : Cal P w K mg base c "_law_stretch" 1 5 Ψ__law_stretch []) (f : Addr) (cdv : Value) (A : Around) (outer : List PySem.Env) (s : Shared) (H : Hp) (E : XK) (hr : Room 1 (A.deeper (envOfC "_law_stands" (defScope s__law_stands) s.heap.objs.size f cdv))) :
    EB (cxOf (L2.CX P w) P w K mg base N__law_stands "_law_stands" (defScope s__law_stands) f cdv A outer s H E) c E (defBody s__law_stands) g__law_stands := by
  have hx : Passes (L2.CX P w) (cxOf (L2.CX P w) P w K mg base N__law_stands "_law_stands" (defScope s__law_stands) f cdv A outer s H E) E := passes_call (takes_of rfl rfl rfl rfl) (fun _ _ _ _ z => z)
  exact (eb_cons (es_set 3 (ev_len rfl G.f_len (l_cons (ev_sub_ (ev_var 0) ev_int) l_nil)) sc__law_stands.nd) (eb_cons (es_if (et_not (et_tru (ev_callC C__law_same (hr.mono (by decide)) rfl hx (l_cons (ev_slice (ev_var 1) eo_none (eo_some (ev_var 3))) (l_cons (ev_lc (own := [("_law_l", 11), ("_law_r", 12), ("_law_k", 13)]) rfl sc__law_stands.nd (ey_val (ev_sub_ (ev_var 0) ev_int)) (blkOk_by (own := [("_law_l", 11), ("_law_r", 12), ("_law_k", 13)]) (N := N__law_stands) (sc := defScope s__law_stands) (by decide +kernel)) (fun _ _ _ _ _ => (eg_tup rfl (egs_consC (eg_nameC 11 sc__law_stands.nd) (egs_consC (eg_nameC 12 sc__law_stands.nd) (egs_consC (eg_nameC 13 sc__law_stands.nd) egs_nil))))) (fun _ _ _ _ _ => ets_nil) (fun _ _ _ _ _ => (ev_tup (l_cons ev_non (l_cons (ev_var 11) (l_cons (ev_var 12) (l_cons (ev_var 13) l_nil))))))) l_nil))))) (eb_one (es_ret ev_bl)) eb_nil) (eb_cons (es_lc 4 (own := [("_law_piece", 14)]) rfl sc__law_stands.nd rfl (sw_true rfl rfl rfl (by decide +kernel)) (ey_val (ev_slice (ev_var 1) (eo_some (ev_var 3)) eo_none)) (blkOk_by (own := [("_law_piece", 14)]) (N := N__law_stands) (sc := defScope s__law_stands) (by decide +kernel)) (fun _ _ _ _ _ => (eg_nameC 14 sc__law_stands.nd)) (fun _ _ _ _ _ => ets_nil) (fun _ _ _ _ _ => (ev_sub_ (ev_var 14) ev_int))) (eb_cons (es_if (et_ne (hu64 hr) (ev_var 4) (ev_sorted (hu64 hr) rfl G.f_sorted (l_cons (ev_var 4) l_nil))) (eb_one (es_ret ev_bl)) eb_nil) (eb_cons (es_set 5 ev_int sc__law_stands.nd) (eb_cons (es_for [6, 7, 8, 9, 10] (passes_of rfl) rfl (eys_of (ey_val (ev_sortMinus rfl (hu64 hr) rfl G.f_sorted rfl G.f_set (ev_add (ev_add (ev_add (ev_sub_ (ev_var 0) ev_int) (ev_sub_ (ev_var 0) ev_int)) (ev_sub_ (ev_var 0) ev_int)) (ev_sub_ (ev_var 0) ev_int)) (ev_lst (l_cons ev_non l_nil)) (fun _ => rfl)))) (eg_name 6 sc__law_stands.nd) (eb_cons (es_set 7 (ev_callC C__law_stretch (hr.mono (by decide)) rfl hx (l_cons (ev_sub_ (ev_var 0) ev_int) (l_cons (ev_sub_ (ev_var 0) ev_int) (l_cons (ev_sub_ (ev_var 0) ev_int) (l_cons (ev_sub_ (ev_var 0) ev_int) (l_cons (ev_var 6) l_nil)))))) sc__law_stands.nd) (eb_cons (es_lc 8 (own := [("_law_piece", 14)]) rfl sc__law_stands.nd rfl (sw_true rfl rfl rfl (by decide +kernel)) (ey_val (ev_var 1)) (blkOk_by (own := [("_law_piece", 14)]) (N := N__law_stands) (sc := defScope s__law_stands) (by decide +kernel)) (fun _ _ _ _ _ => (eg_nameC 14 sc__law_stands.nd)) (fun _ _ _ _ _ => (ets_one (et_eq (hu64 hr) (ev_sub_ (ev_var 14) ev_int) (ev_var 6)))) (fun _ _ _ _ _ => (ev_var 14))) (eb_cons (es_lc 9 (own := [("_law_c", 15), ("_law_other", 16)]) rfl sc__law_stands.nd rfl (sw_true rfl rfl rfl (by decide +kernel)) (ey_val (ev_sub_ (ev_var 0) ev_int)) (blkOk_by (own := [("_law_c", 15), ("_law_other", 16)]) (N := N__law_stands) (sc := defScope s__law_stands) (by decide +kernel)) (fun _ _ _ _ _ => (eg_tup rfl (egs_consC (eg_nameC 15 sc__law_stands.nd) (egs_consC (eg_nameC 16 sc__law_stands.nd) egs_nil)))) (fun _ _ _ _ _ => (ets_one (et_w (ew_and (et_tru (ev_var 2)) (ew_and1 (et_eq (hu64 hr) (ev_var 16) (ev_var 6))))))) (fun _ _ _ _ _ => (ev_var 15))) (eb_cons (es_set 10 (ev_max rfl rfl G.f_max (l_cons (ev_add (ev_lst (l_cons ev_int l_nil)) (ev_lc (own := [("_law_other", 16), ("_law_k", 13)]) rfl sc__law_stands.nd (ey_val (ev_sub_ (ev_var 0) ev_int)) (blkOk_by (own := [("_law_other", 16), ("_law_k", 13)]) (N := N__law_stands) (sc := defScope s__law_stands) (by decide +kernel)) (fun _ _ _ _ _ => (eg_tup rfl (egs_consC (eg_nameC 16 sc__law_stands.nd) (egs_consC (eg_nameC 13 sc__law_stands.nd) egs_nil)))) (fun _ _ _ _ _ => (ets_one (et_eq (hu64 hr) (ev_var 16) (ev_var 6)))) (fun _ _ _ _ _ => (ev_var 13)))) l_nil)) sc__law_stands.nd) (eb_cons (es_if (et_eq (hu64 hr) (ev_sub_ (ev_var 7) ev_int) (ev_sub_ (ev_var 7) ev_int)) (eb_one (es_if (et_ne (hu64 hr) (ev_var 8) (ev_lst l_nil)) (eb_one (es_ret ev_bl)) eb_nil)) (eb_one (es_frz 9 (es_frz 8 (es_if (et_not (et_tru (ev_callC C__law_cut (hr.mono (by decide)) rfl hx (l_cons (ev_var 8) (l_cons (ev_var 7) (l_cons (ev_var 9) (l_cons (ev_var 10) l_nil))))))) (eb_one (es_ret ev_bl)) eb_nil))))) (eb_one (es_set 5 (ev_add (ev_var 5) (ev_len rfl G.f_len (l_cons (ev_var 8) l_nil))) sc__law_stands.nd)))))))) (eb_one (es_ret (ev_eq (hu64 hr) (ev_var 5) (ev_sub (ev_len rfl G.f_len (l_cons (ev_var 1) l_nil)) (ev_var 3)))))))))))
theorem ok__law_stands (G : Gx c.κ mg) (C__law_cut : Cal P w K mg base c "_law_cut" 1 4 Ψ__law_cut []) (C__law_same : Cal P w K mg base c "_law_same" 1 2 Ψ__law_same_v2 []) (C__law_stretch : Cal P w K mg base c "_law_stretch" 1 5 Ψ__law_stretch []) {f : Addr} {fd : FuncData} (F : FunD K "_law_stands" "_law_stands" (defArgs s__law_stands) (defBody s__law_stands) (defScope s__law_stands) [] [] f fd) : FnOk P w K mg base (L2.CX P w) 2 f fd ["_law_lists", "_law_pieces", "_law_bent"] (SpD c 3 Ψ__law_stands) :=
  FnOk.eqv (Φ := Φ__law_stands) (fnd_ok F sc__law_stands fun cdv A outer s H E hr => eb__law_stands G C__law_cut C__law_same C__law_stretch f cdv A outer s H E hr) ps__law_stands
theorem cal__law_stands (G : Gx c.κ mg) (C__law_cut : Cal P w K mg base c "_law_cut" 1 4 Ψ__law_cut []) (C__law_same : Cal P w K mg base c "_law_same" 1 2 Ψ__law_same_v2 []) (C__law_stretch : Cal P w K mg base c "_law_stretch" 1 5 Ψ__law_stretch []) {f : Addr} {fd : FuncData} (F : FunD K "_law_stands" "_law_stands" (defArgs s__law_stands) (defBody s__law_stands) (defScope s__law_stands) [] [] f fd) (hm : mg "_law_stands" = some (.ref f)) : Cal P w K mg base c "_law_stands" 2 3 Ψ__law_stands [] :=
  cal_mk (ps := ["_law_lists", "_law_pieces", "_law_bent"]) F hm (ok__law_stands G C__law_cut C__law_same C__law_stretch F) fun _ _ _ _ _ _ us hl => match us, hl with | [_, _, _], _ => rfl
theorem sc_law : FnScope N_law_k13 ["_law_script"] (defScope s_law) := ⟨rfl, rfl, rfl, by decide +kernel, rfl, by decide +kernel, by decide +kernel⟩
set_option maxHeartbeats 4000000 in
theorem eb_law (G : Gx c.κ mg) (C__law_channel : Cal P w K mg base c "_law_channel" 3 2 Ψ__law_channel_v2 []) (C__law_kept : Cal P w K mg base c "_law_kept" 1 2 Ψ__law_kept []) (C__law_made : Cal P w K mg base c "_law_made" 3 1 Ψ__law_made []) (C__law_same : Cal P w K mg base c "_law_same" 1 2 Ψ__law_same_v2 []) (C__law_stands : Cal P w K mg base c "_law_stands" 2 3 Ψ__law_stands []) (C_pieces_of : Cal P w K mg base c "pieces_of" 4 2 Ψ_pieces_of []) (C_pieces_of_1 : Cal P w K mg base c "pieces_of" 4 2 Ψ_pieces_of [.bl false]) (f : Addr) (cdv : Value) (A : Around) (outer : List PySem.Env) (s : Shared) (H : Hp) (E : XK) (hr : Room 4 (A.deeper (envOfC "law" (defScope s_law) s.heap.objs.size f cdv))) :
    EB (cxOf (L2.CX P w) P w K mg base N_law_k13 "law" (defScope s_law) f cdv A outer s H E) c E (defBody s_law) g_law_k13 := by
  have hx : Passes (L2.CX P w) (cxOf (L2.CX P w) P w K mg base N_law_k13 "law" (defScope s_law) f cdv A outer s H E) E := passes_call (takes_of rfl rfl rfl rfl) (fun _ _ _ _ z => z)
  exact (eb_cons (es_set 1 (ev_callC C__law_channel (hr.mono (by decide)) rfl hx (l_cons (ev_var 0) (l_cons ev_int l_nil))) sc_law.nd) (eb_cons (es_frz 1 (es_set 2 (ev_callC C__law_made (hr.mono (by decide)) rfl hx (l_cons (ev_var 1) l_nil)) sc_law.nd)) (eb_cons (es_set 3 (ev_callC C_pieces_of_1 (hr.mono (by decide)) rfl hx (l_cons (ev_var 2) l_nil)) sc_law.nd) (eb_cons (es_frz 3 (es_frz 1 (es_for [4, 5, 6] (passes_of rfl) rfl (eys_of (ey_val (ev_tup (l_cons ev_bl (l_cons ev_bl l_nil))))) (eg_name 4 sc_law.nd) (eb_cons (es_set 5 (ev_callC C_pieces_of (hr.mono (by decide)) rfl hx (l_cons (ev_var 2) (l_cons (ev_var 4) l_nil))) sc_law.nd) (eb_cons (es_if (et_w (ew_or (et_not (et_tru (ev_isi (ev_var 5) rfl G.f_isinstance rfl G.f_list (by decide +kernel)))) (ew_or1 (et_not (et_tru (ev_all rfl rfl G.f_all (l_cons (ev_lc (own := [("_law_piece", 7)]) rfl sc_law.nd (ey_val (ev_var 5)) (blkOk_by (own := [("_law_piece", 7)]) (N := N_law_k13) (sc := defScope s_law) (by decide +kernel)) (fun _ _ _ _ _ => (eg_nameC 7 sc_law.nd)) (fun _ _ _ _ _ => ets_nil) (fun _ _ _ _ _ => (ev_and (ev_isi (ev_var 7) rfl G.f_isinstance rfl G.f_tuple (by decide +kernel)) (ev_one (ev_eq (hu64 hr) (ev_len rfl G.f_len (l_cons (ev_var 7) l_nil)) ev_int))))) l_nil))))))) (eb_one (es_ret ev_bl)) eb_nil) (eb_cons (es_if (et_w (ew_or (et_not (et_tru (ev_callC C__law_same (hr.mono (by decide)) rfl hx (l_cons (ev_var 5) (l_cons (ev_list rfl G.f_list (l_cons (ev_var 5) l_nil)) l_nil))))) (ew_or1 (et_not (et_tru (ev_callC C__law_stands (hr.mono (by decide)) rfl hx (l_cons (ev_var 1) (l_cons (ev_var 5) (l_cons (ev_var 4) l_nil))))))))) (eb_one (es_ret ev_bl)) eb_nil) (eb_cons (es_set 6 (ev_list rfl G.f_list (l_cons (ev_var 5) l_nil)) sc_law.nd) (eb_cons (es_clear 5) (eb_cons (es_frz 6 (es_if (et_not (et_tru (ev_callC C__law_same (hr.mono (by decide)) rfl hx (l_cons (ev_callC C_pieces_of (hr.mono (by decide)) rfl hx (l_cons (ev_var 2) (l_cons (ev_var 4) l_nil))) (l_cons (ev_var 6) l_nil))))) (eb_one (es_ret ev_bl)) eb_nil)) (eb_one (es_frz 6 (es_if (et_w (ew_and (et_not (et_tru (ev_var 4))) (ew_and1 (et_not (et_tru (ev_callC C__law_same (hr.mono (by decide)) rfl hx (l_cons (ev_var 3) (l_cons (ev_var 6) l_nil)))))))) (eb_one (es_ret ev_bl)) eb_nil)))))))))))) (eb_one (es_frz 1 (es_ret (ev_callC C__law_kept (hr.mono (by decide)) rfl hx (l_cons (ev_var 2) (l_cons (ev_var 1) l_nil))))))))))
theorem ok_law (G : Gx c.κ mg) (C__law_channel : Cal P w K mg base c "_law_channel" 3 2 Ψ__law_channel_v2 []) (C__law_kept : Cal P w K mg base c "_law_kept" 1 2 Ψ__law_kept []) (C__law_made : Cal P w K mg base c "_law_made" 3 1 Ψ__law_made []) (C__law_same : Cal P w K mg base c "_law_same" 1 2 Ψ__law_same_v2 []) (C__law_stands : Cal P w K mg base c "_law_stands" 2 3 Ψ__law_stands []) (C_pieces_of : Cal P w K mg base c "pieces_of" 4 2 Ψ_pieces_of []) (C_pieces_of_1 : Cal P w K mg base c "pieces_of" 4 2 Ψ_pieces_of [.bl false]) {f : Addr} {fd : FuncData} (F : FunD K "law" "law" (defArgs s_law) (defBody s_law) (defScope s_law) [] [] f fd) : FnOk P w K mg base (L2.CX P w) 5 f fd ["_law_script"] (SpD c 1 Ψ_law_k13) :=
  FnOk.eqv (Φ := Φ_law_k13) (fnd_ok F sc_law fun cdv A outer s H E hr => eb_law G C__law_channel C__law_kept C__law_made C__law_same C__law_stands C_pieces_of C_pieces_of_1 f cdv A outer s H E hr) ps_law_k13
end
end Gk13
end
section
set_option maxHeartbeats 8000000
namespace Gk13
open PySem PySem.Spec PyProof.Rows L2 PV Gw
def c0 (K : PySem.W.Frag) : Cfg K := ⟨⟨fun x => He.ga K x, [], []⟩, fun _ _ _ _ _ => False, fun _ h => h⟩
theorem facts {P : Program} {w : World} {K : PySem.W.Frag} {h : Heap} {mg : Str → Option Value} {f : Addr} (X : K.In h) (GN : h.Ns mainGlobals mg) (hfa : mg ("law" : Str) = some (.ref f)) (cc : He.SaysD fa fn K) :
    ∃ fd : FuncData, (∀ (s : Shared) (v : Value), BindsTo s fd ⟨[v], []⟩ [("_law_script", v)]) ∧ ∀ base : Heap, K.In base → base.Ns mainGlobals mg → FnOk P w K mg base (L2.CX P w) 5 f fd ["_law_script"] (SpD (c0 K) 1 Ψ_law_k13) := by
  have G : Gx (c0 K).κ mg := ⟨(.cons (He.cls_ok (cc.fact 24 (f := .cls "Channel") rfl)) (He.noat_ok (cc.fact 30 (f := .noat "Channel" "bends") rfl)) ClsOk.nil), (.cons (He.cls_ok (cc.fact 24 (f := .cls "Channel") rfl)) (He.noat_ok (cc.fact 26 (f := .noat "Channel" "bottom") rfl)) ClsOk.nil), (.cons (He.cls_ok (cc.fact 24 (f := .cls "Channel") rfl)) (He.noat_ok (cc.fact 31 (f := .noat "Channel" "keeps") rfl)) ClsOk.nil), (.cons (He.cls_ok (cc.fact 24 (f := .cls "Channel") rfl)) (He.noat_ok (cc.fact 27 (f := .noat "Channel" "left") rfl)) ClsOk.nil), (.cons (He.cls_ok (cc.fact 24 (f := .cls "Channel") rfl)) (He.noat_ok (cc.fact 28 (f := .noat "Channel" "right") rfl)) ClsOk.nil), (.cons (He.cls_ok (cc.fact 24 (f := .cls "Channel") rfl)) (He.noat_ok (cc.fact 25 (f := .noat "Channel" "top") rfl)) ClsOk.nil), (.cons (He.cls_ok (cc.fact 24 (f := .cls "Channel") rfl)) (He.noat_ok (cc.fact 29 (f := .noat "Channel" "wide") rfl)) ClsOk.nil), He.free_ok X GN (cc.fact 32 (f := .free "all") rfl), He.free_ok X GN (cc.fact 33 (f := .free "any") rfl), He.free_ok X GN (cc.fact 34 (f := .free "bool") rfl), He.free_ok X GN (cc.fact 35 (f := .free "enumerate") rfl), He.free_ok X GN (cc.fact 36 (f := .free "int") rfl), He.free_ok X GN (cc.fact 37 (f := .free "isinstance") rfl), He.free_ok X GN (cc.fact 38 (f := .free "len") rfl), He.free_ok X GN (cc.fact 39 (f := .free "list") rfl), He.free_ok X GN (cc.fact 40 (f := .free "max") rfl), He.free_ok X GN (cc.fact 41 (f := .free "min") rfl), He.free_ok X GN (cc.fact 42 (f := .free "range") rfl), He.free_ok X GN (cc.fact 43 (f := .free "set") rfl), He.free_ok X GN (cc.fact 44 (f := .free "sorted") rfl), He.free_ok X GN (cc.fact 45 (f := .free "sum") rfl), He.free_ok X GN (cc.fact 46 (f := .free "tuple") rfl), He.free_ok X GN (cc.fact 47 (f := .free "zip") rfl)⟩
  obtain ⟨fd_ends_of, F_ends_of⟩ := cc.def_ 0 (d := d_ends_of) rfl
  obtain ⟨fd_nets_of, F_nets_of⟩ := cc.def_ 1 (d := d_nets_of) rfl
  obtain ⟨fd_width_of, F_width_of⟩ := cc.def_ 2 (d := d_width_of) rfl
  obtain ⟨fd_stretch_of, F_stretch_of⟩ := cc.def_ 3 (d := d_stretch_of) rfl
  obtain ⟨fd_net_pieces, F_net_pieces⟩ := cc.def_ 4 (d := d_net_pieces) rfl
  obtain ⟨fd_pieces_of, F_pieces_of⟩ := cc.def_ 5 (d := d_pieces_of) rfl
  obtain ⟨fd__law_stem, F__law_stem⟩ := cc.def_ 6 (d := d__law_stem) rfl
  obtain ⟨fd__law_named, F__law_named⟩ := cc.def_ 7 (d := d__law_named) rfl
  obtain ⟨fd__law_mix, F__law_mix⟩ := cc.def_ 8 (d := d__law_mix) rfl
  obtain ⟨fd__law_pins, F__law_pins⟩ := cc.def_ 9 (d := d__law_pins) rfl
  obtain ⟨fd__law_many, F__law_many⟩ := cc.def_ 10 (d := d__law_many) rfl
  obtain ⟨fd__law_stretch, F__law_stretch⟩ := cc.def_ 11 (d := d__law_stretch) rfl
  obtain ⟨fd__law_bends, F__law_bends⟩ := cc.def_ 12 (d := d__law_bends) rfl
  obtain ⟨fd__law_keeps, F__law_keeps⟩ := cc.def_ 13 (d := d__law_keeps) rfl
  obtain ⟨fd__law_open, F__law_open⟩ := cc.def_ 14 (d := d__law_open) rfl
  obtain ⟨fd__law_channel, F__law_channel⟩ := cc.def_ 15 (d := d__law_channel) rfl
  obtain ⟨fd__law_made, F__law_made⟩ := cc.def_ 16 (d := d__law_made) rfl
  obtain ⟨fd__law_kept, F__law_kept⟩ := cc.def_ 17 (d := d__law_kept) rfl
  obtain ⟨fd__law_same, F__law_same⟩ := cc.def_ 18 (d := d__law_same) rfl
  obtain ⟨fd__law_cut, F__law_cut⟩ := cc.def_ 19 (d := d__law_cut) rfl
  obtain ⟨fd__law_stands, F__law_stands⟩ := cc.def_ 20 (d := d__law_stands) rfl
  obtain ⟨fd_law, F_law⟩ := cc.def_ 21 (d := d_law) rfl
  obtain ⟨fdi_Channel, FI_Channel⟩ := cc.def_ 22 (d := di_Channel) rfl
  have e := hfa.symm.trans (He.glo_ok X GN (cc.fact 21 (f := .glo "law") rfl))
  cases e
  have b := FunD.bindsA (ps := ["_law_script"]) F_law fun _ _ _ _ _ _ us hl => match us, hl with | [_], _ => rfl
  refine ⟨fd_law, fun s v => b s [v] rfl, fun base _ _ => ?_⟩
  have K_Channel := mk_Channel (P := P) (w := w) (base := base) (c := c0 K) FI_Channel (He.mkr_ok (cc.fact 23 (f := .mkr "Channel") rfl)) (He.cls_ok (cc.fact 24 (f := .cls "Channel") rfl)) (He.noat_ok (cc.fact 25 (f := .noat "Channel" "top") rfl)) (He.noat_ok (cc.fact 26 (f := .noat "Channel" "bottom") rfl)) (He.noat_ok (cc.fact 27 (f := .noat "Channel" "left") rfl)) (He.noat_ok (cc.fact 28 (f := .noat "Channel" "right") rfl)) (He.noat_ok (cc.fact 29 (f := .noat "Channel" "wide") rfl)) (He.noat_ok (cc.fact 30 (f := .noat "Channel" "bends") rfl)) (He.noat_ok (cc.fact 31 (f := .noat "Channel" "keeps") rfl)) (He.glo_ok X GN (cc.fact 22 (f := .glo "Channel") rfl))
  have C_ends_of := cal_ends_of (P := P) (w := w) (base := base) (c := c0 K) G  F_ends_of (He.glo_ok X GN (cc.fact 0 (f := .glo "ends_of") rfl))
  have C_nets_of := cal_nets_of (P := P) (w := w) (base := base) (c := c0 K) G  F_nets_of (He.glo_ok X GN (cc.fact 1 (f := .glo "nets_of") rfl))
  have C_width_of := cal_width_of (P := P) (w := w) (base := base) (c := c0 K) G  F_width_of (He.glo_ok X GN (cc.fact 2 (f := .glo "width_of") rfl))
  have C_stretch_of := cal_stretch_of (P := P) (w := w) (base := base) (c := c0 K) G C_ends_of F_stretch_of (He.glo_ok X GN (cc.fact 3 (f := .glo "stretch_of") rfl))
  have C_net_pieces := cal_net_pieces (P := P) (w := w) (base := base) (c := c0 K) G C_stretch_of C_width_of F_net_pieces (He.glo_ok X GN (cc.fact 4 (f := .glo "net_pieces") rfl))
  have C_pieces_of := cal_pieces_of (P := P) (w := w) (base := base) (c := c0 K) G C_net_pieces C_nets_of F_pieces_of (He.glo_ok X GN (cc.fact 5 (f := .glo "pieces_of") rfl))
  have C_pieces_of_1 := cal_pieces_of_1 (P := P) (w := w) (base := base) (c := c0 K) G C_net_pieces C_nets_of F_pieces_of (He.glo_ok X GN (cc.fact 5 (f := .glo "pieces_of") rfl))
  have C__law_stem := cal__law_stem (P := P) (w := w) (base := base) (c := c0 K) G  F__law_stem (He.glo_ok X GN (cc.fact 6 (f := .glo "_law_stem") rfl))
  have C__law_named := cal__law_named (P := P) (w := w) (base := base) (c := c0 K) G C__law_stem F__law_named (He.glo_ok X GN (cc.fact 7 (f := .glo "_law_named") rfl))
  have C__law_mix := cal__law_mix (P := P) (w := w) (base := base) (c := c0 K) G  F__law_mix (He.glo_ok X GN (cc.fact 8 (f := .glo "_law_mix") rfl))
  have C__law_pins := cal__law_pins (P := P) (w := w) (base := base) (c := c0 K) G C__law_mix F__law_pins (He.glo_ok X GN (cc.fact 9 (f := .glo "_law_pins") rfl))
  have C__law_many := cal__law_many (P := P) (w := w) (base := base) (c := c0 K) G  F__law_many (He.glo_ok X GN (cc.fact 10 (f := .glo "_law_many") rfl))
  have C__law_stretch := cal__law_stretch (P := P) (w := w) (base := base) (c := c0 K) G  F__law_stretch (He.glo_ok X GN (cc.fact 11 (f := .glo "_law_stretch") rfl))
  have C__law_bends := cal__law_bends (P := P) (w := w) (base := base) (c := c0 K) G C__law_mix C__law_stretch F__law_bends (He.glo_ok X GN (cc.fact 12 (f := .glo "_law_bends") rfl))
  have C__law_keeps := cal__law_keeps (P := P) (w := w) (base := base) (c := c0 K) G C__law_mix F__law_keeps (He.glo_ok X GN (cc.fact 13 (f := .glo "_law_keeps") rfl))
  have C__law_open := cal__law_open (P := P) (w := w) (base := base) (c := c0 K) G  F__law_open (He.glo_ok X GN (cc.fact 14 (f := .glo "_law_open") rfl))
  have C__law_channel := cal__law_channel (P := P) (w := w) (base := base) (c := c0 K) G C__law_bends C__law_keeps C__law_many C__law_mix C__law_named C__law_open C__law_pins F__law_channel (He.glo_ok X GN (cc.fact 15 (f := .glo "_law_channel") rfl))
  have C__law_made := cal__law_made (P := P) (w := w) (base := base) (c := c0 K) G K_Channel F__law_made (He.glo_ok X GN (cc.fact 16 (f := .glo "_law_made") rfl))
  have C__law_kept := cal__law_kept (P := P) (w := w) (base := base) (c := c0 K) G  F__law_kept (He.glo_ok X GN (cc.fact 17 (f := .glo "_law_kept") rfl))
  have C__law_same := cal__law_same (P := P) (w := w) (base := base) (c := c0 K) G  F__law_same (He.glo_ok X GN (cc.fact 18 (f := .glo "_law_same") rfl))
  have C__law_cut := cal__law_cut (P := P) (w := w) (base := base) (c := c0 K) G  F__law_cut (He.glo_ok X GN (cc.fact 19 (f := .glo "_law_cut") rfl))
  have C__law_stands := cal__law_stands (P := P) (w := w) (base := base) (c := c0 K) G C__law_cut C__law_same C__law_stretch F__law_stands (He.glo_ok X GN (cc.fact 20 (f := .glo "_law_stands") rfl))
  exact ok_law G C__law_channel C__law_kept C__law_made C__law_same C__law_stands C_pieces_of C_pieces_of_1 F_law
end Gk13
end
set_option maxHeartbeats 8000000
open PySem PySem.W PySem.Calls PyProof.Rows
set_option maxRecDepth 100000 in
set_option maxHeartbeats 0 in
theorem PySem.Challenge.cw_wirechannel_k13_pieces_holds : PySem.Challenge.rw_wirechannel_k13_pieces.Holds := by
  w_on; o_law
  refine HandSHeadRun.head_any (r := OpenLaw.row PySem.Challenge.rw_wirechannel_k13_pieces) (q := view (OpenLaw.row PySem.Challenge.rw_wirechannel_k13_pieces).prog [26]) (H := Gk13.hk) (ob := Gk13.ob) (M := 9000) (loose := Gk13.loose) (d := HandSHeadRun.topDef (OpenLaw.row PySem.Challenge.rw_wirechannel_k13_pieces).prog 26) (kwd := []) Gk13.ob_eq
    (by kernel_rfl) (fun s => by kernel_rfl) Gk13.run (by kernel_rfl) (by kernel_rfl) (by kernel_rfl) (by rfl) (by first | assumption | decide +kernel) (by decide +kernel) ⟨rfl, rfl, rfl, rfl, rfl, by decide +kernel⟩ ?hw ?hc
  case hw => w_witness2
  case hc =>
    refine PV.walkW (l := PySem.Challenge.rw_wirechannel_k13_pieces) (n := 63) (k := 5) (x := "_law_script") rfl (by decide) (by kernel_rfl) ⟨rfl, by decide, by decide⟩ ?F
    intro w mg fa h Y G hmg0
    obtain ⟨K, KX, cc⟩ := Y
    have hmg : mg ("law" : PySem.Str) = some (.ref fa) := by
      have e : (HandSHeadRun.topDef (OpenLaw.row PySem.Challenge.rw_wirechannel_k13_pieces).prog 26).name = ("law" : PySem.Str) := by kernel_rfl
      rw [← e]
      exact hmg0
    obtain ⟨fd, hb, hF⟩ := Gk13.facts (P := (PySem.Challenge.rw_wirechannel_k13_pieces).prog) (w := w) KX G hmg cc
    exact ⟨K, fd, [], _, ⟨KX, hb⟩, ⟨fun p hp => absurd hp (by simp), fun p hp => absurd hp (by simp), fun p hp => absurd hp (by simp)⟩, fun H a ns hl _ hS => PV.law_sp (c := Gk13.c0 K) Gw.law_true_k13 H a ns hl (fun p hp => absurd (show p ∈ ([] : List _) from hp) (by simp)) .nil hS, fun b h1 h2 _ => hF b h1 h2⟩
