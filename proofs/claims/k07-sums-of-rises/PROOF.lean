import PyProof.Rows.All
import Wide.All
import OpenK.AllK
import Wide.FinOn
import HandS.ForMost
import HandS.ForExc
import HandS.Lambda
import HandS.EndTab
import HandS.Flow
import HandS.Codes
import HandS.IsInst
import HandS.ExcInit
import HandS.TupAny
import HandS.TupMul
import HandS.Zip
import HandS.Finally
import HandS.SetFor
import KE.GoesMore
import HandS.Style
import KE.KMinKey
import KE.KNestM
import HandS.ClsMeth
import KE.KDflt
import PyProof.Rows.CountFlat
import KE.KExcIs
import HandS.ExcField
import HandS.ExcOwn
import HandS.Conv
import HandS.More
import KE.GoesZip
import KE.KEqDeep
import PySem.Challenge.RW_fencefields_k07_sums_of_rises
set_option Elab.async false
set_option linter.all false
set_option maxRecDepth 100000
set_option maxHeartbeats 4000000
/-! The data layer: Python values as trees; what the hand layer's heap tells of them. -/
namespace DL
open PySem L2
open LamX (Tabs)

/-- a value with all that hangs on it. lst: a list that one owner holds (it may be changed); fls: one that is never changed again -/
inductive D where
  | non | bl (b : Bool) | int (i : Int) | str (s : Str) | ty (n : String) | ref (n : Nat)
  | tup (ds : List D)
  | lst (ds : List D)
  | fls (ds : List D)
  | dk (ks : List Key) (ds : List D)
  | dt (ks : List (List Key)) (ds : List D)
  | ins (n : Nat) (ds : List D)
  | exn (n : Nat) (ds : List D)
  | clo (n : Nat)
  deriving Inhabited

/-- the fields of the text's own classes (by number), in the order in which they are stored first -/
def fk : Nat → List Str
  | 0 => ["land", "more", "rise", "pairs", "rings"]
  | 1 => ["row"]
  | 2 => ["land", "past", "undone", "points", "book", "running"]
  | _ => []
/-- of its exceptions, the last one first -/
def fx : Nat → List Str
  | 11 => ["number", "part"]
  | 12 => ["number"]
  | 13 => ["number"]
  | 14 => ["why", "number"]
  | 20 => ["done", "number"]
  | 21 => ["row"]
  | _ => []
/-- the addresses of the text's own classes and functions, by number; .. that of a caught exception, of its dict; what a lambda of the frame is (by number) -/
structure Adr where
  at_ : Nat → Addr
  ea : Addr
  ed : Addr
  clo : Nat → Addr → Addr → Value → Heap → Prop
  cq : Str
  con : Prop
instance : CoeFun Adr (fun _ => Nat → Addr) := ⟨Adr.at_⟩

/-- a list that is not changed any more -/
def SqF (K : PySem.W.Frag) (H : Hp) (a : Addr) (vs : List V) : Prop :=
  (∃ o, H a = some (.frz o (.lst vs))) ∨ ∃ (o : Obj) (its : Array Value) (n : Nat), K.lookup a = some o ∧ o.cls = .type "list" ∧ o.dict = none ∧ o.data = .seq its n ∧ its.size ≤ sizeLine ∧ Vals vs its.toList
theorem SqF.sq {K : PySem.W.Frag} {H : Hp} {a : Addr} {vs : List V} (h : SqF K H a vs) : SqL K H a vs := by
  rcases h with ⟨o, h⟩ | h
  · exact .inl (.inr ⟨o, h⟩)
  · exact .inr h

section
variable (K : PySem.W.Frag) (adr : Adr) (H : Hp)
mutual
/-- v at H is the tree d; F: the addresses of what it owns -/
def Rep : D → V → List Addr → Prop
  | .non, v, F => v = .non ∧ F = []
  | .bl b, v, F => v = .bl b ∧ F = []
  | .int i, v, F => v = .int i ∧ F = []
  | .str x, v, F => v = .str x ∧ F = []
  | .ty n, v, F => v = .ty n ∧ F = []
  | .ref n, v, F => v = .ref (adr n) ∧ F = []
  | .tup ds, v, F => ∃ a vs, v = .ref a ∧ SqT K H a vs ∧ RepL ds vs F
  | .lst ds, v, F => ∃ a vs G, v = .ref a ∧ H a = some (.lst vs) ∧ RepL ds vs G ∧ F = a :: G
  | .fls ds, v, F => ∃ a vs, v = .ref a ∧ SqF K H a vs ∧ RepL ds vs F
  | .dk ks ds, v, F => ∃ a vs G, v = .ref a ∧ H a = some (.dK (ks.zip vs)) ∧ ks.length = ds.length ∧ RepL ds vs G ∧ F = a :: G
  | .dt ks ds, v, F => ∃ a vs G, v = .ref a ∧ H a = some (.dT (ks.zip vs)) ∧ ks.length = ds.length ∧ RepL ds vs G ∧ F = a :: G
  | .ins n ds, v, F => ∃ a dx vs G, v = .ref a ∧ H a = some (.ins (adr n) dx ((fk n).zip vs)) ∧ ds.length ≤ (fk n).length ∧ RepL ds vs G ∧ F = a :: G
  | .exn n ds, v, F => v = .ref adr.ea ∧ F = [] ∧ (fx n = [] ∨ ∃ vs, H adr.ed = some (.xd ((fx n).zip vs)) ∧ (fx n).length = ds.length ∧ RepL ds vs [])
  | .clo n, v, F => (F = [] ∧ adr.con) ∧ ∃ f c dv, v = .ref f ∧ H f = some (.ext (adr.clo n f c dv)) ∧ H c = some (LamX.CodeO c adr.cq) ∧ (dv = .none ∨ ∃ t, dv = .ref t ∧ H t = some (.tup [.int 0]))
def RepL : List D → List V → List Addr → Prop
  | [], vs, F => vs = [] ∧ F = []
  | d :: ds, vs, F => ∃ v ws F1 F2, vs = v :: ws ∧ Rep d v F1 ∧ RepL ds ws F2 ∧ F = F1 ++ F2
end
end

/-- never changed: tuples, frozen things -/
def Imm : HO → Prop
  | .tup _ => True
  | .frz _ _ => True
  | .xd _ => True
  | .ext _ => True
  | _ => False
/-- what may be owned -/
def Ownd : HO → Prop
  | .lst _ => True
  | .dK _ => True
  | .dT _ => True
  | .ins _ _ _ => True
  | _ => False
theorem Ownd.mut {o : HO} (h : Ownd o) : Mut (some o) := by cases o <;> first | exact h | exact True.intro | exact h.elim
theorem Ownd.not_imm {o : HO} (h : Ownd o) : ¬ Imm o := by cases o <;> first | exact fun z => z | exact h.elim
def NoTbl (o : HO) : Prop := ∀ ps, o ≠ .tbl ps
theorem Ownd.notbl {o : HO} (h : Ownd o) : NoTbl o := fun ps e => by subst e; exact h
theorem Imm.notbl {o : HO} (h : Imm o) : NoTbl o := fun ps e => by subst e; exact h
/-- all stays but what F owns (and the tables of code) -/
structure Ext (F : List Addr) (H H' : Hp) : Prop where
  keep : ∀ b o, H b = some o → (b ∉ F ∨ Imm o) → NoTbl o → H' b = some o
  dom : ∀ b, H' b = Option.none → H b = Option.none
theorem Ext.refl (F : List Addr) (H : Hp) : Ext F H H := ⟨fun _ _ h _ _ => h, fun _ h => h⟩
theorem Ext.mono {F G : List Addr} {H H' : Hp} (e : Ext F H H') (h : ∀ b ∈ F, b ∈ G) : Ext G H H' := ⟨fun b o q n t => e.keep b o q (n.elim (fun z => .inl fun w => z (h b w)) .inr) t, e.dom⟩
theorem Ext.trans {F G : List Addr} {H H1 H2 : Hp} (a : Ext F H H1) (b : Ext G H1 H2) (h : ∀ c ∈ G, c ∈ F ∨ H c = none) : Ext F H H2 := ⟨fun c o q n t =>
  b.keep c o (a.keep c o q n t) (n.elim (fun z => .inl fun w => (h c w).elim z fun e => by rw [q] at e; cases e) .inr) t, fun c z => a.dom c (b.dom c z)⟩
theorem Ext.new {F : List Addr} {H : Hp} {p : Addr} {o : HO} (h : H p = none) : Ext F H (upd H p o) := ⟨fun b u q _ _ => by rw [upd_ne (ne_of_none q h)]; exact q, fun b z => by
  by_cases e : b = p
  · rw [e, upd_same] at z; cases z
  · rw [upd_ne e] at z; exact z⟩
theorem Ext.upd {F : List Addr} {H : Hp} {p : Addr} {o u : HO} (hp : H p = some u) (hu : Ownd u) (hF : p ∈ F) : Ext F H (L2.upd H p o) := ⟨fun b w q n _ => by
  have : b ≠ p := fun e => by
    subst e
    rw [hp] at q; cases q
    exact n.elim (fun z => z hF) hu.not_imm
  rw [upd_ne this]; exact q, fun b z => by
  by_cases e : b = p
  · rw [e, upd_same] at z; cases z
  · rw [upd_ne e] at z; exact z⟩
theorem Ext.imm {F : List Addr} {H H' : Hp} {b : Addr} {o : HO} (e : Ext F H H') (h : H b = some o) (i : Imm o) : H' b = some o := e.keep b o h (.inr i) i.notbl
theorem Ext.own {F : List Addr} {H H' : Hp} {b : Addr} {o : HO} (e : Ext F H H') (h : H b = some o) (i : Ownd o) (n : b ∉ F) : H' b = some o := e.keep b o h (.inl n) i.notbl
theorem Ext.sqt {K : PySem.W.Frag} {F : List Addr} {H H' : Hp} {a : Addr} {xs : List V} (e : Ext F H H') (h : SqT K H a xs) : SqT K H' a xs := by
  rcases h with (h | ⟨o, h⟩) | h
  · exact .inl (.inl (e.imm h True.intro))
  · exact .inl (.inr ⟨o, e.imm h True.intro⟩)
  · exact .inr h
theorem Ext.sqf {K : PySem.W.Frag} {F : List Addr} {H H' : Hp} {a : Addr} {xs : List V} (e : Ext F H H') (h : SqF K H a xs) : SqF K H' a xs := by
  rcases h with ⟨o, h⟩ | h
  · exact .inl ⟨o, e.imm h True.intro⟩
  · exact .inr h

section
variable {K : PySem.W.Frag} {adr : Adr} {H H' : Hp}
mutual
theorem rep_mem : ∀ (d : D) (v : V) (F : List Addr), Rep K adr H d v F → ∀ b ∈ F, ∃ o, H b = some o ∧ Ownd o
  | .non, _, _, h, b, hb => by rw [h.2] at hb; cases hb
  | .bl _, _, _, h, b, hb => by rw [h.2] at hb; cases hb
  | .int _, _, _, h, b, hb => by rw [h.2] at hb; cases hb
  | .str _, _, _, h, b, hb => by rw [h.2] at hb; cases hb
  | .ty _, _, _, h, b, hb => by rw [h.2] at hb; cases hb
  | .ref _, _, _, h, b, hb => by rw [h.2] at hb; cases hb
  | .tup ds, _, _, ⟨_, vs, _, _, h⟩, b, hb => repL_mem ds vs _ h b hb
  | .lst ds, _, _, ⟨a, vs, G, _, ho, h, e⟩, b, hb => by
    rw [e] at hb
    rcases List.mem_cons.mp hb with rfl | hb
    · exact ⟨_, ho, True.intro⟩
    · exact repL_mem ds vs _ h b hb
  | .fls ds, _, _, ⟨_, vs, _, _, h⟩, b, hb => repL_mem ds vs _ h b hb
  | .dk ks ds, _, _, ⟨a, vs, G, _, ho, _, h, e⟩, b, hb => by
    rw [e] at hb
    rcases List.mem_cons.mp hb with rfl | hb
    · exact ⟨_, ho, True.intro⟩
    · exact repL_mem ds vs _ h b hb
  | .dt ks ds, _, _, ⟨a, vs, G, _, ho, _, h, e⟩, b, hb => by
    rw [e] at hb
    rcases List.mem_cons.mp hb with rfl | hb
    · exact ⟨_, ho, True.intro⟩
    · exact repL_mem ds vs _ h b hb
  | .ins n ds, _, _, ⟨a, dx, vs, G, _, ho, _, h, e⟩, b, hb => by
    rw [e] at hb
    rcases List.mem_cons.mp hb with rfl | hb
    · exact ⟨_, ho, True.intro⟩
    · exact repL_mem ds vs _ h b hb
  | .exn _ _, _, _, h, b, hb => by rw [h.2.1] at hb; cases hb
  | .clo _, _, _, h, b, hb => by rw [h.1.1] at hb; cases hb
theorem repL_mem : ∀ (ds : List D) (vs : List V) (F : List Addr), RepL K adr H ds vs F → ∀ b ∈ F, ∃ o, H b = some o ∧ Ownd o
  | [], _, _, h, b, hb => by rw [h.2] at hb; cases hb
  | d :: ds, _, _, ⟨v, ws, F1, F2, _, h1, h2, e⟩, b, hb => by
    rw [e] at hb
    rcases List.mem_append.mp hb with hb | hb
    · exact rep_mem d v F1 h1 b hb
    · exact repL_mem ds ws F2 h2 b hb
end
mutual
theorem rep_ext {F0 : List Addr} (e : Ext F0 H H') : ∀ (d : D) (v : V) (F : List Addr), Rep K adr H d v F → (∀ b ∈ F, b ∉ F0) → Rep K adr H' d v F
  | .non, _, _, h, _ => h
  | .bl _, _, _, h, _ => h
  | .int _, _, _, h, _ => h
  | .str _, _, _, h, _ => h
  | .ty _, _, _, h, _ => h
  | .ref _, _, _, h, _ => h
  | .tup ds, _, _, ⟨a, vs, e1, ho, h⟩, n => ⟨a, vs, e1, e.sqt ho, repL_ext e ds vs _ h n⟩
  | .lst ds, _, _, ⟨a, vs, G, e1, ho, h, e2⟩, n => ⟨a, vs, G, e1, e.own ho True.intro (n a (by rw [e2]; exact List.mem_cons_self)), repL_ext e ds vs _ h (fun b hb => n b (by rw [e2]; exact List.mem_cons_of_mem _ hb)), e2⟩
  | .fls ds, _, _, ⟨a, vs, e1, ho, h⟩, n => ⟨a, vs, e1, e.sqf ho, repL_ext e ds vs _ h n⟩
  | .dk ks ds, _, _, ⟨a, vs, G, e1, ho, hl, h, e2⟩, n => ⟨a, vs, G, e1, e.own ho True.intro (n a (by rw [e2]; exact List.mem_cons_self)), hl, repL_ext e ds vs _ h (fun b hb => n b (by rw [e2]; exact List.mem_cons_of_mem _ hb)), e2⟩
  | .dt ks ds, _, _, ⟨a, vs, G, e1, ho, hl, h, e2⟩, n => ⟨a, vs, G, e1, e.own ho True.intro (n a (by rw [e2]; exact List.mem_cons_self)), hl, repL_ext e ds vs _ h (fun b hb => n b (by rw [e2]; exact List.mem_cons_of_mem _ hb)), e2⟩
  | .ins k ds, _, _, ⟨a, dx, vs, G, e1, ho, hl, h, e2⟩, n => ⟨a, dx, vs, G, e1, e.own ho True.intro (n a (by rw [e2]; exact List.mem_cons_self)), hl, repL_ext e ds vs _ h (fun b hb => n b (by rw [e2]; exact List.mem_cons_of_mem _ hb)), e2⟩
  | .exn k ds, _, _, ⟨e1, e2, h⟩, n => ⟨e1, e2, h.elim .inl fun ⟨vs, ho, hl, h⟩ => .inr ⟨vs, e.imm ho True.intro, hl, repL_ext e ds vs _ h (fun b hb => nomatch hb)⟩⟩
  | .clo k, _, _, ⟨e1, f, c, dv, e2, h1, h2, h3⟩, n => ⟨e1, f, c, dv, e2, e.imm h1 True.intro, e.imm h2 True.intro, h3.imp id fun ⟨t, a, b⟩ => ⟨t, a, e.imm b True.intro⟩⟩
theorem repL_ext {F0 : List Addr} (e : Ext F0 H H') : ∀ (ds : List D) (vs : List V) (F : List Addr), RepL K adr H ds vs F → (∀ b ∈ F, b ∉ F0) → RepL K adr H' ds vs F
  | [], _, _, h, _ => h
  | d :: ds, _, _, ⟨v, ws, F1, F2, e1, h1, h2, e2⟩, n => ⟨v, ws, F1, F2, e1, rep_ext e d v F1 h1 (fun b hb => n b (by rw [e2]; exact List.mem_append_left _ hb)), repL_ext e ds ws F2 h2 (fun b hb => n b (by rw [e2]; exact List.mem_append_right _ hb)), e2⟩
end
theorem Rep.mem {d : D} {v : V} {F : List Addr} (h : Rep K adr H d v F) : ∀ b ∈ F, ∃ o, H b = some o ∧ Ownd o := rep_mem d v F h
theorem RepL.mem {d : List D} {v : List V} {F : List Addr} (h : RepL K adr H d v F) : ∀ b ∈ F, ∃ o, H b = some o ∧ Ownd o := repL_mem d v F h
theorem Rep.ext {F0 : List Addr} (e : Ext F0 H H') {d : D} {v : V} {F : List Addr} (h : Rep K adr H d v F) (n : ∀ b ∈ F, b ∉ F0) : Rep K adr H' d v F := rep_ext e d v F h n
theorem RepL.ext {F0 : List Addr} (e : Ext F0 H H') {d : List D} {v : List V} {F : List Addr} (h : RepL K adr H d v F) (n : ∀ b ∈ F, b ∉ F0) : RepL K adr H' d v F := repL_ext e d v F h n
theorem RepL.length : ∀ {ds : List D} {vs : List V} {F : List Addr}, RepL K adr H ds vs F → vs.length = ds.length
  | [], _, _, h => by rw [h.1]; rfl
  | d :: ds, _, _, ⟨v, ws, F1, F2, e1, h1, h2, e2⟩ => by rw [e1, List.length_cons, List.length_cons, RepL.length h2]
theorem repL_nil : RepL K adr H [] [] [] := ⟨rfl, rfl⟩
theorem repL_cons {d : D} {ds : List D} {v : V} {vs : List V} {F1 F2 : List Addr} (h1 : Rep K adr H d v F1) (h2 : RepL K adr H ds vs F2) : RepL K adr H (d :: ds) (v :: vs) (F1 ++ F2) := ⟨v, vs, F1, F2, rfl, h1, h2, rfl⟩
theorem repL_append : ∀ {ds es : List D} {vs ws : List V} {F G : List Addr}, RepL K adr H ds vs F → RepL K adr H es ws G → RepL K adr H (ds ++ es) (vs ++ ws) (F ++ G)
  | [], _, _, _, _, _, h, g => by rw [h.1, h.2]; exact g
  | d :: ds, _, _, _, _, _, ⟨v, ws, F1, F2, e1, h1, h2, e2⟩, g => by
    rw [e1, e2, List.append_assoc]
    exact ⟨v, _, F1, _, rfl, h1, repL_append h2 g, rfl⟩

/-! ### data that owns nothing -/
mutual
def dup : D → Bool
  | .non => true | .bl _ => true | .int _ => true | .str _ => true | .ty _ => true | .ref _ => true
  | .tup ds => dupL ds
  | .lst _ => false
  | .fls ds => dupL ds
  | .dk _ _ => false
  | .dt _ _ => false
  | .ins _ _ => false
  | .exn _ _ => true
  | .clo _ => true
def dupL : List D → Bool
  | [] => true
  | d :: ds => dup d && dupL ds
end
mutual
theorem rep_dup : ∀ (d : D) (v : V) (F : List Addr), dup d = true → Rep K adr H d v F → F = []
  | .non, _, _, _, h => h.2
  | .bl _, _, _, _, h => h.2
  | .int _, _, _, _, h => h.2
  | .str _, _, _, _, h => h.2
  | .ty _, _, _, _, h => h.2
  | .ref _, _, _, _, h => h.2
  | .tup ds, _, _, q, ⟨a, vs, e1, ho, h⟩ => repL_dup ds vs _ q h
  | .lst ds, _, _, q, _ => by cases q
  | .fls ds, _, _, q, ⟨a, vs, e1, ho, h⟩ => repL_dup ds vs _ q h
  | .dk ks ds, _, _, q, _ => by cases q
  | .dt ks ds, _, _, q, _ => by cases q
  | .ins n ds, _, _, q, _ => by cases q
  | .exn _ _, _, _, _, h => h.2.1
  | .clo _, _, _, _, h => h.1.1
theorem repL_dup : ∀ (ds : List D) (vs : List V) (F : List Addr), dupL ds = true → RepL K adr H ds vs F → F = []
  | [], _, _, _, h => h.2
  | d :: ds, _, _, q, ⟨v, ws, F1, F2, e1, h1, h2, e2⟩ => by
    have q' : (dup d && dupL ds) = true := q
    rw [Bool.and_eq_true] at q'
    rw [e2, rep_dup d v F1 q'.1 h1, repL_dup ds ws F2 q'.2 h2]; rfl
end
theorem Rep.dup {d : D} {v : V} {F : List Addr} (h : Rep K adr H d v F) (q : DL.dup d = true) : Rep K adr H d v [] := by
  have e := rep_dup d v F q h
  rw [e] at h; exact h
theorem Rep.dup' {d : D} {v : V} {F : List Addr} (h : Rep K adr H d v F) (q : DL.dup d = true) : F = [] := rep_dup d v F q h
theorem RepL.dup' {d : List D} {v : List V} {F : List Addr} (h : RepL K adr H d v F) (q : DL.dupL d = true) : F = [] := repL_dup d v F q h
theorem Rep.ext0 {F0 : List Addr} (e : Ext F0 H H') {d : D} {v : V} (h : Rep K adr H d v []) : Rep K adr H' d v [] := h.ext e (fun b hb => by cases hb)
theorem RepL.ext0 {F0 : List Addr} (e : Ext F0 H H') {d : List D} {v : List V} (h : RepL K adr H d v []) : RepL K adr H' d v [] := h.ext e (fun b hb => by cases hb)
/-- an item -/
theorem RepL.get : ∀ {ds : List D} {vs : List V} {F : List Addr} {i : Nat} {d : D}, RepL K adr H ds vs F → ds[i]? = some d → ∃ v G, vs[i]? = some v ∧ Rep K adr H d v G ∧ ∀ b ∈ G, b ∈ F
  | [], _, _, _, _, _, e => by simp at e
  | d :: ds, _, _, 0, _, ⟨v, ws, F1, F2, e1, h1, h2, e2⟩, e => by
    simp at e; subst e
    exact ⟨v, F1, by rw [e1]; rfl, h1, fun b hb => by rw [e2]; exact List.mem_append_left _ hb⟩
  | d :: ds, _, _, i + 1, _, ⟨v, ws, F1, F2, e1, h1, h2, e2⟩, e => by
    obtain ⟨w, G, a, b, c⟩ := RepL.get (i := i) h2 (by simpa using e)
    exact ⟨w, G, by rw [e1]; simpa using a, b, fun x hx => by rw [e2]; exact List.mem_append_right _ (c x hx)⟩
theorem dupL_get : ∀ {ds : List D} {i : Nat} {d : D}, dupL ds = true → ds[i]? = some d → dup d = true
  | [], _, _, _, e => by simp at e
  | d :: ds, 0, _, q, e => by
    simp at e; subst e
    have q' : (dup d && dupL ds) = true := q
    rw [Bool.and_eq_true] at q'; exact q'.1
  | d :: ds, i + 1, _, q, e => by
    have q' : (dup d && dupL ds) = true := q
    rw [Bool.and_eq_true] at q'
    exact dupL_get (i := i) q'.2 (by simpa using e)
end
end DL
set_option Elab.async false
set_option linter.all false
set_option maxRecDepth 100000
set_option maxHeartbeats 4000000
namespace DL
open PySem L2
open LamX (Tabs)

/-! ### the def's names: what each slot holds -/
abbrev Env := List (Option D)
section
variable (K : PySem.W.Frag) (adr : Adr) (H : Hp)
def RepS : Env → St → List Addr → Prop
  | [], σ, F => σ = [] ∧ F = []
  | none :: ρ, σ, F => ∃ s σ', σ = s :: σ' ∧ RepS ρ σ' F
  | some d :: ρ, σ, F => ∃ v σ' F1 F2, σ = some v :: σ' ∧ Rep K adr H d v F1 ∧ RepS ρ σ' F2 ∧ F = F1 ++ F2
end
section
variable {K : PySem.W.Frag} {adr : Adr} {H H' : Hp}
theorem RepS.length : ∀ {ρ : Env} {σ : St} {F : List Addr}, RepS K adr H ρ σ F → ρ.length = σ.length
  | [], _, _, h => by rw [h.1]; rfl
  | none :: ρ, _, _, ⟨s, σ', e, h⟩ => by rw [e, List.length_cons, List.length_cons, h.length]
  | some d :: ρ, _, _, ⟨v, σ', F1, F2, e, _, h, _⟩ => by rw [e, List.length_cons, List.length_cons, h.length]
theorem RepS.mem : ∀ {ρ : Env} {σ : St} {F : List Addr}, RepS K adr H ρ σ F → ∀ b ∈ F, ∃ o, H b = some o ∧ Ownd o
  | [], _, _, h, b, hb => by rw [h.2] at hb; cases hb
  | none :: ρ, _, _, ⟨s, σ', e, h⟩, b, hb => h.mem b hb
  | some d :: ρ, _, _, ⟨v, σ', F1, F2, e, r, h, e2⟩, b, hb => by
    rw [e2] at hb
    rcases List.mem_append.mp hb with hb | hb
    · exact r.mem b hb
    · exact h.mem b hb
theorem RepS.ext {F0 : List Addr} (e : Ext F0 H H') : ∀ {ρ : Env} {σ : St} {F : List Addr}, RepS K adr H ρ σ F → (∀ b ∈ F, b ∉ F0) → RepS K adr H' ρ σ F
  | [], _, _, h, _ => h
  | none :: ρ, _, _, ⟨s, σ', e1, h⟩, n => ⟨s, σ', e1, h.ext e n⟩
  | some d :: ρ, _, _, ⟨v, σ', F1, F2, e1, r, h, e2⟩, n => ⟨v, σ', F1, F2, e1, r.ext e fun b hb => n b (by rw [e2]; exact List.mem_append_left _ hb), h.ext e fun b hb => n b (by rw [e2]; exact List.mem_append_right _ hb), e2⟩
/-- a slot's thing is taken out -/
theorem RepS.take : ∀ {ρ : Env} {σ : St} {F : List Addr} {i : Nat} {d : D}, RepS K adr H ρ σ F → ρ[i]? = some (some d) → ∃ v G F', σ[i]? = some (some v) ∧ Rep K adr H d v G ∧ RepS K adr H (ρ.set i none) σ F' ∧ F.Perm (F' ++ G)
  | [], _, _, _, _, _, e => by simp at e
  | none :: ρ, _, _, 0, _, _, e => by simp at e
  | some d :: ρ, _, _, 0, _, ⟨v, σ', F1, F2, e1, r, h, e2⟩, e => by
    simp at e; subst e
    exact ⟨v, F1, F2, by rw [e1]; rfl, r, ⟨_, σ', e1, h⟩, by rw [e2]; exact List.perm_append_comm⟩
  | none :: ρ, _, _, i + 1, _, ⟨s, σ', e1, h⟩, e => by
    obtain ⟨v, G, F', a, b, c, p⟩ := h.take (i := i) (by simpa using e)
    exact ⟨v, G, F', by rw [e1]; simpa using a, b, ⟨s, σ', e1, c⟩, p⟩
  | some d :: ρ, _, _, i + 1, _, ⟨v, σ', F1, F2, e1, r, h, e2⟩, e => by
    obtain ⟨w, G, F', a, b, c, p⟩ := h.take (i := i) (by simpa using e)
    refine ⟨w, G, F1 ++ F', by rw [e1]; simpa using a, b, ⟨v, σ', F1, F', e1, r, c, rfl⟩, ?_⟩
    rw [e2, List.append_assoc]
    exact p.append_left F1
/-- a slot's thing, where it owns nothing -/
theorem RepS.get {ρ : Env} {σ : St} {F : List Addr} {i : Nat} {d : D} (h : RepS K adr H ρ σ F) (e : ρ[i]? = some (some d)) : ∃ v G, σ[i]? = some (some v) ∧ Rep K adr H d v G ∧ ∀ b ∈ G, b ∈ F := by
  obtain ⟨v, G, F', a, b, _, p⟩ := h.take e
  exact ⟨v, G, a, b, fun x hx => p.mem_iff.mpr (List.mem_append_right _ hx)⟩
/-- a slot is forgotten -/
theorem RepS.kill : ∀ {ρ : Env} {σ : St} {F : List Addr} (i : Nat), RepS K adr H ρ σ F → ∃ F', RepS K adr H (ρ.set i none) σ F' ∧ F'.Sublist F
  | [], _, _, _, h => ⟨_, h, .refl _⟩
  | none :: ρ, _, F, 0, ⟨s, σ', e1, h⟩ => ⟨F, ⟨s, σ', e1, h⟩, .refl _⟩
  | some d :: ρ, _, _, 0, ⟨v, σ', F1, F2, e1, r, h, e2⟩ => ⟨F2, ⟨_, σ', e1, h⟩, by rw [e2]; exact List.sublist_append_right _ _⟩
  | none :: ρ, _, _, i + 1, ⟨s, σ', e1, h⟩ => by
    obtain ⟨F', a, b⟩ := h.kill i
    exact ⟨F', ⟨s, σ', e1, a⟩, b⟩
  | some d :: ρ, _, _, i + 1, ⟨v, σ', F1, F2, e1, r, h, e2⟩ => by
    obtain ⟨F', a, b⟩ := h.kill i
    exact ⟨F1 ++ F', ⟨v, σ', F1, F', e1, r, a, rfl⟩, by rw [e2]; exact b.append_left F1⟩
/-- an empty slot is filled, the frame's own one with it (σ' differs at i alone) -/
theorem RepS.put : ∀ {ρ : Env} {σ : St} {F : List Addr} {i : Nat} {d : D} {v : V} {G : List Addr}, RepS K adr H ρ σ F → i < ρ.length → (ρ[i]? = some none) → Rep K adr H d v G → ∃ F', RepS K adr H (ρ.set i (some d)) (σ.set i (some v)) F' ∧ F'.Perm (F ++ G)
  | [], _, _, _, _, _, _, _, hi, _, _ => by simp at hi
  | none :: ρ, _, F, 0, d, v, G, ⟨s, σ', e1, h⟩, _, _, r => ⟨G ++ F, by rw [e1]; exact ⟨v, σ', G, F, rfl, r, h, rfl⟩, List.perm_append_comm⟩
  | some _ :: ρ, _, _, 0, _, _, _, _, _, e, _ => by simp at e
  | none :: ρ, _, _, i + 1, d, v, G, ⟨s, σ', e1, h⟩, hi, e, r => by
    obtain ⟨F', a, p⟩ := h.put (i := i) (d := d) (by simpa using hi) (by simpa using e) r
    exact ⟨F', by rw [e1]; exact ⟨s, _, rfl, a⟩, p⟩
  | some d0 :: ρ, _, _, i + 1, d, v, G, ⟨v0, σ', F1, F2, e1, r0, h, e2⟩, hi, e, r => by
    obtain ⟨F', a, p⟩ := h.put (i := i) (d := d) (by simpa using hi) (by simpa using e) r
    refine ⟨F1 ++ F', by rw [e1]; exact ⟨v0, _, F1, F', rfl, r0, a, rfl⟩, ?_⟩
    rw [e2, List.append_assoc]
    exact p.append_left F1
theorem set_self {σ : St} {i : Nat} {x : Option V} (h : σ[i]? = some x) : σ.set i x = σ := by
  apply List.ext_getElem?
  intro j
  by_cases e : i = j
  · subst e
    have hi : i < σ.length := (List.getElem?_eq_some_iff.mp h).1
    rw [List.getElem?_set_self hi, h]
  · rw [List.getElem?_set_ne e]
/-- an empty slot whose frame's own place holds the value already -/
theorem RepS.refill {ρ : Env} {σ : St} {F : List Addr} {i : Nat} {d : D} {v : V} {G : List Addr} (h : RepS K adr H ρ σ F) (e : ρ[i]? = some none) (hv : σ[i]? = some (some v)) (r : Rep K adr H d v G) : ∃ F', RepS K adr H (ρ.set i (some d)) σ F' ∧ F'.Perm (F ++ G) := by
  obtain ⟨F', a, p⟩ := h.put (List.getElem?_eq_some_iff.mp e).1 e r
  rw [set_self hv] at a
  exact ⟨F', a, p⟩
end

/-! ### results -/
/-- an exception: its class, its fields -/
structure Xc where
  cls : Nat
  ds : List D
inductive Res (α : Type) where
  | ok (a : α) (ρ : Env)
  | exc (x : Xc) (ρ : Env)
  | fail
def Res.bind {α β : Type} : Res α → (α → Env → Res β) → Res β
  | .ok a ρ, f => f a ρ
  | .exc x ρ, _ => .exc x ρ
  | .fail, _ => .fail
abbrev EM := Env → Res D
abbrev AM := Env → Res (List D)

section
variable (K : PySem.W.Frag) (adr : Adr) (T : List (Addr × Str))
/-- from what F owns at H to what G owns at H' -/
structure Stp (F : List Addr) (H : Hp) (G : List Addr) (H' : Hp) : Prop where
  ext : Ext F H H'
  frs : ∀ b ∈ G, b ∈ F ∨ H b = none
  tab : Tabs T H'
def RepX (H : Hp) (x : Xc) (cls : Value) (dx : Option Addr) : Prop :=
  cls = .ref (adr x.cls) ∧ ((fx x.cls = [] ∧ x.ds = [] ∧ dx = none) ∨ (fx x.cls ≠ [] ∧ ∃ a vs, dx = some a ∧ H a = some (.xd ((fx x.cls).zip vs)) ∧ (fx x.cls).length = x.ds.length ∧ RepL K adr H x.ds vs []))
def PostE (F : List Addr) (H : Hp) (σ : St) (ρ' : Env) (d : D) (v : V) (H' : Hp) : Prop :=
  ∃ F' Fd, RepS K adr H' ρ' σ F' ∧ Rep K adr H' d v Fd ∧ (F' ++ Fd).Nodup ∧ Stp T F H (F' ++ Fd) H'
def PostA (F : List Addr) (H : Hp) (σ : St) (ρ' : Env) (ds : List D) (vs : List V) (H' : Hp) : Prop :=
  ∃ F' Fd, RepS K adr H' ρ' σ F' ∧ RepL K adr H' ds vs Fd ∧ (F' ++ Fd).Nodup ∧ Stp T F H (F' ++ Fd) H'
def PostX (F : List Addr) (H : Hp) (σ : St) (ρ' : Env) (x : Xc) (cls : Value) (dx : Option Addr) (H' : Hp) : Prop :=
  ∃ F', RepS K adr H' ρ' σ F' ∧ RepX K adr H' x cls dx ∧ F'.Nodup ∧ Stp T F H F' H'
/-- what is wanted of a result -/
def Hold (W : WX) (r : Res D) (F : List Addr) (H : Hp) (σ : St) (Q : VK) : Prop :=
  match r with
  | .ok d ρ' => ∀ v H', PostE K adr T F H σ ρ' d v H' → Q v H'
  | .exc x ρ' => ∀ cls dx H', PostX K adr T F H σ ρ' x cls dx H' → W cls dx σ H'
  | .fail => False
def HoldA (W : WX) (r : Res (List D)) (F : List Addr) (H : Hp) (σ : St) (Q : List V → Hp → Prop) : Prop :=
  match r with
  | .ok ds ρ' => ∀ vs H', PostA K adr T F H σ ρ' ds vs H' → Q vs H'
  | .exc x ρ' => ∀ cls dx H', PostX K adr T F H σ ρ' x cls dx H' → W cls dx σ H'
  | .fail => False
structure Sim (ρ : Env) (σ : St) (H : Hp) (F : List Addr) : Prop where
  rep : RepS K adr H ρ σ F
  nd : F.Nodup
  tab : Tabs T H
/-- the readings of data -/
def tD (W : WX) (f : EM) : TE := fun σ H Q => ∃ ρ F, Sim K adr T ρ σ H F ∧ Hold K adr T W (f ρ) F H σ Q
def tDA (W : WX) (f : AM) : TA := fun σ H Q => ∃ ρ F, Sim K adr T ρ σ H F ∧ HoldA K adr T W (f ρ) F H σ Q
end

theorem perm_nodup {F G : List Addr} (p : F.Perm G) (n : F.Nodup) : G.Nodup := p.nodup_iff.mp n

section
variable {K : PySem.W.Frag} {adr : Adr} {T : List (Addr × Str)} {F G G' F1 : List Addr} {H H1 H2 : Hp} {σ : St} {W : WX} {ρ ρ' : Env}
theorem Stp.refl (t : Tabs T H) (h : ∀ b ∈ G, b ∈ F) : Stp T F H G H := ⟨Ext.refl _ _, fun b hb => .inl (h b hb), t⟩
theorem Stp.trans (a : Stp T F H G H1) (b : Stp T G' H1 F1 H2) (h : ∀ c ∈ G', c ∈ G) : Stp T F H F1 H2 :=
  ⟨a.ext.trans b.ext fun c hc => a.frs c (h c hc), fun c hc => (b.frs c hc).elim (fun z => a.frs c (h c z)) fun z => .inr (a.ext.dom c z), b.tab⟩
theorem Stp.sub (a : Stp T F H G H1) (h : ∀ c ∈ G', c ∈ G) : Stp T F H G' H1 := ⟨a.ext, fun c hc => a.frs c (h c hc), a.tab⟩
theorem Stp.mono (a : Stp T F H G H1) (h : ∀ c ∈ F, c ∈ F1) : Stp T F1 H G H1 := ⟨a.ext.mono h, fun c hc => (a.frs c hc).imp (h c) id, a.tab⟩
/-- things held aside stay apart -/
theorem nodup_aside {A B C : List Addr} (n : (A ++ C).Nodup) (nb : B.Nodup) (fr : ∀ b ∈ B, b ∈ A ∨ H b = none) (hc : ∀ b ∈ C, H b ≠ none) : (B ++ C).Nodup := by
  obtain ⟨n1, n2, n3⟩ := List.nodup_append.mp n
  refine List.nodup_append.mpr ⟨nb, n2, fun x hx y hy e => ?_⟩
  subst e
  rcases fr x hx with z | z
  · exact n3 x z x hy rfl
  · exact hc x hy z
theorem apart_of {A C : List Addr} (n : (A ++ C).Nodup) : ∀ b ∈ C, b ∉ A := fun b hb ha => (List.nodup_append.mp n).2.2 b ha b hb rfl
theorem ne_none_of {b : Addr} (h : ∃ o, H b = some o ∧ Ownd o) : H b ≠ none := by
  obtain ⟨o, e, _⟩ := h
  rw [e]; exact fun z => nomatch z
theorem Hold.weak {r : Res D} {Q : VK} (st : Stp T F H G H1) (h : Hold K adr T W r F H σ Q) : Hold K adr T W r G H1 σ Q := by
  cases r with
  | ok d ρ' => exact fun v H' ⟨F', Fd, a, b, c, d⟩ => h v H' ⟨F', Fd, a, b, c, st.trans d fun _ z => z⟩
  | exc x ρ' => exact fun cls dx H' ⟨F', a, b, c, d⟩ => h cls dx H' ⟨F', a, b, c, st.trans d fun _ z => z⟩
  | fail => exact h
theorem HoldA.weak {r : Res (List D)} {Q : List V → Hp → Prop} (st : Stp T F H G H1) (h : HoldA K adr T W r F H σ Q) : HoldA K adr T W r G H1 σ Q := by
  cases r with
  | ok d ρ' => exact fun v H' ⟨F', Fd, a, b, c, d⟩ => h v H' ⟨F', Fd, a, b, c, st.trans d fun _ z => z⟩
  | exc x ρ' => exact fun cls dx H' ⟨F', a, b, c, d⟩ => h cls dx H' ⟨F', a, b, c, st.trans d fun _ z => z⟩
  | fail => exact h
theorem PostE.sim {d : D} {v : V} (p : PostE K adr T F H σ ρ' d v H1) : ∃ F' Fd, Sim K adr T ρ' σ H1 F' ∧ Rep K adr H1 d v Fd ∧ (F' ++ Fd).Nodup ∧ Stp T F H (F' ++ Fd) H1 := by
  obtain ⟨F', Fd, a, b, c, d⟩ := p
  exact ⟨F', Fd, ⟨a, (List.nodup_append.mp c).1, d.tab⟩, b, c, d⟩

/-! ### one operand, two operands, then something -/
def e1 (f : EM) (k : D → Env → Res D) : EM := fun ρ => (f ρ).bind k
def e2 (f g : EM) (k : D → D → Env → Res D) : EM := fun ρ => (f ρ).bind fun x ρ => (g ρ).bind fun y ρ => k x y ρ
theorem t1 {f : EM} {k : D → Env → Res D} {Q : VK} {R : V → Hp → Prop} (h : tD K adr T W (e1 f k) σ H Q)
    (hk : ∀ dx ρ1 F Fx x H1, Sim K adr T ρ1 σ H1 F → Rep K adr H1 dx x Fx → (F ++ Fx).Nodup → Hold K adr T W (k dx ρ1) (F ++ Fx) H1 σ Q → R x H1) : tD K adr T W f σ H R := by
  obtain ⟨ρ, F, S, h⟩ := h
  refine ⟨ρ, F, S, ?_⟩
  unfold e1 at h
  cases e : f ρ with
  | ok dx ρ1 =>
    rw [e] at h
    intro x H1 p
    obtain ⟨F1, Fx, S1, r, n, st⟩ := p.sim
    exact hk dx ρ1 F1 Fx x H1 S1 r n (Hold.weak st h)
  | exc x ρ1 => rw [e] at h; exact h
  | fail => rw [e] at h; exact h
theorem t2 {f g : EM} {k : D → D → Env → Res D} {Q : VK} {R : V → V → Hp → Prop} (h : tD K adr T W (e2 f g k) σ H Q)
    (hk : ∀ dx dy ρ2 F Fx Fy x y H2, Sim K adr T ρ2 σ H2 F → Rep K adr H2 dx x Fx → Rep K adr H2 dy y Fy → (F ++ (Fx ++ Fy)).Nodup → Hold K adr T W (k dx dy ρ2) (F ++ (Fx ++ Fy)) H2 σ Q → R x y H2) :
    tD K adr T W f σ H fun x H1 => tD K adr T W g σ H1 fun y H2 => R x y H2 := by
  refine t1 (k := fun dx ρ1 => (g ρ1).bind fun y ρ => k dx y ρ) h fun dx ρ1 F Fx x H1 S1 r n h1 => ?_
  refine ⟨ρ1, F, S1, ?_⟩
  have hx : ∀ b ∈ Fx, H1 b ≠ none := fun b hb => ne_none_of (r.mem b hb)
  cases e : g ρ1 with
  | ok dy ρ2 =>
    rw [e] at h1
    intro y H2 p
    obtain ⟨F2, Fy, S2, r2, n2, st⟩ := p.sim
    have h1' : Hold K adr T W (k dx dy ρ2) (F ++ Fx) H1 σ Q := h1
    have rx : Rep K adr H2 dx x Fx := r.ext st.ext (apart_of n)
    have nn : ((F2 ++ Fy) ++ Fx).Nodup := nodup_aside n n2 st.frs hx
    have n3 : (F2 ++ (Fx ++ Fy)).Nodup := by
      rw [List.append_assoc] at nn
      exact perm_nodup (List.perm_append_comm.append_left F2) nn
    refine hk dx dy ρ2 F2 Fx Fy x y H2 S2 rx r2 n3 (Hold.weak ?_ h1')
    refine ⟨st.ext.mono fun b hb => List.mem_append_left _ hb, fun b hb => ?_, st.tab⟩
    rcases List.mem_append.mp hb with z | z
    · exact (st.frs b (List.mem_append_left _ z)).imp (List.mem_append_left _) id
    · rcases List.mem_append.mp z with z | z
      · exact .inl (List.mem_append_right _ z)
      · exact (st.frs b (List.mem_append_right _ z)).imp (List.mem_append_left _) id
  | exc xx ρ2 =>
    rw [e] at h1
    intro cls dx' H2 ⟨F2, a, b, c, st⟩
    have h1' : Hold K adr T W (.exc xx ρ2) (F ++ Fx) H1 σ Q := h1
    exact h1' cls dx' H2 ⟨F2, a, b, c, st.mono fun b hb => List.mem_append_left _ hb⟩
  | fail => rw [e] at h1; exact h1

/-! ### argument lists -/
def aNil : AM := fun ρ => .ok [] ρ
def aCons (f : EM) (g : AM) : AM := fun ρ => (f ρ).bind fun d ρ => (g ρ).bind fun ds ρ => .ok (d :: ds) ρ
theorem tda_nil {Q : List V → Hp → Prop} (h : tDA K adr T W aNil σ H Q) : tNil σ H Q := by
  obtain ⟨ρ, F, S, h⟩ := h
  exact h [] H ⟨F, [], S.rep, repL_nil, by simpa using S.nd, Stp.refl S.tab (by simp)⟩
theorem tda_cons {f : EM} {g : AM} {Q : List V → Hp → Prop} (h : tDA K adr T W (aCons f g) σ H Q) : tCons (tD K adr T W f) (tDA K adr T W g) σ H Q := by
  obtain ⟨ρ, F, S, h⟩ := h
  refine ⟨ρ, F, S, ?_⟩
  unfold aCons at h
  cases e : f ρ with
  | exc x ρ1 => rw [e] at h; exact h
  | fail => rw [e] at h; exact h
  | ok d ρ1 =>
    rw [e] at h
    intro x H1 p
    obtain ⟨F1, Fx, S1, r, n, st1⟩ := p.sim
    refine ⟨ρ1, F1, S1, ?_⟩
    have hx : ∀ b ∈ Fx, H1 b ≠ none := fun b hb => ne_none_of (r.mem b hb)
    have h1 : HoldA K adr T W ((g ρ1).bind fun ds ρ => .ok (d :: ds) ρ) (F1 ++ Fx) H1 σ Q := HoldA.weak st1 h
    cases e2 : g ρ1 with
    | exc x ρ2 =>
      rw [e2] at h1
      intro cls dx' H2 ⟨F2, a, b, c, st⟩
      have h1' : HoldA K adr T W (.exc x ρ2) (F1 ++ Fx) H1 σ Q := h1
      exact h1' cls dx' H2 ⟨F2, a, b, c, st.mono fun b hb => List.mem_append_left _ hb⟩
    | fail => rw [e2] at h1; exact h1
    | ok ds ρ2 =>
      rw [e2] at h1
      intro ys H2 ⟨F2, Fy, s2, r2, n2, st⟩
      have h1' : HoldA K adr T W (.ok (d :: ds) ρ2) (F1 ++ Fx) H1 σ Q := h1
      have rx : Rep K adr H2 d x Fx := r.ext st.ext (apart_of n)
      have nn : ((F2 ++ Fy) ++ Fx).Nodup := nodup_aside n n2 st.frs hx
      have n3 : (F2 ++ (Fx ++ Fy)).Nodup := by
        rw [List.append_assoc] at nn
        exact perm_nodup (List.perm_append_comm.append_left F2) nn
      refine h1' (x :: ys) H2 ⟨F2, Fx ++ Fy, s2, repL_cons rx r2, n3, st.ext.mono fun b hb => List.mem_append_left _ hb, fun b hb => ?_, st.tab⟩
      rcases List.mem_append.mp hb with z | z
      · exact (st.frs b (List.mem_append_left _ z)).imp (List.mem_append_left _) id
      · rcases List.mem_append.mp z with z | z
        · exact .inl (List.mem_append_right _ z)
        · exact (st.frs b (List.mem_append_right _ z)).imp (List.mem_append_left _) id
/-- the arguments, then something -/
def eA (g : AM) (k : List D → Env → Res D) : EM := fun ρ => (g ρ).bind k
theorem tA {g : AM} {k : List D → Env → Res D} {Q : VK} {R : List V → Hp → Prop} (h : tD K adr T W (eA g k) σ H Q)
    (hk : ∀ ds ρ1 F Fx xs H1, Sim K adr T ρ1 σ H1 F → RepL K adr H1 ds xs Fx → (F ++ Fx).Nodup → Hold K adr T W (k ds ρ1) (F ++ Fx) H1 σ Q → R xs H1) : tDA K adr T W g σ H R := by
  obtain ⟨ρ, F, S, h⟩ := h
  refine ⟨ρ, F, S, ?_⟩
  unfold eA at h
  cases e : g ρ with
  | ok ds ρ1 =>
    rw [e] at h
    intro xs H1 ⟨F1, Fx, s1, r, n, st⟩
    exact hk ds ρ1 F1 Fx xs H1 ⟨s1, (List.nodup_append.mp n).1, st.tab⟩ r n (Hold.weak st h)
  | exc x ρ1 => rw [e] at h; exact h
  | fail => rw [e] at h; exact h
end

/-! ### readings are weakened -/
section
variable {X : Cx}
theorem PE.imp {e : Expr} {t t' : TE} (h : PE X e t) (w : ∀ σ H Q, t' σ H Q → t σ H Q) : PE X e t' := ⟨fun pins s σ H Q I q => h.run pins s σ H Q I (w _ _ _ q)⟩
theorem PA.imp {e : List Expr} {t t' : TA} (h : PA X e t) (w : ∀ σ H Q, t' σ H Q → t σ H Q) : PA X e t' := ⟨fun pos pins s σ H Q I q => h.run pos pins s σ H Q I (w _ _ _ q)⟩
theorem PT.imp {e : Expr} {t t' : TT} (h : PT X e t) (w : ∀ σ H Q, t' σ H Q → t σ H Q) : PT X e t' := ⟨fun pins s σ H Q I q => h.run pins s σ H Q I (w _ _ _ q)⟩
theorem PS.imp {e : Stmt} {t t' : TS} (h : PS X e t) (w : ∀ D σ H, t' D σ H → t D σ H) : PS X e t' := ⟨fun pins s σ H D I q => h.run pins s σ H D I (w _ _ _ q)⟩
theorem PSs.imp {e : List Stmt} {t t' : TS} (h : PSs X e t) (w : ∀ D σ H, t' D σ H → t D σ H) : PSs X e t' := ⟨fun pins s σ H D I q => h.run pins s σ H D I (w _ _ _ q)⟩
end
end DL
set_option Elab.async false
set_option linter.all false
set_option maxRecDepth 100000
set_option maxHeartbeats 4000000
namespace DL
open PySem L2
open LamX (Tabs)

section
variable {K : PySem.W.Frag} {adr : Adr} {T : List (Addr × Str)} {F G G' F1 : List Addr} {H H1 H2 : Hp} {σ : L2.St} {W : WX} {ρ ρ' : Env}
/-- a further operand, things held aside -/
theorem tn {f : EM} {k : D → Env → Res D} {Q : VK} {R : V → Hp → Prop} (S : Sim K adr T ρ σ H F) (n : (F ++ G).Nodup) (hG : ∀ b ∈ G, H b ≠ none) (h : Hold K adr T W ((f ρ).bind k) (F ++ G) H σ Q)
    (hk : ∀ dx ρ1 F1 Fx x H1, Sim K adr T ρ1 σ H1 F1 → Rep K adr H1 dx x Fx → (F1 ++ (G ++ Fx)).Nodup → Ext F H H1 → Hold K adr T W (k dx ρ1) (F1 ++ (G ++ Fx)) H1 σ Q → R x H1) : tD K adr T W f σ H R := by
  refine ⟨ρ, F, S, ?_⟩
  cases e : f ρ with
  | ok dy ρ2 =>
    rw [e] at h
    intro y H2 p
    obtain ⟨F2, Fy, S2, r2, n2, st⟩ := p.sim
    have h1' : Hold K adr T W (k dy ρ2) (F ++ G) H σ Q := h
    have nn : ((F2 ++ Fy) ++ G).Nodup := nodup_aside n n2 st.frs hG
    have n3 : (F2 ++ (G ++ Fy)).Nodup := by
      rw [List.append_assoc] at nn
      exact perm_nodup (List.perm_append_comm.append_left F2) nn
    refine hk dy ρ2 F2 Fy y H2 S2 r2 n3 st.ext (Hold.weak ?_ h1')
    refine ⟨st.ext.mono fun b hb => List.mem_append_left _ hb, fun b hb => ?_, st.tab⟩
    rcases List.mem_append.mp hb with z | z
    · exact (st.frs b (List.mem_append_left _ z)).imp (List.mem_append_left _) id
    · rcases List.mem_append.mp z with z | z
      · exact .inl (List.mem_append_right _ z)
      · exact (st.frs b (List.mem_append_right _ z)).imp (List.mem_append_left _) id
  | exc xx ρ2 =>
    rw [e] at h
    intro cls dx' H2 ⟨F2, a, b, c, st⟩
    have h1' : Hold K adr T W (.exc xx ρ2) (F ++ G) H σ Q := h
    exact h1' cls dx' H2 ⟨F2, a, b, c, st.mono fun b hb => List.mem_append_left _ hb⟩
  | fail => rw [e] at h; exact h
/-- the end: a result is there -/
theorem hold_read {z : D} {Q : VK} (h : Hold K adr T W (.ok z ρ) G H σ Q) (S : Sim K adr T ρ σ H F) (sub : ∀ b ∈ F, b ∈ G) :
    ∀ v H' Fz, Rep K adr H' z v Fz → Fz.Nodup → Ext [] H H' → (∀ b ∈ Fz, H b = none) → Tabs T H' → Q v H' := fun v H' Fz r n e fr t =>
  h v H' ⟨F, Fz, S.rep.ext e (fun _ _ z => nomatch z), r, List.nodup_append.mpr ⟨S.nd, n, fun x hx y hy q => by
    subst q
    exact ne_none_of (S.rep.mem x hx) (fr x hy)⟩, e.mono (fun _ z => nomatch z), fun b hb => (List.mem_append.mp hb).imp (sub b) (fr b), t⟩
/-- .. that owns what an operand owned -/
theorem hold_move {z : D} {Q : VK} (h : Hold K adr T W (.ok z ρ) (F ++ G) H σ Q) (S : Sim K adr T ρ σ H F) (nd : (F ++ G).Nodup) :
    ∀ v H' Fz, Rep K adr H' z v Fz → Fz.Nodup → Ext [] H H' → (∀ b ∈ Fz, b ∈ G ∨ H b = none) → Tabs T H' → Q v H' := fun v H' Fz r n e fr t =>
  h v H' ⟨F, Fz, S.rep.ext e (fun _ _ z => nomatch z), r, List.nodup_append.mpr ⟨S.nd, n, fun x hx y hy q => by
    subst q
    rcases fr x hy with z | z
    · exact (List.nodup_append.mp nd).2.2 x hx x z rfl
    · exact ne_none_of (S.rep.mem x hx) z⟩, e.mono (fun _ z => nomatch z), fun b hb => (List.mem_append.mp hb).elim (fun z => .inl (List.mem_append_left _ z)) fun z => (fr b z).imp (List.mem_append_right _) id, t⟩
theorem tabs_new {p : Addr} {o : HO} (t : Tabs T H) (h : H p = none) : Tabs T (upd H p o) := t.ext fun b u e => by rw [upd_ne (ne_of_none e h)]; exact e
end

def opt : Option D → Env → Res D
  | some z, ρ => .ok z ρ
  | none, _ => .fail
section
variable (K : PySem.W.Frag) (adr : Adr) (T : List (Addr × Str))
/-- an operation that reads its operands: what it makes is new, or owns nothing -/
def rR (h : List D → Option D) : List V → Hp → VK → Prop := fun vs H Q => ∃ ds Fs z, RepL K adr H ds vs Fs ∧ h ds = some z ∧ Tabs T H ∧
  ∀ v H' Fz, Rep K adr H' z v Fz → Fz.Nodup → Ext [] H H' → (∀ b ∈ Fz, H b = none) → Tabs T H' → Q v H'
end
abbrev OpD (X : Cx) (adr : Adr) (T : List (Addr × Str)) (f : Value → Value → Sem Value) (h : List D → Option D) : Prop := OpR X f (fun x y H Q => rR X.K adr T h [x, y] H Q)
abbrev UnD (X : Cx) (adr : Adr) (T : List (Addr × Str)) (f : Value → Sem Value) (h : List D → Option D) : Prop := UnR X f (fun x H Q => rR X.K adr T h [x] H Q)
abbrev CallD (X : Cx) (adr : Adr) (T : List (Addr × Str)) (f : Value) (h : List D → Option D) : Prop := CallR X f (rR X.K adr T h)
abbrev MtD (X : Cx) (adr : Adr) (T : List (Addr × Str)) (id : String) (h : List D → Option D) : Prop := MtR X id (fun x xs H Q => rR X.K adr T h (x :: xs) H Q)
abbrev IxD (X : Cx) (adr : Adr) (T : List (Addr × Str)) (h : List D → Option D) : Prop := IxR X (fun x y H Q => rR X.K adr T h [x, y] H Q)
theorem OpR.imp {X : Cx} {f : Value → Value → Sem Value} {r r' : R2} (h : OpR X f r) (w : ∀ x y H Q, r' x y H Q → r x y H Q) : OpR X f r' := fun pins s σ H x y v u Q I rx ry q => h pins s σ H x y v u Q I rx ry (w _ _ _ _ q)
theorem UnR.imp {X : Cx} {f : Value → Sem Value} {r r' : V → Hp → VK → Prop} (h : UnR X f r) (w : ∀ x H Q, r' x H Q → r x H Q) : UnR X f r' := fun pins s σ H x v Q I rx q => h pins s σ H x v Q I rx (w _ _ _ q)
theorem CallR.imp {X : Cx} {f : Value} {r r' : List V → Hp → VK → Prop} (h : CallR X f r) (w : ∀ x H Q, r' x H Q → r x H Q) : CallR X f r' := fun pins s σ H x v Q I rx q => h pins s σ H x v Q I rx (w _ _ _ q)
theorem MtR.imp {X : Cx} {id : String} {r r' : V → List V → Hp → VK → Prop} (h : MtR X id r) (w : ∀ x xs H Q, r' x xs H Q → r x xs H Q) : MtR X id r' := fun pins s σ H x xs v us Q I rx rs q => h pins s σ H x xs v us Q I rx rs (w _ _ _ _ q)
theorem IxR.imp {X : Cx} {r r' : R2} (h : IxR X r) (w : ∀ x y H Q, r' x y H Q → r x y H Q) : IxR X r' := fun value slice pins s σ H x y v u Q I rx ry q => h value slice pins s σ H x y v u Q I rx ry (w _ _ _ _ q)

/-! ### expressions -/
def eC (d : D) : EM := fun ρ => .ok d ρ
/-- a name's value, which owns nothing -/
def eV (i : Nat) : EM := fun ρ => match ρ[i]? with
  | some (some d) => if dup d then .ok d ρ else .fail
  | _ => .fail
/-- .. which is taken out of the slot -/
def eM (i : Nat) : EM := fun ρ => match ρ[i]? with
  | some (some d) => .ok d (ρ.set i none)
  | _ => .fail
def eO1 (h : List D → Option D) (f : EM) : EM := e1 f fun x ρ => opt (h [x]) ρ
def eO2 (h : List D → Option D) (f g : EM) : EM := e2 f g fun x y ρ => opt (h [x, y]) ρ
def eOA (h : List D → Option D) (g : AM) : EM := eA g fun ds ρ => opt (h ds) ρ
def eIf (c f g : EM) : EM := fun ρ => (c ρ).bind fun x ρ => match x with
  | .bl true => f ρ
  | .bl false => g ρ
  | _ => .fail
def eAnd (f g : EM) : EM := fun ρ => (f ρ).bind fun x ρ => match x with
  | .bl true => g ρ
  | .bl false => .ok (.bl false) ρ
  | _ => .fail
def eOr (f g : EM) : EM := fun ρ => (f ρ).bind fun x ρ => match x with
  | .bl true => .ok (.bl true) ρ
  | .bl false => g ρ
  | _ => .fail
def eNot (f : EM) : EM := fun ρ => (f ρ).bind fun x ρ => match x with
  | .bl b => .ok (.bl (!b)) ρ
  | _ => .fail
/-- displays -/
def eTup (g : AM) : EM := eA g fun ds ρ => if ds.length ≤ sizeLine then .ok (.tup ds) ρ else .fail
def eLst (g : AM) : EM := eA g fun ds ρ => if ds.length ≤ sizeLine then .ok (.lst ds) ρ else .fail
/-- a value that stands for itself -/
inductive Plain : D → V → Prop where
  | non : Plain .non .non
  | bl (b : Bool) : Plain (.bl b) (.bl b)
  | int (i : Int) : Plain (.int i) (.int i)
  | str (x : Str) : Plain (.str x) (.str x)
  | ty (n : String) : Plain (.ty n) (.ty n)
theorem Plain.rep {K : PySem.W.Frag} {adr : Adr} {H : Hp} {d : D} {v : V} (p : Plain d v) : Rep K adr H d v [] := by cases p <;> exact ⟨rfl, rfl⟩

section
variable {X : Cx} {adr : Adr} {T : List (Addr × Str)} {W : WX} {pos : Pos} {a b c : Expr} {f g k : EM} {as : AM} {es : List Expr} {h : List D → Option D}
theorem pd_const {e : Expr} {d : D} {v : V} (he : PE X e (tC v)) (p : ∀ H, Rep X.K adr H d v []) : PE X e (tD X.K adr T W (eC d)) := PE.imp he fun σ H Q ⟨ρ, F, S, q⟩ =>
  hold_read (ρ := ρ) q S (fun _ z => z) v H [] (p H) List.nodup_nil (Ext.refl _ _) (fun _ z => nomatch z) S.tab
theorem pd_int {i j} : PE X (.Constant (.int i) j pos) (tD X.K adr T W (eC (.int i))) := pd_const pe_int fun _ => ⟨rfl, rfl⟩
theorem pd_bl {i j} : PE X (.Constant (.bool i) j pos) (tD X.K adr T W (eC (.bl i))) := pd_const pe_bl fun _ => ⟨rfl, rfl⟩
theorem pd_non {j} : PE X (.Constant .none j pos) (tD X.K adr T W (eC .non)) := pd_const pe_non fun _ => ⟨rfl, rfl⟩
theorem pd_str {i j} : PE X (.Constant (.str i) j pos) (tD X.K adr T W (eC (.str i))) := pd_const pe_str fun _ => ⟨rfl, rfl⟩
theorem pd_glob {x : Str} {d : D} {v : V} {u : Value} (hg : Gl X x) (hm : X.mg x = some u) (r : RelV v u) (p : Plain d v) (hd : (x == ("__debug__" : Str)) = false := by decide) : PE X (.Name x pos) (tD X.K adr T W (eC d)) := pd_const (pe_glob hg hm r hd) fun _ => p.rep
theorem pd_globF {x : Str} {n : Nat} (hg : Gl X x) (hm : X.mg x = some (.ref (adr n))) (hd : (x == ("__debug__" : Str)) = false := by decide) : PE X (.Name x pos) (tD X.K adr T W (eC (.ref n))) := pd_const (pe_glob (v := .ref (adr n)) hg hm rfl hd) fun _ => ⟨rfl, rfl⟩
theorem pd_bltn {x : Str} {n : String} (hg : Gl X x) (hm : X.mg x = none) (hv : bootBuiltins x = some (.type n)) (hn : x ≠ "__name__" := by decide) (hd : (x == ("__debug__" : Str)) = false := by decide) : PE X (.Name x pos) (tD X.K adr T W (eC (.ty n))) :=
  pd_const (pe_bltn (v := .ty n) hg hm hv rfl hn hd) fun _ => ⟨rfl, rfl⟩
theorem pd_var (i : Nat) {x : Str} (hN : X.N[i]? = some x := by rfl) (hv : Vis X.env.scope x := by first | exact Or.inl rfl | exact Or.inr (Or.inl rfl) | exact Or.inr (Or.inr rfl)) (hd : (x == ("__debug__" : Str)) = false := by decide)
    (hcd : (x == ("__classdict__" : Str)) = false := by decide) : PE X (.Name x pos) (tD X.K adr T W (eV i)) := PE.imp (pe_var hN hv hd hcd) fun σ H Q ⟨ρ, F, S, q⟩ => by
  unfold eV at q
  cases e : ρ[i]? with
  | none => rw [e] at q; exact q.elim
  | some o =>
    cases o with
    | none => rw [e] at q; exact q.elim
    | some d =>
      rw [e] at q
      by_cases hd : dup d = true
      · simp only [hd, if_true] at q
        obtain ⟨v, G, hv, r, _⟩ := S.rep.get e
        exact ⟨v, hv, hold_read q S (fun _ z => z) v H [] (r.dup hd) List.nodup_nil (Ext.refl _ _) (fun _ z => nomatch z) S.tab⟩
      · simp only [hd] at q; exact q.elim
theorem pd_move (i : Nat) {x : Str} (hN : X.N[i]? = some x := by rfl) (hv : Vis X.env.scope x := by first | exact Or.inl rfl | exact Or.inr (Or.inl rfl) | exact Or.inr (Or.inr rfl)) (hd : (x == ("__debug__" : Str)) = false := by decide)
    (hcd : (x == ("__classdict__" : Str)) = false := by decide) : PE X (.Name x pos) (tD X.K adr T W (eM i)) := PE.imp (pe_var hN hv hd hcd) fun σ H Q ⟨ρ, F, S, q⟩ => by
  unfold eM at q
  cases e : ρ[i]? with
  | none => rw [e] at q; exact q.elim
  | some o =>
    cases o with
    | none => rw [e] at q; exact q.elim
    | some d =>
      rw [e] at q
      obtain ⟨v, G, F', hv, r, s', p⟩ := S.rep.take e
      exact ⟨v, hv, q v H ⟨F', G, s', r, perm_nodup p S.nd, Ext.refl _ _, fun b hb => .inl (p.mem_iff.mpr hb), S.tab⟩⟩
theorem pd_op {op : Operator} (ho : OpD X adr T (binaryOp op) h) (ha : PE X a (tD X.K adr T W f)) (hb : PE X b (tD X.K adr T W g)) : PE X (.BinOp a op b pos) (tD X.K adr T W (eO2 h f g)) :=
  PE.imp (pe_op ho ha hb) fun σ H Q q => t2 q fun dx dy ρ2 F Fx Fy x y H2 S rx ry n q => by
    cases e : h [dx, dy] with
    | none => simp only [e, opt] at q; exact q.elim
    | some z =>
      simp only [e, opt] at q
      exact ⟨[dx, dy], _, z, repL_cons rx (repL_cons ry repL_nil), e, S.tab, hold_read q S fun b hb => List.mem_append_left _ hb⟩
theorem pd_cmp {op : CmpOp} (ho : OpD X adr T (compareOp op) h) (ha : PE X a (tD X.K adr T W f)) (hb : PE X b (tD X.K adr T W g)) (hm : behindInMarks op b = false) : PE X (.Compare a [op] [b] pos) (tD X.K adr T W (eO2 h f g)) :=
  PE.imp (pe_cmpR ho ha hb hm) fun σ H Q q => t2 q fun dx dy ρ2 F Fx Fy x y H2 S rx ry n q => by
    cases e : h [dx, dy] with
    | none => simp only [e, opt] at q; exact q.elim
    | some z =>
      simp only [e, opt] at q
      exact ⟨[dx, dy], _, z, repL_cons rx (repL_cons ry repL_nil), e, S.tab, hold_read q S fun b hb => List.mem_append_left _ hb⟩
theorem pd_un {op : UnaryOp} (ho : UnD X adr T (unaryOp op) h) (ha : PE X a (tD X.K adr T W f)) : PE X (.UnaryOp op a pos) (tD X.K adr T W (eO1 h f)) :=
  PE.imp (pe_un ho ha) fun σ H Q q => t1 q fun dx ρ1 F Fx x H1 S rx n q => by
    cases e : h [dx] with
    | none => simp only [e, opt] at q; exact q.elim
    | some z =>
      simp only [e, opt] at q
      exact ⟨[dx], _, z, repL_cons rx repL_nil, e, S.tab, hold_read q S fun b hb => List.mem_append_left _ hb⟩
theorem pd_ix (ho : IxD X adr T h) (ha : PE X a (tD X.K adr T W f)) (hb : PE X b (tD X.K adr T W g)) (hs : PlainIx b) : PE X (.Subscript a b pos) (tD X.K adr T W (eO2 h f g)) :=
  PE.imp (pe_ix ho ha hb hs) fun σ H Q q => t2 q fun dx dy ρ2 F Fx Fy x y H2 S rx ry n q => by
    cases e : h [dx, dy] with
    | none => simp only [e, opt] at q; exact q.elim
    | some z =>
      simp only [e, opt] at q
      exact ⟨[dx, dy], _, z, repL_cons rx (repL_cons ry repL_nil), e, S.tab, hold_read q S fun b hb => List.mem_append_left _ hb⟩
theorem tOA {σ : L2.St} {H : Hp} {Q : VK} (q : tD X.K adr T W (eOA h as) σ H Q) : tCB (rR X.K adr T h) (tDA X.K adr T W as) σ H Q := tA q fun ds ρ1 F Fx xs H1 S r n q => by
  cases e : h ds with
  | none => simp only [e, opt] at q; exact q.elim
  | some z =>
    simp only [e, opt] at q
    exact ⟨ds, _, z, r, e, S.tab, hold_read q S fun b hb => List.mem_append_left _ hb⟩
/-- a builtin function, a builtin type called -/
theorem pd_callB {id : String} {x : Str} {p : Pos} {e : Expr} (hc : CallD X adr T (.builtin id) h) (hg : Gl X x) (hm : X.mg x = none) (hv : bootBuiltins x = some (.builtin id)) (ha : PA X (e :: es) (tDA X.K adr T W as)) (hn : x ≠ "__name__" := by decide) (hdb : (x == ("__debug__" : Str)) = false := by decide)
    (he : starEach (e :: es) X.env = (false, eval e X.env) :: starEach es X.env := by rfl) (hpl : (backTo pos (starEach es X.env)).any (·.1) = false := by rfl) : PE X (.Call (.Name x p) (e :: es) [] pos) (tD X.K adr T W (eOA h as)) :=
  PE.imp (pe_callB hc hg hm hv ha hn hdb he hpl) fun _ _ _ q => tOA q
theorem pd_callTy {id : String} {x : Str} {p : Pos} {e : Expr} (hc : CallD X adr T (.type id) h) (hg : Gl X x) (hm : X.mg x = none) (hv : bootBuiltins x = some (.type id)) (ha : PA X (e :: es) (tDA X.K adr T W as)) (hn : x ≠ "__name__" := by decide) (hdb : (x == ("__debug__" : Str)) = false := by decide)
    (he : starEach (e :: es) X.env = (false, eval e X.env) :: starEach es X.env := by rfl) (hpl : (backTo pos (starEach es X.env)).any (·.1) = false := by rfl) : PE X (.Call (.Name x p) (e :: es) [] pos) (tD X.K adr T W (eOA h as)) :=
  PE.imp (pe_callTy hc hg hm hv ha hn hdb he hpl) fun _ _ _ q => tOA q
theorem pa_d0 : PA X [] (tDA X.K adr T W aNil) := PA.imp pa_nil fun _ _ _ q => tda_nil q
theorem pa_d {e : Expr} (ha : PE X e (tD X.K adr T W f)) (hr : PA X es (tDA X.K adr T W as)) (hs : starEach (e :: es) X.env = (false, eval e X.env) :: starEach es X.env := by rfl) : PA X (e :: es) (tDA X.K adr T W (aCons f as)) :=
  PA.imp (pa_cons ha hr hs) fun _ _ _ q => tda_cons q
theorem nodup_cons_fresh {K : PySem.W.Frag} {H : Hp} {ds : List D} {vs : List V} {p : Addr} {Fx : List Addr} (r : RepL K adr H ds vs Fx) (hp : H p = none) (n : Fx.Nodup) : (p :: Fx).Nodup := List.nodup_cons.mpr ⟨fun hb => ne_none_of (r.mem p hb) hp, n⟩
theorem pd_tup {x1} (ha : PA X es (tDA X.K adr T W as)) : PE X (.Tuple es x1 pos) (tD X.K adr T W (eTup as)) := PE.imp (pe_tup ha) fun σ H Q q => tA q fun ds ρ1 F Fx xs H1 S r n q => by
  by_cases hz : ds.length ≤ sizeLine
  · simp only [hz, if_true] at q
    refine ⟨by rw [r.length]; exact hz, fun p hp => ?_⟩
    exact hold_move q S n (.ref p) _ Fx ⟨p, xs, rfl, .inl (.inl upd_same), r.ext (Ext.new (F := []) hp) (fun _ _ z => nomatch z)⟩ (List.nodup_append.mp n).2.1 (Ext.new hp) (fun b hb => .inl hb) (tabs_new S.tab hp)
  · simp only [hz, if_false] at q; exact q.elim
theorem pd_lst (ha : PA X es (tDA X.K adr T W as)) : PE X (.List es pos) (tD X.K adr T W (eLst as)) := PE.imp (pe_lst ha) fun σ H Q q => tA q fun ds ρ1 F Fx xs H1 S r n q => by
  by_cases hz : ds.length ≤ sizeLine
  · simp only [hz, if_true] at q
    refine ⟨by rw [r.length]; exact hz, fun p hp => ?_⟩
    refine hold_move q S n (.ref p) _ (p :: Fx) ⟨p, xs, Fx, rfl, upd_same, r.ext (Ext.new (F := []) hp) (fun _ _ z => nomatch z), rfl⟩ (nodup_cons_fresh r hp (List.nodup_append.mp n).2.1) (Ext.new hp) (fun b hb => ?_) (tabs_new S.tab hp)
    rcases List.mem_cons.mp hb with z | z
    · exact .inr (by rw [z]; exact hp)
    · exact .inl z
  · simp only [hz, if_false] at q; exact q.elim

/-! ### tests -/
abbrev tDT (X : Cx) (adr : Adr) (T : List (Addr × Str)) (W : WX) (f : EM) : TT := tB (tD X.K adr T W f)
/-- a test's value is a truth -/
theorem rep_bl {K : PySem.W.Frag} {H : Hp} {b : Bool} {v : V} {F : List Addr} (r : Rep K adr H (.bl b) v F) : v = .bl b := r.1
theorem tB_of {σ : L2.St} {H : Hp} {t u : EM} {R : Bool → Hp → Prop} (kb : Bool → EM) (q : ∃ Q : VK, tD X.K adr T W (fun ρ => (t ρ).bind fun x ρ => match x with | .bl b => kb b ρ | _ => .fail) σ H Q ∧ ∀ b H1, tD X.K adr T W (kb b) σ H1 Q → R b H1) : tDT X adr T W t σ H R := by
  obtain ⟨Q, q, w⟩ := q
  refine t1 (k := fun x ρ => match x with | .bl b => kb b ρ | _ => .fail) q fun dx ρ1 F Fx x H1 S rx n q => ?_
  cases dx with
  | bl b =>
    refine ⟨b, rx.1, w b H1 ⟨ρ1, F, S, ?_⟩⟩
    have e : Fx = [] := rx.2
    rw [e, List.append_nil] at q
    exact q
  | _ => exact q.elim
theorem pd_test {e : Expr} (he : PE X e (tD X.K adr T W f)) (hw : ∀ whole, isTrue e X.env whole = (do let v ← whole; standAt e.pos; holding [v] (truthy v)) := by intro _; rfl) : PT X e (tDT X adr T W f) := pt_val he hw
theorem pt_cmpD {op : CmpOp} (ho : OpD X adr T (compareOp op) h) (ha : PE X a (tD X.K adr T W f)) (hb : PE X b (tD X.K adr T W g)) (hm : behindInMarks op b = false) : PT X (.Compare a [op] [b] pos) (tDT X adr T W (eO2 h f g)) :=
  PT.imp (pt_cmpR ho ha hb hm) fun σ H Q q => t2 q fun dx dy ρ2 F Fx Fy x y H2 S rx ry n q => by
    cases e : h [dx, dy] with
    | none => simp only [e, opt] at q; exact q.elim
    | some z =>
      simp only [e, opt] at q
      exact ⟨[dx, dy], _, z, repL_cons rx (repL_cons ry repL_nil), e, S.tab, hold_read q S fun b hb => List.mem_append_left _ hb⟩
theorem pd_ifExp (hc : PT X c (tDT X adr T W k)) (ha : PE X a (tD X.K adr T W f)) (hb : PE X b (tD X.K adr T W g)) : PE X (.IfExp c a b pos) (tD X.K adr T W (eIf k f g)) := PE.imp (pe_ifExp hc ha hb) fun σ H Q q => by
  refine tB_of (u := f) (fun b => if b = true then f else g) ⟨Q, ?_, fun b H1 q => ?_⟩
  · have e : (fun ρ => (k ρ).bind fun x ρ => match x with | .bl b => (if b = true then f else g) ρ | _ => .fail) = eIf k f g := by
      funext ρ
      unfold eIf
      congr 1
      funext x ρ
      cases x <;> first | rfl | (rename_i b; cases b <;> rfl)
    rw [e]; exact q
  · cases b <;> exact q
theorem and_eq : (fun ρ => (f ρ).bind fun x ρ => match x with | .bl b => (if b = true then g else eC (.bl false)) ρ | _ => .fail) = eAnd f g := by
  funext ρ
  unfold eAnd
  congr 1
  funext x ρ
  cases x <;> first | rfl | (rename_i b; cases b <;> rfl)
theorem or_eq : (fun ρ => (f ρ).bind fun x ρ => match x with | .bl b => (if b = true then eC (.bl true) else g) ρ | _ => .fail) = eOr f g := by
  funext ρ
  unfold eOr
  congr 1
  funext x ρ
  cases x <;> first | rfl | (rename_i b; cases b <;> rfl)
theorem not_eq : (fun ρ => (f ρ).bind fun x ρ => match x with | .bl b => (eC (.bl (!b))) ρ | _ => .fail) = eNot f := by
  funext ρ
  unfold eNot
  congr 1
theorem tD_C {σ : L2.St} {H : Hp} {Q : VK} {b : Bool} (q : tD X.K adr T W (eC (.bl b)) σ H Q) : Q (.bl b) H := by
  obtain ⟨ρ, F, S, q⟩ := q
  exact hold_read (ρ := ρ) q S (fun _ z => z) (.bl b) H [] ⟨rfl, rfl⟩ List.nodup_nil (Ext.refl _ _) (fun _ z => nomatch z) S.tab
/-- and, or: tests -/
theorem pwd_1 {op : BoolOp} (ha : PT X a (tDT X adr T W f)) (hop : op = .And ∨ op = .Or) : PW X (.BoolOp op [a] pos) (tDT X adr T W f) := by
  rcases hop with rfl | rfl
  · exact pw_and1 ha
  · exact pw_or1 ha
theorem PW.imp {e : Expr} {t t' : TT} (h : PW X e t) (w : ∀ σ H Q, t' σ H Q → t σ H Q) : PW X e t' := ⟨fun wh pins s σ H Q I hw => h.run wh pins s σ H Q I (w _ _ _ hw)⟩
theorem pwd_and (ha : PT X a (tDT X adr T W f)) (hb : PW X (.BoolOp .And (b :: es) pos) (tDT X adr T W g)) : PW X (.BoolOp .And (a :: b :: es) pos) (tDT X adr T W (eAnd f g)) := PW.imp (pw_and ha hb) fun σ H Q q => by
  refine tB_of (u := f) (fun b => if b = true then g else eC (.bl false)) ⟨fun v H' => ∃ c, v = .bl c ∧ Q c H', by rw [and_eq]; exact q, fun b H1 q => ?_⟩
  cases b with
  | true => exact q
  | false =>
    obtain ⟨c, e, q⟩ := tD_C q
    cases e; exact q
theorem pwd_or (ha : PT X a (tDT X adr T W f)) (hb : PW X (.BoolOp .Or (b :: es) pos) (tDT X adr T W g)) : PW X (.BoolOp .Or (a :: b :: es) pos) (tDT X adr T W (eOr f g)) := PW.imp (pw_or ha hb) fun σ H Q q => by
  refine tB_of (u := f) (fun b => if b = true then eC (.bl true) else g) ⟨fun v H' => ∃ c, v = .bl c ∧ Q c H', by rw [or_eq]; exact q, fun b H1 q => ?_⟩
  cases b with
  | false => exact q
  | true =>
    obtain ⟨c, e, q⟩ := tD_C q
    cases e; exact q
theorem pd_not (ha : PT X a (tDT X adr T W f)) : PT X (.UnaryOp .Not a pos) (tDT X adr T W (eNot f)) := PT.imp (pt_not ha) fun σ H Q q => by
  refine tB_of (u := f) (fun b => eC (.bl (!b))) ⟨fun v H' => ∃ c, v = .bl c ∧ Q c H', by rw [not_eq]; exact q, fun b H1 q => ?_⟩
  obtain ⟨c, e, q⟩ := tD_C q
  cases e; exact q
/-- and, or, not as values, of truths -/
theorem pd_andV (ha : PE X a (tD X.K adr T W f)) (hb : PE X (.BoolOp .And (b :: es) pos) (tD X.K adr T W g)) : PE X (.BoolOp .And (a :: b :: es) pos) (tD X.K adr T W (eAnd f g)) := PE.imp (pe_and ha hb) fun σ H Q q => by
  refine tB_of (u := f) (fun b => if b = true then g else eC (.bl false)) ⟨Q, by rw [and_eq]; exact q, fun b H1 q => ?_⟩
  cases b with
  | true => exact q
  | false => exact tD_C q
theorem pd_orV (ha : PE X a (tD X.K adr T W f)) (hb : PE X (.BoolOp .Or (b :: es) pos) (tD X.K adr T W g)) : PE X (.BoolOp .Or (a :: b :: es) pos) (tD X.K adr T W (eOr f g)) := PE.imp (pe_or ha hb) fun σ H Q q => by
  refine tB_of (u := f) (fun b => if b = true then eC (.bl true) else g) ⟨Q, by rw [or_eq]; exact q, fun b H1 q => ?_⟩
  cases b with
  | false => exact q
  | true => exact tD_C q
theorem pd_notV (ha : PE X a (tD X.K adr T W f)) : PE X (.UnaryOp .Not a pos) (tD X.K adr T W (eNot f)) := PE.imp (pe_not ha) fun σ H Q q => by
  refine tB_of (u := f) (fun b => eC (.bl (!b))) ⟨Q, by rw [not_eq]; exact q, fun b H1 q => tD_C q⟩
end
end DL
set_option Elab.async false
set_option linter.all false
set_option maxRecDepth 100000
set_option maxHeartbeats 4000000
namespace DL
open PySem L2
open LamX (Tabs)

/-! ### statements -/
inductive SR where
  | nx (ρ : Env) | rt (d : D) (ρ : Env) | bk (ρ : Env) | ct (ρ : Env) | exc (x : Xc) (ρ : Env) | fail
abbrev SM := Env → SR
def Res.sbind {α : Type} : Res α → (α → Env → SR) → SR
  | .ok a ρ, f => f a ρ
  | .exc x ρ, _ => .exc x ρ
  | .fail, _ => .fail
/-- the slots that keep their things through the def: those of what is changed for the caller -/
structure Fix (io : List Nat) (σ σ' : L2.St) : Prop where
  len : σ'.length = σ.length
  at_ : ∀ i ∈ io, σ'[i]? = σ[i]?
theorem Fix.refl (io : List Nat) (σ : L2.St) : Fix io σ σ := ⟨rfl, fun _ _ => rfl⟩
theorem Fix.trans {io : List Nat} {a b c : L2.St} (h : Fix io a b) (g : Fix io b c) : Fix io a c := ⟨g.len.trans h.len, fun i hi => (g.at_ i hi).trans (h.at_ i hi)⟩
theorem Fix.set {io : List Nat} {σ : L2.St} {i : Nat} {x : Option V} (h : i ∉ io) : Fix io σ (σ.set i x) := ⟨List.length_set .., fun j hj => List.getElem?_set_ne fun e => h (by rw [e]; exact hj)⟩
section
variable (K : PySem.W.Frag) (adr : Adr) (T : List (Addr × Str)) (io : List Nat)
def PostS (F : List Addr) (H : Hp) (σ : L2.St) (ρ' : Env) (σ' : L2.St) (H' : Hp) : Prop := ∃ F', Sim K adr T ρ' σ' H' F' ∧ Stp T F H F' H' ∧ Fix io σ σ'
def PostR (F : List Addr) (H : Hp) (σ : L2.St) (ρ' : Env) (σ' : L2.St) (d : D) (v : V) (H' : Hp) : Prop := ∃ F' Fd, RepS K adr H' ρ' σ' F' ∧ Rep K adr H' d v Fd ∧ (F' ++ Fd).Nodup ∧ Stp T F H (F' ++ Fd) H' ∧ Fix io σ σ'
def PostZ (F : List Addr) (H : Hp) (σ : L2.St) (ρ' : Env) (σ' : L2.St) (x : Xc) (cls : Value) (dx : Option Addr) (H' : Hp) : Prop := ∃ F', Sim K adr T ρ' σ' H' F' ∧ RepX K adr H' x cls dx ∧ Stp T F H F' H' ∧ Fix io σ σ'
def HoldS (W : WX) (r : SR) (F : List Addr) (H : Hp) (σ : L2.St) (D : Ends) : Prop :=
  match r with
  | .nx ρ' => ∀ σ' H', PostS K adr T io F H σ ρ' σ' H' → D.nx σ' H'
  | .bk ρ' => ∀ σ' H', PostS K adr T io F H σ ρ' σ' H' → D.bk σ' H'
  | .ct ρ' => ∀ σ' H', PostS K adr T io F H σ ρ' σ' H' → D.ct σ' H'
  | .rt d ρ' => ∀ v σ' H', PostR K adr T io F H σ ρ' σ' d v H' → D.rt v H'
  | .exc x ρ' => ∀ cls dx σ' H', PostZ K adr T io F H σ ρ' σ' x cls dx H' → W cls dx σ' H'
  | .fail => False
def tDS (W : WX) (f : SM) : TS := fun D σ H => ∃ ρ F, Sim K adr T ρ σ H F ∧ HoldS K adr T io W (f ρ) F H σ D
end
section
variable {K : PySem.W.Frag} {adr : Adr} {T : List (Addr × Str)} {io : List Nat} {F G G' F1 : List Addr} {H H1 H2 : Hp} {σ σ1 : L2.St} {W : WX} {ρ ρ' : Env} {D : Ends}
theorem HoldS.weak {r : SR} (st : Stp T F H G H1) (fx : Fix io σ σ1) (h : HoldS K adr T io W r F H σ D) : HoldS K adr T io W r G H1 σ1 D := by
  cases r with
  | nx ρ' => exact fun σ' H' ⟨F', a, b, c⟩ => h σ' H' ⟨F', a, st.trans b (fun _ z => z), fx.trans c⟩
  | bk ρ' => exact fun σ' H' ⟨F', a, b, c⟩ => h σ' H' ⟨F', a, st.trans b (fun _ z => z), fx.trans c⟩
  | ct ρ' => exact fun σ' H' ⟨F', a, b, c⟩ => h σ' H' ⟨F', a, st.trans b (fun _ z => z), fx.trans c⟩
  | rt d ρ' => exact fun v σ' H' ⟨F', Fd, a, b, c, d, e⟩ => h v σ' H' ⟨F', Fd, a, b, c, st.trans d (fun _ z => z), fx.trans e⟩
  | exc x ρ' => exact fun cls dx σ' H' ⟨F', a, b, c, d⟩ => h cls dx σ' H' ⟨F', a, b, st.trans c (fun _ z => z), fx.trans d⟩
  | fail => exact h
/-- an expression, then something -/
def s1 (f : EM) (k : DL.D → Env → SR) : SM := fun ρ => (f ρ).sbind k
theorem ts1 {f : EM} {k : DL.D → Env → SR} {R : V → Hp → Prop} (h : tDS K adr T io W (s1 f k) D σ H)
    (hk : ∀ dx ρ1 F Fx x H1, Sim K adr T ρ1 σ H1 F → Rep K adr H1 dx x Fx → (F ++ Fx).Nodup → HoldS K adr T io W (k dx ρ1) (F ++ Fx) H1 σ D → R x H1) : tD K adr T W f σ H R := by
  obtain ⟨ρ, F, S, h⟩ := h
  refine ⟨ρ, F, S, ?_⟩
  unfold s1 at h
  cases e : f ρ with
  | ok dx ρ1 =>
    rw [e] at h
    intro x H1 p
    obtain ⟨F1, Fx, S1, r, n, st⟩ := p.sim
    exact hk dx ρ1 F1 Fx x H1 S1 r n (HoldS.weak st (Fix.refl _ _) h)
  | exc x ρ1 =>
    rw [e] at h
    exact fun cls dx H' ⟨F', a, b, c, d⟩ => h cls dx σ H' ⟨F', ⟨a, c, d.tab⟩, b, d, Fix.refl _ _⟩
  | fail => rw [e] at h; exact h

/-- what is thrown away -/
theorem Stp.drop (t : Tabs T H) : Stp T (F ++ G) H F H := Stp.refl t fun b hb => List.mem_append_left _ hb

def sNx : SM := fun ρ => .nx ρ
def sSeq (f g : SM) : SM := fun ρ => match f ρ with
  | .nx ρ => g ρ
  | r => r
theorem tds_seq {f g : SM} (h : tDS K adr T io W (sSeq f g) D σ H) : tSeq (tDS K adr T io W f) (tDS K adr T io W g) D σ H := by
  obtain ⟨ρ, F, S, h⟩ := h
  refine ⟨ρ, F, S, ?_⟩
  unfold sSeq at h
  cases e : f ρ with
  | nx ρ1 =>
    rw [e] at h
    exact fun σ' H' ⟨F', a, b, c⟩ => ⟨ρ1, F', a, HoldS.weak b c h⟩
  | bk ρ1 => rw [e] at h; exact h
  | ct ρ1 => rw [e] at h; exact h
  | rt d ρ1 => rw [e] at h; exact h
  | exc x ρ1 => rw [e] at h; exact h
  | fail => rw [e] at h; exact h
def sSet (i : Nat) (f : EM) : SM := s1 f fun d ρ => .nx (ρ.set i (some d))
/-- a name's slot gets a thing -/
theorem RepS.store {d : DL.D} {v : V} {i : Nat} (S : RepS K adr H ρ σ F) (r : Rep K adr H d v G) (n : (F ++ G).Nodup) : ∃ F', RepS K adr H (ρ.set i (some d)) (σ.set i (some v)) F' ∧ F'.Nodup ∧ ∀ b ∈ F', b ∈ F ++ G := by
  by_cases hi : i < ρ.length
  · obtain ⟨F1, S1, sub⟩ := S.kill i
    obtain ⟨F2, S2, p⟩ := S1.put (i := i) (d := d) (by simpa using hi) (by rw [List.getElem?_set_self hi]) r
    rw [List.set_set] at S2
    have n1 : (F1 ++ G).Nodup := n.sublist (sub.append (List.Sublist.refl G))
    exact ⟨F2, S2, perm_nodup p.symm n1, fun b hb => (List.mem_append.mp (p.mem_iff.mp hb)).elim (fun z => List.mem_append_left _ (sub.subset z)) (List.mem_append_right _)⟩
  · have e1 : ρ.set i (some d) = ρ := List.set_eq_of_length_le (by omega)
    have e2 : σ.set i (some v) = σ := List.set_eq_of_length_le (by rw [← S.length]; omega)
    rw [e1, e2]
    exact ⟨F, S, (List.nodup_append.mp n).1, fun b hb => List.mem_append_left _ hb⟩
theorem tds_set {f : EM} {i : Nat} (hi : i ∉ io) (h : tDS K adr T io W (sSet i f) D σ H) : tAsg (tD K adr T W f) (gName i) D σ H := ts1 h fun dx ρ1 F Fx x H1 S r n q => by
  obtain ⟨F', a, b, c⟩ := S.rep.store (i := i) r n
  exact q _ _ ⟨F', ⟨a, b, S.tab⟩, Stp.refl S.tab c, Fix.set hi⟩
def sDrop (f : EM) : SM := s1 f fun _ ρ => .nx ρ
theorem tds_drop {f : EM} (h : tDS K adr T io W (sDrop f) D σ H) : tDrop (tD K adr T W f) D σ H := ts1 h fun dx ρ1 F Fx x H1 S r n q =>
  q _ _ ⟨F, S, Stp.drop S.tab, Fix.refl _ _⟩
def sRet (f : EM) : SM := s1 f fun d ρ => .rt d ρ
theorem tds_ret {f : EM} (h : tDS K adr T io W (sRet f) D σ H) : tRet (tD K adr T W f) D σ H := ts1 h fun dx ρ1 F Fx x H1 S r n q =>
  q _ σ _ ⟨F, Fx, S.rep, r, n, Stp.refl S.tab fun _ z => z, Fix.refl _ _⟩
def sIf (c : EM) (f g : SM) : SM := s1 c fun x ρ => match x with
  | .bl true => f ρ
  | .bl false => g ρ
  | _ => .fail
theorem tds_if {c : EM} {f g : SM} (h : tDS K adr T io W (sIf c f g) D σ H) : tIfS (tB (tD K adr T W c)) (tDS K adr T io W f) (tDS K adr T io W g) D σ H := ts1 h fun dx ρ1 F Fx x H1 S r n q => by
  cases dx with
  | bl b =>
    have e : Fx = [] := r.2
    rw [e, List.append_nil] at q
    refine ⟨b, r.1, ?_⟩
    cases b with
    | true => exact ⟨ρ1, F, S, q⟩
    | false => exact ⟨ρ1, F, S, q⟩
  | _ => exact q.elim
/-- slots forgotten -/
def killL (ρ : Env) : List Nat → Env
  | [] => ρ
  | i :: l => killL (ρ.set i none) l
theorem RepS.killL : ∀ {l : List Nat} {ρ : Env} {F : List Addr}, RepS K adr H ρ σ F → ∃ F', RepS K adr H (DL.killL ρ l) σ F' ∧ F'.Sublist F
  | [], _, F, h => ⟨F, h, .refl _⟩
  | i :: l, ρ, F, h => by
    obtain ⟨F1, a, b⟩ := h.kill i
    obtain ⟨F2, c, d⟩ := RepS.killL (l := l) a
    exact ⟨F2, c, d.trans b⟩
def sKill (l : List Nat) (f : SM) : SM := fun ρ => f (killL ρ l)
theorem tds_kill {f : SM} {l : List Nat} (h : tDS K adr T io W (sKill l f) D σ H) : tDS K adr T io W f D σ H := by
  obtain ⟨ρ, F, S, h⟩ := h
  obtain ⟨F', a, b⟩ := S.rep.killL (l := l)
  exact ⟨_, F', ⟨a, S.nd.sublist b, S.tab⟩, HoldS.weak (Stp.refl S.tab fun x hx => b.subset hx) (Fix.refl _ _) h⟩

/-! ### targets -/
/-- what storing a thing makes of the slots -/
abbrev TM := Env → DL.D → Option Env
end
section
variable (K : PySem.W.Frag) (adr : Adr) (T : List (Addr × Str)) (io : List Nat)
def gD (t : TM) : TG := fun v σ H Q => ∃ ρ F d Fd, Sim K adr T ρ σ H F ∧ Rep K adr H d v Fd ∧ (F ++ Fd).Nodup ∧ ∃ ρ', t ρ d = some ρ' ∧ ∀ σ' H' F', Sim K adr T ρ' σ' H' F' → Stp T (F ++ Fd) H F' H' → Fix io σ σ' → Q σ' H'
def gDs (t : Env → List D → Option Env) : TGs := fun vs σ H Q => ∃ ρ F ds Fd, Sim K adr T ρ σ H F ∧ RepL K adr H ds vs Fd ∧ (F ++ Fd).Nodup ∧ ∃ ρ', t ρ ds = some ρ' ∧ ∀ σ' H' F', Sim K adr T ρ' σ' H' F' → Stp T (F ++ Fd) H F' H' → Fix io σ σ' → Q σ' H'
end
def tgN (i : Nat) : TM := fun ρ d => some (ρ.set i (some d))
def tgNil : Env → List D → Option Env := fun ρ ds => match ds with
  | [] => some ρ
  | _ => none
def tgCons (t : TM) (u : Env → List D → Option Env) : Env → List D → Option Env := fun ρ ds => match ds with
  | d :: ds => (t ρ d).bind fun ρ => u ρ ds
  | [] => none
def tgT (n : Nat) (u : Env → List D → Option Env) : TM := fun ρ d => match d with
  | .tup ds => if ds.length = n then u ρ ds else none
  | _ => none
section
variable {K : PySem.W.Frag} {adr : Adr} {T : List (Addr × Str)} {io : List Nat} {F G G' F1 : List Addr} {H H1 H2 : Hp} {σ σ1 : L2.St} {W : WX} {ρ ρ' : Env}
theorem gd_name {i : Nat} {v : V} {Q : L2.St → Hp → Prop} (hi : i ∉ io) (h : gD K adr T io (tgN i) v σ H Q) : gName i v σ H Q := by
  obtain ⟨ρ, F, d, Fd, S, r, n, ρ', e, q⟩ := h
  cases e
  obtain ⟨F', a, b, c⟩ := S.rep.store (i := i) r n
  exact q _ _ F' ⟨a, b, S.tab⟩ (Stp.refl S.tab c) (Fix.set hi)
theorem gd_nil {vs : List V} {Q : L2.St → Hp → Prop} (h : gDs K adr T io tgNil vs σ H Q) : gNil vs σ H Q := by
  obtain ⟨ρ, F, ds, Fd, S, r, n, ρ', e, q⟩ := h
  cases ds with
  | nil =>
    cases e
    obtain ⟨rfl, rfl⟩ := r
    exact ⟨rfl, q σ H F S (by simpa using Stp.refl S.tab fun _ z => z) (Fix.refl _ _)⟩
  | cons d ds => cases e
theorem gd_cons {t : TM} {u : Env → List D → Option Env} {vs : List V} {Q : L2.St → Hp → Prop} (h : gDs K adr T io (tgCons t u) vs σ H Q) : gCons (gD K adr T io t) (gDs K adr T io u) vs σ H Q := by
  obtain ⟨ρ, F, ds, Fd, S, r, n, ρ', e, q⟩ := h
  cases ds with
  | nil => cases e
  | cons d ds =>
    obtain ⟨v, ws, F1, F2, rfl, r1, r2, rfl⟩ := r
    refine ⟨v, ws, rfl, ρ, F, d, F1, S, r1, n.sublist ((List.Sublist.refl F).append (List.sublist_append_left F1 F2)), ?_⟩
    have e' : (t ρ d).bind (fun ρ => u ρ ds) = some ρ' := e
    cases et : t ρ d with
    | none => rw [et] at e'; cases e'
    | some ρ1 =>
      rw [et] at e'
      refine ⟨ρ1, rfl, fun σ1 H1 G1 S1 st fx => ?_⟩
      have ap : ∀ b ∈ F2, b ∉ F ++ F1 := fun b hb hb' => by
        rw [← List.append_assoc] at n
        exact (List.nodup_append.mp n).2.2 b hb' b hb rfl
      have hF2 : ∀ b ∈ F2, H b ≠ none := fun b hb => ne_none_of (r2.mem b hb)
      have n2 : (G1 ++ F2).Nodup := nodup_aside (A := F ++ F1) (by rw [List.append_assoc]; exact n) S1.nd st.frs hF2
      refine ⟨ρ1, G1, ds, F2, S1, r2.ext st.ext ap, n2, ρ', e', fun σ2 H2 G2 S2 st2 fx2 => q σ2 H2 G2 S2 ?_ (fx.trans fx2)⟩
      have st' : Stp T (F ++ (F1 ++ F2)) H (G1 ++ F2) H1 := ⟨st.ext.mono fun b hb => by rw [← List.append_assoc]; exact List.mem_append_left _ hb, fun b hb => (List.mem_append.mp hb).elim (fun z => (st.frs b z).imp (fun w => by rw [← List.append_assoc]; exact List.mem_append_left _ w) id) fun z => .inl (List.mem_append_right _ (List.mem_append_right _ z)), st.tab⟩
      exact st'.trans st2 fun _ z => z
theorem gd_tup {m : Nat} {u : Env → List D → Option Env} {v : V} {Q : L2.St → Hp → Prop} (h : gD K adr T io (tgT m u) v σ H Q) : gTup K m (gDs K adr T io u) v σ H Q := by
  obtain ⟨ρ, F, d, Fd, S, r, n, ρ', e, q⟩ := h
  cases d with
  | tup ds =>
    obtain ⟨a, vs, rfl, ha, r⟩ := r
    have e' : (if ds.length = m then u ρ ds else none) = some ρ' := e
    by_cases hl : ds.length = m
    · rw [if_pos hl] at e'
      exact ⟨a, vs, rfl, ha, by rw [r.length]; exact hl, ρ, F, ds, Fd, S, r, n, ρ', e', q⟩
    · rw [if_neg hl] at e'; cases e'
  | _ => cases e
/-- target = e -/
def sAsg (f : EM) (t : TM) : SM := s1 f fun d ρ => match t ρ d with
  | some ρ' => .nx ρ'
  | none => .fail
theorem tds_asg {f : EM} {t : TM} {D : Ends} (h : tDS K adr T io W (sAsg f t) D σ H) : tAsg (tD K adr T W f) (gD K adr T io t) D σ H := ts1 h fun dx ρ1 F Fx x H1 S r n q => by
  cases e : t ρ1 dx with
  | none => simp only [e] at q; exact q.elim
  | some ρ' =>
    simp only [e] at q
    exact ⟨ρ1, F, dx, Fx, S, r, n, ρ', e, fun σ' H' F' S' st fx => q σ' H' ⟨F', S', st, fx⟩⟩
end

/-! ### the rules -/
section
variable {X : Cx} {adr : Adr} {T : List (Addr × Str)} {io : List Nat} {W : WX} {pos : Pos} {a b c e : Expr} {f g k : EM} {as : AM} {es : List Expr} {st : Stmt} {rest : List Stmt} {p q : SM}
theorem pss_d0 : PSs X [] (tDS X.K adr T io W sNx) := PSs.imp pss_nil fun D σ H ⟨ρ, F, S, q⟩ => q σ H ⟨F, S, Stp.refl S.tab (fun _ z => z), Fix.refl _ _⟩
theorem pss_d (h1 : PS X st (tDS X.K adr T io W p)) (h2 : PSs X rest (tDS X.K adr T io W q)) : PSs X (st :: rest) (tDS X.K adr T io W (sSeq p q)) := PSs.imp (pss_cons h1 h2) fun _ _ _ q => tds_seq q
theorem pss_d1 (h1 : PS X st (tDS X.K adr T io W p)) : PSs X [st] (tDS X.K adr T io W p) := pss_one h1
theorem pss_kill (l : List Nat) (h : PSs X rest (tDS X.K adr T io W p)) : PSs X rest (tDS X.K adr T io W (sKill l p)) := PSs.imp h fun _ _ _ q => tds_kill q
theorem ps_dpass : PS X (.Pass pos) (tDS X.K adr T io W sNx) := PS.imp ps_pass fun D σ H ⟨ρ, F, S, q⟩ => q σ H ⟨F, S, Stp.refl S.tab (fun _ z => z), Fix.refl _ _⟩
theorem ps_dset (i : Nat) {x : Str} {pos' : Pos} (hN : X.N.Nodup) (he : PE X e (tD X.K adr T W f)) (hio : i ∉ io := by decide) (hi : X.N[i]? = some x := by rfl) (hx : Loc X.env.scope x := by first | exact .inl rfl | exact .inr rfl) (hs : swapsWith e (some (.Name x pos')) pos.line X.env = pure false := by rfl) (hf : X.fn x = true ∨ X.env.scope.names.lookup x = some .local := by first | exact .inl rfl | exact .inr rfl | assumption) :
    PS X (.Assign [.Name x pos'] e pos) (tDS X.K adr T io W (sSet i f)) := PS.imp (ps_set hN hi hx he hs hf) fun _ _ _ q => tds_set hio q
theorem ps_dexpr (he : PE X e (tD X.K adr T W f)) (hs : swapsWith e none pos.line X.env = pure false := by rfl) : PS X (.Expr e pos) (tDS X.K adr T io W (sDrop f)) := PS.imp (ps_expr he hs) fun _ _ _ q => tds_drop q
theorem ps_dret (he : PE X e (tD X.K adr T W f)) : PS X (.Return (some e) pos) (tDS X.K adr T io W (sRet f)) := PS.imp (ps_ret he) fun _ _ _ q => tds_ret q
theorem ps_dif {x y : List Stmt} (hc : PT X c (tDT X adr T W f)) (ha : PSs X x (tDS X.K adr T io W p)) (hb : PSs X y (tDS X.K adr T io W q)) : PS X (.If c x y pos) (tDS X.K adr T io W (sIf f p q)) := PS.imp (ps_if hc ha hb) fun _ _ _ q => tds_if q
/-- never come to -/
def sFail : SM := fun _ => .fail
def eFail : EM := fun _ => .fail
theorem ps_dfail : PS X st (tDS X.K adr T io W sFail) := PS.imp ps_never fun D σ H ⟨ρ, F, S, q⟩ => q
theorem pss_dfail : PSs X rest (tDS X.K adr T io W sFail) := PSs.imp pss_never fun D σ H ⟨ρ, F, S, q⟩ => q
theorem pe_dfail : PE X e (tD X.K adr T W eFail) := ⟨fun _ _ _ _ _ _ ⟨ρ, F, S, q⟩ => q.elim⟩
theorem PG.imp {t t' : TG} (h : PG X e t) (w : ∀ v σ H Q, t' v σ H Q → t v σ H Q) : PG X e t' := ⟨fun pins s σ H v u Q I r q => h.run pins s σ H v u Q I r (w _ _ _ _ q)⟩
theorem PGs.imp {t t' : TGs} (h : PGs X es t) (w : ∀ v σ H Q, t' v σ H Q → t v σ H Q) : PGs X es t' := ⟨fun pins s σ H v u Q I r q => h.run pins s σ H v u Q I r (w _ _ _ _ q)⟩
theorem pg_d (i : Nat) {x : Str} (hN : X.N.Nodup) (hio : i ∉ io := by decide) (hi : X.N[i]? = some x := by rfl) (hx : Loc X.env.scope x := by first | exact .inl rfl | exact .inr rfl) (hf : X.fn x = true ∨ X.env.scope.names.lookup x = some .local := by first | exact .inl rfl | exact .inr rfl | assumption) :
    PG X (.Name x pos) (gD X.K adr T io (tgN i)) := PG.imp (pg_name hN hi hx hf) fun _ _ _ _ q => gd_name hio q
theorem pgs_d0 : PGs X [] (gDs X.K adr T io tgNil) := PGs.imp pgs_nil fun _ _ _ _ q => gd_nil q
theorem pgs_d {t : TM} {u : Env → List D → Option Env} (h1 : PG X e (gD X.K adr T io t)) (h2 : PGs X es (gDs X.K adr T io u)) (hs : (assignEach (e :: es) X.env).map (·.2) = assign e X.env :: (assignEach es X.env).map (·.2) := by rfl) : PGs X (e :: es) (gDs X.K adr T io (tgCons t u)) :=
  PGs.imp (pgs_cons h1 h2 hs) fun _ _ _ _ q => gd_cons q
theorem pg_dt (n : Nat) {kk : Nat} {u : Env → List D → Option Env} (hc : X.calm = true) (h : PGs X es (gDs X.K adr T io u)) (hn : (assignEach es X.env).length = n := by rfl) (hst : (assignEach es X.env).findIdx? (·.1) = none := by rfl) : PG X (.Tuple es kk pos) (gD X.K adr T io (tgT n u)) :=
  PG.imp (pg_tup hc h hn hst) fun _ _ _ _ q => gd_tup q
theorem ps_dasg {tg : Expr} {t : TM} (he : PE X e (tD X.K adr T W f)) (hg : PG X tg (gD X.K adr T io t)) (hs : swapsWithSole [tg] e pos.line X.env = pure false := by rfl) (hw : swappedStores [tg] e X.env = pure none := by rfl) (h1 : (assignEach [tg] X.env).map (·.2) = [assign tg X.env] := by rfl) :
    PS X (.Assign [tg] e pos) (tDS X.K adr T io W (sAsg f t)) := PS.imp (ps_asg he hg hs hw h1) fun _ _ _ q => tds_asg q
end
end DL
set_option Elab.async false
set_option linter.all false
set_option maxRecDepth 100000
set_option maxHeartbeats 4000000
namespace DL
open PySem L2
open LamX (Tabs)

/-! ### what is walked -/
/-- what stands at G is as it was -/
def Kp (G : List Addr) (H0 H1 : Hp) : Prop := ∃ F0, Ext F0 H0 H1 ∧ ∀ b ∈ G, b ∉ F0
theorem Kp.refl {G : List Addr} {H : Hp} : Kp G H H := ⟨[], Ext.refl _ _, fun _ _ z => nomatch z⟩
theorem Kp.step {G F1 : List Addr} {H H1 H2 : Hp} (k : Kp G H H1) (e : Ext F1 H1 H2) (n : ∀ b ∈ G, b ∉ F1) : Kp G H H2 := by
  obtain ⟨F0, e0, n0⟩ := k
  refine ⟨F0 ++ F1, (e0.mono fun b hb => List.mem_append_left _ hb).trans (e.mono (G := F1) fun _ z => z) fun c hc => .inl (List.mem_append_right _ hc), fun b hb z => ?_⟩
  rcases List.mem_append.mp z with z | z
  · exact n0 b hb z
  · exact n b hb z
section
variable (K : PySem.W.Frag) (adr : Adr) (T : List (Addr × Str))
/-- J gives the items ds, one after another, while what is at G stands -/
def ItD (J : It) (ds : List D) (H0 : Hp) (G : List Addr) : Prop := ∀ H1, Kp G H0 H1 → ∀ i : Nat,
  (∀ d, ds[i]? = some d → J.go i H1 ∧ ∀ x H2, J.yld i H1 x H2 → Rep K adr H2 d x [] ∧ Ext [] H1 H2 ∧ (Tabs T H1 → Tabs T H2)) ∧ (ds.length ≤ i → J.stop i H1)
abbrev IM := Env → Res (List D)
def tDI (W : WX) (im : IM) : TI := fun σ H R => ∃ ρ F, Sim K adr T ρ σ H F ∧ match im ρ with
  | .ok ds ρ' => ∀ J H' F' G, Sim K adr T ρ' σ H' F' → (F' ++ G).Nodup → (∀ b ∈ G, H' b ≠ none) → Stp T F H (F' ++ G) H' → ItD K adr T J ds H' G → R J H'
  | .exc x ρ' => ∀ cls dx H', PostX K adr T F H σ ρ' x cls dx H' → W cls dx σ H'
  | .fail => False
end
theorem PI.imp {X : Cx} {tg e : Expr} {t t' : TI} (h : PI X tg e t) (w : ∀ σ H Q, t' σ H Q → t σ H Q) : PI X tg e t' := ⟨fun pins s σ H Q I q => h.run pins s σ H Q I (w _ _ _ q)⟩

section
variable {K : PySem.W.Frag} {adr : Adr} {T : List (Addr × Str)} {io : List Nat} {F G G' F1 : List Addr} {H H1 H2 : Hp} {σ σ1 : L2.St} {W : WX} {ρ ρ' : Env}
/-- an iterator's source reckoned from values -/
def iA (g : AM) (k : List D → Option (List D)) : IM := fun ρ => (g ρ).bind fun ds ρ => match k ds with
  | some l => .ok l ρ
  | none => .fail
theorem tI {g : AM} {k : List D → Option (List D)} {R : It → Hp → Prop} {R' : List V → Hp → Prop} (h : tDI K adr T W (iA g k) σ H R)
    (hk : ∀ ds F Fx xs H1 l, RepL K adr H1 ds xs Fx → (F ++ Fx).Nodup → Tabs T H1 → (∀ b ∈ F, H1 b ≠ none) → k ds = some l → (∀ J H', Ext [] H1 H' → Tabs T H' → ItD K adr T J l H' Fx → R J H') → R' xs H1) : tDA K adr T W g σ H R' := by
  obtain ⟨ρ, F, S, h⟩ := h
  refine ⟨ρ, F, S, ?_⟩
  unfold iA at h
  cases e : g ρ with
  | exc x ρ1 => rw [e] at h; exact h
  | fail => rw [e] at h; exact h
  | ok ds ρ1 =>
    rw [e] at h
    intro xs H1 ⟨F1, Fx, s1, r, n, st⟩
    have h' : (match (match k ds with | some l => Res.ok l ρ1 | none => .fail : Res (List D)) with
      | .ok ds ρ' => ∀ J H' F' G, Sim K adr T ρ' σ H' F' → (F' ++ G).Nodup → (∀ b ∈ G, H' b ≠ none) → Stp T F H (F' ++ G) H' → ItD K adr T J ds H' G → R J H'
      | .exc x ρ' => ∀ cls dx H', PostX K adr T F H σ ρ' x cls dx H' → W cls dx σ H'
      | .fail => False) := h
    cases ek : k ds with
    | none => simp only [ek] at h'
    | some l =>
      simp only [ek] at h'
      refine hk ds F1 Fx xs H1 l r n st.tab (fun b hb => ne_none_of (s1.mem b hb)) ek fun J H' e0 t0 it => ?_
      have S' : Sim K adr T ρ1 σ H' F1 := ⟨s1.ext e0 (fun _ _ z => nomatch z), (List.nodup_append.mp n).1, t0⟩
      refine h' J H' F1 Fx S' n (fun b hb z => ne_none_of (r.mem b hb) (e0.dom b z)) ⟨(st.ext.trans (e0.mono (G := []) fun _ z => z) fun _ z => nomatch z), st.frs, t0⟩ it

/-! ### for -/
/-- the turns of a loop -/
def forL (st : D → SM) : List D → SM
  | [], ρ => .nx ρ
  | d :: ds, ρ => match st d ρ with
    | .nx ρ1 => forL st ds ρ1
    | .ct ρ1 => forL st ds ρ1
    | .bk ρ1 => .nx ρ1
    | r => r
/-- one turn: the target, the body -/
def turnS (t : TM) (b : SM) : D → SM := fun d ρ => match t ρ d with
  | some ρ1 => b ρ1
  | none => .fail
def sFor (im : IM) (t : TM) (b : SM) : SM := fun ρ => (im ρ).sbind fun ds ρ => forL (turnS t b) ds ρ
theorem tds_for {im : IM} {t : TM} {b : SM} {D : Ends} (h : tDS K adr T io W (sFor im t b) D σ H) : tFor (tDI K adr T W im) (gD K adr T io t) (tDS K adr T io W b) D σ H := by
  obtain ⟨ρ, F, S, h⟩ := h
  refine ⟨ρ, F, S, ?_⟩
  unfold sFor at h
  cases e : im ρ with
  | exc x ρ1 =>
    rw [e] at h
    exact fun cls dx H' ⟨F', a, b, c, d⟩ => h cls dx σ H' ⟨F', ⟨a, c, d.tab⟩, b, d, Fix.refl _ _⟩
  | fail => rw [e] at h; exact h
  | ok ds ρ1 =>
    rw [e] at h
    intro J H1 F1 G S1 n hG st it
    have h0 : HoldS K adr T io W (forL (turnS t b) ds ρ1) (F1 ++ G) H1 σ D := HoldS.weak st (Fix.refl _ _) h
    refine ⟨fun i m σ' H' => m = ds.length - i ∧ i ≤ ds.length ∧ ∃ ρ' F', Sim K adr T ρ' σ' H' F' ∧ (F' ++ G).Nodup ∧ Kp G H1 H' ∧ (∀ b ∈ G, H' b ≠ none) ∧ HoldS K adr T io W (forL (turnS t b) (ds.drop i) ρ') (F' ++ G) H' σ' D,
      ⟨ds.length, by simp, Nat.zero_le _, ρ1, F1, S1, n, Kp.refl, hG, by simpa using h0⟩, ?_⟩
    rintro i m σ' H' ⟨rfl, hi, ρ', F', S', n', kp, hG', hh⟩
    by_cases hlt : i < ds.length
    · have ed : ds[i]? = some ds[i] := List.getElem?_eq_getElem hlt
      obtain ⟨go, yld⟩ := ((it H' kp i).1 _ ed)
      have edr : ds.drop i = ds[i] :: ds.drop (i + 1) := List.drop_eq_getElem_cons hlt
      rw [edr] at hh
      have hh' : HoldS K adr T io W (match turnS t b ds[i] ρ' with
        | .nx ρ1 => forL (turnS t b) (ds.drop (i + 1)) ρ1
        | .ct ρ1 => forL (turnS t b) (ds.drop (i + 1)) ρ1
        | .bk ρ1 => .nx ρ1
        | r => r) (F' ++ G) H' σ' D := hh
      refine .inr ⟨go, fun σ3 H3 => ∃ ρ' F', Sim K adr T ρ' σ3 H3 F' ∧ (F' ++ G).Nodup ∧ Kp G H1 H3 ∧ (∀ b ∈ G, H3 b ≠ none) ∧ HoldS K adr T io W (forL (turnS t b) (ds.drop (i + 1)) ρ') (F' ++ G) H3 σ3 D,
        fun σ3 H3 q => ⟨ds.length - (i + 1), by omega, rfl, hlt, q⟩, fun x H2 y => ?_⟩
      obtain ⟨rx, e2, t2⟩ := yld x H2 y
      have S2 : Sim K adr T ρ' σ' H2 F' := ⟨S'.rep.ext e2 (fun _ _ z => nomatch z), S'.nd, t2 S'.tab⟩
      have hG2 : ∀ b ∈ G, H2 b ≠ none := fun b hb z => hG' b hb (e2.dom b z)
      have kp2 : Kp G H1 H2 := kp.step e2 fun _ _ z => nomatch z
      unfold turnS at hh'
      cases et : t ρ' ds[i] with
      | none => simp only [et] at hh'; exact hh'.elim
      | some ρ3 =>
        simp only [et] at hh'
        refine ⟨ρ', F', ds[i], [], S2, rx, by simpa using S'.nd, ρ3, et, fun σ3 H3 F3 S3 st3 fx3 => ?_⟩
        rw [List.append_nil] at st3
        have n3 : (F3 ++ G).Nodup := nodup_aside n' S3.nd st3.frs hG2
        have hG3 : ∀ b ∈ G, H3 b ≠ none := fun b hb z => hG2 b hb (st3.ext.dom b z)
        have kp3 : Kp G H1 H3 := kp2.step st3.ext (apart_of n')
        -- from the turn's start to here
        have stT : Stp T (F' ++ G) H' (F3 ++ G) H3 := ⟨(e2.mono (F := []) (G := F' ++ G) fun _ z => nomatch z).trans (st3.ext.mono fun b hb => List.mem_append_left _ hb) fun c hc => .inl hc, fun b hb => (List.mem_append.mp hb).elim (fun z => (st3.frs b z).imp (List.mem_append_left _) (e2.dom b)) fun z => .inl (List.mem_append_right _ z), S3.tab⟩
        refine ⟨ρ3, F3, S3, ?_⟩
        -- behind the body
        have after : ∀ {ρ4 : Env} {σ4 : L2.St} {H4 : Hp} {F4 : List Addr}, Sim K adr T ρ4 σ4 H4 F4 → Stp T F3 H3 F4 H4 → Fix io σ3 σ4 → (F4 ++ G).Nodup ∧ Kp G H1 H4 ∧ (∀ b ∈ G, H4 b ≠ none) ∧ Stp T (F' ++ G) H' (F4 ++ G) H4 := fun {ρ4 σ4 H4 F4} S4 st4 fx4 => by
          have n4 : (F4 ++ G).Nodup := nodup_aside n3 S4.nd st4.frs hG3
          refine ⟨n4, kp3.step st4.ext (apart_of n3), fun b hb z => hG3 b hb (st4.ext.dom b z), ?_⟩
          have z1 : Stp T (F3 ++ G) H3 (F4 ++ G) H4 := ⟨st4.ext.mono fun b hb => List.mem_append_left _ hb, fun b hb => (List.mem_append.mp hb).elim (fun z => (st4.frs b z).imp (List.mem_append_left _) id) fun z => .inl (List.mem_append_right _ z), S4.tab⟩
          exact stT.trans z1 fun _ z => z
        cases eb : b ρ3 with
        | nx ρ4 =>
          simp only [eb] at hh'
          intro σ4 H4 ⟨F4, S4, st4, fx4⟩
          obtain ⟨a1, a2, a3, a4⟩ := after S4 st4 fx4
          exact ⟨ρ4, F4, S4, a1, a2, a3, HoldS.weak a4 (fx3.trans fx4) hh'⟩
        | ct ρ4 =>
          simp only [eb] at hh'
          intro σ4 H4 ⟨F4, S4, st4, fx4⟩
          obtain ⟨a1, a2, a3, a4⟩ := after S4 st4 fx4
          exact ⟨ρ4, F4, S4, a1, a2, a3, HoldS.weak a4 (fx3.trans fx4) hh'⟩
        | bk ρ4 =>
          simp only [eb] at hh'
          intro σ4 H4 ⟨F4, S4, st4, fx4⟩
          obtain ⟨a1, a2, a3, a4⟩ := after S4 st4 fx4
          exact hh' σ4 H4 ⟨F4, S4, a4.sub fun b hb => List.mem_append_left _ hb, fx3.trans fx4⟩
        | rt d ρ4 =>
          simp only [eb] at hh'
          intro v σ4 H4 ⟨F4, Fd, s4, r4, n4, st4, fx4⟩
          refine hh' v σ4 H4 ⟨F4, Fd, s4, r4, n4, ?_, fx3.trans fx4⟩
          have z1 : Stp T (F3 ++ G) H3 (F4 ++ Fd) H4 := st4.mono fun b hb => List.mem_append_left _ hb
          exact stT.trans z1 fun _ z => z
        | exc x ρ4 =>
          simp only [eb] at hh'
          intro cls dx σ4 H4 ⟨F4, S4, rx4, st4, fx4⟩
          refine hh' cls dx σ4 H4 ⟨F4, S4, rx4, ?_, fx3.trans fx4⟩
          have z1 : Stp T (F3 ++ G) H3 F4 H4 := st4.mono fun b hb => List.mem_append_left _ hb
          exact stT.trans z1 fun _ z => z
        | fail => simp only [eb] at hh'; exact hh'.elim
    · have e0 : i = ds.length := by omega
      refine .inl ⟨(it H' kp i).2 (by omega), ?_⟩
      rw [e0, List.drop_length] at hh
      exact hh σ' H' ⟨F', S', Stp.drop S'.tab, Fix.refl _ _⟩
end


/-! ### the sources -/
/-- an iterator's source reckoned from one value -/
def iE (f : EM) (k : D → Option (List D)) : IM := fun ρ => (f ρ).bind fun d ρ => match k d with
  | some l => .ok l ρ
  | none => .fail
section
variable {K : PySem.W.Frag} {adr : Adr} {T : List (Addr × Str)} {io : List Nat} {F G G' F1 : List Addr} {H H1 H2 : Hp} {σ σ1 : L2.St} {W : WX} {ρ ρ' : Env}
theorem tIE {f : EM} {k : D → Option (List D)} {R : It → Hp → Prop} {R' : V → Hp → Prop} (h : tDI K adr T W (iE f k) σ H R)
    (hk : ∀ d F Fx x H1 l, Rep K adr H1 d x Fx → (F ++ Fx).Nodup → Tabs T H1 → k d = some l → (∀ J H', Ext [] H1 H' → Tabs T H' → ItD K adr T J l H' Fx → R J H') → R' x H1) : tD K adr T W f σ H R' := by
  obtain ⟨ρ, F, S, h⟩ := h
  refine ⟨ρ, F, S, ?_⟩
  unfold iE at h
  cases e : f ρ with
  | exc x ρ1 => rw [e] at h; exact h
  | fail => rw [e] at h; exact h
  | ok d ρ1 =>
    rw [e] at h
    intro x H1 p
    obtain ⟨F1, Fx, S1, r, n, st⟩ := p.sim
    have h' : (match (match k d with | some l => Res.ok l ρ1 | none => .fail : Res (List D)) with
      | .ok ds ρ' => ∀ J H' F' G, Sim K adr T ρ' σ H' F' → (F' ++ G).Nodup → (∀ b ∈ G, H' b ≠ none) → Stp T F H (F' ++ G) H' → ItD K adr T J ds H' G → R J H'
      | .exc x ρ' => ∀ cls dx H', PostX K adr T F H σ ρ' x cls dx H' → W cls dx σ H'
      | .fail => False) := h
    cases ek : k d with
    | none => simp only [ek] at h'
    | some l =>
      simp only [ek] at h'
      refine hk d F1 Fx x H1 l r n st.tab ek fun J H' e0 t0 it => ?_
      have S' : Sim K adr T ρ1 σ H' F1 := ⟨S1.rep.ext e0 (fun _ _ z => nomatch z), S1.nd, t0⟩
      refine h' J H' F1 Fx S' n (fun b hb z => ne_none_of (r.mem b hb) (e0.dom b z)) ⟨(st.ext.trans (e0.mono (G := []) fun _ z => z) fun _ z => nomatch z), st.frs, t0⟩ it
theorem rep_items {ds : List D} {vs : List V} {i : Nat} {x : D} (r : RepL K adr H ds vs []) (hx : ds[i]? = some x) : ∃ v, vs[i]? = some v ∧ Rep K adr H x v [] := by
  obtain ⟨v, Gv, hv, rv, sub⟩ := r.get hx
  have eG : Gv = [] := by
    cases Gv with
    | nil => rfl
    | cons z l => exact nomatch sub z List.mem_cons_self
  rw [eG] at rv
  exact ⟨v, hv, rv⟩
theorem itd_seq {H0 : Hp} {a : Addr} {vs : List V} {ds : List D} {G : List Addr} (hs : ∀ H1, Kp G H0 H1 → SqL K H1 a vs) (r0 : RepL K adr H0 ds vs []) : ItD K adr T (Itl K a) ds H0 G := fun H1 kp i => by
  obtain ⟨F0, e0, _⟩ := id kp
  have r1 : RepL K adr H1 ds vs [] := r0.ext0 e0
  refine ⟨fun x hx => ?_, fun hl => ⟨vs, hs H1 kp, by rw [r0.length]; exact hl⟩⟩
  obtain ⟨v, hv, rv⟩ := rep_items r1 hx
  refine ⟨⟨vs, v, hs H1 kp, hv⟩, fun y H2 ⟨e, q⟩ => ?_⟩
  subst e
  have := q vs (hs _ kp)
  rw [hv] at this; cases this
  exact ⟨rv, Ext.refl _ _, fun t => t⟩
theorem itd_tup {H0 : Hp} {a : Addr} {vs : List V} {ds : List D} {G : List Addr} (hs : SqT K H0 a vs) (r0 : RepL K adr H0 ds vs []) : ItD K adr T (Itt K a) ds H0 G := fun H1 kp i => by
  obtain ⟨F0, e0, _⟩ := id kp
  have r1 : RepL K adr H1 ds vs [] := r0.ext0 e0
  refine ⟨fun x hx => ?_, fun hl => ⟨vs, e0.sqt hs, by rw [r0.length]; exact hl⟩⟩
  obtain ⟨v, hv, rv⟩ := rep_items r1 hx
  refine ⟨⟨vs, v, e0.sqt hs, hv⟩, fun y H2 ⟨e, q⟩ => ?_⟩
  subst e
  have := q vs (e0.sqt hs)
  rw [hv] at this; cases this
  exact ⟨rv, Ext.refl _ _, fun t => t⟩
/-- the items of a list, of a tuple -/
def itemsL : D → Option (List D)
  | .lst ds => if dupL ds then some ds else none
  | .fls ds => if dupL ds then some ds else none
  | _ => none
def itemsT : D → Option (List D)
  | .tup ds => if dupL ds then some ds else none
  | _ => none
theorem rep_itemsL {d : D} {x : V} {Fx : List Addr} {l : List D} (r : Rep K adr H d x Fx) (e : itemsL d = some l) : ∃ a vs, x = .ref a ∧ SqL K H a vs ∧ RepL K adr H l vs [] ∧ (∀ H1, Kp Fx H H1 → SqL K H1 a vs) := by
  cases d with
  | lst ds =>
    obtain ⟨a, vs, G, ev, ho, rl, eF⟩ := r
    have e' : (if dupL ds then some ds else none) = some l := e
    by_cases hd : dupL ds = true
    · rw [if_pos hd] at e'; cases e'
      have e0 := rl.dup' hd
      subst e0
      refine ⟨a, vs, ev, .inl (.inl ho), rl, fun H1 ⟨F0, x0, n0⟩ => .inl (.inl (x0.own ho True.intro (n0 a ?_)))⟩
      rw [eF]; exact List.mem_cons_self
    · rw [if_neg hd] at e'; cases e'
  | fls ds =>
    obtain ⟨a, vs, ev, ho, rl⟩ := r
    have e' : (if dupL ds then some ds else none) = some l := e
    by_cases hd : dupL ds = true
    · rw [if_pos hd] at e'; cases e'
      have e0 := rl.dup' hd
      subst e0
      exact ⟨a, vs, ev, ho.sq, rl, fun H1 ⟨F0, x0, n0⟩ => (x0.sqf ho).sq⟩
    · rw [if_neg hd] at e'; cases e'
  | _ => cases e
theorem rep_itemsT {d : D} {x : V} {Fx : List Addr} {l : List D} (r : Rep K adr H d x Fx) (e : itemsT d = some l) : ∃ a vs, x = .ref a ∧ SqT K H a vs ∧ RepL K adr H l vs [] := by
  cases d with
  | tup ds =>
    obtain ⟨a, vs, ev, ho, rl⟩ := r
    have e' : (if dupL ds then some ds else none) = some l := e
    by_cases hd : dupL ds = true
    · rw [if_pos hd] at e'; cases e'
      have e0 := rl.dup' hd
      subst e0
      exact ⟨a, vs, ev, ho, rl⟩
    · rw [if_neg hd] at e'; cases e'
  | _ => cases e
/-- ints in a row -/
def rangeD (lo : Int) (n : Nat) : List D := (List.range n).map fun i : Nat => .int (lo + ((i : Nat) : Int))
theorem itd_range {H0 : Hp} {lo : Int} {n : Nat} {G : List Addr} : ItD K adr T (Itr lo n) (rangeD lo n) H0 G := fun H1 kp i => by
  refine ⟨fun x hx => ?_, fun hl => ?_⟩
  · unfold rangeD at hx
    rw [List.getElem?_map] at hx
    by_cases hi : i < n
    · rw [List.getElem?_range hi] at hx
      cases hx
      exact ⟨hi, fun y H2 ⟨e, q⟩ => by subst e; subst q; exact ⟨⟨rfl, rfl⟩, Ext.refl _ _, fun t => t⟩⟩
    · rw [List.getElem?_eq_none (by simpa using hi)] at hx
      cases hx
  · unfold rangeD at hl
    rw [List.length_map, List.length_range] at hl
    exact hl
def small62 (i : Int) : Bool := decide (-(2 ^ 62) ≤ i) && decide (i < 2 ^ 62)
def rng1 : List D → Option (List D)
  | [.int j] => if small62 j then some (rangeD 0 j.toNat) else none
  | _ => none
def rng2 : List D → Option (List D)
  | [.int i, .int j] => if small62 i && small62 j then some (rangeD i (j - i).toNat) else none
  | _ => none
end
section
variable {X : Cx} {adr : Adr} {T : List (Addr × Str)} {io : List Nat} {W : WX} {pos : Pos} {tg e a b : Expr} {f g : EM} {as : AM} {es : List Expr} {p : SM}
theorem pid_list (he : PE X e (tD X.K adr T W f)) : PI X tg e (tDI X.K adr T W (iE f itemsL)) := PI.imp (pi_list he) fun σ H R h =>
  tIE h fun d F Fx x H1 l r n t ek q => by
    obtain ⟨a, vs, e1, hs, rl, hk⟩ := rep_itemsL r ek
    exact ⟨a, e1, ⟨vs, hs⟩, q _ H1 (Ext.refl _ _) t (itd_seq hk rl)⟩
theorem pid_tup (he : PE X e (tD X.K adr T W f)) : PI X tg e (tDI X.K adr T W (iE f itemsT)) := PI.imp (pi_tup he) fun σ H R h =>
  tIE h fun d F Fx x H1 l r n t ek q => by
    obtain ⟨a, vs, e1, hs, rl⟩ := rep_itemsT r ek
    exact ⟨a, e1, ⟨vs, hs⟩, q _ H1 (Ext.refl _ _) t (itd_tup hs rl)⟩
theorem pid_range1 {p : Pos} (hg : Gl X "range") (hm : X.mg "range" = none) (ha : PA X [a] (tDA X.K adr T W as)) (hs : starEach [a] X.env = [(false, eval a X.env)] := by rfl) : PI X tg (.Call (.Name "range" p) [a] [] pos) (tDI X.K adr T W (iA as rng1)) :=
  PI.imp (pi_range1 hg hm ha hs) fun σ H R h => tI h fun ds F Fx xs H1 l r n t hF ek q => by
    unfold rng1 at ek
    split at ek
    · rename_i j
      by_cases hs : small62 j = true
      · rw [if_pos hs] at ek; cases ek
        obtain ⟨v, ws, F1, F2, e1, r1, r2, e2⟩ := r
        obtain ⟨rfl, rfl⟩ := r2
        obtain ⟨rfl, rfl⟩ := r1
        unfold small62 at hs
        rw [Bool.and_eq_true, decide_eq_true_eq, decide_eq_true_eq] at hs
        exact ⟨j, e1, hs.1, hs.2, q _ H1 (Ext.refl _ _) t itd_range⟩
      · rw [if_neg hs] at ek; cases ek
    · cases ek
theorem pid_range2 {p : Pos} (hg : Gl X "range") (hm : X.mg "range" = none) (ha : PA X [a, b] (tDA X.K adr T W as)) (hs : starEach [a, b] X.env = [(false, eval a X.env), (false, eval b X.env)] := by rfl) (hs2 : starEach [b] X.env = [(false, eval b X.env)] := by rfl) :
    PI X tg (.Call (.Name "range" p) [a, b] [] pos) (tDI X.K adr T W (iA as rng2)) :=
  PI.imp (pi_range2 hg hm ha hs hs2) fun σ H R h => tI h fun ds F Fx xs H1 l r n t hF ek q => by
    unfold rng2 at ek
    split at ek
    · rename_i i j
      by_cases hs : (small62 i && small62 j) = true
      · rw [if_pos hs] at ek; cases ek
        obtain ⟨v, ws, F1, F2, e1, r1, r2, e2⟩ := r
        obtain ⟨v', ws', F1', F2', e1', r1', r2', e2'⟩ := r2
        obtain ⟨rfl, rfl⟩ := r2'
        obtain ⟨rfl, rfl⟩ := r1
        obtain ⟨rfl, rfl⟩ := r1'
        subst e1'
        unfold small62 at hs
        simp only [Bool.and_eq_true, decide_eq_true_eq] at hs
        exact ⟨i, j, e1, ⟨hs.1.1, hs.1.2, hs.2.1, hs.2.2⟩, q _ H1 (Ext.refl _ _) t itd_range⟩
      · rw [if_neg hs] at ek; cases ek
    · cases ek
theorem ps_dfor {t : TM} {iter : Expr} {body : List Stmt} {im : IM} (hp : PassesOwn (model X.prog X.w) X.A X.env X.xe) (hc : X.calm = true) (hi : PI X tg iter (tDI X.K adr T W im)) (hg : PG X tg (gD X.K adr T io t)) (hb : PSs X body (tDS X.K adr T io W p))
    (hs : ∀ x, foldedSetIterable iter X.env x = pure x := by intro _; rfl) : PS X (.For tg iter body [] pos) (tDS X.K adr T io W (sFor im t p)) := PS.imp (ps_for hp hc hi hg hb hs) fun _ _ _ q => tds_for q
end
end DL
set_option Elab.async false
set_option linter.all false
set_option maxRecDepth 100000
set_option maxHeartbeats 4000000
namespace DL
open PySem L2
open LamX (Tabs)

/-! ### comprehensions -/
/-- slots that hold nothing -/
def freeL (ρ : Env) (vs : List Nat) : Bool := vs.all fun i => match ρ[i]? with
  | some none => true
  | _ => false
/-- nothing is let out of a comprehension -/
abbrev W0 : WX := fun _ _ _ _ => False
def lcL (t : TM) (c e : EM) (vs : List Nat) : List D → List D → EM
  | [], acc, ρ => .ok (.lst acc) ρ
  | d :: ds, acc, ρ => match t ρ d with
    | none => .fail
    | some ρ1 => match c ρ1 with
      | .ok (.bl true) ρ2 => match e ρ2 with
        | .ok x ρ3 => if acc.length < sizeLine then lcL t c e vs ds (acc ++ [x]) (killL ρ3 vs) else .fail
        | _ => .fail
      | .ok (.bl false) ρ2 => lcL t c e vs ds acc (killL ρ2 vs)
      | _ => .fail
def eLc (im : IM) (t : TM) (c e : EM) (vs : List Nat) : EM := fun ρ => (im ρ).bind fun ds ρ1 => if freeL ρ1 vs then lcL t c e vs ds [] ρ1 else .fail
section
variable {K : PySem.W.Frag} {adr : Adr} {T : List (Addr × Str)} {io : List Nat} {F G G' F1 : List Addr} {H H1 H2 : Hp} {σ σ1 σ2 : L2.St} {W : WX} {ρ ρ' : Env}
/-- the frame's own places matter where the slots tell something -/
theorem RepS.congr : ∀ {ρ : Env} {σ σ' : L2.St} {F : List Addr}, RepS K adr H ρ σ F → σ'.length = σ.length → (∀ (i : Nat) d, ρ[i]? = some (some d) → σ'[i]? = σ[i]?) → RepS K adr H ρ σ' F
  | [], σ, σ', F, h, hl, _ => by
    obtain ⟨e1, e2⟩ := h
    subst e1
    exact ⟨List.eq_nil_of_length_eq_zero hl, e2⟩
  | none :: ρ, _, σ', F, ⟨s, σt, e, h⟩, hl, hq => by
    subst e
    cases σ' with
    | nil => cases hl
    | cons x σ'' => exact ⟨x, σ'', rfl, h.congr (by simpa using hl) fun i d hi => by simpa using hq (i + 1) d (by simpa using hi)⟩
  | some d :: ρ, _, σ', F, ⟨v, σt, F1, F2, e, r, h, e2⟩, hl, hq => by
    subst e
    cases σ' with
    | nil => cases hl
    | cons x σ'' =>
      have e0 : x = some v := by simpa using hq 0 d rfl
      subst e0
      exact ⟨v, σ'', F1, F2, rfl, r, h.congr (by simpa using hl) fun i d hi => by simpa using hq (i + 1) d (by simpa using hi), e2⟩
theorem wipe_get {i : Nat} : ∀ {vs : List Nat}, i ∉ vs → (wipe σ vs)[i]? = σ[i]?
  | [], _ => rfl
  | v :: vs, h => by
    simp only [List.mem_cons, not_or] at h
    unfold wipe
    rw [List.getElem?_set_ne (Ne.symm h.1)]
    exact wipe_get h.2
theorem wipe_in {i : Nat} : ∀ {vs : List Nat}, i ∈ vs → i < σ.length → (wipe σ vs)[i]? = some none
  | [], h, _ => nomatch h
  | v :: vs, h, hl => by
    unfold wipe
    by_cases e : v = i
    · subst e
      rw [List.getElem?_set_self (by rw [wipe_length]; exact hl)]
    · rw [List.getElem?_set_ne e]
      exact wipe_in ((List.mem_cons.mp h).resolve_left (fun z => e z.symm)) hl
theorem free_not {vs : List Nat} (h : freeL ρ vs = true) {i : Nat} {d : D} (e : ρ[i]? = some (some d)) : i ∉ vs := fun hi => by
  have := List.all_eq_true.mp h i hi
  rw [e] at this
  cases this
theorem killL_length : ∀ {l : List Nat} {ρ : Env}, (killL ρ l).length = ρ.length
  | [], _ => rfl
  | i :: l, ρ => by
    show (killL (ρ.set i none) l).length = _
    rw [killL_length, List.length_set]
theorem killL_get {i : Nat} {d : D} : ∀ {l : List Nat} {ρ : Env}, (killL ρ l)[i]? = some (some d) → ρ[i]? = some (some d) ∧ i ∉ l
  | [], _, h => ⟨h, by simp⟩
  | j :: l, ρ, h => by
    have h' : (killL (ρ.set j none) l)[i]? = some (some d) := h
    obtain ⟨a, b⟩ := killL_get h'
    by_cases e : j = i
    · subst e
      by_cases hl : j < ρ.length
      · rw [List.getElem?_set_self hl] at a; cases a
      · rw [List.getElem?_eq_none (by simpa using hl)] at a; cases a
    · rw [List.getElem?_set_ne e] at a
      exact ⟨a, by simp only [List.mem_cons, not_or]; exact ⟨fun z => e z.symm, b⟩⟩
theorem killL_in {i : Nat} : ∀ {l : List Nat} {ρ : Env}, i ∈ l → i < ρ.length → (killL ρ l)[i]? = some none
  | [], _, h, _ => nomatch h
  | j :: l, ρ, h, hl => by
    show (killL (ρ.set j none) l)[i]? = some none
    by_cases hm : i ∈ l
    · exact killL_in hm (by rw [List.length_set]; exact hl)
    · have e : i = j := (List.mem_cons.mp h).resolve_right hm
      subst e
      have key : ∀ {l : List Nat} {ρ : Env}, i ∉ l → (killL ρ l)[i]? = ρ[i]? := by
        intro l
        induction l with
        | nil => intro ρ _; rfl
        | cons k l ih =>
          intro ρ hn
          simp only [List.mem_cons, not_or] at hn
          show (killL (ρ.set k none) l)[i]? = _
          rw [ih hn.2, List.getElem?_set_ne (Ne.symm hn.1)]
      rw [key hm, List.getElem?_set_self hl]
theorem RepS.to_wipe {vs : List Nat} (S : RepS K adr H ρ σ F) (h : freeL ρ vs = true) : RepS K adr H ρ (wipe σ vs) F := S.congr (wipe_length _ _) fun i d e => wipe_get (free_not h e)
theorem RepS.of_wipe {vs : List Nat} (S : RepS K adr H ρ (wipe σ vs) F) (h : freeL ρ vs = true) : RepS K adr H ρ σ F := S.congr (by rw [wipe_length]) fun i d e => (wipe_get (free_not h e)).symm
theorem free_kill {vs : List Nat} (h : ∀ i ∈ vs, i < ρ.length) : freeL (killL ρ vs) vs = true := List.all_eq_true.mpr fun i hi => by rw [killL_in hi (h i hi)]
theorem free_lt {vs : List Nat} (h : freeL ρ vs = true) : ∀ i ∈ vs, i < ρ.length := fun i hi => by
  have := List.all_eq_true.mp h i hi
  cases e : ρ[i]? with
  | none => rw [e] at this; cases this
  | some x => exact (List.getElem?_eq_some_iff.mp e).1
/-- every slot but vs -/
def others (n : Nat) (vs : List Nat) : List Nat := (List.range n).filter fun i => !vs.contains i
theorem mem_others {n : Nat} {vs : List Nat} {i : Nat} (h : i < n) (hv : i ∉ vs) : i ∈ others n vs := List.mem_filter.mpr ⟨List.mem_range.mpr h, by simpa using hv⟩
theorem wipe_eq {n : Nat} {vs : List Nat} (fx : Fix (others n vs) (wipe σ vs) σ2) (hn : σ.length = n) : wipe σ2 vs = wipe σ vs := by
  have hl : σ2.length = σ.length := fx.len.trans (wipe_length _ _)
  apply List.ext_getElem?
  intro i
  by_cases hi : i < n
  · by_cases hv : i ∈ vs
    · rw [wipe_in hv (by omega), wipe_in hv (by omega)]
    · rw [wipe_get hv, fx.at_ i (mem_others hi hv)]
  · rw [List.getElem?_eq_none (by rw [wipe_length]; omega), List.getElem?_eq_none (by rw [wipe_length]; omega)]

theorem tabs_upd {p : Addr} {o u : HO} (t : Tabs T H) (h : H p = some u) (hu : Ownd u) : Tabs T (upd H p o) := fun q hq => by
  obtain ⟨ps, h1, h2, h3⟩ := t q hq
  refine ⟨ps, by rw [upd_ne (fun z => by rw [z, h] at h1; cases h1; exact hu)]; exact h1, h2, fun pos cv hc => ?_⟩
  obtain ⟨c, e1, e2⟩ := h3 pos cv hc
  refine ⟨c, e1, ?_⟩
  rw [upd_ne (fun z => by
    rw [z, h] at e2
    have e3 := Option.some.inj e2
    unfold LamX.CodeO at e3
    rw [e3] at hu
    exact hu)]
  exact e2
theorem td_lc {n : Nat} {im : IM} {t : TM} {c e : EM} {vs : List Nat} {Q : VK} (hn : ∀ ρ F, RepS K adr H ρ σ F → σ.length = n) (h : tD K adr T W (eLc im t c e vs) σ H Q) :
    tLc (tDI K adr T W im) (gD K adr T (others n vs) t) (tB (tD K adr T W0 c)) (tD K adr T W0 e) vs σ H Q := by
  obtain ⟨ρ, F, S, h⟩ := h
  have hσ := hn ρ F S.rep
  refine ⟨ρ, F, S, ?_⟩
  unfold eLc at h
  cases ei : im ρ with
  | exc x ρ1 => rw [ei] at h; exact h
  | fail => rw [ei] at h; exact h
  | ok ds ρ1 =>
    rw [ei] at h
    intro J H1 F1 G S1 n1 hG st it Dd hD
    have h1 : Hold K adr T W (if freeL ρ1 vs then lcL t c e vs ds [] ρ1 else .fail) (F1 ++ G) H1 σ Q := Hold.weak st h
    by_cases hf : freeL ρ1 vs = true
    · rw [if_pos hf] at h1
      have eD : Ext [] H1 (upd H1 Dd (.lst [])) := Ext.new hD
      have hDn : ∀ b ∈ F1 ++ G, b ≠ Dd := fun b hb z => by
        rcases List.mem_append.mp hb with w | w
        · exact ne_none_of (S1.rep.mem b w) (by rw [z]; exact hD)
        · exact hG b w (by rw [z]; exact hD)
      have nG : (F1 ++ (Dd :: G)).Nodup := by
        have z : (Dd :: (F1 ++ G)).Nodup := List.nodup_cons.mpr ⟨fun hb => hDn Dd hb rfl, n1⟩
        exact perm_nodup (List.perm_middle.symm) z
      -- the invariant
      refine ⟨fun i m H' => m = ds.length - i ∧ i ≤ ds.length ∧ ∃ ρ' F' acc va Fa, Sim K adr T ρ' (wipe σ vs) H' F' ∧ freeL ρ' vs = true ∧ H' Dd = some (.lst va) ∧ RepL K adr H' acc va Fa ∧ (F' ++ ((Dd :: Fa) ++ G)).Nodup ∧ Kp G H1 H' ∧ (∀ b ∈ G, H' b ≠ none) ∧
          Hold K adr T W (lcL t c e vs (ds.drop i) acc ρ') (F' ++ ((Dd :: Fa) ++ G)) H' σ Q, ⟨ds.length, by simp, Nat.zero_le _, ρ1, F1, [], [], [],
          ⟨(S1.rep.ext eD (fun _ _ z => nomatch z)).to_wipe hf, S1.nd, tabs_new S1.tab hD⟩, hf, upd_same, repL_nil, by simpa using nG, Kp.refl.step eD (fun _ _ z => nomatch z), fun b hb z => hG b hb (eD.dom b z), ?_⟩, ?_⟩
      · rw [List.drop_zero]
        refine Hold.weak ⟨eD.mono (fun _ z => nomatch z), fun b hb => ?_, tabs_new S1.tab hD⟩ h1
        rcases List.mem_append.mp hb with z | z
        · exact .inl (List.mem_append_left _ z)
        · rcases List.mem_append.mp z with z | z
          · exact .inr (by rw [List.mem_singleton.mp z]; exact hD)
          · exact .inl (List.mem_append_right _ z)
      rintro i m H' ⟨rfl, hi, ρ', F', acc, va, Fa, S', hf', hDd, ra, n', kp, hG', hh⟩
      by_cases hlt : i < ds.length
      · have ed : ds[i]? = some ds[i] := List.getElem?_eq_getElem hlt
        obtain ⟨go, yld⟩ := ((it H' kp i).1 _ ed)
        have edr : ds.drop i = ds[i] :: ds.drop (i + 1) := List.drop_eq_getElem_cons hlt
        rw [edr] at hh
        unfold lcL at hh
        refine .inr ⟨go, fun H3 => ∃ ρ' F' acc va Fa, Sim K adr T ρ' (wipe σ vs) H3 F' ∧ freeL ρ' vs = true ∧ H3 Dd = some (.lst va) ∧ RepL K adr H3 acc va Fa ∧ (F' ++ ((Dd :: Fa) ++ G)).Nodup ∧ Kp G H1 H3 ∧ (∀ b ∈ G, H3 b ≠ none) ∧
          Hold K adr T W (lcL t c e vs (ds.drop (i + 1)) acc ρ') (F' ++ ((Dd :: Fa) ++ G)) H3 σ Q, fun H3 q => ⟨ds.length - (i + 1), by omega, rfl, hlt, q⟩, fun x H2 y => ?_⟩
        obtain ⟨rx, e2, t2⟩ := yld x H2 y
        have S2 : Sim K adr T ρ' (wipe σ vs) H2 F' := ⟨S'.rep.ext e2 (fun _ _ z => nomatch z), S'.nd, t2 S'.tab⟩
        -- what is held aside
        have asd : ∀ b ∈ (Dd :: Fa) ++ G, H2 b ≠ none := fun b hb z => by
          have z' := e2.dom b z
          rcases List.mem_append.mp hb with w | w
          · rcases List.mem_cons.mp w with w | w
            · rw [w, hDd] at z'; cases z'
            · exact ne_none_of (ra.mem b w) z'
          · exact hG' b w z'
        have hDd2 : H2 Dd = some (.lst va) := e2.own hDd True.intro fun z => nomatch z
        have ra2 : RepL K adr H2 acc va Fa := ra.ext e2 fun _ _ z => nomatch z
        have kp2 : Kp G H1 H2 := kp.step e2 fun _ _ z => nomatch z
        have st2 : Stp T (F' ++ ((Dd :: Fa) ++ G)) H' (F' ++ ((Dd :: Fa) ++ G)) H2 := ⟨e2.mono (fun _ z => nomatch z), fun b hb => .inl hb, S2.tab⟩
        replace hh := Hold.weak st2 hh
        cases et : t ρ' ds[i] with
        | none => simp only [et] at hh; exact hh.elim
        | some ρ3 =>
          simp only [et] at hh
          refine ⟨ρ', F', ds[i], [], S2, rx, by simpa using S'.nd, ρ3, et, fun σ3 H3 F3 S3 st3 fx3 => ?_⟩
          rw [List.append_nil] at st3
          refine ⟨wipe_eq fx3 hσ, ?_⟩
          have hl3 : σ3.length = σ.length := fx3.len.trans (wipe_length _ _)
          -- behind the target's store
          have stT : Stp T (F' ++ ((Dd :: Fa) ++ G)) H2 (F3 ++ ((Dd :: Fa) ++ G)) H3 := ⟨st3.ext.mono fun b hb => List.mem_append_left _ hb, fun b hb => (List.mem_append.mp hb).elim (fun z => (st3.frs b z).imp (List.mem_append_left _) id) fun z => .inl (List.mem_append_right _ z), S3.tab⟩
          have n3 : (F3 ++ ((Dd :: Fa) ++ G)).Nodup := nodup_aside n' S3.nd st3.frs asd
          have ap2 := apart_of n'
          have hDd3 : H3 Dd = some (.lst va) := st3.ext.own hDd2 True.intro (ap2 Dd (by simp))
          have ra3 : RepL K adr H3 acc va Fa := ra2.ext st3.ext fun b hb => ap2 b (List.mem_append_left _ (List.mem_cons_of_mem _ hb))
          have kp3 : Kp G H1 H3 := kp2.step st3.ext fun b hb => ap2 b (List.mem_append_right _ hb)
          have asd3 : ∀ b ∈ (Dd :: Fa) ++ G, H3 b ≠ none := fun b hb z => asd b hb (st3.ext.dom b z)
          replace hh := Hold.weak stT hh
          -- one more turn's end: from any state on
          have close : ∀ {ρ4 : Env} {H4 : Hp} {F4 : List Addr} {acc4 : List D} {va4 : List V} {Fa4 : List Addr}, RepS K adr H4 ρ4 σ3 F4 → Tabs T H4 → H4 Dd = some (.lst va4) → RepL K adr H4 acc4 va4 Fa4 → (F4 ++ ((Dd :: Fa4) ++ G)).Nodup → Kp G H1 H4 → (∀ b ∈ G, H4 b ≠ none) →
              Hold K adr T W (lcL t c e vs (ds.drop (i + 1)) acc4 (killL ρ4 vs)) (F4 ++ ((Dd :: Fa4) ++ G)) H4 σ Q →
              ∃ ρ' F' acc va Fa, Sim K adr T ρ' (wipe σ vs) H4 F' ∧ freeL ρ' vs = true ∧ H4 Dd = some (.lst va) ∧ RepL K adr H4 acc va Fa ∧ (F' ++ ((Dd :: Fa) ++ G)).Nodup ∧ Kp G H1 H4 ∧ (∀ b ∈ G, H4 b ≠ none) ∧
                Hold K adr T W (lcL t c e vs (ds.drop (i + 1)) acc ρ') (F' ++ ((Dd :: Fa) ++ G)) H4 σ Q := fun {ρ4 H4 F4 acc4 va4 Fa4} s4 t4 d4 r4 nn4 k4 g4 h4 => by
            obtain ⟨F5, s5, sub⟩ := s4.killL (l := vs)
            have hlt4 : ∀ i ∈ vs, i < ρ4.length := fun j hj => by
              have := free_lt hf' j hj
              rw [s4.length, hl3]
              rw [S'.rep.length, wipe_length] at this
              exact this
            have fk := free_kill hlt4
            have s6 : RepS K adr H4 (killL ρ4 vs) (wipe σ vs) F5 := by
              have := s5.to_wipe fk
              rw [wipe_eq fx3 hσ] at this
              exact this
            have n5 : (F5 ++ ((Dd :: Fa4) ++ G)).Nodup := nn4.sublist (sub.append (List.Sublist.refl _))
            exact ⟨_, F5, acc4, va4, Fa4, ⟨s6, (List.nodup_append.mp n5).1, t4⟩, fk, d4, r4, n5, k4, g4, Hold.weak (Stp.refl t4 fun b hb => (List.mem_append.mp hb).elim (fun z => List.mem_append_left _ (sub.subset z)) (List.mem_append_right _)) h4⟩
          refine ⟨ρ3, F3, S3, ?_⟩
          cases ec : c ρ3 with
          | fail => simp only [ec] at hh; exact hh.elim
          | exc x ρ4 => simp only [ec] at hh; exact hh.elim
          | ok db ρ4 =>
            cases db with
            | bl bb =>
              intro vb H4 p4
              obtain ⟨F4, Fb, S4, rb, n4, st4⟩ := p4.sim
              obtain ⟨evb, eFb⟩ := rb
              subst eFb
              rw [List.append_nil] at n4 st4
              refine ⟨bb, evb, ?_⟩
              have n4' : (F4 ++ ((Dd :: Fa) ++ G)).Nodup := nodup_aside n3 n4 st4.frs asd3
              have ap3 := apart_of n3
              have hDd4 : H4 Dd = some (.lst va) := st4.ext.own hDd3 True.intro (ap3 Dd (by simp))
              have ra4 : RepL K adr H4 acc va Fa := ra3.ext st4.ext fun b hb => ap3 b (List.mem_append_left _ (List.mem_cons_of_mem _ hb))
              have kp4 : Kp G H1 H4 := kp3.step st4.ext fun b hb => ap3 b (List.mem_append_right _ hb)
              have asd4 : ∀ b ∈ (Dd :: Fa) ++ G, H4 b ≠ none := fun b hb z => asd3 b hb (st4.ext.dom b z)
              have stT4 : Stp T (F3 ++ ((Dd :: Fa) ++ G)) H3 (F4 ++ ((Dd :: Fa) ++ G)) H4 := ⟨st4.ext.mono fun b hb => List.mem_append_left _ hb, fun b hb => (List.mem_append.mp hb).elim (fun z => (st4.frs b z).imp (List.mem_append_left _) id) fun z => .inl (List.mem_append_right _ z), S4.tab⟩
              replace hh := Hold.weak stT4 hh
              cases bb with
              | false =>
                simp only [ec] at hh
                exact iteF (close S4.rep S4.tab hDd4 ra4 n4' kp4 (fun b hb => asd4 b (List.mem_append_right _ hb)) hh)
              | true =>
                simp only [ec] at hh
                refine iteT ⟨ρ4, F4, S4, ?_⟩
                cases ee : e ρ4 with
                | fail => simp only [ee] at hh; exact hh.elim
                | exc x ρ5 => simp only [ee] at hh; exact hh.elim
                | ok dx ρ5 =>
                  simp only [ee] at hh
                  intro vx H5 p5
                  obtain ⟨F5, Fx, S5, r5, n5, st5⟩ := p5.sim
                  by_cases hz : acc.length < sizeLine
                  · rw [if_pos hz] at hh
                    have n5' : ((F5 ++ Fx) ++ ((Dd :: Fa) ++ G)).Nodup := nodup_aside n4' n5 st5.frs asd4
                    have ap4 := apart_of n4'
                    have hDd5 : H5 Dd = some (.lst va) := st5.ext.own hDd4 True.intro (ap4 Dd (by simp))
                    have ra5 : RepL K adr H5 acc va Fa := ra4.ext st5.ext fun b hb => ap4 b (List.mem_append_left _ (List.mem_cons_of_mem _ hb))
                    have kp5 : Kp G H1 H5 := kp4.step st5.ext fun b hb => ap4 b (List.mem_append_right _ hb)
                    have asd5 : ∀ b ∈ (Dd :: Fa) ++ G, H5 b ≠ none := fun b hb z => asd4 b hb (st5.ext.dom b z)
                    refine ⟨va, hDd5, by rw [ra5.length]; exact hz, ?_⟩
                    have eU : Ext [Dd] H5 (upd H5 Dd (.lst (va ++ [vx]))) := Ext.upd hDd5 True.intro (by simp)
                    have ap5 := apart_of n5'
                    have nDd : ∀ b ∈ F5 ++ Fx, b ∉ [Dd] := fun b hb z => by
                      rw [List.mem_singleton.mp z] at hb
                      exact ap5 Dd (by simp) hb
                    have nDa : ∀ b ∈ Fa ++ G, b ∉ [Dd] := fun b hb z => by
                      have := (List.nodup_append.mp n5').2.1
                      rw [List.cons_append] at this
                      rw [List.mem_singleton.mp z] at hb
                      exact (List.nodup_cons.mp this).1 hb
                    have ra6 : RepL K adr (upd H5 Dd (.lst (va ++ [vx]))) (acc ++ [dx]) (va ++ [vx]) (Fa ++ Fx) := by
                      have q1 := ra5.ext eU fun b hb => nDa b (List.mem_append_left _ hb)
                      have q2 := r5.ext eU fun b hb => nDd b (List.mem_append_right _ hb)
                      have q3 := repL_append q1 (repL_cons q2 repL_nil)
                      rw [List.append_nil] at q3
                      exact q3
                    have pm : ((F5 ++ Fx) ++ ((Dd :: Fa) ++ G)).Perm (F5 ++ ((Dd :: (Fa ++ Fx)) ++ G)) := by
                      rw [List.append_assoc]
                      refine List.Perm.append_left F5 ?_
                      have z1 : (Fx ++ ((Dd :: Fa) ++ G)).Perm ((Dd :: Fa) ++ (Fx ++ G)) := by
                        rw [← List.append_assoc, ← List.append_assoc]
                        exact List.Perm.append_right G List.perm_append_comm
                      refine z1.trans ?_
                      rw [← List.append_assoc]
                      exact .refl _
                    refine close (S5.rep.ext eU fun b hb => nDd b (List.mem_append_left _ hb)) (tabs_upd S5.tab hDd5 True.intro) upd_same ra6 (perm_nodup pm n5') (kp5.step eU fun b hb => nDa b (List.mem_append_right _ hb)) (fun b hb z => asd5 b (List.mem_append_right _ hb) (eU.dom b z)) (Hold.weak ?_ hh)
                    refine ⟨(st5.ext.mono fun b hb => List.mem_append_left _ hb).trans eU fun c hc => .inl ?_, fun b hb => ?_, tabs_upd S5.tab hDd5 True.intro⟩
                    · rw [List.mem_singleton.mp hc]; simp
                    · have hb' := pm.mem_iff.mpr hb
                      rcases List.mem_append.mp hb' with z | z
                      · exact (st5.frs b z).imp (List.mem_append_left _) id
                      · exact .inl (List.mem_append_right _ z)
                  · rw [if_neg hz] at hh; exact hh.elim
            | _ => simp only [ec] at hh; exact hh.elim
      · have e0 : i = ds.length := by omega
        refine .inl ⟨(it H' kp i).2 (by omega), ?_⟩
        rw [e0, List.drop_length] at hh
        unfold lcL at hh
        exact hh (.ref Dd) H' ⟨F', Dd :: Fa, S'.rep.of_wipe hf', ⟨Dd, va, Fa, rfl, hDd, ra, rfl⟩, n'.sublist (by
          refine (List.Sublist.refl F').append (List.sublist_append_left _ _)), ⟨Ext.refl _ _, fun b hb => .inl ((List.mem_append.mp hb).elim (fun z => List.mem_append_left _ z) fun z => List.mem_append_right _ (List.mem_append_left _ z)), S'.tab⟩⟩
    · rw [if_neg hf] at h1; exact h1.elim
end
end DL
set_option Elab.async false
set_option linter.all false
set_option maxRecDepth 100000
set_option maxHeartbeats 4000000
namespace DL
open PySem L2
open LamX (Tabs)

section
variable {X : Cx} {adr : Adr} {T : List (Addr × Str)} {io : List Nat} {W : WX} {pos : Pos} {tg elt iter : Expr} {ifs : List Expr} {scope : Scope} {own : List (Str × Nat)} {t : TM} {im : IM} {c e : EM}
theorem PTs.imp {ifs : List Expr} {t t' : TT} (h : PTs X ifs t) (w : ∀ σ H Q, t' σ H Q → t σ H Q) : PTs X ifs t' := ⟨fun pins s σ H Q I q => h.run pins s σ H Q I (w _ _ _ q)⟩
theorem pts_d0 : PTs X [] (tDT X adr T W (eC (.bl true))) := PTs.imp pts_nil fun σ H Q q => by
  obtain ⟨c, e, q⟩ := tD_C q
  cases e; exact q
theorem pts_d1 {a : Expr} (h : PT X a (tDT X adr T W c)) : PTs X [a] (tDT X adr T W c) := pts_one h
theorem pd_lc (n : Nat) (own : List (Str × Nat)) (hn : X.N.length = n) (hc : X.calm = true) (hN : X.N.Nodup) (hi : PI X tg iter (tDI X.K adr T W im)) (ok : BlkOk X.N X.env.scope scope own)
    (hg : ∀ (s : Shared) (H : Hp) (C : Addr) (cl : List (Str × Addr)) (fp : List Addr), PG (X.blk s H scope (compEnvC scope cl C X.env) fp) tg (gD X.K adr T (others n (own.map (·.2))) t))
    (ht : ∀ (s : Shared) (H : Hp) (C : Addr) (cl : List (Str × Addr)) (fp : List Addr), PTs (X.blk s H scope (compEnvC scope cl C X.env) fp) ifs (tB (tD X.K adr T W0 c)))
    (he : ∀ (s : Shared) (H : Hp) (C : Addr) (cl : List (Str × Addr)) (fp : List Addr), PE (X.blk s H scope (compEnvC scope cl C X.env) fp) elt (tD X.K adr T W0 e)) (hs : ∀ x, foldedSetIterable iter X.env x = pure x := by intro _; rfl) :
    PE X (.ListComp elt [⟨tg, iter, ifs, 0⟩] scope pos) (tD X.K adr T W (eLc im t c e (own.map (·.2)))) :=
  ⟨fun pins s σ H Q I q => (pe_lc hc hN hi ok hg ht he hs).run pins s σ H Q I (td_lc (fun _ _ _ => I.len.trans hn) q)⟩
theorem ps_dsetLc (i n : Nat) (own : List (Str × Nat)) {y : Str} {py spos : Pos} (hn : X.N.length = n) (hc : X.calm = true) (hN : X.N.Nodup) (hi : PI X tg iter (tDI X.K adr T W im)) (ok : BlkOk X.N X.env.scope scope own)
    (hg : ∀ (s : Shared) (H : Hp) (C : Addr) (cl : List (Str × Addr)) (fp : List Addr), PG (X.blk s H scope (compEnvC scope cl C X.env) fp) tg (gD X.K adr T (others n (own.map (·.2))) t))
    (ht : ∀ (s : Shared) (H : Hp) (C : Addr) (cl : List (Str × Addr)) (fp : List Addr), PTs (X.blk s H scope (compEnvC scope cl C X.env) fp) ifs (tB (tD X.K adr T W0 c)))
    (he : ∀ (s : Shared) (H : Hp) (C : Addr) (cl : List (Str × Addr)) (fp : List Addr), PE (X.blk s H scope (compEnvC scope cl C X.env) fp) elt (tD X.K adr T W0 e))
    (hio : i ∉ io := by decide) (hy : X.N[i]? = some y := by rfl) (hyl : X.env.scope.names.lookup y = some .local := by rfl)
    (hsw : swapsWith (.ListComp elt [⟨tg, iter, ifs, 0⟩] scope pos) (some (.Name y py)) spos.line X.env = pure true := by exact sw_true rfl rfl rfl (by decide +kernel)) (hs : ∀ x, foldedSetIterable iter X.env x = pure x := by intro _; rfl) :
    PS X (.Assign [.Name y py] (.ListComp elt [⟨tg, iter, ifs, 0⟩] scope pos) spos) (tDS X.K adr T io W (sSet i (eLc im t c e (own.map (·.2))))) := by
  refine ⟨fun pins s σ H D I q => (ps_setLc hc hN hy hyl hsw hi ok hg ht he hs).run pins s σ H D I ?_⟩
  exact td_lc (fun _ _ _ => I.len.trans hn) (ts1 q fun dx ρ1 F Fx x H1 S r n q => by
    obtain ⟨F', a, b, c⟩ := S.rep.store (i := i) r n
    exact q _ _ ⟨F', ⟨a, b, S.tab⟩, Stp.refl S.tab c, Fix.set hio⟩)
end

/-! ### defs -/
/-- what a def makes of its arguments: the value, and what stands at the end in those that it may change -/
inductive FR where
  | ok (d : D) (outs : List D)
  | exc (x : Xc) (outs : List D)
  | fail
section
variable (K : PySem.W.Frag) (adr : Adr) (T : List (Addr × Str)) (H : Hp)
def RepO : List Bool → List D → List V → List Addr → Prop
  | [], outs, vs, F => outs = [] ∧ vs = [] ∧ F = []
  | false :: m, outs, vs, F => ∃ v ws, vs = v :: ws ∧ RepO m outs ws F
  | true :: m, outs, vs, F => ∃ v ws o os F1 F2, vs = v :: ws ∧ outs = o :: os ∧ Rep K adr H o v F1 ∧ RepO m os ws F2 ∧ F = F1 ++ F2
end
section
variable (K : PySem.W.Frag) (adr : Adr) (T : List (Addr × Str))
def spD (m : List Bool) (G : List D → FR) : Sp := fun vs H Q E => ∃ ds F, RepL K adr H ds vs F ∧ F.Nodup ∧ Tabs T H ∧ ds.length = m.length ∧ match G ds with
  | .ok d outs => ∀ v H' Fo Fd, RepO K adr H' m outs vs Fo → Rep K adr H' d v Fd → (Fo ++ Fd).Nodup → Stp T F H (Fo ++ Fd) H' → Q v H'
  | .exc x outs => ∀ cls dx H' Fo, RepO K adr H' m outs vs Fo → RepX K adr H' x cls dx → Fo.Nodup → Stp T F H Fo H' → E cls dx H'
  | .fail => False
end
/-- the changed arguments, at the end -/
def getO : List Bool → Env → Option (List D)
  | [], _ => some []
  | false :: m, _ :: ρ => getO m ρ
  | true :: m, some d :: ρ => (getO m ρ).map (d :: ·)
  | _, _ => none
def ioOf (m : List Bool) : List Nat := (List.range m.length).filter fun i => m[i]? == some true
def start0 (n : Nat) (ds : List D) : Env := ds.map some ++ List.replicate (n - ds.length) none
def runFn (n : Nat) (m : List Bool) (b : SM) (ds : List D) : FR := match b (start0 n ds) with
  | .nx ρ => match getO m ρ with
    | some outs => .ok .non outs
    | none => .fail
  | .rt d ρ => match getO m ρ with
    | some outs => .ok d outs
    | none => .fail
  | .exc x ρ => match getO m ρ with
    | some outs => .exc x outs
    | none => .fail
  | _ => .fail
section
variable {K : PySem.W.Frag} {adr : Adr} {T : List (Addr × Str)} {F G G' F1 : List Addr} {H H1 H2 : Hp} {σ σ1 σ2 : L2.St} {W : WX} {ρ ρ' : Env}
theorem repS_none : ∀ {n : Nat} {σ : L2.St}, σ.length = n → RepS K adr H (List.replicate n none) σ []
  | 0, σ, h => ⟨List.eq_nil_of_length_eq_zero h, rfl⟩
  | n + 1, [], h => by cases h
  | n + 1, s :: σ, h => ⟨s, σ, rfl, repS_none (by simpa using h)⟩
theorem repS_start : ∀ {ds : List D} {vs : List V} {F : List Addr} {n : Nat}, RepL K adr H ds vs F → RepS K adr H (ds.map some ++ List.replicate n none) (vs.map some ++ List.replicate n none) F
  | [], _, _, n, ⟨e1, e2⟩ => by
    rw [e1, e2]
    exact repS_none (by simp)
  | d :: ds, _, _, n, ⟨v, ws, F1, F2, e1, r, h, e2⟩ => by
    rw [e1]
    exact ⟨v, _, F1, F2, rfl, r, repS_start h, e2⟩
theorem repO_get : ∀ {m : List Bool} {ρ : Env} {σ : L2.St} {vs : List V} {F : List Addr} {outs : List D}, RepS K adr H ρ σ F → getO m ρ = some outs → m.length = vs.length → (∀ i : Nat, m[i]? = some true → σ[i]? = (vs[i]?).map some) → ∃ Fo, RepO K adr H m outs vs Fo ∧ Fo.Sublist F
  | [], _, _, vs, F, outs, S, e, hl, _ => by
    unfold getO at e
    cases e
    exact ⟨[], ⟨rfl, List.eq_nil_of_length_eq_zero hl.symm, rfl⟩, List.nil_sublist _⟩
  | false :: m, [], _, _, _, _, _, e, _, _ => by unfold getO at e; cases e
  | true :: m, [], _, _, _, _, _, e, _, _ => by unfold getO at e; cases e
  | true :: m, none :: ρ, _, _, _, _, _, e, _, _ => by unfold getO at e; cases e
  | b :: m, _ :: ρ, _, [], _, _, _, _, hl, _ => by cases hl
  | false :: m, none :: ρ, _, v :: vs, F, outs, ⟨s, σ', e1, h⟩, e, hl, hq => by
    subst e1
    unfold getO at e
    obtain ⟨Fo, a, b⟩ := repO_get h e (by simpa using hl) fun i hi => by simpa using hq (i + 1) (by simpa using hi)
    exact ⟨Fo, ⟨v, vs, rfl, a⟩, b⟩
  | false :: m, some d :: ρ, _, v :: vs, F, outs, ⟨v', σ', F1, F2, e1, r, h, e2⟩, e, hl, hq => by
    subst e1
    unfold getO at e
    obtain ⟨Fo, a, b⟩ := repO_get h e (by simpa using hl) fun i hi => by simpa using hq (i + 1) (by simpa using hi)
    exact ⟨Fo, ⟨v, vs, rfl, a⟩, by rw [e2]; exact b.trans (List.sublist_append_right _ _)⟩
  | true :: m, some d :: ρ, _, v :: vs, F, outs, ⟨v', σ', F1, F2, e1, r, h, e2⟩, e, hl, hq => by
    subst e1
    unfold getO at e
    cases eo : getO m ρ with
    | none => rw [eo] at e; cases e
    | some os =>
      rw [eo] at e
      cases e
      obtain ⟨Fo, a, b⟩ := repO_get h eo (by simpa using hl) fun i hi => by simpa using hq (i + 1) (by simpa using hi)
      have ev : v' = v := by simpa using hq 0 rfl
      subst ev
      exact ⟨F1 ++ Fo, ⟨v', vs, d, os, F1, Fo, rfl, rfl, r, a, rfl⟩, by rw [e2]; exact b.append_left F1⟩
theorem mem_ioOf {m : List Bool} {i : Nat} (h : m[i]? = some true) : i ∈ ioOf m := List.mem_filter.mpr ⟨List.mem_range.mpr (List.getElem?_eq_some_iff.mp h).1, by rw [h]; rfl⟩
theorem start_get {N : List Str} {vs : List V} {i : Nat} (h : i < vs.length) : (L2.start N vs)[i]? = (vs[i]?).map some := by
  unfold L2.start
  rw [List.getElem?_append_left (by simpa using h), List.getElem?_map]
/-- a def's promise from its body -/
theorem fn_d {P : Program} {w : World} {mg : Str → Option Value} {base : Heap} {x qual : Str} {st : Stmt} {f : Addr} {fd : FuncData} {N ps : List Str} {k : Nat} (m : List Bool) (b : SM) (hm : m.length = ps.length) (hF : Fun K x qual st f fd) (S : FnScope N ps (defScope st))
    (hbody : ∀ (cdv : Value) (A : Around) (outer : List PySem.Env) (s : Shared) (H : Hp) (E : XK), Room k (A.deeper (PyProof.Rows.envOfC qual (defScope st) s.heap.objs.size f cdv)) →
      Takes (cxOf (L2.CX P w) P w K mg base N qual (defScope st) f cdv A outer s H E) (fun cls d _ H => E cls d H) →
      PSs (cxOf (L2.CX P w) P w K mg base N qual (defScope st) f cdv A outer s H E) (defBody st) (tDS K adr T (ioOf m) (fun cls d _ H => E cls d H) b)) :
    FnOk P w K mg base (L2.CX P w) (k + 1) f fd ps (spD K adr T m (runFn N.length m b)) := by
  refine hF.okX S (fun vs H Q E h => ?_) fun cdv A outer s H vs Q E hr h => ?_
  · obtain ⟨ds, F, r, _, _, hl, _⟩ := h
    rw [r.length, hl, hm]
  · have tk : Takes (cxOf (L2.CX P w) P w K mg base N qual (defScope st) f cdv A outer s H E) (fun cls d _ H => E cls d H) := takes_of rfl rfl rfl rfl
    refine ⟨_, hbody cdv A outer s H E hr tk, ?_⟩
    obtain ⟨ds, F, r, nd, tb, hl, h⟩ := h
    have hvl : vs.length = ds.length := r.length
    have S0 : RepS K adr H (start0 N.length ds) (L2.start N vs) F := by
      unfold start0 L2.start
      rw [hvl]
      exact repS_start r
    refine ⟨start0 N.length ds, F, ⟨S0, nd, tb⟩, ?_⟩
    have outs : ∀ {ρ' : Env} {σ' : L2.St} {H' : Hp} {F' : List Addr} {os : List D}, RepS K adr H' ρ' σ' F' → Fix (ioOf m) (L2.start N vs) σ' → getO m ρ' = some os → ∃ Fo, RepO K adr H' m os vs Fo ∧ Fo.Sublist F' := fun {ρ' σ' H' F' os} s' fx e =>
      repO_get s' e (by omega) fun i hi => by
        rw [fx.at_ i (mem_ioOf hi), start_get]
        have := (List.getElem?_eq_some_iff.mp hi).1
        omega
    unfold runFn at h
    cases eb : b (start0 N.length ds) with
    | bk ρ' => simp only [eb] at h
    | ct ρ' => simp only [eb] at h
    | fail => simp only [eb] at h
    | nx ρ' =>
      simp only [eb] at h
      intro σ' H' ⟨F', S', st', fx⟩
      cases eo : getO m ρ' with
      | none => simp only [eo] at h
      | some os =>
        simp only [eo] at h
        obtain ⟨Fo, a, sub⟩ := outs S'.rep fx eo
        exact h .non H' Fo [] a ⟨rfl, rfl⟩ (by simpa using S'.nd.sublist sub) (by simpa using st'.sub fun c hc => sub.subset hc)
    | rt d ρ' =>
      simp only [eb] at h
      intro v σ' H' ⟨F', Fd, s', rd, n', st', fx⟩
      cases eo : getO m ρ' with
      | none => simp only [eo] at h
      | some os =>
        simp only [eo] at h
        obtain ⟨Fo, a, sub⟩ := outs s' fx eo
        have sb : (Fo ++ Fd).Sublist (F' ++ Fd) := sub.append (.refl _)
        exact h v H' Fo Fd a rd (n'.sublist sb) (st'.sub fun c hc => sb.subset hc)
    | exc xx ρ' =>
      simp only [eb] at h
      intro cls dx σ' H' ⟨F', S', rx, st', fx⟩
      cases eo : getO m ρ' with
      | none => simp only [eo] at h
      | some os =>
        simp only [eo] at h
        obtain ⟨Fo, a, sub⟩ := outs S'.rep fx eo
        exact h cls dx H' Fo a rx (S'.nd.sublist sub) (st'.sub fun c hc => sub.subset hc)
end

/-! ### calls -/
/-- an argument: a value, or a slot that is lent -/
abbrev AV := Sum D Nat
abbrev CM := Env → Res (List AV)
def cNil : CM := fun ρ => .ok [] ρ
def cVal (f : EM) (g : CM) : CM := fun ρ => (f ρ).bind fun d ρ => (g ρ).bind fun ds ρ => .ok (.inl d :: ds) ρ
def cIo (j : Nat) (g : CM) : CM := fun ρ => match ρ[j]? with
  | some (some _) => (g ρ).bind fun ds ρ => .ok (.inr j :: ds) ρ
  | _ => .fail
/-- the lent slots' things are taken out -/
def takeS : List AV → Env → Option (List D × Env)
  | [], ρ => some ([], ρ)
  | .inl d :: l, ρ => (takeS l ρ).map fun p => (d :: p.1, p.2)
  | .inr j :: l, ρ => match ρ[j]? with
    | some (some d) => (takeS l (ρ.set j none)).map fun p => (d :: p.1, p.2)
    | _ => none
/-- and what stands there afterwards is put back -/
def putS : List Bool → List AV → List D → Env → Option Env
  | [], [], [], ρ => some ρ
  | false :: m, .inl _ :: l, outs, ρ => putS m l outs ρ
  | true :: m, .inl _ :: l, _ :: outs, ρ => putS m l outs ρ
  | true :: m, .inr j :: l, o :: outs, ρ => match ρ[j]? with
    | some none => putS m l outs (ρ.set j (some o))
    | _ => none
  | _, _, _, _ => none
/-- a def called -/
def callR (m : List Bool) (G : List D → FR) (avs : List AV) (ρ : Env) : Res D := if avs.length = m.length then match takeS avs ρ with
  | some (ds, ρ2) => match G ds with
    | .ok d outs => match putS m avs outs ρ2 with
      | some ρ3 => .ok d ρ3
      | none => .fail
    | .exc x outs => match putS m avs outs ρ2 with
      | some ρ3 => .exc x ρ3
      | none => .fail
    | .fail => .fail
  | none => .fail
  else .fail
def eCall (m : List Bool) (G : List D → FR) (cm : CM) : EM := fun ρ => (cm ρ).bind fun avs ρ => callR m G avs ρ
section
variable (K : PySem.W.Frag) (adr : Adr) (T : List (Addr × Str))
def RepAV (H : Hp) (σ : L2.St) : List AV → List V → List Addr → Prop
  | [], vs, F => vs = [] ∧ F = []
  | .inl d :: l, vs, F => ∃ v ws F1 F2, vs = v :: ws ∧ Rep K adr H d v F1 ∧ RepAV H σ l ws F2 ∧ F = F1 ++ F2
  | .inr j :: l, vs, F => ∃ v ws, vs = v :: ws ∧ σ[j]? = some (some v) ∧ RepAV H σ l ws F
def PostC (F : List Addr) (H : Hp) (σ : L2.St) (ρ' : Env) (l : List AV) (vs : List V) (H' : Hp) : Prop :=
  ∃ F' Fd, RepS K adr H' ρ' σ F' ∧ RepAV K adr H' σ l vs Fd ∧ (F' ++ Fd).Nodup ∧ Stp T F H (F' ++ Fd) H'
def HoldC (W : WX) (r : Res (List AV)) (F : List Addr) (H : Hp) (σ : L2.St) (Q : List V → Hp → Prop) : Prop :=
  match r with
  | .ok ds ρ' => ∀ vs H', PostC K adr T F H σ ρ' ds vs H' → Q vs H'
  | .exc x ρ' => ∀ cls dx H', PostX K adr T F H σ ρ' x cls dx H' → W cls dx σ H'
  | .fail => False
def tDC (W : WX) (f : CM) : TA := fun σ H Q => ∃ ρ F, Sim K adr T ρ σ H F ∧ HoldC K adr T W (f ρ) F H σ Q
end
section
variable {K : PySem.W.Frag} {adr : Adr} {T : List (Addr × Str)} {F G G' F1 : List Addr} {H H1 H2 H' : Hp} {σ σ1 σ2 : L2.St} {W : WX} {ρ ρ' : Env}
theorem RepAV.mem : ∀ {l : List AV} {vs : List V} {F : List Addr}, RepAV K adr H σ l vs F → ∀ b ∈ F, ∃ o, H b = some o ∧ Ownd o
  | [], _, _, h, b, hb => by rw [h.2] at hb; cases hb
  | .inl d :: l, _, _, ⟨v, ws, F1, F2, _, r, h, e⟩, b, hb => by
    rw [e] at hb
    exact (List.mem_append.mp hb).elim (r.mem b) (h.mem b)
  | .inr j :: l, _, _, ⟨v, ws, _, _, h⟩, b, hb => h.mem b hb
theorem RepAV.ext {F0 : List Addr} (e : Ext F0 H H') : ∀ {l : List AV} {vs : List V} {F : List Addr}, RepAV K adr H σ l vs F → (∀ b ∈ F, b ∉ F0) → RepAV K adr H' σ l vs F
  | [], _, _, h, _ => h
  | .inl d :: l, _, _, ⟨v, ws, F1, F2, e1, r, h, e2⟩, n => ⟨v, ws, F1, F2, e1, r.ext e fun b hb => n b (by rw [e2]; exact List.mem_append_left _ hb), h.ext e fun b hb => n b (by rw [e2]; exact List.mem_append_right _ hb), e2⟩
  | .inr j :: l, _, _, ⟨v, ws, e1, e2, h⟩, n => ⟨v, ws, e1, e2, h.ext e n⟩
theorem HoldC.weak {r : Res (List AV)} {Q : List V → Hp → Prop} (st : Stp T F H G H1) (h : HoldC K adr T W r F H σ Q) : HoldC K adr T W r G H1 σ Q := by
  cases r with
  | ok d ρ' => exact fun v H' ⟨F', Fd, a, b, c, d⟩ => h v H' ⟨F', Fd, a, b, c, st.trans d fun _ z => z⟩
  | exc x ρ' => exact fun cls dx H' ⟨F', a, b, c, d⟩ => h cls dx H' ⟨F', a, b, c, st.trans d fun _ z => z⟩
  | fail => exact h
theorem tdc_nil {Q : List V → Hp → Prop} (h : tDC K adr T W cNil σ H Q) : tNil σ H Q := by
  obtain ⟨ρ, F, S, h⟩ := h
  exact h [] H ⟨F, [], S.rep, ⟨rfl, rfl⟩, by simpa using S.nd, Stp.refl S.tab (by simp)⟩
theorem tdc_val {f : EM} {g : CM} {Q : List V → Hp → Prop} (h : tDC K adr T W (cVal f g) σ H Q) : tCons (tD K adr T W f) (tDC K adr T W g) σ H Q := by
  obtain ⟨ρ, F, S, h⟩ := h
  refine ⟨ρ, F, S, ?_⟩
  unfold cVal at h
  cases e : f ρ with
  | exc x ρ1 => rw [e] at h; exact h
  | fail => rw [e] at h; exact h
  | ok d ρ1 =>
    rw [e] at h
    intro x H1 p
    obtain ⟨F1, Fx, S1, r, n, st1⟩ := p.sim
    refine ⟨ρ1, F1, S1, ?_⟩
    have hx : ∀ b ∈ Fx, H1 b ≠ none := fun b hb => ne_none_of (r.mem b hb)
    have h1 : HoldC K adr T W ((g ρ1).bind fun ds ρ => .ok (.inl d :: ds) ρ) (F1 ++ Fx) H1 σ Q := HoldC.weak st1 h
    cases e2 : g ρ1 with
    | exc x ρ2 =>
      rw [e2] at h1
      intro cls dx' H2 ⟨F2, a, b, c, st⟩
      have h1' : HoldC K adr T W (.exc x ρ2) (F1 ++ Fx) H1 σ Q := h1
      exact h1' cls dx' H2 ⟨F2, a, b, c, st.mono fun b hb => List.mem_append_left _ hb⟩
    | fail => rw [e2] at h1; exact h1
    | ok ds ρ2 =>
      rw [e2] at h1
      intro ys H2 ⟨F2, Fy, s2, r2, n2, st⟩
      have h1' : HoldC K adr T W (.ok (.inl d :: ds) ρ2) (F1 ++ Fx) H1 σ Q := h1
      have rx : Rep K adr H2 d x Fx := r.ext st.ext (apart_of n)
      have nn : ((F2 ++ Fy) ++ Fx).Nodup := nodup_aside n n2 st.frs hx
      have n3 : (F2 ++ (Fx ++ Fy)).Nodup := by
        rw [List.append_assoc] at nn
        exact perm_nodup (List.perm_append_comm.append_left F2) nn
      refine h1' (x :: ys) H2 ⟨F2, Fx ++ Fy, s2, ⟨x, ys, Fx, Fy, rfl, rx, r2, rfl⟩, n3, st.ext.mono fun b hb => List.mem_append_left _ hb, fun b hb => ?_, st.tab⟩
      rcases List.mem_append.mp hb with z | z
      · exact (st.frs b (List.mem_append_left _ z)).imp (List.mem_append_left _) id
      · rcases List.mem_append.mp z with z | z
        · exact .inl (List.mem_append_right _ z)
        · exact (st.frs b (List.mem_append_right _ z)).imp (List.mem_append_left _) id
theorem takeS_ok : ∀ {l : List AV} {vs : List V} {ρ ρ2 : Env} {ds : List D} {F Fx : List Addr}, RepS K adr H ρ σ F → RepAV K adr H σ l vs Fx → takeS l ρ = some (ds, ρ2) → ∃ F2 Fd, RepS K adr H ρ2 σ F2 ∧ RepL K adr H ds vs Fd ∧ (F ++ Fx).Perm (F2 ++ Fd)
  | [], _, ρ, _, _, F, _, S, ⟨e1, e2⟩, e => by
    cases e
    subst e1; subst e2
    exact ⟨F, [], S, repL_nil, .refl _⟩
  | .inl d :: l, _, ρ, ρ2, _, F, _, S, ⟨v, ws, F1, F2, e1, r, h, e2⟩, e => by
    unfold takeS at e
    cases et : takeS l ρ with
    | none => rw [et] at e; cases e
    | some p =>
      rw [et] at e
      obtain ⟨ds', ρ'⟩ := p
      cases e
      obtain ⟨F3, Fd, a, b, c⟩ := takeS_ok S h et
      refine ⟨F3, F1 ++ Fd, a, by rw [e1]; exact repL_cons r b, ?_⟩
      rw [e2]
      have z : (F ++ (F1 ++ F2)).Perm (F1 ++ (F ++ F2)) := by
        rw [← List.append_assoc, ← List.append_assoc]
        exact List.Perm.append_right F2 List.perm_append_comm
      refine z.trans ((c.append_left F1).trans ?_)
      rw [← List.append_assoc, ← List.append_assoc]
      exact List.Perm.append_right Fd List.perm_append_comm
  | .inr j :: l, _, ρ, ρ2, _, F, Fx, S, ⟨v, ws, e1, e2, h⟩, e => by
    unfold takeS at e
    split at e
    · rename_i d hd
      cases et : takeS l (ρ.set j none) with
      | none => rw [et] at e; cases e
      | some p =>
        rw [et] at e
        obtain ⟨ds', ρ'⟩ := p
        cases e
        obtain ⟨v', Gv, F', hv, r, S', pm⟩ := S.take hd
        rw [e2] at hv; cases hv
        obtain ⟨F3, Fd, a, b, c⟩ := takeS_ok S' h et
        refine ⟨F3, Gv ++ Fd, a, by rw [e1]; exact repL_cons r b, ?_⟩
        have z : (F ++ Fx).Perm (Gv ++ (F' ++ Fx)) := by
          rw [← List.append_assoc]
          exact List.Perm.append_right Fx (pm.trans List.perm_append_comm)
        refine z.trans ((c.append_left Gv).trans ?_)
        rw [← List.append_assoc, ← List.append_assoc]
        exact List.Perm.append_right Fd List.perm_append_comm
    · cases e
theorem putS_ok {Ha : Hp} : ∀ {m : List Bool} {l : List AV} {vs : List V} {ρ ρ3 : Env} {os : List D} {F Fo Fx : List Addr}, RepS K adr H ρ σ F → RepAV K adr Ha σ l vs Fx → RepO K adr H m os vs Fo → putS m l os ρ = some ρ3 → ∃ F3 Fp, RepS K adr H ρ3 σ F3 ∧ F3.Perm (F ++ Fp) ∧ Fp.Sublist Fo
  | [], [], _, ρ, _, [], F, Fo, _, S, _, ho, e => by
    cases e
    exact ⟨F, [], S, by simp, List.nil_sublist _⟩
  | [], _ :: _, _, _, _, _, _, _, _, _, _, _, e => by simp [putS] at e
  | [], [], _, _, _, _ :: _, _, _, _, _, _, _, e => by simp [putS] at e
  | false :: m, [], _, _, _, _, _, _, _, _, _, _, e => by simp [putS] at e
  | true :: m, [], _, _, _, _, _, _, _, _, _, _, e => by simp [putS] at e
  | false :: m, .inr j :: l, _, _, _, _, _, _, _, _, _, _, e => by simp [putS] at e
  | true :: m, .inl _ :: l, _, _, _, [], _, _, _, _, _, _, e => by simp [putS] at e
  | true :: m, .inr _ :: l, _, _, _, [], _, _, _, _, _, _, e => by simp [putS] at e
  | false :: m, .inl d :: l, _, ρ, ρ3, os, F, Fo, _, S, ⟨v, ws, F1, F2, e1, r, h, e2⟩, ho, e => by
    obtain ⟨v', ws', e3, ho⟩ := ho
    rw [e1] at e3
    cases e3
    exact putS_ok S h ho (by simpa [putS] using e)
  | true :: m, .inl d :: l, _, ρ, ρ3, o :: os, F, Fo, _, S, ⟨v, ws, F1, F2, e1, r, h, e2⟩, ho, e => by
    obtain ⟨v', ws', o', os', G1, G2, e3, e4, ro, ho, e5⟩ := ho
    rw [e1] at e3
    cases e3
    cases e4
    obtain ⟨F3, Fp, a, b, c⟩ := putS_ok S h ho (by simpa [putS] using e)
    exact ⟨F3, Fp, a, b, by rw [e5]; exact c.trans (List.sublist_append_right _ _)⟩
  | true :: m, .inr j :: l, _, ρ, ρ3, o :: os, F, Fo, Fx, S, ⟨v, ws, e1, e2, h⟩, ho, e => by
    obtain ⟨v', ws', o', os', F1, F2, e3, e4, r, ho, e5⟩ := ho
    rw [e1] at e3
    cases e3
    cases e4
    unfold putS at e
    split at e
    · rename_i hj
      obtain ⟨F4, S4, p4⟩ := S.refill hj e2 r
      obtain ⟨F3, Fp, a, b, c⟩ := putS_ok S4 h ho e
      refine ⟨F3, F1 ++ Fp, a, b.trans ?_, by rw [e5]; exact c.append_left F1⟩
      rw [← List.append_assoc]
      exact p4.append_right Fp
    · cases e
/-- the call itself: the promise sp of a def, and back -/
theorem tcall {m : List Bool} {G : List D → FR} {cm : CM} {Q : VK} (h : tD K adr T W (eCall m G cm) σ H Q) : tDC K adr T W cm σ H fun vs H1 => spD K adr T m G vs H1 Q (WE W σ) := by
  obtain ⟨ρ, F, S, h⟩ := h
  refine ⟨ρ, F, S, ?_⟩
  unfold eCall at h
  cases e : cm ρ with
  | exc x ρ1 => rw [e] at h; exact h
  | fail => rw [e] at h; exact h
  | ok avs ρ1 =>
    rw [e] at h
    intro vs H1 ⟨F1, Fx, s1, r1, n1, st1⟩
    have h1 : Hold K adr T W (callR m G avs ρ1) (F1 ++ Fx) H1 σ Q := Hold.weak st1 h
    unfold callR at h1
    by_cases em : avs.length = m.length
    · rw [if_pos em] at h1
      cases et : takeS avs ρ1 with
      | none => simp only [et] at h1; exact h1.elim
      | some p =>
        obtain ⟨ds, ρ2⟩ := p
        simp only [et] at h1
        obtain ⟨F2, Fd, s2, rd, pm⟩ := takeS_ok s1 r1 et
        have n2 : (F2 ++ Fd).Nodup := perm_nodup pm n1
        have hl : ds.length = m.length := by
          have a : ∀ {l : List AV} {vs : List V} {F : List Addr}, RepAV K adr H1 σ l vs F → vs.length = l.length := by
            intro l
            induction l with
            | nil => intro vs F h; rw [h.1]; rfl
            | cons a l ih =>
              intro vs F h
              cases a with
              | inl d => obtain ⟨v, ws, F1, F2, e1, _, h, _⟩ := h; rw [e1, List.length_cons, List.length_cons, ih h]
              | inr j => obtain ⟨v, ws, e1, _, h⟩ := h; rw [e1, List.length_cons, List.length_cons, ih h]
          rw [← em, ← a r1, rd.length]
        refine ⟨ds, Fd, rd, (List.nodup_append.mp n2).2.1, st1.tab, hl, ?_⟩
        -- behind the call
        have back : ∀ {outs : List D} {ρ3 : Env} {H3 : Hp} {Fo Fv : List Addr}, RepO K adr H3 m outs vs Fo → putS m avs outs ρ2 = some ρ3 → (Fo ++ Fv).Nodup → Stp T Fd H1 (Fo ++ Fv) H3 → ∃ F3, RepS K adr H3 ρ3 σ F3 ∧ (F3 ++ Fv).Nodup ∧ Stp T (F1 ++ Fx) H1 (F3 ++ Fv) H3 := fun {outs ρ3 H3 Fo Fv} ro ep nn st => by
          have n2' : (Fd ++ F2).Nodup := perm_nodup List.perm_append_comm n2
          have s3 : RepS K adr H3 ρ2 σ F2 := s2.ext st.ext (apart_of n2')
          obtain ⟨F3, Fp, s4, p4, sb⟩ := putS_ok s3 r1 ro ep
          have n3' : ((Fo ++ Fv) ++ F2).Nodup := nodup_aside n2' nn st.frs fun b hb => ne_none_of (s2.mem b hb)
          have sb2 : ((Fp ++ Fv) ++ F2).Sublist ((Fo ++ Fv) ++ F2) := (sb.append (.refl _)).append (.refl _)
          have n3 := n3'.sublist sb2
          have pm2 : ((Fp ++ Fv) ++ F2).Perm (F3 ++ Fv) := by
            have z : ((Fp ++ Fv) ++ F2).Perm ((F2 ++ Fp) ++ Fv) := by
              refine List.perm_append_comm.trans ?_
              rw [← List.append_assoc]
            exact z.trans (p4.symm.append_right Fv)
          refine ⟨F3, s4, perm_nodup pm2 n3, st.ext.mono fun b hb => pm.mem_iff.mpr (List.mem_append_right _ hb), fun b hb => ?_, st.tab⟩
          rcases List.mem_append.mp (sb2.subset (pm2.mem_iff.mpr hb)) with z | z
          · exact (st.frs b z).imp (fun y => pm.mem_iff.mpr (List.mem_append_right _ y)) id
          · exact .inl (pm.mem_iff.mpr (List.mem_append_left _ z))
        cases eg : G ds with
        | fail => simp only [eg] at h1; exact h1.elim
        | ok d outs =>
          simp only [eg] at h1
          intro v H3 Fo Fv ro rv nn st
          cases ep : putS m avs outs ρ2 with
          | none => simp only [ep] at h1; exact h1.elim
          | some ρ3 =>
            simp only [ep] at h1
            obtain ⟨F3, a, b, c⟩ := back ro ep nn st
            exact h1 v H3 ⟨F3, Fv, a, rv, b, c⟩
        | exc x outs =>
          simp only [eg] at h1
          intro cls dx H3 Fo ro rx nn st
          cases ep : putS m avs outs ρ2 with
          | none => simp only [ep] at h1; exact h1.elim
          | some ρ3 =>
            simp only [ep] at h1
            obtain ⟨F3, a, b, c⟩ := back (Fv := []) ro ep (by simpa using nn) (by simpa using st)
            rw [List.append_nil] at b c
            exact h1 cls dx H3 ⟨F3, a, rx, b, c⟩
    · rw [if_neg em] at h1; exact h1.elim
end
section
variable {X : Cx} {adr : Adr} {T : List (Addr × Str)} {W : WX} {pos : Pos} {e : Expr} {es : List Expr} {f : EM} {cm : CM}
theorem pa_c0 : PA X [] (tDC X.K adr T W cNil) := PA.imp pa_nil fun _ _ _ q => tdc_nil q
theorem pa_c (he : PE X e (tD X.K adr T W f)) (hr : PA X es (tDC X.K adr T W cm)) (hs : starEach (e :: es) X.env = (false, eval e X.env) :: starEach es X.env := by rfl) : PA X (e :: es) (tDC X.K adr T W (cVal f cm)) := PA.imp (pa_cons he hr hs) fun _ _ _ q => tdc_val q
/-- a name whose thing is lent -/
theorem pa_io (j : Nat) {x : Str} {p : Pos} (hr : PA X es (tDC X.K adr T W cm)) (hN : X.N[j]? = some x := by rfl) (hv : Vis X.env.scope x := by first | exact Or.inl rfl | exact Or.inr (Or.inl rfl) | exact Or.inr (Or.inr rfl)) (hd : (x == ("__debug__" : Str)) = false := by decide)
    (hcd : (x == ("__classdict__" : Str)) = false := by decide) (hs : starEach (.Name x p :: es) X.env = (false, eval (.Name x p) X.env) :: starEach es X.env := by rfl) : PA X (.Name x p :: es) (tDC X.K adr T W (cIo j cm)) := by
  refine ⟨fun pos pins s σ H Q I q => (pa_cons (pe_var hN hv hd hcd) hr hs).run pos pins s σ H Q I ?_⟩
  obtain ⟨ρ, F, S, q⟩ := q
  unfold cIo at q
  split at q
  · rename_i d hd'
    obtain ⟨v, Gv, hv', _, _⟩ := S.rep.get hd'
    refine ⟨v, hv', ρ, F, S, ?_⟩
    cases e : cm ρ with
    | ok ds ρ1 =>
      rw [e] at q
      exact fun vs H1 ⟨F1, Fx, a, b, c, d⟩ => q (v :: vs) H1 ⟨F1, Fx, a, ⟨v, vs, rfl, hv', b⟩, c, d⟩
    | exc x ρ1 => rw [e] at q; exact q
    | fail => rw [e] at q; exact q
  · exact q.elim
end
end DL
set_option Elab.async false
set_option linter.all false
set_option maxRecDepth 100000
set_option maxHeartbeats 4000000
namespace DL
open PySem L2
open LamX (Tabs)

/-! ### a def of the text that is called by its name -/
structure KFn (P : Program) (w : World) (K : PySem.W.Frag) (mg : Str → Option Value) (base : Heap) (adr : Adr) (T : List (Addr × Str)) (k : Nat) (x : Str) (m : List Bool) (G : List D → FR) : Prop where
  ex : ∃ (f : Addr) (fd : FuncData) (ps : List Str), FnOk P w K mg base (L2.CX P w) k f fd ps (spD K adr T m G) ∧ mg x = some (.ref f) ∧ PySem.W.keepIn K (.ref f) = true ∧ Binds K fd ps []
section
variable {X : Cx} {adr : Adr} {T : List (Addr × Str)} {W : WX} {pos : Pos} {e : Expr} {es : List Expr} {f : EM} {cm : CM} {m : List Bool} {G : List D → FR}
theorem pd_call {k j : Nat} {x : Str} {p : Pos} (c : KFn X.prog X.w X.K X.mg X.base adr T k x m G) (hr : Room j X.A) (hk : k ≤ j) (tk : Takes X W) (ha : PA X (e :: es) (tDC X.K adr T W cm)) (hg : Gl X x := by rfl) (hdb : (x == ("__debug__" : Str)) = false := by decide)
    (he : starEach (e :: es) X.env = (false, eval e X.env) :: starEach es X.env := by rfl) (hpl : (backTo pos (starEach es X.env)).any (·.1) = false := by rfl) : PE X (.Call (.Name x p) (e :: es) [] pos) (tD X.K adr T W (eCall m G cm)) := by
  obtain ⟨f, fd, ps, F, hm, kp, hb⟩ := c.ex
  exact PE.imp (pe_callS F (hr.mono hk) hg hm kp hb (fun σ => passAt tk σ) ha hdb he hpl) fun _ _ _ q => tcall q
end

/-! ### methods -/
structure KMt (P : Program) (w : World) (K : PySem.W.Frag) (mg : Str → Option Value) (base : Heap) (adr : Adr) (T : List (Addr × Str)) (k : Nat) (n : Nat) (x : Str) (m : List Bool) (G : List D → FR) : Prop where
  cls : Cls K (adr n)
  ex : ∃ (f : Addr) (fd : FuncData) (ps : List Str), FnOk P w K mg base (L2.CX P w) k f fd ps (spD K adr T m G) ∧ Meth K (adr n) x f ∧ Binds K fd ps [] ∧ (fk n).contains x = false
def tMethS (C : Addr) (m : Str) (sp : Sp) (E : L2.St → XK) (ta : TE) (t : TA) : TE := fun σ H Q => ta σ H fun x H1 => ∃ a dx fs, x = .ref a ∧ H1 a = some (.ins C dx fs) ∧ fs.lookup m = none ∧ t σ H1 fun vs H2 => sp (x :: vs) H2 Q (E σ)
section
variable {X : Cx} {CX : CXT} {k : Nat} {f C : Addr} {fd : FuncData} {ps : List Str} {sp : Sp} {E : L2.St → XK} {x m : Str} {p pos apos : Pos} {e o : Expr} {es : List Expr} {ta : TE} {t : TA}
theorem pe_methS {pl : Sem Bool} (he : PE X o ta) (c : Cls X.K C) (hm : Meth X.K C m f) (F : FnOk X.prog X.w X.K X.mg X.base CX k f fd ps sp) (hr : Room k X.A) (hb : Binds X.K fd ps []) (hx : ∀ σ, PassesAt CX X σ (E σ)) (ha : PA X (e :: es) t)
    (hst : starEach (e :: es) X.env = (false, eval e X.env) :: starEach es X.env := by rfl) (hpl : (backTo pos (starEach es X.env)).any (·.1) = false := by rfl)
    (ht : eval (.Call (.Attribute o m apos) (e :: es) [] pos) X.env = (do
      let ov ← eval o X.env
      standAt apos.atName
      let (f, first) ← holding [ov] (getMethod ov m pl)
      callWith pos f first (backTo pos (starEach (e :: es) X.env)) (backToKw pos (keywordEach [] X.env))) := by rfl) :
    PE X (.Call (.Attribute o m apos) (e :: es) [] pos) (tMethS C m sp E ta t) := by
  refine ⟨fun pins s σ H Q I h => ?_⟩
  refine PySem.W.methodCall_KW (pl := pl) (thn (he.run pins s σ H _ I h) fun u s1 ⟨x, H1, I1, rx, a, dx, fs, ex, ea, l, q⟩ => ?_) ht
  subst ex
  obtain rfl : u = Value.ref a := rx
  refine getmeth_ok I1 ea c hm l ?_
  refine PySem.W.callWith_K (first := [.ref a]) (h₀ := X.base) I.ok.mod.kin hm.kp (thn (ha.run pos pins s1 σ H1 _ I1 q) fun us s2 ⟨vs, H2, I2, r, q2⟩ => ⟨I2.kIn, ?_⟩) hst hpl
  exact run_fnS (us := .ref a :: us) (vs := .ref a :: vs) F hr hb (hx σ) I2 (.cons rfl r) q2
theorem pe_methS0 {pl : Sem Bool} (he : PE X o ta) (c : Cls X.K C) (hm : Meth X.K C m f) (F : FnOk X.prog X.w X.K X.mg X.base CX k f fd ps sp) (hr : Room k X.A) (hb : Binds X.K fd ps []) (hx : ∀ σ, PassesAt CX X σ (E σ))
    (ht : eval (.Call (.Attribute o m apos) [] [] pos) X.env = (do
      let ov ← eval o X.env
      standAt apos.atName
      let (f, first) ← holding [ov] (getMethod ov m pl)
      callWith pos f first (backTo pos (starEach [] X.env)) (backToKw pos (keywordEach [] X.env))) := by rfl) :
    PE X (.Call (.Attribute o m apos) [] [] pos) (tMethS C m sp E ta tNil) := by
  refine ⟨fun pins s σ H Q I h => ?_⟩
  refine PySem.W.methodCall_KW (pl := pl) (thn (he.run pins s σ H _ I h) fun u s1 ⟨x, H1, I1, rx, a, dx, fs, ex, ea, l, q⟩ => ?_) ht
  subst ex
  obtain rfl : u = Value.ref a := rx
  refine getmeth_ok I1 ea c hm l ?_
  exact PySem.W.callWith_K0 (first := [.ref a]) I1.kIn hm.kp (run_fnS (us := [.ref a]) (vs := [.ref a]) F hr hb (hx σ) I1 (.cons rfl .nil) q)
end
/-- the thing is an instance of the class n that has no field of that name -/
def isIns (n : Nat) : D → Bool
  | .ins n' _ => n' == n
  | _ => false
/-- o.m(..), o a name that holds the instance -/
def eMethV (j n : Nat) (m : List Bool) (G : List D → FR) (cm : CM) : EM := fun ρ => match ρ[j]? with
  | some (some d) => if isIns n d then eCall m G (cIo j cm) ρ else .fail
  | _ => .fail
/-- .. o an expression that makes it -/
def eMethE (f : EM) (n : Nat) (m : List Bool) (G : List D → FR) (cm : CM) : EM := eCall m G (cVal (fun ρ => (f ρ).bind fun d ρ => if isIns n d then .ok d ρ else .fail) cm)
section
variable {K : PySem.W.Frag} {adr : Adr} {T : List (Addr × Str)} {F G' F1 : List Addr} {H H1 H2 H' : Hp} {σ σ1 σ2 : L2.St} {W : WX} {ρ ρ' : Env}
theorem lookup_zip_none {α : Type} : ∀ {ks : List Str} {vs : List α} {x : Str}, ks.contains x = false → (ks.zip vs).lookup x = none
  | [], _, _, _ => rfl
  | k :: ks, [], _, _ => rfl
  | k :: ks, v :: vs, x, h => by
    have h' : (x == k || ks.contains x) = false := by
      have := h
      rw [List.contains_cons] at this
      exact this
    rw [Bool.or_eq_false_iff] at h'
    rw [List.zip_cons_cons, List.lookup_cons, h'.1]
    exact lookup_zip_none h'.2
theorem isIns_rep {n : Nat} {x : Str} {d : D} {v : V} {F : List Addr} (hx : (fk n).contains x = false) (h : isIns n d = true) (r : Rep K adr H d v F) : ∃ a dx fs, v = .ref a ∧ H a = some (.ins (adr n) dx fs) ∧ fs.lookup x = none := by
  cases d with
  | ins n' ds =>
    have h' : (n' == n) = true := h
    rw [beq_iff_eq] at h'
    obtain ⟨a, dx, vs, G, e1, ho, _, _, _⟩ := r
    rw [h'] at ho
    exact ⟨a, dx, _, e1, ho, lookup_zip_none hx⟩
  | _ => cases h
theorem tdc_io {j : Nat} {g : CM} {Q : List V → Hp → Prop} (h : tDC K adr T W (cIo j g) σ H Q) : ∃ v, σ[j]? = some (some v) ∧ tDC K adr T W g σ H fun vs H1 => Q (v :: vs) H1 := by
  obtain ⟨ρ, F, S, q⟩ := h
  unfold cIo at q
  split at q
  · rename_i d hd'
    obtain ⟨v, Gv, hv', _, _⟩ := S.rep.get hd'
    refine ⟨v, hv', ρ, F, S, ?_⟩
    cases e : g ρ with
    | ok ds ρ1 =>
      rw [e] at q
      exact fun vs H1 ⟨F1, Fx, a, b, c, d⟩ => q (v :: vs) H1 ⟨F1, Fx, a, ⟨v, vs, rfl, hv', b⟩, c, d⟩
    | exc x ρ1 => rw [e] at q; exact q
    | fail => rw [e] at q; exact q
  · exact q.elim
end
section
variable {X : Cx} {adr : Adr} {T : List (Addr × Str)} {W : WX} {pos apos : Pos} {e o : Expr} {es : List Expr} {f : EM} {cm : CM} {m : List Bool} {G : List D → FR}
theorem tmethV {j n : Nat} {x : Str} {σ : L2.St} {H : Hp} {Q : VK} (hx : (fk n).contains x = false) (q : tD X.K adr T W (eMethV j n m G cm) σ H Q) : tMethS (adr n) x (spD X.K adr T m G) (WE W) (tVar j) (tDC X.K adr T W cm) σ H Q := by
  obtain ⟨ρ, F, S, q⟩ := q
  unfold eMethV at q
  split at q
  · rename_i d hd
    by_cases hi : isIns n d = true
    · rw [if_pos hi] at q
      obtain ⟨v, Gv, hv, r, _⟩ := S.rep.get hd
      obtain ⟨a, dx, fs, ev, ho, hl⟩ := isIns_rep hx hi r
      obtain ⟨v', hv', z⟩ := tdc_io (tcall (W := W) ⟨ρ, F, S, q⟩)
      rw [hv] at hv'; cases hv'
      exact ⟨v, hv, a, dx, fs, ev, ho, hl, z⟩
    · rw [if_neg hi] at q; exact q.elim
  · exact q.elim
theorem pd_methV {k i n : Nat} {x y : Str} {p : Pos} (j : Nat) (c : KMt X.prog X.w X.K X.mg X.base adr T k n x m G) (hr : Room i X.A) (hk : k ≤ i) (tk : Takes X W) (ha : PA X (e :: es) (tDC X.K adr T W cm)) {pl : Sem Bool}
    (hN : X.N[j]? = some y := by rfl) (hv : Vis X.env.scope y := by first | exact Or.inl rfl | exact Or.inr (Or.inl rfl) | exact Or.inr (Or.inr rfl)) (hd : (y == ("__debug__" : Str)) = false := by decide) (hcd : (y == ("__classdict__" : Str)) = false := by decide)
    (hst : starEach (e :: es) X.env = (false, eval e X.env) :: starEach es X.env := by rfl) (hpl : (backTo pos (starEach es X.env)).any (·.1) = false := by rfl)
    (ht : eval (.Call (.Attribute (.Name y p) x apos) (e :: es) [] pos) X.env = (do
      let ov ← eval (.Name y p) X.env
      standAt apos.atName
      let (f, first) ← holding [ov] (getMethod ov x pl)
      callWith pos f first (backTo pos (starEach (e :: es) X.env)) (backToKw pos (keywordEach [] X.env))) := by rfl) : PE X (.Call (.Attribute (.Name y p) x apos) (e :: es) [] pos) (tD X.K adr T W (eMethV j n m G cm)) := by
  obtain ⟨f, fd, ps, F, hm, hb, hx⟩ := c.ex
  exact PE.imp (pe_methS (pe_var hN hv hd hcd) c.cls hm F (hr.mono hk) hb (fun σ => passAt tk σ) ha hst hpl ht) fun _ _ _ q => tmethV hx q
theorem pd_methV0 {k i n : Nat} {x y : Str} {p : Pos} (j : Nat) (c : KMt X.prog X.w X.K X.mg X.base adr T k n x m G) (hr : Room i X.A) (hk : k ≤ i) (tk : Takes X W) {pl : Sem Bool}
    (hN : X.N[j]? = some y := by rfl) (hv : Vis X.env.scope y := by first | exact Or.inl rfl | exact Or.inr (Or.inl rfl) | exact Or.inr (Or.inr rfl)) (hd : (y == ("__debug__" : Str)) = false := by decide) (hcd : (y == ("__classdict__" : Str)) = false := by decide)
    (ht : eval (.Call (.Attribute (.Name y p) x apos) [] [] pos) X.env = (do
      let ov ← eval (.Name y p) X.env
      standAt apos.atName
      let (f, first) ← holding [ov] (getMethod ov x pl)
      callWith pos f first (backTo pos (starEach [] X.env)) (backToKw pos (keywordEach [] X.env))) := by rfl) : PE X (.Call (.Attribute (.Name y p) x apos) [] [] pos) (tD X.K adr T W (eMethV j n m G cNil)) := by
  obtain ⟨f, fd, ps, F, hm, hb, hx⟩ := c.ex
  refine PE.imp (pe_methS0 (pe_var hN hv hd hcd) c.cls hm F (hr.mono hk) hb (fun σ => passAt tk σ) ht) fun σ H Q q => ?_
  obtain ⟨v, h1, a, dx, fs, h2, h3, h4, h5⟩ := tmethV hx q
  exact ⟨v, h1, a, dx, fs, h2, h3, h4, tdc_nil h5⟩
theorem tmethE {n : Nat} {x : Str} {σ : L2.St} {H : Hp} {Q : VK} (hx : (fk n).contains x = false) (q : tD X.K adr T W (eMethE f n m G cm) σ H Q) : tMethS (adr n) x (spD X.K adr T m G) (WE W) (tD X.K adr T W f) (tDC X.K adr T W cm) σ H Q := by
  obtain ⟨ρ, F, S, z⟩ := tdc_val (tcall q)
  refine ⟨ρ, F, S, ?_⟩
  cases e : f ρ with
  | exc x ρ1 => simp only [e, Res.bind] at z; exact z
  | fail => simp only [e, Res.bind] at z; exact z
  | ok d ρ1 =>
    simp only [e, Res.bind] at z
    by_cases hi : isIns n d = true
    · rw [if_pos hi] at z
      intro v H1 p
      have w := z v H1 p
      obtain ⟨F1, Fd, S1, r, _, _⟩ := p.sim
      obtain ⟨a, dx, fs, ev, ho, hl⟩ := isIns_rep hx hi r
      exact ⟨a, dx, fs, ev, ho, hl, w⟩
    · rw [if_neg hi] at z; exact z.elim
theorem pd_methE {k i n : Nat} {x : Str} (c : KMt X.prog X.w X.K X.mg X.base adr T k n x m G) (hr : Room i X.A) (hk : k ≤ i) (tk : Takes X W) (ho : PE X o (tD X.K adr T W f)) (ha : PA X (e :: es) (tDC X.K adr T W cm)) {pl : Sem Bool}
    (hst : starEach (e :: es) X.env = (false, eval e X.env) :: starEach es X.env := by rfl) (hpl : (backTo pos (starEach es X.env)).any (·.1) = false := by rfl)
    (ht : eval (.Call (.Attribute o x apos) (e :: es) [] pos) X.env = (do
      let ov ← eval o X.env
      standAt apos.atName
      let (f, first) ← holding [ov] (getMethod ov x pl)
      callWith pos f first (backTo pos (starEach (e :: es) X.env)) (backToKw pos (keywordEach [] X.env))) := by rfl) : PE X (.Call (.Attribute o x apos) (e :: es) [] pos) (tD X.K adr T W (eMethE f n m G cm)) := by
  obtain ⟨f, fd, ps, F, hm, hb, hx⟩ := c.ex
  exact PE.imp (pe_methS ho c.cls hm F (hr.mono hk) hb (fun σ => passAt tk σ) ha hst hpl ht) fun _ _ _ q => tmethE hx q
theorem pd_methE0 {k i n : Nat} {x : Str} (c : KMt X.prog X.w X.K X.mg X.base adr T k n x m G) (hr : Room i X.A) (hk : k ≤ i) (tk : Takes X W) (ho : PE X o (tD X.K adr T W f)) {pl : Sem Bool}
    (ht : eval (.Call (.Attribute o x apos) [] [] pos) X.env = (do
      let ov ← eval o X.env
      standAt apos.atName
      let (f, first) ← holding [ov] (getMethod ov x pl)
      callWith pos f first (backTo pos (starEach [] X.env)) (backToKw pos (keywordEach [] X.env))) := by rfl) : PE X (.Call (.Attribute o x apos) [] [] pos) (tD X.K adr T W (eMethE f n m G cNil)) := by
  obtain ⟨f, fd, ps, F, hm, hb, hx⟩ := c.ex
  refine PE.imp (pe_methS0 ho c.cls hm F (hr.mono hk) hb (fun σ => passAt tk σ) ht) fun σ H Q q => ?_
  obtain ⟨ρ, F, S, z⟩ := tmethE hx q
  refine ⟨ρ, F, S, ?_⟩
  revert z
  unfold Hold
  split
  · exact fun z v H1 p => by
      obtain ⟨a, dx, fs, h2, h3, h4, h5⟩ := z v H1 p
      exact ⟨a, dx, fs, h2, h3, h4, tdc_nil h5⟩
  · exact fun z => z
  · exact fun z => z
end

/-! ### an instance made -/
structure KMk (P : Program) (w : World) (K : PySem.W.Frag) (mg : Str → Option Value) (base : Heap) (adr : Adr) (T : List (Addr × Str)) (k : Nat) (n : Nat) (x : Str) (m : List Bool) (G : List D → FR) : Prop where
  ex : ∃ (f : Addr) (fd : FuncData) (ps : List Str), FnOk P w K mg base (L2.CX P w) k f fd ps (spD K adr T (true :: m) G) ∧ Mk K (adr n) f ∧ Binds K fd ps [] ∧ mg x = some (.ref (adr n))
def tMakeS (C : Addr) (sp : Sp) (E : L2.St → XK) (t : TA) : TE := fun σ H Q => t σ H fun vs H1 => ∀ x dx, H1 x = none → H1 dx = none → dx ≠ x →
  sp (.ref x :: vs) (upd (upd H1 dx (.own x)) x (.ins C dx [])) (fun v H2 => v = .non ∧ Q (.ref x) H2) (E σ)
theorem run_makeS {X : Cx} {CX : CXT} {k : Nat} {f C : Addr} {fd : FuncData} {ps : List Str} {sp : Sp} {E : XK} {pins : List (Addr × Obj)} {σ : L2.St} {H : Hp} {s : Shared} {Q : VK} {us : List Value} {vs : List V} (M : Mk X.K C f) (F : FnOk X.prog X.w X.K X.mg X.base CX k f fd ps sp) (hr : Room (k + 1) X.A) (hb : Binds X.K fd ps [])
    (hx : PassesAt CX X σ E) (I : Inv X pins σ H s) (r : Vals vs us)
    (h : ∀ x dx, H x = none → H dx = none → dx ≠ x → sp (.ref x :: vs) (upd (upd H dx (.own x)) x (.ins C dx [])) (fun v H2 => v = .non ∧ Q (.ref x) H2) E) :
    wpAny (model X.prog X.w) X.A (call (.ref C) us) (EP X pins σ Q) X.xe s := by
  have hq := h (s.heap.objs.size + 1) s.heap.objs.size (I.hok.fresh (Nat.le_succ _)) (I.hok.fresh (Nat.le_refl _)) (Nat.ne_of_lt (Nat.lt_succ_self _))
  have I2 := Inv.made (C := C) I
  have r2 : Vals (V.ref (s.heap.objs.size + 1) :: vs) (Value.ref (s.heap.objs.size + 1) :: us) := .cons rfl r
  have hl : (Value.ref (s.heap.objs.size + 1) :: us).length = ps.length := by
    have e := r2.length
    rw [F.len _ _ _ _ hq] at e
    exact e.symm
  have hb' := hb _ (Value.ref (s.heap.objs.size + 1) :: us) I2.kIn (by rw [List.append_nil]; exact hl)
  rw [List.append_nil] at hb'
  refine wpAny_call (make_map (f := f) I.kIn M.makes M.init (beq_iff_eq.mp M.fn) (codeAny_mono (F.run _ X.stack _ _ ⟨Value.ref (s.heap.objs.size + 1) :: us, []⟩ (Value.ref (s.heap.objs.size + 1) :: us) _ _ E (hr.make C us [])
    (I2.env0.make C us []) hb' r2 hq) fun r s' hq' => ?_))
  cases r with
  | error e => exact hx pins _ _ e s' I2 hq'
  | ok fl =>
    cases fl with
    | ret u =>
      obtain ⟨v, H', I3, rv, ev, q3⟩ := I2.after hq'
      subst ev
      exact ⟨rv, ⟨V.ref (s.heap.objs.size + 1), H', I3, rfl, q3⟩⟩
    | next => exact False.elim hq'
    | brk => exact False.elim hq'
    | cont => exact False.elim hq'
theorem pe_makeS {X : Cx} {CX : CXT} {k : Nat} {f C : Addr} {fd : FuncData} {ps : List Str} {sp : Sp} {E : L2.St → XK} {x : Str} {p pos : Pos} {e : Expr} {es : List Expr} {t : TA} (M : Mk X.K C f) (F : FnOk X.prog X.w X.K X.mg X.base CX k f fd ps sp) (hr : Room (k + 1) X.A) (hg : Gl X x) (hm : X.mg x = some (.ref C)) (hb : Binds X.K fd ps []) (hx : ∀ σ, PassesAt CX X σ (E σ))
    (ha : PA X (e :: es) t) (hdb : (x == ("__debug__" : Str)) = false := by decide) (he : starEach (e :: es) X.env = (false, eval e X.env) :: starEach es X.env := by rfl) (hpl : (backTo pos (starEach es X.env)).any (·.1) = false := by rfl) :
    PE X (.Call (.Name x p) (e :: es) [] pos) (tMakeS C sp E t) := by
  refine ⟨fun pins s σ H Q I h => ?_⟩
  refine wpAny_Call_Name_kw (ld_glob I hg hm ?_ hdb)
  refine PySem.W.callWith_K (h₀ := X.base) I.ok.mod.kin M.kp (thn (ha.run pos pins s σ H _ I h) fun us s1 ⟨vs, H1, I1, r, q⟩ => ⟨I1.kIn, ?_⟩) he hpl
  exact run_makeS M F hr hb (hx σ) I1 r q
/-- C(..): __init__ makes of the new instance what is told -/
def makeR (n : Nat) (m : List Bool) (G : List D → FR) (avs : List AV) (ρ : Env) : Res D := if avs.length = m.length then match takeS avs ρ with
  | some (ds, ρ2) => match G (.ins n [] :: ds) with
    | .ok .non (o :: outs) => match putS m avs outs ρ2 with
      | some ρ3 => .ok o ρ3
      | none => .fail
    | .exc x (_ :: outs) => match putS m avs outs ρ2 with
      | some ρ3 => .exc x ρ3
      | none => .fail
    | _ => .fail
  | none => .fail
  else .fail
def eMake (n : Nat) (m : List Bool) (G : List D → FR) (cm : CM) : EM := fun ρ => (cm ρ).bind fun avs ρ => makeR n m G avs ρ
section
variable {K : PySem.W.Frag} {adr : Adr} {T : List (Addr × Str)} {F G' F1 : List Addr} {H H1 H2 H' : Hp} {σ σ1 σ2 : L2.St} {W : WX} {ρ ρ' : Env}
theorem repAV_len : ∀ {l : List AV} {vs : List V} {F : List Addr}, RepAV K adr H1 σ l vs F → vs.length = l.length
  | [], _, _, h => by rw [h.1]; rfl
  | .inl d :: l, _, _, ⟨v, ws, F1, F2, e1, _, h, _⟩ => by rw [e1, List.length_cons, List.length_cons, repAV_len h]
  | .inr j :: l, _, _, ⟨v, ws, e1, _, h⟩ => by rw [e1, List.length_cons, List.length_cons, repAV_len h]
theorem tmake {n : Nat} {m : List Bool} {G : List D → FR} {cm : CM} {Q : VK} (h : tD K adr T W (eMake n m G cm) σ H Q) : tMakeS (adr n) (spD K adr T (true :: m) G) (WE W) (tDC K adr T W cm) σ H Q := by
  obtain ⟨ρ, F, S, h⟩ := h
  refine ⟨ρ, F, S, ?_⟩
  unfold eMake at h
  cases e : cm ρ with
  | exc x ρ1 => rw [e] at h; exact h
  | fail => rw [e] at h; exact h
  | ok avs ρ1 =>
    rw [e] at h
    intro vs H1 ⟨F1, Fx, s1, r1, n1, st1⟩ x dx hx hdx hne
    have h1 : Hold K adr T W (makeR n m G avs ρ1) (F1 ++ Fx) H1 σ Q := Hold.weak st1 h
    unfold makeR at h1
    by_cases em : avs.length = m.length
    · rw [if_pos em] at h1
      cases et : takeS avs ρ1 with
      | none => simp only [et] at h1; exact h1.elim
      | some p =>
        obtain ⟨ds, ρ2⟩ := p
        simp only [et] at h1
        obtain ⟨F2, Fd, s2, rd, pm⟩ := takeS_ok s1 r1 et
        have n2 : (F2 ++ Fd).Nodup := perm_nodup pm n1
        have hx2 : (upd H1 dx (.own x)) x = none := by rw [upd_ne (Ne.symm hne)]; exact hx
        have eN : Ext [] H1 (upd (upd H1 dx (.own x)) x (.ins (adr n) dx [])) := (Ext.new hdx).trans (Ext.new (F := []) hx2) fun _ z => nomatch z
        have tN : Tabs T (upd (upd H1 dx (.own x)) x (.ins (adr n) dx [])) := tabs_new (tabs_new st1.tab hdx) hx2
        have rd' : RepL K adr (upd (upd H1 dx (.own x)) x (.ins (adr n) dx [])) ds vs Fd := rd.ext eN fun _ _ z => nomatch z
        have s2' : RepS K adr (upd (upd H1 dx (.own x)) x (.ins (adr n) dx [])) ρ2 σ F2 := s2.ext eN fun _ _ z => nomatch z
        have hxF : ∀ b ∈ F2 ++ Fd, b ≠ x := fun b hb z => by
          rw [z] at hb
          rcases List.mem_append.mp hb with w | w
          · exact ne_none_of (s2.mem x w) hx
          · exact ne_none_of (rd.mem x w) hx
        refine ⟨.ins n [] :: ds, x :: Fd, ⟨.ref x, vs, [x], Fd, rfl, ⟨x, dx, [], [], rfl, by rw [List.zip_nil_right]; exact upd_same, Nat.zero_le _, repL_nil, rfl⟩, rd', rfl⟩, List.nodup_cons.mpr ⟨fun hb => hxF x (List.mem_append_right _ hb) rfl, (List.nodup_append.mp n2).2.1⟩, tN, by rw [List.length_cons, List.length_cons, ← em, ← repAV_len r1, rd.length], ?_⟩
        have n2x : ((x :: Fd) ++ F2).Nodup := by
          rw [List.cons_append]
          exact List.nodup_cons.mpr ⟨fun hb => hxF x (List.mem_append.mpr (List.mem_append.mp hb).symm) rfl, perm_nodup List.perm_append_comm n2⟩
        -- behind the call
        have back : ∀ {outs : List D} {ρ3 : Env} {H3 : Hp} {Fo Fv : List Addr}, RepO K adr H3 m outs vs Fo → putS m avs outs ρ2 = some ρ3 → (Fo ++ Fv).Nodup → Stp T (x :: Fd) (upd (upd H1 dx (.own x)) x (.ins (adr n) dx [])) (Fo ++ Fv) H3 → ∃ F3, RepS K adr H3 ρ3 σ F3 ∧ (F3 ++ Fv).Nodup ∧ Stp T (F1 ++ Fx) H1 (F3 ++ Fv) H3 := fun {outs ρ3 H3 Fo Fv} ro ep nn st => by
          have s3 : RepS K adr H3 ρ2 σ F2 := s2'.ext st.ext (apart_of n2x)
          obtain ⟨F3, Fp, s4, p4, sb⟩ := putS_ok s3 r1 ro ep
          have n3' : ((Fo ++ Fv) ++ F2).Nodup := nodup_aside n2x nn st.frs fun b hb => ne_none_of (s2'.mem b hb)
          have sb2 : ((Fp ++ Fv) ++ F2).Sublist ((Fo ++ Fv) ++ F2) := (sb.append (.refl _)).append (.refl _)
          have n3 := n3'.sublist sb2
          have pm2 : ((Fp ++ Fv) ++ F2).Perm (F3 ++ Fv) := by
            have z : ((Fp ++ Fv) ++ F2).Perm ((F2 ++ Fp) ++ Fv) := by
              refine List.perm_append_comm.trans ?_
              rw [← List.append_assoc]
            exact z.trans (p4.symm.append_right Fv)
          have stAll : Stp T (F1 ++ Fx) H1 (x :: Fd) (upd (upd H1 dx (.own x)) x (.ins (adr n) dx [])) := ⟨eN.mono fun _ z => (nomatch z), fun b hb => (List.mem_cons.mp hb).elim (fun z => .inr (by rw [z]; exact hx)) fun z => .inl (pm.mem_iff.mpr (List.mem_append_right _ z)), tN⟩
          have st2 := stAll.trans st fun _ z => z
          refine ⟨F3, s4, perm_nodup pm2 n3, st2.ext, fun b hb => ?_, st.tab⟩
          rcases List.mem_append.mp (sb2.subset (pm2.mem_iff.mpr hb)) with z | z
          · exact st2.frs b z
          · exact .inl (pm.mem_iff.mpr (List.mem_append_left _ z))
        cases eg : G (.ins n [] :: ds) with
        | fail => simp only [eg] at h1; exact h1.elim
        | ok d outs =>
          simp only [eg] at h1
          intro v H3 Fo Fv ro rv nn st
          cases d with
          | non =>
            cases outs with
            | nil => exact h1.elim
            | cons o outs =>
              obtain ⟨ev, eF⟩ := rv
              subst eF
              rw [List.append_nil] at nn st
              simp only at h1
              obtain ⟨v', ws', o', os', G1, G2, e3, e4, ro1, ro, e5⟩ := ro
              cases e3
              cases e4
              subst e5
              cases ep : putS m avs outs ρ2 with
              | none => simp only [ep] at h1; exact h1.elim
              | some ρ3 =>
                simp only [ep] at h1
                obtain ⟨F3, a, b, c⟩ := back (Fv := G1) ro ep (perm_nodup List.perm_append_comm nn) (st.sub fun c hc => List.mem_append.mpr (List.mem_append.mp hc).symm)
                exact ⟨ev, h1 (.ref x) H3 ⟨F3, G1, a, ro1, b, c⟩⟩
          | _ => exact h1.elim
        | exc xx outs =>
          simp only [eg] at h1
          intro cls dx' H3 Fo ro rx nn st
          cases outs with
          | nil => exact h1.elim
          | cons o outs =>
            simp only at h1
            obtain ⟨v', ws', o', os', G1, G2, e3, e4, ro1, ro, e5⟩ := ro
            cases e3
            cases e4
            subst e5
            cases ep : putS m avs outs ρ2 with
            | none => simp only [ep] at h1; exact h1.elim
            | some ρ3 =>
              simp only [ep] at h1
              obtain ⟨F3, a, b, c⟩ := back (Fv := []) ro ep (by simpa using (List.nodup_append.mp nn).2.1) (by simpa using st.sub fun c hc => List.mem_append_right _ hc)
              rw [List.append_nil] at b c
              exact h1 cls dx' H3 ⟨F3, a, rx, b, c⟩
    · rw [if_neg em] at h1; exact h1.elim
end
theorem pd_make {X : Cx} {adr : Adr} {T : List (Addr × Str)} {W : WX} {pos p : Pos} {e : Expr} {es : List Expr} {cm : CM} {m : List Bool} {G : List D → FR} {k i n : Nat} {x : Str} (c : KMk X.prog X.w X.K X.mg X.base adr T k n x m G) (hr : Room i X.A) (hk : k + 1 ≤ i) (tk : Takes X W) (ha : PA X (e :: es) (tDC X.K adr T W cm))
    (hg : Gl X x := by rfl) (hdb : (x == ("__debug__" : Str)) = false := by decide) (he : starEach (e :: es) X.env = (false, eval e X.env) :: starEach es X.env := by rfl) (hpl : (backTo pos (starEach es X.env)).any (·.1) = false := by rfl) : PE X (.Call (.Name x p) (e :: es) [] pos) (tD X.K adr T W (eMake n m G cm)) := by
  obtain ⟨f, fd, ps, F, M, hb, hm⟩ := c.ex
  exact PE.imp (pe_makeS M F (hr.mono hk) hg hm hb (fun σ => passAt tk σ) ha hdb he hpl) fun _ _ _ q => tmake q
end DL
set_option Elab.async false
set_option linter.all false
set_option maxRecDepth 100000
set_option maxHeartbeats 4000000
namespace DL
open PySem L2
open LamX (Tabs)

/-! ### fields -/
theorem lookup_zip {α : Type} : ∀ {ks : List Str} {vs : List α} {i : Nat} {f : Str} {v : α}, ks.Nodup → ks[i]? = some f → vs[i]? = some v → (ks.zip vs).lookup f = some v
  | [], _, _, _, _, _, h, _ => by simp at h
  | _ :: _, [], _, _, _, _, _, h => by simp at h
  | k :: ks, w :: vs, 0, f, v, nd, h1, h2 => by
    simp at h1 h2
    subst h1; subst h2
    simp [List.lookup]
  | k :: ks, w :: vs, i + 1, f, v, nd, h1, h2 => by
    have hk : f ∈ ks := List.mem_of_getElem? (by simpa using h1)
    have hne : ¬ f = k := fun e => (List.nodup_cons.mp nd).1 (by rw [← e]; exact hk)
    have hb : (f == k) = false := by simpa using hne
    rw [List.zip_cons_cons, List.lookup_cons, hb]
    exact lookup_zip (List.nodup_cons.mp nd).2 (by simpa using h1) (by simpa using h2)
theorem putF_set : ∀ {ks : List Str} {vs : List V} {i : Nat} {f : Str} {v : V}, ks.Nodup → ks[i]? = some f → i < vs.length → putF f v (ks.zip vs) = ks.zip (vs.set i v)
  | [], _, _, _, _, _, h, _ => by simp at h
  | _ :: _, [], _, _, _, _, _, h => by simp at h
  | k :: ks, w :: vs, 0, f, v, nd, h1, h2 => by
    simp at h1
    subst h1
    simp [putF]
  | k :: ks, w :: vs, i + 1, f, v, nd, h1, h2 => by
    have hk : f ∈ ks := List.mem_of_getElem? (by simpa using h1)
    have hne : ¬ k = f := fun e => (List.nodup_cons.mp nd).1 (by rw [e]; exact hk)
    rw [List.zip_cons_cons, List.set_cons_succ, List.zip_cons_cons]
    unfold putF
    rw [if_neg hne, putF_set (List.nodup_cons.mp nd).2 (by simpa using h1) (by simpa using h2)]
theorem putF_app : ∀ {ks : List Str} {vs : List V} {f : Str} {v : V}, ks.Nodup → ks[vs.length]? = some f → putF f v (ks.zip vs) = ks.zip (vs ++ [v])
  | [], vs, _, _, _, h => by simp at h
  | k :: ks, [], f, v, nd, h1 => by
    simp at h1
    subst h1
    simp [putF]
  | k :: ks, w :: vs, f, v, nd, h1 => by
    have h1' : ks[vs.length]? = some f := by simpa using h1
    have hk : f ∈ ks := List.mem_of_getElem? h1'
    have hne : ¬ k = f := fun e => (List.nodup_cons.mp nd).1 (by rw [e]; exact hk)
    rw [List.zip_cons_cons, List.cons_append, List.zip_cons_cons]
    unfold putF
    rw [if_neg hne, putF_app (List.nodup_cons.mp nd).2 h1']
def eFld (j n i : Nat) : EM := fun ρ => match ρ[j]? with
  | some (some (.ins n' ds)) => if n' == n then match ds[i]? with
    | some d => if dup d then .ok d ρ else .fail
    | none => .fail
    else .fail
  | _ => .fail
/-- the fields with one stored -/
def putI (ds : List D) (i : Nat) (d : D) : Option (List D) := if i < ds.length then some (ds.set i d) else if i = ds.length then some (ds ++ [d]) else none
def sFld (j n i : Nat) (f : EM) : SM := s1 f fun d ρ => match ρ[j]? with
  | some (some (.ins n' ds)) => if n' == n then match putI ds i d with
    | some ds' => .nx (ρ.set j (some (.ins n ds')))
    | none => .fail
    else .fail
  | _ => .fail
section
variable {K : PySem.W.Frag} {adr : Adr} {T : List (Addr × Str)} {F G G' F1 : List Addr} {H H1 H2 H' : Hp} {σ σ1 σ2 : L2.St} {W : WX} {ρ ρ' : Env} {io : List Nat}
/-- a list's items, one of them another -/
theorem repL_set : ∀ {ds : List D} {vs : List V} {F : List Addr} {i : Nat} {d : D} {v : V} {G : List Addr}, RepL K adr H ds vs F → i < ds.length → Rep K adr H d v G → ∃ F', RepL K adr H (ds.set i d) (vs.set i v) F' ∧ ∃ F0, F'.Perm (F0 ++ G) ∧ F0.Sublist F
  | [], _, _, _, _, _, _, _, h, _ => by simp at h
  | x :: ds, _, _, 0, d, v, G, ⟨w, ws, F1, F2, e1, r1, r2, e2⟩, _, r => by
    rw [e1]
    exact ⟨G ++ F2, ⟨v, ws, G, F2, rfl, r, r2, rfl⟩, F2, List.perm_append_comm, by rw [e2]; exact List.sublist_append_right _ _⟩
  | x :: ds, _, _, i + 1, d, v, G, ⟨w, ws, F1, F2, e1, r1, r2, e2⟩, h, r => by
    obtain ⟨F', a, F0, p, s⟩ := repL_set (i := i) r2 (by simpa using h) r
    rw [e1]
    exact ⟨F1 ++ F', ⟨w, _, F1, F', rfl, r1, a, rfl⟩, F1 ++ F0, by rw [List.append_assoc]; exact p.append_left F1, by rw [e2]; exact s.append_left F1⟩
theorem tds_fld {j n i : Nat} {x : Str} {f : EM} {D : Ends} (hj : (fk n)[i]? = some x) (nd : (fk n).Nodup) (c : Cls K (adr n)) (na : NoAttr K (adr n) x) (h : tDS K adr T io W (sFld j n i f) D σ H) : L2.sFld K (tVar j) (tD K adr T W f) x D σ H := by
  have hlen : (fk n).length < 1000 := by
    unfold fk
    split <;> simp
  refine ts1 h fun dy ρ1 F Fy y H1 S r nn q => ?_
  split at q
  · rename_i n' ds hd
    by_cases en : (n' == n) = true
    · rw [if_pos en] at q
      have en' : n' = n := by simpa using en
      subst en'
      cases ep : putI ds i dy with
      | none => simp only [ep] at q; exact q.elim
      | some ds' =>
        simp only [ep] at q
        obtain ⟨v, Gv, F', hv, rv, S', pm⟩ := S.rep.take hd
        obtain ⟨a, dx, vs, G0, ev, ho, hl, rl, eG⟩ := rv
        subst ev
        refine ⟨.ref a, hv, a, adr n', dx, _, rfl, ho, c, na, ?_, ?_⟩
        · rw [List.length_zip]; omega
        -- the new fields
        have hlv := rl.length
        have nn1 : ((F' ++ (a :: G0)) ++ Fy).Nodup := by
          rw [← eG]
          exact perm_nodup (pm.append_right Fy) nn
        have mem_a : a ∈ F := pm.mem_iff.mpr (by rw [eG]; simp)
        have eU : ∀ o, Ext [a] H1 (upd H1 a o) := fun o => Ext.upd ho True.intro (by simp)
        have na' : ∀ b ∈ F' ++ (G0 ++ Fy), b ∉ [a] := fun b hb z => by
          rw [List.mem_singleton.mp z] at hb
          have n3 : ((a :: G0) ++ (F' ++ Fy)).Nodup := perm_nodup (by
            rw [← List.append_assoc]
            exact List.Perm.append_right Fy List.perm_append_comm) nn1
          rw [List.cons_append] at n3
          refine (List.nodup_cons.mp n3).1 ?_
          rcases List.mem_append.mp hb with w | w
          · exact List.mem_append_right _ (List.mem_append_left _ w)
          · rcases List.mem_append.mp w with w | w
            · exact List.mem_append_left _ w
            · exact List.mem_append_right _ (List.mem_append_right _ w)
        -- what the new fields are
        obtain ⟨vs', G1, e1, rl', hl', F0, p1, sb⟩ : ∃ vs' G1, putF x y ((fk n').zip vs) = (fk n').zip vs' ∧ RepL K adr H1 ds' vs' G1 ∧ ds'.length ≤ (fk n').length ∧ ∃ F0, G1.Perm (F0 ++ Fy) ∧ F0.Sublist G0 := by
          have hi : i < (fk n').length := (List.getElem?_eq_some_iff.mp hj).1
          unfold putI at ep
          by_cases h1 : i < ds.length
          · rw [if_pos h1] at ep; cases ep
            obtain ⟨G1, a1, F0, b1, c1⟩ := repL_set rl h1 r
            exact ⟨_, G1, putF_set nd hj (by omega), a1, by rw [List.length_set]; exact hl, F0, b1, c1⟩
          · rw [if_neg h1] at ep
            by_cases h2 : i = ds.length
            · rw [if_pos h2] at ep; cases ep
              refine ⟨vs ++ [y], G0 ++ (Fy ++ []), putF_app nd (by rw [hlv, ← h2]; exact hj), repL_append rl (repL_cons r repL_nil), by rw [List.length_append]; simp; omega, G0, by simp, .refl _⟩
            · rw [if_neg h2] at ep; cases ep
        rw [e1]
        have rl2 : RepL K adr (upd H1 a (.ins (adr n') dx ((fk n').zip vs'))) ds' vs' G1 := rl'.ext (eU _) fun b hb => by
          refine na' b (List.mem_append_right _ ?_)
          rcases List.mem_append.mp (p1.mem_iff.mp hb) with w | w
          · exact List.mem_append_left _ (sb.subset w)
          · exact List.mem_append_right _ w
        have S2 : RepS K adr (upd H1 a (.ins (adr n') dx ((fk n').zip vs'))) (ρ1.set j none) σ F' := S'.ext (eU _) fun b hb => na' b (List.mem_append_left _ hb)
        have hjl : j < ρ1.length := (List.getElem?_eq_some_iff.mp hd).1
        obtain ⟨F2, s3, p3⟩ := S2.refill (d := .ins n' ds') (G := a :: G1) (by rw [List.getElem?_set_self hjl]) hv ⟨a, dx, vs', G1, rfl, upd_same, hl', rl2, rfl⟩
        rw [List.set_set] at s3
        have p4 : (F' ++ (a :: G1)).Perm ((F' ++ (a :: F0)) ++ Fy) := by
          rw [List.append_assoc]
          exact (List.Perm.cons a p1).append_left F'
        have n4 : ((F' ++ (a :: F0)) ++ Fy).Nodup := nn1.sublist (((List.Sublist.refl F').append (sb.cons_cons a)).append (.refl _))
        have n5 : F2.Nodup := perm_nodup (p3.trans p4).symm n4
        refine q σ _ ⟨F2, ⟨s3, n5, tabs_upd S.tab ho True.intro⟩, ⟨(eU _).mono fun b hb => by rw [List.mem_singleton.mp hb]; exact List.mem_append_left _ mem_a, fun b hb => .inl ?_, tabs_upd S.tab ho True.intro⟩, Fix.refl _ _⟩
        have := (p3.trans p4).mem_iff.mp hb
        rcases List.mem_append.mp this with w | w
        · refine List.mem_append_left _ (pm.mem_iff.mpr ?_)
          rw [eG]
          rcases List.mem_append.mp w with w | w
          · exact List.mem_append_left _ w
          · exact List.mem_append_right _ ((List.mem_cons.mp w).elim (fun z => by rw [z]; exact List.mem_cons_self) fun z => List.mem_cons_of_mem _ (sb.subset z))
        · exact List.mem_append_right _ w
    · rw [if_neg en] at q; exact q.elim
  · exact q.elim
end
section
variable {X : Cx} {adr : Adr} {T : List (Addr × Str)} {io : List Nat} {W : WX} {pos apos : Pos} {e o : Expr} {es : List Expr} {f : EM}
theorem pd_fld {x y : Str} {p : Pos} (j n i : Nat) (c : Cls X.K (adr n)) (na : NoAttr X.K (adr n) x) (hj : (fk n)[i]? = some x := by rfl) (nd : (fk n).Nodup := by decide +kernel)
    (hN : X.N[j]? = some y := by rfl) (hv : Vis X.env.scope y := by first | exact Or.inl rfl | exact Or.inr (Or.inl rfl) | exact Or.inr (Or.inr rfl)) (hd : (y == ("__debug__" : Str)) = false := by decide) (hcd : (y == ("__classdict__" : Str)) = false := by decide)
    (hb : attributeBase (.Name y p) x X.env (eval (.Name y p) X.env) = eval (.Name y p) X.env := by rfl) : PE X (.Attribute (.Name y p) x pos) (tD X.K adr T W (eFld j n i)) :=
  PE.imp (pe_fld (pe_var hN hv hd hcd) hb) fun σ H Q ⟨ρ, F, S, q⟩ => by
    unfold eFld at q
    split at q
    · rename_i n' ds hd
      by_cases en : (n' == n) = true
      · rw [if_pos en] at q
        have en' : n' = n := by simpa using en
        subst en'
        cases ei : ds[i]? with
        | none => simp only [ei] at q; exact q.elim
        | some d =>
          simp only [ei] at q
          by_cases hdup : dup d = true
          · rw [if_pos hdup] at q
            obtain ⟨v, Gv, hv', r, _⟩ := S.rep.get hd
            obtain ⟨a, dx, vs, G0, ev, ho, hl, rl, eG⟩ := r
            obtain ⟨w, Gw, hw, rw', _⟩ := rl.get ei
            exact ⟨v, hv', a, adr n', dx, _, w, ev, ho, c, na, lookup_zip nd hj hw, hold_read q S (fun _ z => z) w H [] (rw'.dup hdup) List.nodup_nil (Ext.refl _ _) (fun _ z => nomatch z) S.tab⟩
          · rw [if_neg hdup] at q; exact q.elim
      · rw [if_neg en] at q; exact q.elim
    · exact q.elim
theorem ps_dfld {x y : Str} {p p' : Pos} (j n i : Nat) (c : Cls X.K (adr n)) (na : NoAttr X.K (adr n) x) (he : PE X e (tD X.K adr T W f)) (hj : (fk n)[i]? = some x := by rfl) (nd : (fk n).Nodup := by decide +kernel)
    (hN : X.N[j]? = some y := by rfl) (hv : Vis X.env.scope y := by first | exact Or.inl rfl | exact Or.inr (Or.inl rfl) | exact Or.inr (Or.inr rfl)) (hd : (y == ("__debug__" : Str)) = false := by decide) (hcd : (y == ("__classdict__" : Str)) = false := by decide)
    (hs : swapsWith e (some (.Attribute (.Name y p) x p')) pos.line X.env = pure false := by rfl) : PS X (.Assign [.Attribute (.Name y p) x p'] e pos) (tDS X.K adr T io W (sFld j n i f)) :=
  PS.imp (ps_fld (pe_var hN hv hd hcd) he hs) fun _ _ _ q => tds_fld hj nd c na q
end

/-! ### a thing that will not be changed any more -/
mutual
def freeze : D → D
  | .tup ds => .tup (freezeL ds)
  | .lst ds => .fls (freezeL ds)
  | .fls ds => .fls (freezeL ds)
  | d => d
def freezeL : List D → List D
  | [] => []
  | d :: ds => freeze d :: freezeL ds
end
mutual
def frzOk : D → Bool
  | .tup ds => frzOkL ds
  | .lst ds => frzOkL ds
  | .fls ds => frzOkL ds
  | .dk _ _ => false
  | .dt _ _ => false
  | .ins _ _ => false
  | _ => true
def frzOkL : List D → Bool
  | [] => true
  | d :: ds => frzOk d && frzOkL ds
end
section
variable {X : Cx} {adr : Adr} {T : List (Addr × Str)} {pins : List (Addr × Obj)} {σ : L2.St} {s : Shared}
mutual
theorem frz_ok : ∀ (d : D) (v : V) (F : List Addr) (H : Hp), frzOk d = true → Inv X pins σ H s → Rep X.K adr H d v F → F.Nodup → ∃ H', Inv X pins σ H' s ∧ Rep X.K adr H' (freeze d) v [] ∧ Ext F H H' ∧ (Tabs T H → Tabs T H')
  | .non, v, F, H, _, I, r, _ => ⟨H, I, ⟨r.1, rfl⟩, Ext.refl _ _, fun t => t⟩
  | .bl _, v, F, H, _, I, r, _ => ⟨H, I, ⟨r.1, rfl⟩, Ext.refl _ _, fun t => t⟩
  | .int _, v, F, H, _, I, r, _ => ⟨H, I, ⟨r.1, rfl⟩, Ext.refl _ _, fun t => t⟩
  | .str _, v, F, H, _, I, r, _ => ⟨H, I, ⟨r.1, rfl⟩, Ext.refl _ _, fun t => t⟩
  | .ty _, v, F, H, _, I, r, _ => ⟨H, I, ⟨r.1, rfl⟩, Ext.refl _ _, fun t => t⟩
  | .ref _, v, F, H, _, I, r, _ => ⟨H, I, ⟨r.1, rfl⟩, Ext.refl _ _, fun t => t⟩
  | .tup ds, v, F, H, k, I, ⟨a, vs, ev, ho, rl⟩, n => by
    obtain ⟨H', I', r', e, t⟩ := frzL_ok ds vs F H k I rl n
    exact ⟨H', I', ⟨a, vs, ev, e.sqt ho, r'⟩, e, t⟩
  | .fls ds, v, F, H, k, I, ⟨a, vs, ev, ho, rl⟩, n => by
    obtain ⟨H', I', r', e, t⟩ := frzL_ok ds vs F H k I rl n
    exact ⟨H', I', ⟨a, vs, ev, e.sqf ho, r'⟩, e, t⟩
  | .lst ds, v, F, H, k, I, ⟨a, vs, G, ev, ho, rl, eF⟩, n => by
    rw [eF] at n
    obtain ⟨na, nG⟩ := List.nodup_cons.mp n
    obtain ⟨H1, I1, r1, e1, t1⟩ := frzL_ok ds vs G H k I rl nG
    have ho1 : H1 a = some (.lst vs) := e1.own ho True.intro na
    obtain ⟨od, I2⟩ := I1.lock ho1 True.intro
    have e2 : Ext [a] H1 (upd H1 a (.frz od (.lst vs))) := Ext.upd ho1 True.intro (by simp)
    refine ⟨_, I2, ⟨a, vs, ev, .inl ⟨od, upd_same⟩, r1.ext0 e2⟩, ?_, fun t => tabs_upd (t1 t) ho1 True.intro⟩
    rw [eF]
    exact (e1.mono fun b hb => List.mem_cons_of_mem _ hb).trans (e2.mono (G := [a]) fun _ z => z) fun c hc => .inl (by rw [List.mem_singleton.mp hc]; exact List.mem_cons_self)
  | .dk _ _, _, _, _, k, _, _, _ => by cases k
  | .dt _ _, _, _, _, k, _, _, _ => by cases k
  | .ins _ _, _, _, _, k, _, _, _ => by cases k
  | .exn _ _, _, _, H, _, I, r, _ => ⟨H, I, ⟨r.1, rfl, r.2.2⟩, Ext.refl _ _, fun t => t⟩
  | .clo _, _, _, H, _, I, r, _ => ⟨H, I, ⟨⟨rfl, r.1.2⟩, r.2⟩, Ext.refl _ _, fun t => t⟩
theorem frzL_ok : ∀ (ds : List D) (vs : List V) (F : List Addr) (H : Hp), frzOkL ds = true → Inv X pins σ H s → RepL X.K adr H ds vs F → F.Nodup → ∃ H', Inv X pins σ H' s ∧ RepL X.K adr H' (freezeL ds) vs [] ∧ Ext F H H' ∧ (Tabs T H → Tabs T H')
  | [], vs, F, H, _, I, r, _ => ⟨H, I, ⟨r.1, rfl⟩, Ext.refl _ _, fun t => t⟩
  | d :: ds, vs, F, H, k, I, ⟨v, ws, F1, F2, e1, r1, r2, e2⟩, n => by
    have k' : (frzOk d && frzOkL ds) = true := k
    rw [Bool.and_eq_true] at k'
    rw [e2] at n
    obtain ⟨n1, n2, n3⟩ := List.nodup_append.mp n
    obtain ⟨H1, I1, q1, x1, t1⟩ := frz_ok d v F1 H k'.1 I r1 n1
    have r2' : RepL X.K adr H1 ds ws F2 := r2.ext x1 fun b hb hb1 => n3 b hb1 b hb rfl
    obtain ⟨H2, I2, q2, x2, t2⟩ := frzL_ok ds ws F2 H1 k'.2 I1 r2' n2
    refine ⟨H2, I2, ⟨v, ws, [], [], e1, q1.ext0 x2, q2, rfl⟩, ?_, fun t => t2 (t1 t)⟩
    rw [e2]
    exact (x1.mono fun b hb => List.mem_append_left _ hb).trans (x2.mono (G := F2) fun _ z => z) fun c hc => .inl (List.mem_append_right _ hc)
end
end
def eFrz (f : EM) : EM := fun ρ => (f ρ).bind fun d ρ => if frzOk d then .ok (freeze d) ρ else .fail
/-- the thing of a slot -/
def sFrz (i : Nat) (p : SM) : SM := fun ρ => match ρ[i]? with
  | some (some d) => if frzOk d then p (ρ.set i (some (freeze d))) else .fail
  | _ => .fail
section
variable {X : Cx} {adr : Adr} {T : List (Addr × Str)} {io : List Nat} {W : WX} {e : Expr} {rest : List Stmt} {f : EM} {p : SM}
theorem pd_frz (he : PE X e (tD X.K adr T W f)) : PE X e (tD X.K adr T W (eFrz f)) := by
  refine ⟨fun pins s σ H Q I ⟨ρ, F, S, q⟩ => ?_⟩
  unfold eFrz at q
  cases ef : f ρ with
  | exc x ρ1 =>
    rw [ef] at q
    refine he.run pins s σ H Q I ⟨ρ, F, S, ?_⟩
    rw [ef]; exact q
  | fail => rw [ef] at q; exact q.elim
  | ok d ρ1 =>
    rw [ef] at q
    have q' : Hold X.K adr T W (if frzOk d then .ok (freeze d) ρ1 else .fail) F H σ Q := q
    by_cases hk : frzOk d = true
    · rw [if_pos hk] at q'
      refine thn (he.run pins s σ H (fun v H1 => PostE X.K adr T F H σ ρ1 d v H1) I ⟨ρ, F, S, ?_⟩) fun u s1 ⟨v, H1, I1, r1, p⟩ => ?_
      · rw [ef]
        exact fun v H1 p => p
      · obtain ⟨F1, Fd, S1, r, n, st⟩ := p.sim
        obtain ⟨n1, n2, n3⟩ := List.nodup_append.mp n
        obtain ⟨H2, I2, r2, e2, t2⟩ := frz_ok (T := T) d v Fd H1 hk I1 r n2
        have ap : ∀ b ∈ F1, b ∉ Fd := fun b hb hd => n3 b hb b hd rfl
        exact ⟨v, H2, I2, r1, q' v H2 ⟨F1, [], S1.rep.ext e2 ap, r2, by rw [List.append_nil]; exact n1, by
          have z : Stp T (F1 ++ Fd) H1 (F1 ++ []) H2 := ⟨e2.mono fun b hb => List.mem_append_right _ hb, fun b hb => .inl (by rw [List.append_nil] at hb; exact List.mem_append_left _ hb), t2 S1.tab⟩
          exact st.trans z fun _ y => y⟩⟩
    · rw [if_neg hk] at q'; exact q'.elim
theorem pss_frz (i : Nat) (h : PSs X rest (tDS X.K adr T io W p)) : PSs X rest (tDS X.K adr T io W (sFrz i p)) := by
  refine ⟨fun pins s σ H D I ⟨ρ, F, S, q⟩ => ?_⟩
  unfold sFrz at q
  split at q
  · rename_i d hd
    by_cases hk : frzOk d = true
    · rw [if_pos hk] at q
      obtain ⟨v, G, F', hv, r, S', pm⟩ := S.rep.take hd
      have n0 : (F' ++ G).Nodup := perm_nodup pm S.nd
      obtain ⟨n1, n2, n3⟩ := List.nodup_append.mp n0
      obtain ⟨H2, I2, r2, e2, t2⟩ := frz_ok (T := T) d v G H hk I r n2
      have ap : ∀ b ∈ F', b ∉ G := fun b hb hd => n3 b hb b hd rfl
      have hil : i < ρ.length := (List.getElem?_eq_some_iff.mp hd).1
      obtain ⟨F2, s2, p2⟩ := (S'.ext e2 ap).refill (d := freeze d) (G := []) (by rw [List.getElem?_set_self hil]) hv r2
      rw [List.set_set] at s2
      rw [List.append_nil] at p2
      exact h.run pins s σ H2 D I2 ⟨_, F2, ⟨s2, perm_nodup p2.symm n1, t2 S.tab⟩, HoldS.weak ⟨e2.mono fun b hb => pm.mem_iff.mpr (List.mem_append_right _ hb), fun b hb => .inl (pm.mem_iff.mpr (List.mem_append_left _ (p2.mem_iff.mp hb))), t2 S.tab⟩ (Fix.refl _ _) q⟩
    · rw [if_neg hk] at q; exact q.elim
  · exact q.elim
end

/-! ### a list in a slot -/
section
variable {K : PySem.W.Frag} {adr : Adr} {T : List (Addr × Str)} {F G G' F1 : List Addr} {H H1 H2 H' : Hp} {σ σ1 σ2 : L2.St} {W : WX} {ρ ρ' : Env} {io : List Nat}
/-- what stands in the slot i is changed, temps (Fy) used up -/
theorem slot_upd {i : Nat} {ds : List D} {Fy : List Addr} (S : Sim K adr T ρ σ H F) (e : ρ[i]? = some (some (.lst ds))) (nn : (F ++ Fy).Nodup) : ∃ a vs G0, σ[i]? = some (some (.ref a)) ∧ H a = some (.lst vs) ∧ RepL K adr H ds vs G0 ∧ (G0 ++ Fy).Nodup ∧
    ∀ ds' vs' G1, RepL K adr H ds' vs' G1 → G1.Nodup → (∀ b ∈ G1, b ∈ G0 ++ Fy) → ∃ F2, Sim K adr T (ρ.set i (some (.lst ds'))) σ (upd H a (.lst vs')) F2 ∧ Stp T (F ++ Fy) H F2 (upd H a (.lst vs')) := by
  obtain ⟨v, Gv, F', hv, rv, S', pm⟩ := S.rep.take e
  obtain ⟨a, vs, G0, ev, ho, rl, eG⟩ := rv
  subst ev
  have nn1 : ((F' ++ (a :: G0)) ++ Fy).Nodup := by
    rw [← eG]
    exact perm_nodup (pm.append_right Fy) nn
  have n3 : ((a :: (G0 ++ Fy)) ++ F').Nodup := perm_nodup (by
    rw [List.append_assoc]
    exact List.perm_append_comm) nn1
  rw [List.cons_append] at n3
  obtain ⟨n4, n5⟩ := List.nodup_cons.mp n3
  obtain ⟨n6, n7, n8⟩ := List.nodup_append.mp n5
  refine ⟨a, vs, G0, hv, ho, rl, n6, fun ds' vs' G1 rl' nG1 sub => ?_⟩
  have eU : Ext [a] H (upd H a (.lst vs')) := Ext.upd ho True.intro (by simp)
  have ra : a ∉ F' := fun h => n4 (List.mem_append_right _ h)
  have rg : a ∉ G1 := fun h => n4 (List.mem_append_left _ (sub a h))
  have S2 : RepS K adr (upd H a (.lst vs')) (ρ.set i none) σ F' := S'.ext eU fun b hb z => ra (by rw [← List.mem_singleton.mp z]; exact hb)
  have r2 : RepL K adr (upd H a (.lst vs')) ds' vs' G1 := rl'.ext eU fun b hb z => rg (by rw [← List.mem_singleton.mp z]; exact hb)
  have hil : i < ρ.length := (List.getElem?_eq_some_iff.mp e).1
  obtain ⟨F2, s3, p3⟩ := S2.refill (d := .lst ds') (G := a :: G1) (by rw [List.getElem?_set_self hil]) hv ⟨a, vs', G1, rfl, upd_same, r2, rfl⟩
  rw [List.set_set] at s3
  have n9 : (F' ++ (a :: G1)).Nodup := List.nodup_append.mpr ⟨n7, List.nodup_cons.mpr ⟨rg, nG1⟩, fun x hx y hy z => by
    subst z
    rcases List.mem_cons.mp hy with w | w
    · exact ra (by rw [← w]; exact hx)
    · exact n8 x (sub x w) x hx rfl⟩
  have mF : ∀ b ∈ F' ++ (a :: G0), b ∈ F := fun b hb => pm.mem_iff.mpr (by rw [eG]; exact hb)
  refine ⟨F2, ⟨s3, perm_nodup p3.symm n9, tabs_upd S.tab ho True.intro⟩, ⟨eU.mono fun b hb => by rw [List.mem_singleton.mp hb]; exact List.mem_append_left _ (mF a (by simp)), fun b hb => .inl ?_, tabs_upd S.tab ho True.intro⟩⟩
  rcases List.mem_append.mp (p3.mem_iff.mp hb) with w | w
  · exact List.mem_append_left _ (mF b (List.mem_append_left _ w))
  · rcases List.mem_cons.mp w with w | w
    · rw [w]; exact List.mem_append_left _ (mF a (by simp))
    · rcases List.mem_append.mp (sub b w) with y | y
      · exact List.mem_append_left _ (mF b (List.mem_append_right _ (List.mem_cons_of_mem _ y)))
      · exact List.mem_append_right _ y
end
/-- name.append(e) -/
def eApp (i : Nat) (f : EM) : EM := fun ρ => match ρ[i]? with
  | some (some (.lst _)) => (f ρ).bind fun d ρ1 => match ρ1[i]? with
    | some (some (.lst ds)) => if ds.length < sizeLine then .ok .non (ρ1.set i (some (.lst (ds ++ [d])))) else .fail
    | _ => .fail
  | _ => .fail
/-- name[e], the item owning nothing -/
def eIxS (i : Nat) (f : EM) : EM := fun ρ => match ρ[i]? with
  | some (some (.lst _)) => (f ρ).bind fun d ρ1 => match ρ1[i]?, d with
    | some (some (.lst ds)), .int k => match atI ds k with
      | some x => if dup x then .ok x ρ1 else .fail
      | none => .fail
    | _, _ => .fail
  | _ => .fail
/-- name[i] = e -/
def ixPut (i : Nat) (d k : D) (ρ : Env) : SR := match ρ[i]?, k with
  | some (some (.lst ds)), .int k => match ixN ds.length k with
    | some j => .nx (ρ.set i (some (.lst (ds.set j d))))
    | none => .fail
  | _, _ => .fail
def sIx (i : Nat) (g f : EM) : SM := s1 f fun d ρ => match ρ[i]? with
  | some (some (.lst _)) => (g ρ).sbind fun k ρ1 => ixPut i d k ρ1
  | _ => .fail
section
variable {X : Cx} {adr : Adr} {T : List (Addr × Str)} {io : List Nat} {W : WX} {pos apos tpos : Pos} {e ix : Expr} {f g : EM}
theorem pd_app {y : Str} {p : Pos} (i : Nat) (he : PE X e (tD X.K adr T W f)) (hN : X.N[i]? = some y := by rfl) (hv : Vis X.env.scope y := by first | exact Or.inl rfl | exact Or.inr (Or.inl rfl) | exact Or.inr (Or.inr rfl)) (hd : (y == ("__debug__" : Str)) = false := by decide) (hcd : (y == ("__classdict__" : Str)) = false := by decide)
    (hbase : attributeBase (.Name y p) "append" X.env (eval (.Name y p) X.env) = eval (.Name y p) X.env := by rfl)
    (hfew : ((backTo pos (starEach (e :: []) X.env)).all (fun x => !x.1) && (backToKw pos (keywordEach [] X.env)).all (fun x => x.1.isSome) && decide ((e :: ([] : List Expr)).length + ([] : List Keyword).length + (if ([] : List Keyword).isEmpty then 0 else 1) < 30)) = true := by rfl)
    (hline : (apos.endLine == pos.line) = true := by rfl) (hs : starEach (e :: []) X.env = (false, eval e X.env) :: starEach [] X.env := by rfl) (hplain : (backTo pos (starEach [] X.env)).any (·.1) = false := by rfl) :
    PE X (.Call (.Attribute (.Name y p) "append" apos) [e] [] pos) (tD X.K adr T W (eApp i f)) :=
  PE.imp (pe_bm PySem.F.plainAttrs_list PySem.F.slot_list_append PySem.F.type_list_append mt_append (pe_var hN hv hd hcd) (pa_cons he pa_nil hs) hbase hfew hline hs hplain) fun σ H Q ⟨ρ, F, S, q⟩ => by
    unfold eApp at q
    split at q
    · rename_i ds0 hd0
      obtain ⟨v, Gv, hv', r, _⟩ := S.rep.get hd0
      obtain ⟨a0, vs0, G0, ev0, ho0, rl0, eG0⟩ := r
      refine ⟨v, hv', ?_, ?_⟩
      · rw [ev0]
        exact .inl ⟨rfl, vs0, .inl (.inl ho0)⟩
      · refine tn (G := []) (k := fun d ρ1 => match ρ1[i]? with | some (some (.lst ds)) => if ds.length < sizeLine then .ok .non (ρ1.set i (some (.lst (ds ++ [d])))) else .fail | _ => .fail) (Q := Q) S (by simpa using S.nd) (fun _ z => nomatch z) (by simpa using q) fun dx ρ1 F1 Fx x H1 S1 rx nn _ q => ?_
        rw [List.nil_append] at nn q
        split at q
        · rename_i ds hd1
          by_cases hz : ds.length < sizeLine
          · rw [if_pos hz] at q
            obtain ⟨a, vs, G0, hv1, ho, rl, n0, up⟩ := slot_upd (Fy := Fx) S1 hd1 nn
            rw [hv'] at hv1; cases hv1
            obtain ⟨F2, S2, st⟩ := up (ds ++ [dx]) (vs ++ [x]) (G0 ++ Fx) (by simpa using repL_append rl (repL_cons rx repL_nil)) n0 fun b hb => hb
            exact ⟨a, vs, x, rfl, rfl, ho, by rw [rl.length]; exact hz, q .non _ ⟨F2, [], S2.rep, ⟨rfl, rfl⟩, by simpa using S2.nd, by simpa using st⟩⟩
          · rw [if_neg hz] at q; exact q.elim
        · exact q.elim
    · exact q.elim
theorem pd_ixS {y : Str} {p : Pos} (i : Nat) (he : PE X ix (tD X.K adr T W f)) (hs : PlainIx ix) (hN : X.N[i]? = some y := by rfl) (hv : Vis X.env.scope y := by first | exact Or.inl rfl | exact Or.inr (Or.inl rfl) | exact Or.inr (Or.inr rfl)) (hd : (y == ("__debug__" : Str)) = false := by decide) (hcd : (y == ("__classdict__" : Str)) = false := by decide) :
    PE X (.Subscript (.Name y p) ix pos) (tD X.K adr T W (eIxS i f)) :=
  PE.imp (pe_ix ix_list (pe_var hN hv hd hcd) he hs) fun σ H Q ⟨ρ, F, S, q⟩ => by
    unfold eIxS at q
    split at q
    · rename_i ds0 hd0
      obtain ⟨v, Gv, hv', r, _⟩ := S.rep.get hd0
      refine ⟨v, hv', ?_⟩
      refine tn (G := []) (k := fun d ρ1 => match ρ1[i]?, d with | some (some (.lst ds)), .int k => (match atI ds k with | some x => if dup x then .ok x ρ1 else .fail | none => .fail) | _, _ => .fail) (Q := Q) S (by simpa using S.nd) (fun _ z => nomatch z) (by simpa using q) fun dx ρ1 F1 Fx x H1 S1 rx nn _ q => ?_
      rw [List.nil_append] at nn q
      split at q
      · rename_i ds k hd1
        cases ea : atI ds k with
        | none => simp only [ea] at q; exact q.elim
        | some z =>
          simp only [ea] at q
          by_cases hz : dup z = true
          · rw [if_pos hz] at q
            obtain ⟨v1, G1, hv1, r1, _⟩ := S1.rep.get hd1
            obtain ⟨a, vs, G0, ev, ho, rl, eG⟩ := r1
            rw [hv'] at hv1; cases hv1
            unfold atI at ea
            cases en : ixN ds.length k with
            | none => rw [en] at ea; cases ea
            | some j =>
              rw [en] at ea
              obtain ⟨w, Gw, hw, rw', _⟩ := rl.get ea
              refine ⟨a, vs, k, w, ev, rx.1, .inl (.inl ho), ?_, hold_read q S1 (fun b hb => List.mem_append_left _ hb) w H1 [] (rw'.dup hz) List.nodup_nil (Ext.refl _ _) (fun _ z => nomatch z) S1.tab⟩
              unfold atI
              rw [rl.length, en]
              exact hw
          · rw [if_neg hz] at q; exact q.elim
      · exact q.elim
    · exact q.elim
theorem ps_dix {y : Str} {p : Pos} (i : Nat) (hi : PE X ix (tD X.K adr T W g)) (he : PE X e (tD X.K adr T W f)) (hN : X.N[i]? = some y := by rfl) (hv : Vis X.env.scope y := by first | exact Or.inl rfl | exact Or.inr (Or.inl rfl) | exact Or.inr (Or.inr rfl)) (hd : (y == ("__debug__" : Str)) = false := by decide) (hcd : (y == ("__classdict__" : Str)) = false := by decide)
    (ha : ∀ v, assign (.Subscript (.Name y p) ix tpos) X.env v = (do
      let ov ← holding [v] (eval (.Name y p) X.env)
      let iv ← holding [v, ov] (eval ix X.env)
      standAt tpos
      holding [v, ov, iv] (setItem ov iv v)
      release [v, ov, iv] []) := by intro _; rfl)
    (hs : swapsWithSole [.Subscript (.Name y p) ix tpos] e pos.line X.env = pure false := by rfl) (hw : swappedStores [.Subscript (.Name y p) ix tpos] e X.env = pure none := by rfl) (h1 : (assignEach [.Subscript (.Name y p) ix tpos] X.env).map (·.2) = [assign (.Subscript (.Name y p) ix tpos) X.env] := by rfl) :
    PS X (.Assign [.Subscript (.Name y p) ix tpos] e pos) (tDS X.K adr T io W (sIx i g f)) :=
  PS.imp (ps_asg he (pg_sub (pe_var hN hv hd hcd) hi set_list ha) hs hw h1) fun D σ H q => ts1 q fun dx ρ1 F Fx x H1 S r nn q => by
    split at q
    · rename_i ds0 hd0
      obtain ⟨v, Gv, hv', r0, _⟩ := S.rep.get hd0
      refine ⟨v, hv', ?_⟩
      have hx : ∀ b ∈ Fx, H1 b ≠ none := fun b hb => ne_none_of (r.mem b hb)
      refine ⟨ρ1, F, S, ?_⟩
      cases eg : g ρ1 with
      | exc xx ρ2 =>
        rw [eg] at q
        exact fun cls dx' H2 ⟨F2, a, b, c, d⟩ => q cls dx' σ H2 ⟨F2, ⟨a, c, d.tab⟩, b, d.mono fun b hb => List.mem_append_left _ hb, Fix.refl _ _⟩
      | fail => rw [eg] at q; exact q.elim
      | ok dk ρ2 =>
        rw [eg] at q
        intro kv H2 pk
        obtain ⟨F2, Fk, S2, rk, n2, st⟩ := pk.sim
        have q' : HoldS X.K adr T io W (ixPut i dx dk ρ2) (F ++ Fx) H1 σ D := q
        unfold ixPut at q'
        split at q'
        · rename_i ds k hd1
          cases en : ixN ds.length k with
          | none => simp only [en] at q'; exact q'.elim
          | some j =>
            simp only [en] at q'
            obtain ⟨ek, eFk⟩ := rk
            subst eFk
            rw [List.append_nil] at n2 st
            have n3 : (F2 ++ Fx).Nodup := nodup_aside nn n2 st.frs hx
            have r2 : Rep X.K adr H2 dx x Fx := r.ext st.ext (apart_of nn)
            obtain ⟨a, vs, G0, hv1, ho, rl, n0, up⟩ := slot_upd (Fy := Fx) S2 hd1 n3
            rw [hv'] at hv1; cases hv1
            have hj : j < ds.length := (ixN_seq en).2.1
            obtain ⟨G1, rl', F0, p1, sb⟩ := repL_set rl hj r2
            have nG1 : G1.Nodup := perm_nodup p1.symm (n0.sublist (sb.append (.refl _)))
            obtain ⟨F3, S3, st3⟩ := up (ds.set j dx) (vs.set j x) G1 rl' nG1 fun b hb => (List.mem_append.mp (p1.mem_iff.mp hb)).elim (fun z => List.mem_append_left _ (sb.subset z)) (List.mem_append_right _)
            refine ⟨a, vs, k, j, rfl, ek, ho, by rw [rl.length]; exact en, q' σ _ ⟨F3, S3, ?_, Fix.refl _ _⟩⟩
            have z : Stp T (F ++ Fx) H1 (F2 ++ Fx) H2 := ⟨st.ext.mono fun b hb => List.mem_append_left _ hb, fun b hb => (List.mem_append.mp hb).elim (fun y => (st.frs b y).imp (List.mem_append_left _) id) fun y => .inl (List.mem_append_right _ y), S2.tab⟩
            exact z.trans st3 fun _ y => y
        · exact q'.elim
    · exact q.elim
end
end DL
set_option Elab.async false
set_option linter.all false
set_option maxRecDepth 100000
set_option maxHeartbeats 4000000
namespace DL
open PySem L2
open LamX (Tabs)

/-! ### operations: what they tell of trees -/
def d2 (g : D → D → Option D) : List D → Option D
  | [a, b] => g a b
  | _ => none
def d1 (g : D → Option D) : List D → Option D
  | [a] => g a
  | _ => none
def Ans (K : PySem.W.Frag) (adr : Adr) (T : List (Addr × Str)) (H : Hp) (z : D) (Q : VK) : Prop := ∀ v H' Fz, Rep K adr H' z v Fz → Fz.Nodup → Ext [] H H' → (∀ b ∈ Fz, H b = none) → Tabs T H' → Q v H'
section
variable {K : PySem.W.Frag} {adr : Adr} {T : List (Addr × Str)} {H : Hp} {z : D} {Q : VK} {v : V} {F : List Addr} {ds : List D} {vs : List V}
theorem Ans.flat (q : Ans K adr T H z Q) (t : Tabs T H) (p : Plain z v) : Q v H := q v H [] p.rep List.nodup_nil (Ext.refl _ _) (fun _ z => nomatch z) t
theorem Ans.same (q : Ans K adr T H z Q) (t : Tabs T H) (r : Rep K adr H z v F) (hd : dup z = true) : Q v H := q v H [] (r.dup hd) List.nodup_nil (Ext.refl _ _) (fun _ z => nomatch z) t
theorem RepL.dup {K : PySem.W.Frag} {adr : Adr} {H : Hp} {ds : List D} {vs : List V} {F : List Addr} (h : RepL K adr H ds vs F) (q : dupL ds = true) : RepL K adr H ds vs [] := by
  have e := repL_dup ds vs F q h
  rw [e] at h; exact h
theorem dupL_append : ∀ (xs ys : List D), dupL (xs ++ ys) = (dupL xs && dupL ys)
  | [], ys => rfl
  | x :: xs, ys => by
    show (dup x && dupL (xs ++ ys)) = ((dup x && dupL xs) && dupL ys)
    rw [dupL_append xs ys, Bool.and_assoc]
theorem Ans.newL (q : Ans K adr T H (.lst ds) Q) (t : Tabs T H) (r : RepL K adr H ds vs F) (hd : dupL ds = true) : ∀ p, H p = none → Q (.ref p) (upd H p (.lst vs)) := fun p hp =>
  q _ _ [p] ⟨p, vs, [], rfl, upd_same, (r.dup hd).ext (Ext.new (F := []) hp) (fun _ z => nomatch z), rfl⟩ (by simp) (Ext.new hp) (fun b hb => by rw [List.mem_singleton.mp hb]; exact hp) (tabs_new t hp)
theorem Ans.newT (q : Ans K adr T H (.tup ds) Q) (t : Tabs T H) (r : RepL K adr H ds vs F) (hd : dupL ds = true) : ∀ p, H p = none → Q (.ref p) (upd H p (.tup vs)) := fun p hp =>
  q _ _ [] ⟨p, vs, rfl, .inl (.inl upd_same), (r.dup hd).ext (Ext.new (F := []) hp) (fun _ z => nomatch z)⟩ List.nodup_nil (Ext.new hp) (fun b hb => nomatch hb) (tabs_new t hp)
end
section
variable {X : Cx} {adr : Adr} {T : List (Addr × Str)}
theorem opD {f : Value → Value → Sem Value} {r : R2} {g : D → D → Option D} (ho : OpR X f r) (w : ∀ a b z H x y Fx Fy Q, g a b = some z → Rep X.K adr H a x Fx → Rep X.K adr H b y Fy → Tabs T H → Ans X.K adr T H z Q → r x y H Q) : OpD X adr T f (d2 g) :=
  OpR.imp ho fun x y H Q ⟨ds, Fs, z, rl, e, t, q⟩ => by
    match ds, rl, e with
    | [a, b], rl, e =>
      obtain ⟨v1, ws, F1, F2, e1, r1, r2, e2⟩ := rl
      obtain ⟨v2, ws2, F3, F4, e3, r3, r4, e4⟩ := r2
      rw [e3] at e1
      cases e1
      exact w a b z H _ _ F1 F3 Q e r1 r3 t q
    | [], _, e => cases e
    | [_], _, e => cases e
    | _ :: _ :: _ :: _, _, e => cases e
theorem ixD {r : R2} {g : D → D → Option D} (ho : IxR X r) (w : ∀ a b z H x y Fx Fy Q, g a b = some z → Rep X.K adr H a x Fx → Rep X.K adr H b y Fy → Tabs T H → Ans X.K adr T H z Q → r x y H Q) : IxD X adr T (d2 g) :=
  IxR.imp ho fun x y H Q ⟨ds, Fs, z, rl, e, t, q⟩ => by
    match ds, rl, e with
    | [a, b], rl, e =>
      obtain ⟨v1, ws, F1, F2, e1, r1, r2, e2⟩ := rl
      obtain ⟨v2, ws2, F3, F4, e3, r3, r4, e4⟩ := r2
      rw [e3] at e1
      cases e1
      exact w a b z H _ _ F1 F3 Q e r1 r3 t q
    | [], _, e => cases e
    | [_], _, e => cases e
    | _ :: _ :: _ :: _, _, e => cases e
theorem unD {f : Value → Sem Value} {r : V → Hp → VK → Prop} {g : D → Option D} (ho : UnR X f r) (w : ∀ a z H x Fx Q, g a = some z → Rep X.K adr H a x Fx → Tabs T H → Ans X.K adr T H z Q → r x H Q) : UnD X adr T f (d1 g) :=
  UnR.imp ho fun x H Q ⟨ds, Fs, z, rl, e, t, q⟩ => by
    match ds, rl, e with
    | [a], rl, e =>
      obtain ⟨v1, ws, F1, F2, e1, r1, r2, e2⟩ := rl
      cases e1
      exact w a z H _ F1 Q e r1 t q
    | [], _, e => cases e
    | _ :: _ :: _, _, e => cases e
theorem call1D {f : Value} {r : List V → Hp → VK → Prop} {g : D → Option D} (ho : CallR X f r) (w : ∀ a z H x Fx Q, g a = some z → Rep X.K adr H a x Fx → Tabs T H → Ans X.K adr T H z Q → r [x] H Q) : CallD X adr T f (d1 g) :=
  CallR.imp ho fun vs H Q ⟨ds, Fs, z, rl, e, t, q⟩ => by
    match ds, rl, e with
    | [a], rl, e =>
      obtain ⟨v1, ws, F1, F2, e1, r1, r2, e2⟩ := rl
      have : ws = [] := r2.1
      subst this
      subst e1
      exact w a z H _ F1 Q e r1 t q
    | [], _, e => cases e
    | _ :: _ :: _, _, e => cases e
theorem call2D {f : Value} {r : List V → Hp → VK → Prop} {g : D → D → Option D} (ho : CallR X f r) (w : ∀ a b z H x y Fx Fy Q, g a b = some z → Rep X.K adr H a x Fx → Rep X.K adr H b y Fy → Tabs T H → Ans X.K adr T H z Q → r [x, y] H Q) : CallD X adr T f (d2 g) :=
  CallR.imp ho fun vs H Q ⟨ds, Fs, z, rl, e, t, q⟩ => by
    match ds, rl, e with
    | [a, b], rl, e =>
      obtain ⟨v1, ws, F1, F2, e1, r1, r2, e2⟩ := rl
      obtain ⟨v2, ws2, F3, F4, e3, r3, r4, e4⟩ := r2
      have : ws2 = [] := r4.1
      subst this
      subst e3
      subst e1
      exact w a b z H _ _ F1 F3 Q e r1 r3 t q
    | [], _, e => cases e
    | [_], _, e => cases e
    | _ :: _ :: _ :: _, _, e => cases e
/-- two ints -/
def dII (C : Int → Int → Bool) (g : Int → Int → D) : D → D → Option D
  | .int i, .int j => if C i j then some (g i j) else none
  | _, _ => none
theorem opII {f : Value → Value → Sem Value} {C : Int → Int → Prop} {Cb : Int → Int → Bool} {g : Int → Int → V} {g' : Int → Int → D} (ho : OpR X f (rI C g)) (hp : ∀ i j, Plain (g' i j) (g i j)) (hc : ∀ i j, Cb i j = true → C i j) : OpD X adr T f (d2 (dII Cb g')) :=
  opD ho fun a b z H x y Fx Fy Q e r1 r2 t q => by
    cases a <;> cases b <;> first | (cases e; done) | skip
    rename_i i j
    by_cases h : Cb i j = true
    · simp only [dII, h, if_true] at e
      cases e
      exact ⟨i, j, r1.1, r2.1, hc i j h, q.flat t (hp i j)⟩
    · simp only [dII, h] at e; cases e
theorem opII0 {f : Value → Value → Sem Value} {g : Int → Int → V} {g' : Int → Int → D} (ho : OpR X f (rI0 g)) (hp : ∀ i j, Plain (g' i j) (g i j)) : OpD X adr T f (d2 (dII (fun _ _ => true) g')) :=
  opD ho fun a b z H x y Fx Fy Q e r1 r2 t q => by
    cases a <;> cases b <;> first | (cases e; done) | skip
    rename_i i j
    simp only [dII, if_true] at e
    cases e
    exact ⟨i, j, r1.1, r2.1, q.flat t (hp i j)⟩
end

section
variable {K : PySem.W.Frag} {adr : Adr} {T : List (Addr × Str)} {H : Hp} {z : D} {Q : VK} {v : V} {F : List Addr} {ds : List D} {vs : List V}
theorem Rep.sqL (h : Rep K adr H (.lst ds) v F) : ∃ a vs G, v = .ref a ∧ H a = some (.lst vs) ∧ SqL K H a vs ∧ RepL K adr H ds vs G := by
  obtain ⟨a, vs, G, e, ho, r, _⟩ := h
  exact ⟨a, vs, G, e, ho, .inl (.inl ho), r⟩
theorem Rep.sqF (h : Rep K adr H (.fls ds) v F) : ∃ a vs G, v = .ref a ∧ SqL K H a vs ∧ RepL K adr H ds vs G := by
  obtain ⟨a, vs, e, ho, r⟩ := h
  exact ⟨a, vs, F, e, ho.sq, r⟩
theorem Rep.sqT (h : Rep K adr H (.tup ds) v F) : ∃ a vs G, v = .ref a ∧ SqT K H a vs ∧ RepL K adr H ds vs G := by
  obtain ⟨a, vs, e, ho, r⟩ := h
  exact ⟨a, vs, F, e, ho, r⟩
theorem Rep.dup_at {d : D} (r : RepL K adr H ds vs F) {i : Nat} (e : ds[i]? = some d) (hd : DL.dup d = true) : ∃ v, vs[i]? = some v ∧ Rep K adr H d v [] := by
  obtain ⟨w, G, hw, rw', _⟩ := r.get e
  exact ⟨w, hw, rw'.dup hd⟩
/-- the items of a list or a tuple -/
def itms : D → Option (List D)
  | .lst ds => some ds
  | .fls ds => some ds
  | .tup ds => some ds
  | _ => none
def litms : D → Option (List D)
  | .lst ds => some ds
  | .fls ds => some ds
  | _ => none
theorem Rep.litms {d : D} (h : Rep K adr H d v F) (e : DL.litms d = some ds) : ∃ a vs G, v = .ref a ∧ SqL K H a vs ∧ RepL K adr H ds vs G := by
  cases d <;> cases e
  · obtain ⟨a, vs, G, e, _, s, r⟩ := h.sqL
    exact ⟨a, vs, G, e, s, r⟩
  · exact h.sqF
theorem Rep.itms {d : D} (h : Rep K adr H d v F) (e : DL.itms d = some ds) : ∃ a vs G, v = .ref a ∧ (SqL K H a vs ∨ SqT K H a vs) ∧ RepL K adr H ds vs G := by
  cases d <;> cases e
  · obtain ⟨a, vs, G, e, s, r⟩ := h.sqT
    exact ⟨a, vs, G, e, .inr s, r⟩
  · obtain ⟨a, vs, G, e, _, s, r⟩ := h.sqL
    exact ⟨a, vs, G, e, .inl s, r⟩
  · obtain ⟨a, vs, G, e, s, r⟩ := h.sqF
    exact ⟨a, vs, G, e, .inl s, r⟩
/-- a list of ints -/
def dInts : List D → Option (List Int)
  | [] => some []
  | .int i :: ds => (dInts ds).map (i :: ·)
  | _ => none
theorem repL_ints : ∀ {ds : List D} {vs : List V} {F : List Addr} {ns : List Int}, RepL K adr H ds vs F → dInts ds = some ns → vs = ns.map V.int
  | [], vs, F, ns, h, e => by cases e; exact h.1
  | d :: ds, vs, F, ns, ⟨w, ws, F1, F2, e1, r1, r2, e2⟩, e => by
    cases d <;> first | (cases e; done) | skip
    rename_i i
    cases e3 : dInts ds with
    | none => simp [dInts, e3] at e
    | some ms =>
      simp [dInts, e3] at e
      subst e
      rw [e1, repL_ints r2 e3, r1.1]; rfl
end

/-! ### the table of operations -/
def bI (b : Bool) : Int := if b then 1 else 0
def dAdd : D → D → Option D
  | .int i, .int j => some (.int (i + j))
  | .int i, .bl b => some (.int (i + bI b))
  | .str i, .str j => if i.length + j.length ≤ sizeLine then some (.str (i ++ j)) else none
  | .lst xs, .lst ys => if xs.length + ys.length ≤ sizeLine then (if dupL xs && dupL ys then some (.lst (xs ++ ys)) else none) else none
  | .tup xs, .tup ys => if xs.length + ys.length ≤ sizeLine then (if dupL xs && dupL ys then some (.tup (xs ++ ys)) else none) else none
  | _, _ => none
def sm (i : Int) : Bool := decide (-(2 ^ 64) < i) && decide (i < 2 ^ 64)
def dSub : D → D → Option D := dII (fun _ _ => true) fun i j => .int (i - j)
def dMul : D → D → Option D
  | .int i, .int j => if sm i || sm j then some (.int (i * j)) else none
  | .lst xs, .int k => if decide (-(2 ^ 63) ≤ k) && decide (k < 2 ^ 63) && decide (xs.length * k.toNat ≤ sizeLine) && dupL xs then some (.lst (List.replicate k.toNat xs).flatten) else none
  | .tup xs, .int k => if decide (xs ≠ []) && decide (2 ≤ k) && decide (k ≤ 1000) && decide (xs.length ≤ 1000) && dupL xs then some (.tup (List.replicate k.toNat xs).flatten) else none
  | _, _ => none
def dFdiv : D → D → Option D := dII (fun _ j => decide (j ≠ 0) && decide (j.natAbs < 1073741824)) fun i j => .int (i.fdiv j)
def dMod : D → D → Option D := dII (fun _ j => decide (j ≠ 0)) fun i j => .int (i.fmod j)
def dPow : D → D → Option D := dII (fun i j => decide (0 ≤ j) && decide (j ≤ 1000000) && decide (i.natAbs < 2 ^ 64)) fun i j => .int (i ^ j.toNat)
def dLt : D → D → Option D := dII (fun _ _ => true) fun i j => .bl (decide (i < j))
def dLe : D → D → Option D := dII (fun _ _ => true) fun i j => .bl (decide (i ≤ j))
def dGt : D → D → Option D := dII (fun _ _ => true) fun i j => .bl (decide (j < i))
def dGe : D → D → Option D := dII (fun _ _ => true) fun i j => .bl (decide (j ≤ i))
def dNeg : D → Option D
  | .int i => some (.int (-i))
  | _ => none
def isNone : D → Bool
  | .non => true
  | _ => false
def dIsN : D → D → Option D
  | a, .non => some (.bl (isNone a))
  | _, _ => none
def dNotN : D → D → Option D
  | a, .non => some (.bl (!isNone a))
  | _, _ => none
def dIx : D → D → Option D
  | .str z, .int i => if z.length ≤ sizeLine then (atI z.cps.toList i).map fun c => .str ⟨#[c]⟩ else none
  | d, .int i => (itms d).bind fun ds => (atI ds i).bind fun x => if dup x then some x else none
  | _, _ => none
def dLen : D → Option D
  | .str z => if z.length ≤ sizeLine then some (.int z.length) else none
  | d => (itms d).map fun ds => .int ds.length
def dAbs : D → Option D
  | .int i => some (.int (if i < 0 then -i else i))
  | _ => none
def dMax2 : D → D → Option D := dII (fun _ _ => true) fun i j => .int (if j > i then j else i)
def dMin2 : D → D → Option D := dII (fun _ _ => true) fun i j => .int (if j < i then j else i)
def maxI : List Int → Option Int
  | [] => none
  | i :: is => some (is.foldl max i)
def minI : List Int → Option Int
  | [] => none
  | i :: is => some (is.foldl min i)
def dMax (d : D) : Option D := (litms d).bind fun ds => (dInts ds).bind fun ns => (maxI ns).map .int
def dMin (d : D) : Option D := (litms d).bind fun ds => (dInts ds).bind fun ns => (minI ns).map .int
def dSum (d : D) : Option D := (litms d).bind fun ds => (dInts ds).map fun ns => .int ns.sum
def dInt : D → Option D
  | .int i => some (.int i)
  | .bl k => some (.int (bI k))
  | _ => none
def dList (d : D) : Option D := (itms d).bind fun ds => if dupL ds then some (.lst ds) else none
def dTuple (d : D) : Option D := (itms d).bind fun ds => if dupL ds then some (.tup ds) else none
def dDivmod : D → D → Option D := dII (fun _ j => decide (0 < j) && decide (j < 1073741824)) fun i j => .tup [.int (i / j), .int (i % j)]
theorem foldl_max : ∀ (is : List Int) (i : Int), is.foldl max i ∈ i :: is ∧ ∀ y ∈ i :: is, y ≤ is.foldl max i
  | [], i => by simp
  | j :: is, i => by
    obtain ⟨a, b⟩ := foldl_max is (max i j)
    rw [List.foldl_cons]
    refine ⟨?_, fun y hy => ?_⟩
    · rcases List.mem_cons.mp a with h | h
      · rw [h]
        by_cases hij : i ≤ j
        · rw [Int.max_eq_right hij]; simp
        · rw [Int.max_eq_left (by omega)]; simp
      · exact List.mem_cons_of_mem _ (List.mem_cons_of_mem _ h)
    · have b0 := b (max i j) List.mem_cons_self
      rcases List.mem_cons.mp hy with h | h
      · rw [h]; omega
      · rcases List.mem_cons.mp h with h | h
        · rw [h]; omega
        · exact b y (List.mem_cons_of_mem _ h)
theorem foldl_min : ∀ (is : List Int) (i : Int), is.foldl min i ∈ i :: is ∧ ∀ y ∈ i :: is, is.foldl min i ≤ y
  | [], i => by simp
  | j :: is, i => by
    obtain ⟨a, b⟩ := foldl_min is (min i j)
    rw [List.foldl_cons]
    refine ⟨?_, fun y hy => ?_⟩
    · rcases List.mem_cons.mp a with h | h
      · rw [h]
        by_cases hij : i ≤ j
        · rw [Int.min_eq_left hij]; simp
        · rw [Int.min_eq_right (by omega)]; simp
      · exact List.mem_cons_of_mem _ (List.mem_cons_of_mem _ h)
    · have b0 := b (min i j) List.mem_cons_self
      rcases List.mem_cons.mp hy with h | h
      · rw [h]; omega
      · rcases List.mem_cons.mp h with h | h
        · rw [h]; omega
        · exact b y (List.mem_cons_of_mem _ h)
section
variable {X : Cx} {adr : Adr} {T : List (Addr × Str)}
theorem oAdd : OpD X adr T (binaryOp .Add) (d2 dAdd) :=
  opD (((op_add.or op_add_ib).or (op_add_str.or op_cat)).or op_catA) fun a b z H x y Fx Fy Q e r1 r2 t q => by
    cases a <;> cases b <;> first | (cases e; done) | skip
    · cases e; exact .inl (.inl (.inr ⟨_, _, r1.1, r2.1, q.flat t (.int _)⟩))
    · cases e; exact .inl (.inl (.inl ⟨_, _, r1.1, r2.1, q.flat t (.int _)⟩))
    · rename_i i j
      simp only [dAdd] at e
      by_cases h : i.length + j.length ≤ sizeLine
      · rw [if_pos h] at e; cases e
        exact .inl (.inr (.inl ⟨_, _, r1.1, r2.1, h, q.flat t (.str _)⟩))
      · rw [if_neg h] at e; cases e
    · rename_i xs ys
      simp only [dAdd] at e
      by_cases h : xs.length + ys.length ≤ sizeLine
      · rw [if_pos h] at e
        by_cases hd : (dupL xs && dupL ys) = true
        · rw [if_pos hd] at e; cases e
          rw [Bool.and_eq_true] at hd
          obtain ⟨a, vs, G, e1, s1, q1⟩ := r1.sqT
          obtain ⟨b, ws, G2, e2, s2, q2⟩ := r2.sqT
          subst e1; subst e2
          refine .inr ⟨a, b, vs, ws, rfl, rfl, s1, s2, by rw [q1.length, q2.length]; exact h, fun hx => ?_, fun hx hy => ?_, fun hx hy => ?_⟩
          · have : xs = [] := by
              have := q1.length
              rw [hx] at this
              exact List.length_eq_zero_iff.mp (by simpa using this.symm)
            rw [this] at q
            exact q.same t r2 hd.2
          · have : ys = [] := by
              have := q2.length
              rw [hy] at this
              exact List.length_eq_zero_iff.mp (by simpa using this.symm)
            rw [this, List.append_nil] at q
            exact q.same t r1 hd.1
          · have := repL_append (q1.dup hd.1) (q2.dup hd.2)
            exact q.newT t this (by rw [dupL_append, hd.1, hd.2]; rfl)
        · rw [if_neg hd] at e; cases e
      · rw [if_neg h] at e; cases e
    · rename_i xs ys
      simp only [dAdd] at e
      by_cases h : xs.length + ys.length ≤ sizeLine
      · rw [if_pos h] at e
        by_cases hd : (dupL xs && dupL ys) = true
        · rw [if_pos hd] at e; cases e
          rw [Bool.and_eq_true] at hd
          obtain ⟨a, vs, G, e1, h1, s1, q1⟩ := r1.sqL
          obtain ⟨b, ws, G2, e2, h2, s2, q2⟩ := r2.sqL
          subst e1; subst e2
          refine .inl (.inr (.inr ⟨a, b, vs, ws, rfl, rfl, h1, h2, by rw [q1.length, q2.length]; exact h, ?_⟩))
          exact q.newL t (repL_append (q1.dup hd.1) (q2.dup hd.2)) (by rw [dupL_append, hd.1, hd.2]; rfl)
        · rw [if_neg hd] at e; cases e
      · rw [if_neg h] at e; cases e
theorem oSub : OpD X adr T (binaryOp .Sub) (d2 dSub) := opII0 op_sub fun _ _ => .int _
theorem repL_rep {K : PySem.W.Frag} {H : Hp} {ds : List D} {vs : List V} (r : RepL K adr H ds vs []) : ∀ n : Nat, RepL K adr H (List.replicate n ds).flatten (List.replicate n vs).flatten []
  | 0 => by simpa using repL_nil
  | n + 1 => by
    rw [List.replicate_succ, List.replicate_succ, List.flatten_cons, List.flatten_cons]
    exact repL_append r (repL_rep r n)
theorem dupL_rep {ds : List D} (h : dupL ds = true) : ∀ n : Nat, dupL (List.replicate n ds).flatten = true
  | 0 => rfl
  | n + 1 => by rw [List.replicate_succ, List.flatten_cons, dupL_append, h, dupL_rep h n]; rfl
theorem oMul : OpD X adr T (binaryOp .Mult) (d2 dMul) :=
  opD (op_mul.or (op_rep.or op_repT)) fun a b z H x y Fx Fy Q e r1 r2 t q => by
    cases a <;> cases b <;> first | (cases e; done) | skip
    · rename_i i j
      simp only [dMul] at e
      by_cases h : (sm i || sm j) = true
      · rw [if_pos h] at e; cases e
        refine .inl ⟨i, j, r1.1, r2.1, ?_, q.flat t (.int _)⟩
        rw [Bool.or_eq_true] at h
        unfold sm at h
        simp only [Bool.and_eq_true, decide_eq_true_eq] at h
        exact h
      · rw [if_neg h] at e; cases e
    · rename_i xs k
      simp only [dMul] at e
      by_cases h : (decide (xs ≠ []) && decide (2 ≤ k) && decide (k ≤ 1000) && decide (xs.length ≤ 1000) && dupL xs) = true
      · rw [if_pos h] at e; cases e
        simp only [Bool.and_eq_true, decide_eq_true_eq] at h
        obtain ⟨a, vs, G, e1, s1, q1⟩ := r1.sqT
        subst e1
        have hl := q1.length
        refine .inr (.inr ⟨a, k, vs, rfl, r2.1, s1, ?_, h.1.1.1.2, h.1.1.2, by omega, ?_⟩)
        · intro hz
          rw [hz] at hl
          exact h.1.1.1.1 (List.length_eq_zero_iff.mp (by simpa using hl.symm))
        · exact q.newT t (repL_rep (q1.dup h.2) _) (dupL_rep h.2 _)
      · rw [if_neg h] at e; cases e
    · rename_i xs k
      simp only [dMul] at e
      by_cases h : (decide (-(2 ^ 63) ≤ k) && decide (k < 2 ^ 63) && decide (xs.length * k.toNat ≤ sizeLine) && dupL xs) = true
      · rw [if_pos h] at e; cases e
        simp only [Bool.and_eq_true, decide_eq_true_eq] at h
        obtain ⟨a, vs, G, e1, h1, s1, q1⟩ := r1.sqL
        subst e1
        refine .inr (.inl ⟨a, k, vs, rfl, r2.1, h1, h.1.1.1, h.1.1.2, by rw [q1.length]; exact h.1.2, ?_⟩)
        exact q.newL t (repL_rep (q1.dup h.2) _) (dupL_rep h.2 _)
      · rw [if_neg h] at e; cases e
theorem oFdiv : OpD X adr T (binaryOp .FloorDiv) (d2 dFdiv) := opII op_fdivN (fun _ _ => .int _) fun i j h => by simpa [CDivN] using h
theorem oMod : OpD X adr T (binaryOp .Mod) (d2 dMod) := opII op_modN (fun _ _ => .int _) fun i j h => by simpa using h
theorem oPow : OpD X adr T (binaryOp .Pow) (d2 dPow) := opII op_pow (fun _ _ => .int _) fun i j h => by
  simp only [Bool.and_eq_true, decide_eq_true_eq] at h
  exact ⟨h.1.1, h.1.2, h.2⟩
theorem oLt : OpD X adr T (compareOp .Lt) (d2 dLt) := opII0 op_lt fun _ _ => .bl _
theorem oLe : OpD X adr T (compareOp .LtE) (d2 dLe) := opII0 op_le fun _ _ => .bl _
theorem oGt : OpD X adr T (compareOp .Gt) (d2 dGt) := opII0 op_gt fun _ _ => .bl _
theorem oGe : OpD X adr T (compareOp .GtE) (d2 dGe) := opII0 op_ge fun _ _ => .bl _
theorem oNeg : UnD X adr T (unaryOp .USub) (d1 dNeg) := unD un_neg fun a z H x Fx Q e r1 t q => by
  cases a <;> first | (cases e; done) | skip
  cases e; exact ⟨_, r1.1, q.flat t (.int _)⟩
theorem isNone_rep {K : PySem.W.Frag} {H : Hp} {a : D} {x : V} {F : List Addr} (r : Rep K adr H a x F) : isNone a = decide (x = .non) := by
  cases a with
  | non => rw [r.1]; rfl
  | bl _ => rw [r.1]; rfl
  | int _ => rw [r.1]; rfl
  | str _ => rw [r.1]; rfl
  | ty _ => rw [r.1]; rfl
  | ref _ => rw [r.1]; rfl
  | tup _ => obtain ⟨_, _, e, _⟩ := r; rw [e]; rfl
  | lst _ => obtain ⟨_, _, _, e, _⟩ := r; rw [e]; rfl
  | fls _ => obtain ⟨_, _, e, _⟩ := r; rw [e]; rfl
  | dk _ _ => obtain ⟨_, _, _, e, _⟩ := r; rw [e]; rfl
  | dt _ _ => obtain ⟨_, _, _, e, _⟩ := r; rw [e]; rfl
  | ins _ _ => obtain ⟨_, _, _, _, e, _⟩ := r; rw [e]; rfl
  | exn _ _ => rw [r.1]; rfl
  | clo _ => obtain ⟨_, _, _, _, e, _⟩ := r; rw [e]; rfl
theorem oIsN : OpD X adr T (compareOp .Is) (d2 dIsN) := opD op_isN fun a b z H x y Fx Fy Q e r1 r2 t q => by
  cases b <;> first | (cases e; done) | skip
  simp only [dIsN] at e
  cases e
  refine ⟨r2.1, ?_⟩
  rw [isNone_rep r1] at q
  exact q.flat t (.bl _)
theorem oNotN : OpD X adr T (compareOp .IsNot) (d2 dNotN) := opD op_notN fun a b z H x y Fx Fy Q e r1 r2 t q => by
  cases b <;> first | (cases e; done) | skip
  simp only [dNotN] at e
  cases e
  refine ⟨r2.1, ?_⟩
  rw [isNone_rep r1] at q
  exact q.flat t (.bl _)
theorem atI_rep {K : PySem.W.Frag} {H : Hp} {ds : List D} {vs : List V} {G : List Addr} {i : Int} {d : D} (r : RepL K adr H ds vs G) (e : atI ds i = some d) (hd : dup d = true) : ∃ v, atI vs i = some v ∧ Rep K adr H d v [] := by
  unfold atI at e ⊢
  rw [r.length]
  cases h : ixN ds.length i with
  | none => rw [h] at e; cases e
  | some j =>
    rw [h] at e
    exact Rep.dup_at r e hd
theorem oIx : IxD X adr T (d2 dIx) := ixD ix_seq fun a b z H x y Fx Fy Q e r1 r2 t q => by
  cases b <;> first | (cases a <;> cases e; done) | skip
  rename_i i
  have seq : ∀ ds, itms a = some ds → ((atI ds i).bind fun x => if dup x then some x else none) = some z → rIx X.K x y H Q := fun ds hi e => by
    cases hx : atI ds i with
    | none => rw [hx] at e; cases e
    | some d =>
      rw [hx] at e
      replace e : (if dup d = true then some d else none) = some z := e
      by_cases hd : dup d = true
      · rw [if_pos hd] at e; cases e
        obtain ⟨p, vs, G, e1, sq, rl⟩ := r1.itms hi
        obtain ⟨w, hw, rw'⟩ := atI_rep rl hx hd
        rcases sq with sq | sq
        · exact .inl ⟨p, vs, i, w, e1, r2.1, sq, hw, q.same t rw' hd⟩
        · exact .inr (.inl ⟨p, vs, i, w, e1, r2.1, sq, hw, q.same t rw' hd⟩)
      · rw [if_neg hd] at e; cases e
  cases a with
  | str s =>
    simp only [dIx] at e
    by_cases h : s.length ≤ sizeLine
    · rw [if_pos h] at e
      cases hc : atI s.cps.toList i with
      | none => rw [hc] at e; cases e
      | some c => rw [hc] at e; cases e; exact .inr (.inr ⟨s, i, c, r1.1, r2.1, h, hc, q.flat t (.str _)⟩)
    · rw [if_neg h] at e; cases e
  | tup ds => exact seq ds rfl e
  | lst ds => exact seq ds rfl e
  | fls ds => exact seq ds rfl e
  | _ => cases e
theorem kLen : CallD X adr T (.builtin "len") (d1 dLen) := call1D call_len fun a z H x Fx Q e r1 t q => by
  have seq : ∀ ds, itms a = some ds → some (D.int ds.length) = some z → ∃ y n, [x] = [y] ∧ LenV X.K y H n ∧ Q (.int n) H := fun ds hi e => by
    cases e
    obtain ⟨p, vs, G, e1, sq, rl⟩ := r1.itms hi
    subst e1
    refine ⟨_, vs.length, rfl, ?_, by rw [rl.length]; exact q.flat t (.int _)⟩
    rcases sq with sq | sq
    · exact .inl ⟨vs, sq, rfl⟩
    · exact .inr ⟨vs, sq, rfl⟩
  cases a with
  | str s =>
    simp only [dLen] at e
    by_cases h : s.length ≤ sizeLine
    · rw [if_pos h] at e; cases e
      exact ⟨x, s.length, rfl, by rw [r1.1]; exact ⟨h, rfl⟩, q.flat t (.int _)⟩
    · rw [if_neg h] at e; cases e
  | tup ds => exact seq ds rfl e
  | lst ds => exact seq ds rfl e
  | fls ds => exact seq ds rfl e
  | _ => cases e
theorem kAbs : CallD X adr T (.builtin "abs") (d1 dAbs) := call1D call_abs fun a z H x Fx Q e r1 t q => by
  cases a <;> first | (cases e; done) | skip
  cases e; exact ⟨_, by rw [r1.1], q.flat t (.int _)⟩
theorem kMax2 (hc : X.calm = true) : CallD X adr T (.builtin "max") (d2 dMax2) := call2D (call_max2 hc) fun a b z H x y Fx Fy Q e r1 r2 t q => by
  cases a <;> cases b <;> first | (cases e; done) | skip
  simp only [dMax2, dII, if_true] at e
  cases e; exact ⟨_, _, by rw [r1.1, r2.1], q.flat t (.int _)⟩
theorem kMin2 (hc : X.calm = true) : CallD X adr T (.builtin "min") (d2 dMin2) := call2D (call_min2 hc) fun a b z H x y Fx Fy Q e r1 r2 t q => by
  cases a <;> cases b <;> first | (cases e; done) | skip
  simp only [dMin2, dII, if_true] at e
  cases e; exact ⟨_, _, by rw [r1.1, r2.1], q.flat t (.int _)⟩
theorem kMax (hc : X.calm = true) : CallD X adr T (.builtin "max") (d1 dMax) := call1D (cr_max hc) fun a z H x Fx Q e r1 t q => by
  unfold dMax at e
  cases hl : litms a with
  | none => rw [hl] at e; cases e
  | some ds =>
    rw [hl] at e
    cases hn : dInts ds with
    | none => simp [hn] at e
    | some ns =>
      simp only [Option.bind_some, hn] at e
      obtain ⟨p, vs, G, e1, sq, rl⟩ := r1.litms hl
      rw [repL_ints rl hn] at sq
      cases ns with
      | nil => simp [maxI] at e
      | cons i is =>
        simp only [maxI, Option.map_some] at e
        cases e
        obtain ⟨m1, m2⟩ := foldl_max is i
        refine ⟨p, i :: is, by rw [e1], sq, by simp, fun m hm hy => ?_⟩
        have : m = is.foldl max i := Int.le_antisymm (m2 m hm) (hy _ m1)
        rw [this]
        exact q.flat t (.int _)
theorem kMin (hc : X.calm = true) : CallD X adr T (.builtin "min") (d1 dMin) := call1D (cr_min hc) fun a z H x Fx Q e r1 t q => by
  unfold dMin at e
  cases hl : litms a with
  | none => rw [hl] at e; cases e
  | some ds =>
    rw [hl] at e
    cases hn : dInts ds with
    | none => simp [hn] at e
    | some ns =>
      simp only [Option.bind_some, hn] at e
      obtain ⟨p, vs, G, e1, sq, rl⟩ := r1.litms hl
      rw [repL_ints rl hn] at sq
      cases ns with
      | nil => simp [minI] at e
      | cons i is =>
        simp only [minI, Option.map_some] at e
        cases e
        obtain ⟨m1, m2⟩ := foldl_min is i
        refine ⟨p, i :: is, by rw [e1], sq, by simp, fun m hm hy => ?_⟩
        have : m = is.foldl min i := Int.le_antisymm (hy _ m1) (m2 m hm)
        rw [this]
        exact q.flat t (.int _)
theorem kSum (hc : X.calm = true) : CallD X adr T (.builtin "sum") (d1 dSum) := call1D (cr_sum hc) fun a z H x Fx Q e r1 t q => by
  unfold dSum at e
  cases hl : litms a with
  | none => rw [hl] at e; cases e
  | some ds =>
    rw [hl] at e
    cases hn : dInts ds with
    | none => simp [hn] at e
    | some ns =>
      simp only [Option.bind_some, hn, Option.map_some] at e
      cases e
      obtain ⟨p, vs, G, e1, sq, rl⟩ := r1.litms hl
      rw [repL_ints rl hn] at sq
      exact ⟨p, ns, by rw [e1], sq, q.flat t (.int _)⟩
theorem kInt : CallD X adr T (.type "int") (d1 dInt) := call1D call_int1 fun a z H x Fx Q e r1 t q => by
  cases a <;> first | (cases e; done) | skip
  · cases e
    refine .inr ⟨_, by rw [r1.1], ?_⟩
    exact q.flat t (.int _)
  · cases e
    exact .inl ⟨_, by rw [r1.1], q.flat t (.int _)⟩
theorem kList : CallD X adr T (.type "list") (d1 dList) := call1D call_list_of fun a z H x Fx Q e r1 t q => by
  unfold dList at e
  cases hl : itms a with
  | none => rw [hl] at e; cases e
  | some ds =>
    rw [hl] at e
    replace e : (if dupL ds = true then some (D.lst ds) else none) = some z := e
    by_cases hd : dupL ds = true
    · rw [if_pos hd] at e; cases e
      obtain ⟨p, vs, G, e1, sq, rl⟩ := r1.itms hl
      exact ⟨p, vs, by rw [e1], sq, q.newL t rl hd⟩
    · rw [if_neg hd] at e; cases e
theorem kTuple : CallD X adr T (.type "tuple") (d1 dTuple) := call1D call_tuple_of fun a z H x Fx Q e r1 t q => by
  unfold dTuple at e
  cases hl : itms a with
  | none => rw [hl] at e; cases e
  | some ds =>
    rw [hl] at e
    replace e : (if dupL ds = true then some (D.tup ds) else none) = some z := e
    by_cases hd : dupL ds = true
    · rw [if_pos hd] at e; cases e
      have lst : litms a = some ds → ∃ p ys, [x] = [V.ref p] ∧ ((SqL X.K H p ys ∧ ∀ l, H l = none → Q (.ref l) (upd H l (.tup ys))) ∨ (SqT X.K H p ys ∧ Q (.ref p) H)) := fun hk => by
        obtain ⟨p, vs, G, e1, sq, rl⟩ := r1.litms hk
        exact ⟨p, vs, by rw [e1], .inl ⟨sq, q.newT t rl hd⟩⟩
      cases a <;> cases hl
      · have r1' := r1
        obtain ⟨p, vs, e1, sq, rl⟩ := r1'
        subst e1
        exact ⟨p, vs, rfl, .inr ⟨sq, q.same t r1 hd⟩⟩
      · exact lst rfl
      · exact lst rfl
    · rw [if_neg hd] at e; cases e
theorem kDivmod : CallD X adr T (.builtin "divmod") (d2 dDivmod) := call2D call_divmod fun a b z H x y Fx Fy Q e r1 r2 t q => by
  cases a <;> cases b <;> first | (cases e; done) | skip
  rename_i i j
  simp only [dDivmod, dII] at e
  by_cases h : (decide (0 < j) && decide (j < 1073741824)) = true
  · rw [if_pos h] at e; cases e
    simp only [Bool.and_eq_true, decide_eq_true_eq] at h
    refine ⟨i, j, by rw [r1.1, r2.1], h, ?_⟩
    exact q.newT t (F := []) (vs := [.int (i / j), .int (i % j)]) (repL_cons (F1 := []) (F2 := []) ⟨rfl, rfl⟩ (repL_cons (F1 := []) (F2 := []) ⟨rfl, rfl⟩ repL_nil)) rfl
  · rw [if_neg h] at e; cases e
end
end DL
set_option Elab.async false
set_option linter.all false
set_option maxRecDepth 100000
set_option maxHeartbeats 4000000
namespace DL
open PySem L2
open LamX (Tabs)

/-! ### == -/
mutual
def pd : D → Option PyData
  | .non => some .none
  | .bl b => some (.bool b)
  | .int i => some (.int i)
  | .str x => some (.str x)
  | .tup ds => (pdL ds).map .tuple
  | .lst ds => (pdL ds).map .list
  | .fls ds => (pdL ds).map .list
  | _ => none
def pdL : List D → Option (List PyData)
  | [] => some []
  | d :: ds => match pd d, pdL ds with
    | some x, some xs => some (x :: xs)
    | _, _ => none
end
section
variable {K : PySem.W.Frag} {adr : Adr} {H : Hp}
mutual
theorem pd_dp : ∀ (d : D) (v : V) (F : List Addr) (e : PyData), Rep K adr H d v F → pd d = some e → Dp K H v e
  | .non, v, F, e, r, h => by cases h; rw [r.1]; exact .non
  | .bl _, v, F, e, r, h => by cases h; rw [r.1]; exact .bl _
  | .int _, v, F, e, r, h => by cases h; rw [r.1]; exact .int _
  | .str _, v, F, e, r, h => by cases h; rw [r.1]; exact .str _
  | .tup ds, v, F, e, ⟨a, vs, ev, sq, rl⟩, h => by
    have h' : (pdL ds).map PyData.tuple = some e := h
    cases hl : pdL ds with
    | none => rw [hl] at h'; cases h'
    | some es =>
      rw [hl] at h'; cases h'
      rw [ev]; exact .tup sq (pdL_dp ds vs _ es rl hl)
  | .lst ds, v, F, e, ⟨a, vs, G, ev, ho, rl, _⟩, h => by
    have h' : (pdL ds).map PyData.list = some e := h
    cases hl : pdL ds with
    | none => rw [hl] at h'; cases h'
    | some es =>
      rw [hl] at h'; cases h'
      rw [ev]; exact .lst (.inl (.inl ho)) (pdL_dp ds vs _ es rl hl)
  | .fls ds, v, F, e, ⟨a, vs, ev, sq, rl⟩, h => by
    have h' : (pdL ds).map PyData.list = some e := h
    cases hl : pdL ds with
    | none => rw [hl] at h'; cases h'
    | some es =>
      rw [hl] at h'; cases h'
      rw [ev]; exact .lst sq.sq (pdL_dp ds vs _ es rl hl)
  | .ty _, _, _, _, _, h => by cases h
  | .ref _, _, _, _, _, h => by cases h
  | .dk _ _, _, _, _, _, h => by cases h
  | .dt _ _, _, _, _, _, h => by cases h
  | .ins _ _, _, _, _, _, h => by cases h
theorem pdL_dp : ∀ (ds : List D) (vs : List V) (F : List Addr) (es : List PyData), RepL K adr H ds vs F → pdL ds = some es → DpAll K H vs es
  | [], vs, F, es, r, h => by cases h; rw [r.1]; exact .nil
  | d :: ds, vs, F, es, ⟨v, ws, F1, F2, e1, r1, r2, e2⟩, h => by
    have h' : (match pd d, pdL ds with | some x, some xs => some (x :: xs) | _, _ => none) = some es := h
    cases hx : pd d with
    | none => rw [hx] at h'; cases h'
    | some x =>
      cases hl : pdL ds with
      | none => rw [hx, hl] at h'; cases h'
      | some xs =>
        rw [hx, hl] at h'; cases h'
        rw [e1]; exact .cons (pd_dp d v F1 x r1 hx) (pdL_dp ds ws F2 xs r2 hl)
end
end
def eqD (a b : D) : Option Bool := match pd a, pd b with
  | some x, some y => if SeqAt.shaped x && SeqAt.shaped y then some (PyData.eqv x y) else none
  | _, _ => none
def dEq (a b : D) : Option D := (eqD a b).map .bl
def dNe (a b : D) : Option D := (eqD a b).map fun k => .bl (!k)
theorem eqD_some {a b : D} {k : Bool} (h : eqD a b = some k) : ∃ x y, pd a = some x ∧ pd b = some y ∧ SeqAt.shaped x = true ∧ SeqAt.shaped y = true ∧ PyData.eqv x y = k := by
  unfold eqD at h
  split at h
  · rename_i x y h1 h2
    by_cases hs : (SeqAt.shaped x && SeqAt.shaped y) = true
    · rw [if_pos hs] at h
      rw [Bool.and_eq_true] at hs
      exact ⟨x, y, h1, h2, hs.1, hs.2, Option.some.inj h⟩
    · rw [if_neg hs] at h; cases h
  · cases h
/-- flat values -/
def flD : D → Bool
  | .non => true
  | .bl _ => true
  | .int _ => true
  | .str _ => true
  | _ => false
def fV : D → V
  | .bl b => .bl b
  | .int i => .int i
  | .str s => .str s
  | _ => .non
def inF (a b : D) : Option Bool := (itms b).bind fun ds => if flD a && ds.all flD then some (inV (fV a) (ds.map fV)) else none
def dIn (a b : D) : Option D := (inF a b).map .bl
def dNotIn (a b : D) : Option D := (inF a b).map fun k => .bl (!k)
section
variable {X : Cx} {adr : Adr} {T : List (Addr × Str)}
theorem oEq (hu : X.A.units + 64 < cLine) : OpD X adr T (compareOp .Eq) (d2 dEq) := opD (op_eqD hu) fun a b z H x y Fx Fy Q e r1 r2 t q => by
  unfold dEq at e
  cases h : eqD a b with
  | none => rw [h] at e; cases e
  | some k =>
    rw [h] at e; cases e
    obtain ⟨d1, d2, e1, e2, s1, s2, e3⟩ := eqD_some h
    exact ⟨d1, d2, pd_dp _ _ _ _ r1 e1, pd_dp _ _ _ _ r2 e2, s1, s2, by rw [e3]; exact q.flat t (.bl _)⟩
theorem oNe (hu : X.A.units + 64 < cLine) : OpD X adr T (compareOp .NotEq) (d2 dNe) := opD (op_neD hu) fun a b z H x y Fx Fy Q e r1 r2 t q => by
  unfold dNe at e
  cases h : eqD a b with
  | none => rw [h] at e; cases e
  | some k =>
    rw [h] at e; cases e
    obtain ⟨d1, d2, e1, e2, s1, s2, e3⟩ := eqD_some h
    exact ⟨d1, d2, pd_dp _ _ _ _ r1 e1, pd_dp _ _ _ _ r2 e2, s1, s2, by rw [e3]; exact q.flat t (.bl _)⟩
theorem flD_rep {K : PySem.W.Frag} {H : Hp} {a : D} {x : V} {F : List Addr} (r : Rep K adr H a x F) (h : flD a = true) : x = fV a ∧ flatV x = true := by
  cases a <;> first | (cases h; done) | (rw [r.1]; exact ⟨rfl, rfl⟩)
theorem flL_rep {K : PySem.W.Frag} {H : Hp} : ∀ {ds : List D} {vs : List V} {F : List Addr}, RepL K adr H ds vs F → ds.all flD = true → vs = ds.map fV ∧ vs.all flatV = true
  | [], vs, F, r, h => by rw [r.1]; exact ⟨rfl, rfl⟩
  | d :: ds, vs, F, ⟨v, ws, F1, F2, e1, r1, r2, e2⟩, h => by
    rw [List.all_cons, Bool.and_eq_true] at h
    obtain ⟨a, b⟩ := flD_rep r1 h.1
    obtain ⟨a', b'⟩ := flL_rep r2 h.2
    rw [e1]
    exact ⟨by rw [List.map_cons, a, a'], by rw [List.all_cons, b, b']; rfl⟩
theorem inF_some {K : PySem.W.Frag} {H : Hp} {a b : D} {x y : V} {Fx Fy : List Addr} {k : Bool} (h : inF a b = some k) (r1 : Rep K adr H a x Fx) (r2 : Rep K adr H b y Fy) : ∃ p xs, y = .ref p ∧ (SqL K H p xs ∨ SqT K H p xs) ∧ flatV x = true ∧ xs.all flatV = true ∧ inV x xs = k := by
  unfold inF at h
  cases hi : itms b with
  | none => rw [hi] at h; cases h
  | some ds =>
    rw [hi] at h
    replace h : (if (flD a && ds.all flD) = true then some (inV (fV a) (ds.map fV)) else none) = some k := h
    by_cases hf : (flD a && ds.all flD) = true
    · rw [if_pos hf] at h
      rw [Bool.and_eq_true] at hf
      obtain ⟨p, vs, G, e1, sq, rl⟩ := r2.itms hi
      obtain ⟨a1, b1⟩ := flD_rep r1 hf.1
      obtain ⟨a2, b2⟩ := flL_rep rl hf.2
      exact ⟨p, vs, e1, sq, b1, b2, by rw [a1, a2]; exact Option.some.inj h⟩
    · rw [if_neg hf] at h; cases h
theorem oIn : OpD X adr T (compareOp .In) (d2 dIn) := opD op_in_seq fun a b z H x y Fx Fy Q e r1 r2 t q => by
  unfold dIn at e
  cases h : inF a b with
  | none => rw [h] at e; cases e
  | some k =>
    rw [h] at e; cases e
    obtain ⟨p, xs, e1, sq, f1, f2, e3⟩ := inF_some h r1 r2
    exact ⟨p, xs, e1, sq, f1, f2, by rw [if_neg (by simp), e3]; exact q.flat t (.bl _)⟩
theorem oNotIn : OpD X adr T (compareOp .NotIn) (d2 dNotIn) := opD op_notIn_seq fun a b z H x y Fx Fy Q e r1 r2 t q => by
  unfold dNotIn at e
  cases h : inF a b with
  | none => rw [h] at e; cases e
  | some k =>
    rw [h] at e; cases e
    obtain ⟨p, xs, e1, sq, f1, f2, e3⟩ := inF_some h r1 r2
    exact ⟨p, xs, e1, sq, f1, f2, by rw [if_pos rfl, e3]; exact q.flat t (.bl _)⟩
end

/-! ### isinstance of built-in classes -/
def tyD : D → Option String
  | .non => some "NoneType"
  | .bl _ => some "bool"
  | .int _ => some "int"
  | .str _ => some "str"
  | .tup _ => some "tuple"
  | .lst _ => some "list"
  | .fls _ => some "list"
  | .dk _ _ => some "dict"
  | .dt _ _ => some "dict"
  | _ => none
def subTy (t n : String) : Bool := t == n || (t == "bool" && n == "int")
def bTys : List String := ["NoneType", "bool", "int", "str", "tuple", "list", "dict"]
def bNms : List String := ["bool", "int", "str", "tuple", "list", "dict"]
def dIsi : D → D → Option D
  | a, .ty n => match tyD a with
    | some t => if bNms.contains n then some (.bl (subTy t n)) else none
    | none => none
  | _, _ => none
theorem tyD_mem {a : D} {t : String} (h : tyD a = some t) : t ∈ bTys := by
  cases a <;> cases h <;> decide
theorem kitB_all : ∀ t ∈ bTys, ∀ n ∈ bNms, kitB t n = some (subTy t n) := by decide +kernel
section
variable {X : Cx} {adr : Adr} {T : List (Addr × Str)}
theorem tyX {K : PySem.W.Frag} {H : Hp} {a : D} {x : V} {F : List Addr} {t : String} (r : Rep K adr H a x F) (h : tyD a = some t) : TyX K H x (.type t) := by
  cases a <;> cases h
  · rw [r.1]; exact .base .non
  · rw [r.1]; exact .base (.bl _)
  · rw [r.1]; exact .base (.int _)
  · rw [r.1]; exact .base (.str _)
  · obtain ⟨p, vs, e, sq, _⟩ := r
    rw [e]
    rcases sq with (z | ⟨o, z⟩) | ⟨o, _, _, hk, hc, _⟩
    · exact .base (.tup z)
    · exact .fTuple z
    · exact .kTuple hk hc
  · obtain ⟨p, vs, G, e, ho, _⟩ := r
    rw [e]; exact .base (.lst ho)
  · obtain ⟨p, vs, e, sq, _⟩ := r
    rw [e]
    rcases sq with ⟨o, z⟩ | ⟨o, _, _, hk, hc, _⟩
    · exact .base (.frz z)
    · exact .kList hk hc
  · obtain ⟨p, vs, G, e, ho, _⟩ := r
    rw [e]; exact .base (.dK ho)
  · obtain ⟨p, vs, G, e, ho, _⟩ := r
    rw [e]; exact .base (.dT ho)
theorem kIsi : CallD X adr T (.builtin "isinstance") (d2 dIsi) := call2D call_isi fun a b z H x y Fx Fy Q e r1 r2 t q => by
  cases b <;> first | (cases a <;> cases e; done) | skip
  rename_i n
  simp only [dIsi] at e
  cases ht : tyD a with
  | none => rw [ht] at e; cases e
  | some ty =>
    rw [ht] at e
    replace e : (if bNms.contains n = true then some (D.bl (subTy ty n)) else none) = some z := e
    by_cases hn : bNms.contains n = true
    · rw [if_pos hn] at e; cases e
      exact ⟨x, y, _, _, _, rfl, by rw [r2.1]; exact .ty n, tyX r1 ht, kit_ty (kitB_all ty (tyD_mem ht) n (by simpa using hn)), q.flat t (.bl _)⟩
    · rw [if_neg hn] at e; cases e
end

/-! ### a op1 b op2 c -/
def eCh (h1 h2 : List D → Option D) (f g k : EM) : EM := e2 f g fun x y ρ => match h1 [x, y] with
  | some (.bl true) => (k ρ).bind fun z ρ => opt (h2 [y, z]) ρ
  | some (.bl false) => .ok (.bl false) ρ
  | _ => .fail
section
variable {X : Cx} {adr : Adr} {T : List (Addr × Str)} {W : WX} {pos : Pos} {a b c : Expr} {f g k : EM} {h1 h2 : List D → Option D}
theorem tCh {σ : L2.St} {H : Hp} {Q : VK} (q : tD X.K adr T W (eCh h1 h2 f g k) σ H Q) : tChain (fun x y H Q => rR X.K adr T h1 [x, y] H Q) (fun x y H Q => rR X.K adr T h2 [x, y] H Q) (tD X.K adr T W f) (tD X.K adr T W g) (tD X.K adr T W k) σ H Q :=
  t2 q fun dx dy ρ2 F Fx Fy x y H2 S rx ry n q => by
    cases e : h1 [dx, dy] with
    | none => rw [e] at q; exact q.elim
    | some z =>
      rw [e] at q
      cases z <;> first | exact q.elim | skip
      rename_i bb
      refine ⟨[dx, dy], _, .bl bb, repL_cons rx (repL_cons ry repL_nil), e, S.tab, fun v H3 Fz r3 n3 ex fr t => ?_⟩
      refine ⟨bb, r3.1, ?_⟩
      cases bb with
      | false =>
        rw [if_neg (by simp)]
        refine hold_read q S (fun b hb => List.mem_append_left _ hb) _ _ [] ⟨rfl, rfl⟩ List.nodup_nil ex (fun _ z => nomatch z) t
      | true =>
        rw [if_pos rfl]
        have S3 : Sim X.K adr T ρ2 σ H3 F := ⟨S.rep.ext ex (fun _ _ z => nomatch z), S.nd, t⟩
        have q3 : Hold X.K adr T W ((k ρ2).bind fun z ρ => opt (h2 [dy, z]) ρ) (F ++ (Fx ++ Fy)) H3 σ Q := Hold.weak ⟨ex.mono (fun _ z => nomatch z), (fun b hb => .inl hb), t⟩ q
        refine tn (G := Fx ++ Fy) S3 n (fun b hb => ?_) q3 fun dz ρ3 F3 Fz x3 H4 S4 r4 n4 e4 q4 => ?_
        · rcases List.mem_append.mp hb with z | z
          · exact ne_none_of ((rx.ext ex (fun _ _ z => nomatch z)).mem b z)
          · exact ne_none_of ((ry.ext ex (fun _ _ z => nomatch z)).mem b z)
        · cases e2 : h2 [dy, dz] with
          | none => rw [e2] at q4; exact q4.elim
          | some z =>
            rw [e2] at q4
            have ry4 : Rep X.K adr H4 dy y Fy := (ry.ext ex (fun _ _ z => nomatch z)).ext e4 fun b hb hF => (List.nodup_append.mp n).2.2 b hF b (List.mem_append_right _ hb) rfl
            exact ⟨[dy, dz], _, z, repL_cons ry4 (repL_cons r4 repL_nil), e2, S4.tab, hold_read q4 S4 fun b hb => List.mem_append_left _ hb⟩
theorem pd_chain {op op' : CmpOp} (ho : OpD X adr T (compareOp op) h1) (ho' : OpD X adr T (compareOp op') h2) (ha : PE X a (tD X.K adr T W f)) (hb : PE X b (tD X.K adr T W g)) (hc : PE X c (tD X.K adr T W k))
    (hm : lastMarks [op, op'] [b, c] = false := by with_unfolding_all rfl) : PE X (.Compare a [op, op'] [b, c] pos) (tD X.K adr T W (eCh h1 h2 f g k)) := PE.imp (pe_chain ho ho' ha hb hc hm) fun σ H Q q => tCh q
theorem ptd_chain {op op' : CmpOp} (ho : OpD X adr T (compareOp op) h1) (ho' : OpD X adr T (compareOp op') h2) (ha : PE X a (tD X.K adr T W f)) (hb : PE X b (tD X.K adr T W g)) (hc : PE X c (tD X.K adr T W k))
    (hm : lastMarks [op, op'] [b, c] = false := by with_unfolding_all rfl) : PT X (.Compare a [op, op'] [b, c] pos) (tDT X adr T W (eCh h1 h2 f g k)) := PT.imp (pt_chain ho ho' ha hb hc hm) fun σ H Q q => tCh q
end

/-! ### slices -/
def toI (x : D) (ρ : Env) : Res D := match x with
  | .int i => .ok (.int i) ρ
  | _ => .fail
def prt : Option EM → EM
  | none => eC .non
  | some f => fun ρ => (f ρ).bind toI
def toB : D → Option (Option Int)
  | .non => some none
  | .int i => some (some i)
  | _ => none
def cutD (ds : List D) (lo hi : Option Int) : List D := (ds.drop (HT.sIx ds.length 0 lo)).take (HT.sIx ds.length ds.length hi - HT.sIx ds.length 0 lo)
def slD (x : D) (lo hi : Option Int) : Option D := match x with
  | .tup ds => if dupL ds then some (.tup (cutD ds lo hi)) else none
  | .lst ds => if dupL ds then some (.lst (cutD ds lo hi)) else none
  | .fls ds => if dupL ds then some (.lst (cutD ds lo hi)) else none
  | .str z => if z.length ≤ sizeLine then some (.str (Txt.slice z lo hi)) else none
  | _ => none
def slA (x l u : D) : Option D := match toB l, toB u with
  | some lo, some hi => slD x lo hi
  | _, _ => none
def eSl (f : EM) (l u : Option EM) : EM := fun ρ => (f ρ).bind fun x ρ => (prt l ρ).bind fun y ρ => (prt u ρ).bind fun z ρ => opt (slA x y z) ρ
def tPO (K : PySem.W.Frag) (adr : Adr) (T : List (Addr × Str)) (W : WX) : Option EM → TO
  | none => tNoPart
  | some f => tPart (tD K adr T W f)
section
variable {K : PySem.W.Frag} {adr : Adr} {T : List (Addr × Str)} {F G : List Addr} {H : Hp} {σ : L2.St} {W : WX} {ρ : Env}
theorem bind_bind {r : Res D} {f g : D → Env → Res D} : (r.bind f).bind g = r.bind fun x ρ => (f x ρ).bind g := by cases r <;> rfl
theorem tnP {l : Option EM} {k : D → Env → Res D} {Q : VK} {R : Option Int → Hp → Prop} (S : Sim K adr T ρ σ H F) (n : (F ++ G).Nodup) (hG : ∀ b ∈ G, H b ≠ none) (h : Hold K adr T W ((prt l ρ).bind k) (F ++ G) H σ Q)
    (hk : ∀ dx o ρ1 F1 H1, toB dx = some o → Sim K adr T ρ1 σ H1 F1 → (F1 ++ G).Nodup → Ext F H H1 → Hold K adr T W (k dx ρ1) (F1 ++ G) H1 σ Q → R o H1) : tPO K adr T W l σ H R := by
  cases l with
  | none => exact hk .non none ρ F H rfl S n (Ext.refl _ _) h
  | some f =>
    have h' : Hold K adr T W ((f ρ).bind fun x ρ => (toI x ρ).bind k) (F ++ G) H σ Q := by rw [← bind_bind]; exact h
    refine tn S n hG h' fun dx ρ1 F1 Fx x H1 S1 rx n1 e1 q1 => ?_
    cases dx <;> first | exact q1.elim | skip
    rename_i i
    have ef : Fx = [] := rx.2
    rw [ef, List.append_nil] at n1 q1
    exact ⟨i, rx.1, hk (.int i) (some i) ρ1 F1 H1 rfl S1 n1 e1 q1⟩
end
section
variable {X : Cx} {adr : Adr} {T : List (Addr × Str)} {W : WX} {pos p2 : Pos} {e : Expr} {lo hi : Option Expr} {f : EM} {l u : Option EM}
theorem po_d0 : PO X none (tPO X.K adr T W none) := po_none
theorem po_d {b : Expr} {g : EM} (hb : PE X b (tD X.K adr T W g)) : PO X (some b) (tPO X.K adr T W (some g)) := po_some hb
theorem len_take_drop {ds : List D} {vs : List V} (h : ds.length = vs.length) : True := True.intro
theorem repL_drop {K : PySem.W.Frag} {H : Hp} : ∀ (n : Nat) {ds : List D} {vs : List V}, RepL K adr H ds vs [] → RepL K adr H (ds.drop n) (vs.drop n) []
  | 0, _, _, h => h
  | n + 1, [], vs, h => by rw [h.1]; exact ⟨rfl, rfl⟩
  | n + 1, d :: ds, vs, ⟨v, ws, F1, F2, e1, r1, r2, e2⟩ => by
    rw [e1]
    have : F2 = [] := (List.append_eq_nil_iff.mp e2.symm).2
    rw [this] at r2
    exact repL_drop n r2
theorem repL_take {K : PySem.W.Frag} {H : Hp} : ∀ (n : Nat) {ds : List D} {vs : List V}, RepL K adr H ds vs [] → RepL K adr H (ds.take n) (vs.take n) []
  | 0, _, _, h => ⟨rfl, rfl⟩
  | n + 1, [], vs, h => by rw [h.1]; exact ⟨rfl, rfl⟩
  | n + 1, d :: ds, vs, ⟨v, ws, F1, F2, e1, r1, r2, e2⟩ => by
    rw [e1]
    obtain ⟨h1, h2⟩ := List.append_eq_nil_iff.mp e2.symm
    rw [h2] at r2; rw [h1] at r1
    exact repL_cons r1 (repL_take n r2)
theorem dupL_drop : ∀ (n : Nat) {ds : List D}, dupL ds = true → dupL (ds.drop n) = true
  | 0, _, h => h
  | n + 1, [], h => rfl
  | n + 1, d :: ds, h => by
    have h' : (dup d && dupL ds) = true := h
    rw [Bool.and_eq_true] at h'
    exact dupL_drop n h'.2
theorem dupL_take : ∀ (n : Nat) {ds : List D}, dupL ds = true → dupL (ds.take n) = true
  | 0, _, h => rfl
  | n + 1, [], h => rfl
  | n + 1, d :: ds, h => by
    have h' : (dup d && dupL ds) = true := h
    rw [Bool.and_eq_true] at h'
    show (dup d && dupL (ds.take n)) = true
    rw [h'.1, dupL_take n h'.2]; rfl
theorem cut_whole {ds : List D} {lo hi : Option Int} (h : HT.sIx ds.length 0 lo = 0 ∧ HT.sIx ds.length ds.length hi = ds.length) : cutD ds lo hi = ds := by
  unfold cutD
  rw [h.1, h.2]; simp
theorem slR_D : SlR X (fun x lo hi H Q => ∃ d z F, Rep X.K adr H d x F ∧ slD d lo hi = some z ∧ Tabs T H ∧ Ans X.K adr T H z Q) := by
  have base := ((C8.sl_txt (X := X)).or (sl_list (X := X))).or (sl_tupA (X := X))
  intro pins s σ H x v vl vu lo hi sl Q I rx hs pl pu ⟨d, z, F, r, e, t, q⟩
  refine base pins s σ H x v vl vu lo hi sl Q I rx hs pl pu ?_
  have ll : ∀ ds, litms d = some ds → (if dupL ds = true then some (D.lst (cutD ds lo hi)) else none) = some z → rSlL X.K x lo hi H Q := fun ds hd e => by
    by_cases hk : dupL ds = true
    · rw [if_pos hk] at e; cases e
      obtain ⟨p, vs, G, e1, sq, rl⟩ := r.litms hd
      refine ⟨p, vs, e1, sq, ?_⟩
      have := repL_take (HT.sIx ds.length ds.length hi - HT.sIx ds.length 0 lo) (repL_drop (HT.sIx ds.length 0 lo) (rl.dup hk))
      have hc : cutV vs lo hi = (vs.drop (HT.sIx ds.length 0 lo)).take (HT.sIx ds.length ds.length hi - HT.sIx ds.length 0 lo) := by unfold cutV; rw [rl.length]
      rw [hc]
      exact q.newL t this (dupL_take _ (dupL_drop _ hk))
    · rw [if_neg hk] at e; cases e
  cases d <;> first | (cases e; done) | skip
  · rename_i w
    simp only [slD] at e
    by_cases h : w.length ≤ sizeLine
    · rw [if_pos h] at e; cases e
      exact .inl (.inl ⟨w, r.1, h, q.flat t (.str _)⟩)
    · rw [if_neg h] at e; cases e
  · rename_i ds
    simp only [slD] at e
    by_cases hk : dupL ds = true
    · rw [if_pos hk] at e; cases e
      obtain ⟨p, vs, e1, sq, rl⟩ := r
      refine .inr ⟨p, vs, e1, sq, fun hw => ?_, fun hw => ?_⟩
      · rw [rl.length] at hw
        rw [cut_whole hw] at q
        rw [← e1]
        exact q.same (F := F) t ⟨p, vs, e1, sq, rl⟩ hk
      · have := repL_take (HT.sIx ds.length ds.length hi - HT.sIx ds.length 0 lo) (repL_drop (HT.sIx ds.length 0 lo) (rl.dup hk))
        have hc : cutV vs lo hi = (vs.drop (HT.sIx ds.length 0 lo)).take (HT.sIx ds.length ds.length hi - HT.sIx ds.length 0 lo) := by unfold cutV; rw [rl.length]
        rw [hc]
        exact q.newT t this (dupL_take _ (dupL_drop _ hk))
    · rw [if_neg hk] at e; cases e
  · exact .inl (.inr (ll _ rfl e))
  · exact .inl (.inr (ll _ rfl e))
theorem pd_slice (he : PE X e (tD X.K adr T W f)) (hl : PO X lo (tPO X.K adr T W l)) (hu : PO X hi (tPO X.K adr T W u)) : PE X (.Subscript e (.Slice lo hi none p2) pos) (tD X.K adr T W (eSl f l u)) :=
  PE.imp (pe_slice (slR_D (adr := adr) (T := T)) he hl hu) fun σ H Q q => by
    refine t1 q fun dx ρ1 F Fx x H1 S rx n q => ?_
    refine tnP S n (fun b hb => ne_none_of (rx.mem b hb)) q fun dl lo' ρ2 F2 H2 el S2 n2 e2 q => ?_
    have rx2 : Rep X.K adr H2 dx x Fx := rx.ext e2 fun b hb hF => (List.nodup_append.mp n).2.2 b hF b hb rfl
    refine tnP S2 n2 (fun b hb => ne_none_of (rx2.mem b hb)) q fun du hi' ρ3 F3 H3 eu S3 n3 e3 q => ?_
    have rx3 : Rep X.K adr H3 dx x Fx := rx2.ext e3 fun b hb hF => (List.nodup_append.mp n2).2.2 b hF b hb rfl
    unfold slA at q
    rw [el, eu] at q
    replace q : Hold X.K adr T W (opt (slD dx lo' hi') ρ3) (F3 ++ Fx) H3 σ Q := q
    cases ez : slD dx lo' hi' with
    | none => rw [ez] at q; exact q.elim
    | some z =>
      rw [ez] at q
      exact ⟨dx, z, Fx, rx3, ez, S3.tab, hold_read q S3 fun b hb => List.mem_append_left _ hb⟩
end
end DL
set_option Elab.async false
set_option linter.all false
set_option maxRecDepth 100000
set_option maxHeartbeats 4000000
/-! enumerate of a tuple -/
namespace DM
open PySem PySem.Spec PyProof.Rows L2
open Builtin Builtin.Str
section
set_option maxHeartbeats 1000000 in
theorem meets_enum1 {v : Value} {o : Obj} {H : Heap → Prop} (B : Begins v o H) :
    Meets (Builtin.«enumerate.__new__» ⟨[.type "enumerate", v], []⟩) (fun _ R s => H s.heap ∧
      R (.ok (.ret (.ref (s.heap.push o).objs.size))) { s with heap := (s.heap.push o).push { cls := .type "enumerate", data := .fields #[.none, .bool false, .ref s.heap.objs.size, rawInt 0, .none, .none] } }) :=
  .of_wp fun prog w A R s h => by
    obtain ⟨hp, g, d, tk, os⟩ := s; obtain ⟨h1, h⟩ := h
    have hsub := sub_enumerate
    have q1 : ∀ {A' : Around} {E : Value → Shared → Prop} {Q : Value → Shared → Prop}, Q (.ref hp.objs.size) ⟨hp.push o, g, d, tk, os⟩ → wpAny (model prog w) A' (pyIter v) Q E ⟨hp, g, d, tk, os⟩ :=
      fun q => B.iter prog w _ _ ⟨hp, g, d, tk, os⟩ _ h1 q
    wp_walk using q1
    refine wpAny_stack_any fun st => wpAny_pure ?_
    split
    · rename_i c _ _ _ _ _
      cases (c == Value.type "enumerate")
      · wp_walk using q1
        exact ⟨_, rfl, h⟩
      · wp_walk using q1
        exact ⟨_, rfl, h⟩
    · wp_walk using q1
      exact ⟨_, rfl, h⟩
end
section
variable {prog : Program} {w : World} {A : Around} {E : Value → Shared → Prop} {s : Shared}
theorem draws_end (hh : A.handled = none) (it t : Addr) (items : Array Value) (i : Nat) (hi : items[i]? = none) : Draws prog w A it [it, t] i (fun _ _ => True) (fun j h => j = i ∧ h.IsTupleIter it t i ∧ h.IsTuple t items) where
  live := fun _ _ st => let ⟨o, ho, _⟩ := st.2.1; ⟨o, ho⟩
  frame := fun _ _ _ st hk => ⟨st.1, st.2.1.at fun o e => hk it (by simp) o e, st.2.2.at fun o e => hk t (by simp) o e⟩
  item := fun j s Q E hj st hQ => absurd st.1 (Nat.ne_of_lt hj)
  done := fun s Q E st hE => wpAny_nextOf_tuple_end hh st.2.1 st.2.2 hi hE
theorem call_enum_tup {t : Addr} {items : Array Value} {Q : Value → Shared → Prop} (hT : s.heap.IsTuple t items)
    (h : ∀ h', IsEnum h' (s.heap.objs.size + 1) s.heap.objs.size 0 .none → h'.IsTupleIter s.heap.objs.size t 0 → h'.objs.size = s.heap.objs.size + 2 →
      (∀ b o, s.heap.get? b = some o → h'.get? b = some o) → Q (.ref (s.heap.objs.size + 1)) { s with heap := h' }) :
    wpAny (model prog w) A (call (.type "enumerate") [.ref t]) Q E s := by
  refine callType_new F.called_enumerate (by decide) (F.typeCall_enumerate_1 _) (F.newCall_enumerate_1 _) (fun obj => F.args_object_init_2 obj _) F.entry_enumerate_new
    (meets_enum1 (begins_tuple t items)) ⟨hT, ?_⟩
  have hz : (s.heap.push { cls := .type "tuple_iterator", data := .fields #[.ref t, .int 0 0] }).objs.size = s.heap.objs.size + 1 := Heap.size_push ..
  show _ ∧ _
  rw [hz]
  have he : IsEnum ((s.heap.push { cls := .type "tuple_iterator", data := .fields #[.ref t, .int 0 0] }).push
      { cls := .type "enumerate", data := .fields #[.none, .bool false, .ref s.heap.objs.size, rawInt 0, .none, .none] }) (s.heap.objs.size + 1) s.heap.objs.size 0 .none := by
    have := Heap.get?_push_size (s.heap.push { cls := .type "tuple_iterator", data := .fields #[.ref t, .int 0 0] })
      (o := { cls := .type "enumerate", data := .fields #[.none, .bool false, .ref s.heap.objs.size, rawInt 0, .none, .none] }) rfl
    rw [hz] at this; exact this
  refine ⟨⟨_, he, rfl⟩, h _ he ⟨_, Heap.get?_push_of_some _ (Heap.get?_push_size _ rfl), rfl, rfl⟩ (by rw [Heap.size_push, hz]) fun b o x => Heap.get?_push_of_some _ (Heap.get?_push_of_some _ x)⟩
end
/-- the tuple at a, each item in a new pair -/
def IteT (K : PySem.W.Frag) (a : Addr) : It :=
  ⟨fun i H => ∃ (xs : List V) (x : V), SqT K H a xs ∧ xs[i]? = some x, fun i H v H' => ∃ T x, v = .ref T ∧ H T = none ∧ H' = upd H T (.tup [.int (i : Nat), x]) ∧ ∀ xs, SqT K H a xs → xs[i]? = some x, fun i H => ∃ xs : List V, SqT K H a xs ∧ xs.length ≤ i⟩
theorem turn_enumT {P : Program} {w : World} {K : PySem.W.Frag} {elts : List Expr} {kk : Nat} {tpos : Pos} (a e it : Addr) :
    Turn P w K (.Tuple elts kk tpos) (IteT K a) [e, it] e (fun i h => (∃ old, IsEnum h e it ((i : Nat) : Int) old) ∧ h.IsTupleIter it a i ∧ e ≠ it ∧ a ≠ it ∧ e ≠ a) where
  mem := by simp
  obj := fun i h st b hb => by
    obtain ⟨⟨old, he⟩, ⟨o, ho, hc, hd⟩, _⟩ := st
    have e' : b = e ∨ b = it := by simpa using hb
    rcases e' with z | z
    · rw [z]; exact ⟨_, he, fun v q => nomatch q⟩
    · rw [z]; exact ⟨o, ho, fun v q => by rw [hd] at q; cases q⟩
  keep := fun i h h' st k => let ⟨⟨old, he⟩, hi, hne⟩ := st; ⟨⟨old, k e (by simp) _ he⟩, hi.at fun o q => k it (by simp) o q, hne⟩
  item := by
    intro X hP hw hK hc i pins s σ H E I hf st hg
    subst hP hw hK
    obtain ⟨⟨old, he⟩, hit, hne, hne2, hne3⟩ := st
    obtain ⟨xs, x, hq, hx⟩ := hg
    obtain ⟨its, rv, p, hz⟩ := I.tuple hq
    obtain ⟨u, hu, ru⟩ := rv.get hx
    have hel : e < s.heap.objs.size := Heap.lt_size he
    have hil : it < s.heap.objs.size := by obtain ⟨_, q, _⟩ := hit; exact Heap.lt_size q
    have hlen : i < its.toArray.size := by
      have := (List.getElem?_eq_some_iff.mp hu).1
      simpa using this
    refine wpAny_pyNext_enum_itemD (Draws.tuple (A := X.A.in1) (I.ok.hd hc) it a hne2 its.toArray) he ⟨hit, p⟩ hlen hne (by simp [hne, hne3]) fun x' h' tk hP ho hit' hT hsz hk => ?_
    have ex : x' = u := by
      have hP' : its.toArray[i]? = some x' := hP
      have : its[i]? = some x' := by simpa using hP'
      rw [hu] at this; exact (Option.some.inj this).symm
    subst ex
    refine ⟨_, rfl, wpAny_letOwnedTupleGo_enum (s := { s with heap := h', toks := tk + 1 }) ho fun h'' he' sb => ?_⟩
    have hT2 : h''.get? s.heap.objs.size = some { cls := .type "tuple", data := .seq #[.int i tk, x'] } := (sb.2 _ (Nat.ne_of_gt hel)).trans hT
    have new : ObjOk X.prog X.w (upd H s.heap.objs.size (.tup [.int (i : Nat), x])) h'' s.heap.objs.size (.tup [.int (i : Nat), x]) :=
      ⟨by show 2 ≤ sizeLine; decide, [.int i tk, x'], .cons ⟨_, rfl⟩ (.cons ru .nil), ⟨_, hT2, rfl, _, rfl⟩⟩
    have I1 : Inv X pins σ (upd H s.heap.objs.size (.tup [.int (i : Nat), x])) { s with heap := h'', toks := tk + 1 } :=
      I.turnedNew (ch := [e, it]) (fun b ob hb q => (sb.2 b (fun z => hb (by simp [z]))).trans (hk b ob (fun z => hb (by simp [z])) (fun z => hb (by simp [z])) q)) hf (Nat.le_refl _) new
    refine ⟨.ref s.heap.objs.size, _, I1, rfl, ⟨_, x, rfl, I.hok.fresh (Nat.le_refl _), rfl, fun ys hy => by rw [I.tuple_inj hy hq]; exact hx⟩, ⟨⟨x', ?_⟩, hit'.1.at fun o q => (sb.2 it (Ne.symm hne)).trans q, hne, hne2, hne3⟩, fun b hb => ?_⟩
    · have e1 : ((i + 1 : Nat) : Int) = (i : Int) + 1 := by omega
      rw [e1]; exact he'
    · have hb' : b < s.heap.objs.size := by
        have e' : b = e ∨ b = it := by simpa using hb
        rcases e' with z | z
        · rw [z]; exact hel
        · rw [z]; exact hil
      rw [upd_ne (Nat.ne_of_lt hb')]
      exact (hf b hb).1
  done := by
    intro X hP hw hK hc i pins s σ H E I hf st hg
    subst hP hw hK
    obtain ⟨⟨old, he⟩, hit, hne, hne2, hne3⟩ := st
    obtain ⟨xs, hq, hx⟩ := hg
    obtain ⟨its, rv, p, hz⟩ := I.tuple hq
    obtain ⟨f0, f1, f2, f3, f4, f5⟩ := hf it (by simp)
    have hl := rv.length
    have hn : its.toArray[i]? = none := by simp; omega
    exact wpAny_pyNext_enum_endD (draws_end (A := X.A.in1) (I.ok.hd hc) it a its.toArray i hn) he ⟨rfl, hit, p⟩ fun h' eb => ⟨rfl, I.turned (t' := s.toks) (fun b o hb q => eb b o hb q) f0 f1 f3 f4 f5⟩
  self := fun A i s Q E st h => let ⟨⟨_, he⟩, _⟩ := st; wpAny_pyIter_enum he h
end DM
namespace DM
open PySem PySem.Spec PyProof.Rows L2
def iEnumT (K : PySem.W.Frag) (ta : TA) : TI := fun σ H R => ta σ H fun vs H1 => ∃ a xs, vs = [.ref a] ∧ SqT K H1 a xs ∧ R (IteT K a) H1
theorem pi_enumT {X : Cx} {e : Expr} {ta : TA} {p pos tpos : Pos} {elts : List Expr} {kk : Nat} (hg : Gl X "enumerate") (hm : X.mg "enumerate" = none) (ha : PA X [e] ta) (hs : starEach [e] X.env = [(false, eval e X.env)] := by rfl) :
    PI X (.Tuple elts kk tpos) (.Call (.Name "enumerate" p) [e] [] pos) (iEnumT X.K ta) := by
  refine ⟨fun pins s σ H R I h => ?_⟩
  refine Call_ (ld_blt I hg hm boot_enumerate (PyProof.Rows.callWith_type1 (thn (ha.run pos pins s σ H _ I h) fun us s1 ⟨vs, H1, I1, r1, q1⟩ => ?_) hs rfl))
  obtain ⟨a, xs, ex, hq, q⟩ := q1
  subst ex
  cases r1 with
  | cons r rr =>
    cases rr
    cases r
    obtain ⟨its, rv, p', hz⟩ := I1.tuple hq
    refine call_enum_tup p' fun h' he hit hsz hk => wpAny_pyIter_enum he ?_
    have I2 : Inv X pins σ H1 { s1 with heap := h' } := I1.kept (t' := s1.toks) hk
    have la : a < s1.heap.objs.size := by obtain ⟨o, ho, _⟩ := p'; exact Heap.lt_size ho
    refine ⟨s1.heap.objs.size + 1, [s1.heap.objs.size + 1, s1.heap.objs.size], _, _, H1, rfl, I2, turn_enumT a (s1.heap.objs.size + 1) s1.heap.objs.size, ⟨⟨.none, he⟩, hit, Nat.succ_ne_self _, Nat.ne_of_lt la, Nat.ne_of_gt (Nat.lt_succ_of_lt la)⟩, fun b hb => ?_, q⟩
    have e' : b = s1.heap.objs.size + 1 ∨ b = s1.heap.objs.size := by simpa using hb
    have hle : s1.heap.objs.size ≤ b := by
      rcases e' with z | z
      · rw [z]; exact Nat.le_add_right _ _
      · rw [z]; exact Nat.le_refl _
    exact I1.fpOk hle (I1.hok.fresh hle)
end DM
namespace DL
open PySem L2
open LamX (Tabs)
/-- the items with their numbers -/
def enumF : Nat → List D → List D
  | _, [] => []
  | i, d :: ds => .tup [.int (i : Nat), d] :: enumF (i + 1) ds
def zipF : List D → List D → List D
  | a :: as, b :: bs => .tup [a, b] :: zipF as bs
  | _, _ => []
theorem enumF_get : ∀ {ds : List D} {k i : Nat} {x : D}, (enumF k ds)[i]? = some x → ∃ d, ds[i]? = some d ∧ x = .tup [.int ((k + i : Nat) : Int), d]
  | [], _, _, _, h => by simp [enumF] at h
  | d :: ds, k, 0, x, h => by
    simp [enumF] at h
    exact ⟨d, rfl, by rw [← h]; simp⟩
  | d :: ds, k, i + 1, x, h => by
    simp [enumF] at h
    obtain ⟨d', h1, h2⟩ := enumF_get h
    exact ⟨d', by simpa using h1, by rw [h2, show k + 1 + i = k + (i + 1) by omega]⟩
theorem enumF_len : ∀ {ds : List D} {k : Nat}, (enumF k ds).length = ds.length
  | [], _ => rfl
  | d :: ds, k => by simp [enumF, enumF_len]
theorem zipF_get : ∀ {as bs : List D} {i : Nat} {x : D}, (zipF as bs)[i]? = some x → ∃ a b, as[i]? = some a ∧ bs[i]? = some b ∧ x = .tup [a, b]
  | [], _, _, _, h => by simp [zipF] at h
  | _ :: _, [], _, _, h => by simp [zipF] at h
  | a :: as, b :: bs, 0, x, h => by
    simp [zipF] at h
    exact ⟨a, b, rfl, rfl, h.symm⟩
  | a :: as, b :: bs, i + 1, x, h => by
    simp [zipF] at h
    obtain ⟨a', b', h1, h2, h3⟩ := zipF_get h
    exact ⟨a', b', by simpa using h1, by simpa using h2, h3⟩
theorem zipF_len : ∀ {as bs : List D}, (zipF as bs).length = min as.length bs.length
  | [], _ => by simp [zipF]
  | _ :: _, [] => by simp [zipF]
  | a :: as, b :: bs => by simp [zipF, zipF_len]
section
variable {K : PySem.W.Frag} {adr : Adr} {T : List (Addr × Str)} {H : Hp}
theorem new_pair {H1 : Hp} {q : Addr} {a b : D} {x y : V} (hq : H1 q = none) (r1 : Rep K adr H1 a x []) (r2 : Rep K adr H1 b y []) : Rep K adr (upd H1 q (.tup [x, y])) (.tup [a, b]) (.ref q) [] ∧ Ext [] H1 (upd H1 q (.tup [x, y])) ∧ (Tabs T H1 → Tabs T (upd H1 q (.tup [x, y]))) := by
  have e : Ext [] H1 (upd H1 q (.tup [x, y])) := Ext.new hq
  exact ⟨⟨q, [x, y], rfl, .inl (.inl upd_same), repL_cons (F1 := []) (F2 := []) (r1.ext0 e) (repL_cons (F1 := []) (F2 := []) (r2.ext0 e) repL_nil)⟩, e, fun t => tabs_new t hq⟩
theorem itd_enumL {H0 : Hp} {a : Addr} {vs : List V} {ds : List D} {G : List Addr} (hs : ∀ H1, Kp G H0 H1 → SqL K H1 a vs) (r0 : RepL K adr H0 ds vs []) : ItD K adr T (Ite K a) (enumF 0 ds) H0 G := fun H1 kp i => by
  obtain ⟨F0, e0, _⟩ := id kp
  have r1 : RepL K adr H1 ds vs [] := r0.ext0 e0
  refine ⟨fun x hx => ?_, fun hl => ⟨vs, hs H1 kp, by rw [r0.length]; rw [enumF_len] at hl; exact hl⟩⟩
  obtain ⟨d, hd, ex⟩ := enumF_get hx
  obtain ⟨v, hv, rv⟩ := rep_items r1 hd
  refine ⟨⟨vs, v, hs H1 kp, hv⟩, fun y H2 ⟨q, w, e1, hq, e2, hw⟩ => ?_⟩
  have := hw vs (hs _ kp)
  rw [hv] at this; cases this
  subst e1; subst e2; subst ex
  rw [Nat.zero_add]
  exact new_pair (a := .int (i : Nat)) hq ⟨rfl, rfl⟩ rv
theorem itd_enumT {H0 : Hp} {a : Addr} {vs : List V} {ds : List D} {G : List Addr} (hs : SqT K H0 a vs) (r0 : RepL K adr H0 ds vs []) : ItD K adr T (DM.IteT K a) (enumF 0 ds) H0 G := fun H1 kp i => by
  obtain ⟨F0, e0, _⟩ := id kp
  have r1 : RepL K adr H1 ds vs [] := r0.ext0 e0
  refine ⟨fun x hx => ?_, fun hl => ⟨vs, e0.sqt hs, by rw [r0.length]; rw [enumF_len] at hl; exact hl⟩⟩
  obtain ⟨d, hd, ex⟩ := enumF_get hx
  obtain ⟨v, hv, rv⟩ := rep_items r1 hd
  refine ⟨⟨vs, v, e0.sqt hs, hv⟩, fun y H2 ⟨q, w, e1, hq, e2, hw⟩ => ?_⟩
  have := hw vs (e0.sqt hs)
  rw [hv] at this; cases this
  subst e1; subst e2; subst ex
  rw [Nat.zero_add]
  exact new_pair (a := .int (i : Nat)) hq ⟨rfl, rfl⟩ rv
theorem itd_zipL {H0 : Hp} {a b : Addr} {vs ws : List V} {ds es : List D} {G : List Addr} (hs : ∀ H1, Kp G H0 H1 → SqL K H1 a vs) (hs2 : ∀ H1, Kp G H0 H1 → SqL K H1 b ws) (r0 : RepL K adr H0 ds vs []) (r0' : RepL K adr H0 es ws []) : ItD K adr T (Itz K a b) (zipF ds es) H0 G := fun H1 kp i => by
  obtain ⟨F0, e0, _⟩ := id kp
  have r1 : RepL K adr H1 ds vs [] := r0.ext0 e0
  have r2 : RepL K adr H1 es ws [] := r0'.ext0 e0
  refine ⟨fun x hx => ?_, fun hl => ⟨vs, ws, hs H1 kp, hs2 H1 kp, by rw [r0.length, r0'.length]; rw [zipF_len] at hl; omega⟩⟩
  obtain ⟨d, d', hd, hd', ex⟩ := zipF_get hx
  obtain ⟨v, hv, rv⟩ := rep_items r1 hd
  obtain ⟨v', hv', rv'⟩ := rep_items r2 hd'
  refine ⟨⟨vs, ws, v, v', hs H1 kp, hs2 H1 kp, hv, hv'⟩, fun y H2 ⟨q, w, w', e1, hq, e2, hw, hw'⟩ => ?_⟩
  have := hw vs (hs _ kp)
  rw [hv] at this; cases this
  have := hw' ws (hs2 _ kp)
  rw [hv'] at this; cases this
  subst e1; subst e2; subst ex
  exact new_pair hq rv rv'
theorem itd_zipT {H0 : Hp} {a b : Addr} {vs ws : List V} {ds es : List D} {G : List Addr} (hs : SqT K H0 a vs) (hs2 : SqT K H0 b ws) (r0 : RepL K adr H0 ds vs []) (r0' : RepL K adr H0 es ws []) : ItD K adr T (RZ.ItzT K a b) (zipF ds es) H0 G := fun H1 kp i => by
  obtain ⟨F0, e0, _⟩ := id kp
  have r1 : RepL K adr H1 ds vs [] := r0.ext0 e0
  have r2 : RepL K adr H1 es ws [] := r0'.ext0 e0
  refine ⟨fun x hx => ?_, fun hl => ⟨vs, ws, e0.sqt hs, e0.sqt hs2, by rw [r0.length, r0'.length]; rw [zipF_len] at hl; omega⟩⟩
  obtain ⟨d, d', hd, hd', ex⟩ := zipF_get hx
  obtain ⟨v, hv, rv⟩ := rep_items r1 hd
  obtain ⟨v', hv', rv'⟩ := rep_items r2 hd'
  refine ⟨⟨vs, ws, v, v', e0.sqt hs, e0.sqt hs2, hv, hv'⟩, fun y H2 ⟨q, w, w', e1, hq, e2, hw, hw'⟩ => ?_⟩
  have := hw vs (e0.sqt hs)
  rw [hv] at this; cases this
  have := hw' ws (e0.sqt hs2)
  rw [hv'] at this; cases this
  subst e1; subst e2; subst ex
  exact new_pair hq rv rv'
end
def kEnumL : List D → Option (List D)
  | [d] => (itemsL d).map (enumF 0)
  | _ => none
def kEnumT : List D → Option (List D)
  | [d] => (itemsT d).map (enumF 0)
  | _ => none
def kZip : List D → Option (List D)
  | [d, e] => match itemsL d, itemsL e with
    | some l, some m => some (zipF l m)
    | _, _ => match itemsT d, itemsT e with
      | some l, some m => some (zipF l m)
      | _, _ => none
  | _ => none
section
variable {X : Cx} {adr : Adr} {T : List (Addr × Str)} {io : List Nat} {W : WX} {pos tpos : Pos} {e e2 : Expr} {as : AM} {elts : List Expr} {kk : Nat}
theorem pid_enumL {p : Pos} (hg : Gl X "enumerate") (hm : X.mg "enumerate" = none) (ha : PA X [e] (tDA X.K adr T W as)) (hs : starEach [e] X.env = [(false, eval e X.env)] := by rfl) : PI X (.Tuple elts kk tpos) (.Call (.Name "enumerate" p) [e] [] pos) (tDI X.K adr T W (iA as kEnumL)) :=
  PI.imp (pi_enum hg hm ha hs) fun σ H R h => tI h fun ds F Fx xs H1 l r n t hF ek q => by
    unfold kEnumL at ek
    split at ek
    · rename_i d
      obtain ⟨v, ws, F1, F2, e1, r1, r2, e2⟩ := r
      obtain ⟨rfl, rfl⟩ := r2
      rw [List.append_nil] at e2
      cases hl : itemsL d with
      | none => rw [hl] at ek; cases ek
      | some l' =>
        rw [hl] at ek; cases ek
        obtain ⟨a, vs, ev, hs, rl, hk⟩ := rep_itemsL r1 hl
        subst ev; subst e1
        rw [← e2] at hk
        exact ⟨a, vs, rfl, hs, q _ H1 (Ext.refl _ _) t (itd_enumL hk rl)⟩
    · cases ek
theorem pid_enumT {p : Pos} (hg : Gl X "enumerate") (hm : X.mg "enumerate" = none) (ha : PA X [e] (tDA X.K adr T W as)) (hs : starEach [e] X.env = [(false, eval e X.env)] := by rfl) : PI X (.Tuple elts kk tpos) (.Call (.Name "enumerate" p) [e] [] pos) (tDI X.K adr T W (iA as kEnumT)) :=
  PI.imp (DM.pi_enumT hg hm ha hs) fun σ H R h => tI h fun ds F Fx xs H1 l r n t hF ek q => by
    unfold kEnumT at ek
    split at ek
    · rename_i d
      obtain ⟨v, ws, F1, F2, e1, r1, r2, e2⟩ := r
      obtain ⟨rfl, rfl⟩ := r2
      cases hl : itemsT d with
      | none => rw [hl] at ek; cases ek
      | some l' =>
        rw [hl] at ek; cases ek
        obtain ⟨a, vs, ev, hs, rl⟩ := rep_itemsT r1 hl
        subst ev; subst e1
        exact ⟨a, vs, rfl, hs, q _ H1 (Ext.refl _ _) t (itd_enumT hs rl)⟩
    · cases ek
theorem Kp.sub {G G' : List Addr} {H H1 : Hp} (k : Kp G H H1) (h : ∀ b ∈ G', b ∈ G) : Kp G' H H1 := by
  obtain ⟨F0, e, n⟩ := k
  exact ⟨F0, e, fun b hb => n b (h b hb)⟩
theorem pid_zip {p : Pos} (hg : Gl X "zip") (hm : X.mg "zip" = none) (ha : PA X [e, e2] (tDA X.K adr T W as))
    (hs : starEach [e, e2] X.env = (false, eval e X.env) :: starEach [e2] X.env := by rfl) (hpl : (backTo pos (starEach [e2] X.env)).any (·.1) = false := by rfl) : PI X (.Tuple elts kk tpos) (.Call (.Name "zip" p) [e, e2] [] pos) (tDI X.K adr T W (iA as kZip)) :=
  PI.imp (RZ.pi_zipA hg hm ha hs hpl) fun σ H R h => tI h fun ds F Fx xs H1 l r n t hF ek q => by
    unfold kZip at ek
    split at ek
    · rename_i d d'
      obtain ⟨v, ws, F1, F2, e1, r1, r2, e2⟩ := r
      obtain ⟨v', ws', F3, F4, e3, r3, r4, e4⟩ := r2
      obtain ⟨rfl, rfl⟩ := r4
      rw [List.append_nil] at e4
      subst e3
      subst e1
      split at ek
      · rename_i l1 l2 h1 h2
        cases ek
        obtain ⟨a, vs, ev, hs, rl, hk⟩ := rep_itemsL r1 h1
        obtain ⟨b, vs', ev', hs', rl', hk'⟩ := rep_itemsL r3 h2
        subst ev; subst ev'
        exact ⟨a, b, vs, vs', rfl, .inl ⟨hs, hs', q _ H1 (Ext.refl _ _) t (itd_zipL (fun H1 k => hk H1 (k.sub fun b hb => by rw [e2]; exact List.mem_append_left _ hb)) (fun H1 k => hk' H1 (k.sub fun b hb => by rw [e2, e4]; exact List.mem_append_right _ hb)) rl rl')⟩⟩
      · split at ek
        · rename_i l1 l2 h1 h2
          cases ek
          obtain ⟨a, vs, ev, hs, rl⟩ := rep_itemsT r1 h1
          obtain ⟨b, vs', ev', hs', rl'⟩ := rep_itemsT r3 h2
          subst ev; subst ev'
          exact ⟨a, b, vs, vs', rfl, .inr ⟨hs, hs', q _ H1 (Ext.refl _ _) t (itd_zipT hs hs' rl rl')⟩⟩
        · cases ek
    · cases ek
end
end DL
set_option Elab.async false
set_option linter.all false
set_option maxRecDepth 100000
set_option maxHeartbeats 4000000
namespace DL
open PySem L2
open LamX (Tabs)

/-! ### a def that a local name holds -/
structure KFv (P : Program) (w : World) (K : PySem.W.Frag) (mg : Str → Option Value) (base : Heap) (adr : Adr) (T : List (Addr × Str)) (k : Nat) (n : Nat) (m : List Bool) (G : List D → FR) : Prop where
  ex : ∃ (fd : FuncData) (ps : List Str), FnOk P w K mg base (L2.CX P w) k (adr n) fd ps (spD K adr T m G) ∧ PySem.W.keepIn K (.ref (adr n)) = true ∧ Binds K fd ps []
def eCallV (j : Nat) (m : List Bool) (tbl : Nat → Option (List D → FR)) (cm : CM) : EM := fun ρ => match ρ[j]? with
  | some (some (.ref n)) => match tbl n with
    | some G => eCall m G cm ρ
    | none => .fail
  | _ => .fail
section
variable {X : Cx} {adr : Adr} {T : List (Addr × Str)} {W : WX} {pos : Pos} {e : Expr} {es : List Expr} {cm : CM} {m : List Bool}
theorem pd_callV {k i : Nat} {x : Str} {p : Pos} (j : Nat) (tbl : Nat → Option (List D → FR)) (c : ∀ n G, tbl n = some G → KFv X.prog X.w X.K X.mg X.base adr T k n m G) (hr : Room i X.A) (hk : k ≤ i) (tk : Takes X W) (ha : PA X (e :: es) (tDC X.K adr T W cm))
    (hN : X.N[j]? = some x := by rfl) (hv : Vis X.env.scope x := by first | exact Or.inl rfl | exact Or.inr (Or.inl rfl) | exact Or.inr (Or.inr rfl)) (hd : (x == ("__debug__" : Str)) = false := by decide) (hcd : (x == ("__classdict__" : Str)) = false := by decide)
    (he : starEach (e :: es) X.env = (false, eval e X.env) :: starEach es X.env := by rfl) (hpl : (backTo pos (starEach es X.env)).any (·.1) = false := by rfl) : PE X (.Call (.Name x p) (e :: es) [] pos) (tD X.K adr T W (eCallV j m tbl cm)) := by
  refine ⟨fun pins s σ H Q I ⟨ρ, F, S, q⟩ => ?_⟩
  unfold eCallV at q
  split at q
  · rename_i n hn
    split at q
    · rename_i G hG
      obtain ⟨fd, ps, Fn, kp, hb⟩ := (c n G hG).ex
      obtain ⟨v, Gv, hv', r, _⟩ := S.rep.get hn
      have ev : v = .ref (adr n) := r.1
      subst ev
      refine wpAny_Call_Name_kw (thn ((pe_var (pos := p) (i := j) hN hv hd hcd).run pins s σ H (fun v H1 => v = .ref (adr n) ∧ H1 = H) I ⟨.ref (adr n), hv', rfl, rfl⟩) fun u s1 ⟨v, H1, I1, r1, ev, eH⟩ => ?_)
      subst ev
      rw [eH] at I1
      cases r1
      have q' : tD X.K adr T W (eCall m G cm) σ H Q := ⟨ρ, F, S, q⟩
      refine PySem.W.callWith_K (h₀ := X.base) I.ok.mod.kin kp (thn (ha.run pos pins s1 σ H _ I1 (tcall q')) fun us s2 ⟨vs, H2, I2, r, q⟩ => ⟨I2.kIn, ?_⟩) he hpl
      exact run_fnS (E := WE W) Fn (hr.mono hk) hb (passAt tk σ) I2 r q
    · exact q.elim
  · exact q.elim
end

/-! ### lent operands -/
/-- an operation on what stands in a slot, which stays there -/
def eL1 (h : List D → Option D) (i : Nat) : EM := fun ρ => match ρ[i]? with
  | some (some d) => opt (h [d]) ρ
  | _ => .fail
section
variable {X : Cx} {adr : Adr} {T : List (Addr × Str)} {W : WX} {pos : Pos} {h : List D → Option D}
theorem tL1 {i : Nat} {σ : L2.St} {H : Hp} {Q : VK} (q : tD X.K adr T W (eL1 h i) σ H Q) : ∃ v, σ[i]? = some (some v) ∧ rR X.K adr T h [v] H Q := by
  obtain ⟨ρ, F, S, q⟩ := q
  unfold eL1 at q
  split at q
  · rename_i d hd
    obtain ⟨v, Gv, hv, r, _⟩ := S.rep.get hd
    cases e : h [d] with
    | none => rw [e] at q; exact q.elim
    | some z =>
      rw [e] at q
      exact ⟨v, hv, [d], _, z, repL_cons r repL_nil, e, S.tab, hold_read q S fun _ z => z⟩
  · exact q.elim
theorem pd_callBL {id : String} {x y : Str} {p p2 : Pos} (i : Nat) (hc : CallD X adr T (.builtin id) h) (hg : Gl X x) (hm : X.mg x = none) (hv : bootBuiltins x = some (.builtin id)) (hn : x ≠ "__name__" := by decide) (hdb : (x == ("__debug__" : Str)) = false := by decide)
    (hN : X.N[i]? = some y := by rfl) (hv : Vis X.env.scope y := by first | exact Or.inl rfl | exact Or.inr (Or.inl rfl) | exact Or.inr (Or.inr rfl)) (hd : (y == ("__debug__" : Str)) = false := by decide) (hcd : (y == ("__classdict__" : Str)) = false := by decide)
    (he : starEach [.Name y p2] X.env = (false, eval (.Name y p2) X.env) :: starEach [] X.env := by rfl) (hpl : (backTo pos (starEach [] X.env)).any (·.1) = false := by rfl) : PE X (.Call (.Name x p) [.Name y p2] [] pos) (tD X.K adr T W (eL1 h i)) :=
  PE.imp (pe_callB hc hg hm ‹bootBuiltins x = some (.builtin id)› (pa_cons (pe_var (pos := p2) hN hv hd hcd) pa_nil he) hn hdb he hpl) fun σ H Q q => by
    obtain ⟨v, hv, q⟩ := tL1 q
    exact ⟨v, hv, q⟩
end
end DL
set_option Elab.async false
set_option linter.all false
set_option maxRecDepth 100000
set_option maxHeartbeats 4000000
namespace DL
open PySem L2
open LamX (Tabs)

/-! ### what the top has written -/
/-- a def of the module -/
structure FD (K : PySem.W.Frag) (mg : Str → Option Value) (x : Str) (st : Stmt) (f : Addr) (ps : List Str) : Prop where
  ex : ∃ fd : FuncData, Fun K x x st f fd ∧ Binds K fd ps []
  at_ : mg x = some (.ref f)
/-- a method -/
structure MD (K : PySem.W.Frag) (x qual : Str) (st : Stmt) (C f : Addr) (ps : List Str) : Prop where
  ex : ∃ fd : FuncData, Fun K x qual st f fd ∧ Binds K fd ps []
  at_ : PySem.W.findIn K (.ref C) x = some (some (.ref f))
  fn : PySem.W.isFn K (.ref f) = true
/-- a constant of the module -/
def GC (mg : Str → Option Value) (x : Str) (v : V) : Prop := ∃ u, mg x = some u ∧ RelV v u
section
variable {P : Program} {w : World} {K : PySem.W.Frag} {mg : Str → Option Value} {base : Heap} {adr : Adr} {T : List (Addr × Str)}
abbrev BodyOk (P : Program) (w : World) (K : PySem.W.Frag) (mg : Str → Option Value) (base : Heap) (adr : Adr) (T : List (Addr × Str)) (N : List Str) (qual : Str) (st : Stmt) (f : Addr) (k : Nat) (m : List Bool) (b : SM) : Prop :=
  ∀ (cdv : Value) (A : Around) (outer : List PySem.Env) (s : Shared) (H : Hp) (E : XK), Room k (A.deeper (PyProof.Rows.envOfC qual (defScope st) s.heap.objs.size f cdv)) →
    Takes (cxOf (L2.CX P w) P w K mg base N qual (defScope st) f cdv A outer s H E) (fun cls d _ H => E cls d H) →
    PSs (cxOf (L2.CX P w) P w K mg base N qual (defScope st) f cdv A outer s H E) (defBody st) (tDS K adr T (ioOf m) (fun cls d _ H => E cls d H) b)
theorem kfn_of {x : Str} {st : Stmt} {f : Addr} {ps N : List Str} {k : Nat} (F : FD K mg x st f ps) (S : FnScope N ps (defScope st)) (m : List Bool) (b : SM) (hm : m.length = ps.length) (hb : BodyOk P w K mg base adr T N x st f k m b) : KFn P w K mg base adr T (k + 1) x m (runFn N.length m b) := by
  obtain ⟨fd, hF, bd⟩ := F.ex
  exact ⟨f, fd, ps, fn_d m b hm hF S hb, F.at_, hF.kp, bd⟩
theorem kfv_of {x : Str} {st : Stmt} {n : Nat} {ps N : List Str} {k : Nat} (F : FD K mg x st (adr n) ps) (S : FnScope N ps (defScope st)) (m : List Bool) (b : SM) (hm : m.length = ps.length) (hb : BodyOk P w K mg base adr T N x st (adr n) k m b) : KFv P w K mg base adr T (k + 1) n m (runFn N.length m b) := by
  obtain ⟨fd, hF, bd⟩ := F.ex
  exact ⟨fd, ps, fn_d m b hm hF S hb, hF.kp, bd⟩
theorem kmt_of {n : Nat} {x qual : Str} {st : Stmt} {f : Addr} {ps N : List Str} {k : Nat} (c : Cls K (adr n)) (F : MD K x qual st (adr n) f ps) (S : FnScope N ps (defScope st)) (m : List Bool) (b : SM) (hm : m.length = ps.length) (hx : (fk n).contains x = false) (hb : BodyOk P w K mg base adr T N qual st f k m b) : KMt P w K mg base adr T (k + 1) n x m (runFn N.length m b) := by
  obtain ⟨fd, hF, bd⟩ := F.ex
  exact ⟨c, f, fd, ps, fn_d m b hm hF S hb, ⟨F.at_, F.fn, hF.kp⟩, bd, hx⟩
theorem kmk_of {n : Nat} {x qual : Str} {st : Stmt} {f : Addr} {ps N : List Str} {k : Nat} (F : MD K "__init__" qual st (adr n) f ps) (mk : PySem.W.makesIn K (adr n) = true) (kc : PySem.W.keepIn K (.ref (adr n)) = true) (at_ : mg x = some (.ref (adr n))) (S : FnScope N ps (defScope st)) (m : List Bool) (b : SM) (hm : (true :: m).length = ps.length)
    (hb : BodyOk P w K mg base adr T N qual st f k (true :: m) b) : KMk P w K mg base adr T (k + 1) n x m (runFn N.length (true :: m) b) := by
  obtain ⟨fd, hF, bd⟩ := F.ex
  exact ⟨f, fd, ps, fn_d (true :: m) b hm hF S hb, ⟨mk, F.at_, F.fn, kc⟩, bd, at_⟩
end
section
variable {X : Cx} {adr : Adr} {T : List (Addr × Str)} {W : WX} {pos : Pos}
theorem pd_gc {x : Str} {d : D} {v : V} (hg : Gl X x) (c : GC X.mg x v) (p : Plain d v) (hd : (x == ("__debug__" : Str)) = false := by decide) : PE X (.Name x pos) (tD X.K adr T W (eC d)) := by
  obtain ⟨u, hm, r⟩ := c
  exact pd_glob hg hm r p hd
end
end DL
set_option Elab.async false
set_option linter.all false
set_option maxRecDepth 100000
set_option maxHeartbeats 4000000
namespace DL
open PySem L2
open LamX (Tabs)

/-! ### a, b = x, y -/
def sPar (i j : Nat) (g : AM) : SM := fun ρ => match g ρ with
  | .ok [a, b] ρ => .nx ((ρ.set i (some a)).set j (some b))
  | .ok _ _ => .fail
  | .exc x ρ => .exc x ρ
  | .fail => .fail
def sPar3 (i j l : Nat) (g : AM) : SM := fun ρ => match g ρ with
  | .ok [a, b, c] ρ => .nx (((ρ.set i (some a)).set j (some b)).set l (some c))
  | .ok _ _ => .fail
  | .exc x ρ => .exc x ρ
  | .fail => .fail
section
variable {K : PySem.W.Frag} {adr : Adr} {T : List (Addr × Str)} {io : List Nat} {F : List Addr} {H H1 : Hp} {σ : L2.St} {W : WX} {ρ : Env} {D : Ends}
theorem tds_args {g : AM} {k : List DL.D → Env → SR} {R : List V → Hp → Prop} (h : tDS K adr T io W (fun ρ => (g ρ).sbind k) D σ H)
    (hk : ∀ ds ρ1 F Fx xs H1, Sim K adr T ρ1 σ H1 F → RepL K adr H1 ds xs Fx → (F ++ Fx).Nodup → HoldS K adr T io W (k ds ρ1) (F ++ Fx) H1 σ D → R xs H1) : tDA K adr T W g σ H R := by
  obtain ⟨ρ, F, S, h⟩ := h
  refine ⟨ρ, F, S, ?_⟩
  cases e : g ρ with
  | ok ds ρ1 =>
    simp only [e, Res.sbind] at h
    intro xs H1 ⟨F1, Fx, s1, r, n, st⟩
    exact hk ds ρ1 F1 Fx xs H1 ⟨s1, (List.nodup_append.mp n).1, st.tab⟩ r n (HoldS.weak st (Fix.refl _ _) h)
  | exc x ρ1 =>
    simp only [e, Res.sbind] at h
    exact fun cls dx H' ⟨F', a, b, c, d⟩ => h cls dx σ H' ⟨F', ⟨a, c, d.tab⟩, b, d, Fix.refl _ _⟩
  | fail => simp only [e, Res.sbind] at h; exact h.elim
end
section
variable {X : Cx} {adr : Adr} {T : List (Addr × Str)} {io : List Nat} {W : WX} {pos : Pos} {as : AM}
theorem ps_dpar (i j : Nat) {x y : Str} {a b : Expr} {px py pt pt2 : Pos} {kt k2} (hN : X.N.Nodup) (ha : PA X [a, b] (tDA X.K adr T W as)) (hc : X.calm = true := by rfl) (hio : i ∉ io := by decide) (hjo : j ∉ io := by decide) (hi : X.N[i]? = some x := by rfl) (hj : X.N[j]? = some y := by rfl) (hij : i ≠ j := by decide)
    (hx : X.env.scope.names.lookup x = some .local := by rfl) (hy : X.env.scope.names.lookup y = some .local := by rfl)
    (hw : swappedStores [.Tuple [.Name x px, .Name y py] kt pt] (.Tuple [a, b] k2 pt2) X.env = pure (some [x, y]) := by rfl)
    (hs : swapsWithSole [.Tuple [.Name x px, .Name y py] kt pt] (.Tuple [a, b] k2 pt2) pos.line X.env = pure false := by rfl) :
    PS X (.Assign [.Tuple [.Name x px, .Name y py] kt pt] (.Tuple [a, b] k2 pt2) pos) (tDS X.K adr T io W (sPar i j as)) :=
  PS.imp (ps_par hc hN hi hj hij hx hy ha hw hs) fun D σ H q => by
    have q' : tDS X.K adr T io W (fun ρ => (as ρ).sbind fun ds ρ => match ds with | [a, b] => .nx ((ρ.set i (some a)).set j (some b)) | _ => .fail) D σ H := by
      have e : (fun ρ => (as ρ).sbind fun ds ρ => match ds with | [a, b] => SR.nx ((ρ.set i (some a)).set j (some b)) | _ => .fail) = sPar i j as := by
        funext ρ
        unfold sPar
        cases as ρ with
        | ok ds ρ => match ds with
          | [] => rfl
          | [_] => rfl
          | [_, _] => rfl
          | _ :: _ :: _ :: _ => rfl
        | exc x ρ => rfl
        | fail => rfl
      rw [e]; exact q
    refine tds_args q' fun ds ρ1 F Fx xs H1 S r n q => ?_
    match ds, r, q with
    | [da, db], r, q =>
      obtain ⟨v, ws, F1, F2, e1, r1, r2, e2⟩ := r
      obtain ⟨w, ws', F3, F4, e3, r3, r4, e4⟩ := r2
      obtain ⟨rfl, rfl⟩ := r4
      subst e3; subst e1
      refine ⟨v, w, rfl, ?_⟩
      rw [List.append_nil] at e4
      subst e4; subst e2
      have n1 : (F ++ F1).Nodup := n.sublist ((List.Sublist.refl F).append (List.sublist_append_left F1 _))
      obtain ⟨G1, a1, b1, c1⟩ := S.rep.store (i := i) r1 n1
      have n2 : (G1 ++ F2).Nodup := List.nodup_append.mpr ⟨b1, (List.nodup_append.mp (List.nodup_append.mp n).2.1).2.1, fun x hx y hy z => by
        subst z
        rw [← List.append_assoc] at n
        exact (List.nodup_append.mp n).2.2 x (c1 x hx) x hy rfl⟩
      obtain ⟨G2, a2, b2, c2⟩ := a1.store (i := j) r3 n2
      exact q _ _ ⟨G2, ⟨a2, b2, S.tab⟩, Stp.refl S.tab (fun b hb => by
        rcases List.mem_append.mp (c2 b hb) with z | z
        · rcases List.mem_append.mp (c1 b z) with z | z
          · exact List.mem_append_left _ z
          · exact List.mem_append_right _ (List.mem_append_left _ z)
        · exact List.mem_append_right _ (List.mem_append_right _ z)), (Fix.set hio).trans (Fix.set hjo)⟩
    | [], _, q => exact q.elim
    | [_], _, q => exact q.elim
    | _ :: _ :: _ :: _, _, q => exact q.elim
end
end DL
set_option Elab.async false
set_option linter.all false
set_option maxRecDepth 100000
set_option maxHeartbeats 4000000
namespace DL
open PySem L2
open LamX (Tabs)

theorem KFv.mono {P : Program} {w : World} {K : PySem.W.Frag} {mg : Str → Option Value} {base : Heap} {adr : Adr} {T : List (Addr × Str)} {k j n : Nat} {m : List Bool} {G : List D → FR} (c : KFv P w K mg base adr T k n m G) (h : k ≤ j) : KFv P w K mg base adr T j n m G := by
  obtain ⟨fd, ps, F, kp, b⟩ := c.ex
  exact ⟨fd, ps, F.mono h, kp, b⟩
theorem bt_len : bootBuiltins "len" = some (.builtin "len") := by first | rfl | kernel_rfl
theorem bt_abs : bootBuiltins "abs" = some (.builtin "abs") := by first | rfl | kernel_rfl
theorem bt_max : bootBuiltins "max" = some (.builtin "max") := by first | rfl | kernel_rfl
theorem bt_min : bootBuiltins "min" = some (.builtin "min") := by first | rfl | kernel_rfl
theorem bt_sum : bootBuiltins "sum" = some (.builtin "sum") := by first | rfl | kernel_rfl
theorem bt_isinstance : bootBuiltins "isinstance" = some (.builtin "isinstance") := by first | rfl | kernel_rfl
theorem bt_divmod : bootBuiltins "divmod" = some (.builtin "divmod") := by first | rfl | kernel_rfl
theorem bt_any : bootBuiltins "any" = some (.builtin "any") := by first | rfl | kernel_rfl
theorem bt_all : bootBuiltins "all" = some (.builtin "all") := by first | rfl | kernel_rfl
theorem bt_sorted : bootBuiltins "sorted" = some (.builtin "sorted") := by first | rfl | kernel_rfl
theorem bt_int : bootBuiltins "int" = some (.type "int") := by first | rfl | kernel_rfl
theorem bt_tuple : bootBuiltins "tuple" = some (.type "tuple") := by first | rfl | kernel_rfl
theorem bt_list : bootBuiltins "list" = some (.type "list") := by first | rfl | kernel_rfl
theorem bt_str : bootBuiltins "str" = some (.type "str") := by first | rfl | kernel_rfl
theorem bt_bool : bootBuiltins "bool" = some (.type "bool") := by first | rfl | kernel_rfl
theorem bt_dict : bootBuiltins "dict" = some (.type "dict") := by first | rfl | kernel_rfl
/-! ### comprehensions with two clauses; what is collected owns nothing -/
def lcI (t1 : TM) (e : EM) (vs1 : List Nat) : List D → List D → Env → Res (List D)
  | [], acc, ρ => .ok acc ρ
  | d :: ds, acc, ρ => match t1 ρ d with
    | none => .fail
    | some ρ1 => match e ρ1 with
      | .ok x ρ2 => if dup x && decide (acc.length < sizeLine) then lcI t1 e vs1 ds (acc ++ [x]) (killL ρ2 vs1) else .fail
      | _ => .fail
def lcO (t : TM) (im1 : IM) (t1 : TM) (e : EM) (vs vs1 : List Nat) : List D → List D → EM
  | [], acc, ρ => .ok (.lst acc) ρ
  | d :: ds, acc, ρ => match t ρ d with
    | none => .fail
    | some ρ1 => match im1 ρ1 with
      | .ok ds1 ρ2 => if freeL ρ2 vs1 then match lcI t1 e vs1 ds1 acc ρ2 with
        | .ok acc' ρ3 => lcO t im1 t1 e vs vs1 ds acc' (killL ρ3 vs)
        | _ => .fail
        else .fail
      | _ => .fail
def eLc2 (im : IM) (t : TM) (im1 : IM) (t1 : TM) (e : EM) (vs vs1 : List Nat) : EM := fun ρ => (im ρ).bind fun ds ρ1 => if freeL ρ1 vs then lcO t im1 t1 e vs vs1 ds [] ρ1 else .fail
section
variable {K : PySem.W.Frag} {adr : Adr} {T : List (Addr × Str)} {io : List Nat} {F G G' F1 : List Addr} {H H1 H2 : Hp} {σ σ1 σ2 : L2.St} {W : WX} {ρ ρ' : Env}
theorem wipe_wipe {vs vs1 : List Nat} (hv : ∀ i ∈ vs1, i ∈ vs) : wipe (wipe σ vs1) vs = wipe σ vs := by
  apply List.ext_getElem?
  intro i
  by_cases hi : i < σ.length
  · by_cases h : i ∈ vs
    · rw [wipe_in h (by rw [wipe_length]; exact hi), wipe_in h hi]
    · rw [wipe_get h, wipe_get h, wipe_get (fun z => h (hv i z))]
  · rw [List.getElem?_eq_none (by rw [wipe_length, wipe_length]; omega), List.getElem?_eq_none (by rw [wipe_length]; omega)]
/-- what is behind the inner loop -/
def HoldI (K : PySem.W.Frag) (adr : Adr) (T : List (Addr × Str)) (W : WX) (r : Res (List D)) (k : List D → Env → Res D) (F : List Addr) (H : Hp) (σ : L2.St) (Q : VK) : Prop := match r with
  | .ok acc ρ => Hold K adr T W (k acc ρ) F H σ Q
  | _ => False
theorem HoldI.weak {r : Res (List D)} {k : List D → Env → Res D} {Q : VK} (st : Stp T F H G H1) (h : HoldI K adr T W r k F H σ Q) : HoldI K adr T W r k G H1 σ Q := by
  cases r with
  | ok acc ρ => exact Hold.weak st h
  | exc _ _ => exact h
  | fail => exact h
theorem td_lc2 {n : Nat} {im im1 : IM} {t t1 : TM} {e : EM} {vs vs1 : List Nat} {Q : VK} (hn : ∀ ρ F, RepS K adr H ρ σ F → σ.length = n) (hv : ∀ i ∈ vs1, i ∈ vs) (h : tD K adr T W (eLc2 im t im1 t1 e vs vs1) σ H Q) :
    tLc2 (tDI K adr T W im) (gD K adr T (others n vs) t) (tB (tD K adr T W0 (eC (.bl true)))) (tDI K adr T W0 im1) (gD K adr T (others n vs1) t1) (tB (tD K adr T W0 (eC (.bl true)))) (tD K adr T W0 e) vs vs1 σ H Q := by
  obtain ⟨ρ, F, S, h⟩ := h
  have hσ := hn ρ F S.rep
  refine ⟨ρ, F, S, ?_⟩
  unfold eLc2 at h
  cases ei : im ρ with
  | exc x ρ1 => rw [ei] at h; exact h
  | fail => rw [ei] at h; exact h
  | ok ds ρ1 =>
    rw [ei] at h
    intro J H1 F1 G S1 n1 hG st it Dd hD
    have h1 : Hold K adr T W (if freeL ρ1 vs then lcO t im1 t1 e vs vs1 ds [] ρ1 else .fail) (F1 ++ G) H1 σ Q := Hold.weak st h
    by_cases hf : freeL ρ1 vs = true
    · rw [if_pos hf] at h1
      have eD : Ext [] H1 (upd H1 Dd (.lst [])) := Ext.new hD
      have hDn : ∀ b ∈ F1 ++ G, b ≠ Dd := fun b hb z => by
        rcases List.mem_append.mp hb with w | w
        · exact ne_none_of (S1.rep.mem b w) (by rw [z]; exact hD)
        · exact hG b w (by rw [z]; exact hD)
      have nG : (F1 ++ (Dd :: G)).Nodup := by
        have z : (Dd :: (F1 ++ G)).Nodup := List.nodup_cons.mpr ⟨fun hb => hDn Dd hb rfl, n1⟩
        exact perm_nodup (List.perm_middle.symm) z
      refine ⟨fun i m H' => m = ds.length - i ∧ i ≤ ds.length ∧ ∃ ρ' F' acc va, Sim K adr T ρ' (wipe σ vs) H' F' ∧ freeL ρ' vs = true ∧ H' Dd = some (.lst va) ∧ RepL K adr H' acc va [] ∧ (F' ++ (Dd :: G)).Nodup ∧ Kp G H1 H' ∧ (∀ b ∈ G, H' b ≠ none) ∧
          Hold K adr T W (lcO t im1 t1 e vs vs1 (ds.drop i) acc ρ') (F' ++ (Dd :: G)) H' σ Q, ⟨ds.length, by simp, Nat.zero_le _, ρ1, F1, [], [],
          ⟨(S1.rep.ext eD (fun _ _ z => nomatch z)).to_wipe hf, S1.nd, tabs_new S1.tab hD⟩, hf, upd_same, repL_nil, nG, Kp.refl.step eD (fun _ _ z => nomatch z), fun b hb z => hG b hb (eD.dom b z), ?_⟩, ?_⟩
      · rw [List.drop_zero]
        refine Hold.weak ⟨eD.mono (fun _ z => nomatch z), fun b hb => ?_, tabs_new S1.tab hD⟩ h1
        rcases List.mem_append.mp hb with z | z
        · exact .inl (List.mem_append_left _ z)
        · rcases List.mem_cons.mp z with z | z
          · exact .inr (by rw [z]; exact hD)
          · exact .inl (List.mem_append_right _ z)
      rintro i m H' ⟨rfl, hi, ρ', F', acc, va, S', hf', hDd, ra, n', kp, hG', hh⟩
      by_cases hlt : i < ds.length
      · have ed : ds[i]? = some ds[i] := List.getElem?_eq_getElem hlt
        obtain ⟨go, yld⟩ := ((it H' kp i).1 _ ed)
        have edr : ds.drop i = ds[i] :: ds.drop (i + 1) := List.drop_eq_getElem_cons hlt
        rw [edr] at hh
        unfold lcO at hh
        refine .inr ⟨go, fun H3 => ∃ ρ' F' acc va, Sim K adr T ρ' (wipe σ vs) H3 F' ∧ freeL ρ' vs = true ∧ H3 Dd = some (.lst va) ∧ RepL K adr H3 acc va [] ∧ (F' ++ (Dd :: G)).Nodup ∧ Kp G H1 H3 ∧ (∀ b ∈ G, H3 b ≠ none) ∧
          Hold K adr T W (lcO t im1 t1 e vs vs1 (ds.drop (i + 1)) acc ρ') (F' ++ (Dd :: G)) H3 σ Q, fun H3 q => ⟨ds.length - (i + 1), by omega, rfl, hlt, q⟩, fun x H2 y => ?_⟩
        obtain ⟨rx, e2, t2⟩ := yld x H2 y
        have S2 : Sim K adr T ρ' (wipe σ vs) H2 F' := ⟨S'.rep.ext e2 (fun _ _ z => nomatch z), S'.nd, t2 S'.tab⟩
        have asd : ∀ b ∈ Dd :: G, H2 b ≠ none := fun b hb z => by
          have z' := e2.dom b z
          rcases List.mem_cons.mp hb with w | w
          · rw [w, hDd] at z'; cases z'
          · exact hG' b w z'
        have hDd2 : H2 Dd = some (.lst va) := e2.own hDd True.intro fun z => nomatch z
        have kp2 : Kp G H1 H2 := kp.step e2 fun _ _ z => nomatch z
        have st2 : Stp T (F' ++ (Dd :: G)) H' (F' ++ (Dd :: G)) H2 := ⟨e2.mono (fun _ z => nomatch z), fun b hb => .inl hb, S2.tab⟩
        replace hh := Hold.weak st2 hh
        cases et : t ρ' ds[i] with
        | none => simp only [et] at hh; exact hh.elim
        | some ρ3 =>
          simp only [et] at hh
          refine ⟨ρ', F', ds[i], [], S2, rx, by simpa using S'.nd, ρ3, et, fun σ3 H3 F3 S3 st3 fx3 => ?_⟩
          rw [List.append_nil] at st3
          refine ⟨wipe_eq fx3 hσ, ?_⟩
          have hl3 : σ3.length = σ.length := fx3.len.trans (wipe_length _ _)
          have stT : Stp T (F' ++ (Dd :: G)) H2 (F3 ++ (Dd :: G)) H3 := ⟨st3.ext.mono fun b hb => List.mem_append_left _ hb, fun b hb => (List.mem_append.mp hb).elim (fun z => (st3.frs b z).imp (List.mem_append_left _) id) fun z => .inl (List.mem_append_right _ z), S3.tab⟩
          have n3 : (F3 ++ (Dd :: G)).Nodup := nodup_aside n' S3.nd st3.frs asd
          have ap2 := apart_of n'
          have hDd3 : H3 Dd = some (.lst va) := st3.ext.own hDd2 True.intro (ap2 Dd (by simp))
          have ra3 : RepL K adr H3 acc va [] := (ra.ext0 e2).ext0 st3.ext
          have kp3 : Kp G H1 H3 := kp2.step st3.ext fun b hb => ap2 b (List.mem_cons_of_mem _ hb)
          have asd3 : ∀ b ∈ Dd :: G, H3 b ≠ none := fun b hb z => asd b hb (st3.ext.dom b z)
          replace hh := Hold.weak stT hh
          -- the test that is none
          refine ⟨ρ3, F3, S3, ?_⟩
          intro vb H4 p4
          obtain ⟨F4, Fb, S4, rb, n4, st4⟩ := p4.sim
          obtain ⟨evb, eFb⟩ := rb
          subst eFb
          rw [List.append_nil] at n4 st4
          refine ⟨true, evb, iteT ?_⟩
          have n4' : (F4 ++ (Dd :: G)).Nodup := nodup_aside n3 n4 st4.frs asd3
          have ap3 := apart_of n3
          have hDd4 : H4 Dd = some (.lst va) := st4.ext.own hDd3 True.intro (ap3 Dd (by simp))
          have ra4 : RepL K adr H4 acc va [] := ra3.ext0 st4.ext
          have kp4 : Kp G H1 H4 := kp3.step st4.ext fun b hb => ap3 b (List.mem_cons_of_mem _ hb)
          have asd4 : ∀ b ∈ Dd :: G, H4 b ≠ none := fun b hb z => asd3 b hb (st4.ext.dom b z)
          have stT4 : Stp T (F3 ++ (Dd :: G)) H3 (F4 ++ (Dd :: G)) H4 := ⟨st4.ext.mono fun b hb => List.mem_append_left _ hb, fun b hb => (List.mem_append.mp hb).elim (fun z => (st4.frs b z).imp (List.mem_append_left _) id) fun z => .inl (List.mem_append_right _ z), S4.tab⟩
          replace hh := Hold.weak stT4 hh
          refine ⟨ρ3, F4, S4, ?_⟩
          cases e1 : im1 ρ3 with
          | exc x ρ5 => simp only [e1] at hh; exact hh.elim
          | fail => simp only [e1] at hh; exact hh.elim
          | ok ds1 ρ5 =>
            simp only [e1] at hh
            intro J1 H5 F5 G1 S5 n5 hG1 st5 it1
            by_cases hf1 : freeL ρ5 vs1 = true
            · rw [if_pos hf1] at hh
              have nn5 : ((F5 ++ G1) ++ (Dd :: G)).Nodup := nodup_aside n4' n5 st5.frs asd4
              have n5' : (F5 ++ (Dd :: (G1 ++ G))).Nodup := by
                rw [List.append_assoc] at nn5
                exact perm_nodup (List.Perm.append_left F5 List.perm_middle) nn5
              have ap4 := apart_of n4'
              have hDd5 : H5 Dd = some (.lst va) := st5.ext.own hDd4 True.intro (ap4 Dd (by simp))
              have ra5 : RepL K adr H5 acc va [] := ra4.ext0 st5.ext
              have kp5 : Kp G H1 H5 := kp4.step st5.ext fun b hb => ap4 b (List.mem_cons_of_mem _ hb)
              have asd5 : ∀ b ∈ G1 ++ G, H5 b ≠ none := fun b hb => (List.mem_append.mp hb).elim (hG1 b) fun z w => asd4 b (List.mem_cons_of_mem _ z) (st5.ext.dom b w)
              have h5 : HoldI K adr T W (lcI t1 e vs1 ds1 acc ρ5) (fun acc' ρ6 => lcO t im1 t1 e vs vs1 (ds.drop (i + 1)) acc' (killL ρ6 vs)) (F5 ++ (Dd :: (G1 ++ G))) H5 σ Q := by
                have hh' : HoldI K adr T W (lcI t1 e vs1 ds1 acc ρ5) (fun acc' ρ6 => lcO t im1 t1 e vs vs1 (ds.drop (i + 1)) acc' (killL ρ6 vs)) (F4 ++ (Dd :: G)) H4 σ Q := by
                  revert hh
                  cases lcI t1 e vs1 ds1 acc ρ5 with
                  | ok acc' ρ6 => exact fun z => z
                  | exc _ _ => exact fun z => z
                  | fail => exact fun z => z
                refine HoldI.weak ⟨st5.ext.mono fun b hb => List.mem_append_left _ hb, fun b hb => ?_, S5.tab⟩ hh'
                rcases List.mem_append.mp hb with z | z
                · exact (st5.frs b (List.mem_append_left _ z)).imp (List.mem_append_left _) id
                · rcases List.mem_cons.mp z with z | z
                  · exact .inl (by rw [z]; simp)
                  · rcases List.mem_append.mp z with z | z
                    · exact (st5.frs b (List.mem_append_right _ z)).imp (List.mem_append_left _) id
                    · exact .inl (List.mem_append_right _ (List.mem_cons_of_mem _ z))
              have hl5 : σ3.length = n := hl3.trans hσ
              refine ⟨fun j k H' => k = ds1.length - j ∧ j ≤ ds1.length ∧ ∃ ρ' F' acc va, Sim K adr T ρ' (wipe σ3 vs1) H' F' ∧ freeL ρ' vs1 = true ∧ H' Dd = some (.lst va) ∧ RepL K adr H' acc va [] ∧ (F' ++ (Dd :: (G1 ++ G))).Nodup ∧ Kp G1 H5 H' ∧ Kp G H1 H' ∧ (∀ b ∈ G1 ++ G, H' b ≠ none) ∧
                HoldI K adr T W (lcI t1 e vs1 (ds1.drop j) acc ρ') (fun acc' ρ6 => lcO t im1 t1 e vs vs1 (ds.drop (i + 1)) acc' (killL ρ6 vs)) (F' ++ (Dd :: (G1 ++ G))) H' σ Q,
                ⟨ds1.length, by simp, Nat.zero_le _, ρ5, F5, acc, va, ⟨S5.rep.to_wipe hf1, S5.nd, S5.tab⟩, hf1, hDd5, ra5, n5', Kp.refl, kp5, asd5, by rw [List.drop_zero]; exact h5⟩, ?_⟩
              rintro j k H6 ⟨rfl, hj, ρ6, F6, acc6, va6, S6, hf6, hDd6, ra6, n6, kq6, kp6, asd6, hh6⟩
              by_cases hlt1 : j < ds1.length
              · have ed1 : ds1[j]? = some ds1[j] := List.getElem?_eq_getElem hlt1
                obtain ⟨go1, yld1⟩ := ((it1 H6 kq6 j).1 _ ed1)
                have edr1 : ds1.drop j = ds1[j] :: ds1.drop (j + 1) := List.drop_eq_getElem_cons hlt1
                rw [edr1] at hh6
                unfold lcI at hh6
                refine .inr ⟨go1, fun H' => ∃ ρ' F' acc va, Sim K adr T ρ' (wipe σ3 vs1) H' F' ∧ freeL ρ' vs1 = true ∧ H' Dd = some (.lst va) ∧ RepL K adr H' acc va [] ∧ (F' ++ (Dd :: (G1 ++ G))).Nodup ∧ Kp G1 H5 H' ∧ Kp G H1 H' ∧ (∀ b ∈ G1 ++ G, H' b ≠ none) ∧
                  HoldI K adr T W (lcI t1 e vs1 (ds1.drop (j + 1)) acc ρ') (fun acc' ρ6 => lcO t im1 t1 e vs vs1 (ds.drop (i + 1)) acc' (killL ρ6 vs)) (F' ++ (Dd :: (G1 ++ G))) H' σ Q, fun H3 q => ⟨ds1.length - (j + 1), by omega, rfl, hlt1, q⟩, fun x1 H7 y1 => ?_⟩
                obtain ⟨rx1, e7, t7⟩ := yld1 x1 H7 y1
                have S7 : Sim K adr T ρ6 (wipe σ3 vs1) H7 F6 := ⟨S6.rep.ext e7 (fun _ _ z => nomatch z), S6.nd, t7 S6.tab⟩
                have hDd7 : H7 Dd = some (.lst va6) := e7.own hDd6 True.intro fun z => nomatch z
                have asd7 : ∀ b ∈ Dd :: (G1 ++ G), H7 b ≠ none := fun b hb z => by
                  rcases List.mem_cons.mp hb with w | w
                  · rw [w, hDd7] at z; cases z
                  · exact asd6 b w (e7.dom b z)
                have hh7 := HoldI.weak (G := F6 ++ (Dd :: (G1 ++ G))) (H1 := H7) ⟨e7.mono (fun _ z => nomatch z), fun b hb => .inl hb, S7.tab⟩ hh6
                cases et1 : t1 ρ6 ds1[j] with
                | none => simp only [et1] at hh7; exact hh7.elim
                | some ρ8 =>
                  simp only [et1] at hh7
                  refine ⟨ρ6, F6, ds1[j], [], S7, rx1, by simpa using S6.nd, ρ8, et1, fun σ8 H8 F8 S8 st8 fx8 => ?_⟩
                  rw [List.append_nil] at st8
                  refine ⟨wipe_eq fx8 hl5, ?_⟩
                  have n8 : (F8 ++ (Dd :: (G1 ++ G))).Nodup := nodup_aside n6 S8.nd st8.frs asd7
                  have ap7 := apart_of n6
                  have hDd8 : H8 Dd = some (.lst va6) := st8.ext.own hDd7 True.intro (ap7 Dd (by simp))
                  have asd8 : ∀ b ∈ Dd :: (G1 ++ G), H8 b ≠ none := fun b hb z => asd7 b hb (st8.ext.dom b z)
                  refine ⟨ρ8, F8, S8, ?_⟩
                  intro vb9 H9 p9
                  obtain ⟨F9, Fb9, S9, rb9, n9, st9⟩ := p9.sim
                  obtain ⟨evb9, eFb9⟩ := rb9
                  subst eFb9
                  rw [List.append_nil] at n9 st9
                  refine ⟨true, evb9, iteT ?_⟩
                  have n9' : (F9 ++ (Dd :: (G1 ++ G))).Nodup := nodup_aside n8 n9 st9.frs asd8
                  have ap8 := apart_of n8
                  have hDd9 : H9 Dd = some (.lst va6) := st9.ext.own hDd8 True.intro (ap8 Dd (by simp))
                  have asd9 : ∀ b ∈ Dd :: (G1 ++ G), H9 b ≠ none := fun b hb z => asd8 b hb (st9.ext.dom b z)
                  have hl8 : σ8.length = σ3.length := fx8.len.trans (wipe_length _ _)
                  refine ⟨ρ8, F9, S9, ?_⟩
                  cases ee : e ρ8 with
                  | exc x ρa => simp only [ee] at hh7; exact hh7.elim
                  | fail => simp only [ee] at hh7; exact hh7.elim
                  | ok dx ρa =>
                    simp only [ee] at hh7
                    intro vx Ha pa
                    obtain ⟨Fa, Fx, Sa, rxa, na, sta⟩ := pa.sim
                    by_cases hz : (dup dx && decide (acc6.length < sizeLine)) = true
                    · rw [if_pos hz] at hh7
                      rw [Bool.and_eq_true, decide_eq_true_eq] at hz
                      have eFx : Fx = [] := rxa.dup' hz.1
                      subst eFx
                      rw [List.append_nil] at na sta
                      have na' : (Fa ++ (Dd :: (G1 ++ G))).Nodup := nodup_aside n9' na sta.frs asd9
                      have ap9 := apart_of n9'
                      have hDda : Ha Dd = some (.lst va6) := sta.ext.own hDd9 True.intro (ap9 Dd (by simp))
                      have raa : RepL K adr Ha acc6 va6 [] := (((ra6.ext0 e7).ext0 st8.ext).ext0 st9.ext).ext0 sta.ext
                      refine ⟨va6, hDda, by rw [raa.length]; exact hz.2, ?_⟩
                      have eU : Ext [Dd] Ha (upd Ha Dd (.lst (va6 ++ [vx]))) := Ext.upd hDda True.intro (by simp)
                      have apa := apart_of na'
                      have nFa : ∀ b ∈ Fa, b ∉ [Dd] := fun b hb z => by
                        rw [List.mem_singleton.mp z] at hb
                        exact apa Dd (by simp) hb
                      have nGa : ∀ b ∈ G1 ++ G, b ∉ [Dd] := fun b hb z => by
                        have := (List.nodup_append.mp na').2.1
                        rw [List.mem_singleton.mp z] at hb
                        exact (List.nodup_cons.mp this).1 hb
                      have rab : RepL K adr (upd Ha Dd (.lst (va6 ++ [vx]))) (acc6 ++ [dx]) (va6 ++ [vx]) [] := by
                        have := repL_append (raa.ext0 eU) (repL_cons (F2 := []) (rxa.ext0 eU) repL_nil)
                        simpa using this
                      obtain ⟨Fk, sk, sub⟩ := (Sa.rep.ext eU nFa).killL (l := vs1)
                      have hltk : ∀ i ∈ vs1, i < ρa.length := fun q hq => by
                        have := free_lt hf6 q hq
                        rw [Sa.rep.length, hl8]
                        rw [S6.rep.length, wipe_length] at this
                        exact this
                      have fk := free_kill hltk
                      have sk2 : RepS K adr (upd Ha Dd (.lst (va6 ++ [vx]))) (killL ρa vs1) (wipe σ3 vs1) Fk := by
                        have := sk.to_wipe fk
                        rw [wipe_eq fx8 hl5] at this
                        exact this
                      have nk : (Fk ++ (Dd :: (G1 ++ G))).Nodup := na'.sublist (sub.append (List.Sublist.refl _))
                      have tb : Tabs T (upd Ha Dd (.lst (va6 ++ [vx]))) := tabs_upd Sa.tab hDda True.intro
                      have kstep : ∀ {Gz : List Addr} {Hz : Hp}, (∀ b ∈ Gz, b ∈ G1 ++ G) → Kp Gz Hz H6 → Kp Gz Hz (upd Ha Dd (.lst (va6 ++ [vx]))) := fun {Gz Hz} hs kz =>
                        ((((kz.step e7 fun _ _ z => nomatch z).step st8.ext fun b hb => ap7 b (List.mem_cons_of_mem _ (hs b hb))).step st9.ext fun b hb => ap8 b (List.mem_cons_of_mem _ (hs b hb))).step sta.ext fun b hb => ap9 b (List.mem_cons_of_mem _ (hs b hb))).step eU fun b hb => nGa b (hs b hb)
                      refine ⟨_, Fk, _, _, ⟨sk2, (List.nodup_append.mp nk).1, tb⟩, fk, upd_same, rab, nk, kstep (fun b hb => List.mem_append_left _ hb) kq6, kstep (fun b hb => List.mem_append_right _ hb) kp6, fun b hb z => ?_, HoldI.weak ?_ hh7⟩
                      · exact asd9 b (List.mem_cons_of_mem _ hb) (sta.ext.dom b (eU.dom b z))
                      · have z1 : Ext (F6 ++ (Dd :: (G1 ++ G))) H7 H8 := st8.ext.mono fun b hb => List.mem_append_left _ hb
                        have m8 : ∀ c ∈ F8, c ∈ F6 ++ (Dd :: (G1 ++ G)) ∨ H7 c = none := fun c hc => (st8.frs c hc).imp (List.mem_append_left _) id
                        have z2 := z1.trans st9.ext m8
                        have m9 : ∀ c ∈ F9, c ∈ F6 ++ (Dd :: (G1 ++ G)) ∨ H7 c = none := fun c hc => (st9.frs c hc).elim (m8 c) fun z => .inr (st8.ext.dom c z)
                        have z3 := z2.trans sta.ext m9
                        have ma : ∀ c ∈ Fa, c ∈ F6 ++ (Dd :: (G1 ++ G)) ∨ H7 c = none := fun c hc => (sta.frs c hc).elim (m9 c) fun z => .inr (st8.ext.dom c (st9.ext.dom c z))
                        refine ⟨z3.trans eU fun c hc => .inl (by rw [List.mem_singleton.mp hc]; simp), fun b hb => ?_, tb⟩
                        rcases List.mem_append.mp hb with z | z
                        · exact ma b (sub.subset z)
                        · exact .inl (List.mem_append_right _ z)
                    · rw [if_neg hz] at hh7; exact hh7.elim
              · have e0 : j = ds1.length := by omega
                refine .inl ⟨(it1 H6 kq6 j).2 (by omega), ?_⟩
                rw [e0, List.drop_length] at hh6
                unfold lcI at hh6
                replace hh6 : Hold K adr T W (lcO t im1 t1 e vs vs1 (ds.drop (i + 1)) acc6 (killL ρ6 vs)) (F6 ++ (Dd :: (G1 ++ G))) H6 σ Q := hh6
                obtain ⟨Fk, sk, sub⟩ := S6.rep.killL (l := vs)
                have hltk : ∀ i ∈ vs, i < ρ6.length := fun q hq => by
                  have := free_lt hf' q hq
                  rw [S6.rep.length, wipe_length, hl3]
                  rw [S'.rep.length, wipe_length] at this
                  exact this
                have fk := free_kill hltk
                have sk2 : RepS K adr H6 (killL ρ6 vs) (wipe σ vs) Fk := by
                  have := sk.to_wipe fk
                  rw [wipe_wipe hv, wipe_eq fx3 hσ] at this
                  exact this
                have nk : (Fk ++ (Dd :: G)).Nodup := n6.sublist (sub.append ((List.sublist_append_right G1 G).cons_cons Dd))
                refine ⟨_, Fk, acc6, va6, ⟨sk2, (List.nodup_append.mp nk).1, S6.tab⟩, fk, hDd6, ra6, nk, kp6, fun b hb => asd6 b (List.mem_append_right _ hb), Hold.weak (Stp.refl S6.tab fun b hb => ?_) hh6⟩
                rcases List.mem_append.mp hb with z | z
                · exact List.mem_append_left _ (sub.subset z)
                · refine List.mem_append_right _ ?_
                  rcases List.mem_cons.mp z with z | z
                  · rw [z]; exact List.mem_cons_self
                  · exact List.mem_cons_of_mem _ (List.mem_append_right _ z)
            · rw [if_neg hf1] at hh; exact hh.elim
      · have e0 : i = ds.length := by omega
        refine .inl ⟨(it H' kp i).2 (by omega), ?_⟩
        rw [e0, List.drop_length] at hh
        unfold lcO at hh
        exact hh (.ref Dd) H' ⟨F', [Dd], S'.rep.of_wipe hf', ⟨Dd, va, [], rfl, hDd, ra, rfl⟩, n'.sublist ((List.Sublist.refl F').append (by simp)), ⟨Ext.refl _ _, fun b hb => .inl ((List.mem_append.mp hb).elim (fun z => List.mem_append_left _ z) fun z => List.mem_append_right _ (by rw [List.mem_singleton.mp z]; exact List.mem_cons_self)), S'.tab⟩⟩
    · rw [if_neg hf] at h1; exact h1.elim
end
section
variable {X : Cx} {adr : Adr} {T : List (Addr × Str)} {io : List Nat} {W : WX} {pos : Pos} {tg elt iter tg1 iter1 : Expr} {scope : Scope} {t t1 : TM} {im im1 : IM} {e : EM}
theorem pd_lc2 (n : Nat) (own : List (Str × Nat)) (vs1 : List Nat) (hn : X.N.length = n) (hc : X.calm = true) (hN : X.N.Nodup) (hi : PI X tg iter (tDI X.K adr T W im)) (ok : BlkOk X.N X.env.scope scope own) (hv : ∀ i ∈ vs1, i ∈ own.map (·.2))
    (hg : ∀ (s : Shared) (H : Hp) (C : Addr) (cl : List (Str × Addr)) (fp : List Addr), PG (X.blk s H scope (compEnvC scope cl C X.env) fp) tg (gD X.K adr T (others n (own.map (·.2))) t))
    (hi1 : ∀ (s : Shared) (H : Hp) (C : Addr) (cl : List (Str × Addr)) (fp : List Addr), PI (X.blk s H scope (compEnvC scope cl C X.env) fp) tg1 iter1 (tDI X.K adr T W0 im1))
    (hg1 : ∀ (s : Shared) (H : Hp) (C : Addr) (cl : List (Str × Addr)) (fp : List Addr), PG (X.blk s H scope (compEnvC scope cl C X.env) fp) tg1 (gD X.K adr T (others n vs1) t1))
    (he : ∀ (s : Shared) (H : Hp) (C : Addr) (cl : List (Str × Addr)) (fp : List Addr), PE (X.blk s H scope (compEnvC scope cl C X.env) fp) elt (tD X.K adr T W0 e)) (hs : ∀ x, foldedSetIterable iter X.env x = pure x := by intro _; rfl) (hs1 : ∀ env x, foldedSetIterable iter1 env x = pure x := by intro _ _; rfl) :
    PE X (.ListComp elt [⟨tg, iter, [], 0⟩, ⟨tg1, iter1, [], 0⟩] scope pos) (tD X.K adr T W (eLc2 im t im1 t1 e (own.map (·.2)) vs1)) :=
  ⟨fun pins s σ H Q I q => (pe_lc2 hc hN hi ok hv hg (fun _ _ _ _ _ => pts_d0) hi1 hg1 (fun _ _ _ _ _ => pts_d0) he hs hs1).run pins s σ H Q I (td_lc2 (fun _ _ _ => I.len.trans hn) hv q)⟩
theorem ps_dsetLc2 (i n : Nat) (own : List (Str × Nat)) (vs1 : List Nat) {y : Str} {py spos : Pos} (hn : X.N.length = n) (hc : X.calm = true) (hN : X.N.Nodup) (hi : PI X tg iter (tDI X.K adr T W im)) (ok : BlkOk X.N X.env.scope scope own) (hv : ∀ i ∈ vs1, i ∈ own.map (·.2))
    (hg : ∀ (s : Shared) (H : Hp) (C : Addr) (cl : List (Str × Addr)) (fp : List Addr), PG (X.blk s H scope (compEnvC scope cl C X.env) fp) tg (gD X.K adr T (others n (own.map (·.2))) t))
    (hi1 : ∀ (s : Shared) (H : Hp) (C : Addr) (cl : List (Str × Addr)) (fp : List Addr), PI (X.blk s H scope (compEnvC scope cl C X.env) fp) tg1 iter1 (tDI X.K adr T W0 im1))
    (hg1 : ∀ (s : Shared) (H : Hp) (C : Addr) (cl : List (Str × Addr)) (fp : List Addr), PG (X.blk s H scope (compEnvC scope cl C X.env) fp) tg1 (gD X.K adr T (others n vs1) t1))
    (he : ∀ (s : Shared) (H : Hp) (C : Addr) (cl : List (Str × Addr)) (fp : List Addr), PE (X.blk s H scope (compEnvC scope cl C X.env) fp) elt (tD X.K adr T W0 e))
    (hio : i ∉ io := by decide) (hy : X.N[i]? = some y := by rfl) (hyl : X.env.scope.names.lookup y = some .local := by rfl)
    (hsw : swapsWith (.ListComp elt [⟨tg, iter, [], 0⟩, ⟨tg1, iter1, [], 0⟩] scope pos) (some (.Name y py)) spos.line X.env = pure true := by exact sw_true rfl rfl rfl (by decide +kernel)) (hs : ∀ x, foldedSetIterable iter X.env x = pure x := by intro _; rfl) (hs1 : ∀ env x, foldedSetIterable iter1 env x = pure x := by intro _ _; rfl) :
    PS X (.Assign [.Name y py] (.ListComp elt [⟨tg, iter, [], 0⟩, ⟨tg1, iter1, [], 0⟩] scope pos) spos) (tDS X.K adr T io W (sSet i (eLc2 im t im1 t1 e (own.map (·.2)) vs1))) := by
  refine ⟨fun pins s σ H D I q => (ps_setLc2 (tt := tB (tD X.K adr T W0 (eC (.bl true)))) (tt1 := tB (tD X.K adr T W0 (eC (.bl true)))) hc hN hy hyl hsw hi ok hv hg (fun _ _ _ _ _ => pts_d0 (adr := adr) (T := T) (W := W0)) hi1 hg1 (fun _ _ _ _ _ => pts_d0 (adr := adr) (T := T) (W := W0)) he hs hs1).run pins s σ H D I ?_⟩
  exact td_lc2 (fun _ _ _ => I.len.trans hn) hv (ts1 q fun dx ρ1 F Fx x H1 S r n q => by
    obtain ⟨F', a, b, c⟩ := S.rep.store (i := i) r n
    exact q _ _ ⟨F', ⟨a, b, S.tab⟩, Stp.refl S.tab c, Fix.set hio⟩)
end
/-! ### t[::0 - 1], t a tuple -/
def dRev : D → Option D
  | .tup ds => if dupL ds then some (.tup ds.reverse) else none
  | _ => none
section
open PySem.Spec PyProof.Rows
variable {prog : Program} {w : World} {A : Around} {E : Value → Shared → Prop} {s : Shared}
theorem rev_range (xs : Array Value) : ((List.range xs.size).filterMap fun (k : Nat) => xs[(((xs.size : Int) - 1) + (k : Int) * (-1)).toNat]?).toArray = xs.toList.reverse.toArray := by
  congr 1
  have e : ∀ (n : Nat), n ≤ xs.size → ((List.range n).filterMap fun (k : Nat) => xs[(((xs.size : Int) - 1) + (k : Int) * (-1)).toNat]?) = (xs.toList.reverse).take n := by
    intro n
    induction n with
    | zero => intro _; simp
    | succ n ih =>
      intro h
      rw [List.range_succ, List.filterMap_append, ih (by omega)]
      have e1 : (((xs.size : Int) - 1) + (n : Int) * (-1)).toNat = xs.size - 1 - n := by omega
      have e2 : xs[xs.size - 1 - n]? = some (xs[xs.size - 1 - n]'(by omega)) := Array.getElem?_eq_getElem (by omega)
      have e3 : xs.toList.reverse[n]? = some (xs[xs.size - 1 - n]'(by omega)) := by
        rw [List.getElem?_reverse (by simpa using (show n < xs.size by omega))]
        simpa using e2
      rw [List.take_add_one, e3]
      simp only [List.filterMap_cons, List.filterMap_nil, e1, e2]
      rfl
  rw [e _ (Nat.le_refl _), List.take_of_length_le (by simp)]
theorem getItem_rev {t sl : Addr} {items : Array Value} {vl vu vs : Value} {Q : Value → Shared → Prop} (ht : IsTup s.heap t items) (hs : s.heap.IsSliceOf sl vl vu vs) (pl : IsPart vl none) (pu : IsPart vu none) (ps : IsPart vs (some (-1)))
    (h : Q (.ref s.heap.objs.size) { s with heap := s.heap.push { cls := .type "tuple", data := .seq items.toList.reverse.toArray } }) (hsz : items.size ≤ sizeLine) : wpAny (model prog w) A (getItem (.ref t) (.ref sl)) Q E s := by
  have sz : sizeOk (.seq items.toList.reverse.toArray) := by
    show items.toList.reverse.toArray.size ≤ sizeLine
    simpa using hsz
  obtain ⟨os, hos, hcs, hds⟩ := id hs
  have isSl : s.TypeIs (.ref sl) "slice" := ⟨os, hos, hcs⟩
  unfold getItem
  try with_reducible refine wpAny_holding ?_
  first | refine wpAny_bind (wpAny_pure ?_) | skip
  refine wpAny_bind (wpAny_sequenceKey ht.typeIs (by decide) ?_)
  refine wpAny_bind (wpAny_callSpecial?_slot (name := Str.ofString "__getitem__") ht.typeIs PyProof.Rows.slot_tuple_getitem (wpAny_call_entry PyProof.Rows.slot_tuple_getitem ht.typeIs entry_tuple_getitem ?_ (args_tuple_getitem _ _)))
  show wpAny _ _ (Builtin.Tuple.tupleItemsOf (.ref t) >>= _) _ _ s
  refine wpAny_bind (tupleItemsOf_ ht (wpAny_bind (wpAny_typeOf isSl ?_)))
  rw [if_pos (by decide)]
  refine wpAny_bind ?_
  unfold Builtin.Slice.sliceApplied Builtin.Slice.sliceFields
  refine wpAny_bind (wpAny_bind (wpAny_field hos hds (x := vl) rfl (wpAny_bind (wpAny_field hos hds (x := vu) rfl (wpAny_bind (wpAny_field hos hds (x := vs) rfl (wpAny_pure ?_)))))))
  refine wpAny_bind (HT.slicePart_ ps ?_)
  show wpAny _ _ (if ((-1 : Int) == 0) = true then _ else _) _ _ s
  rw [if_neg (by decide)]
  refine wpAny_bind (HT.slicePart_ pl (wpAny_bind (HT.slicePart_ pu (wpAny_bind (wpAny_pure ?_)))))
  have adj : Builtin.Slice.sliceAdjust none none (-1) (items.size : Int) = ((items.size : Int) - 1, -1) := by
    first | rfl | simp [Builtin.Slice.sliceAdjust]
  have plc : Builtin.Slice.slicePlaces ((items.size : Int) - 1) (-1) (-1) = items.size := by
    unfold Builtin.Slice.slicePlaces
    by_cases hz : items.size = 0
    · rw [hz]; decide
    · simp
      first | omega | (split <;> omega)
  show wpAny _ _ (match Builtin.Slice.sliceAdjust none none (-1) (items.size : Int) with | (lo, hi) => pure (lo, (-1 : Int), Builtin.Slice.slicePlaces lo hi (-1))) _ _ s
  rw [adj]
  show wpAny _ _ (pure ((items.size : Int) - 1, (-1 : Int), Builtin.Slice.slicePlaces ((items.size : Int) - 1) (-1) (-1))) _ _ s
  rw [plc]
  refine wpAny_pure ?_
  have no : ¬ ((((items.size : Int) - 1) == 0 && (-1 : Int) == 1 && items.size == items.size) = true) := by simp
  show wpAny _ _ (if ((((items.size : Int) - 1) == 0 && (-1 : Int) == 1 && items.size == items.size) = true) then _ else _) _ _ s
  rw [if_neg no, rev_range]
  first
    | exact wpAny_bind (m := Builtin.Tuple.tupleExact _) (wpAny_newObj_type (wpAny_pure ⟨_, rfl, wpAny_pure h⟩) sz)
    | exact wpAny_bind (m := Builtin.Tuple.tupleExact _) (wpAny_newObj_type (wpAny_bind (wpAny_pure (wpAny_pure ⟨_, rfl, wpAny_pure h⟩))) sz)
    | exact wpAny_bind (wpAny_bind (m := Builtin.Tuple.tupleExact _) (wpAny_newObj_type (wpAny_pure (wpAny_pure ⟨_, rfl, wpAny_pure h⟩)) sz))
    | exact wpAny_bind (wpAny_bind (m := Builtin.Tuple.tupleExact _) (wpAny_newObj_type (wpAny_pure ⟨_, rfl, wpAny_pure h⟩) sz))
end
section
variable {X : Cx} {adr : Adr} {T : List (Addr × Str)} {W : WX} {pos p1 p2 p3 p4 : Pos} {e : Expr} {f : EM} {te : TE}
def tRevT (K : PySem.W.Frag) (te : TE) : TE := fun σ H Q => te σ H fun x H1 => ∃ a xs, x = .ref a ∧ SqT K H1 a xs ∧ ∀ p, H1 p = none → Q (.ref p) (upd H1 p (.tup xs.reverse))
open PySem.Spec PyProof.Rows in
theorem pe_revT {k1 k2 : Nat} (he : PE X e te) : PE X (.Subscript e (.Slice none none (some (.BinOp (.Constant (.int 0) k1 p1) .Sub (.Constant (.int 1) k2 p2) p3)) p4) pos) (tRevT X.K te) := by
  refine ⟨fun pins s σ H Q I h => ?_⟩
  refine Subscript_ (thn (he.run pins s σ H _ I h) fun v s1 ⟨x, H1, I1, r1, a, xs, ex, hx, q⟩ => ?_)
  subst ex
  cases r1
  have stepE : PO X (some (.BinOp (.Constant (.int 0) k1 p1) .Sub (.Constant (.int 1) k2 p2) p3)) (tPart (tOp (rI0 fun i j => .int (i - j)) (tC (.int 0)) (tC (.int 1)))) := po_some (pe_op op_sub pe_int pe_int)
  refine wpAny_Slice (thn (po_none.run pins s1 σ H1 (fun o H2 => o = none ∧ H2 = H1) I1 ⟨rfl, rfl⟩) fun vl s2 ⟨l, H2, I2, pl, el, e2⟩ => thn (po_none.run pins s2 σ H2 (fun o H3 => o = none ∧ H3 = H2) I2 ⟨rfl, rfl⟩) fun vu s3 ⟨u, H3, I3, pu, eu, e3⟩ => ?_)
  subst el e2
  subst eu e3
  refine thn (stepE.run pins s3 σ H3 (fun o H4 => o = some (-1) ∧ H4 = H3) I3 ⟨0, 1, rfl, rfl, -1, rfl, rfl, rfl⟩) fun vs s4 ⟨o, H4, I4, ps, eo, e4⟩ => ?_
  subst eo e4
  have I5 : Inv X pins σ H4 { s4 with heap := s4.heap.push { cls := .type "slice", data := .fields #[vl, vu, vs] } } := I4.kept (t' := s4.toks) fun b ob q => Heap.get?_push_of_some _ q
  obtain ⟨its, r, ht, hz⟩ := I5.tuple hx
  have hlen := r.length
  show wpAny (model X.prog X.w) X.A (subscriptTail e (.Slice none none (some (.BinOp (.Constant (.int 0) k1 p1) .Sub (.Constant (.int 1) k2 p2) p3)) p4) (.ref a) (.ref s4.heap.objs.size)) (EP X pins σ Q) X.xe { s4 with heap := s4.heap.push { cls := .type "slice", data := .fields #[vl, vu, vs] } }
  refine tail_any (ops := [.ref a, .ref s4.heap.objs.size]) ht.typeIs (PyProof.Rows.slot_tuple_getitem.lookup) ?_ (by with_unfolding_all rfl)
  refine getItem_rev ht (Heap.IsSliceOf.new _ vl vu vs) pl pu ps ?_ (by rw [List.size_toArray]; omega)
  refine ⟨.ref _, _, I5.laid (t' := s4.toks) (o := .tup xs.reverse) (fun b ob q => Heap.get?_push_of_some _ q) (Nat.le_refl _) ?_, rfl, q _ (I5.hok.fresh (Nat.le_refl _))⟩
  exact ⟨by rw [List.length_reverse]; exact hz, _, r.reverse, ⟨_, Heap.get?_push_size _ rfl, rfl, _, rfl⟩⟩
theorem repL_rev {K : PySem.W.Frag} {H : Hp} : ∀ {ds : List D} {vs : List V}, RepL K adr H ds vs [] → RepL K adr H ds.reverse vs.reverse []
  | [], vs, h => by rw [h.1]; exact ⟨rfl, rfl⟩
  | d :: ds, vs, ⟨v, ws, F1, F2, e1, r1, r2, e2⟩ => by
    obtain ⟨z1, z2⟩ := List.append_eq_nil_iff.mp e2.symm
    rw [z1] at r1; rw [z2] at r2
    rw [e1, List.reverse_cons, List.reverse_cons]
    exact repL_append (repL_rev r2) (repL_cons (F2 := []) r1 repL_nil)
theorem dupL_rev : ∀ {ds : List D}, dupL ds = true → dupL ds.reverse = true
  | [], _ => rfl
  | d :: ds, h => by
    have h' : (dup d && dupL ds) = true := h
    rw [Bool.and_eq_true] at h'
    rw [List.reverse_cons, dupL_append, dupL_rev h'.2]
    show (true && (dup d && true)) = true
    rw [h'.1]; rfl
theorem pd_rev {k1 k2 : Nat} (he : PE X e (tD X.K adr T W f)) : PE X (.Subscript e (.Slice none none (some (.BinOp (.Constant (.int 0) k1 p1) .Sub (.Constant (.int 1) k2 p2) p3)) p4) pos) (tD X.K adr T W (eO1 (d1 dRev) f)) :=
  PE.imp (pe_revT he) fun σ H Q q => t1 q fun dx ρ1 F Fx x H1 S rx n q => by
    cases dx <;> first | exact q.elim | skip
    rename_i ds
    replace q : Hold X.K adr T W (opt (if dupL ds = true then some (D.tup ds.reverse) else none) ρ1) (F ++ Fx) H1 σ Q := q
    by_cases hd : dupL ds = true
    · rw [if_pos hd] at q
      obtain ⟨a, vs, ev, sq, rl⟩ := rx
      have a0 : Ans X.K adr T H1 (.tup ds.reverse) Q := hold_read q S fun b hb => List.mem_append_left _ hb
      exact ⟨a, vs, ev, sq, a0.newT S.tab (repL_rev (rl.dup hd)) (dupL_rev hd)⟩
    · rw [if_neg hd] at q; exact q.elim
end
/-! ### min(list, key=lambda x: ..) -/
/-- the first of the least keys -/
def minK : List (Int × D) → Option D
  | [] => none
  | p :: ps => some (ps.foldl (fun b q => if q.1 < b.1 then q else b) p).2
def keysOf (b : EM) (ρ : Env) : List D → Option (List (Int × D))
  | [] => some []
  | d :: ds => match b (ρ ++ [some d]), keysOf b ρ ds with
    | .ok (.int k) _, some l => some ((k, d) :: l)
    | _, _ => none
def eMinKey (f b : EM) : EM := fun ρ => (f ρ).bind fun x ρ1 => match x with
  | .lst ds => if dupL ds then match keysOf b ρ1 ds with
    | some l => opt (minK l) ρ1
    | none => .fail
    else .fail
  | _ => .fail
end DL
set_option Elab.async false
set_option linter.all false
set_option maxRecDepth 100000
set_option maxHeartbeats 4000000
/-! min(l, key=f), f any function, over any state -/
namespace DR
open PySem PySem.Spec PyProof.Rows
section
variable {prog : Program} {w : World} {A : Around} {l q I S : Addr} {vs : List Value} {G : Shared → Prop} {R : Result → Shared → Prop} {Q E : Value → Shared → Prop}
/-- a change at I or at S alone keeps the state -/
structure Stable (G : Shared → Prop) (I S : Addr) : Prop where
  at_ : ∀ (s : Shared) (h' : Heap) (t' : Nat) (b : Addr), b = I ∨ b = S → G s → (∀ c o, c ≠ b → s.heap.get? c = some o → h'.get? c = some o) → G { s with heap := h', toks := t' }
abbrev KeyOk (prog : Program) (w : World) (A : Around) (q : Addr) (vs : List Value) (kf : Nat → Int) (G : Shared → Prop) (I S : Addr) : Prop :=
  ∀ (i : Nat) (v : Value) (s : Shared), vs[i]? = some v → G s → (∃ oI oS, s.heap.get? I = some oI ∧ s.heap.get? S = some oS ∧ (∀ u, oI.data ≠ .cell u) ∧ (∀ u, oS.data ≠ .cell u)) →
    wpAny (model prog w) A (call (.ref q) [v]) (fun r s' => ∃ t, r = .int (kf i) t ∧ G s' ∧ (∀ o, s.heap.get? I = some o → s'.heap.get? I = some o) ∧ ∀ o, s.heap.get? S = some o → s'.heap.get? S = some o) (fun _ _ => False) s
theorem min_loop (kf : Nat → Int) (hh : A.handled = none) (hl : ∀ s, G s → s.heap.IsList l vs.toArray) (hlI : l ≠ I) (hSI : S ≠ I) (hz : vs.length ≤ sizeLine) (st : Stable G I S) (turn : KeyOk prog w A.in1 q vs kf G I S)
    (hR : ∀ i v s', vs[i]? = some v → (∀ j, j < vs.length → kf i ≤ kf j ∧ (j < i → kf i < kf j)) → G s' → R (.ok (.ret v)) s') :
    ∀ (r j i : Nat) (s : Shared) (vb : Value) (tb : Tok) (c : Nat), vs.length - (j + 1) = r → j + 1 ≤ vs.length → G s → s.heap.get? S = some (seqObj "list" #[vb, .int (kf i) tb] c) → s.heap.IsListIter I l (j + 1) → vs[i]? = some vb → i ≤ j → (∀ j', j' ≤ j → kf i ≤ kf j' ∧ (j' < i → kf i < kf j')) →
      codeAny (model prog w) A (.builtin "min.loop" ⟨[.ref I, .ref q, .ref S], []⟩) R s := by
  have hname : (toString "min" ++ toString ".loop" : String) = "min.loop" := by decide
  have W := Walks.list (prog := prog) (w := w) (A := A.in1) hh I l hlI vs.toArray
  have hsz : vs.toArray.size = vs.length := List.size_toArray ..
  intro r
  induction r with
  | zero =>
    intro j i s vb tb c hr hj g hS hit hvb hij hbest
    have hin : j + 1 = vs.length := by omega
    refine codeAny_builtin PySem.F.entry_min_loop ?_
    rw [Around.under_plainId PySem.F.plain_min_loop _]
    show wpAny _ A.in1 (seqItems? (.ref S) >>= _) _ _ _
    refine wpAny_bind (wpAny_seqItems hS rfl ?_)
    show wpAny _ A.in1 (tryCatch (pyNext (.ref I)) _ >>= _) _ _ _
    refine wpAny_bind (wpAny_tryCatch (W.done _ _ _ ⟨by rw [hsz, ← hin]; exact hit, hl s g⟩ fun h' tk' hk' => ?_))
    have g1 : G { s with heap := h', toks := tk' } := st.at_ s h' tk' I (.inl rfl) g fun b o hb e => hk' b o (fun z => hb (List.mem_singleton.mp z)) e
    have hS' := hk' S _ (by simpa using hSI) hS
    have s1 := Heap.SameBut.update h' S (Obj.mapSeq fun _ => (#[] : Array Value))
    show wpAny _ A.in1 (updateSeq S (fun _ => #[]) >>= _) _ _ _
    refine wpAny_bind ?_
    refine wpAny_updateSeq hS' rfl (wpAny_bind (wpAny_letGo (wpAny_pure ?_)))
    exact hR i vb _ hvb (fun j' hj' => hbest j' (by omega)) (st.at_ _ _ _ S (.inr rfl) g1 fun b o hb e => (s1.2 b hb).trans e)
  | succ r ih =>
    intro j i s vb tb c hr hj g hS hit hvb hij hbest
    have hlt : j + 1 < vs.length := by omega
    refine codeAny_builtin PySem.F.entry_min_loop ?_
    rw [Around.under_plainId PySem.F.plain_min_loop _]
    show wpAny _ A.in1 (seqItems? (.ref S) >>= _) _ _ _
    refine wpAny_bind (wpAny_seqItems hS rfl ?_)
    show wpAny _ A.in1 (tryCatch (pyNext (.ref I)) _ >>= _) _ _ _
    refine wpAny_bind (wpAny_tryCatch (W.item (j + 1) _ _ _ (by rw [hsz]; exact hlt) ⟨hit, hl s g⟩ fun v h' tk' hP hst' hk' => ?_))
    have hv : vs[j + 1]? = some v := by simpa using hP
    obtain ⟨oI', hoI', hoc, hod⟩ := id hst'.1
    have g1 : G { s with heap := h', toks := tk' } := st.at_ s h' tk' I (.inl rfl) g fun b o hb e => hk' b o (fun z => hb (List.mem_singleton.mp z)) e
    have hS1 := hk' S _ (by simpa using hSI) hS
    show wpAny _ A.in1 (tryCatch (holding [v] (call (.ref q) [v])) _ >>= _) _ _ _
    refine wpAny_bind (wpAny_tryCatch (wpAny_holding (wpAny_mono (turn (j + 1) v _ hv g1 ⟨oI', _, hoI', hS1, (fun u z => by rw [hod] at z; cases z), fun u z => by cases z⟩) (fun x s2 he => ?_) fun _ _ hF => hF.elim)))
    obtain ⟨t2, rfl, g2, kI, kS⟩ := he
    have hI2 := kI _ hoI'
    have hS2 := kS _ hS1
    have hit2 : s2.heap.IsListIter I l (j + 1 + 1) := ⟨oI', hI2, hoc, hod⟩
    show wpAny _ A.in1 (tryCatch (holding [v, .int (kf (j + 1)) t2] (richCompare .Lt (.int (kf (j + 1)) t2) (.int (kf i) tb) >>= _)) _ >>= _) _ _ _
    refine wpAny_bind (wpAny_tryCatch (wpAny_holding (wpAny_bind (CmpOf.ints_lt (prog := prog) (w := w) (A := A.in1) (P := fun i v => ∃ t, v = .int (kf i) t) kf (fun i v h => h) (j + 1) i _ _ _ _ _ ⟨t2, rfl⟩ ⟨tb, rfl⟩ ?_))))
    refine wpAny_bind (wpAny_holding (wpAny_truthy_bool ?_))
    refine wpAny_bind (wpAny_letGo (wpAny_pure ?_))
    by_cases hb' : kf (j + 1) < kf i
    · have s1 := Heap.SameBut.update s2.heap S (Obj.mapSeq fun _ => #[v, .int (kf (j + 1)) t2])
      obtain ⟨c2, hc2⟩ : ∃ c2, (s2.heap.update S (Obj.mapSeq fun _ => #[v, .int (kf (j + 1)) t2])).get? S = some (seqObj "list" #[v, .int (kf (j + 1)) t2] c2) := ⟨_, get?_update_seq hS2 fun _ => #[v, .int (kf (j + 1)) t2]⟩
      simp only [hb', decide_true, if_true]
      refine wpAny_bind ?_
      refine wpAny_updateSeq hS2 rfl (wpAny_bind (wpAny_letGo ?_))
      rw [hname]
      refine wpAny_pure ⟨plainId_quiet PySem.F.plain_min_loop _, ih (j + 1) (j + 1) _ v t2 c2 (by omega) hlt (st.at_ s2 _ s2.toks S (.inr rfl) g2 fun b o hb e => (s1.2 b hb).trans e) hc2 ⟨oI', (s1.2 I hSI.symm).trans hI2, hoc, hod⟩ hv (Nat.le_refl _) fun j' hj' => ?_⟩
      by_cases e : j' = j + 1
      · subst e
        exact ⟨by omega, fun _ => by omega⟩
      · have hb1 := hbest j' (by omega)
        have hb2 := hb1.1
        exact ⟨by omega, fun _ => by omega⟩
    · simp only [hb', decide_false, Bool.false_eq_true, if_false]
      refine wpAny_bind (wpAny_letGo ?_)
      rw [hname]
      refine wpAny_pure ⟨plainId_quiet PySem.F.plain_min_loop _, ih (j + 1) i _ vb tb c (by omega) hlt g2 hS2 hit2 hvb (by omega) fun j' hj' => ?_⟩
      by_cases e : j' = j + 1
      · subst e
        exact ⟨by omega, fun _ => by omega⟩
      · exact hbest j' (by omega)
theorem min_key {s : Shared} (kf : Nat → Int) (hh : A.handled = none) (g0 : G s) (hl : ∀ s, G s → s.heap.IsList l vs.toArray) (hne : 0 < vs.length) (hz : vs.length ≤ sizeLine)
    (gnew : ∀ h' : Heap, (∀ b o, s.heap.get? b = some o → h'.get? b = some o) → G { s with heap := h' }) (st : Stable G s.heap.objs.size (s.heap.objs.size + 1)) (turn : KeyOk prog w A.in1 q vs kf G s.heap.objs.size (s.heap.objs.size + 1))
    (hQ : ∀ i v s', vs[i]? = some v → (∀ j, j < vs.length → kf i ≤ kf j ∧ (j < i → kf i < kf j)) → G s' → Q v s') :
    wpAny (model prog w) A (call (.builtin "min") [.ref l] [(Str.ofString "key", .ref q)]) Q E s := by
  have hname : (toString "min" ++ toString ".loop" : String) = "min.loop" := by decide
  have hls := hl _ g0
  obtain ⟨ol, hol, _⟩ := id hls
  have hll : l < s.heap.objs.size := Heap.lt_size hol
  refine kmk_tree PySem.F.kind_min PySem.F.plain_min PySem.F.entry_min (kmk_min_key _ _) ?_
  show wpAny _ A.in1 (Builtin.Builtins.bindParams "min" ["key", "default"] 0 ⟨[], [(Str.ofString "key", .ref q)]⟩ >>= _) _ _ s
  refine wpAny_bind (wpAny_of_eq (show Builtin.Builtins.bindParams "min" ["key", "default"] 0 ⟨[], [(Str.ofString "key", .ref q)]⟩ = pure [some (.ref q), none] from rfl) ?_)
  refine wpAny_bind (wpAny_pure ?_)
  refine wpAny_bind (wpAny_pyIter_list hls ?_)
  refine wpAny_bind (wpAny_newList ?_ (Nat.zero_le _))
  rw [hname]
  have hS : (s.heap.push { cls := .type "list_iterator", data := .fields #[.ref l, .int 0 0] }).objs.size = s.heap.objs.size + 1 := size_push' ..
  have hlI : l ≠ s.heap.objs.size := Nat.ne_of_lt hll
  have hSI : s.heap.objs.size + 1 ≠ s.heap.objs.size := Nat.succ_ne_self _
  rw [hS]
  refine wpAny_pure ⟨plainId_quiet PySem.F.plain_min_loop _, ?_⟩
  have gI : ((s.heap.push { cls := .type "list_iterator", data := .fields #[.ref l, .int 0 0] }).push (seqObj "list" #[] 0)).get? s.heap.objs.size = some { cls := .type "list_iterator", data := .fields #[.ref l, .int 0 0] } :=
    Heap.get?_push_of_some _ (Heap.get?_push_size _ rfl)
  have gS : ((s.heap.push { cls := .type "list_iterator", data := .fields #[.ref l, .int 0 0] }).push (seqObj "list" #[] 0)).get? (s.heap.objs.size + 1) = some (seqObj "list" #[] 0) := by
    have := Heap.get?_push_size (s.heap.push { cls := .type "list_iterator", data := .fields #[.ref l, .int 0 0] }) (o := seqObj "list" #[] 0) rfl
    rw [hS] at this; exact this
  have g1 : G { s with heap := (s.heap.push { cls := .type "list_iterator", data := .fields #[.ref l, .int 0 0] }).push (seqObj "list" #[] 0) } := gnew _ fun b o e => Heap.get?_push_of_some _ (Heap.get?_push_of_some _ e)
  have W := Walks.list (prog := prog) (w := w) (A := A.in1) hh s.heap.objs.size l hlI vs.toArray
  have hsz : vs.toArray.size = vs.length := List.size_toArray ..
  refine codeAny_builtin PySem.F.entry_min_loop ?_
  rw [Around.under_plainId PySem.F.plain_min_loop _]
  show wpAny _ A.in1 (seqItems? (.ref _) >>= _) _ _ _
  refine wpAny_bind (wpAny_seqItems gS rfl ?_)
  show wpAny _ A.in1 (tryCatch (pyNext (.ref s.heap.objs.size)) _ >>= _) _ _ _
  refine wpAny_bind (wpAny_tryCatch (W.item 0 _ _ _ (by rw [hsz]; exact hne) ⟨⟨_, gI, rfl, rfl⟩, hl _ g1⟩ fun v h' tk' hP hst' hk' => ?_))
  have hv : vs[0]? = some v := by simpa using hP
  obtain ⟨oI', hoI', hoc, hod⟩ := id hst'.1
  have g2 : G { s with heap := h', toks := tk' } := st.at_ { s with heap := (s.heap.push { cls := .type "list_iterator", data := .fields #[.ref l, .int 0 0] }).push (seqObj "list" #[] 0) } h' tk' _ (.inl rfl) g1 fun b o hb e => hk' b o (fun z => hb (List.mem_singleton.mp z)) e
  have hS1 := hk' (s.heap.objs.size + 1) _ (by simpa using hSI) gS
  show wpAny _ A.in1 (tryCatch (holding [v] (call (.ref q) [v])) _ >>= _) _ _ _
  refine wpAny_bind (wpAny_tryCatch (wpAny_holding (wpAny_mono (turn 0 v _ hv g2 ⟨oI', _, hoI', hS1, (fun u z => by rw [hod] at z; cases z), fun u z => by cases z⟩) (fun x s2 he => ?_) fun _ _ hF => hF.elim)))
  obtain ⟨t2, rfl, g3, kI, kS⟩ := he
  have hI2 := kI _ hoI'
  have hS2 := kS _ hS1
  have s1 := Heap.SameBut.update s2.heap (s.heap.objs.size + 1) (Obj.mapSeq fun _ => #[v, .int (kf 0) t2])
  obtain ⟨c2, hc2⟩ : ∃ c2, (s2.heap.update (s.heap.objs.size + 1) (Obj.mapSeq fun _ => #[v, .int (kf 0) t2])).get? (s.heap.objs.size + 1) = some (seqObj "list" #[v, .int (kf 0) t2] c2) := ⟨_, get?_update_seq hS2 fun _ => #[v, .int (kf 0) t2]⟩
  show wpAny _ A.in1 (updateSeq (s.heap.objs.size + 1) (fun _ => #[v, .int (kf 0) t2]) >>= _) _ _ _
  refine wpAny_bind ?_
  refine wpAny_updateSeq hS2 rfl ?_
  rw [hname]
  refine wpAny_pure ⟨plainId_quiet PySem.F.plain_min_loop _, min_loop kf hh hl hlI hSI hz st turn hQ _ 0 0 _ v t2 c2 rfl hne (st.at_ s2 _ s2.toks _ (.inr rfl) g3 fun b o hb e => (s1.2 b hb).trans e) hc2 ⟨oI', (s1.2 _ hSI.symm).trans hI2, hoc, hod⟩ hv (Nat.le_refl _) fun j' hj' => ?_⟩
  have e : j' = 0 := by omega
  subst e
  exact ⟨by omega, fun h => absurd h (Nat.lt_irrefl _)⟩
end
end DR
set_option Elab.async false
set_option linter.all false
set_option maxRecDepth 100000
set_option maxHeartbeats 4000000
/-! a lambda with one parameter, called by a built-in -/
namespace DS
open PySem PySem.Spec PyProof.Rows L2 LamX
/-- the parameter x, captured names and globals: no other name -/
structure LamS1 (sc scope : Scope) (x : Str) : Prop where
  kind : scope.kind = .function
  co : scope.isCoroutine = false
  gen : scope.isGenerator = false
  par : scope.names.lookup x = some .local
  own : ∀ y ∈ scope.names, (y.2 = .local → y.1 = x) ∧ y.2 ≠ .cell
  free : ∀ y ∈ scope.names, y.2 = .free → sc.names.lookup y.1 = some .cell ∨ sc.names.lookup y.1 = some .free
def lamB1 (sc scope : Scope) (x : Str) : Bool :=
  decide (scope.kind = .function) && !scope.isCoroutine && !scope.isGenerator && decide (scope.names.lookup x = some .local) && scope.names.all fun y => (!decide (y.2 = .local) || decide (y.1 = x)) && !decide (y.2 = .cell) && (!decide (y.2 = .free) || decide (sc.names.lookup y.1 = some .cell) || decide (sc.names.lookup y.1 = some .free))
theorem lamS1_by {sc scope : Scope} {x : Str} (h : lamB1 sc scope x = true) : LamS1 sc scope x := by
  unfold lamB1 at h
  simp only [Bool.and_eq_true, Bool.or_eq_true, Bool.not_eq_true', decide_eq_true_eq, decide_eq_false_iff_not, List.all_eq_true] at h
  obtain ⟨⟨⟨⟨h1, h2⟩, h3⟩, h0⟩, h4⟩ := h
  refine ⟨h1, h2, h3, h0, fun y hy => ⟨fun e => ((h4 y hy).1.1).resolve_left fun z => z e, (h4 y hy).1.2⟩, fun y hy e => ?_⟩
  rcases (h4 y hy).2 with (z | z) | z
  · exact absurd e z
  · exact .inl z
  · exact .inr z
theorem LamS1.has {X : Cx} {scope : Scope} {x : Str} (L : LamS1 X.env.scope scope x) (ok : X.Ok) : ∀ y ∈ scope.names, y.2 = .free → ∃ c, X.env.cells.lookup y.1 = some c := fun y hy e => by
  rcases L.free y hy e with k | k
  · exact ok.has _ (.inl k)
  · exact ok.has _ (.inr k)
/-- the context of the lambda's body -/
def lamCx1 (X : Cx) (A : Around) (s : Shared) (H : Hp) (scope : Scope) (f c' : Addr) (x : Str) : Cx where
  prog := X.prog
  w := X.w
  K := X.K
  mg := X.mg
  base := X.base
  A := A.deeper (lamEnv X scope s.heap.objs.size f c')
  N := X.N ++ [x]
  s_0 := s
  H_0 := H
  env := lamEnv X scope s.heap.objs.size f c'
  outer := X.stack
  stack := lamEnv X scope s.heap.objs.size f c' :: X.stack
  ex := []
  fn := fun _ => false
  calm := true
  pn := []
  xe := fun _ _ => False
section
variable {X : Cx} {pins : List (Addr × Obj)} {σ : L2.St} {H : Hp} {s : Shared}
theorem lam_start1 {A : Around} {scope : Scope} {f c' : Addr} {x : Str} {a : V} {v : Value} {h₁ : Heap} {tk : Nat} (I : Inv X pins σ H s) (L : LamS1 X.env.scope scope x) (hx : x ∉ X.N) (hA : A.frames = some X.stack) (hd : A.handled = none) (r : RelV a v)
    (hns : h₁.Ns s.heap.objs.size fun y => ([(x, v)] : List (Str × Value)).reverse.lookup y) (kp : ∀ b o, s.heap.get? b = some o → h₁.get? b = some o) :
    Inv (lamCx1 X A s H scope f c' x) [] (σ ++ [some a]) H { s with heap := h₁, toks := tk } := by
  have hfree := L.has I.ok
  have e0 := I.env0
  have cm : ∀ {y c}, (cloFrom X.env.cells scope.names []).lookup y = some c → X.env.cells.lookup y = some c := fun {y c} e => by
    rcases cloFrom_mem (PySem.mem_of_lookup e) with hm | ⟨h1, h2⟩
    · cases hm
    · obtain ⟨c1, hc⟩ := hfree _ h1 rfl
      have hc : X.env.cells.lookup y = some c1 := hc
      have e2 : c = c1 := by
        rw [h2, hc] <;> rfl
      rw [e2]
      exact hc
  have look : ∀ {y}, scope.names.lookup y = some .free → ∃ c, (cloFrom X.env.cells scope.names []).lookup y = some c := fun {y} hl => by
    have hy : (y, NameKind.free) ∈ scope.names := PySem.mem_of_lookup hl
    exact mem_lookup (cloFrom_has (cells := X.env.cells) (acc := []) hy)
  have noA : ∀ b : Addr, b ∉ (lamCx1 X A s H scope f c' x).ex := fun b z => absurd (show b ∈ ([] : List Addr) from z) (by simp)
  refine ⟨⟨e0.mod, L.kind, rfl, rfl, Nat.le_refl _, fun y z c e1 e2 => I.ok.inj y z c (cm e1) (cm e2), fun y hy => ?_, fun y c z _ => ?_, fun _ => hd, Around.frames_deeper hA, .inr ⟨rfl, rfl⟩, fun b z => absurd z (noA b), e0.bs, e0.bsz, fun b _ _ => noA b,
      fun b z => absurd z (noA b), e0.funs, e0.frf⟩,
    rfl, e0.bare, Un.kept kp, ⟨_, hns, fun i y w e1 e2 e3 => ?_⟩, fun y c e => ?_, e0.hok.fresh (Nat.le_refl _), fun y c e => ?_, fun q hq => absurd (show q ∈ ([] : List (Addr × Obj)) ++ [] from hq) (by simp), e0.hok.kept kp, ?_⟩
  · have hy : scope.names.lookup y = some .cell ∨ scope.names.lookup y = some .free := hy
    rcases hy with hy | hy
    · exact absurd rfl (L.own _ (PySem.mem_of_lookup hy)).2
    · exact look hy
  · have z : false = true := z
    cases z
  · have e3 : Vis scope y := e3
    have e1' : (X.N ++ [x])[i]? = some y := e1
    by_cases hi : i < X.N.length
    · have e1 : X.N[i]? = some y := by rw [List.getElem?_append_left hi] at e1'; exact e1'
      have e2 : σ[i]? = some (some w) := by rw [List.getElem?_append_left (by rw [I.len]; exact hi)] at e2; exact e2
      have hyN : y ∈ X.N := List.mem_of_getElem? e1
      rcases e3 with k | k | k
      · exact absurd (by rw [← (L.own _ (PySem.mem_of_lookup k)).1 rfl]; exact hyN) hx
      · exact absurd rfl (L.own _ (PySem.mem_of_lookup k)).2
      · obtain ⟨m, hn, hl⟩ := I.loc
        have hvis : Vis X.env.scope y := (L.free _ (PySem.mem_of_lookup k) rfl).elim (fun k => .inr (.inl k)) (fun k => .inr (.inr k))
        obtain ⟨w', r', q⟩ := hl i y w e1 e2 hvis
        obtain ⟨c2, h2⟩ := look k
        refine ⟨w', r', .inr ⟨.inr k, c2, h2, ?_⟩⟩
        have c1 := cm h2
        rcases q with ⟨k', _⟩ | ⟨_, c3, e', z⟩
        · have k' : X.env.scope.names.lookup y = some .local := k'
          rcases L.free _ (PySem.mem_of_lookup k) rfl with k2 | k2 <;> rw [show X.env.scope.names.lookup y = _ from k2] at k' <;> cases k'
        · rw [c1] at e'
          cases e'
          obtain ⟨o, ho, hd⟩ := z
          exact ⟨o, kp _ _ ho, hd⟩
    · have hi2 : i = X.N.length := by
        have := (List.getElem?_eq_some_iff.mp e1').1
        simp at this; omega
      subst hi2
      rw [List.getElem?_append_right (Nat.le_refl _)] at e1'
      simp at e1'
      subst e1'
      rw [← I.len, List.getElem?_append_right (Nat.le_refl _)] at e2
      simp at e2
      subst e2
      exact ⟨v, r, .inl ⟨L.par, by simp [List.lookup]⟩⟩
  · obtain ⟨w', o, ho, hd⟩ := I.cell y c (cm e)
    exact ⟨w', o, kp _ _ ho, hd⟩
  · exact I.freeC y c (cm e)
  · show (σ ++ [some a]).length = (X.N ++ [x]).length
    rw [List.length_append, List.length_append, I.len]; rfl
/-- f(v), f the lambda, from within a built-in -/
theorem key_call {A : Around} {f c' : Addr} {pm ctv : Value} {params : Arguments} {body : Expr} {scope : Scope} {x : Str} {k : Nat} {a : V} {v : Value} {tb : TE} {Q : VK} (I : Inv X pins σ H s) (L : LamS1 X.env.scope scope x) (hx : x ∉ X.N) (hA : A.frames = some X.stack) (hr : Room (k + 1) A) (r : RelV a v)
    (of1 : s.heap.get? f = some (PySem.W.kla_obj "<lambda>" (X.env.qual ++ "<lambda>") params body scope (cloFrom X.env.cells scope.names []) pm c' ctv)) (hc : H c' = some (CodeO c' (X.env.qual ++ "<lambda>")))
    (hbind : bindArgs (PySem.W.kla_fn "<lambda>" (X.env.qual ++ "<lambda>") params body scope (cloFrom X.env.cells scope.names []) pm (.ref c') ctv) ⟨[v], []⟩ = pure [(x, v)])
    (hbody : ∀ (s : Shared) (H : Hp), Room k (A.deeper (lamEnv X scope s.heap.objs.size f c')) → PE (lamCx1 X A s H scope f c' x) body tb) (ht : tb (σ ++ [some a]) H Q) :
    wpAny (model X.prog X.w) A (call (.ref f) [v]) (fun u s' => ∃ w H', RelV w u ∧ Inv X pins σ H' s' ∧ Un (frs X.stack) [] H H' s.heap s'.heap ∧ Q w H') (fun _ _ => False) s := by
  obtain ⟨⟨oc, vs, t, hoc, hdc, hvc⟩, _, _⟩ := I.hok c' _ hc
  refine wpAny_call (PySem.W.kla_callFunE hr.depth of1 rfl L.co L.gen rfl ⟨c', oc, vs, t, rfl, hoc, hdc, hvc⟩ ?_)
  rw [hbind]
  refine wpAny_pure (wpAny_newFunctionEnv (fun y hy => (L.own y hy).2) (fun y hy => by rw [List.mem_singleton.mp hy]; exact L.par) (fun h₁ hns hsb => ⟨I.nolimit.fresh _ hsb, ?_⟩) L.kind)
  show codeAny _ _ (.expr body (lamEnv X scope s.heap.objs.size f c')) _ _
  have kp : ∀ b o, s.heap.get? b = some o → h₁.get? b = some o := fun b o e => hsb.extBut b o (Nat.ne_of_lt (Heap.lt_size e)) (Heap.get?_push_of_some _ e)
  have J : Inv (lamCx1 X A s H scope f c' x) [] (σ ++ [some a]) H { s with heap := h₁, toks := s.toks + ([(x, v)] : List (Str × Value)).length } := lam_start1 I L hx hA hr.hd r hns kp
  refine PySem.W.kla_codeExpr (wpAny_mono ((hbody s H (hr.deeper _)).run [] _ _ H Q J ht) (fun u s' hq => ?_) fun e s' hq => (show False from hq).elim)
  obtain ⟨w', H', J', rv, q⟩ := hq
  exact ⟨w', H', rv, I.call' J'.os J'.base J'.hok J'.bare (fun b y => absurd y List.not_mem_nil), J'.base, q⟩
end
end DS
set_option Elab.async false
set_option linter.all false
set_option maxRecDepth 100000
set_option maxHeartbeats 4000000
/-! min(list, key=lambda x: ..), in trees -/
namespace DS
open PySem PySem.Spec PyProof.Rows L2 LamX
section
variable {X : Cx} {pins : List (Addr × Obj)} {σ : L2.St} {H : Hp} {s : Shared}
/-- as lam_make2; and no address is lost -/
theorem lam_mk {T : List (Addr × Str)} {c P : Addr} {params : Arguments} {body : Expr} {scope : Scope} {pos : Pos} {E : Value → Shared → Prop} {Q : Value → Shared → Prop} (I : Inv X pins σ H s) (tb : TabB X.base X.mg c P) (hcode : X.env.code = .ref c)
    (inT : (P, X.env.qual ++ "<lambda>") ∈ T) (one : ∀ p ∈ T, p.1 = P → p.2 = X.env.qual ++ "<lambda>") (tabs : Tabs T H) (nodef : defaultsOf params X.env = ([], [])) (capt : ∀ y ∈ scope.names, y.2 = .free → ∃ c, X.env.cells.lookup y.1 = some c)
    (go : ∀ (f c' : Addr) (pm ctv : Value) (J : Hp) (s' : Shared), Inv X pins σ J s' → ExtN H J → (∀ b, J b = none → H b = none) → Tabs T J →
      s'.heap.get? f = some (PySem.W.kla_obj "<lambda>" (X.env.qual ++ "<lambda>") params body scope (cloFrom X.env.cells scope.names []) pm c' ctv) → J f = none → f ∉ frs X.stack → J c' = some (CodeO c' (X.env.qual ++ "<lambda>")) → Q (.ref f) s') :
    wpAny (model X.prog X.w) X.A (eval (.Lambda params body scope pos) X.env) Q E s := by
  obtain ⟨ps, tP, trip, among⟩ := tabs _ inT
  refine PySem.W.kla_eval nodef ?_
  have bltP : s.heap.BuiltinsAt X.mg P := tb.bm.keeps I.bk
  have objP : s.heap.get? P = some { cls := .none, data := .fields ps } := I.hok P _ tP
  have offStack : ∀ g, s.heap.objs.size ≤ g → g ∉ frs X.stack := fun g big mem => by
    rcases List.mem_cons.mp (I.stkSub _ mem) with e | e
    · exact Nat.lt_irrefl _ (Nat.lt_of_lt_of_le (by rw [e]; exact I.lt) big)
    · exact I.nofs big e
  cases found : codeAmong pos ps.toList with
  | some cv =>
    obtain ⟨c', rfl, isCode⟩ := among pos cv found
    refine PySem.W.kla_makeFunctionHit (mg := X.mg) (c := c) (P := P) (ps := ps) (closure_ok capt) I.ok.glob (I.mod.glob.keeps I.bk) hcode (tb.code.keeps I.bk) objP trip found bltP fun ctv h' tk grow size => ?_
    have J : Inv X pins σ H { s with heap := h'.push (PySem.W.kla_obj "<lambda>" (X.env.qual ++ "<lambda>") params body scope (cloFrom X.env.cells scope.names []) ((X.mg "__name__").getD .none) c' ctv), toks := tk } :=
      I.kept fun b o e => Heap.get?_push_of_some _ (grow b o e)
    exact go h'.objs.size c' ((X.mg "__name__").getD .none) ctv H _ J (ExtN.refl H) (fun _ z => z) tabs (Heap.get?_push_size _ rfl) (I.hok.fresh size) (offStack _ size) isCode
  | none =>
    refine PySem.W.kla_makeFunction (mg := X.mg) (c := c) (P := P) (ps := ps) (closure_ok capt) I.ok.glob (I.mod.glob.keeps I.bk) hcode (tb.code.keeps I.bk) objP trip found tb.gP bltP fun c' ctv h' tk grow ge lt rec_ tbl => ?_
    obtain ⟨c2, oc, us, t, e2, g1, g2, g3⟩ := rec_
    cases e2
    have size : s.heap.objs.size ≤ h'.objs.size := Nat.le_trans ge (Nat.le_of_lt lt)
    have newC : H c' = none := I.hok.fresh ge
    let fo := PySem.W.kla_obj "<lambda>" (X.env.qual ++ "<lambda>") params body scope (cloFrom X.env.cells scope.names []) ((X.mg "__name__").getD .none) c' ctv
    let more : Array Value := #[rawInt pos.line, rawInt pos.col, .ref c']
    have J := inv_table (t' := tk) (more := more) (h' := h'.push fo) I tP (fun b o hb e => Heap.get?_push_of_some _ (grow b o hb e)) (Heap.get?_push_of_some _ tbl) ge ⟨oc, us, t, Heap.get?_push_of_some _ g1, g2, g3⟩
    have nPc : P ≠ c' := ne_of_none tP newC
    have ext : ExtN H (upd (upd H P (.tbl (ps ++ more))) c' (CodeO c' (X.env.qual ++ "<lambda>"))) := fun b o e n => by
      rw [upd_ne (ne_of_none e newC)]
      have : b ≠ P := fun z => by
        rw [z, tP] at e
        exact n ps (Option.some.inj e).symm
      rw [upd_ne this]; exact e
    have asL : (ps ++ more).toList = ps.toList ++ [rawInt pos.line, rawInt pos.col, .ref c'] := by simp [more]
    refine go h'.objs.size c' ((X.mg "__name__").getD .none) ctv _ _ J ext (fun b z => ?_) (fun p hp => ?_) (Heap.get?_push_size _ rfl) ?_ (offStack _ size) upd_same
    · by_cases h1 : b = c'
      · rw [h1, upd_same] at z; cases z
      · rw [upd_ne h1] at z
        by_cases h2 : b = P
        · rw [h2, upd_same] at z; cases z
        · rw [upd_ne h2] at z; exact z
    · by_cases h2 : p.1 = P
      · rw [one p hp h2, h2]
        refine ⟨_, by rw [upd_ne nPc, upd_same], by rw [asL]; exact PySem.TriplesOk_snoc _ _ _ _ trip, fun p' cv hcv => ?_⟩
        rw [asL] at hcv
        rcases among_app _ trip hcv with z | z
        · obtain ⟨c0, e1, e2⟩ := among p' cv z
          exact ⟨c0, e1, ext _ _ e2 codeO_ne⟩
        · exact ⟨c', z, upd_same⟩
      · obtain ⟨qs, a1, a2, a3⟩ := tabs p hp
        refine ⟨qs, by rw [upd_ne (ne_of_none a1 newC), upd_ne h2]; exact a1, a2, fun p' cv hcv => ?_⟩
        obtain ⟨c0, e1, e2⟩ := a3 p' cv hcv
        exact ⟨c0, e1, ext _ _ e2 codeO_ne⟩
    · have n2 : h'.objs.size ≠ P := Nat.ne_of_gt (Nat.lt_of_lt_of_le (Heap.lt_size objP) size)
      rw [upd_ne (Nat.ne_of_gt lt), upd_ne n2]
      exact I.hok.fresh size
end
end DS
namespace DL
open PySem L2
open LamX (Tabs TabB)
/-- an expression that takes nothing out of a slot -/
def RO (b : EM) : Prop := ∀ ρ d ρ', b ρ = .ok d ρ' → ρ' = ρ
section
variable {K : PySem.W.Frag} {adr : Adr} {T : List (Addr × Str)} {H : Hp}
theorem repS_snoc : ∀ {ρ : Env} {σ : L2.St} {F : List Addr} {d : D} {a : V}, RepS K adr H ρ σ F → Rep K adr H d a [] → RepS K adr H (ρ ++ [some d]) (σ ++ [some a]) F
  | [], _, _, d, a, h, r => by
    obtain ⟨e1, e2⟩ := h
    subst e1; subst e2
    exact ⟨a, [], [], [], rfl, r, ⟨rfl, rfl⟩, rfl⟩
  | none :: ρ, _, _, d, a, ⟨s, σt, e, h⟩, r => by
    subst e
    exact ⟨s, σt ++ [some a], rfl, repS_snoc h r⟩
  | some x :: ρ, _, _, d, a, ⟨v, σt, F1, F2, e, r1, h, e2⟩, r => by
    subst e
    exact ⟨v, σt ++ [some a], F1, F2, rfl, r1, repS_snoc h r, e2⟩
theorem repS_unsnoc : ∀ {ρ : Env} {σ : L2.St} {F : List Addr} {d : D} {a : V}, dup d = true → ρ.length = σ.length → RepS K adr H (ρ ++ [some d]) (σ ++ [some a]) F → RepS K adr H ρ σ F
  | [], [], F, d, a, hd, _, h => by
    obtain ⟨v, σt, F1, F2, e, r1, h2, e2⟩ := h
    simp at e
    obtain ⟨e3, e4⟩ := e
    subst e4
    obtain ⟨_, z⟩ := h2
    have z1 := r1.dup' hd
    exact ⟨rfl, by rw [e2, z, z1]; rfl⟩
  | none :: ρ, x :: σ, F, d, a, hd, hl, h => by
    obtain ⟨s, σt, e, h2⟩ := h
    simp at e
    obtain ⟨e3, e4⟩ := e
    subst e4
    exact ⟨x, σ, rfl, repS_unsnoc hd (by simpa using hl) h2⟩
  | some y :: ρ, x :: σ, F, d, a, hd, hl, h => by
    obtain ⟨v, σt, F1, F2, e, r1, h2, e2⟩ := h
    simp at e
    obtain ⟨e3, e4⟩ := e
    subst e4
    exact ⟨v, σ, F1, F2, by rw [e3], r1, repS_unsnoc hd (by simpa using hl) h2, e2⟩
  | [], _ :: _, _, _, _, _, hl, _ => by simp at hl
  | _ :: _, [], _, _, _, _, hl, _ => by simp at hl
theorem keysOf_get {b : EM} {ρ : Env} : ∀ {ds : List D} {kl : List (Int × D)}, keysOf b ρ ds = some kl → kl.length = ds.length ∧ ∀ (i : Nat) d, ds[i]? = some d → ∃ k ρ', kl[i]? = some (k, d) ∧ b (ρ ++ [some d]) = .ok (.int k) ρ'
  | [], kl, h => by
    have e : kl = [] := (Option.some.inj h).symm
    subst e
    exact ⟨rfl, fun i d e => by simp at e⟩
  | d :: ds, kl, h => by
    unfold keysOf at h
    split at h
    · rename_i k ρ' l h1 h2
      cases h
      obtain ⟨a, b⟩ := keysOf_get h2
      refine ⟨by simp [a], fun i x e => ?_⟩
      cases i with
      | zero => simp at e; subst e; exact ⟨k, ρ', rfl, h1⟩
      | succ i => simpa using b i x (by simpa using e)
    · cases h
theorem fold_first : ∀ (l : List (Int × D)) (pre : List (Int × D)) (b : Int × D) (i : Nat), pre[i]? = some b → (∀ (j : Nat) (q : Int × D), pre[j]? = some q → b.1 ≤ q.1 ∧ (j < i → b.1 < q.1)) →
    ∃ i', (pre ++ l)[i']? = some (l.foldl (fun b q => if q.1 < b.1 then q else b) b) ∧ ∀ (j : Nat) (q : Int × D), (pre ++ l)[j]? = some q → (l.foldl (fun b q => if q.1 < b.1 then q else b) b).1 ≤ q.1 ∧ (j < i' → (l.foldl (fun b q => if q.1 < b.1 then q else b) b).1 < q.1)
  | [], pre, b, i, h1, h2 => ⟨i, by simpa using h1, by simpa using h2⟩
  | p :: l, pre, b, i, h1, h2 => by
    have hl : i < pre.length := (List.getElem?_eq_some_iff.mp h1).1
    rw [List.foldl_cons]
    have e : pre ++ p :: l = (pre ++ [p]) ++ l := by simp
    rw [e]
    by_cases hp : p.1 < b.1
    · rw [if_pos hp]
      refine fold_first l (pre ++ [p]) p pre.length (by simp) fun j q hq => ?_
      by_cases hj : j < pre.length
      · rw [List.getElem?_append_left hj] at hq
        have := (h2 j q hq).1
        exact ⟨by omega, fun _ => by omega⟩
      · rw [List.getElem?_append_right (by omega)] at hq
        have : j - pre.length = 0 := by
          have := (List.getElem?_eq_some_iff.mp hq).1
          simp at this; omega
        rw [this] at hq
        simp at hq
        subst hq
        exact ⟨Int.le_refl _, fun h => by omega⟩
    · rw [if_neg hp]
      refine fold_first l (pre ++ [p]) b i (by rw [List.getElem?_append_left hl]; exact h1) fun j q hq => ?_
      by_cases hj : j < pre.length
      · rw [List.getElem?_append_left hj] at hq
        exact h2 j q hq
      · rw [List.getElem?_append_right (by omega)] at hq
        have : j - pre.length = 0 := by
          have := (List.getElem?_eq_some_iff.mp hq).1
          simp at this; omega
        rw [this] at hq
        simp at hq
        subst hq
        exact ⟨by omega, fun h => by omega⟩
theorem minK_is {kl : List (Int × D)} {z : D} {i : Nat} {k : Int} {d : D} (h : minK kl = some z) (hi : kl[i]? = some (k, d)) (hb : ∀ (j : Nat) (q : Int × D), kl[j]? = some q → k ≤ q.1 ∧ (j < i → k < q.1)) : z = d := by
  cases kl with
  | nil => simp at hi
  | cons p ps =>
    unfold minK at h
    cases h
    obtain ⟨i', e1, e2⟩ := fold_first ps [p] p 0 rfl (fun j q hq => by
      cases j with
      | zero => simp at hq; subst hq; exact ⟨Int.le_refl _, fun h => by omega⟩
      | succ j => simp at hq)
    have e1' : (p :: ps)[i']? = some (ps.foldl (fun b q => if q.1 < b.1 then q else b) p) := e1
    have e2' : ∀ (j : Nat) (q : Int × D), (p :: ps)[j]? = some q → (ps.foldl (fun b q => if q.1 < b.1 then q else b) p).1 ≤ q.1 ∧ (j < i' → (ps.foldl (fun b q => if q.1 < b.1 then q else b) p).1 < q.1) := e2
    generalize ps.foldl (fun b q => if q.1 < b.1 then q else b) p = r at e1' e2' ⊢
    obtain ⟨a1, a2⟩ := hb i' r e1'
    obtain ⟨b1, b2⟩ := e2' i (k, d) hi
    have : i = i' := by
      rcases Nat.lt_trichotomy i i' with h | h | h
      · have := b2 h; simp at this a1; omega
      · exact h
      · have := a2 h; simp at this b1; omega
    subst this
    rw [hi] at e1'
    have := Option.some.inj e1'
    rw [← this]
end
section
variable {X : Cx} {adr : Adr} {T : List (Addr × Str)} {W : WX} {pos p kpos lpos : Pos} {e body : Expr} {x : Str} {params : Arguments} {scope : Scope} {c P : Addr} {k : Nat} {f b : EM}
theorem pd_minKey (he : PE X e (tD X.K adr T W f)) (hg : Gl X "min") (hm : X.mg "min" = none) (nx : x ∉ X.N) (tb : TabB X.base X.mg c P) (hcode : X.env.code = .ref c) (inT : (P, X.env.qual ++ "<lambda>") ∈ T) (one : ∀ p ∈ T, p.1 = P → p.2 = X.env.qual ++ "<lambda>")
    (hr : Room (k + 2) X.A) (L : DS.LamS1 X.env.scope scope x) (nodef : defaultsOf params X.env = ([], []))
    (hbind : ∀ (q : Str) (cl : List (Str × Addr)) (pm cv ctv v : Value), bindArgs (PySem.W.kla_fn "<lambda>" q params body scope cl pm cv ctv) ⟨[v], []⟩ = pure [(x, v)]) (ro : RO b)
    (hbody : ∀ (A : Around) (s : Shared) (H : Hp) (f c' : Addr), Room k (A.deeper (LamX.lamEnv X scope s.heap.objs.size f c')) → PE (DS.lamCx1 X A s H scope f c' x) body (tD X.K adr T W0 b))
    (hst : starEach [e] X.env = (false, eval e X.env) :: starEach [] X.env := by rfl) (hes : backTo pos (starEach [e] X.env) = (false, eval e X.env) :: backTo pos (starEach [] X.env) := by rfl) (hpl : (backTo pos (starEach [e] X.env)).any (·.1) = false := by rfl)
    (hall : (backToKw pos (keywordEach [⟨some "key", .Lambda params body scope lpos, kpos⟩] X.env)).all (·.1.isSome) = true := by rfl) (hnone : (backToKw pos (keywordEach [⟨some "key", .Lambda params body scope lpos, kpos⟩] X.env)).any (·.1.isNone) = false := by rfl)
    (hks : (backToKw pos (keywordEach [⟨some "key", .Lambda params body scope lpos, kpos⟩] X.env)).filterMap (·.1) = [Str.ofString "key"] := by rfl) :
    PE X (.Call (.Name "min" p) [e] [⟨some "key", .Lambda params body scope lpos, kpos⟩] pos) (tD X.K adr T W (eMinKey f b)) := by
  refine ⟨fun pins s σ H Q I h => ?_⟩
  have h1 : tCons (tD X.K adr T W f) tNil σ H (fun vs H1 => ∃ v ρ1 F1 Fx dx, vs = [v] ∧ Sim X.K adr T ρ1 σ H1 F1 ∧ Rep X.K adr H1 dx v Fx ∧ (F1 ++ Fx).Nodup ∧
      Hold X.K adr T W (match dx with | .lst ds => if dupL ds then (match keysOf b ρ1 ds with | some l => opt (minK l) ρ1 | none => .fail) else .fail | _ => .fail) (F1 ++ Fx) H1 σ Q) :=
    t1 h fun dx ρ1 F Fx v H1 S r n q => ⟨v, ρ1, F, Fx, dx, rfl, S, r, n, q⟩
  refine wpAny_Call_Name_kw (ld_blt I hg hm bt_min ?_ (by decide) (by decide))
  refine PyProof.Rows.callWith_kw (thn ((pa_cons he pa_nil hst).run pos pins s σ H _ I h1) fun us s1 ⟨vs, H1, I1, r1, v, ρ1, F1, Fx, dx, ev, S, rd, n1, q⟩ => ?_) hes hpl hall hnone
  subst ev
  cases dx <;> first | (exact (show False from q).elim) | skip
  rename_i ds
  replace q : Hold X.K adr T W (if dupL ds then (match keysOf b ρ1 ds with | some l => opt (minK l) ρ1 | none => .fail) else .fail) (F1 ++ Fx) H1 σ Q := q
  by_cases hd : dupL ds = true
  · rw [if_pos hd] at q
    cases ek : keysOf b ρ1 ds with
    | none => rw [ek] at q; exact q.elim
    | some kl =>
      rw [ek] at q
      replace q : Hold X.K adr T W (opt (minK kl) ρ1) (F1 ++ Fx) H1 σ Q := q
      cases ez : minK kl with
      | none => rw [ez] at q; exact q.elim
      | some z =>
        rw [ez] at q
        replace q : Hold X.K adr T W (.ok z ρ1) (F1 ++ Fx) H1 σ Q := q
        obtain ⟨l, xs, G0, evl, hol, rl, eFx⟩ := rd
        subst evl
        have eG0 := rl.dup' hd
        subst eG0
        subst eFx
        -- the function
        show wpAny _ _ (evalAll ((do let v ← eval (.Lambda params body scope lpos) X.env; standAt pos; pure v) :: [])) _ _ s1
        refine wpAny_evalAll_cons (wpAny_bind (DS.lam_mk I1 tb hcode inT one S.tab nodef (L.has I1.ok) fun fn c' pm ctv H2 s2 I2 eN dom T2 of2 fn2 nfr co2 => wpAny_bind (wpAny_standAt (wpAny_pure (wpAny_evalAll_nil ?_)))))
        rw [hks]
        have x12 : Ext [] H1 H2 := ⟨fun bb o e _ nt => eN bb o e nt, dom⟩
        have hol2 : H2 l = some (.lst xs) := eN _ _ hol (fun ps z => by cases z)
        obtain ⟨od, I3⟩ := I2.lock hol2 True.intro
        have x23 : Ext [l] H2 (upd H2 l (.frz od (.lst xs))) := Ext.upd hol2 True.intro (by simp)
        have hl3 : upd H2 l (.frz od (.lst xs)) l = some (.frz od (.lst xs)) := upd_same
        have nl : ∀ bb ∈ F1, bb ∉ [l] := fun bb hb z => (List.nodup_append.mp n1).2.2 bb hb bb z rfl
        have S3 : Sim X.K adr T ρ1 σ (upd H2 l (.frz od (.lst xs))) F1 := ⟨(S.rep.ext x12 fun _ _ z => nomatch z).ext x23 nl, S.nd, tabs_upd T2 hol2 True.intro⟩
        have rl3 : RepL X.K adr (upd H2 l (.frz od (.lst xs))) ds xs [] := (rl.ext0 x12).ext0 x23
        have fn3 : upd H2 l (.frz od (.lst xs)) fn = none := by
          rw [upd_ne (fun z => by rw [z, hol2] at fn2; cases fn2)]; exact fn2
        have co3 : upd H2 l (.frz od (.lst xs)) c' = some (LamX.CodeO c' (X.env.qual ++ "<lambda>")) := by
          rw [upd_ne (fun z => by
            rw [z, hol2] at co2
            have e3 := Option.some.inj co2
            unfold LamX.CodeO at e3
            cases e3)]; exact co2
        have st3 : Stp T (F1 ++ [l]) H1 F1 (upd H2 l (.frz od (.lst xs))) := ⟨(x12.mono (G := F1 ++ [l]) (fun _ z => nomatch z)).trans (x23.mono (G := [l]) fun _ z => z) (fun cc hc => .inl (List.mem_append_right _ hc)), (fun bb hb => .inl (List.mem_append_left _ hb)), S3.tab⟩
        -- what the list holds
        obtain ⟨e1, hz, its, nn, rv, e2⟩ := I3.hok l _ hl3
        rw [e1] at e2
        have eod : od = { cls := .type "list", data := .seq its.toArray nn } := Option.some.inj e2
        have flt : fn < s2.heap.objs.size := Heap.lt_size of2
        have fpI := I3.fpOk (Nat.le_refl s2.heap.objs.size) (I3.hok.fresh (Nat.le_refl _))
        have fpS := I3.fpOk (Nat.le_succ s2.heap.objs.size) (I3.hok.fresh (Nat.le_succ _))
        have nst : ∀ {bb : Addr}, bb ≠ X.env.locals → bb ∉ X.fs → bb ∉ frs X.stack := fun {bb} h1 h2 hb => by
          rcases List.mem_cons.mp (I3.stkSub bb hb) with z | z
          · exact h1 z
          · exact h2 z
        have hlen : ds.length = its.length := by rw [← rl3.length]; exact rv.length
        obtain ⟨kl1, kl2⟩ := keysOf_get ek
        have hne : 0 < its.length := by
          rw [← hlen, ← kl1]
          cases kl with
          | nil => cases ez
          | cons _ _ => simp
        have eus := Vals.ref1 r1
        subst eus
        refine DR.min_key (prog := X.prog) (w := X.w) (A := X.A) (l := l) (q := fn) (vs := its) (E := X.xe) (s := s2)
          (G := fun s' => ∃ J F', Sim X.K adr T ρ1 σ J F' ∧ L2.Inv X pins σ J s' ∧ J l = some (.frz od (.lst xs)) ∧ J fn = none ∧ J c' = some (LamX.CodeO c' (X.env.qual ++ "<lambda>")) ∧ RepL X.K adr J ds xs [] ∧ s'.heap.get? fn = some (PySem.W.kla_obj "<lambda>" (X.env.qual ++ "<lambda>") params body scope (cloFrom X.env.cells scope.names []) pm c' ctv) ∧ J s2.heap.objs.size = none ∧ J (s2.heap.objs.size + 1) = none ∧ Stp T (F1 ++ [l]) H1 F' J)
          (fun i => (kl.getD i (0, .non)).1) hr.hd ⟨_, F1, S3, I3, hl3, fn3, co3, rl3, of2, fpI.1, fpS.1, st3⟩ (fun s' ⟨J, F', _, I', hl', _⟩ => ?_) hne (by rw [← hlen, ← rl3.length]; exact hz) (fun h' kp => ?_) ⟨fun s' h' t' bb hbb ⟨J, F', a1, a2, a3, a4, a5, a6, a7, a8, a9, a10⟩ kp => ?_⟩ ?_ ?_
        · obtain ⟨g1, _⟩ := I'.hok l _ hl'
          rw [eod] at g1
          exact ⟨_, g1, rfl, _, rfl⟩
        · exact ⟨_, F1, S3, I3.kept kp, hl3, fn3, co3, rl3, kp _ _ of2, fpI.1, fpS.1, st3⟩
        · have key : J bb = none ∧ bb ≠ X.env.locals ∧ (bb ∈ X.ex ∨ X.s_0.heap.objs.size ≤ bb) ∧ (∀ y c, X.env.cells.lookup y = some c → c ≠ bb) ∧ (∀ p ∈ X.pn ++ pins, p.1 ≠ bb) ∧ s2.heap.objs.size ≤ bb := by
            rcases hbb with z | z
            · rw [z]; exact ⟨a8, fpI.2.1, fpI.2.2.2.1, fpI.2.2.2.2.1, fpI.2.2.2.2.2, Nat.le_refl _⟩
            · rw [z]; exact ⟨a9, fpS.2.1, fpS.2.2.2.1, fpS.2.2.2.2.1, fpS.2.2.2.2.2, Nat.le_succ _⟩
          exact ⟨J, F', a1, a2.turned (t' := t') kp key.1 key.2.1 key.2.2.1 key.2.2.2.1 key.2.2.2.2.1, a3, a4, a5, a6, kp _ _ (Nat.ne_of_lt (Nat.lt_of_lt_of_le flt key.2.2.2.2.2)) a7, a8, a9, a10⟩
        · intro i u s' hu ⟨J, F', a1, a2, a3, a4, a5, a6, a7, a8, a9, a10⟩ ⟨oI, oS, hI, hS, _, _⟩
          have hil : i < ds.length := by rw [hlen]; exact (List.getElem?_eq_some_iff.mp hu).1
          have hdi : ds[i]? = some ds[i] := List.getElem?_eq_getElem hil
          obtain ⟨a, ha, ra⟩ := rep_items a6 hdi
          obtain ⟨u', hu', ru⟩ := rv.get ha
          rw [hu] at hu'
          cases hu'
          obtain ⟨kk, ρ', hk, hb⟩ := kl2 i _ hdi
          have eρ := ro _ _ _ hb
          subst eρ
          have ek2 : (kl.getD i (0, D.non)).1 = kk := by simp [hk]
          have hdd : dup ds[i] = true := dupL_get hd hdi
          have S' : Sim X.K adr T (ρ1 ++ [some ds[i]]) (σ ++ [some a]) J F' := ⟨repS_snoc a1.rep ra, a1.nd, a1.tab⟩
          refine thn (DS.key_call (A := X.A.in1) (k := k) (x := x) (a := a) (tb := tD X.K adr T W0 b) (Q := fun w J' => w = .int kk ∧ ∃ F2, Sim X.K adr T ρ1 σ J' F2 ∧ Stp T F' J F2 J') a2 L nx (I.ok.frames) hr.in1 ru a7 a5 (hbind _ _ _ _ _ _) (fun s H hR => hbody _ s H fn c' hR) ⟨_, F', S', ?_⟩) fun r s3 ⟨w', J', rw', I', un, ew, F2, S2, st2⟩ => ?_
          · rw [hb]
            intro w' J' p
            obtain ⟨F2, Fd, S2, r2, n2, st2⟩ := p.sim
            have eFd : Fd = [] := r2.2
            rw [eFd, List.append_nil] at st2
            refine ⟨r2.1, F2, ⟨repS_unsnoc hdd (by rw [a1.rep.length]) S2.rep, S2.nd, S2.tab⟩, st2⟩
          · subst ew
            obtain ⟨t, et⟩ := rw'
            subst et
            dsimp only
            rw [ek2]
            have cOwn : c' ∉ F' := fun hc => by
              obtain ⟨o, e1, e2⟩ := a1.rep.mem c' hc
              rw [a5] at e1
              have e3 := Option.some.inj e1
              unfold LamX.CodeO at e3
              rw [← e3] at e2
              exact e2
            refine ⟨t, rfl, ⟨J', F2, S2, I', st2.ext.imm a3 True.intro, un.free fn _ a7 a4 (by simp), st2.ext.keep c' _ a5 (.inl cOwn) (fun ps => LamX.codeO_ne ps), a6.ext0 st2.ext, un.keep fn _ a7 a4 nfr (by simp), un.free _ _ hI a8 (by simp), un.free _ _ hS a9 (by simp), a10.trans st2 fun _ z => z⟩, fun o ho => un.keep _ _ ho a8 (nst fpI.2.1 fpI.2.2.1) (by simp), fun o ho => un.keep _ _ ho a9 (nst fpS.2.1 fpS.2.2.1) (by simp)⟩
        · intro i u s' hu best ⟨J, F', a1, a2, a3, a4, a5, a6, a7, a8, a9, a10⟩
          have hil : i < ds.length := by rw [hlen]; exact (List.getElem?_eq_some_iff.mp hu).1
          have hdi : ds[i]? = some ds[i] := List.getElem?_eq_getElem hil
          obtain ⟨a, ha, ra⟩ := rep_items a6 hdi
          obtain ⟨u', hu', ru⟩ := rv.get ha
          rw [hu] at hu'
          cases hu'
          obtain ⟨kk, ρ', hk, hb⟩ := kl2 i _ hdi
          have ez2 : z = ds[i] := minK_is ez hk fun j q hq => by
            have hj : j < its.length := by rw [← hlen, ← kl1]; exact (List.getElem?_eq_some_iff.mp hq).1
            have := best j hj
            simp [hk, hq] at this
            exact this
          exact ⟨a, J, a2, ru, q a J ⟨F', [], a1.rep, by rw [ez2]; exact ra, by simpa using a1.nd, by simpa using a10⟩⟩
  · rw [if_neg hd] at q; exact q.elim
end
end DL
set_option Elab.async false
set_option linter.all false
set_option maxRecDepth 100000
set_option maxHeartbeats 4000000
namespace DL
open PySem L2
open LamX (Tabs TabB)
section
variable {K : PySem.W.Frag} {adr : Adr} {T : List (Addr × Str)}
/-- the reading of a def's body, from its promise -/
theorem fn_core {N : List Str} {m : List Bool} {b : SM} {vs : List V} {H : Hp} {Q : VK} {E : XK} (hmv : m.length = vs.length) (h : spD K adr T m (runFn N.length m b) vs H Q E) : tDS K adr T (ioOf m) (fun cls d _ H => E cls d H) b { nx := fun _ H' => Q .non H', rt := Q } (L2.start N vs) H := by
  obtain ⟨ds, F, r, nd, tb, hl, h⟩ := h
  have hvl : vs.length = ds.length := r.length
  have S0 : RepS K adr H (start0 N.length ds) (L2.start N vs) F := by
    unfold start0 L2.start
    rw [hvl]
    exact repS_start r
  refine ⟨start0 N.length ds, F, ⟨S0, nd, tb⟩, ?_⟩
  have outs : ∀ {ρ' : Env} {σ' : L2.St} {H' : Hp} {F' : List Addr} {os : List D}, RepS K adr H' ρ' σ' F' → Fix (ioOf m) (L2.start N vs) σ' → getO m ρ' = some os → ∃ Fo, RepO K adr H' m os vs Fo ∧ Fo.Sublist F' := fun {ρ' σ' H' F' os} s' fx e =>
    repO_get s' e (by omega) fun i hi => by
      rw [fx.at_ i (mem_ioOf hi), start_get]
      have := (List.getElem?_eq_some_iff.mp hi).1
      omega
  unfold runFn at h
  cases eb : b (start0 N.length ds) with
  | bk ρ' => simp only [eb] at h
  | ct ρ' => simp only [eb] at h
  | fail => simp only [eb] at h
  | nx ρ' =>
    simp only [eb] at h
    intro σ' H' ⟨F', S', st', fx⟩
    cases eo : getO m ρ' with
    | none => simp only [eo] at h
    | some os =>
      simp only [eo] at h
      obtain ⟨Fo, a, sub⟩ := outs S'.rep fx eo
      exact h .non H' Fo [] a ⟨rfl, rfl⟩ (by simpa using S'.nd.sublist sub) (by simpa using st'.sub fun c hc => sub.subset hc)
  | rt d ρ' =>
    simp only [eb] at h
    intro v σ' H' ⟨F', Fd, s', rd, n', st', fx⟩
    cases eo : getO m ρ' with
    | none => simp only [eo] at h
    | some os =>
      simp only [eo] at h
      obtain ⟨Fo, a, sub⟩ := outs s' fx eo
      have sb : (Fo ++ Fd).Sublist (F' ++ Fd) := sub.append (.refl _)
      exact h v H' Fo Fd a rd (n'.sublist sb) (st'.sub fun c hc => sb.subset hc)
  | exc xx ρ' =>
    simp only [eb] at h
    intro cls dx σ' H' ⟨F', S', rx, st', fx⟩
    cases eo : getO m ρ' with
    | none => simp only [eo] at h
    | some os =>
      simp only [eo] at h
      obtain ⟨Fo, a, sub⟩ := outs S'.rep fx eo
      exact h cls dx H' Fo a rx (S'.nd.sublist sub) (st'.sub fun c hc => sub.subset hc)

end
section
variable {P : Program} {w : World} {K : PySem.W.Frag} {mg : Str → Option Value} {base : Heap} {adr : Adr} {T : List (Addr × Str)}
/-- a def whose code object is known -/
abbrev BodyOkC (P : Program) (w : World) (K : PySem.W.Frag) (mg : Str → Option Value) (base : Heap) (adr : Adr) (T : List (Addr × Str)) (N : List Str) (qual : Str) (st : Stmt) (f : Addr) (cd : Value) (k : Nat) (m : List Bool) (b : SM) : Prop :=
  ∀ (A : Around) (outer : List PySem.Env) (s : Shared) (H : Hp) (E : XK), Room k (A.deeper (PyProof.Rows.envOfC qual (defScope st) s.heap.objs.size f cd)) →
    Takes (cxOf (L2.CX P w) P w K mg base N qual (defScope st) f cd A outer s H E) (fun cls d _ H => E cls d H) →
    PSs (cxOf (L2.CX P w) P w K mg base N qual (defScope st) f cd A outer s H E) (defBody st) (tDS K adr T (ioOf m) (fun cls d _ H => E cls d H) b)
theorem fn_dC {x qual : Str} {st : Stmt} {f c : Addr} {fd : FuncData} {N ps : List Str} {k : Nat} (m : List Bool) (b : SM) (hm : m.length = ps.length) (hF : Fun K x qual st f fd) (hc : fd.code = .ref c) (S : FnScope N ps (defScope st)) (hb : BodyOkC P w K mg base adr T N qual st f (.ref c) k m b) :
    FnOk P w K mg base (L2.CX P w) (k + 1) f fd ps (spD K adr T m (runFn N.length m b)) := by
  obtain ⟨oc, od, kV, doc, pm, an, cdv, ct, osl, rfl, lk, hcd⟩ := hF.ex
  have e : cdv = .ref c := hc
  subst e
  refine fn_of lk hcd S (fun vs H Q E h => ?_) fun A outer s H vs Q E hr h => ?_
  · obtain ⟨ds, F, r, _, _, hl, _⟩ := h
    rw [r.length, hl, hm]
  · refine ⟨_, hb A outer s H E hr (takes_of rfl rfl rfl rfl), fn_core ?_ h⟩
    obtain ⟨ds, F, r, _, _, hl, _⟩ := h
    rw [r.length, hl]
structure MDc (K : PySem.W.Frag) (x qual : Str) (st : Stmt) (C f : Addr) (ps : List Str) (c P : Addr) (T : List (Addr × Str)) : Prop where
  ex : ∃ fd : FuncData, Fun K x qual st f fd ∧ Binds K fd ps [] ∧ fd.code = .ref c
  at_ : PySem.W.findIn K (.ref C) x = some (some (.ref f))
  fn : PySem.W.isFn K (.ref f) = true
theorem kmt_ofC {n : Nat} {x qual : Str} {st : Stmt} {f c Pt : Addr} {ps N : List Str} {k : Nat} (cl : Cls K (adr n)) (F : MDc K x qual st (adr n) f ps c Pt T) (S : FnScope N ps (defScope st)) (m : List Bool) (b : SM) (hm : m.length = ps.length) (hx : (fk n).contains x = false) (hb : BodyOkC P w K mg base adr T N qual st f (.ref c) k m b) : KMt P w K mg base adr T (k + 1) n x m (runFn N.length m b) := by
  obtain ⟨fd, hF, bd, hc⟩ := F.ex
  exact ⟨cl, f, fd, ps, fn_dC m b hm hF hc S hb, ⟨F.at_, F.fn, hF.kp⟩, bd, hx⟩
end
/-! ### expressions that take nothing out -/
theorem ro_C {d : D} : RO (eC d) := fun ρ d' ρ' h => by cases h; rfl
theorem ro_V {i : Nat} : RO (eV i) := fun ρ d' ρ' h => by
  unfold eV at h
  split at h
  · split at h
    · cases h; rfl
    · cases h
  · cases h
theorem ro_fld {j n i : Nat} : RO (eFld j n i) := fun ρ d' ρ' h => by
  unfold eFld at h
  split at h
  · split at h
    · split at h
      · split at h
        · cases h; rfl
        · cases h
      · cases h
    · cases h
  · cases h
theorem ro_O2 {h : List D → Option D} {f g : EM} (hf : RO f) (hg : RO g) : RO (eO2 h f g) := fun ρ d' ρ' e => by
  unfold eO2 e2 at e
  cases e1 : f ρ with
  | ok x ρ1 =>
    rw [e1] at e
    have z1 := hf _ _ _ e1
    subst z1
    replace e : ((g ρ1).bind fun y ρ => opt (h [x, y]) ρ) = .ok d' ρ' := e
    cases e2 : g ρ1 with
    | ok y ρ2 =>
      rw [e2] at e
      have z2 := hg _ _ _ e2
      subst z2
      replace e : opt (h [x, y]) ρ2 = .ok d' ρ' := e
      cases e3 : h [x, y] with
      | none => rw [e3] at e; cases e
      | some z => rw [e3] at e; cases e; rfl
    | exc _ _ => rw [e2] at e; cases e
    | fail => rw [e2] at e; cases e
  | exc _ _ => rw [e1] at e; cases e
  | fail => rw [e1] at e; cases e
end DL
set_option Elab.async false
set_option linter.all false
set_option maxRecDepth 100000
set_option maxHeartbeats 4000000
namespace DL
open PySem L2
open LamX (Tabs TabB TabS)
/-! ### the end -/
theorem cx_no {P : Program} {w : World} {H : Hp} {s s2 : Shared} {e : Value} (z : L2.CX P w [] H s (fun _ _ _ => False) e s2) : False := by
  obtain ⟨a, B, H', cls, d, h1, h2, h3, h4, h5, h6, h7, h8⟩ := z
  exact h8
def adrOf (l : List (Nat × Addr)) : Adr := ⟨fun n => (l.lookup n).getD 0, 0, 0, fun _ _ _ _ _ => True, "", False⟩
section
variable {K : PySem.W.Frag} {adr : Adr} {T : List (Addr × Str)} {H : Hp}
theorem repL_int : ∀ (ns : List Int), RepL K adr H (ns.map D.int) (ns.map V.int) []
  | [] => ⟨rfl, rfl⟩
  | n :: ns => repL_cons (F1 := []) (F2 := []) ⟨rfl, rfl⟩ (repL_int ns)
/-- the law's promise, of what its term makes of a list of ints -/
theorem law_sp {G : List D → FR} {a : Addr} {ns : List Int} (hS : SqL K H a (ns.map V.int)) (hT : Tabs T H) (h1 : G [.lst (ns.map D.int)] = .ok (.bl true) []) (h2 : G [.fls (ns.map D.int)] = .ok (.bl true) []) :
    spD K adr T [false] G [.ref a] H (fun v _ => v = .bl true) fun _ _ _ => False := by
  have fin : ∀ {d : D} {F : List Addr}, Rep K adr H d (.ref a) F → F.Nodup → G [d] = .ok (.bl true) [] → spD K adr T [false] G [.ref a] H (fun v _ => v = .bl true) fun _ _ _ => False := fun {d F} r n e => by
    refine ⟨[d], F, by simpa using repL_cons r repL_nil, n, hT, rfl, ?_⟩
    rw [e]
    exact fun v H' Fo Fd _ rd _ _ => rd.1
  rcases hS with (h | ⟨o, h⟩) | h
  · exact fin (d := .lst (ns.map D.int)) (F := [a]) ⟨a, _, [], rfl, h, repL_int ns, rfl⟩ (by simp) h1
  · exact fin (d := .fls (ns.map D.int)) (F := []) ⟨a, _, rfl, .inl ⟨o, h⟩, repL_int ns⟩ List.nodup_nil h2
  · exact fin (d := .fls (ns.map D.int)) (F := []) ⟨a, _, rfl, .inr h, repL_int ns⟩ List.nodup_nil h2
theorem tabs1 {P : Addr} {q : Str} (h : H P = some (.tbl #[])) : Tabs [(P, q)] H := fun p hp => by
  rw [List.mem_singleton.mp hp]
  exact TabS.nil h
theorem one1 {P : Addr} {q : Str} : ∀ p ∈ ([(P, q)] : List (Addr × Str)), p.1 = P → p.2 = q := fun p hp _ => by rw [List.mem_singleton.mp hp]
end
section
variable {K : PySem.W.Frag} {mg : Str → Option Value} {h : Heap}
theorem fd_mk {x : Str} {st : Stmt} {f : Addr} {ps : List Str} {oc : Value} {od an : Option Addr} {osl : Array (Option Value)} {kV doc pm cdv ct : Value} (X : K.In h) (G : h.Ns mainGlobals mg) (a : PySem.W.nsIn K mainGlobals x = some (some (.ref f)))
    (l : K.lookup f = some ⟨oc, od, .func (PySem.W.fnOf x x (defArgs st) (defBody st) (defScope st) .none kV doc pm an cdv ct), osl⟩) (c : PySem.W.codeIn K cdv x = true) (k : PySem.W.keepIn K (.ref f) = true)
    (b : ∀ (kV doc pm : Value) (an : Option Addr) (cdv ct : Value) (us : List Value), us.length = ps.length → bindArgs (PySem.W.fnOf x x (defArgs st) (defBody st) (defScope st) .none kV doc pm an cdv ct) ⟨us, []⟩ = pure (ps.zip us)) : FD K mg x st f ps := by
  have F := fun_mk (st := st) l c k
  exact ⟨⟨_, F, F.binds b⟩, PySem.W.mg_of X G a⟩
theorem md_mk {x qual : Str} {st : Stmt} {C f : Addr} {ps : List Str} {oc : Value} {od an : Option Addr} {osl : Array (Option Value)} {kV doc pm cdv ct : Value} (a : PySem.W.findIn K (.ref C) x = some (some (.ref f))) (i : PySem.W.isFn K (.ref f) = true)
    (l : K.lookup f = some ⟨oc, od, .func (PySem.W.fnOf x qual (defArgs st) (defBody st) (defScope st) .none kV doc pm an cdv ct), osl⟩) (c : PySem.W.codeIn K cdv qual = true) (k : PySem.W.keepIn K (.ref f) = true)
    (b : ∀ (kV doc pm : Value) (an : Option Addr) (cdv ct : Value) (us : List Value), us.length = ps.length → bindArgs (PySem.W.fnOf x qual (defArgs st) (defBody st) (defScope st) .none kV doc pm an cdv ct) ⟨us, []⟩ = pure (ps.zip us)) : MD K x qual st C f ps := by
  have F := fun_mk (st := st) l c k
  exact ⟨⟨_, F, F.binds b⟩, a, i⟩
theorem mdc_mk {x qual : Str} {st : Stmt} {C f c0 P0 : Addr} {T : List (Addr × Str)} {ps : List Str} {oc : Value} {od an : Option Addr} {osl : Array (Option Value)} {kV doc pm ct : Value} (a : PySem.W.findIn K (.ref C) x = some (some (.ref f))) (i : PySem.W.isFn K (.ref f) = true)
    (l : K.lookup f = some ⟨oc, od, .func (PySem.W.fnOf x qual (defArgs st) (defBody st) (defScope st) .none kV doc pm an (.ref c0) ct), osl⟩) (c : PySem.W.codeIn K (.ref c0) qual = true) (k : PySem.W.keepIn K (.ref f) = true)
    (b : ∀ (kV doc pm : Value) (an : Option Addr) (cdv ct : Value) (us : List Value), us.length = ps.length → bindArgs (PySem.W.fnOf x qual (defArgs st) (defBody st) (defScope st) .none kV doc pm an cdv ct) ⟨us, []⟩ = pure (ps.zip us)) : MDc K x qual st C f ps c0 P0 T := by
  have F := fun_mk (st := st) l c k
  exact ⟨⟨_, F, F.binds b, rfl⟩, a, i⟩
end
end DL
set_option Elab.async false
set_option linter.all false
set_option maxRecDepth 100000
set_option maxHeartbeats 4000000
namespace DL
open PySem L2
/-! ### evaluation: each rule for a term that is given its slots -/
@[simp] theorem un_bind {α β : Type} (r : Res α) (f : α → DL.Env → Res β) : r.bind f = (match r, f with
  | .ok a ρ, f => f a ρ
  | .exc x ρ, _ => .exc x ρ
  | .fail, _ => .fail) := rfl
@[simp] theorem un_sbind {α : Type} (r : Res α) (f : α → DL.Env → SR) : r.sbind f = (match r, f with
  | .ok a ρ, f => f a ρ
  | .exc x ρ, _ => .exc x ρ
  | .fail, _ => .fail) := rfl
@[simp] theorem un_d1 (g : D → Option D) (l : List D) : d1 g l = (match l with
  | [a] => g a
  | _ => none) := rfl
@[simp] theorem un_d2 (g : D → D → Option D) (l : List D) : d2 g l = (match l with
  | [a, b] => g a b
  | _ => none) := rfl
@[simp] theorem un_opt (o : Option D) (ρ : DL.Env) : opt o ρ = (match o, ρ with
  | some z, ρ => .ok z ρ
  | none, _ => .fail) := rfl
@[simp] theorem ev_aNil (ρ : Env) : aNil ρ = .ok [] ρ := rfl
@[simp] theorem ev_nx (ρ : Env) : sNx ρ = .nx ρ := rfl
@[simp] theorem ev_sFail (ρ : Env) : sFail ρ = .fail := rfl
@[simp] theorem ev_eFail (ρ : Env) : eFail ρ = .fail := rfl
@[simp] theorem ev_seq (f g : SM) (ρ : Env) : sSeq f g ρ = match f ρ with | .nx ρ => g ρ | r => r := rfl
@[simp] theorem ev_set (i : Nat) (f : EM) (ρ : Env) : sSet i f ρ = (f ρ).sbind fun d ρ => .nx (ρ.set i (some d)) := rfl
@[simp] theorem ev_drop (f : EM) (ρ : Env) : sDrop f ρ = (f ρ).sbind fun _ ρ => .nx ρ := rfl
@[simp] theorem ev_ret (f : EM) (ρ : Env) : sRet f ρ = (f ρ).sbind fun d ρ => .rt d ρ := rfl
@[simp] theorem ev_if (c : EM) (f g : SM) (ρ : Env) : sIf c f g ρ = (c ρ).sbind fun x ρ => match x with | .bl true => f ρ | .bl false => g ρ | _ => .fail := rfl
@[simp] theorem ev_C (d : D) (ρ : Env) : eC d ρ = .ok d ρ := rfl
@[simp] theorem ev_V (i : Nat) (ρ : Env) : eV i ρ = match ρ[i]? with | some (some d) => if dup d then .ok d ρ else .fail | _ => .fail := rfl
@[simp] theorem ev_M (i : Nat) (ρ : Env) : eM i ρ = match ρ[i]? with | some (some d) => .ok d (ρ.set i none) | _ => .fail := rfl
@[simp] theorem ev_O2 (h : List D → Option D) (f g : EM) (ρ : Env) : eO2 h f g ρ = (f ρ).bind fun x ρ => (g ρ).bind fun y ρ => opt (h [x, y]) ρ := rfl
@[simp] theorem ev_O1 (h : List D → Option D) (f : EM) (ρ : Env) : eO1 h f ρ = (f ρ).bind fun x ρ => opt (h [x]) ρ := rfl
@[simp] theorem ev_OA (h : List D → Option D) (g : AM) (ρ : Env) : eOA h g ρ = (g ρ).bind fun ds ρ => opt (h ds) ρ := rfl
@[simp] theorem ev_aCons (f : EM) (g : AM) (ρ : Env) : aCons f g ρ = (f ρ).bind fun d ρ => (g ρ).bind fun ds ρ => .ok (d :: ds) ρ := rfl
@[simp] theorem ev_eIf (c f g : EM) (ρ : Env) : eIf c f g ρ = (c ρ).bind fun x ρ => match x with | .bl true => f ρ | .bl false => g ρ | _ => .fail := rfl
@[simp] theorem ev_eAnd (f g : EM) (ρ : Env) : eAnd f g ρ = (f ρ).bind fun x ρ => match x with | .bl true => g ρ | .bl false => .ok (.bl false) ρ | _ => .fail := rfl
@[simp] theorem ev_eOr (f g : EM) (ρ : Env) : eOr f g ρ = (f ρ).bind fun x ρ => match x with | .bl true => .ok (.bl true) ρ | .bl false => g ρ | _ => .fail := rfl
@[simp] theorem ev_eNot (f : EM) (ρ : Env) : eNot f ρ = (f ρ).bind fun x ρ => match x with | .bl b => .ok (.bl (!b)) ρ | _ => .fail := rfl
@[simp] theorem ev_eTup (g : AM) (ρ : Env) : eTup g ρ = (g ρ).bind fun ds ρ => if ds.length ≤ sizeLine then .ok (.tup ds) ρ else .fail := rfl
@[simp] theorem ev_eLst (g : AM) (ρ : Env) : eLst g ρ = (g ρ).bind fun ds ρ => if ds.length ≤ sizeLine then .ok (.lst ds) ρ else .fail := rfl
@[simp] theorem ev_eCh (h1 h2 : List D → Option D) (f g k : EM) (ρ : Env) : eCh h1 h2 f g k ρ = (f ρ).bind fun x ρ => (g ρ).bind fun y ρ => match h1 [x, y] with | some (.bl true) => (k ρ).bind fun z ρ => opt (h2 [y, z]) ρ | some (.bl false) => .ok (.bl false) ρ | _ => .fail := rfl
@[simp] theorem ev_eSl (f : EM) (l u : Option EM) (ρ : Env) : eSl f l u ρ = (f ρ).bind fun x ρ => (prt l ρ).bind fun y ρ => (prt u ρ).bind fun z ρ => opt (slA x y z) ρ := rfl
@[simp] theorem ev_prt0 (ρ : Env) : prt none ρ = .ok .non ρ := rfl
@[simp] theorem ev_prt1 (f : EM) (ρ : Env) : prt (some f) ρ = (f ρ).bind toI := rfl
@[simp] theorem ev_kill (l : List Nat) (p : SM) (ρ : Env) : sKill l p ρ = p (killL ρ l) := rfl
@[simp] theorem ev_sFrz (i : Nat) (p : SM) (ρ : Env) : sFrz i p ρ = match ρ[i]? with | some (some d) => if frzOk d then p (ρ.set i (some (freeze d))) else .fail | _ => .fail := rfl
@[simp] theorem ev_eFrz (f : EM) (ρ : Env) : eFrz f ρ = (f ρ).bind fun d ρ => if frzOk d then .ok (freeze d) ρ else .fail := rfl
@[simp] theorem ev_asg (f : EM) (t : TM) (ρ : Env) : sAsg f t ρ = (f ρ).sbind fun d ρ => match t ρ d with | some ρ => .nx ρ | none => .fail := rfl
@[simp] theorem ev_tgN (i : Nat) (d : D) (ρ : Env) : tgN i ρ d = some (ρ.set i (some d)) := rfl
@[simp] theorem ev_tgNil0 (ρ : Env) : tgNil ρ [] = some ρ := rfl
@[simp] theorem ev_tgCons (t : TM) (u : Env → List D → Option Env) (d : D) (ds : List D) (ρ : Env) : tgCons t u ρ (d :: ds) = (t ρ d).bind fun ρ => u ρ ds := rfl
@[simp] theorem ev_tgT (n : Nat) (u : Env → List D → Option Env) (ds : List D) (ρ : Env) : tgT n u ρ (.tup ds) = if ds.length = n then u ρ ds else none := rfl
@[simp] theorem ev_par (i j : Nat) (g : AM) (ρ : Env) : sPar i j g ρ = match g ρ with | .ok [a, b] ρ => .nx ((ρ.set i (some a)).set j (some b)) | .ok _ _ => .fail | .exc x ρ => .exc x ρ | .fail => .fail := rfl
@[simp] theorem ev_for (im : IM) (t : TM) (b : SM) (ρ : Env) : sFor im t b ρ = (im ρ).sbind fun ds ρ => forL (turnS t b) ds ρ := rfl
@[simp] theorem ev_forL0 (st : D → SM) (ρ : Env) : forL st [] ρ = .nx ρ := rfl
@[simp] theorem ev_turnS (t : TM) (b : SM) (d : D) (ρ : Env) : turnS t b d ρ = match t ρ d with | some ρ1 => b ρ1 | none => .fail := rfl
@[simp] theorem ev_iE (f : EM) (k : D → Option (List D)) (ρ : Env) : iE f k ρ = (f ρ).bind fun d ρ => match k d with | some l => .ok l ρ | none => .fail := rfl
@[simp] theorem ev_iA (g : AM) (k : List D → Option (List D)) (ρ : Env) : iA g k ρ = (g ρ).bind fun ds ρ => match k ds with | some l => .ok l ρ | none => .fail := rfl
@[simp] theorem ev_ixS (i : Nat) (f : EM) (ρ : Env) : eIxS i f ρ = match ρ[i]? with | some (some (.lst _)) => (f ρ).bind fun d ρ1 => (match ρ1[i]?, d with | some (some (.lst ds)), .int k => (match atI ds k with | some x => if dup x then .ok x ρ1 else .fail | none => .fail) | _, _ => .fail) | _ => .fail := rfl
@[simp] theorem ev_sIx (i : Nat) (g f : EM) (ρ : Env) : sIx i g f ρ = (f ρ).sbind fun d ρ => match ρ[i]? with | some (some (.lst _)) => (g ρ).sbind fun k ρ1 => ixPut i d k ρ1 | _ => .fail := rfl
@[simp] theorem ev_ixPut (i : Nat) (d k : D) (ρ : Env) : ixPut i d k ρ = match ρ[i]?, k with | some (some (.lst ds)), .int k => (match ixN ds.length k with | some j => .nx (ρ.set i (some (.lst (ds.set j d)))) | none => .fail) | _, _ => .fail := rfl
@[simp] theorem ev_app (i : Nat) (f : EM) (ρ : Env) : eApp i f ρ = match ρ[i]? with | some (some (.lst _)) => (f ρ).bind fun d ρ1 => (match ρ1[i]? with | some (some (.lst ds)) => if ds.length < sizeLine then .ok .non (ρ1.set i (some (.lst (ds ++ [d])))) else .fail | _ => .fail) | _ => .fail := rfl
@[simp] theorem ev_fld (j n i : Nat) (ρ : Env) : eFld j n i ρ = match ρ[j]? with | some (some (.ins n' ds)) => if n' == n then (match ds[i]? with | some d => if dup d then .ok d ρ else .fail | none => .fail) else .fail | _ => .fail := rfl
@[simp] theorem ev_sFld (j n i : Nat) (f : EM) (ρ : Env) : sFld j n i f ρ = (f ρ).sbind fun d ρ => match ρ[j]? with | some (some (.ins n' ds)) => if n' == n then (match putI ds i d with | some ds' => .nx (ρ.set j (some (.ins n ds'))) | none => .fail) else .fail | _ => .fail := rfl
@[simp] theorem ev_L1 (h : List D → Option D) (i : Nat) (ρ : Env) : eL1 h i ρ = match ρ[i]? with | some (some d) => opt (h [d]) ρ | _ => .fail := rfl
@[simp] theorem ev_cNil (ρ : Env) : cNil ρ = .ok [] ρ := rfl
@[simp] theorem ev_cVal (f : EM) (g : CM) (ρ : Env) : cVal f g ρ = (f ρ).bind fun d ρ => (g ρ).bind fun ds ρ => .ok (.inl d :: ds) ρ := rfl
@[simp] theorem ev_cIo (j : Nat) (g : CM) (ρ : Env) : cIo j g ρ = match ρ[j]? with | some (some _) => (g ρ).bind fun ds ρ => .ok (.inr j :: ds) ρ | _ => .fail := rfl
@[simp] theorem ev_call (m : List Bool) (G : List D → FR) (cm : CM) (ρ : Env) : eCall m G cm ρ = (cm ρ).bind fun avs ρ => callR m G avs ρ := rfl
@[simp] theorem ev_methV (j n : Nat) (m : List Bool) (G : List D → FR) (cm : CM) (ρ : Env) : eMethV j n m G cm ρ = match ρ[j]? with | some (some d) => if isIns n d then eCall m G (cIo j cm) ρ else .fail | _ => .fail := rfl
@[simp] theorem ev_make (n : Nat) (m : List Bool) (G : List D → FR) (cm : CM) (ρ : Env) : eMake n m G cm ρ = (cm ρ).bind fun avs ρ => makeR n m G avs ρ := rfl
@[simp] theorem ev_callV (j : Nat) (m : List Bool) (tbl : Nat → Option (List D → FR)) (cm : CM) (ρ : Env) : eCallV j m tbl cm ρ = match ρ[j]? with | some (some (.ref n)) => (match tbl n with | some G => eCall m G cm ρ | none => .fail) | _ => .fail := rfl
@[simp] theorem ev_minKey (f b : EM) (ρ : Env) : eMinKey f b ρ = (f ρ).bind fun x ρ1 => match x with | .lst ds => if dupL ds then (match keysOf b ρ1 ds with | some l => opt (minK l) ρ1 | none => .fail) else .fail | _ => .fail := rfl
@[simp] theorem ev_run (n : Nat) (m : List Bool) (b : SM) (ds : List D) : runFn n m b ds = match b (start0 n ds) with | .nx ρ => (match getO m ρ with | some outs => .ok .non outs | none => .fail) | .rt d ρ => (match getO m ρ with | some outs => .ok d outs | none => .fail) | .exc x ρ => (match getO m ρ with | some outs => .exc x outs | none => .fail) | _ => .fail := rfl
@[simp] theorem ev_start (n : Nat) (ds : List D) : start0 n ds = ds.map some ++ List.replicate (n - ds.length) none := rfl
@[simp] theorem ev_lc (im : IM) (t : TM) (c e : EM) (vs : List Nat) (ρ : Env) : eLc im t c e vs ρ = (im ρ).bind fun ds ρ1 => if freeL ρ1 vs then lcL t c e vs ds [] ρ1 else .fail := rfl
@[simp] theorem ev_lc2 (im : IM) (t : TM) (im1 : IM) (t1 : TM) (e : EM) (vs vs1 : List Nat) (ρ : Env) : eLc2 im t im1 t1 e vs vs1 ρ = (im ρ).bind fun ds ρ1 => if freeL ρ1 vs then lcO t im1 t1 e vs vs1 ds [] ρ1 else .fail := rfl
@[simp] theorem ev_isIns (n k : Nat) (ds : List D) : isIns n (.ins k ds) = (k == n) := rfl
@[simp] theorem ev_getO0 (ρ : Env) : getO [] ρ = some [] := by cases ρ <;> rfl
@[simp] theorem ev_getO1 (m : List Bool) (x : Option D) (ρ : Env) : getO (false :: m) (x :: ρ) = getO m ρ := rfl
@[simp] theorem ev_getO2 (m : List Bool) (d : D) (ρ : Env) : getO (true :: m) (some d :: ρ) = (getO m ρ).map (d :: ·) := rfl
@[simp] theorem un_rep {α : Type} (n : Nat) (a : α) : List.replicate (n + 1) a = a :: List.replicate n a := rfl
@[simp] theorem un_toI (x : D) (ρ : DL.Env) : toI x ρ = (match x with
  | .int i => .ok (.int i) ρ
  | _ => .fail) := rfl
@[simp] theorem un_tk0 (ρ : DL.Env) : takeS [] ρ = some ([], ρ) := rfl
@[simp] theorem un_tk1 (d : D) (l : List AV) (ρ : DL.Env) : takeS (.inl d :: l) ρ = (takeS l ρ).map fun p => (d :: p.1, p.2) := rfl
@[simp] theorem un_tk2 (j : Nat) (l : List AV) (ρ : DL.Env) : takeS (.inr j :: l) ρ = (match ρ[j]? with
    | some (some d) => (takeS l (ρ.set j none)).map fun p => (d :: p.1, p.2)
    | _ => none) := rfl
@[simp] theorem un_pt0 (ρ : DL.Env) : putS [] [] [] ρ = some ρ := rfl
@[simp] theorem un_pt1 (m : List Bool) (d : D) (l : List AV) (outs : List D) (ρ : DL.Env) : putS (false :: m) (.inl d :: l) outs ρ = putS m l outs ρ := by cases outs <;> rfl
@[simp] theorem un_pt2 (m : List Bool) (d o : D) (l : List AV) (outs : List D) (ρ : DL.Env) : putS (true :: m) (.inl d :: l) (o :: outs) ρ = putS m l outs ρ := rfl
@[simp] theorem un_pt3 (m : List Bool) (j : Nat) (o : D) (l : List AV) (outs : List D) (ρ : DL.Env) : putS (true :: m) (.inr j :: l) (o :: outs) ρ = (match ρ[j]? with
    | some none => putS m l outs (ρ.set j (some o))
    | _ => none) := rfl
@[simp] theorem un_call (m : List Bool) (G : List D → FR) (avs : List AV) (ρ : DL.Env) : callR m G avs ρ = (if avs.length = m.length then match takeS avs ρ with
  | some (ds, ρ2) => match G ds with
    | .ok d outs => match putS m avs outs ρ2 with
      | some ρ3 => .ok d ρ3
      | none => .fail
    | .exc x outs => match putS m avs outs ρ2 with
      | some ρ3 => .exc x ρ3
      | none => .fail
    | .fail => .fail
  | none => .fail
  else .fail) := rfl
/-! operations -/
@[simp] theorem op_add (i j : Int) : dAdd (.int i) (.int j) = some (.int (i + j)) := rfl
@[simp] theorem op_addb (i : Int) (b : Bool) : dAdd (.int i) (.bl b) = some (.int (i + bI b)) := rfl
@[simp] theorem op_addL (a b : List D) : dAdd (.lst a) (.lst b) = if a.length + b.length ≤ sizeLine then (if dupL a && dupL b then some (.lst (a ++ b)) else none) else none := rfl
@[simp] theorem op_addT (a b : List D) : dAdd (.tup a) (.tup b) = if a.length + b.length ≤ sizeLine then (if dupL a && dupL b then some (.tup (a ++ b)) else none) else none := rfl
@[simp] theorem op_sub (i j : Int) : dSub (.int i) (.int j) = some (.int (i - j)) := rfl
@[simp] theorem op_mul (i j : Int) : dMul (.int i) (.int j) = if sm i || sm j then some (.int (i * j)) else none := rfl
@[simp] theorem op_fdiv (i j : Int) : dFdiv (.int i) (.int j) = if decide (j ≠ 0) && decide (j.natAbs < 1073741824) then some (.int (i.fdiv j)) else none := rfl
@[simp] theorem op_mod (i j : Int) : dMod (.int i) (.int j) = if decide (j ≠ 0) then some (.int (i.fmod j)) else none := rfl
@[simp] theorem op_pow (i j : Int) : dPow (.int i) (.int j) = if decide (0 ≤ j) && decide (j ≤ 1000000) && decide (i.natAbs < 2 ^ 64) then some (.int (i ^ j.toNat)) else none := rfl
@[simp] theorem op_lt (i j : Int) : dLt (.int i) (.int j) = some (.bl (decide (i < j))) := rfl
@[simp] theorem op_le (i j : Int) : dLe (.int i) (.int j) = some (.bl (decide (i ≤ j))) := rfl
@[simp] theorem op_gt (i j : Int) : dGt (.int i) (.int j) = some (.bl (decide (j < i))) := rfl
@[simp] theorem op_ge (i j : Int) : dGe (.int i) (.int j) = some (.bl (decide (j ≤ i))) := rfl
@[simp] theorem op_neg (i : Int) : dNeg (.int i) = some (.int (-i)) := rfl
@[simp] theorem op_isN (a : D) : dIsN a .non = some (.bl (isNone a)) := rfl
@[simp] theorem op_notN (a : D) : dNotN a .non = some (.bl (!isNone a)) := rfl
@[simp] theorem isN_non : isNone .non = true := rfl
@[simp] theorem isN_int (i : Int) : isNone (.int i) = false := rfl
@[simp] theorem isN_bl (i : Bool) : isNone (.bl i) = false := rfl
@[simp] theorem isN_str (i : Str) : isNone (.str i) = false := rfl
@[simp] theorem isN_tup (l : List D) : isNone (.tup l) = false := rfl
@[simp] theorem isN_lst (l : List D) : isNone (.lst l) = false := rfl
@[simp] theorem isN_fls (l : List D) : isNone (.fls l) = false := rfl
@[simp] theorem op_ixT (ds : List D) (i : Int) : dIx (.tup ds) (.int i) = (atI ds i).bind fun x => if dup x then some x else none := rfl
@[simp] theorem op_ixL (ds : List D) (i : Int) : dIx (.lst ds) (.int i) = (atI ds i).bind fun x => if dup x then some x else none := rfl
@[simp] theorem op_ixF (ds : List D) (i : Int) : dIx (.fls ds) (.int i) = (atI ds i).bind fun x => if dup x then some x else none := rfl
@[simp] theorem op_lenT (ds : List D) : dLen (.tup ds) = some (.int ds.length) := rfl
@[simp] theorem op_lenL (ds : List D) : dLen (.lst ds) = some (.int ds.length) := rfl
@[simp] theorem op_lenF (ds : List D) : dLen (.fls ds) = some (.int ds.length) := rfl
@[simp] theorem op_abs (i : Int) : dAbs (.int i) = some (.int (if i < 0 then -i else i)) := rfl
@[simp] theorem op_max2 (i j : Int) : dMax2 (.int i) (.int j) = some (.int (if j > i then j else i)) := rfl
@[simp] theorem op_min2 (i j : Int) : dMin2 (.int i) (.int j) = some (.int (if j < i then j else i)) := rfl
@[simp] theorem op_intI (i : Int) : dInt (.int i) = some (.int i) := rfl
@[simp] theorem op_intB (i : Bool) : dInt (.bl i) = some (.int (bI i)) := rfl
@[simp] theorem op_divmod (i j : Int) : dDivmod (.int i) (.int j) = if decide (0 < j) && decide (j < 1073741824) then some (.tup [.int (i / j), .int (i % j)]) else none := rfl
@[simp] theorem op_listT (ds : List D) : dList (.tup ds) = if dupL ds then some (.lst ds) else none := rfl
@[simp] theorem op_listL (ds : List D) : dList (.lst ds) = if dupL ds then some (.lst ds) else none := rfl
@[simp] theorem op_listF (ds : List D) : dList (.fls ds) = if dupL ds then some (.lst ds) else none := rfl
@[simp] theorem op_tupT (ds : List D) : dTuple (.tup ds) = if dupL ds then some (.tup ds) else none := rfl
@[simp] theorem op_tupL (ds : List D) : dTuple (.lst ds) = if dupL ds then some (.tup ds) else none := rfl
@[simp] theorem op_tupF (ds : List D) : dTuple (.fls ds) = if dupL ds then some (.tup ds) else none := rfl
@[simp] theorem op_itL (ds : List D) : itemsL (.lst ds) = if dupL ds then some ds else none := rfl
@[simp] theorem op_itF (ds : List D) : itemsL (.fls ds) = if dupL ds then some ds else none := rfl
@[simp] theorem op_itT (ds : List D) : itemsT (.tup ds) = if dupL ds then some ds else none := rfl
@[simp] theorem op_rng1 (j : Int) : rng1 [.int j] = if small62 j then some (rangeD 0 j.toNat) else none := rfl
@[simp] theorem op_enL (d : D) : kEnumL [d] = (itemsL d).map (enumF 0) := rfl
@[simp] theorem op_enT (d : D) : kEnumT [d] = (itemsT d).map (enumF 0) := rfl
theorem at_nat {α : Type} {l : List α} {i : Int} {x : α} (h : 0 ≤ i) (e : l[i.toNat]? = some x) : atI l i = some x := by
  have hl : i.toNat < l.length := (List.getElem?_eq_some_iff.mp e).1
  unfold atI ixN
  rw [if_pos h, if_pos (by omega)]
  exact e
@[simp] theorem at0 {α : Type} (x : α) (l : List α) : atI (x :: l) 0 = some x := at_nat (by decide) (by simp)
@[simp] theorem at1 {α : Type} (x y : α) (l : List α) : atI (x :: y :: l) 1 = some y := at_nat (by decide) (by simp)
@[simp] theorem at2 {α : Type} (x y z : α) (l : List α) : atI (x :: y :: z :: l) 2 = some z := at_nat (by decide) (by simp)
@[simp] theorem at3 {α : Type} (x y z w : α) (l : List α) : atI (x :: y :: z :: w :: l) 3 = some w := at_nat (by decide) (by simp)
@[simp] theorem ixN40 : ixN 4 0 = some 0 := rfl
@[simp] theorem ixN41 : ixN 4 1 = some 1 := rfl
@[simp] theorem ixN42 : ixN 4 2 = some 2 := rfl
@[simp] theorem ixN43 : ixN 4 3 = some 3 := rfl
@[simp] theorem ixN_nat (n : Nat) (i : Nat) : ixN n (i : Int) = if i < n then some i else none := by
  unfold ixN
  simp
theorem dupL_map {α : Type} (f : α → D) (h : ∀ a, dup (f a) = true) : ∀ l : List α, dupL (l.map f) = true
  | [] => rfl
  | a :: l => by show (dup (f a) && dupL (l.map f)) = true; rw [h a, dupL_map f h l]; rfl
@[simp] theorem dupL_int (l : List Int) : dupL (l.map D.int) = true := dupL_map _ (fun _ => rfl) l
def optD : Option Int → D
  | none => .non
  | some i => .int i
@[simp] theorem isN_opt (o : Option Int) : isNone (optD o) = o.isNone := by cases o <;> rfl
@[simp] theorem dup_opt (o : Option Int) : dup (optD o) = true := by cases o <;> rfl
@[simp] theorem dupL_opt (l : List (Option Int)) : dupL (l.map optD) = true := dupL_map _ dup_opt l
@[simp] theorem dup_int (i : Int) : dup (.int i) = true := rfl
@[simp] theorem dup_bl (i : Bool) : dup (.bl i) = true := rfl
@[simp] theorem dup_non : dup .non = true := rfl
@[simp] theorem dup_str (i : Str) : dup (.str i) = true := rfl
@[simp] theorem dup_ty (i : String) : dup (.ty i) = true := rfl
@[simp] theorem dup_ref (i : Nat) : dup (.ref i) = true := rfl
@[simp] theorem dup_tup (l : List D) : dup (.tup l) = dupL l := rfl
@[simp] theorem dup_fls (l : List D) : dup (.fls l) = dupL l := rfl
@[simp] theorem dup_lst (l : List D) : dup (.lst l) = false := rfl
@[simp] theorem dupL_nil : dupL [] = true := rfl
@[simp] theorem dupL_cons (d : D) (l : List D) : dupL (d :: l) = (dup d && dupL l) := rfl
end DL
set_option Elab.async false
set_option linter.all false
set_option maxRecDepth 100000
set_option maxHeartbeats 4000000
namespace DL
open PySem L2
/-! ### comprehensions, loops: what comes out -/
/-- no slot is changed for good: a map of a filter -/
theorem lcL_det {α : Type} {t : TM} {c e : EM} {vs : List Nat} {ρ : Env} (enc : α → D) (p : α → Bool) (f : α → D) : ∀ (l : List α) (acc : List D),
    (∀ a ∈ l, ∃ ρ1 ρ2, t ρ (enc a) = some ρ1 ∧ c ρ1 = .ok (.bl (p a)) ρ2 ∧ (p a = true → ∃ ρ3, e ρ2 = .ok (f a) ρ3 ∧ killL ρ3 vs = ρ) ∧ (p a = false → killL ρ2 vs = ρ)) →
    acc.length + l.length ≤ sizeLine → lcL t c e vs (l.map enc) acc ρ = .ok (.lst (acc ++ (l.filter p).map f)) ρ
  | [], acc, _, _ => by simp [lcL]
  | a :: l, acc, h, hz => by
    obtain ⟨ρ1, ρ2, h1, h2, h3, h4⟩ := h a List.mem_cons_self
    have ih := fun acc hz => lcL_det enc p f l acc (fun b hb => h b (List.mem_cons_of_mem _ hb)) hz
    rw [List.map_cons]
    unfold lcL
    rw [h1]
    simp only [h2]
    rw [List.length_cons] at hz
    cases hp : p a with
    | true =>
      obtain ⟨ρ3, e1, e2⟩ := h3 hp
      simp only [e1]
      rw [if_pos (by omega), e2, ih _ (by rw [List.length_append]; simp; omega)]
      simp [hp]
    | false =>
      simp only []
      rw [h4 hp, ih _ (by omega)]
      simp [hp]
theorem lcL_map {α : Type} {t : TM} {e : EM} {vs : List Nat} {ρ : Env} (enc : α → D) (f : α → D) (l : List α) (h : ∀ a ∈ l, ∃ ρ1 ρ3, t ρ (enc a) = some ρ1 ∧ e ρ1 = .ok (f a) ρ3 ∧ killL ρ3 vs = ρ) (hz : l.length ≤ sizeLine) :
    lcL t (eC (.bl true)) e vs (l.map enc) [] ρ = .ok (.lst (l.map f)) ρ := by
  rw [lcL_det enc (fun _ => true) f l [] (fun a ha => by
    obtain ⟨ρ1, ρ3, h1, h2, h3⟩ := h a ha
    exact ⟨ρ1, ρ1, h1, rfl, fun _ => ⟨ρ3, h2, h3⟩, fun z => by cases z⟩) (by simpa using hz), List.filter_eq_self.mpr (fun _ _ => rfl)]
  simp
/-- the slots change: what is known of each item -/
theorem lcL_rel {α β : Type} {t : TM} {e : EM} {vs : List Nat} (enc : α → D) (out : β → D) (P : Env → Prop) (R : β → Prop) (l : List α) : ∀ (acc : List D) (ρ : Env), P ρ →
    (∀ a ∈ l, ∀ ρ, P ρ → ∃ ρ1 x ρ3, t ρ (enc a) = some ρ1 ∧ e ρ1 = .ok (out x) ρ3 ∧ R x ∧ P (killL ρ3 vs)) → acc.length + l.length ≤ sizeLine →
    ∃ (xs : List β) (ρ' : Env), lcL t (eC (.bl true)) e vs (l.map enc) acc ρ = .ok (.lst (acc ++ xs.map out)) ρ' ∧ P ρ' ∧ xs.length = l.length ∧ ∀ x ∈ xs, R x := by
  induction l with
  | nil => intro acc ρ hp _ _; exact ⟨[], ρ, by simp [lcL], hp, rfl, fun x hx => nomatch hx⟩
  | cons a l ih =>
    intro acc ρ hp h hz
    rw [List.length_cons] at hz
    obtain ⟨ρ1, x, ρ3, h1, h2, h3, h4⟩ := h a List.mem_cons_self ρ hp
    obtain ⟨xs, ρ', e1, e2, e3, e4⟩ := ih (acc ++ [out x]) _ h4 (fun b hb => h b (List.mem_cons_of_mem _ hb)) (by rw [List.length_append]; simp; omega)
    refine ⟨x :: xs, ρ', ?_, e2, by simp [e3], fun y hy => (List.mem_cons.mp hy).elim (fun z => by rw [z]; exact h3) (e4 y)⟩
    rw [List.map_cons]
    unfold lcL
    rw [h1]
    simp only [ev_C, h2]
    rw [if_pos (by omega), e1]
    simp
/-- a loop that goes through, told by an invariant -/
theorem forL_inv {α : Type} {st : D → SM} (enc : α → D) (I : Nat → Env → Prop) (l : List α) : ∀ (i : Nat) (ρ : Env), I i ρ → (∀ (j : Nat) (a : α) (ρ : Env), i ≤ j → l[j - i]? = some a → I j ρ → ∃ ρ', st (enc a) ρ = .nx ρ' ∧ I (j + 1) ρ') →
    ∃ ρ', forL st (l.map enc) ρ = .nx ρ' ∧ I (i + l.length) ρ' := by
  induction l with
  | nil => intro i ρ h _; exact ⟨ρ, rfl, by simpa using h⟩
  | cons a l ih =>
    intro i ρ h hs
    obtain ⟨ρ1, e1, h1⟩ := hs i a ρ (Nat.le_refl _) (by simp) h
    obtain ⟨ρ2, e2, h2⟩ := ih (i + 1) ρ1 h1 fun j b ρ hj hb hI => hs j b ρ (by omega) (by
      have : j - i = (j - (i + 1)) + 1 := by omega
      rw [this]; simpa using hb) hI
    refine ⟨ρ2, ?_, by rw [List.length_cons]; have e : i + (l.length + 1) = i + 1 + l.length := by omega
                       rw [e]; exact h2⟩
    rw [List.map_cons]
    unfold forL
    rw [e1]
    exact e2
theorem rangeD_eq (n : Nat) : rangeD 0 n = (List.range n).map fun i : Nat => D.int (i : Int) := by
  unfold rangeD
  simp
@[simp] theorem rangeD_toNat (n : Nat) : rangeD 0 n = (List.range n).map fun i : Nat => D.int (i : Int) := rangeD_eq n
theorem seq_nx {f g : SM} {ρ ρ' : Env} {r : SR} (h1 : f ρ = .nx ρ') (h2 : g ρ' = r) : sSeq f g ρ = r := by
  rw [ev_seq, h1]; exact h2
theorem seq_rt {f g : SM} {ρ ρ' : Env} {d : D} (h1 : f ρ = .rt d ρ') : sSeq f g ρ = .rt d ρ' := by
  rw [ev_seq, h1]
theorem run_rt {n : Nat} {m : List Bool} {b : SM} {ds : List D} {d : D} {ρ' : Env} {outs : List D} (h : b (ds.map some ++ List.replicate (n - ds.length) none) = .rt d ρ') (ho : getO m ρ' = some outs) : runFn n m b ds = .ok d outs := by
  rw [ev_run, ev_start, h]; simp [ho]
theorem run_nx {n : Nat} {m : List Bool} {b : SM} {ds : List D} {ρ' : Env} {outs : List D} (h : b (ds.map some ++ List.replicate (n - ds.length) none) = .nx ρ') (ho : getO m ρ' = some outs) : runFn n m b ds = .ok .non outs := by
  rw [ev_run, ev_start, h]; simp [ho]
end DL
set_option Elab.async false
set_option linter.all false
set_option maxRecDepth 100000
set_option maxHeartbeats 4000000
/-! exceptions of the program's own classes, with an own __init__ -/
namespace DL
open PySem L2 ClX
section
open PySem.Spec PyProof.Rows
variable {X : Cx} {e : Expr} {es : List Expr} {ta : TA} {p1 p2 pos : Pos}
/-- B.__init__(self, ..), B a class of the program that has it from ValueError -/
theorem pe_cinit {pl : Sem Bool} {x0 : Str} {C0 : Addr} {mc : Value} (hg : Gl X x0) (hm : X.mg x0 = some (.ref C0)) (r : CRead X.K C0 mc) (hf : PySem.W.findCls X.K (.ref C0) mc "__init__" = some (.val (.builtin "ValueError.__init__"))) (ha : PA X (e :: es) ta)
    (hdb : (x0 == ("__debug__" : Str)) = false := by decide)
    (hc : eval (.Call (.Attribute (.Name x0 p1) "__init__" p2) (e :: es) [] pos) X.env = (do
      let ov ← eval (.Name x0 p1) X.env
      standAt p2.atName
      let (f, first) ← holding [ov] (getMethod ov "__init__" pl)
      callWith pos f first (backTo pos (starEach (e :: es) X.env)) (backToKw pos (keywordEach [] X.env))) := by rfl)
    (he : starEach (e :: es) X.env = (false, eval e X.env) :: starEach es X.env := by rfl) (hpl : (backTo pos (starEach es X.env)).any (·.1) = false := by rfl) :
    PE X (.Call (.Attribute (.Name x0 p1) "__init__" p2) (e :: es) [] pos) (tVeI X.K ta) := by
  refine ⟨fun pins s σ H Q I h => ?_⟩
  refine PySem.W.methodCall_KW (ld_glob I hg hm ?_ hdb) hc
  refine PySem.W.method_cls I.kIn r.ga ?_
  refine PySem.W.cls_value I.kIn r.rd hf rfl ?_
  show wpAny _ _ (callWith pos (Value.builtin "ValueError.__init__") [] (backTo pos (starEach (e :: es) X.env)) []) _ _ _
  refine PyProof.Rows.callWith_method1 (thn (ha.run pos pins _ σ H _ (I.tok _) h) fun us s1 ⟨vs, H1, I1, r1, a, C, ws, ev, hl, T, ea, q⟩ => ?_) he hpl
  subst ev
  cases r1 with
  | @cons _ u0 _ ur ra rw' =>
    obtain rfl : u0 = Value.ref a := ra
    have hlen : ur.length ≤ sizeLine := by
      rw [← Paired.length rw', sizeLine_eq]
      omega
    exact oinit_ok T I1 ea hlen fun s' J => ⟨.non, H1, J, rfl, q⟩
end
end DL
set_option Elab.async false
set_option linter.all false
set_option maxRecDepth 100000
set_option maxHeartbeats 4000000
namespace DL
open PySem L2 ClX
/-- an exception's own __init__: the base's one, then its fields -/
def spX (K : PySem.W.Frag) (C : Addr) (fs : List Str) : Sp := fun vs H Q _ => ∃ (a : Addr) (us : List V), vs = .ref a :: us ∧ us.length = fs.length ∧ OexC K C ∧ (∀ f ∈ fs, PySem.W.findIn K (.ref C) f = some none) ∧ H a = some (exo a C none) ∧
  ∀ dx, H dx = none → dx ≠ a → Q .non (upd (upd H dx (exd dx (fs.zip us).reverse)) a (exo a C (some dx)))
theorem upd_again {H : Hp} {a dx : Addr} {x y z : HO} (h : dx ≠ a) : upd (upd (upd H dx x) a z) dx y = upd (upd H dx y) a z := by
  funext b
  by_cases h1 : b = dx
  · subst h1; rw [upd_same, upd_ne h, upd_same]
  · rw [upd_ne h1]
    by_cases h2 : b = a
    · subst h2; rw [upd_same, upd_same]
    · rw [upd_ne h2, upd_ne h1, upd_ne h2, upd_ne h1]
abbrev tX1 (K : PySem.W.Frag) (r f1 : Str) : TS := tSeq (tDrop (tVeI K (tCons (tVar 0) (tCons (tC (.str r)) tNil)))) (tOst K f1 (tVar 0) (tVar 1))
abbrev tX2 (K : PySem.W.Frag) (r f1 f2 : Str) : TS := tSeq (tDrop (tVeI K (tCons (tVar 0) (tCons (tC (.str r)) tNil)))) (tSeq (tOst K f1 (tVar 0) (tVar 1)) (tOst K f2 (tVar 0) (tVar 2)))
theorem run_x1 {K : PySem.W.Frag} {C : Addr} {r f1 n0 n1 : Str} {vs : List V} {H : Hp} {Q : VK} {E : XK} (h : spX K C [f1] vs H Q E) : tX1 K r f1 { nx := fun _ H' => Q .non H', rt := Q } (L2.start [n0, n1] vs) H := by
  obtain ⟨a, us, rfl, hl, T, hno, ea, q⟩ := h
  match us, hl with
  | [y1], _ =>
    refine ⟨.ref a, rfl, a, C, [.str r], rfl, by simp, T, ea, ?_⟩
    exact ⟨y1, rfl, .ref a, rfl, a, C, rfl, T, hno f1 (by simp), .inl ⟨ea, fun dx n ne => q dx n ne⟩⟩
theorem run_x2 {K : PySem.W.Frag} {C : Addr} {r f1 f2 n0 n1 n2 : Str} {vs : List V} {H : Hp} {Q : VK} {E : XK} (h : spX K C [f1, f2] vs H Q E) : tX2 K r f1 f2 { nx := fun _ H' => Q .non H', rt := Q } (L2.start [n0, n1, n2] vs) H := by
  obtain ⟨a, us, rfl, hl, T, hno, ea, q⟩ := h
  match us, hl with
  | [y1, y2], _ =>
    refine ⟨.ref a, rfl, a, C, [.str r], rfl, by simp, T, ea, ?_⟩
    refine ⟨y1, rfl, .ref a, rfl, a, C, rfl, T, hno f1 (by simp), .inl ⟨ea, fun dx n ne => ?_⟩⟩
    refine ⟨y2, rfl, .ref a, rfl, a, C, rfl, T, hno f2 (by simp), .inr ⟨dx, [(f1, y1)], upd_same, by rw [upd_ne ne, upd_same], by simp, ?_⟩⟩
    have := q dx n ne
    rw [upd_again ne]
    exact this
end DL
set_option Elab.async false
set_option linter.all false
set_option maxRecDepth 100000
set_option maxHeartbeats 4000000
namespace DL
open PySem L2 ClX
open LamX (Tabs)
/-- raise C(..) -/
def sRaise (n : Nat) (g : AM) : SM := fun ρ => match g ρ with
  | .ok ds ρ' => if dupL ds && decide (ds.length = (fx n).length) then .exc ⟨n, ds.reverse⟩ ρ' else .fail
  | .exc x ρ' => .exc x ρ'
  | .fail => .fail
theorem ext_fresh {H : Hp} {p : Addr} {o : HO} (h : H p = none) : Ext [] H (upd H p o) := ⟨fun b u q _ _ => by
  have : b ≠ p := fun z => by rw [z, h] at q; cases q
  rw [upd_ne this]; exact q, fun b hb => by
  by_cases hp : b = p
  · rw [hp]; exact h
  · rw [upd_ne hp] at hb; exact hb⟩
theorem heap_back {H : Hp} {a dx : Addr} {x y z w : HO} (ha : H a = none) (h : dx ≠ a) : upd (del (upd (upd (upd H a x) dx y) a z) a) dx w = upd H dx w := by
  funext b
  by_cases h1 : b = dx
  · subst h1; rw [upd_same, upd_same]
  · rw [upd_ne h1, upd_ne h1]
    by_cases h2 : b = a
    · subst h2; rw [del_same, ha]
    · rw [del_ne h2, upd_ne h2, upd_ne h1, upd_ne h2]
section
variable {K : PySem.W.Frag} {adr : Adr} {T : List (Addr × Str)} {io : List Nat} {H : Hp} {σ : L2.St} {W : WX} {D : Ends}
theorem zip_rev' {α β : Type} : ∀ (a : List α) (b : List β), a.length = b.length → a.reverse.zip b.reverse = (a.zip b).reverse
  | [], [], _ => rfl
  | [], _ :: _, h => by simp at h
  | _ :: _, [], h => by simp at h
  | x :: a, y :: b, h => by
    have h' : a.length = b.length := by simpa using h
    rw [List.reverse_cons, List.reverse_cons, List.zip_append (by simpa using h'), zip_rev' a b h']
    simp
theorem tds_raise {n : Nat} {g : AM} {fs : List Str} (T' : OexC K (adr n)) (hno : ∀ f ∈ fs, PySem.W.findIn K (.ref (adr n)) f = some none) (hfs : fs.reverse = fx n) (hfe : fx n ≠ []) (hf9 : fs.length ≤ 900)
    (h : tDS K adr T io W (sRaise n g) D σ H) : tMkO (adr n) (spX K (adr n) fs) [] (tDA K adr T W g) σ H (fun cls d H' => W cls d σ H') := by
  obtain ⟨ρ, F, S, h⟩ := h
  refine ⟨ρ, F, S, ?_⟩
  unfold sRaise at h
  cases e : g ρ with
  | fail => rw [e] at h; exact h
  | exc x ρ' =>
    rw [e] at h
    exact fun cls dx H' ⟨F', a, b, c, d⟩ => h cls dx σ H' ⟨F', ⟨a, c, d.tab⟩, b, d, Fix.refl _ _⟩
  | ok ds ρ' =>
    rw [e] at h
    dsimp only at h
    by_cases hc : (dupL ds && decide (ds.length = (fx n).length)) = true
    · rw [if_pos hc] at h
      obtain ⟨hd, hl⟩ := Bool.and_eq_true_iff.mp hc
      have hl' : ds.length = (fx n).length := of_decide_eq_true hl
      have hlf : ds.length = fs.length := by rw [hl', ← hfs, List.length_reverse]
      intro vs H1 ⟨F', Fd, rs, rl, nd, st⟩
      have hvl : vs.length = ds.length := rl.length
      have rl0 : RepL K adr H1 ds vs [] := rl.dup hd
      refine ⟨by omega, fun a ha => ⟨a, vs ++ [], rfl, by simp; omega, T', hno, upd_same, fun dx hdx hne => ?_⟩⟩
      rw [upd_ne hne] at hdx
      refine ⟨rfl, dx, _, upd_same, by rw [upd_ne hne, upd_same], hdx, ?_⟩
      rw [heap_back ha hne]
      have eF := ext_fresh (o := HO.xd (fs.zip (vs ++ [])).reverse) hdx
      refine h _ _ σ _ ⟨F', ⟨rs.ext eF (fun b _ hb => nomatch hb), (List.nodup_append.mp nd).1, st.tab.ext fun b u q => by
        have : b ≠ dx := fun z => by rw [z, hdx] at q; cases q
        rw [upd_ne this]; exact q⟩, ?_, ?_, Fix.refl _ _⟩
      · refine ⟨rfl, .inr ⟨hfe, dx, vs.reverse, rfl, ?_, by rw [List.length_reverse]; exact hl'.symm, repL_rev (rl0.ext0 eF)⟩⟩
        rw [upd_same, List.append_nil, ← hfs, zip_rev' _ _ (by omega)]
      · exact (st.sub fun c hc => List.mem_append_left _ hc).trans ⟨Ext.new hdx, fun b hb => .inl hb, st.tab.ext fun b u q => by
          have : b ≠ dx := fun z => by rw [z, hdx] at q; cases q
          rw [upd_ne this]; exact q⟩ fun _ z => z
    · rw [if_neg hc] at h; exact h.elim
end
end DL
set_option Elab.async false
set_option linter.all false
set_option maxRecDepth 100000
set_option maxHeartbeats 4000000
namespace DL
open PySem L2 ClX
section
open PySem.Spec PyProof.Rows
variable {X : Cx} {adr : Adr} {T : List (Addr × Str)} {io : List Nat} {W : WX} {e : Expr} {es : List Expr} {p pos pos2 : Pos}
theorem ps_draise {CX : CXT} {x : Str} {n : Nat} {g : AM} {fs : List Str} {fI : Addr} {k : Nat} {fd : FuncData} {ps : List Str} (hc : X.calm = true) (tk : Takes X W) (T' : OexC X.K (adr n)) (hno : ∀ f ∈ fs, PySem.W.findIn X.K (.ref (adr n)) f = some none) (hfs : fs.reverse = fx n) (hfe : fx n ≠ []) (hf9 : fs.length ≤ 900)
    (iC : PySem.W.findIn X.K (.ref (adr n)) "__init__" = some (some (.ref fI))) (tI : PySem.W.typeIn X.K (.ref fI) = some (.type "function"))
    (F1 : FnOk X.prog X.w X.K X.mg X.base CX k fI fd ps (spX X.K (adr n) fs)) (hr : Room (k + 1) X.A) (hb : Binds X.K fd ps []) (hx : Passes CX X (fun _ _ _ => False)) (hg : Gl X x) (hm : X.mg x = some (.ref (adr n))) (ha : PA X (e :: es) (tDA X.K adr T W g))
    (hdb : (x == ("__debug__" : Str)) = false := by decide) (he : starEach (e :: es) X.env = (false, eval e X.env) :: starEach es X.env := by rfl) (hpl : (backTo pos (starEach es X.env)).any (·.1) = false := by rfl) :
    PS X (.Raise (some (.Call (.Name x p) (e :: es) [] pos)) none pos2) (tDS X.K adr T io W (sRaise n g)) :=
  PS.imp (ps_raise hc tk (pmk_oex T' iC tI F1 hr hb .nil hx hg hm ha hdb he hpl)) fun D σ H q => tds_raise T' hno hfs hfe hf9 q
end
end DL
set_option Elab.async false
set_option linter.all false
set_option maxRecDepth 100000
set_option maxHeartbeats 4000000
namespace DL
open PySem L2 ClX
section
open PySem.Spec PyProof.Rows
variable {P : Program} {w : World} {K : PySem.W.Frag} {mg : Str → Option Value} {base : Heap} {adr : Adr}
/-- the def of an exception's own __init__ keeps spX -/
theorem fn_x {x qual : Str} {st : Stmt} {f C : Addr} {fd : FuncData} {N ps fs : List Str} {k : Nat} (hF : Fun K x qual st f fd) (S : FnScope N ps (defScope st)) (hn : ps.length = fs.length + 1)
    (hbody : ∀ (cdv : Value) (A : Around) (outer : List PySem.Env) (s : Shared) (H : Hp) (E : XK) (vs : List V) (Q : VK), spX K C fs vs H Q E → ∃ t, PSs (cxOf (L2.CX P w) P w K mg base N qual (defScope st) f cdv A outer s H E) (defBody st) t ∧ t { nx := fun _ H' => Q .non H', rt := Q } (L2.start N vs) H) :
    FnOk P w K mg base (L2.CX P w) (k + 1) f fd ps (spX K C fs) :=
  hF.okX S (fun vs H Q E ⟨a, us, e, hl, _⟩ => by rw [e, List.length_cons, hl, hn]) fun cdv A outer s H vs Q E hr h => hbody cdv A outer s H E vs Q h
end
end DL
set_option Elab.async false
set_option linter.all false
set_option maxRecDepth 100000
set_option maxHeartbeats 4000000
/-! a lambda handed to a def of the text: its making (also with one default), its call from there -/
namespace DS
open PySem PySem.Spec PyProof.Rows L2 LamX
/-- the parameters ps, captured names and globals: no other name -/
structure LamS2 (sc scope : Scope) (ps : List Str) : Prop where
  kind : scope.kind = .function
  co : scope.isCoroutine = false
  gen : scope.isGenerator = false
  par : ∀ x ∈ ps, scope.names.lookup x = some .local
  own : ∀ y ∈ scope.names, (y.2 = .local → y.1 ∈ ps) ∧ y.2 ≠ .cell
  free : ∀ y ∈ scope.names, y.2 = .free → sc.names.lookup y.1 = some .cell ∨ sc.names.lookup y.1 = some .free
def lamB2 (sc scope : Scope) (ps : List Str) : Bool :=
  decide (scope.kind = .function) && !scope.isCoroutine && !scope.isGenerator && ps.all (fun x => decide (scope.names.lookup x = some .local)) && scope.names.all fun y => (!decide (y.2 = .local) || ps.contains y.1) && !decide (y.2 = .cell) && (!decide (y.2 = .free) || decide (sc.names.lookup y.1 = some .cell) || decide (sc.names.lookup y.1 = some .free))
theorem lamS2_by {sc scope : Scope} {ps : List Str} (h : lamB2 sc scope ps = true) : LamS2 sc scope ps := by
  unfold lamB2 at h
  simp only [Bool.and_eq_true, Bool.or_eq_true, Bool.not_eq_true', decide_eq_true_eq, decide_eq_false_iff_not, List.all_eq_true] at h
  obtain ⟨⟨⟨⟨h1, h2⟩, h3⟩, h0⟩, h4⟩ := h
  refine ⟨h1, h2, h3, h0, fun y hy => ⟨fun e => List.contains_iff_mem.mp (((h4 y hy).1.1).resolve_left fun z => z e), (h4 y hy).1.2⟩, fun y hy e => ?_⟩
  rcases (h4 y hy).2 with (z | z) | z
  · exact absurd e z
  · exact .inl z
  · exact .inr z
theorem LamS2.capt {X : Cx} {scope : Scope} {ps : List Str} (L : LamS2 X.env.scope scope ps) (ok : X.Ok) : ∀ y ∈ scope.names, y.2 = .free → ∃ c, X.env.cells.lookup y.1 = some c := fun y hy e =>
  (L.free y hy e).elim (fun k => ok.has _ (.inl k)) fun k => ok.has _ (.inr k)
section
variable {X : Cx} {pins : List (Addr × Obj)} {σ : L2.St} {H HZ : Hp} {s s1 : Shared}
/-- the lambda's frame is entered from within another def, which the maker's frame X has called -/
theorem lam_enter {A : Around} {outer : List Env} {E : XK} {scope : Scope} {ps : List Str} {binds : List (Str × Value)} {f c' : Addr} {h2 : Heap} {tk : Nat} (I : Inv X pins σ H s) (L : LamS2 X.env.scope scope ps) (hps : ∀ x ∈ ps, x ∉ X.N)
    (e0 : Env0 X.prog X.w X.K X.mg X.base A outer s1 HZ) (hd : A.handled = none) (un : Un (frs X.stack) [] H HZ s.heap s1.heap) (hns : h2.Ns s1.heap.objs.size fun y => binds.reverse.lookup y) (kp : ∀ b o, s1.heap.get? b = some o → h2.get? b = some o) :
    Inv (lamCx X A outer s1 HZ E scope f c') [] σ HZ { s1 with heap := h2, toks := tk } := by
  have captured := L.capt I.ok
  have toX : ∀ {y c}, (cloFrom X.env.cells scope.names []).lookup y = some c → X.env.cells.lookup y = some c := fun {y c} e => by
    rcases cloFrom_mem (PySem.mem_of_lookup e) with bad | ⟨m1, m2⟩
    · cases bad
    · obtain ⟨c1, k⟩ := captured _ m1 rfl
      have k : X.env.cells.lookup y = some c1 := k
      have same : c = c1 := by
        rw [m2, k] <;> rfl
      rw [same]
      exact k
  have ofFree : ∀ {y}, scope.names.lookup y = some .free → ∃ c, (cloFrom X.env.cells scope.names []).lookup y = some c := fun {y} hl => by
    have m : (y, NameKind.free) ∈ scope.names := PySem.mem_of_lookup hl
    exact mem_lookup (cloFrom_has (cells := X.env.cells) (acc := []) m)
  have moved : ∀ {c : Addr} {v : Option Value}, H c = none → s.heap.IsCell c v → h2.IsCell c v := fun {c v} n ⟨o, g, d⟩ => by
    obtain ⟨sl, q⟩ := un.any g n (by simp)
    exact ⟨_, kp _ _ q, d⟩
  have noEx : ∀ b : Addr, b ∉ (lamCx X A outer s1 HZ E scope f c').ex := fun b z => absurd (show b ∈ ([] : List Addr) from z) (by simp)
  refine ⟨⟨e0.mod, L.kind, rfl, rfl, Nat.le_refl _, fun y z c e1 e2 => I.ok.inj y z c (toX e1) (toX e2), fun y hy => ?_, fun y c z _ => ?_, fun _ => hd, Around.frames_deeper e0.frames, .inr ⟨rfl, rfl⟩, fun b z => absurd z (noEx b), e0.bs, e0.bsz,
      fun b _ _ => noEx b, fun b z => absurd z (noEx b), e0.funs, e0.frf⟩, rfl, e0.bare, Un.kept kp, ⟨_, hns, fun i y v e1 e2 e3 => ?_⟩, fun y c e => ?_, e0.hok.fresh (Nat.le_refl _), fun y c e => ?_,
      fun q hq => absurd (show q ∈ ([] : List (Addr × Obj)) ++ [] from hq) (by simp), e0.hok.kept kp, I.len⟩
  · rcases (show scope.names.lookup y = some .cell ∨ scope.names.lookup y = some .free from hy) with k | k
    · exact absurd rfl (L.own _ (PySem.mem_of_lookup k)).2
    · exact ofFree k
  · exact absurd (show false = true from z) Bool.false_ne_true
  · rcases (show Vis scope y from e3) with k | k | k
    · exact absurd (List.mem_of_getElem? (show X.N[i]? = some y from e1)) (hps _ ((L.own _ (PySem.mem_of_lookup k)).1 rfl))
    · exact absurd rfl (L.own _ (PySem.mem_of_lookup k)).2
    · obtain ⟨m, hn, seen⟩ := I.loc
      have vis : Vis X.env.scope y := (L.free _ (PySem.mem_of_lookup k) rfl).elim (fun k => .inr (.inl k)) (fun k => .inr (.inr k))
      obtain ⟨u, r, q⟩ := seen i y v e1 e2 vis
      obtain ⟨c2, at2⟩ := ofFree k
      refine ⟨u, r, .inr ⟨.inr k, c2, at2, ?_⟩⟩
      have at1 := toX at2
      rcases q with ⟨bad, _⟩ | ⟨_, c3, at3, cell⟩
      · have bad : X.env.scope.names.lookup y = some .local := bad
        rcases L.free _ (PySem.mem_of_lookup k) rfl with w | w <;> rw [show X.env.scope.names.lookup y = _ from w] at bad <;> cases bad
      · rw [at1] at at3
        cases at3
        exact moved (I.freeC y _ at1) cell
  · obtain ⟨u, cell⟩ := I.cell y c (toX e)
    exact ⟨u, moved (I.freeC y c (toX e)) cell⟩
  · obtain ⟨v, o, g, d⟩ := I.cell y c (toX e)
    exact un.free c o g (I.freeC y c (toX e)) (by simp)
/-- a(), in the def that the lambda was handed to -/
theorem pe_do {CXg : CXT} {Eg : XK} {Ng : List Str} {qg : Str} {sg : Scope} {g f c' : Addr} {cdg pm ctv doc dv : Value} {params : Arguments} {body : Expr} {scope : Scope} {ps : List Str} {binds : List (Str × Value)} {od : List (Addr × Obj)} {k i : Nat} {a : Str} {pn : List (Addr × Obj)} {xe : Value → Shared → Prop} {W : WX} {E : XK} {tb : TE} {p1 p2 : Pos}
    (I : Inv X pins σ H s) (L : LamS2 X.env.scope scope ps) (hps : ∀ x ∈ ps, x ∉ X.N) (hof : s.heap.get? f = some (PySem.W.kdv_obj "<lambda>" (X.env.qual ++ "<lambda>") params (.expr body) scope (cloFrom X.env.cells scope.names []) dv doc pm c' ctv)) (hfn : H f = none) (hfr : f ∉ frs X.stack)
    (hod : ∀ q ∈ od, s.heap.get? q.1 = some q.2 ∧ H q.1 = none ∧ q.1 ∉ frs X.stack) (hbn : binds.map (·.1) = ps)
    (hbind : ∀ s2 : Shared, (∀ q ∈ od, s2.heap.get? q.1 = some q.2) → BindsTo s2 (PySem.W.kdv_fn "<lambda>" (X.env.qual ++ "<lambda>") params (.expr body) scope (cloFrom X.env.cells scope.names []) dv doc pm (.ref c') ctv) ⟨[], []⟩ binds)
    (tk : Takes ((cxOf CXg X.prog X.w X.K X.mg X.base Ng qg sg g cdg X.A X.stack s H Eg).tr pn xe) W) (hW : ∀ cls d σ' H', E cls d H' → W cls d σ' H') (hr : Room (k + 1) (X.A.deeper (envOfC qg sg s.heap.objs.size g cdg)))
    (hbody : ∀ (A : Around) (outer : List Env) (s : Shared) (H : Hp), Room k (A.deeper (lamEnv X scope s.heap.objs.size f c')) → PE (lamCx X A outer s H E scope f c') body tb)
    (hN : Ng[i]? = some a) (hv : Vis sg a) (hd : (a == ("__debug__" : Str)) = false := by decide) (hcd : (a == ("__classdict__" : Str)) = false := by decide) :
    PE ((cxOf CXg X.prog X.w X.K X.mg X.base Ng qg sg g cdg X.A X.stack s H Eg).tr pn xe) (.Call (.Name a p1) [] [] p2)
      (fun σZ HZ Q => σZ[i]? = some (some (.ref f)) ∧ HZ c' = some (CodeO c' (X.env.qual ++ "<lambda>")) ∧ tb σ HZ Q) := by
  refine ⟨fun pinsZ sZ σZ HZ Q IZ given => ?_⟩
  obtain ⟨inSlot, isCode, ht⟩ := given
  refine wpAny_Call_Name_kw (thn ((pe_var (pos := p1) (i := i) hN hv hd hcd).run pinsZ sZ σZ HZ (fun v H1 => v = .ref f ∧ H1 = HZ) IZ ⟨.ref f, inSlot, rfl, rfl⟩) fun u s1 ⟨v, H1, I1, r1, ev, eH⟩ => ?_)
  subst ev
  rw [eH] at I1
  obtain rfl : u = Value.ref f := r1
  have stays : ∀ b o, s.heap.get? b = some o → H b = none → b ∉ frs X.stack → s1.heap.get? b = some o := fun b o g n nf => I1.base.keep b o g n nf (fun z => nomatch (show b ∈ ([] : List Addr) from z))
  have of1 := stays f _ hof hfn hfr
  refine PySem.W.callWith_F0 ⟨_, _, _, _, of1⟩ ?_
  have un : Un (frs X.stack) [] H HZ s.heap s1.heap := I1.base
  obtain ⟨⟨oc, vs, t, g1, g2, g3⟩, _, _⟩ := I1.hok c' _ isCode
  have run : codeAny (model X.prog X.w) (X.A.deeper (envOfC qg sg s.heap.objs.size g cdg)) (.call (.ref f) ⟨[], []⟩) (CR (L2.CX X.prog X.w) (envOfC qg sg s.heap.objs.size g cdg :: X.stack) X.prog X.w HZ s1 Q E) s1 := by
    refine PySem.W.kla_callFunE hr.depth of1 rfl L.co L.gen rfl ⟨c', oc, vs, t, rfl, g1, g2, g3⟩ ?_
    refine hbind s1 (fun q hq => stays _ _ (hod q hq).1 (hod q hq).2.1 (hod q hq).2.2) _ _ _ _ ?_
    refine wpAny_newFunctionEnv (fun y hy => (L.own y hy).2) (fun y hy => L.par _ (by rw [← hbn]; exact List.mem_map_of_mem hy)) (fun h2 hns hsb => ⟨I1.nolimit.fresh _ hsb, ?_⟩) L.kind
    show codeAny _ _ (.expr body (lamEnv X scope s1.heap.objs.size f c')) _ _
    have kp : ∀ b o, s1.heap.get? b = some o → h2.get? b = some o := fun b o e => hsb.extBut b o (Nat.ne_of_lt (Heap.lt_size e)) (Heap.get?_push_of_some _ e)
    have J : Inv (lamCx X (X.A.deeper (envOfC qg sg s.heap.objs.size g cdg)) (envOfC qg sg s.heap.objs.size g cdg :: X.stack) s1 HZ E scope f c') [] σ HZ { s1 with heap := h2, toks := s1.toks + binds.length } := lam_enter I L hps I1.env0 hr.hd un hns kp
    refine PySem.W.kla_codeExpr (wpAny_mono ((hbody _ _ s1 HZ (hr.deeper _)).run [] _ _ HZ Q J ht) (fun v s' fin => ?_) fun e s' fin => fin)
    obtain ⟨u, H', J', rv, q⟩ := fin
    exact ⟨u, H', J'.os, J'.bare, J'.base, J'.hok, rv, q⟩
  have off : Passes (L2.CX X.prog X.w) ((cxOf CXg X.prog X.w X.K X.mg X.base Ng qg sg g cdg X.A X.stack s H Eg).tr pn xe) E := passes_call tk hW
  refine wpAny_call (codeAny_mono run fun r s' fin => ?_)
  match r, fin with
  | .error e, fin => exact off pinsZ σZ HZ s1 e s' I1 fin
  | .ok (.ret u), fin => exact I1.after fin
  | .ok .next, fin => exact fin.elim
  | .ok .brk, fin => exact fin.elim
  | .ok .cont, fin => exact fin.elim
/-- as lam_mk; the lambda has one parameter, with the default 0 -/
theorem lam_mkD {T : List (Addr × Str)} {c P : Addr} {params : Arguments} {body : Expr} {scope : Scope} {pos pc : Pos} {jc : Nat} {E : Value → Shared → Prop} {Q : Value → Shared → Prop} (I : Inv X pins σ H s) (tb : TabB X.base X.mg c P) (hcode : X.env.code = .ref c)
    (inT : (P, X.env.qual ++ "<lambda>") ∈ T) (one : ∀ p ∈ T, p.1 = P → p.2 = X.env.qual ++ "<lambda>") (tabs : Tabs T H) (hpd : params.defaults = [.Constant (.int 0) jc pc]) (hk0 : params.kw_defaults = []) (capt : ∀ y ∈ scope.names, y.2 = .free → ∃ c, X.env.cells.lookup y.1 = some c)
    (go : ∀ (f c' t : Addr) (z pm ctv doc : Value) (J : Hp) (s' : Shared), Inv X pins σ J s' → ExtN H J → (∀ b, J b = none → H b = none) → Tabs T J →
      s'.heap.get? f = some (PySem.W.kdv_obj "<lambda>" (X.env.qual ++ "<lambda>") params (.expr body) scope (cloFrom X.env.cells scope.names []) (.ref t) doc pm c' ctv) → s'.heap.get? t = some (PySem.W.kdv_tup [z]) → J f = none → J t = none → f ∉ frs X.stack → t ∉ frs X.stack → J c' = some (CodeO c' (X.env.qual ++ "<lambda>")) → Q (.ref f) s') :
    wpAny (model X.prog X.w) X.A (eval (.Lambda params body scope pos) X.env) Q E s := by
  refine PySem.W.kdv_lam (by rw [hpd]; rfl) hk0 ?_
  rw [hpd]
  refine PySem.W.kdv_all1 (thn ((pe_int (X := X) (pos := pc) (i := 0) (j := jc)).run pins s σ H (fun _ H1 => H1 = H) I rfl) fun z s0 ⟨v, H1, I0, _, eH⟩ => ?_)
  rw [eH] at I0
  refine PySem.W.kdv_all0 ?_
  rw [makeFunction_eq]
  simp only [List.zip_nil_right, List.filterMap_nil, List.isEmpty_nil, List.isEmpty_cons, if_true, pure_bind, Bool.false_eq_true, if_false]
  refine wpAny_bind (wpAny_newTextTuple ?_)
  let t0 : Addr := s0.heap.objs.size
  have I1 : Inv X pins σ H { s0 with heap := s0.heap.push (PySem.W.kdv_tup [z]) } := I0.kept fun b o e => Heap.get?_push_of_some _ e
  have gt0 : (s0.heap.push (PySem.W.kdv_tup [z])).get? t0 = some (PySem.W.kdv_tup [z]) := Heap.get?_push_size _ rfl
  have nt0 : H t0 = none := I0.hok.fresh (Nat.le_refl _)
  obtain ⟨ps, tP, trip, among⟩ := tabs _ inT
  have bltP : (s0.heap.push (PySem.W.kdv_tup [z])).BuiltinsAt X.mg P := tb.bm.keeps I1.bk
  have objP : (s0.heap.push (PySem.W.kdv_tup [z])).get? P = some { cls := .none, data := .fields ps } := I1.hok P _ tP
  have offStack : ∀ g, s0.heap.objs.size ≤ g → g ∉ frs X.stack := fun g big mem => by
    rcases List.mem_cons.mp (I0.stkSub _ mem) with e | e
    · exact Nat.lt_irrefl _ (Nat.lt_of_lt_of_le (by rw [e]; exact I0.lt) big)
    · exact I0.nofs big e
  have sz1 : s0.heap.objs.size ≤ (s0.heap.push (PySem.W.kdv_tup [z])).objs.size := by rw [Heap.size_push]; omega
  cases found : codeAmong pos ps.toList with
  | some cv =>
    obtain ⟨c', rfl, isCode⟩ := among pos cv found
    refine PySem.W.kdv_makeTailHit (mg := X.mg) (c := c) (P := P) (ps := ps) (closure_ok capt) I1.ok.glob (I1.mod.glob.keeps I1.bk) hcode (tb.code.keeps I1.bk) objP trip found bltP fun ctv doc h' tk grow size => ?_
    have J : Inv X pins σ H { s0 with heap := h'.push (PySem.W.kdv_obj "<lambda>" (X.env.qual ++ "<lambda>") params (.expr body) scope (cloFrom X.env.cells scope.names []) (.ref t0) doc ((X.mg "__name__").getD .none) c' ctv), toks := tk } :=
      I1.kept fun b o e => Heap.get?_push_of_some _ (grow b o e)
    exact go h'.objs.size c' t0 z ((X.mg "__name__").getD .none) ctv doc H _ J (ExtN.refl H) (fun _ z => z) tabs (Heap.get?_push_size _ rfl) (Heap.get?_push_of_some _ (grow _ _ gt0)) (I1.hok.fresh size) nt0 (offStack _ (Nat.le_trans sz1 size)) (offStack _ (Nat.le_refl _)) isCode
  | none =>
    refine PySem.W.kdv_makeTail (mg := X.mg) (c := c) (P := P) (ps := ps) (closure_ok capt) I1.ok.glob (I1.mod.glob.keeps I1.bk) hcode (tb.code.keeps I1.bk) objP trip found tb.gP bltP fun c' ctv doc h' tk grow ge lt rec_ tbl => ?_
    obtain ⟨c2, oc, us, t, e2, g1, g2, g3⟩ := rec_
    cases e2
    have size : (s0.heap.push (PySem.W.kdv_tup [z])).objs.size ≤ h'.objs.size := Nat.le_trans ge (Nat.le_of_lt lt)
    have newC : H c' = none := I1.hok.fresh ge
    let fo := PySem.W.kdv_obj "<lambda>" (X.env.qual ++ "<lambda>") params (.expr body) scope (cloFrom X.env.cells scope.names []) (.ref t0) doc ((X.mg "__name__").getD .none) c' ctv
    let more : Array Value := #[rawInt pos.line, rawInt pos.col, .ref c']
    have J := inv_table (t' := tk) (more := more) (h' := h'.push fo) I1 tP (fun b o hb e => Heap.get?_push_of_some _ (grow b o hb e)) (Heap.get?_push_of_some _ tbl) ge ⟨oc, us, t, Heap.get?_push_of_some _ g1, g2, g3⟩
    have nPc : P ≠ c' := ne_of_none tP newC
    have ntP : t0 ≠ P := fun e => by rw [← e, nt0] at tP; cases tP
    have ntc : t0 ≠ c' := fun e => by
      have a : t0 < (s0.heap.push (PySem.W.kdv_tup [z])).objs.size := Heap.lt_size gt0
      rw [e] at a
      exact Nat.lt_irrefl _ (Nat.lt_of_lt_of_le a ge)
    have ext : ExtN H (upd (upd H P (.tbl (ps ++ more))) c' (CodeO c' (X.env.qual ++ "<lambda>"))) := fun b o e n => by
      rw [upd_ne (ne_of_none e newC)]
      have : b ≠ P := fun z => by
        rw [z, tP] at e
        exact n ps (Option.some.inj e).symm
      rw [upd_ne this]; exact e
    have asL : (ps ++ more).toList = ps.toList ++ [rawInt pos.line, rawInt pos.col, .ref c'] := by simp [more]
    refine go h'.objs.size c' t0 z ((X.mg "__name__").getD .none) ctv doc _ _ J ext (fun b z => ?_) (fun p hp => ?_) (Heap.get?_push_size _ rfl) (Heap.get?_push_of_some _ (grow _ _ ntP gt0)) ?_ (by rw [upd_ne ntc, upd_ne ntP]; exact nt0) (offStack _ (Nat.le_trans sz1 size)) (offStack _ (Nat.le_refl _)) upd_same
    · by_cases h1 : b = c'
      · rw [h1, upd_same] at z; cases z
      · rw [upd_ne h1] at z
        by_cases h2 : b = P
        · rw [h2, upd_same] at z; cases z
        · rw [upd_ne h2] at z; exact z
    · by_cases h2 : p.1 = P
      · rw [one p hp h2, h2]
        refine ⟨_, by rw [upd_ne nPc, upd_same], by rw [asL]; exact PySem.TriplesOk_snoc _ _ _ _ trip, fun p' cv hcv => ?_⟩
        rw [asL] at hcv
        rcases among_app _ trip hcv with z | z
        · obtain ⟨c0, e1, e2⟩ := among p' cv z
          exact ⟨c0, e1, ext _ _ e2 codeO_ne⟩
        · exact ⟨c', z, upd_same⟩
      · obtain ⟨ps', a1, a2, a3⟩ := tabs p hp
        refine ⟨ps', by rw [upd_ne (ne_of_none a1 newC), upd_ne h2]; exact a1, a2, fun p' cv hcv => ?_⟩
        obtain ⟨c0, e1, e2⟩ := a3 p' cv hcv
        exact ⟨c0, e1, ext _ _ e2 codeO_ne⟩
    · have n1 : h'.objs.size ≠ c' := Nat.ne_of_gt lt
      have n2 : h'.objs.size ≠ P := Nat.ne_of_gt (Nat.lt_of_lt_of_le (Heap.lt_size objP) size)
      rw [upd_ne n1, upd_ne n2]
      exact I1.hok.fresh size
end
end DS
set_option Elab.async false
set_option linter.all false
set_option maxRecDepth 100000
set_option maxHeartbeats 4000000
/-! methods of lists and texts -/
namespace DL
open PySem L2
open LamX (Tabs)
/-! ### a built-in method -/
/-- of what built-in class a thing is, for its methods -/
def mtT : D → String
  | .lst _ => "list"
  | .fls _ => "list"
  | .str _ => "str"
  | .dk _ _ => "dict"
  | .dt _ _ => "dict"
  | _ => ""
theorem mtT_tyV {K : PySem.W.Frag} {adr : Adr} {H : Hp} {d : D} {v : V} {F : List Addr} {t : String} (r : Rep K adr H d v F) (hl : mtT d = t) (ht : t ≠ "") : tyV K t v H := by
  cases d <;> first | (exact absurd hl.symm ht; done) | skip
  · subst hl
    obtain ⟨e, _⟩ := r
    subst e; rfl
  · subst hl
    obtain ⟨a, vs, G, e, s, _⟩ := Rep.litms r rfl
    subst e
    exact .inl ⟨rfl, vs, s⟩
  · subst hl
    obtain ⟨a, vs, G, e, s, _⟩ := Rep.litms r rfl
    subst e
    exact .inl ⟨rfl, vs, s⟩
  · subst hl
    obtain ⟨a, vs, G, e, s, _⟩ := r
    subst e
    exact .inr (.inr (.inl ⟨rfl, .inl ⟨_, s⟩⟩))
  · subst hl
    obtain ⟨a, vs, G, e, s, _⟩ := r
    subst e
    exact .inr (.inr (.inl ⟨rfl, .inr ⟨_, s⟩⟩))
/-- the thing of a slot asked: it stays there -/
def eMtS (i : Nat) (t : String) (h : List D → Option D) (as : AM) : EM := fun ρ => match ρ[i]? with
  | some (some d0) => if mtT d0 = t then (as ρ).bind fun ds ρ1 => match ρ1[i]? with
    | some (some d) => opt (h (d :: ds)) ρ1
    | _ => .fail
    else .fail
  | _ => .fail
/-- a value asked -/
def eMtE (f : EM) (t : String) (h : List D → Option D) (as : AM) : EM := fun ρ => (f ρ).bind fun d ρ1 => if mtT d = t then (as ρ1).bind fun ds ρ2 => opt (h (d :: ds)) ρ2 else .fail
section
variable {X : Cx} {adr : Adr} {T : List (Addr × Str)} {W : WX} {pos apos : Pos} {o e : Expr} {es : List Expr} {f g : EM} {as : AM} {h : List D → Option D} {t id : String} {name : Str}
theorem tMtS {i : Nat} {σ : L2.St} {H : Hp} {Q : VK} (ht : t ≠ "") (q : tD X.K adr T W (eMtS i t h as) σ H Q) : tBM X.K t (fun x xs H Q => rR X.K adr T h (x :: xs) H Q) (tVar i) (tDA X.K adr T W as) σ H Q := by
  obtain ⟨ρ, F, S, q⟩ := q
  unfold eMtS at q
  split at q
  · rename_i d0 hd0
    obtain ⟨v, G0, hv, r0, sub0⟩ := S.rep.get hd0
    by_cases hm : mtT d0 = t
    · rw [if_pos hm] at q
      refine ⟨v, hv, mtT_tyV r0 hm ht, ?_⟩
      refine tA (k := fun ds ρ1 => match ρ1[i]? with | some (some d) => opt (h (d :: ds)) ρ1 | _ => .fail) (Q := Q) ⟨ρ, F, S, q⟩ fun ds ρ1 F1 Fx xs H1 S1 rx nn q => ?_
      split at q
      · rename_i d hd
        obtain ⟨v1, G1, hv1, r1, sub1⟩ := S1.rep.get hd
        rw [hv] at hv1; cases hv1
        cases e : h (d :: ds) with
        | none => rw [e] at q; exact q.elim
        | some z =>
          rw [e] at q
          exact ⟨d :: ds, _, z, repL_cons r1 rx, e, S1.tab, hold_read q S1 fun b hb => List.mem_append_left _ hb⟩
      · exact q.elim
    · rw [if_neg hm] at q; exact q.elim
  · exact q.elim
theorem tMtE {σ : L2.St} {H : Hp} {Q : VK} (ht : t ≠ "") (q : tD X.K adr T W (eMtE f t h as) σ H Q) : tBM X.K t (fun x xs H Q => rR X.K adr T h (x :: xs) H Q) (tD X.K adr T W f) (tDA X.K adr T W as) σ H Q := by
  refine t1 (k := fun d ρ1 => if mtT d = t then (as ρ1).bind fun ds ρ2 => opt (h (d :: ds)) ρ2 else .fail) q fun d ρ1 F Fx x H1 S1 rx nn q => ?_
  by_cases hm : mtT d = t
  · rw [if_pos hm] at q
    refine ⟨mtT_tyV rx hm ht, ρ1, F, S1, ?_⟩
    cases e : as ρ1 with
    | fail => rw [e] at q; exact q.elim
    | exc xx ρ2 =>
      rw [e] at q
      exact fun cls dx H2 ⟨F2, a, b, c, st⟩ => q cls dx H2 ⟨F2, a, b, c, st.mono fun _ z => List.mem_append_left _ z⟩
    | ok ds ρ2 =>
      rw [e] at q
      intro ys H2 ⟨F2, Fy, s2, r2, n2, st⟩
      have hx : ∀ b ∈ Fx, H1 b ≠ none := fun b hb => ne_none_of (rx.mem b hb)
      have rx2 : Rep X.K adr H2 d x Fx := rx.ext st.ext (apart_of nn)
      cases e2 : h (d :: ds) with
      | none =>
        have q : Hold X.K adr T W (opt (h (d :: ds)) ρ2) (F ++ Fx) H1 σ Q := q
        rw [show opt (h (d :: ds)) ρ2 = .fail from by rw [e2]; rfl] at q; exact q.elim
      | some z =>
        have q : Hold X.K adr T W (opt (h (d :: ds)) ρ2) (F ++ Fx) H1 σ Q := q
        rw [show opt (h (d :: ds)) ρ2 = .ok z ρ2 from by rw [e2]; rfl] at q
        have st2 : Stp T (F ++ Fx) H1 F2 H2 := (st.mono fun _ z => List.mem_append_left _ z).sub fun _ z => List.mem_append_left _ z
        exact ⟨d :: ds, _, z, repL_cons rx2 r2, e2, st.tab, hold_read (Hold.weak st2 q) ⟨s2, (List.nodup_append.mp n2).1, st.tab⟩ fun _ z => z⟩
  · rw [if_neg hm] at q; exact q.elim
/-- name.m(..), o.m(..) of a list or a text -/
theorem pd_mtS {y : Str} {p : Pos} (i : Nat) (pa : PySem.PlainAttrs t) (slot : PySem.Slot t name id) (hty : typeOf (.builtin id) = pure (.type "method_descriptor")) (hm : MtD X adr T id h) (ha : PA X (e :: es) (tDA X.K adr T W as)) (ht : t ≠ "" := by decide)
    (hN : X.N[i]? = some y := by rfl) (hv : Vis X.env.scope y := by first | exact Or.inl rfl | exact Or.inr (Or.inl rfl) | exact Or.inr (Or.inr rfl)) (hd : (y == ("__debug__" : Str)) = false := by decide) (hcd : (y == ("__classdict__" : Str)) = false := by decide)
    (hbase : attributeBase (.Name y p) name X.env (eval (.Name y p) X.env) = eval (.Name y p) X.env := by rfl)
    (hfew : ((backTo pos (starEach (e :: es) X.env)).all (fun x => !x.1) && (backToKw pos (keywordEach [] X.env)).all (fun x => x.1.isSome) && decide ((e :: es).length + ([] : List Keyword).length + (if ([] : List Keyword).isEmpty then 0 else 1) < 30)) = true := by rfl)
    (hline : (apos.endLine == pos.line) = true := by rfl) (hs : starEach (e :: es) X.env = (false, eval e X.env) :: starEach es X.env := by rfl) (hplain : (backTo pos (starEach es X.env)).any (·.1) = false := by rfl) :
    PE X (.Call (.Attribute (.Name y p) name apos) (e :: es) [] pos) (tD X.K adr T W (eMtS i t h as)) :=
  PE.imp (pe_bm pa slot hty hm (pe_var hN hv hd hcd) ha hbase hfew hline hs hplain) fun σ H Q q => tMtS ht q
theorem pd_mtE (pa : PySem.PlainAttrs t) (slot : PySem.Slot t name id) (hty : typeOf (.builtin id) = pure (.type "method_descriptor")) (hm : MtD X adr T id h) (ho : PE X o (tD X.K adr T W f)) (ha : PA X (e :: es) (tDA X.K adr T W as)) (ht : t ≠ "" := by decide)
    (hbase : attributeBase o name X.env (eval o X.env) = eval o X.env := by rfl)
    (hfew : ((backTo pos (starEach (e :: es) X.env)).all (fun x => !x.1) && (backToKw pos (keywordEach [] X.env)).all (fun x => x.1.isSome) && decide ((e :: es).length + ([] : List Keyword).length + (if ([] : List Keyword).isEmpty then 0 else 1) < 30)) = true := by rfl)
    (hline : (apos.endLine == pos.line) = true := by rfl) (hs : starEach (e :: es) X.env = (false, eval e X.env) :: starEach es X.env := by rfl) (hplain : (backTo pos (starEach es X.env)).any (·.1) = false := by rfl) :
    PE X (.Call (.Attribute o name apos) (e :: es) [] pos) (tD X.K adr T W (eMtE f t h as)) :=
  PE.imp (pe_bm pa slot hty hm ho ha hbase hfew hline hs hplain) fun σ H Q q => tMtE ht q
end

/-! ### count, index, split -/
/-- a list of truths -/
def dBls : List D → Option (List Bool)
  | [] => some []
  | .bl k :: ds => (dBls ds).map (k :: ·)
  | _ => none
theorem repL_bls {K : PySem.W.Frag} {adr : Adr} {H : Hp} : ∀ {ds : List D} {vs : List V} {F : List Addr} {ks : List Bool}, RepL K adr H ds vs F → dBls ds = some ks → vs = ks.map V.bl
  | [], _, _, _, h, e => by cases e; exact h.1
  | d :: ds, _, _, ks, ⟨v, ws, F1, F2, e1, h1, h2, _⟩, e => by
    cases d <;> first | (simp only [dBls, reduceCtorEq] at e; done) | skip
    rename_i k
    simp only [dBls] at e
    cases e3 : dBls ds with
    | none => rw [e3] at e; cases e
    | some ls =>
      rw [e3] at e; cases e
      rw [e1, h1.1, repL_bls h2 e3]; rfl
def cntB (k : Bool) (ks : List Bool) : Int := ((ks.filter (· == k)).length : Nat)
def dCount : D → D → Option D
  | d, .bl k => (litms d).bind fun ds => (dBls ds).map fun ks => .int (cntB k ks)
  | _, _ => none
/-- the place of the first of some flat things -/
def idxV (y : V) : Nat → List V → Option Nat
  | _, [] => none
  | i, z :: zs => if eqV z y then some i else idxV y (i + 1) zs
def dIndex (a b : D) : Option D := (litms a).bind fun ds => if flD b && ds.all flD then (idxV (fV b) 0 (ds.map fV)).map fun i => .int (i : Nat) else none
theorem idxV_at {y : V} : ∀ {zs : List V} {i j : Nat}, idxV y i zs = some j → ∃ n z, j = i + n ∧ zs[n]? = some z ∧ eqV z y = true ∧ ∀ (m : Nat) (z' : V), m < n → zs[m]? = some z' → eqV z' y = false
  | [], _, _, h => by cases h
  | z :: zs, i, j, h => by
    unfold idxV at h
    by_cases hz : eqV z y = true
    · rw [if_pos hz] at h; cases h
      exact ⟨0, z, rfl, rfl, hz, fun m _ hm => absurd hm (by omega)⟩
    · rw [if_neg hz] at h
      obtain ⟨n, w, e1, e2, e3, e4⟩ := idxV_at h
      refine ⟨n + 1, w, by omega, by simpa using e2, e3, fun m z' hm e => ?_⟩
      match m, hm, e with
      | 0, _, e => simp at e; rw [← e]; simpa using hz
      | m + 1, hm, e => exact e4 m z' (by omega) (by simpa using e)
def dSplit : D → D → Option D
  | .str a, .str b => if b.length ≠ 0 ∧ a.length + 2 ≤ sizeLine then some (.lst ((Txt.split a b).map D.str)) else none
  | _, _ => none
theorem repL_strs {K : PySem.W.Frag} {adr : Adr} {H : Hp} : ∀ (l : List Str), RepL K adr H (l.map D.str) (l.map V.str) []
  | [] => repL_nil
  | x :: l => repL_cons (F1 := []) (F2 := []) ⟨rfl, rfl⟩ (repL_strs l)
theorem dupL_strs : ∀ (l : List Str), dupL (l.map D.str) = true
  | [] => rfl
  | _ :: l => dupL_strs l
section
open PySem.Spec PyProof.Rows
variable {X : Cx} {adr : Adr} {T : List (Addr × Str)}
theorem rd_bls {h : Heap} : ∀ {ks : List Bool} {us : List Value}, Vals (ks.map V.bl) us → PySem.ReadsAll h us (ks.map PyData.bool) []
  | [], _, r => by cases r; exact .nil
  | k :: ks, _, .cons ra rr => by
    cases ra
    exact readsAll_cons_val (.bool k) (rd_bls rr)
theorem cnt_bls (k : Bool) : ∀ ks : List Bool, countIn (.bool k) (ks.map PyData.bool) = cntB k ks
  | [] => rfl
  | b :: ks => by
    rw [List.map_cons, countIn, cnt_bls k ks]
    unfold cntB
    cases b <;> cases k <;> simp [same, List.filter] <;> omega
theorem mt2D {id : String} {r : V → List V → Hp → VK → Prop} {g : D → D → Option D} (hm : MtR X id r) (w : ∀ a b z H x y Fx Fy Q, g a b = some z → Rep X.K adr H a x Fx → Rep X.K adr H b y Fy → Tabs T H → Ans X.K adr T H z Q → r x [y] H Q) : MtD X adr T id (d2 g) :=
  MtR.imp hm fun x xs H Q ⟨ds, Fs, z, rl, e, t, q⟩ => by
    match ds, rl, e with
    | [a, b], rl, e =>
      obtain ⟨v1, ws, F1, F2, e1, r1, rl, _⟩ := rl
      obtain ⟨v2, ws2, F3, F4, e2, r2, rl, _⟩ := rl
      obtain ⟨e3, _⟩ := rl
      subst e3
      cases e1; cases e2
      exact w a b z H x v2 F1 F3 Q e r1 r2 t q
def rCntB (K : PySem.W.Frag) : V → List V → Hp → VK → Prop := fun x xs H Q => ∃ (p : Addr) (ks : List Bool) (k : Bool), x = .ref p ∧ xs = [.bl k] ∧ SqL K H p (ks.map V.bl) ∧ Q (.int (cntB k ks)) H
theorem mt_countB : MtR X "list.count" (rCntB X.K) := by
  intro pins s σ H x xs v us Q I rx rxs h
  obtain ⟨p, ks, k, rfl, rfl, sq, q⟩ := h
  cases rx
  obtain ⟨u, rfl, ru⟩ := rxs.one
  cases ru
  obtain ⟨its, rv, pl, hlen⟩ := I.list sq
  refine count_list_bools pl.isList (rd_bls (h := s.heap) rv) (by rw [List.all_map]; exact List.all_eq_true.mpr fun b _ => rfl) ?_
  rw [cnt_bls]
  exact ⟨.int (cntB k ks), H, I.tok _, ⟨s.toks, rfl⟩, q⟩
theorem mCount : MtD X adr T "list.count" (d2 dCount) := mt2D mt_countB fun a b z H x y Fx Fy Q e r1 r2 t q => by
  simp only [dCount] at e
  cases b <;> first | (cases e; done) | skip
  rename_i k
  simp only at e
  cases e4 : litms a with
  | none => rw [e4] at e; cases e
  | some es =>
    rw [e4] at e
    cases e5 : dBls es with
    | none => simp only [Option.bind_some, e5, Option.map_none] at e; cases e
    | some ks =>
      simp only [Option.bind_some, e5, Option.map_some] at e
      cases e
      obtain ⟨p, vs, G, ev, sq, rl⟩ := Rep.litms r1 e4
      have ek := repL_bls rl e5
      rw [ek] at sq
      exact ⟨p, ks, k, ev, by rw [r2.1], sq, q.flat t (.int _)⟩
theorem mIndex : MtD X adr T "list.index" (d2 dIndex) := mt2D mt_index fun a b z H x y Fx Fy Q e r1 r2 t q => by
  simp only [dIndex] at e
  cases e4 : litms a with
  | none => rw [e4] at e; cases e
  | some es =>
    rw [e4] at e
    simp only [Option.bind_some] at e
    by_cases hf : (flD b && es.all flD) = true
    · rw [if_pos hf] at e
      obtain ⟨f1, f2⟩ := Bool.and_eq_true_iff.mp hf
      cases e5 : idxV (fV b) 0 (es.map fV) with
      | none => rw [e5] at e; cases e
      | some j =>
        rw [e5] at e; cases e
        obtain ⟨p, vs, G, ev, sq, rl⟩ := Rep.litms r1 e4
        obtain ⟨g1, g2⟩ := flD_rep r2 f1
        obtain ⟨g3, g4⟩ := flL_rep rl f2
        obtain ⟨n, u, k1, k2, k3, k4⟩ := idxV_at e5
        have : j = n := by omega
        subst this
        exact ⟨p, vs, y, j, u, ev, rfl, sq, g2, g4, by rw [g3]; exact k2, by rw [g1]; exact k3, fun m z' hm hz => by rw [g1]; exact k4 m z' hm (by rw [← g3]; exact hz), q.flat t (.int _)⟩
    · rw [if_neg hf] at e; cases e
theorem mSplit : MtD X adr T "str.split" (d2 dSplit) := mt2D mt_split fun a b z H x y Fx Fy Q e r1 r2 t q => by
  cases a <;> first | (cases e; done) | skip
  cases b <;> first | (cases e; done) | skip
  rename_i a b
  simp only [dSplit] at e
  by_cases hc : b.length ≠ 0 ∧ a.length + 2 ≤ sizeLine
  · rw [if_pos hc] at e; cases e
    exact ⟨a, b, r1.1, by rw [r2.1], by simp [hc.1], hc.2, q.newL t (repL_strs _) (dupL_strs _)⟩
  · rw [if_neg hc] at e; cases e
end
end DL
set_option Elab.async false
set_option linter.all false
set_option maxRecDepth 100000
set_option maxHeartbeats 4000000
/-! the caught exception: asked for its class, for its fields -/
namespace DL
open PySem L2
open LamX (Tabs TabB)
/-! ### no caught exception in it -/
mutual
def noX : D → Bool
  | .tup ds => noXL ds
  | .lst ds => noXL ds
  | .fls ds => noXL ds
  | .dk _ ds => noXL ds
  | .dt _ ds => noXL ds
  | .ins _ ds => noXL ds
  | .exn _ _ => false
  | _ => true
def noXL : List D → Bool
  | [] => true
  | d :: ds => noX d && noXL ds
end
/-- another exception is caught -/
def Adr.atX (adr : Adr) (a b : Addr) : Adr := { adr with ea := a, ed := b }
theorem atX_at {adr : Adr} {a b : Addr} {n : Nat} : (adr.atX a b).at_ n = adr.at_ n := rfl
section
variable {K : PySem.W.Frag} {adr : Adr} {H : Hp} {a b : Addr}
mutual
theorem rep_atX : ∀ (d : D) (v : V) (F : List Addr), noX d = true → (Rep K (adr.atX a b) H d v F ↔ Rep K adr H d v F)
  | .non, _, _, _ => Iff.rfl
  | .bl _, _, _, _ => Iff.rfl
  | .int _, _, _, _ => Iff.rfl
  | .str _, _, _, _ => Iff.rfl
  | .ty _, _, _, _ => Iff.rfl
  | .ref _, _, _, _ => Iff.rfl
  | .tup ds, _, _, q => by simp only [Rep, fun vs F => repL_atX ds vs F q]
  | .lst ds, _, _, q => by simp only [Rep, fun vs F => repL_atX ds vs F q]
  | .fls ds, _, _, q => by simp only [Rep, fun vs F => repL_atX ds vs F q]
  | .dk _ ds, _, _, q => by simp only [Rep, fun vs F => repL_atX ds vs F q]
  | .dt _ ds, _, _, q => by simp only [Rep, fun vs F => repL_atX ds vs F q]
  | .ins _ ds, _, _, q => by simp only [Rep, fun vs F => repL_atX ds vs F q, atX_at]
  | .exn _ _, _, _, q => by cases q
  | .clo _, _, _, _ => Iff.rfl
theorem repL_atX : ∀ (ds : List D) (vs : List V) (F : List Addr), noXL ds = true → (RepL K (adr.atX a b) H ds vs F ↔ RepL K adr H ds vs F)
  | [], _, _, _ => Iff.rfl
  | d :: ds, _, _, q => by
    obtain ⟨q1, q2⟩ := Bool.and_eq_true_iff.mp (show (noX d && noXL ds) = true from q)
    simp only [RepL, fun v F => rep_atX d v F q1, fun vs F => repL_atX ds vs F q2]
end
end
/-! ### what is known of the exception classes -/
def xcls : List Nat := [11, 12, 13, 14, 15, 16, 17, 18, 19, 20, 21]
structure XFacts (K : PySem.W.Frag) (adr : Adr) : Prop where
  ga : ∀ n ∈ xcls, PySem.W.findIn K (.ref (adr n)) "__getattribute__" = some (some (.builtin "BaseException.__getattribute__"))
  gg : ∀ n ∈ xcls, PySem.W.findIn K (.ref (adr n)) "__getattr__" = some none
  sb : ∀ n ∈ xcls, PySem.W.subIn K (.ref (adr n)) (.type "BaseException") = some true
  hd : ∀ n ∈ xcls, PySem.W.hasDictIn K (adr n) = true
  ca : ∀ n ∈ xcls, PySem.W.findIn K (.ref (adr n)) "__class__" = some (some (.builtin "object.__class__"))
  sp : PySem.W.specialIn K (.builtin "object.__class__") "__get__" = some (some (.builtin "getset_descriptor.__get__"))
  tk : PySem.W.takesIn K (.builtin "object.__class__") = some true
  mr : ∀ n ∈ xcls, PySem.W.mroIn K (adr n) (.type "object") = some true
  is : ∀ n ∈ xcls, ∀ m ∈ xcls, PySem.W.kitOne K (.ref (adr n)) (.ref (adr m)) = some (n == m)
  ve : ∀ n ∈ xcls, PySem.W.kitOne K (.ref (adr n)) (.type "ValueError") = some true
  em : ∀ n ∈ xcls, PySem.W.exmOne K (.ref (adr n)) (.ref (adr 10)) = some true
  no : ∀ n ∈ xcls, ∀ f ∈ fx n, PySem.W.findIn K (.ref (adr n)) f = some none
def xfactsB (K : PySem.W.Frag) (adr : Adr) : Bool :=
  xcls.all (fun n => decide (PySem.W.findIn K (.ref (adr n)) "__getattribute__" = some (some (.builtin "BaseException.__getattribute__"))) && decide (PySem.W.findIn K (.ref (adr n)) "__getattr__" = some none) && decide (PySem.W.subIn K (.ref (adr n)) (.type "BaseException") = some true) && PySem.W.hasDictIn K (adr n)
    && decide (PySem.W.findIn K (.ref (adr n)) "__class__" = some (some (.builtin "object.__class__"))) && decide (PySem.W.mroIn K (adr n) (.type "object") = some true) && xcls.all (fun m => decide (PySem.W.kitOne K (.ref (adr n)) (.ref (adr m)) = some (n == m))) && decide (PySem.W.kitOne K (.ref (adr n)) (.type "ValueError") = some true)
    && decide (PySem.W.exmOne K (.ref (adr n)) (.ref (adr 10)) = some true) && (fx n).all (fun f => decide (PySem.W.findIn K (.ref (adr n)) f = some none)))
  && decide (PySem.W.specialIn K (.builtin "object.__class__") "__get__" = some (some (.builtin "getset_descriptor.__get__"))) && decide (PySem.W.takesIn K (.builtin "object.__class__") = some true)
theorem xfacts_of {K : PySem.W.Frag} {adr : Adr} (h : xfactsB K adr = true) : XFacts K adr := by
  unfold xfactsB at h
  simp only [Bool.and_eq_true, decide_eq_true_eq, List.all_eq_true] at h
  obtain ⟨⟨h, s1⟩, s2⟩ := h
  exact ⟨fun n hn => (h n hn).1.1.1.1.1.1.1.1.1, fun n hn => (h n hn).1.1.1.1.1.1.1.1.2, fun n hn => (h n hn).1.1.1.1.1.1.1.2, fun n hn => (h n hn).1.1.1.1.1.1.2, fun n hn => (h n hn).1.1.1.1.1.2, s1, s2, fun n hn => (h n hn).1.1.1.1.2,
    fun n hn m hm => (h n hn).1.1.1.2 m hm, fun n hn => (h n hn).1.1.2, fun n hn => (h n hn).1.2, fun n hn f hf => (h n hn).2 f hf⟩
/-! ### isinstance, fields -/
/-- isinstance of the exception, which is of the class n -/
def dIsX (n : Nat) : D → D → Option D
  | .exn k _, .ref m => if k = n ∧ m ∈ xcls then some (.bl (n == m)) else none
  | .exn k _, .ty t => if k = n ∧ t = "ValueError" then some (.bl true) else none
  | _, _ => none
/-- e.f -/
def eXf (j n : Nat) (f : Str) : EM := fun ρ => match ρ[j]? with
  | some (some (.exn k ds)) => if k = n then match (fx n).idxOf? f with
    | some i => match ds[i]? with
      | some d => if dup d then .ok d ρ else .fail
      | none => .fail
    | none => .fail
    else .fail
  | _ => .fail
section
open PySem.Spec PyProof.Rows
variable {X : Cx} {adr : Adr} {T : List (Addr × Str)} {W : WX} {a : Addr} {oe : Obj} {n : Nat} {d : Option Addr} {pn : List (Addr × Obj)}
/-- its object, as the rules want it -/
theorem inst_of {pins : List (Addr × Obj)} {σ : L2.St} {H : Hp} {s : Shared} {ds : List D} {v : V} {F : List Addr} (I : Inv (X.suite a ((a, oe) :: pn)) pins σ H s) (hz : Zc (.ref (adr n)) d oe) (hf : ∃ vs, oe.data = .fields vs) (hd : (fx n = [] ∧ d = none) ∨ (fx n ≠ [] ∧ ∃ b, d = some b))
    (r : Rep X.K (adr.atX a (d.getD 0)) H (.exn n ds) v F) : ∃ od, PySem.W.InstAt s.heap a oe (adr n) od := by
  obtain ⟨ha, _⟩ := I.pin (a, oe) (List.mem_append_left _ List.mem_cons_self)
  obtain ⟨fs, hfs⟩ := hf
  have hc : PySem.W.notCls oe = true := by unfold PySem.W.notCls; rw [hfs] <;> rfl
  rcases hd with ⟨_, e⟩ | ⟨hne, b, e⟩
  · exact ⟨none, ha, hz.1, hc, by rw [hz.2, e]; trivial⟩
  · subst e
    obtain ⟨_, _, q⟩ := r
    rcases q with q | ⟨vs, ho, _⟩
    · exact absurd q hne
    · have hx : ObjOk X.prog X.w H s.heap b (.xd ((fx n).zip vs)) := I.hok b _ ho
      obtain ⟨mA, hns, _⟩ := hx
      obtain ⟨od, hod, _⟩ := lookIn_ns hns
      exact ⟨some od, ha, hz.1, hc, by rw [hz.2]; exact hod⟩
theorem kIsX (XF : XFacts X.K adr) (hn : n ∈ xcls) (hz : Zc (.ref (adr n)) d oe) (hf : ∃ vs, oe.data = .fields vs) (hd : (fx n = [] ∧ d = none) ∨ (fx n ≠ [] ∧ ∃ b, d = some b)) :
    CallD (X.suite a ((a, oe) :: pn)) (adr.atX a (d.getD 0)) T (.builtin "isinstance") (d2 (dIsX n)) := by
  intro pins s σ H xs us Q I r h
  obtain ⟨ds, Fs, z, rl, e, t, q⟩ := h
  match ds, rl, e with
  | [d1, d2'], rl, e =>
    obtain ⟨v1, ws, F1, F2, e1, r1, rl, _⟩ := rl
    obtain ⟨v2, ws2, F3, F4, e2, r2, rl, _⟩ := rl
    obtain ⟨e3, _⟩ := rl
    subst e3; subst e2; subst e1
    have q : Ans X.K (adr.atX a (d.getD 0)) T H z Q := q
    have hcl : (PySem.W.clsIn X.K (adr n)).isSome = true := by
      obtain ⟨cd, hc, _⟩ := PySem.W.any_some (XF.hd n hn)
      rw [hc]; rfl
    cases r with
    | cons ra rr =>
      cases rr with
      | cons rb rr =>
        cases rr
        simp only [DL.d2, dIsX] at e
        cases d1 <;> first | (cases e; done) | skip
        rename_i k es
        cases d2' <;> first | (cases e; done) | skip
        · rename_i tn
          simp only at e
          by_cases hk : k = n ∧ tn = "ValueError"
          · rw [if_pos hk] at e; cases e
            obtain ⟨rfl, rfl⟩ := hk
            obtain ⟨od, J⟩ := inst_of I hz hf hd r1
            obtain ⟨ev, _⟩ := r1
            obtain ⟨ew, _⟩ := r2
            subst ev; subst ew
            cases ra; cases rb
            exact PySem.W.kia_one (PySem.W.kitx_exc hcl (XF.ga _ hn) (XF.gg _ hn) (XF.sb _ hn) (XF.ca _ hn) XF.sp XF.tk (XF.mr _ hn)) I.kIn J (XF.ve _ hn) (fun z => nomatch z) fun tk => ⟨.bl true, H, I.kept (t' := tk) fun _ _ z => z, rfl, q.flat t (.bl _)⟩
          · rw [if_neg hk] at e; cases e
        · rename_i m
          simp only at e
          by_cases hk : k = n ∧ m ∈ xcls
          · rw [if_pos hk] at e; cases e
            obtain ⟨rfl, hm⟩ := hk
            obtain ⟨od, J⟩ := inst_of I hz hf hd r1
            obtain ⟨ev, _⟩ := r1
            obtain ⟨ew, _⟩ := r2
            subst ev; subst ew
            cases ra; cases rb
            exact PySem.W.kia_one (PySem.W.kitx_exc hcl (XF.ga _ hn) (XF.gg _ hn) (XF.sb _ hn) (XF.ca _ hn) XF.sp XF.tk (XF.mr _ hn)) I.kIn J (XF.is _ hn m hm) (fun z => nomatch z) fun tk => ⟨.bl (k == m), H, I.kept (t' := tk) fun _ _ z => z, rfl, q.flat t (.bl _)⟩
          · rw [if_neg hk] at e; cases e
theorem idxOf_at {f : Str} : ∀ {l : List Str} {i : Nat}, l.idxOf? f = some i → l[i]? = some f := by
  intro l
  induction l with
  | nil => intro i h; simp at h
  | cons x l ih =>
    intro i h
    rw [List.idxOf?_cons] at h
    by_cases e : (x == f) = true
    · rw [if_pos e] at h; cases h
      simpa using beq_iff_eq.mp e
    · rw [if_neg e] at h
      cases e2 : l.idxOf? f with
      | none => rw [e2] at h; cases h
      | some j =>
        rw [e2] at h; cases h
        simpa using ih e2
theorem fx_nd : ∀ n ∈ xcls, (fx n).Nodup := by decide +kernel
theorem pd_xf {f y : Str} {p pos : Pos} (j : Nat) (XF : XFacts X.K adr) (hn : n ∈ xcls) (hz : Zc (.ref (adr n)) d oe) (hf : ∃ vs, oe.data = .fields vs) (hd : (fx n = [] ∧ d = none) ∨ (fx n ≠ [] ∧ ∃ b, d = some b))
    (hN : X.N[j]? = some y := by rfl) (hv : Vis X.env.scope y := by first | exact Or.inl rfl | exact Or.inr (Or.inl rfl) | exact Or.inr (Or.inr rfl)) (hdb : (y == ("__debug__" : Str)) = false := by decide) (hcd : (y == ("__classdict__" : Str)) = false := by decide)
    (hb : attributeBase (.Name y p) f X.env (eval (.Name y p) X.env) = eval (.Name y p) X.env := by rfl) :
    PE (X.suite a ((a, oe) :: pn)) (.Attribute (.Name y p) f pos) (tD X.K (adr.atX a (d.getD 0)) T W (eXf j n f)) := by
  by_cases hm : f ∈ fx n
  · refine PE.imp (pe_xf (cls := .ref (adr n)) ⟨XF.ga n hn, XF.gg n hn, XF.sb n hn, XF.hd n hn⟩ (XF.no n hn f hm) hz hf (pe_var (X := X.suite a ((a, oe) :: pn)) (pos := p) hN hv hdb hcd) hb) fun σ H Q q => ?_
    obtain ⟨ρ, F, S, q⟩ := q
    unfold eXf at q
    split at q
    · rename_i k ds hk
      split at q
      · rename_i ek
        subst ek
        split at q
        · rename_i i hi
          split at q
          · rename_i d1 hd1
            split at q
            · rename_i hdup
              obtain ⟨v, G, hv', r, _⟩ := S.rep.get hk
              obtain ⟨ev, _, r⟩ := r
              rcases hd with ⟨e0, _⟩ | ⟨hne, b, eb⟩
              · rw [e0] at hm; cases hm
              · subst eb
                rcases r with r | ⟨vs, ho, hl, rl⟩
                · exact absurd r hne
                · obtain ⟨w, G2, hw, rw', _⟩ := rl.get hd1
                  refine ⟨v, hv', ev, rfl, b, _, w, rfl, ho, lookup_zip (fx_nd _ hn) (idxOf_at hi) hw, ?_⟩
                  exact hold_read q S (fun _ z => z) w H [] (rw'.dup hdup) List.nodup_nil (Ext.refl _ _) (fun _ z => nomatch z) S.tab
            · exact q.elim
          · exact q.elim
        · exact q.elim
      · exact q.elim
    · exact q.elim
  · refine PE.imp (pe_dfail (adr := adr.atX a (d.getD 0)) (T := T) (W := W)) fun σ H Q q => ?_
    obtain ⟨ρ, F, S, q⟩ := q
    refine ⟨ρ, F, S, ?_⟩
    unfold eXf at q
    split at q
    · split at q
      · split at q
        · rename_i i hi
          exact absurd (List.mem_of_getElem? (idxOf_at hi)) hm
        · exact q.elim
      · exact q.elim
    · exact q.elim
end
end DL
set_option Elab.async false
set_option linter.all false
set_option maxRecDepth 100000
set_option maxHeartbeats 4000000
/-! x(lambda: e), x a def that calls what it got and tells the kind of what it catches -/
namespace DS
open PySem PySem.Spec PyProof.Rows L2 LamX
/-- as tLam; and no address is lost -/
def tLam2 (T : List (Addr × Str)) (TT : (XK → Hp → VK → Prop) → Hp → VK → Prop) (t : XK → TE) : TE := fun σ H Q => Tabs T H ∧ ∀ H1, ExtN H H1 → (∀ b, H1 b = none → H b = none) → Tabs T H1 → TT (fun E H' Q' => t E σ H' Q') H1 Q
section
variable {X : Cx} {T : List (Addr × Str)} {TT : (XK → Hp → VK → Prop) → Hp → VK → Prop} {x a : Str} {g c P : Addr} {k : Nat} {st : Stmt} {fd : FuncData} {Ng : List Str} {params : Arguments} {body : Expr} {scope : Scope} {t : XK → TE} {p lpos pos : Pos}
/-- the lambda is made: the def is called with it -/
theorem lam_given {pins : List (Addr × Obj)} {σ : L2.St} {J : Hp} {s' : Shared} {Q : VK} {f c' : Addr} {dv doc pm ctv : Value} {ps : List Str} {binds : List (Str × Value)} {od : List (Addr × Obj)} (hF : Fun X.K x x st g fd) (hb : L2.Binds X.K fd [a] []) (Sg : FnScope Ng [a] (defScope st)) (hNg : Ng[0]? = some a) (hva : Vis (defScope st) a)
    (hG : ∀ cdg, GivesTo X Ng x (defScope st) g cdg (defBody st) a (X.env.qual ++ "<lambda>") TT) (hr : Room (k + 2) X.A) (L : LamS2 X.env.scope scope ps) (hps : ∀ x ∈ ps, x ∉ X.N)
    (hbody : ∀ (A : Around) (outer : List Env) (s : Shared) (H : Hp) (E : XK) (f c' : Addr), Room k (A.deeper (lamEnv X scope s.heap.objs.size f c')) → PE (lamCx X A outer s H E scope f c') body (t E))
    (hd : (a == ("__debug__" : Str)) = false) (hcd : (a == ("__classdict__" : Str)) = false)
    (I1 : Inv X pins σ J s') (hof : s'.heap.get? f = some (PySem.W.kdv_obj "<lambda>" (X.env.qual ++ "<lambda>") params (.expr body) scope (cloFrom X.env.cells scope.names []) dv doc pm c' ctv)) (hfn : J f = none) (hfr : f ∉ frs X.stack) (hco : J c' = some (CodeO c' (X.env.qual ++ "<lambda>")))
    (hod : ∀ q ∈ od, s'.heap.get? q.1 = some q.2 ∧ J q.1 = none ∧ q.1 ∉ frs X.stack) (hbn : binds.map (·.1) = ps)
    (hbind : ∀ s2 : Shared, (∀ q ∈ od, s2.heap.get? q.1 = some q.2) → BindsTo s2 (PySem.W.kdv_fn "<lambda>" (X.env.qual ++ "<lambda>") params (.expr body) scope (cloFrom X.env.cells scope.names []) dv doc pm (.ref c') ctv) ⟨[], []⟩ binds)
    (h : TT (fun E H' Q' => t E σ H' Q') J Q) : wpAny (model X.prog X.w) X.A (call (.ref g) [.ref f]) (EP X pins σ Q) X.xe s' := by
  obtain ⟨oc, od', kV, doc', pm', an, cdv, ct, osl, rfl, lk, hcg⟩ := hF.ex
  have run : codeAny (model X.prog X.w) X.A (.call (.ref g) ⟨[.ref f], []⟩) (CR C8.CX0 X.stack X.prog X.w J s' Q C8.E0) s' := by
    refine run_ofS (N := Ng) (ps := [a]) (us := [.ref f]) (vs := [.ref f]) lk hcg Sg hr I1.env0 (hb s' [.ref f] I1.kIn rfl) (.cons rfl .nil) rfl fun hr' => ?_
    obtain ⟨t', ht', hq'⟩ := hG cdv f c' s' J Q (fun E H' Q' => t E σ H' Q') (fun W pn xe E p1 p2 tk hW => pe_do (i := 0) (od := od) I1 L hps hof hfn hfr hod hbn hbind tk hW hr' (fun A outer s H hr2 => hbody A outer s H E f c' hr2) hNg hva hd hcd) hco h
    exact ⟨t', ht'.nox, hq'⟩
  refine wpAny_call (codeAny_mono run fun r s2 fin => ?_)
  match r, fin with
  | .error e, fin => exact (show False from fin).elim
  | .ok (.ret u), fin => exact I1.after fin
  | .ok .next, fin => exact fin.elim
  | .ok .brk, fin => exact fin.elim
  | .ok .cont, fin => exact fin.elim
theorem pe_lam0 (hg : Gl X x) (hm : X.mg x = some (.ref g)) (hF : Fun X.K x x st g fd) (hb : L2.Binds X.K fd [a] []) (Sg : FnScope Ng [a] (defScope st)) (hNg : Ng[0]? = some a) (hva : Vis (defScope st) a)
    (hG : ∀ cdg, GivesTo X Ng x (defScope st) g cdg (defBody st) a (X.env.qual ++ "<lambda>") TT)
    (TB : TabB X.base X.mg c P) (hcode : X.env.code = .ref c) (hmT : (P, X.env.qual ++ "<lambda>") ∈ T) (hu : ∀ p ∈ T, p.1 = P → p.2 = X.env.qual ++ "<lambda>") (hr : Room (k + 2) X.A) (L : LamS2 X.env.scope scope []) (hdef : defaultsOf params X.env = ([], []))
    (hbind : ∀ (q : Str) (cl : List (Str × Addr)) (pm cv ctv : Value), bindArgs (PySem.W.kla_fn "<lambda>" q params body scope cl pm cv ctv) ⟨[], []⟩ = pure [])
    (hbody : ∀ (A : Around) (outer : List Env) (s : Shared) (H : Hp) (E : XK) (f c' : Addr), Room k (A.deeper (lamEnv X scope s.heap.objs.size f c')) → PE (lamCx X A outer s H E scope f c') body (t E))
    (hdb : (x == ("__debug__" : Str)) = false := by decide) (hd : (a == ("__debug__" : Str)) = false := by decide) (hcd : (a == ("__classdict__" : Str)) = false := by decide) :
    PE X (.Call (.Name x p) [.Lambda params body scope lpos] [] pos) (tLam2 T TT t) := by
  refine ⟨fun pins s σ H Q I given => ?_⟩
  obtain ⟨hT, given⟩ := given
  refine wpAny_Call_Name_kw (ld_glob I hg hm ?_ hdb)
  refine PySem.W.callWith_K (h₀ := X.base) I.ok.mod.kin hF.kp ?_ (by rfl) (by rfl)
  show wpAny _ _ (spliced ((false, eval (.Lambda params body scope lpos) X.env) :: backTo pos (starEach [] X.env))) _ _ s
  refine Calls.spliced_cons (lam_mk I TB hcode hmT hu hT hdef (L.capt I.ok) fun f c' pm ctv J s' I1 eN dm T1 hof hfn hfr hco => ?_)
  refine Calls.spliced_nil ⟨I1.kIn, ?_⟩
  exact lam_given (dv := .none) (doc := .none) (od := []) (binds := []) hF hb Sg hNg hva hG hr L (fun _ z => nomatch z) hbody hd hcd I1 hof hfn hfr hco (fun _ z => nomatch z) rfl (fun s2 _ => BindsTo.of_eq (hbind _ _ _ _ _)) (given J eN dm T1)
/-- .. its one parameter has the default 0 -/
theorem pe_lam1 {z : Str} {jc : Nat} {pc : Pos} (hg : Gl X x) (hm : X.mg x = some (.ref g)) (hF : Fun X.K x x st g fd) (hb : L2.Binds X.K fd [a] []) (Sg : FnScope Ng [a] (defScope st)) (hNg : Ng[0]? = some a) (hva : Vis (defScope st) a)
    (hG : ∀ cdg, GivesTo X Ng x (defScope st) g cdg (defBody st) a (X.env.qual ++ "<lambda>") TT)
    (TB : TabB X.base X.mg c P) (hcode : X.env.code = .ref c) (hmT : (P, X.env.qual ++ "<lambda>") ∈ T) (hu : ∀ p ∈ T, p.1 = P → p.2 = X.env.qual ++ "<lambda>") (hr : Room (k + 2) X.A) (L : LamS2 X.env.scope scope [z]) (hz : z ∉ X.N) (hpd : params.defaults = [.Constant (.int 0) jc pc]) (hk0 : params.kw_defaults = [])
    (hbind : ∀ (q : Str) (cl : List (Str × Addr)) (t : Addr) (doc pm cv ctv v : Value), ∃ kk, bindArgs (PySem.W.kdv_fn "<lambda>" q params (.expr body) scope cl (.ref t) doc pm cv ctv) ⟨[], []⟩ = seqItems? (.ref t) >>= kk ∧ kk (some #[v]) = pure [(z, v)])
    (hbody : ∀ (A : Around) (outer : List Env) (s : Shared) (H : Hp) (E : XK) (f c' : Addr), Room k (A.deeper (lamEnv X scope s.heap.objs.size f c')) → PE (lamCx X A outer s H E scope f c') body (t E))
    (hdb : (x == ("__debug__" : Str)) = false := by decide) (hd : (a == ("__debug__" : Str)) = false := by decide) (hcd : (a == ("__classdict__" : Str)) = false := by decide) :
    PE X (.Call (.Name x p) [.Lambda params body scope lpos] [] pos) (tLam2 T TT t) := by
  refine ⟨fun pins s σ H Q I given => ?_⟩
  obtain ⟨hT, given⟩ := given
  refine wpAny_Call_Name_kw (ld_glob I hg hm ?_ hdb)
  refine PySem.W.callWith_K (h₀ := X.base) I.ok.mod.kin hF.kp ?_ (by rfl) (by rfl)
  show wpAny _ _ (spliced ((false, eval (.Lambda params body scope lpos) X.env) :: backTo pos (starEach [] X.env))) _ _ s
  refine Calls.spliced_cons (lam_mkD I TB hcode hmT hu hT hpd hk0 (L.capt I.ok) fun f c' t0 w pm ctv doc J s' I1 eN dm T1 hof hot hfn htn hfr htr hco => ?_)
  refine Calls.spliced_nil ⟨I1.kIn, ?_⟩
  refine lam_given (dv := .ref t0) (doc := doc) (od := [(t0, PySem.W.kdv_tup [w])]) (binds := [(z, w)]) hF hb Sg hNg hva hG hr L (fun y hy => by rw [List.mem_singleton.mp hy]; exact hz) hbody hd hcd I1 hof hfn hfr hco (fun q hq => by rw [List.mem_singleton.mp hq]; exact ⟨hot, htn, htr⟩) rfl (fun s2 hs2 => ?_) (given J eN dm T1)
  obtain ⟨kk, h1, h2⟩ := hbind (X.env.qual ++ "<lambda>") (cloFrom X.env.cells scope.names []) t0 doc pm (.ref c') ctv w
  exact BindsTo.of_defaults rfl (hs2 _ List.mem_cons_self) rfl h1 h2
end
end DS
set_option Elab.async false
set_option linter.all false
set_option maxRecDepth 100000
set_option maxHeartbeats 4000000
/-! the kind of what a lambda's body does: its value, or a word and the fields of what it raises -/
namespace DL
open PySem L2
open LamX (Tabs TabB ExtN GivesTo CodeO)
/-- the def's slots, where it has caught -/
def startX (len n : Nat) (ds : List D) : Env := (List.replicate len none).set 1 (some (.exn n ds))
/-- what the except clause makes of an exception -/
def hdOf (len : Nat) (hb : Nat → SM) (n : Nat) (ds : List D) : Option D := match hb n (startX len n ds) with
  | .rt z _ => if dup z && noX z then some z else none
  | _ => none
def eKind (hd : Nat → List D → Option D) (b : EM) : EM := fun ρ => match b ρ with
  | .ok d ρ' => .ok d ρ'
  | .exc x ρ' => if x.cls ∈ xcls ∧ noXL x.ds = true then match hd x.cls x.ds with
    | some z => .ok z ρ'
    | none => .fail
    else .fail
  | .fail => .fail
def TTkind (K : PySem.W.Frag) (adr : Adr) (T : List (Addr × Str)) (hd : Nat → List D → Option D) : (XK → Hp → VK → Prop) → Hp → VK → Prop := fun tl H Q =>
  tl (fun cls dx H' => ∃ x : Xc, RepX K adr H' x cls dx ∧ x.cls ∈ xcls ∧ noXL x.ds = true ∧ Tabs T H' ∧ ∃ z, hd x.cls x.ds = some z ∧ ∀ v H'', Rep K adr H'' z v [] → Ext [] H' H'' → Tabs T H'' → Q v H'') H Q
structure KKd (P : Program) (w : World) (K : PySem.W.Frag) (mg : Str → Option Value) (base : Heap) (adr : Adr) (T : List (Addr × Str)) (x : Str) (hd : Nat → List D → Option D) : Prop where
  ex : ∃ (st : Stmt) (g : Addr) (Ng : List Str) (a : Str) (fd : FuncData), Fun K x x st g fd ∧ Binds K fd [a] [] ∧ mg x = some (.ref g) ∧ FnScope Ng [a] (defScope st) ∧ Ng[0]? = some a ∧ Vis (defScope st) a ∧ (a == ("__debug__" : Str)) = false ∧ (a == ("__classdict__" : Str)) = false ∧
    ∀ (X : Cx) (q : Str) (cdg : Value), X.prog = P → X.w = w → X.K = K → X.mg = mg → X.base = base → GivesTo X Ng x (defScope st) g cdg (defBody st) a q (TTkind K adr T hd)
section
variable {P : Program} {w : World} {K : PySem.W.Frag} {mg : Str → Option Value} {base : Heap} {adr : Adr} {T : List (Addr × Str)}
theorem repS_startX {H : Hp} {σ : L2.St} {len n : Nat} {ds : List D} {a : Addr} (hl : σ.length = len) (h1 : 1 < len) (r : Rep K adr H (.exn n ds) (.ref a) []) : RepS K adr H (startX len n ds) (σ.set 1 (some (.ref a))) [] := by
  obtain ⟨F', s, p⟩ := RepS.put (i := 1) (d := .exn n ds) (repS_none (K := K) (adr := adr) (H := H) hl) (by simpa using h1) (by simp [h1]) r
  have e : F' = [] := by simpa using p
  rw [e] at s
  exact s
theorem kkd_of {x a : Str} {st : Stmt} {n : Nat} {Ng : List Str} {b0 : Stmt} {suite : List Stmt} {p1 p2 p3 p4 p5 p6 : Pos} {hb : Nat → SM} (F : FD K mg x st (adr n) [a]) (S : FnScope Ng [a] (defScope st))
    (hbody : defBody st = [.Try [.Return (some (.Call (.Name a p1) [] [] p2)) p3] [.ExceptHandler (some (.Name "FenceError" p4)) (some "e") (b0 :: suite) p5] [] [] p6])
    (h0 : Ng[0]? = some a) (h1 : Ng[1]? = some ("e" : Str)) (va : Vis (defScope st) a) (ha : (a == ("__debug__" : Str)) = false) (ha2 : (a == ("__classdict__" : Str)) = false) (he : (defScope st).names.lookup ("e" : Str) = some .local) (hf : (defScope st).names.lookup ("FenceError" : Str) = some .globalImplicit) (mF : mg "FenceError" = some (.ref (adr 10))) (XF : XFacts K adr)
    (hsu : ∀ (cdg : Value) (A : Around) (stack : List PySem.Env) (s : Shared) (H : Hp) (k : Nat) (a' : Addr) (oe : Obj) (d : Option Addr) (pn : List (Addr × Obj)), k ∈ xcls → Zc (.ref (adr k)) d oe → (∃ vs, oe.data = .fields vs) → ((fx k = [] ∧ d = none) ∨ (fx k ≠ [] ∧ ∃ b, d = some b)) →
      PSs (((cxOf C8.CX0 P w K mg base Ng x (defScope st) (adr n) cdg A stack s H C8.E0).nox).suite a' ((a', oe) :: pn)) (b0 :: suite) (tDS K (adr.atX a' (d.getD 0)) T [] W0 (hb k))) :
    KKd P w K mg base adr T x (hdOf Ng.length hb) := by
  obtain ⟨fd, hF, hB⟩ := F.ex
  refine ⟨st, adr n, Ng, a, fd, hF, hB, F.at_, S, h0, va, ha, ha2, fun X q cdg e1 e2 e3 e4 e5 => ?_⟩
  subst e1; subst e2; subst e3; subst e4; subst e5
  intro f c' s H Q tl act hc h
  rw [hbody]
  have hl1 : 1 < Ng.length := (List.getElem?_eq_some_iff.mp h1).1
  refine ⟨_, pss_one (ps_try_as (X := (cxOf C8.CX0 X.prog X.w X.K X.mg X.base Ng x (defScope st) (adr n) cdg X.A X.stack s H C8.E0).nox) (c := .ref (adr 10)) (i := 1)
      (tb := fun W D σ H => ∃ Ech : XK, (∀ cls d σ' H', Ech cls d H' → W cls d σ' H') ∧ σ[0]? = some (some (.ref f)) ∧ H c' = some (CodeO c' q) ∧ tl Ech H D.rt)
      (ts := fun a' cls d D σ H => ∃ k, k ∈ xcls ∧ cls = .ref (adr k) ∧ ((fx k = [] ∧ d = none) ∨ (fx k ≠ [] ∧ ∃ b, d = some b)) ∧ (σ.length = Ng.length → tDS X.K (adr.atX a' (d.getD 0)) T [] W0 (hb k) D σ H))
      rfl rfl S.nd h1 he ⟨hf, by decide, .inl mF⟩ LamX.takes0 (fun W pn xe tk _ => ?_) (fun a' oe cls d pn hz hfs => ?_)), ?_⟩
  · refine ⟨fun pins s' σ H' D I h' => ?_⟩
    obtain ⟨Ech, hW, g1, g2, g3⟩ := h'
    have hp := act W pn xe Ech p1 p2 tk hW
    exact (pss_one (ps_ret (pos := p3) hp)).run pins s' σ H' D I ⟨g1, g2, g3⟩
  · refine ⟨fun pins s' σ H' D I h' => ?_⟩
    obtain ⟨k, hk, ek, hd, h'⟩ := h'
    subst ek
    exact (hsu cdg X.A X.stack s H k a' oe d pn hk hz hfs hd).run pins s' σ H' D I (h' I.len)
  · refine ⟨_, ?_, ?_, hc, h⟩
    · intro cls d σ' H' ⟨y, rx, hk, nx, tabs, z, ez, fin⟩
      obtain ⟨ec, rx⟩ := rx
      refine ⟨true, by rw [ec]; exact XF.em _ hk, fun _ a' na => ⟨y.cls, hk, ec, ?_, fun hlen => ?_⟩, fun z => nomatch z⟩
      · rcases rx with ⟨e1, _, e2⟩ | ⟨e0, b, vs, e1, _⟩
        · exact .inl ⟨e1, e2⟩
        · exact .inr ⟨e0, b, e1⟩
      · have hr : Rep X.K (adr.atX a' (d.getD 0)) H' (.exn y.cls y.ds) (.ref a') [] := by
          refine ⟨rfl, rfl, ?_⟩
          rcases rx with ⟨e1, _, e2⟩ | ⟨_, b, vs, e1, e2, e3, rl⟩
          · exact .inl e1
          · subst e1
            exact .inr ⟨vs, e2, e3, (repL_atX y.ds vs [] nx).mpr rl⟩
        refine ⟨_, [], ⟨repS_startX (by simpa using hlen) hl1 hr, List.nodup_nil, tabs⟩, ?_⟩
        unfold hdOf at ez
        cases eh : hb y.cls (startX Ng.length y.cls y.ds) with
        | rt z' ρ' =>
          rw [eh] at ez
          simp only at ez
          by_cases hz : (dup z' && noX z') = true
          · rw [if_pos hz] at ez; cases ez
            obtain ⟨hz1, hz2⟩ := Bool.and_eq_true_iff.mp hz
            intro v σ2 H2 ⟨F', Fd, _, rd, _, st', _⟩
            have rd := rd.dup hz1
            exact fin v H2 ((rep_atX z v [] hz2).mp rd) st'.ext st'.tab
          · rw [if_neg hz] at ez; cases ez
        | nx _ => rw [eh] at ez; cases ez
        | bk _ => rw [eh] at ez; cases ez
        | ct _ => rw [eh] at ez; cases ez
        | exc _ _ => rw [eh] at ez; cases ez
        | fail => rw [eh] at ez; cases ez
    · rfl
end
section
variable {X : Cx} {adr : Adr} {T : List (Addr × Str)} {W : WX} {pos p lpos : Pos} {body : Expr} {params : Arguments} {scope : Scope} {b : EM} {hd : Nat → List D → Option D} {x : Str} {k j : Nat} {c P : Addr}
theorem tKind {σ : L2.St} {H : Hp} {Q : VK} (q : tD X.K adr T W (eKind hd b) σ H Q) : DS.tLam2 T (TTkind X.K adr T hd) (fun E => tD X.K adr T (fun cls d _ H => E cls d H) b) σ H Q := by
  obtain ⟨ρ, F, S, q⟩ := q
  refine ⟨S.tab, fun H1 eN dm t1 => ?_⟩
  have eF : Ext F H H1 := ⟨fun b o hb _ nt => eN b o hb nt, dm⟩
  have st : Stp T F H F H1 := ⟨eF, fun _ z => .inl z, t1⟩
  have e0 : Ext [] H H1 := ⟨fun b o hb _ nt => eN b o hb nt, dm⟩
  have S1 : Sim X.K adr T ρ σ H1 F := ⟨S.rep.ext e0 (fun _ _ z => nomatch z), S.nd, t1⟩
  refine ⟨ρ, F, S1, ?_⟩
  unfold eKind at q
  cases eb : b ρ with
  | fail => rw [eb] at q; exact q.elim
  | ok d ρ' =>
    rw [eb] at q
    exact Hold.weak st (W := fun cls d _ H => _) (r := .ok d ρ') q
  | exc y ρ' =>
    rw [eb] at q
    simp only at q
    by_cases hc : y.cls ∈ xcls ∧ noXL y.ds = true
    · rw [if_pos hc] at q
      cases ez : hd y.cls y.ds with
      | none => rw [ez] at q; exact q.elim
      | some z =>
        rw [ez] at q
        intro cls dx H' ⟨F', rs, rx, nd, st'⟩
        refine ⟨y, rx, hc.1, hc.2, st'.tab, z, ez, fun v H'' r ex tb => ?_⟩
        refine q v H'' ⟨F', [], rs.ext ex (fun _ _ z => nomatch z), r, by simpa using nd, ?_⟩
        have s2 : Stp T F H F' H' := st.trans st' fun _ z => z
        rw [List.append_nil]
        exact ⟨s2.ext.trans (ex.mono (fun _ z => nomatch z) (G := F')) (fun b hb => s2.frs b hb), s2.frs, tb⟩
    · rw [if_neg hc] at q; exact q.elim
theorem pd_kind (kd : KKd X.prog X.w X.K X.mg X.base adr T x hd) (tb : TabB X.base X.mg c P) (hcode : X.env.code = .ref c) (inT : (P, X.env.qual ++ "<lambda>") ∈ T) (one : ∀ p ∈ T, p.1 = P → p.2 = X.env.qual ++ "<lambda>") (hr : Room j X.A) (hk : k + 2 ≤ j)
    (L : DS.LamS2 X.env.scope scope []) (nodef : defaultsOf params X.env = ([], []))
    (hbind : ∀ (q : Str) (cl : List (Str × Addr)) (pm cv ctv : Value), bindArgs (PySem.W.kla_fn "<lambda>" q params body scope cl pm cv ctv) ⟨[], []⟩ = pure [])
    (hbody : ∀ (A : Around) (outer : List PySem.Env) (s : Shared) (H : Hp) (E : XK) (f c' : Addr), Room k (A.deeper (LamX.lamEnv X scope s.heap.objs.size f c')) → Takes (LamX.lamCx X A outer s H E scope f c') (fun cls d _ H => E cls d H) → PE (LamX.lamCx X A outer s H E scope f c') body (tD X.K adr T (fun cls d _ H => E cls d H) b))
    (hg : Gl X x := by rfl) (hdb : (x == ("__debug__" : Str)) = false := by decide) : PE X (.Call (.Name x p) [.Lambda params body scope lpos] [] pos) (tD X.K adr T W (eKind hd b)) := by
  obtain ⟨st, g, Ng, a, fd, hF, hB, hm, S, h0, va, ha, ha2, gives⟩ := kd.ex
  exact PE.imp (DS.pe_lam0 (k := k) hg hm hF hB S h0 va (fun cdg => gives X _ cdg rfl rfl rfl rfl rfl) tb hcode inT one (hr.mono hk) L nodef hbind (fun A outer s H E f c' hr' => hbody A outer s H E f c' hr' (takes_of rfl rfl rfl rfl)) hdb ha ha2) fun σ H Q q => tKind q
theorem pd_kind1 {z : Str} {jc : Nat} {pc : Pos} (kd : KKd X.prog X.w X.K X.mg X.base adr T x hd) (tb : TabB X.base X.mg c P) (hcode : X.env.code = .ref c) (inT : (P, X.env.qual ++ "<lambda>") ∈ T) (one : ∀ p ∈ T, p.1 = P → p.2 = X.env.qual ++ "<lambda>") (hr : Room j X.A) (hk : k + 2 ≤ j)
    (L : DS.LamS2 X.env.scope scope [z]) (hz : z ∉ X.N) (hpd : params.defaults = [.Constant (.int 0) jc pc]) (hk0 : params.kw_defaults = [])
    (hbind : ∀ (q : Str) (cl : List (Str × Addr)) (t : Addr) (doc pm cv ctv v : Value), ∃ kk, bindArgs (PySem.W.kdv_fn "<lambda>" q params (.expr body) scope cl (.ref t) doc pm cv ctv) ⟨[], []⟩ = seqItems? (.ref t) >>= kk ∧ kk (some #[v]) = pure [(z, v)])
    (hbody : ∀ (A : Around) (outer : List PySem.Env) (s : Shared) (H : Hp) (E : XK) (f c' : Addr), Room k (A.deeper (LamX.lamEnv X scope s.heap.objs.size f c')) → Takes (LamX.lamCx X A outer s H E scope f c') (fun cls d _ H => E cls d H) → PE (LamX.lamCx X A outer s H E scope f c') body (tD X.K adr T (fun cls d _ H => E cls d H) b))
    (hg : Gl X x := by rfl) (hdb : (x == ("__debug__" : Str)) = false := by decide) : PE X (.Call (.Name x p) [.Lambda params body scope lpos] [] pos) (tD X.K adr T W (eKind hd b)) := by
  obtain ⟨st, g, Ng, a, fd, hF, hB, hm, S, h0, va, ha, ha2, gives⟩ := kd.ex
  exact PE.imp (DS.pe_lam1 (k := k) hg hm hF hB S h0 va (fun cdg => gives X _ cdg rfl rfl rfl rfl rfl) tb hcode inT one (hr.mono hk) L hz hpd hk0 hbind (fun A outer s H E f c' hr' => hbody A outer s H E f c' hr' (takes_of rfl rfl rfl rfl)) hdb ha ha2) fun σ H Q q => tKind q
end
end DL
set_option Elab.async false
set_option linter.all false
set_option maxRecDepth 100000
set_option maxHeartbeats 4000000
/-! slots looked at; isinstance with two classes; exceptions without fields; a try without a name -/
namespace DL
open PySem L2
open LamX (Tabs TabB)
/-! ### an operand that stays in its slot -/
def eO2p (i : Nat) (h : List D → Option D) (g : EM) : EM := fun ρ => match ρ[i]? with
  | some (some _) => (g ρ).bind fun y ρ1 => match ρ1[i]? with
    | some (some d) => opt (h [d, y]) ρ1
    | _ => .fail
  | _ => .fail
def eO2q (i : Nat) (h : List D → Option D) (f : EM) : EM := fun ρ => (f ρ).bind fun x ρ1 => match ρ1[i]? with
  | some (some d) => opt (h [x, d]) ρ1
  | _ => .fail
def eO2pq (i j : Nat) (h : List D → Option D) : EM := fun ρ => match ρ[i]?, ρ[j]? with
  | some (some a), some (some b) => opt (h [a, b]) ρ
  | _, _ => .fail
section
variable {X : Cx} {adr : Adr} {T : List (Addr × Str)} {W : WX} {σ : L2.St} {H : Hp} {Q : VK} {f g : EM} {h : List D → Option D}
theorem tO2p {i : Nat} (q : tD X.K adr T W (eO2p i h g) σ H Q) : ∃ v, σ[i]? = some (some v) ∧ tD X.K adr T W g σ H fun y H2 => rR X.K adr T h [v, y] H2 Q := by
  obtain ⟨ρ, F, S, q⟩ := q
  unfold eO2p at q
  split at q
  · rename_i d0 hd0
    obtain ⟨v, G0, hv, _, _⟩ := S.rep.get hd0
    refine ⟨v, hv, t1 (k := fun y ρ1 => match ρ1[i]? with | some (some d) => opt (h [d, y]) ρ1 | _ => .fail) (Q := Q) ⟨ρ, F, S, q⟩ fun dy ρ1 F1 Fx y H1 S1 ry nn q => ?_⟩
    split at q
    · rename_i d hd
      obtain ⟨v1, G1, hv1, r1, _⟩ := S1.rep.get hd
      rw [hv] at hv1; cases hv1
      cases e : h [d, dy] with
      | none => rw [e] at q; exact q.elim
      | some z =>
        rw [e] at q
        exact ⟨[d, dy], _, z, repL_cons r1 (repL_cons ry repL_nil), e, S1.tab, hold_read q S1 fun b hb => List.mem_append_left _ hb⟩
    · exact q.elim
  · exact q.elim
theorem tO2q {i : Nat} (q : tD X.K adr T W (eO2q i h f) σ H Q) : tD X.K adr T W f σ H fun x H1 => ∃ v, σ[i]? = some (some v) ∧ rR X.K adr T h [x, v] H1 Q :=
  t1 (k := fun x ρ1 => match ρ1[i]? with | some (some d) => opt (h [x, d]) ρ1 | _ => .fail) q fun dx ρ1 F1 Fx x H1 S1 rx nn q => by
    split at q
    · rename_i d hd
      obtain ⟨v1, G1, hv1, r1, _⟩ := S1.rep.get hd
      cases e : h [dx, d] with
      | none => rw [e] at q; exact q.elim
      | some z =>
        rw [e] at q
        exact ⟨v1, hv1, [dx, d], _, z, repL_cons rx (repL_cons r1 repL_nil), e, S1.tab, hold_read q S1 fun b hb => List.mem_append_left _ hb⟩
    · exact q.elim
theorem tO2pq {i j : Nat} (q : tD X.K adr T W (eO2pq i j h) σ H Q) : ∃ v, σ[i]? = some (some v) ∧ ∃ w, σ[j]? = some (some w) ∧ rR X.K adr T h [v, w] H Q := by
  obtain ⟨ρ, F, S, q⟩ := q
  unfold eO2pq at q
  split at q
  · rename_i a b ha hb
    obtain ⟨v, _, hv, r1, _⟩ := S.rep.get ha
    obtain ⟨w, _, hw, r2, _⟩ := S.rep.get hb
    cases e : h [a, b] with
    | none => rw [e] at q; exact q.elim
    | some z =>
      rw [e] at q
      exact ⟨v, hv, w, hw, [a, b], _, z, repL_cons r1 (repL_cons r2 repL_nil), e, S.tab, hold_read q S fun b hb => hb⟩
  · exact q.elim
end
section
variable {X : Cx} {adr : Adr} {T : List (Addr × Str)} {W : WX} {pos p p2 : Pos} {a b e : Expr} {es : List Expr} {f g : EM} {h : List D → Option D} {y z : Str}
theorem pd_cmpP {op : CmpOp} (i : Nat) (ho : OpD X adr T (compareOp op) h) (hb : PE X b (tD X.K adr T W g)) (hm : behindInMarks op b = false) (hN : X.N[i]? = some y := by rfl) (hv : Vis X.env.scope y := by first | exact Or.inl rfl | exact Or.inr (Or.inl rfl) | exact Or.inr (Or.inr rfl))
    (hd : (y == ("__debug__" : Str)) = false := by decide) (hcd : (y == ("__classdict__" : Str)) = false := by decide) : PE X (.Compare (.Name y p) [op] [b] pos) (tD X.K adr T W (eO2p i h g)) :=
  PE.imp (pe_cmpR ho (pe_var hN hv hd hcd) hb hm) fun _ _ _ q => tO2p q
theorem pt_cmpP {op : CmpOp} (i : Nat) (ho : OpD X adr T (compareOp op) h) (hb : PE X b (tD X.K adr T W g)) (hm : behindInMarks op b = false) (hN : X.N[i]? = some y := by rfl) (hv : Vis X.env.scope y := by first | exact Or.inl rfl | exact Or.inr (Or.inl rfl) | exact Or.inr (Or.inr rfl))
    (hd : (y == ("__debug__" : Str)) = false := by decide) (hcd : (y == ("__classdict__" : Str)) = false := by decide) : PT X (.Compare (.Name y p) [op] [b] pos) (tDT X adr T W (eO2p i h g)) :=
  PT.imp (pt_cmpR ho (pe_var hN hv hd hcd) hb hm) fun _ _ _ q => tO2p q
theorem pd_cmpQ {op : CmpOp} (i : Nat) (ho : OpD X adr T (compareOp op) h) (ha : PE X a (tD X.K adr T W f)) (hm : behindInMarks op (.Name y p) = false) (hN : X.N[i]? = some y := by rfl) (hv : Vis X.env.scope y := by first | exact Or.inl rfl | exact Or.inr (Or.inl rfl) | exact Or.inr (Or.inr rfl))
    (hd : (y == ("__debug__" : Str)) = false := by decide) (hcd : (y == ("__classdict__" : Str)) = false := by decide) : PE X (.Compare a [op] [.Name y p] pos) (tD X.K adr T W (eO2q i h f)) :=
  PE.imp (pe_cmpR ho ha (pe_var hN hv hd hcd) hm) fun _ _ _ q => tO2q q
theorem pt_cmpQ {op : CmpOp} (i : Nat) (ho : OpD X adr T (compareOp op) h) (ha : PE X a (tD X.K adr T W f)) (hm : behindInMarks op (.Name y p) = false) (hN : X.N[i]? = some y := by rfl) (hv : Vis X.env.scope y := by first | exact Or.inl rfl | exact Or.inr (Or.inl rfl) | exact Or.inr (Or.inr rfl))
    (hd : (y == ("__debug__" : Str)) = false := by decide) (hcd : (y == ("__classdict__" : Str)) = false := by decide) : PT X (.Compare a [op] [.Name y p] pos) (tDT X adr T W (eO2q i h f)) :=
  PT.imp (pt_cmpR ho ha (pe_var hN hv hd hcd) hm) fun _ _ _ q => tO2q q
theorem pd_cmpPQ {op : CmpOp} (i j : Nat) (ho : OpD X adr T (compareOp op) h) (hm : behindInMarks op (.Name z p2) = false) (hN : X.N[i]? = some y := by rfl) (hv : Vis X.env.scope y := by first | exact Or.inl rfl | exact Or.inr (Or.inl rfl) | exact Or.inr (Or.inr rfl))
    (hd : (y == ("__debug__" : Str)) = false := by decide) (hcd : (y == ("__classdict__" : Str)) = false := by decide) (hN2 : X.N[j]? = some z := by rfl) (hv2 : Vis X.env.scope z := by first | exact Or.inl rfl | exact Or.inr (Or.inl rfl) | exact Or.inr (Or.inr rfl))
    (hd2 : (z == ("__debug__" : Str)) = false := by decide) (hcd2 : (z == ("__classdict__" : Str)) = false := by decide) : PE X (.Compare (.Name y p) [op] [.Name z p2] pos) (tD X.K adr T W (eO2pq i j h)) :=
  PE.imp (pe_cmpR ho (pe_var hN hv hd hcd) (pe_var hN2 hv2 hd2 hcd2) hm) fun _ _ _ q => tO2pq q
theorem pt_cmpPQ {op : CmpOp} (i j : Nat) (ho : OpD X adr T (compareOp op) h) (hm : behindInMarks op (.Name z p2) = false) (hN : X.N[i]? = some y := by rfl) (hv : Vis X.env.scope y := by first | exact Or.inl rfl | exact Or.inr (Or.inl rfl) | exact Or.inr (Or.inr rfl))
    (hd : (y == ("__debug__" : Str)) = false := by decide) (hcd : (y == ("__classdict__" : Str)) = false := by decide) (hN2 : X.N[j]? = some z := by rfl) (hv2 : Vis X.env.scope z := by first | exact Or.inl rfl | exact Or.inr (Or.inl rfl) | exact Or.inr (Or.inr rfl))
    (hd2 : (z == ("__debug__" : Str)) = false := by decide) (hcd2 : (z == ("__classdict__" : Str)) = false := by decide) : PT X (.Compare (.Name y p) [op] [.Name z p2] pos) (tDT X adr T W (eO2pq i j h)) :=
  PT.imp (pt_cmpR ho (pe_var hN hv hd hcd) (pe_var hN2 hv2 hd2 hcd2) hm) fun _ _ _ q => tO2pq q
theorem pd_ixP (i : Nat) (ho : IxD X adr T h) (hb : PE X b (tD X.K adr T W g)) (hs : PlainIx b) (hN : X.N[i]? = some y := by rfl) (hv : Vis X.env.scope y := by first | exact Or.inl rfl | exact Or.inr (Or.inl rfl) | exact Or.inr (Or.inr rfl))
    (hd : (y == ("__debug__" : Str)) = false := by decide) (hcd : (y == ("__classdict__" : Str)) = false := by decide) : PE X (.Subscript (.Name y p) b pos) (tD X.K adr T W (eO2p i h g)) :=
  PE.imp (pe_ix ho (pe_var hN hv hd hcd) hb hs) fun _ _ _ q => tO2p q
/-- f(name, e) -/
theorem pd_callBP {id : String} {x : Str} (i : Nat) (hc : CallD X adr T (.builtin id) h) (hg : Gl X x) (hm : X.mg x = none) (hv : bootBuiltins x = some (.builtin id)) (hb : PE X b (tD X.K adr T W g)) (hn : x ≠ "__name__" := by decide) (hdb : (x == ("__debug__" : Str)) = false := by decide)
    (hN : X.N[i]? = some y := by rfl) (hvs : Vis X.env.scope y := by first | exact Or.inl rfl | exact Or.inr (Or.inl rfl) | exact Or.inr (Or.inr rfl)) (hd : (y == ("__debug__" : Str)) = false := by decide) (hcd : (y == ("__classdict__" : Str)) = false := by decide)
    (he : starEach [.Name y p2, b] X.env = (false, eval (.Name y p2) X.env) :: starEach [b] X.env := by rfl) (he2 : starEach [b] X.env = (false, eval b X.env) :: starEach [] X.env := by rfl) (hpl : (backTo pos (starEach [b] X.env)).any (·.1) = false := by rfl) : PE X (.Call (.Name x p) [.Name y p2, b] [] pos) (tD X.K adr T W (eO2p i h g)) :=
  PE.imp (pe_callB hc hg hm hv (pa_cons (pe_var hN hvs hd hcd) (pa_cons hb pa_nil he2) he) hn hdb he hpl) fun _ _ _ q => tO2p q
/-! ### isinstance(e, (A, B)) -/
def dIsT (ns : List String) (a : D) : Option D := match tyD a with
  | some t => if ns.all bNms.contains then some (.bl (ns.any fun n => subTy t n)) else none
  | none => none
theorem kitAny_ty {K : PySem.W.Frag} {t : String} (ht : t ∈ bTys) : ∀ {ns : List String}, ns.all bNms.contains = true → PySem.W.kitAny K (.type t) (ns.map Value.type) = some (ns.any fun n => subTy t n)
  | [], _ => rfl
  | n :: ns, h => by
    obtain ⟨h1, h2⟩ := Bool.and_eq_true_iff.mp (by simpa using h : (bNms.contains n && ns.all bNms.contains) = true)
    have e := kit_ty (K := K) (kitB_all t ht n (by simpa using h1))
    simp only [List.map_cons, PySem.W.kitAny, e, List.any_cons]
    cases subTy t n
    · simpa using kitAny_ty ht h2
    · rfl
theorem ans_isT {ns : List String} {d z : D} {x : V} {F : List Addr} {tp : Addr} {H : Hp} {Q : VK} (e : dIsT ns d = some z) (r : Rep X.K adr H d x F) (hT : H tp = some (.tup (ns.map V.ty))) (t : Tabs T H) (q : Ans X.K adr T H z Q) : rIsiT X.K [x, .ref tp] H Q := by
  unfold dIsT at e
  cases ht : tyD d with
  | none => rw [ht] at e; cases e
  | some ty =>
    rw [ht] at e
    simp only at e
    by_cases hn : ns.all bNms.contains = true
    · rw [if_pos hn] at e; cases e
      refine ⟨x, tp, ns.map V.ty, _, ns.map Value.type, _, rfl, hT, ?_, tyX r ht, kitAny_ty (tyD_mem ht) hn, q.flat t (.bl _)⟩
      clear hn hT q t
      induction ns with
      | nil => exact .nil
      | cons n ns ih => exact .cons (.ty n) ih
    · rw [if_neg hn] at e; cases e
end
section
variable {X : Cx} {adr : Adr} {T : List (Addr × Str)} {W : WX} {pos p tpos pa pb p2 : Pos} {e : Expr} {kk : Nat} {f : EM} {A B : Str} {nA nB : String} {y : Str}
theorem pd_isT (hg : Gl X "isinstance") (hm : X.mg "isinstance" = none) (gA : Gl X A) (mA : X.mg A = none) (vA : bootBuiltins A = some (.type nA)) (gB : Gl X B) (mB : X.mg B = none) (vB : bootBuiltins B = some (.type nB)) (he : PE X e (tD X.K adr T W f))
    (hA : A ≠ "__name__" := by decide) (dA : (A == ("__debug__" : Str)) = false := by decide) (hB : B ≠ "__name__" := by decide) (dB : (B == ("__debug__" : Str)) = false := by decide)
    (h1 : starEach [e, .Tuple [.Name A pa, .Name B pb] kk tpos] X.env = (false, eval e X.env) :: starEach [.Tuple [.Name A pa, .Name B pb] kk tpos] X.env := by rfl) (h2 : starEach [.Tuple [.Name A pa, .Name B pb] kk tpos] X.env = (false, eval (.Tuple [.Name A pa, .Name B pb] kk tpos) X.env) :: starEach [] X.env := by rfl)
    (h3 : starEach [.Name A pa, .Name B pb] X.env = (false, eval (.Name A pa) X.env) :: starEach [.Name B pb] X.env := by rfl) (h4 : starEach [.Name B pb] X.env = (false, eval (.Name B pb) X.env) :: starEach [] X.env := by rfl) (hpl : (backTo pos (starEach [.Tuple [.Name A pa, .Name B pb] kk tpos] X.env)).any (·.1) = false := by rfl) :
    PE X (.Call (.Name "isinstance" p) [e, .Tuple [.Name A pa, .Name B pb] kk tpos] [] pos) (tD X.K adr T W (eO1 (d1 (dIsT [nA, nB])) f)) :=
  PE.imp (pe_callB call_isiT hg hm rfl (pa_cons he (pa_cons (pe_tup (pa_cons (pe_bltn (v := .ty nA) gA mA vA rfl hA dA) (pa_cons (pe_bltn (v := .ty nB) gB mB vB rfl hB dB) pa_nil h4) h3)) pa_nil h2) h1) (by decide) (by decide) h1 hpl) fun σ H Q q => t1 q fun d ρ1 F Fx x H1 S1 rx nn q => by
    cases e : d1 (dIsT [nA, nB]) [d] with
    | none => rw [e] at q; exact q.elim
    | some z =>
      rw [e] at q
      refine ⟨by simp [sizeLine_eq], fun tp hp => ?_⟩
      have ex : Ext [] H1 (upd H1 tp (.tup [.ty nA, .ty nB])) := ext_fresh hp
      have q' := hold_read q S1 (fun b hb => List.mem_append_left _ hb)
      refine ans_isT (T := T) (ns := [nA, nB]) (tp := tp) e (rx.ext ex fun _ _ z => nomatch z) upd_same (tabs_new S1.tab hp) fun v H' Fz r n e2 hf t => ?_
      refine q' v H' Fz r n (ex.trans e2 fun _ z => nomatch z) (fun b hb => ?_) t
      have := hf b hb
      exact ex.dom b this
theorem pd_isTP (i : Nat) (hg : Gl X "isinstance") (hm : X.mg "isinstance" = none) (gA : Gl X A) (mA : X.mg A = none) (vA : bootBuiltins A = some (.type nA)) (gB : Gl X B) (mB : X.mg B = none) (vB : bootBuiltins B = some (.type nB))
    (hN : X.N[i]? = some y := by rfl) (hvs : Vis X.env.scope y := by first | exact Or.inl rfl | exact Or.inr (Or.inl rfl) | exact Or.inr (Or.inr rfl)) (hd : (y == ("__debug__" : Str)) = false := by decide) (hcd : (y == ("__classdict__" : Str)) = false := by decide)
    (hA : A ≠ "__name__" := by decide) (dA : (A == ("__debug__" : Str)) = false := by decide) (hB : B ≠ "__name__" := by decide) (dB : (B == ("__debug__" : Str)) = false := by decide)
    (h1 : starEach [.Name y p2, .Tuple [.Name A pa, .Name B pb] kk tpos] X.env = (false, eval (.Name y p2) X.env) :: starEach [.Tuple [.Name A pa, .Name B pb] kk tpos] X.env := by rfl) (h2 : starEach [.Tuple [.Name A pa, .Name B pb] kk tpos] X.env = (false, eval (.Tuple [.Name A pa, .Name B pb] kk tpos) X.env) :: starEach [] X.env := by rfl)
    (h3 : starEach [.Name A pa, .Name B pb] X.env = (false, eval (.Name A pa) X.env) :: starEach [.Name B pb] X.env := by rfl) (h4 : starEach [.Name B pb] X.env = (false, eval (.Name B pb) X.env) :: starEach [] X.env := by rfl) (hpl : (backTo pos (starEach [.Tuple [.Name A pa, .Name B pb] kk tpos] X.env)).any (·.1) = false := by rfl) :
    PE X (.Call (.Name "isinstance" p) [.Name y p2, .Tuple [.Name A pa, .Name B pb] kk tpos] [] pos) (tD X.K adr T W (eL1 (d1 (dIsT [nA, nB])) i)) :=
  PE.imp (pe_callB call_isiT hg hm rfl (pa_cons (pe_var hN hvs hd hcd) (pa_cons (pe_tup (pa_cons (pe_bltn (v := .ty nA) gA mA vA rfl hA dA) (pa_cons (pe_bltn (v := .ty nB) gB mB vB rfl hB dB) pa_nil h4) h3)) pa_nil h2) h1) (by decide) (by decide) h1 hpl) fun σ H Q q => by
    obtain ⟨ρ, F, S1, q⟩ := q
    unfold eL1 at q
    split at q
    · rename_i d hd
      obtain ⟨v, G, hv, rx, _⟩ := S1.rep.get hd
      refine ⟨v, hv, ?_⟩
      cases e : d1 (dIsT [nA, nB]) [d] with
      | none => rw [e] at q; exact q.elim
      | some z =>
        rw [e] at q
        refine ⟨by simp [sizeLine_eq], fun tp hp => ?_⟩
        have ex : Ext [] H (upd H tp (.tup [.ty nA, .ty nB])) := ext_fresh hp
        have q' := hold_read q S1 (fun b hb => hb)
        refine ans_isT (T := T) (ns := [nA, nB]) (tp := tp) e (rx.ext ex fun _ _ z => nomatch z) upd_same (tabs_new S1.tab hp) fun v H' Fz r n e2 hf t => ?_
        exact q' v H' Fz r n (ex.trans e2 fun _ z => nomatch z) (fun b hb => ex.dom b (hf b hb)) t
    · exact q.elim
end
/-! ### raise C('m'), C without fields -/
def sRaise0 (n : Nat) : SM := fun ρ => if fx n = [] then .exc ⟨n, []⟩ ρ else .fail
section
variable {X : Cx} {adr : Adr} {T : List (Addr × Str)} {io : List Nat} {W : WX} {p p2 pos pos2 : Pos} {x m : Str} {n j : Nat}
theorem ps_draise0 (hc : X.calm = true) (tk : Takes X W) (xF : PySem.W.excIn X.K (adr n) [.type "ValueError", .type "Exception", .type "BaseException", .type "object"] "ValueError.__new__" = true) (gF : X.mg x = some (.ref (adr n))) (kF : PySem.W.keepIn X.K (.ref (adr n)) = true)
    (bF : PySem.W.subIn X.K (.ref (adr n)) (.type "BaseException") = some true) (tF : PySem.W.typeIn X.K (.ref (adr n)) = some (.type "type")) (hg : Gl X x := by rfl) (hdb : (x == ("__debug__" : Str)) = false := by decide) :
    PS X (.Raise (some (.Call (.Name x p) [.Constant (.str m) j p2] [] pos)) none pos2) (tDS X.K adr T io W (sRaise0 n)) :=
  PS.imp (ps_raise hc tk (pmk_own PySem.F.excBase_ValueError xF gF kF (raises_own bF tF) hg hdb)) fun D σ H ⟨ρ, F, S, q⟩ => by
    unfold sRaise0 at q
    split at q
    · rename_i e0
      exact q _ none σ H ⟨F, S, ⟨rfl, .inl ⟨e0, rfl, rfl⟩⟩, Stp.refl S.tab fun _ z => z, Fix.refl _ _⟩
    · exact q.elim
end
/-! ### try: .. except C: .. -/
def noexc : SR → SR
  | .exc _ _ => .fail
  | r => r
def sTry0 (cs : Nat → Bool) (b h : SM) : SM := fun ρ => match b ρ with
  | .exc x ρ' => if x.cls ∈ xcls then (if cs x.cls then noexc (h ρ') else .exc x ρ') else .fail
  | r => r
section
variable {X : Cx} {adr : Adr} {T : List (Addr × Str)} {io : List Nat} {W : WX} {np pos pos' : Pos} {x : Str} {body suite : List Stmt} {b₀ : Stmt} {b h : SM} {c : Value} {cs : Nat → Bool}
theorem HoldS.noexc {K : PySem.W.Frag} {r : SR} {F : List Addr} {H : Hp} {σ : L2.St} {D : Ends} (q : HoldS K adr T io W (noexc r) F H σ D) : HoldS K adr T io W0 r F H σ D := by
  cases r with
  | exc y ρ => exact q.elim
  | nx _ => exact q
  | rt _ _ => exact q
  | bk _ => exact q
  | ct _ => exact q
  | fail => exact q
theorem ps_dtry0 (hs : X.stack = X.env :: X.outer) (hf : X.env.frame = some X.env.locals) (hc : Names X x c) (tk : Takes X W) (hcs : ∀ n ∈ xcls, PySem.W.exmOne X.K (.ref (adr n)) c = some (cs n))
    (hb : ∀ (W : WX) (pn : List (Addr × Obj)) (xe : Value → Shared → Prop), Takes (X.tr pn xe) W → PassesOwn (model X.prog X.w) X.A X.env xe → PSs (X.tr pn xe) body (tDS X.K adr T io W b))
    (hsu : ∀ (a : Addr) (oe : Obj) (pn : List (Addr × Obj)), PSs (X.suite a ((a, oe) :: pn)) (b₀ :: suite) (tDS X.K adr T io W0 h)) :
    PS X (.Try body [.ExceptHandler (some (.Name x np)) none (b₀ :: suite) pos'] [] [] pos) (tDS X.K adr T io W (sTry0 cs b h)) :=
  PS.imp (ps_try_only hs hf hc tk hb (ts := fun _ _ _ => tDS X.K adr T io W0 h) (fun a oe _ _ pn _ _ => hsu a oe pn)) fun D σ H ⟨ρ, F, S, q⟩ => by
    refine ⟨ρ, F, S, ?_⟩
    unfold sTry0 at q
    cases eb : b ρ with
    | nx ρ' => rw [eb] at q; exact q
    | rt d ρ' => rw [eb] at q; exact q
    | bk ρ' => rw [eb] at q; exact q
    | ct ρ' => rw [eb] at q; exact q
    | fail => rw [eb] at q; exact q
    | exc y ρ' =>
      rw [eb] at q
      simp only at q
      intro cls dx σ' H' ⟨F', S', rx, st, fxx⟩
      by_cases hy : y.cls ∈ xcls
      · rw [if_pos hy] at q
        refine ⟨cs y.cls, by rw [rx.1]; exact hcs _ hy, fun hk a na => ?_, fun hk => ?_⟩
        · rw [if_pos hk] at q
          exact ⟨ρ', F', S', HoldS.noexc (W := W) (HoldS.weak st fxx q)⟩
        · rw [if_neg (by rw [hk]; exact Bool.false_ne_true)] at q
          exact q cls dx σ' H' ⟨F', S', rx, st, fxx⟩
      · rw [if_neg hy] at q; exact q.elim
end
end DL
set_option Elab.async false
set_option linter.all false
set_option maxRecDepth 100000
set_option maxHeartbeats 4000000
/-! exceptions with an own __init__: what the written part has to say of their classes -/
namespace DL
open PySem L2 ClX
open LamX (Tabs TabB)
/-- class C has ValueError above it, by classes of the text alone -/
def oexB (K : PySem.W.Frag) (C : Addr) : Bool := (match K.lookup C with
  | some ⟨.type "type", _, .cls cd, sl⟩ => (match cd.mro, sl.toList with
    | .ref C' :: bm, [_, _, _, _, some (.builtin n), _] => C' == C && n == "ValueError.__new__" && !cd.hasDel && PySem.HandSPX.refsVE bm && cd.hasDict
    | _, _ => false)
  | _ => false) && decide (PySem.W.findIn K (.ref C) "__setattr__" = some (some (.builtin "object.__setattr__"))) && decide (PySem.W.subIn K (.ref C) (.type "BaseException") = some true) && decide (PySem.W.typeIn K (.ref C) = some (.type "type")) && PySem.W.keepIn K (.ref C)
theorem oex_of {K : PySem.W.Frag} {C : Addr} (h : oexB K C = true) : OexC K C := by
  unfold oexB at h
  simp only [Bool.and_eq_true, decide_eq_true_eq] at h
  obtain ⟨⟨⟨⟨q, h1⟩, h2⟩, h3⟩, h4⟩ := h
  refine ⟨?_, h1, h2, h3, h4⟩
  split at q
  · rename_i dd cd sl ho
    split at q
    · rename_i C' bm k0 k1 k2 k3 n k5 em es
      simp only [Bool.and_eq_true, beq_iff_eq, Bool.not_eq_true'] at q
      obtain ⟨⟨⟨⟨rfl, rfl⟩, nd⟩, ve⟩, hD⟩ := q
      obtain ⟨nm, bs, mro, ns, qn, hd, sn, sub, ab, col, del⟩ := cd
      dsimp only at em nd hD
      subst em nd hD
      have esl : sl = #[k0, k1, k2, k3, some (.builtin "ValueError.__new__"), k5] := by
        obtain ⟨l⟩ := sl
        simp only at es
        rw [es]
      subst esl
      exact ⟨nm, qn, ns, bs, bm, sn, sub, ab, col, dd, k0, k1, k2, k3, k5, ho, ve⟩
    · cases q
  · cases q
/-- C.__init__ is ValueError's -/
def cinitB (K : PySem.W.Frag) (C : Addr) : Bool := PySem.W.readsIn K C (.type "type") && decide (PySem.W.specialIn K (.ref C) "__getattribute__" = some (some (.builtin "type.__getattribute__"))) && (match PySem.W.findCls K (.ref C) (.type "type") "__init__" with
  | some (.val (.builtin n)) => n == "ValueError.__init__"
  | _ => false)
structure CInit (K : PySem.W.Frag) (C : Addr) : Prop where
  rd : CRead K C (.type "type")
  at_ : PySem.W.findCls K (.ref C) (.type "type") "__init__" = some (.val (.builtin "ValueError.__init__"))
theorem cinit_of {K : PySem.W.Frag} {C : Addr} (h : cinitB K C = true) : CInit K C := by
  unfold cinitB at h
  simp only [Bool.and_eq_true, decide_eq_true_eq] at h
  obtain ⟨⟨h1, h2⟩, h3⟩ := h
  refine ⟨⟨h1, h2⟩, ?_⟩
  split at h3
  · rename_i n e
    rw [e, beq_iff_eq.mp h3]
  · cases h3
/-- a class with an own __init__, to be raised -/
structure KXi (P : Program) (w : World) (K : PySem.W.Frag) (mg : Str → Option Value) (base : Heap) (adr : Adr) (n : Nat) (x : Str) (fs : List Str) : Prop where
  ox : OexC K (adr n)
  no : ∀ f ∈ fs, PySem.W.findIn K (.ref (adr n)) f = some none
  at_ : mg x = some (.ref (adr n))
  fs_ : fs.reverse = fx n
  ne : fx n ≠ []
  l9 : fs.length ≤ 900
  ex : ∃ (fI : Addr) (fd : FuncData) (ps : List Str), PySem.W.findIn K (.ref (adr n)) "__init__" = some (some (.ref fI)) ∧ PySem.W.typeIn K (.ref fI) = some (.type "function") ∧ FnOk P w K mg base (L2.CX P w) 1 fI fd ps (spX K (adr n) fs) ∧ Binds K fd ps []
section
open PySem.Spec PyProof.Rows
variable {X : Cx} {adr : Adr} {T : List (Addr × Str)} {io : List Nat} {W : WX} {e : Expr} {es : List Expr} {p pos pos2 : Pos}
theorem ps_dxr {x : Str} {n j : Nat} {g : AM} {fs : List Str} (hc : X.calm = true) (tk : Takes X W) (c : KXi X.prog X.w X.K X.mg X.base adr n x fs) (hr : Room j X.A) (hk : 2 ≤ j) (ha : PA X (e :: es) (tDA X.K adr T W g)) (hg : Gl X x := by rfl)
    (hdb : (x == ("__debug__" : Str)) = false := by decide) (he : starEach (e :: es) X.env = (false, eval e X.env) :: starEach es X.env := by rfl) (hpl : (backTo pos (starEach es X.env)).any (·.1) = false := by rfl) :
    PS X (.Raise (some (.Call (.Name x p) (e :: es) [] pos)) none pos2) (tDS X.K adr T io W (sRaise n g)) := by
  obtain ⟨fI, fd, ps, iC, tI, F1, hb⟩ := c.ex
  exact ps_draise hc tk c.ox c.no c.fs_ c.ne c.l9 iC tI F1 (hr.mono hk) hb passL hg c.at_ ha hdb he hpl
end
section
variable {P : Program} {w : World} {K : PySem.W.Frag} {mg : Str → Option Value} {base : Heap} {adr : Adr}
theorem kxi_of {n fI : Nat} {x qual : Str} {st : Stmt} {ps fs : List Str} (F : MD K "__init__" qual st (adr n) (adr fI) ps) (ox : OexC K (adr n)) (no : ∀ f ∈ fs, PySem.W.findIn K (.ref (adr n)) f = some none) (at_ : mg x = some (.ref (adr n))) (fs_ : fs.reverse = fx n) (ne : fx n ≠ []) (l9 : fs.length ≤ 900)
    (tI : PySem.W.typeIn K (.ref (adr fI)) = some (.type "function")) (hok : ∀ fd, Fun K "__init__" qual st (adr fI) fd → FnOk P w K mg base (L2.CX P w) 1 (adr fI) fd ps (spX K (adr n) fs)) : KXi P w K mg base adr n x fs := by
  obtain ⟨fd, hF, hB⟩ := F.ex
  exact ⟨ox, no, at_, fs_, ne, l9, adr fI, fd, ps, F.at_, tI, hok fd hF, hB⟩
end
end DL
set_option Elab.async false
set_option linter.all false
set_option maxRecDepth 100000
set_option maxHeartbeats 4000000
/-! small helps for printed texts -/
namespace DL
open PySem L2
open LamX (Tabs TabB TabS)
def suiteOf : List Stmt → List Stmt
  | [.Try _ [.ExceptHandler _ _ b _] _ _ _] => b
  | _ => []
theorem tabsN {T : List (Addr × Str)} {H : Hp} (h : ∀ p ∈ T, H p.1 = some (.tbl #[])) : Tabs T H := fun p hp => TabS.nil (h p hp)
theorem one2a {P Q : Addr} {a b : Str} (n : P ≠ Q) : ∀ p ∈ ([(P, a), (Q, b)] : List (Addr × Str)), p.1 = P → p.2 = a := fun p hp e => by
  simp only [List.mem_cons, List.not_mem_nil, or_false] at hp
  rcases hp with rfl | rfl
  · rfl
  · exact absurd e.symm n
theorem one2b {P Q : Addr} {a b : Str} (n : P ≠ Q) : ∀ p ∈ ([(P, a), (Q, b)] : List (Addr × Str)), p.1 = Q → p.2 = b := fun p hp e => by
  simp only [List.mem_cons, List.not_mem_nil, or_false] at hp
  rcases hp with rfl | rfl
  · exact absurd e n
  · rfl
/-- == of flat things, wherever it stands -/
def dEqF (a b : D) : Option D := if flD a && flD b && scal (fV a) (fV b) then some (.bl (decide (fV a = fV b))) else none
def dNeF (a b : D) : Option D := if flD a && flD b && scal (fV a) (fV b) then some (.bl (!decide (fV a = fV b))) else none
section
variable {X : Cx} {adr : Adr} {T : List (Addr × Str)}
theorem oEqF : OpD X adr T (compareOp .Eq) (d2 dEqF) := opD op_eq fun a b z H x y Fx Fy Q e r1 r2 t q => by
  unfold dEqF at e
  by_cases hc : (flD a && flD b && scal (fV a) (fV b)) = true
  · rw [if_pos hc] at e; cases e
    obtain ⟨hc, h3⟩ := Bool.and_eq_true_iff.mp hc
    obtain ⟨h1, h2⟩ := Bool.and_eq_true_iff.mp hc
    rw [(flD_rep r1 h1).1, (flD_rep r2 h2).1]
    exact ⟨h3, q.flat t (.bl _)⟩
  · rw [if_neg hc] at e; cases e
theorem oNeF : OpD X adr T (compareOp .NotEq) (d2 dNeF) := opD op_ne fun a b z H x y Fx Fy Q e r1 r2 t q => by
  unfold dNeF at e
  by_cases hc : (flD a && flD b && scal (fV a) (fV b)) = true
  · rw [if_pos hc] at e; cases e
    obtain ⟨hc, h3⟩ := Bool.and_eq_true_iff.mp hc
    obtain ⟨h1, h2⟩ := Bool.and_eq_true_iff.mp hc
    rw [(flD_rep r1 h1).1, (flD_rep r2 h2).1]
    exact ⟨h3, q.flat t (.bl _)⟩
  · rw [if_neg hc] at e; cases e
end
end DL
set_option Elab.async false
set_option linter.all false
set_option maxRecDepth 100000
set_option maxHeartbeats 4000000
/-! x or y of flat things; a list inside a slot's thing is changed; a slot's thing is locked for a reading -/
namespace DL
open PySem L2
open LamX (Tabs)
def truD : D → Option Bool
  | .non => some false
  | .bl b => some b
  | .int i => some (i != 0)
  | _ => none
def eOrV (f g : EM) : EM := fun ρ => (f ρ).bind fun x ρ => match truD x with
  | some true => .ok x ρ
  | some false => g ρ
  | none => .fail
section
variable {X : Cx} {adr : Adr} {T : List (Addr × Str)} {W : WX} {pos : Pos} {a b : Expr} {rest : List Expr} {f g : EM}
theorem pd_orW (ha : PE X a (tD X.K adr T W f)) (hb : PE X (.BoolOp .Or (b :: rest) pos) (tD X.K adr T W g)) : PE X (.BoolOp .Or (a :: b :: rest) pos) (tD X.K adr T W (eOrV f g)) :=
  PE.imp (pe_orT ha hb) fun σ H Q q => t1 (k := fun x ρ => match truD x with | some true => .ok x ρ | some false => g ρ | none => .fail) q fun dx ρ1 F Fx x H1 S rx nn q => by
    cases e : truD dx with
    | none => simp only [e] at q; exact q.elim
    | some k =>
      have hx : Fx = [] ∧ TruV X.K x H1 k := by
        cases dx <;> first | (cases e; done) | (cases e; rw [rx.1]; exact ⟨rx.2, rfl⟩)
      obtain ⟨rfl, tr⟩ := hx
      refine ⟨k, tr, ?_⟩
      cases k with
      | true =>
        simp only [e] at q
        rw [if_pos rfl]
        exact q x H1 ⟨F, [], S.rep, rx, nn, Stp.refl S.tab fun _ z => z⟩
      | false =>
        simp only [e] at q
        rw [if_neg Bool.false_ne_true]
        exact ⟨ρ1, F, S, by simpa using q⟩
end

/-! ### one of a thing's items is changed -/
section
variable {K : PySem.W.Frag} {adr : Adr} {H H' : Hp}
theorem repL_at : ∀ {ds : List D} {vs : List V} {F : List Addr} {k : Nat} {d : D}, RepL K adr H ds vs F → ds[k]? = some d → ∃ v Fk F0, vs[k]? = some v ∧ Rep K adr H d v Fk ∧ F.Perm (F0 ++ Fk) ∧
    ∀ H' F9 d' Fk', Ext F9 H H' → (∀ b ∈ F0, b ∉ F9) → Rep K adr H' d' v Fk' → ∃ F', RepL K adr H' (ds.set k d') vs F' ∧ F'.Perm (F0 ++ Fk')
  | [], _, _, _, _, _, h => by simp at h
  | x :: ds, _, _, 0, d, ⟨w, ws, F1, F2, e1, r1, r2, e2⟩, h => by
    simp at h; subst h
    refine ⟨w, F1, F2, by rw [e1]; rfl, r1, by rw [e2]; exact List.perm_append_comm, fun H' F9 d' Fk' ex ap r => ⟨Fk' ++ F2, ⟨w, ws, Fk', F2, e1, r, r2.ext ex ap, rfl⟩, List.perm_append_comm⟩⟩
  | x :: ds, _, _, k + 1, d, ⟨w, ws, F1, F2, e1, r1, r2, e2⟩, h => by
    obtain ⟨v, Fk, F0, hv, r, p, up⟩ := repL_at (k := k) r2 (by simpa using h)
    refine ⟨v, Fk, F1 ++ F0, by rw [e1]; simpa using hv, r, by rw [e2, List.append_assoc]; exact p.append_left F1, fun H' F9 d' Fk' ex ap rr => ?_⟩
    obtain ⟨F', a, q⟩ := up H' F9 d' Fk' ex (fun b hb => ap b (List.mem_append_right _ hb)) rr
    exact ⟨F1 ++ F', ⟨w, ws, F1, F', e1, r1.ext ex fun b hb => ap b (List.mem_append_left _ hb), a, rfl⟩, by rw [List.append_assoc]; exact q.append_left F1⟩
/-- the item k of a list or a tuple, and how it is put back -/
def lstOf : Option D → Option (List D)
  | some (.lst es) => some es
  | _ => none
def itL : D → Nat → Option (List D)
  | .lst ds, k => lstOf ds[k]?
  | .tup ds, k => lstOf ds[k]?
  | _, _ => none
def putL : D → Nat → List D → D
  | .lst ds, k, es => .lst (ds.set k (.lst es))
  | .tup ds, k, es => .tup (ds.set k (.lst es))
  | d, _, _ => d
theorem lstOf_eq {o : Option D} {es : List D} (e : lstOf o = some es) : o = some (.lst es) := by
  cases o with
  | none => cases e
  | some d => cases d <;> first | (cases e; done) | (cases e; rfl)
theorem itL_ofL {ds : List D} {k : Nat} {es : List D} (e : itL (.lst ds) k = some es) : ds[k]? = some (.lst es) := lstOf_eq e
theorem itL_ofT {ds : List D} {k : Nat} {es : List D} (e : itL (.tup ds) k = some es) : ds[k]? = some (.lst es) := lstOf_eq e
theorem itL_up {d : D} {v : V} {G : List Addr} {k : Nat} {es : List D} (r : Rep K adr H d v G) (nd : G.Nodup) (e : itL d k = some es) : ∃ p xs b ws Gk F0, v = .ref p ∧ (SqL K H p xs ∨ SqT K H p xs) ∧ xs[k]? = some (.ref b) ∧ k < xs.length ∧ H b = some (.lst ws) ∧ RepL K adr H es ws Gk ∧ G.Perm (F0 ++ (b :: Gk)) ∧
    ∀ H' F9 es' ws' Gk', Ext F9 H H' → (∀ c ∈ G, c ∈ F9 → c ∈ b :: Gk) → H' b = some (.lst ws') → RepL K adr H' es' ws' Gk' → ∃ G', Rep K adr H' (putL d k es') v G' ∧ G'.Perm (F0 ++ (b :: Gk')) := by
  have common : ∀ {ds : List D} {vs : List V} {G0 : List Addr}, RepL K adr H ds vs G0 → G0.Nodup → ds[k]? = some (.lst es) → ∃ b ws Gk F0, vs[k]? = some (.ref b) ∧ k < vs.length ∧ H b = some (.lst ws) ∧ RepL K adr H es ws Gk ∧ G0.Perm (F0 ++ (b :: Gk)) ∧
      ∀ H' F9 es' ws' Gk', Ext F9 H H' → (∀ c ∈ G0, c ∈ F9 → c ∈ b :: Gk) → H' b = some (.lst ws') → RepL K adr H' es' ws' Gk' → ∃ G', RepL K adr H' (ds.set k (.lst es')) vs G' ∧ G'.Perm (F0 ++ (b :: Gk')) := by
    intro ds vs G0 rl n0 h
    obtain ⟨v, Fk, F0, hv, rr, p, up⟩ := repL_at rl h
    obtain ⟨b, ws, Gk, ev, ho, rk, eF⟩ := rr
    subst ev
    subst eF
    refine ⟨b, ws, Gk, F0, hv, (List.getElem?_eq_some_iff.mp hv).1, ho, rk, p, fun H' F9 es' ws' Gk' ex ap hb rk' => up H' F9 (.lst es') (b :: Gk') ex ?_ ⟨b, ws', Gk', rfl, hb, rk', rfl⟩⟩
    exact fun c hc hc' => (List.nodup_append.mp (perm_nodup p n0)).2.2 c hc c (ap c (p.mem_iff.mpr (List.mem_append_left _ hc)) hc') rfl
  cases d with
  | lst ds =>
    obtain ⟨a, vs, G0, ev, ho, rl, eG⟩ := r
    subst eG
    obtain ⟨na, n0⟩ := List.nodup_cons.mp nd
    obtain ⟨b, ws, Gk, F0, h1, h2, h3, h4, h5, h6⟩ := common rl n0 (itL_ofL e)
    refine ⟨a, vs, b, ws, Gk, a :: F0, ev, .inl (.inl (.inl ho)), h1, h2, h3, h4, by rw [List.cons_append]; exact h5.cons a, fun H' F9 es' ws' Gk' ex ap hb rk' => ?_⟩
    obtain ⟨G', r', p'⟩ := h6 H' F9 es' ws' Gk' ex (fun c hc => ap c (List.mem_cons_of_mem _ hc)) hb rk'
    exact ⟨a :: G', ⟨a, vs, G', ev, ex.own ho True.intro (fun z => na (h5.mem_iff.mpr (List.mem_append_right _ (ap a List.mem_cons_self z)))), r', rfl⟩, by rw [List.cons_append]; exact p'.cons a⟩
  | tup ds =>
    obtain ⟨a, vs, ev, ho, rl⟩ := r
    obtain ⟨b, ws, Gk, F0, h1, h2, h3, h4, h5, h6⟩ := common rl nd (itL_ofT e)
    refine ⟨a, vs, b, ws, Gk, F0, ev, .inr ho, h1, h2, h3, h4, h5, fun H' F9 es' ws' Gk' ex ap hb rk' => ?_⟩
    obtain ⟨G', r', p'⟩ := h6 H' F9 es' ws' Gk' ex ap hb rk'
    exact ⟨G', ⟨a, vs, ev, ex.sqt ho, r'⟩, p'⟩
  | _ => cases e
end
/-- name[k].append(e) -/
def eAppI (i k : Nat) (f : EM) : EM := fun ρ => match ρ[i]? with
  | some (some d) => match itL d k with
    | some es => (f (ρ.set i none)).bind fun x ρ1 => match ρ1[i]? with
      | some none => if es.length < sizeLine then .ok .non (ρ1.set i (some (putL d k (es ++ [x])))) else .fail
      | _ => .fail
    | none => .fail
  | _ => .fail
/-- name[k].clear() -/
def eClrI (i k : Nat) : EM := fun ρ => match ρ[i]? with
  | some (some d) => match itL d k with
    | some es => .ok .non (ρ.set i (some (putL d k [])))
    | none => .fail
  | _ => .fail
section
variable {K : PySem.W.Frag} {adr : Adr} {T : List (Addr × Str)} {F G : List Addr} {H : Hp} {σ : L2.St} {ρ : Env}
/-- an empty slot, the tree that stands there held aside, an item's list is changed -/
theorem slot_it {H1 : Hp} {F' F9 : List Addr} {i k : Nat} {d : D} {v : V} {es : List D} (r : Rep K adr H d v G) (nG0 : G.Nodup) (e : itL d k = some es) (hv : σ[i]? = some (some v)) :
    ∃ p xs b ws Gk, v = .ref p ∧ (SqL K H p xs ∨ SqT K H p xs) ∧ xs[k]? = some (.ref b) ∧ k < xs.length ∧ H b = some (.lst ws) ∧ RepL K adr H es ws Gk ∧
    ∀ ρ F Fx H1, Sim K adr T ρ σ H1 F → ρ[i]? = some none → (F ++ (G ++ Fx)).Nodup → Ext F9 H H1 → (∀ c ∈ G, c ∉ F9) → H1 b = some (.lst ws) ∧ RepL K adr H1 es ws Gk ∧ (Gk ++ Fx).Nodup ∧
    ∀ es' ws' Gk', RepL K adr H1 es' ws' Gk' → Gk'.Nodup → (∀ c ∈ Gk', c ∈ Gk ++ Fx) → ∃ F2, Sim K adr T (ρ.set i (some (putL d k es'))) σ (upd H1 b (.lst ws')) F2 ∧ Stp T (F ++ (G ++ Fx)) H1 F2 (upd H1 b (.lst ws')) := by
  obtain ⟨p, xs, b, ws, Gk, F0, ev, sq, hx, hk, ho, rk, pm, up⟩ := itL_up r nG0 e
  have mG : ∀ c, c ∈ F0 ++ (b :: Gk) → c ∈ G := fun c hc => pm.mem_iff.mpr hc
  have bG : b ∈ G := mG b (by simp)
  refine ⟨p, xs, b, ws, Gk, ev, sq, hx, hk, ho, rk, fun ρ F Fx H1 S hi nn e9 a9 => ?_⟩
  obtain ⟨nF, nGx, dF⟩ := List.nodup_append.mp nn
  obtain ⟨nG, nx, dG⟩ := List.nodup_append.mp nGx
  have nP := perm_nodup pm nG
  obtain ⟨n0, nb, d0⟩ := List.nodup_append.mp nP
  obtain ⟨nbk, nGk⟩ := List.nodup_cons.mp nb
  have bx : b ∉ Fx := fun z => dG b bG b z rfl
  have ho1 : H1 b = some (.lst ws) := e9.own ho True.intro (a9 b bG)
  refine ⟨ho1, rk.ext e9 fun c hc => a9 c (mG c (List.mem_append_right _ (List.mem_cons_of_mem _ hc))), List.nodup_append.mpr ⟨nGk, nx, fun x hx y hy => dG x (mG x (List.mem_append_right _ (List.mem_cons_of_mem _ hx))) y hy⟩, fun es' ws' Gk' rk' nk sub => ?_⟩
  have bk' : b ∉ Gk' := fun z => (List.mem_append.mp (sub b z)).elim nbk bx
  have eU : Ext [b] H1 (upd H1 b (.lst ws')) := Ext.upd ho1 True.intro (by simp)
  have rk2 : RepL K adr (upd H1 b (.lst ws')) es' ws' Gk' := rk'.ext eU fun c hc z => bk' (by rw [← List.mem_singleton.mp z]; exact hc)
  have eB : Ext (b :: F9) H (upd H1 b (.lst ws')) := (e9.mono (G := b :: F9) fun c hc => List.mem_cons_of_mem _ hc).trans eU fun c hc => .inl (by rw [List.mem_singleton.mp hc]; exact List.mem_cons_self)
  obtain ⟨G', r', p'⟩ := up _ (b :: F9) es' ws' Gk' eB (fun c hc hc' => (List.mem_cons.mp hc').elim (fun z => by rw [z]; exact List.mem_cons_self) fun z => absurd z (a9 c hc)) upd_same rk2
  have S2 : RepS K adr (upd H1 b (.lst ws')) ρ σ F := S.rep.ext eU fun c hc z => dF c hc b (List.mem_append_left _ bG) (List.mem_singleton.mp z)
  obtain ⟨F2, s3, p3⟩ := S2.refill hi hv r'
  have sub2 : ∀ c ∈ G', c ∈ G ++ Fx := fun c hc => by
    rcases List.mem_append.mp (p'.mem_iff.mp hc) with w | w
    · exact List.mem_append_left _ (mG c (List.mem_append_left _ w))
    · rcases List.mem_cons.mp w with w | w
      · rw [w]; exact List.mem_append_left _ bG
      · rcases List.mem_append.mp (sub c w) with y | y
        · exact List.mem_append_left _ (mG c (List.mem_append_right _ (List.mem_cons_of_mem _ y)))
        · exact List.mem_append_right _ y
  have nG' : G'.Nodup := perm_nodup p'.symm (List.nodup_append.mpr ⟨n0, List.nodup_cons.mpr ⟨bk', nk⟩, fun x hx y hy z => by
    subst z
    rcases List.mem_cons.mp hy with w | w
    · exact d0 x hx b (by simp) w
    · rcases List.mem_append.mp (sub x w) with y | y
      · exact d0 x hx x (List.mem_cons_of_mem _ y) rfl
      · exact dG x (mG x (List.mem_append_left _ hx)) x y rfl⟩)
  have n9 : (F ++ G').Nodup := List.nodup_append.mpr ⟨nF, nG', fun x hx y hy z => dF x hx y (sub2 y hy) z⟩
  exact ⟨F2, ⟨s3, perm_nodup p3.symm n9, tabs_upd S.tab ho1 True.intro⟩, ⟨eU.mono fun c hc => by rw [List.mem_singleton.mp hc]; exact List.mem_append_right _ (List.mem_append_left _ bG), fun c hc => .inl (by
    rcases List.mem_append.mp (p3.mem_iff.mp hc) with w | w
    · exact List.mem_append_left _ w
    · exact List.mem_append_right _ (sub2 c w)), tabs_upd S.tab ho1 True.intro⟩⟩
end
theorem atI_nat {α : Type} {xs : List α} {k : Nat} (h : k < xs.length) : atI xs (k : Int) = xs[k]? := by
  unfold atI ixN
  rw [if_pos (by omega : (0 : Int) ≤ (k : Int))]
  first
    | rw [if_pos (by omega)]; simp
    | simp [h]
section
variable {X : Cx} {adr : Adr} {T : List (Addr × Str)} {W : WX} {pos apos spos cp : Pos} {e : Expr} {f : EM}
theorem ixOr : IxR X (fun x y H Q => rIxL X.K x y H Q ∨ rIxT X.K x y H Q) := IxR.imp ix_seq fun x y H Q h => by
  rcases h with h | h
  · exact .inl h
  · exact .inr (.inl h)
theorem tIxk {a0 : Addr} {xs0 : List V} {v : V} {H : Hp} {k : Nat} {x : V} {Q2 : VK} (ev : v = .ref a0) (sq : SqL X.K H a0 xs0 ∨ SqT X.K H a0 xs0) (hx : xs0[k]? = some x) (hk : k < xs0.length) (q : Q2 x H) : rIxL X.K v (.int (k : Int)) H Q2 ∨ rIxT X.K v (.int (k : Int)) H Q2 := by
  have hat : atI xs0 (k : Int) = some x := by rw [atI_nat hk]; exact hx
  rcases sq with sq | sq
  · exact .inl ⟨a0, xs0, k, x, ev, rfl, sq, hat, q⟩
  · exact .inr ⟨a0, xs0, k, x, ev, rfl, sq, hat, q⟩
theorem pd_appI {y : Str} {p : Pos} {ck : Nat} (i k : Nat) (he : PE X e (tD X.K adr T W f)) (hpl : PlainIx (.Constant (.int (k : Int)) ck cp)) (hN : X.N[i]? = some y := by rfl) (hv : Vis X.env.scope y := by first | exact Or.inl rfl | exact Or.inr (Or.inl rfl) | exact Or.inr (Or.inr rfl)) (hd : (y == ("__debug__" : Str)) = false := by decide) (hcd : (y == ("__classdict__" : Str)) = false := by decide)
    (hbase : attributeBase (.Subscript (.Name y p) (.Constant (.int (k : Int)) ck cp) spos) "append" X.env (eval (.Subscript (.Name y p) (.Constant (.int (k : Int)) ck cp) spos) X.env) = eval (.Subscript (.Name y p) (.Constant (.int (k : Int)) ck cp) spos) X.env := by rfl)
    (hfew : ((backTo pos (starEach (e :: []) X.env)).all (fun x => !x.1) && (backToKw pos (keywordEach [] X.env)).all (fun x => x.1.isSome) && decide ((e :: ([] : List Expr)).length + ([] : List Keyword).length + (if ([] : List Keyword).isEmpty then 0 else 1) < 30)) = true := by rfl)
    (hline : (apos.endLine == pos.line) = true := by rfl) (hs : starEach (e :: []) X.env = (false, eval e X.env) :: starEach [] X.env := by rfl) (hplain : (backTo pos (starEach [] X.env)).any (·.1) = false := by rfl) :
    PE X (.Call (.Attribute (.Subscript (.Name y p) (.Constant (.int (k : Int)) ck cp) spos) "append" apos) [e] [] pos) (tD X.K adr T W (eAppI i k f)) :=
  PE.imp (pe_bm PySem.F.plainAttrs_list PySem.F.slot_list_append PySem.F.type_list_append mt_append (pe_ix ixOr (pe_var hN hv hd hcd) pe_int hpl) (pa_cons he pa_nil hs) hbase hfew hline hs hplain) fun σ H Q ⟨ρ, F, S, q⟩ => by
    unfold eAppI at q
    split at q
    · rename_i d hd0
      cases ei : itL d k with
      | none => simp only [ei] at q; exact q.elim
      | some es =>
        simp only [ei] at q
        obtain ⟨v, G, F', hv', r, S', pm⟩ := S.rep.take hd0
        have nP : (F' ++ G).Nodup := perm_nodup pm S.nd
        obtain ⟨nF', nG, dFG⟩ := List.nodup_append.mp nP
        obtain ⟨a0, xs0, b0, ws0, Gk, ev0, sq0, hx0, hk0, ho0, rk, nxt⟩ := slot_it (T := T) (F9 := F') (H1 := H) (F' := F') r nG ei hv'
        refine ⟨v, hv', tIxk ev0 sq0 hx0 hk0 ⟨.inl ⟨rfl, ws0, .inl (.inl ho0)⟩, ?_⟩⟩
        have hG : ∀ b ∈ G, H b ≠ none := fun b hb => ne_none_of (r.mem b hb)
        refine tn (G := G) (k := fun x ρ1 => match ρ1[i]? with | some none => if es.length < sizeLine then .ok .non (ρ1.set i (some (putL d k (es ++ [x])))) else .fail | _ => .fail) (Q := Q) ⟨S', nF', S.tab⟩ nP hG (Hold.weak (Stp.refl S.tab fun b hb => pm.mem_iff.mpr hb) q) fun dx ρ1 F1 Fx x H1 S1 rx nn ex q => ?_
        split at q
        · rename_i hi1
          by_cases hz : es.length < sizeLine
          · rw [if_pos hz] at q
            obtain ⟨ho1, rk1, nkx, up⟩ := nxt ρ1 F1 Fx H1 S1 hi1 nn ex fun c hc hc' => dFG c hc' c hc rfl
            obtain ⟨F2, S2, st⟩ := up (es ++ [dx]) (ws0 ++ [x]) (Gk ++ Fx) (by simpa using repL_append rk1 (repL_cons rx repL_nil)) nkx fun c hc => hc
            exact ⟨b0, ws0, x, rfl, rfl, ho1, by rw [rk.length]; exact hz, q .non _ ⟨F2, [], S2.rep, ⟨rfl, rfl⟩, by simpa using S2.nd, by simpa using st⟩⟩
          · rw [if_neg hz] at q; exact q.elim
        · exact q.elim
    · exact q.elim
theorem pd_clrI {y : Str} {p : Pos} {ck : Nat} (i k : Nat) (hpl : PlainIx (.Constant (.int (k : Int)) ck cp)) (hN : X.N[i]? = some y := by rfl) (hv : Vis X.env.scope y := by first | exact Or.inl rfl | exact Or.inr (Or.inl rfl) | exact Or.inr (Or.inr rfl)) (hd : (y == ("__debug__" : Str)) = false := by decide) (hcd : (y == ("__classdict__" : Str)) = false := by decide)
    (hbase : attributeBase (.Subscript (.Name y p) (.Constant (.int (k : Int)) ck cp) spos) "clear" X.env (eval (.Subscript (.Name y p) (.Constant (.int (k : Int)) ck cp) spos) X.env) = eval (.Subscript (.Name y p) (.Constant (.int (k : Int)) ck cp) spos) X.env := by rfl) (hline : (apos.endLine == pos.line) = true := by rfl) :
    PE X (.Call (.Attribute (.Subscript (.Name y p) (.Constant (.int (k : Int)) ck cp) spos) "clear" apos) [] [] pos) (tD X.K adr T W (eClrI i k)) :=
  PE.imp (pe_bm0 PySem.F.plainAttrs_list PySem.F.slot_list_clear PySem.F.type_list_clear mt_clear (pe_ix ixOr (pe_var hN hv hd hcd) pe_int hpl) hbase hline) fun σ H Q ⟨ρ, F, S, q⟩ => by
    unfold eClrI at q
    split at q
    · rename_i d hd0
      cases ei : itL d k with
      | none => simp only [ei] at q; exact q.elim
      | some es =>
        simp only [ei] at q
        obtain ⟨v, G, F', hv', r, S', pm⟩ := S.rep.take hd0
        have nP : (F' ++ G).Nodup := perm_nodup pm S.nd
        obtain ⟨nF', nG, dFG⟩ := List.nodup_append.mp nP
        obtain ⟨a0, xs0, b0, ws0, Gk, ev0, sq0, hx0, hk0, ho0, rk, nxt⟩ := slot_it (T := T) (F9 := F') (H1 := H) (F' := F') r nG ei hv'
        refine ⟨v, hv', tIxk ev0 sq0 hx0 hk0 ⟨.inl ⟨rfl, ws0, .inl (.inl ho0)⟩, b0, ws0, rfl, rfl, ho0, ?_⟩⟩
        have hil : i < ρ.length := (List.getElem?_eq_some_iff.mp hd0).1
        obtain ⟨_, _, _, up⟩ := nxt (ρ.set i none) F' [] H ⟨S', nF', S.tab⟩ (by rw [List.getElem?_set_self hil]) (by simpa using nP) (Ext.refl _ _) fun c hc hc' => dFG c hc' c hc rfl
        obtain ⟨F2, S2, st⟩ := up [] [] [] repL_nil List.nodup_nil fun c hc => nomatch hc
        rw [List.set_set] at S2
        refine q .non _ ⟨F2, [], S2.rep, ⟨rfl, rfl⟩, by simpa using S2.nd, ?_⟩
        have st' := st.mono (F1 := F) fun c hc => pm.mem_iff.mpr (by simpa using hc)
        simpa using st'
    · exact q.elim
end
end DL
set_option Elab.async false
set_option linter.all false
set_option maxRecDepth 100000
set_option maxHeartbeats 4000000
/-! a slot's thing is locked for a reading and given back -/
namespace DL
open PySem L2
open LamX (Tabs)
section
variable {X : Cx} {pins : List (Addr × Obj)} {σ : L2.St} {s : Shared}
theorem lockL : ∀ (G : List Addr) (H : Hp), G.Nodup → Inv X pins σ H s → (∀ b ∈ G, ∃ u, H b = some u ∧ Ownd u) → ∃ H', Inv X pins σ H' s ∧ (∀ b, b ∉ G → H' b = H b) ∧ ∀ b ∈ G, ∃ od u, H b = some u ∧ H' b = some (.frz od u)
  | [], H, _, I, _ => ⟨H, I, fun _ _ => rfl, fun _ h => nomatch h⟩
  | a :: G, H, n, I, h => by
    obtain ⟨na, nG⟩ := List.nodup_cons.mp n
    obtain ⟨H1, I1, k1, l1⟩ := lockL G H nG I fun b hb => h b (List.mem_cons_of_mem _ hb)
    obtain ⟨u, hu, ou⟩ := h a List.mem_cons_self
    have hu1 : H1 a = some u := by rw [k1 a na]; exact hu
    obtain ⟨od, I2⟩ := I1.lock hu1 ou.mut
    refine ⟨_, I2, fun b hb => ?_, fun b hb => ?_⟩
    · have hb' : b ≠ a := fun z => hb (by rw [z]; exact List.mem_cons_self)
      rw [upd_ne hb', k1 b fun z => hb (List.mem_cons_of_mem _ z)]
    · by_cases e : b = a
      · subst e
        exact ⟨od, u, hu, upd_same⟩
      · rw [upd_ne e]
        exact l1 b ((List.mem_cons.mp hb).resolve_left e)
theorem unlockL : ∀ (G : List Addr) (H H0 : Hp), G.Nodup → Inv X pins σ H s → (∀ b ∈ G, (∃ od u, H b = some (.frz od u) ∧ H0 b = some u) ∧ ∀ o' u', X.H_0 b ≠ some (.frz o' u')) → ∃ H', Inv X pins σ H' s ∧ (∀ b, b ∉ G → H' b = H b) ∧ ∀ b ∈ G, H' b = H0 b
  | [], H, _, _, I, _ => ⟨H, I, fun _ _ => rfl, fun _ h => nomatch h⟩
  | a :: G, H, H0, n, I, h => by
    obtain ⟨na, nG⟩ := List.nodup_cons.mp n
    obtain ⟨H1, I1, k1, l1⟩ := unlockL G H H0 nG I fun b hb => h b (List.mem_cons_of_mem _ hb)
    obtain ⟨⟨od, u, hu, h0⟩, hn⟩ := h a List.mem_cons_self
    have hu1 : H1 a = some (.frz od u) := by rw [k1 a na]; exact hu
    have I2 := I1.unlock hu1 hn
    refine ⟨_, I2, fun b hb => ?_, fun b hb => ?_⟩
    · have hb' : b ≠ a := fun z => hb (by rw [z]; exact List.mem_cons_self)
      rw [upd_ne hb', k1 b fun z => hb (List.mem_cons_of_mem _ z)]
    · by_cases e : b = a
      · subst e
        rw [upd_same, h0]
      · rw [upd_ne e]
        exact l1 b ((List.mem_cons.mp hb).resolve_left e)
end
mutual
def lkOk : D → Bool
  | .non => true
  | .bl _ => true
  | .int _ => true
  | .str _ => true
  | .ty _ => true
  | .ref _ => true
  | .tup ds => lkOkL ds
  | .lst ds => lkOkL ds
  | .fls ds => lkOkL ds
  | .dk _ _ => false
  | .dt _ _ => false
  | .ins _ _ => false
  | .exn _ _ => false
  | .clo _ => false
def lkOkL : List D → Bool
  | [] => true
  | d :: ds => lkOk d && lkOkL ds
end
section
variable {K : PySem.W.Frag} {adr : Adr} {H H' : Hp}
mutual
/-- a tree whose lists are all locked -/
theorem rep_locked : ∀ (d : D) (v : V) (F : List Addr), lkOk d = true → Rep K adr H d v F → (∀ b o, H b = some o → Imm o → H' b = some o) → (∀ b ∈ F, ∃ od u, H b = some u ∧ H' b = some (.frz od u)) → Rep K adr H' (freeze d) v []
  | .non, _, _, _, r, _, _ => ⟨r.1, rfl⟩
  | .bl _, _, _, _, r, _, _ => ⟨r.1, rfl⟩
  | .int _, _, _, _, r, _, _ => ⟨r.1, rfl⟩
  | .str _, _, _, _, r, _, _ => ⟨r.1, rfl⟩
  | .ty _, _, _, _, r, _, _ => ⟨r.1, rfl⟩
  | .ref _, _, _, _, r, _, _ => ⟨r.1, rfl⟩
  | .tup ds, v, F, k, ⟨a, vs, ev, ho, rl⟩, hi, hl => by
    refine ⟨a, vs, ev, ?_, repL_locked ds vs F k rl hi hl⟩
    rcases ho with (h | ⟨o, h⟩) | h
    · exact .inl (.inl (hi _ _ h True.intro))
    · exact .inl (.inr ⟨o, hi _ _ h True.intro⟩)
    · exact .inr h
  | .fls ds, v, F, k, ⟨a, vs, ev, ho, rl⟩, hi, hl => by
    refine ⟨a, vs, ev, ?_, repL_locked ds vs F k rl hi hl⟩
    rcases ho with ⟨o, h⟩ | h
    · exact .inl ⟨o, hi _ _ h True.intro⟩
    · exact .inr h
  | .lst ds, v, F, k, ⟨a, vs, G, ev, ho, rl, eF⟩, hi, hl => by
    obtain ⟨od, u, h1, h2⟩ := hl a (by rw [eF]; exact List.mem_cons_self)
    rw [ho] at h1; cases h1
    exact ⟨a, vs, ev, .inl ⟨od, h2⟩, repL_locked ds vs G k rl hi fun b hb => hl b (by rw [eF]; exact List.mem_cons_of_mem _ hb)⟩
  | .dk _ _, _, _, k, _, _, _ => by cases k
  | .dt _ _, _, _, k, _, _, _ => by cases k
  | .ins _ _, _, _, k, _, _, _ => by cases k
  | .exn _ _, _, _, k, _, _, _ => by cases k
  | .clo _, _, _, k, _, _, _ => by cases k
theorem repL_locked : ∀ (ds : List D) (vs : List V) (F : List Addr), lkOkL ds = true → RepL K adr H ds vs F → (∀ b o, H b = some o → Imm o → H' b = some o) → (∀ b ∈ F, ∃ od u, H b = some u ∧ H' b = some (.frz od u)) → RepL K adr H' (freezeL ds) vs []
  | [], _, _, _, r, _, _ => ⟨r.1, rfl⟩
  | d :: ds, vs, F, k, ⟨v, ws, F1, F2, e1, r1, r2, e2⟩, hi, hl => by
    have k' : (lkOk d && lkOkL ds) = true := k
    rw [Bool.and_eq_true] at k'
    exact ⟨v, ws, [], [], e1, rep_locked d v F1 k'.1 r1 hi fun b hb => hl b (by rw [e2]; exact List.mem_append_left _ hb), repL_locked ds ws F2 k'.2 r2 hi fun b hb => hl b (by rw [e2]; exact List.mem_append_right _ hb), rfl⟩
end
/-- the slots that own nothing -/
def dupE (ρ : Env) : Env := ρ.map fun o => match o with
  | some d => if dup d then some d else none
  | none => none
theorem RepS.dupE : ∀ {ρ : Env} {σ : L2.St} {F : List Addr}, RepS K adr H ρ σ F → RepS K adr H (DL.dupE ρ) σ []
  | [], σ, F, h => ⟨h.1, rfl⟩
  | none :: ρ, σ, F, ⟨s, σ', e, h⟩ => ⟨s, σ', e, h.dupE⟩
  | some d :: ρ, σ, F, ⟨v, σ', F1, F2, e, r, h, e2⟩ => by
    show RepS K adr H ((if dup d then some d else none) :: DL.dupE ρ) σ []
    by_cases hd : dup d = true
    · rw [if_pos hd]
      exact ⟨v, σ', [], [], e, r.dup hd, h.dupE, rfl⟩
    · rw [if_neg hd]
      exact ⟨_, σ', e, h.dupE⟩
theorem dupE_length {ρ : Env} : (dupE ρ).length = ρ.length := by unfold dupE; rw [List.length_map]
end
/-- f reads, the thing of slot i locked meanwhile -/
def eLk (i : Nat) (f : EM) : EM := fun ρ => match ρ[i]? with
  | some (some d) => if lkOk d then match f (((dupE ρ).set i none).set i (some (freeze d))) with
    | .ok x _ => if flD x then .ok x ρ else .fail
    | _ => .fail
    else .fail
  | _ => .fail
section
variable {X : Cx} {adr : Adr} {T : List (Addr × Str)} {W : WX} {e : Expr} {f : EM}
theorem pd_lk (i : Nat) (he : PE X e (tD X.K adr T W f)) : PE X e (tD X.K adr T W (eLk i f)) := by
  refine ⟨fun pins s σ H Q I ⟨ρ, F, S, q⟩ => ?_⟩
  unfold eLk at q
  split at q
  · rename_i d hd
    by_cases hk : lkOk d = true
    · rw [if_pos hk] at q
      cases ef : f (((dupE ρ).set i none).set i (some (freeze d))) with
      | exc x ρ1 => simp only [ef] at q; exact q.elim
      | fail => simp only [ef] at q; exact q.elim
      | ok x ρ1 =>
        simp only [ef] at q
        by_cases hx : flD x = true
        · rw [if_pos hx] at q
          obtain ⟨v, G, F', hv, r, S', pm⟩ := S.rep.take hd
          have nP : (F' ++ G).Nodup := perm_nodup pm S.nd
          obtain ⟨nF', nG, dFG⟩ := List.nodup_append.mp nP
          obtain ⟨H1, I1, k1, l1⟩ := lockL G H nG I (r.mem)
          have notG : ∀ b o, H b = some o → Imm o → b ∉ G := fun b o h i z => by
            obtain ⟨u, hu, ou⟩ := r.mem b z
            rw [h] at hu; cases hu
            exact ou.not_imm i
          have e1 : Ext G H H1 := ⟨fun b o h n _ => by
            rw [k1 b (n.elim (fun z => z) (notG b o h))]; exact h, fun b z => by
            by_cases hb : b ∈ G
            · obtain ⟨od, u, _, h2⟩ := l1 b hb
              rw [h2] at z; cases z
            · rw [k1 b hb] at z; exact z⟩
          have r1 : Rep X.K adr H1 (freeze d) v [] := rep_locked d v G hk r (fun b o h i => by rw [k1 b (notG b o h i)]; exact h) l1
          have S1 : RepS X.K adr H1 ((dupE ρ).set i none) σ [] := by
            obtain ⟨F3, a, b⟩ := (S.rep.dupE.ext e1 (fun _ z => nomatch z)).kill i
            rw [List.sublist_nil.mp b] at a
            exact a
          have hil : i < (dupE ρ).length := by rw [dupE_length]; exact (List.getElem?_eq_some_iff.mp hd).1
          have hi1 : ((dupE ρ).set i none)[i]? = some none := by rw [List.getElem?_set_self hil]
          obtain ⟨F4, S2, p4⟩ := S1.refill hi1 hv r1
          have eF4 : F4 = [] := List.Perm.eq_nil (by simpa using p4)
          subst eF4
          have t1 : Tabs T H1 := fun p hp => by
            have := S.tab p hp
            obtain ⟨ps, h1, h2, h3⟩ := this
            refine ⟨ps, ?_, h2, fun pos cv hc => ?_⟩
            · rw [k1]
              · exact h1
              · intro z
                obtain ⟨u, hu, ou⟩ := r.mem _ z
                rw [h1] at hu; cases hu
                exact ou
            · obtain ⟨c, q1, q2⟩ := h3 pos cv hc
              refine ⟨c, q1, ?_⟩
              have := e1.imm q2 True.intro
              exact this
          refine thn (he.run pins s σ H1 (fun v2 H2 => PostE X.K adr T [] H1 σ ρ1 x v2 H2) I1 ⟨_, [], ⟨S2, List.nodup_nil, t1⟩, ?_⟩) fun u s1 ⟨v2, H2, I2, rv, p⟩ => ?_
          · rw [ef]; exact fun v2 H2 p => p
          · obtain ⟨F5, Fd, S5, r5, n5, st⟩ := p.sim
            have k2 : ∀ b ∈ G, ∃ od u, H2 b = some (.frz od u) ∧ H b = some u := fun b hb => by
              obtain ⟨od, u, h1, h2⟩ := l1 b hb
              exact ⟨od, u, st.ext.imm h2 True.intro, h1⟩
            obtain ⟨H3, I3, k3, l3⟩ := unlockL G H2 H nG I2 fun b hb => ⟨k2 b hb, fun o' u' z => by
              have z2 := I.base.frzs b o' u' z
              obtain ⟨u, hu, ou⟩ := r.mem b hb
              rw [z2] at hu; cases hu
              exact ou⟩
            have e3 : Ext [] H H3 := ⟨fun b o h _ nt => by
              by_cases hb : b ∈ G
              · rw [l3 b hb]; exact h
              · rw [k3 b hb]
                refine st.ext.keep b o ?_ (.inl fun z => nomatch z) nt
                rw [k1 b hb]; exact h, fun b z => by
              by_cases hb : b ∈ G
              · rw [l3 b hb] at z; exact z
              · rw [k3 b hb] at z
                have := st.ext.dom b z
                rw [k1 b hb] at this; exact this⟩
            have t3 : Tabs T H3 := fun p hp => by
              obtain ⟨ps, h1, h2, h3⟩ := S5.tab p hp
              have ng : ∀ b o, H2 b = some o → Imm o ∨ ¬ NoTbl o → (∀ od u, o ≠ .frz od u) → b ∉ G := fun b o h _ nf z => by
                obtain ⟨od, u, q1, _⟩ := k2 b z
                rw [h] at q1; cases q1
                exact nf _ _ rfl
              refine ⟨ps, ?_, h2, fun pos cv hc => ?_⟩
              · rw [k3]
                · exact h1
                · intro z
                  obtain ⟨od, u, q1, _⟩ := k2 _ z
                  rw [h1] at q1; cases q1
              · obtain ⟨c, q1, q2⟩ := h3 pos cv hc
                refine ⟨c, q1, ?_⟩
                have : c ∉ G := by
                  intro z
                  obtain ⟨od, u, w1, _⟩ := k2 _ z
                  rw [q2] at w1; cases w1
                show H3 c = _
                rw [k3 c this]
                exact q2
            obtain ⟨ex, fx⟩ := flD_rep r5 hx
            refine ⟨v2, H3, I3, rv, q v2 H3 ⟨F, [], S.rep.ext e3 (fun _ _ z => nomatch z), ?_, by simpa using S.nd, ⟨e3.mono (fun _ z => nomatch z), fun b hb => .inl (by simpa using hb), t3⟩⟩⟩
            rw [ex]
            cases x <;> first | (cases hx; done) | exact ⟨rfl, rfl⟩
        · rw [if_neg hx] at q; exact q.elim
    · rw [if_neg hk] at q; exact q.elim
  · exact q.elim
end
end DL
set_option Elab.async false
set_option linter.all false
set_option maxRecDepth 100000
set_option maxHeartbeats 4000000
/-! name[i] op= e of ints; list(range(..)); name op= e -/
namespace DL
open PySem L2 PySem.Spec PyProof.Rows
open LamX (Tabs)
section
variable {X : Cx}
theorem get_listP : PGet X (rIxL X.K) := by
  intro pins s σ H x y v u Q I rx ry h
  obtain ⟨p, xs, i, z, rfl, rfl, hq, he, q⟩ := h
  cases rx
  obtain ⟨t, rfl⟩ := ry
  obtain ⟨its, r, pl, hz⟩ := I.list hq
  obtain ⟨j, h1, h2, h3, h4, h5⟩ := atI_get he
  obtain ⟨w, ew, rw'⟩ := r.get h2
  have hl := r.length
  have hn := line63
  have fin : EP X pins σ Q w s := ⟨z, H, I, rw', q⟩
  by_cases h0 : 0 ≤ i
  · have hj : i.toNat = j := by
      rw [seqIndex_of h0 h5] at h1
      exact Option.some.inj h1
    exact wpAny_getItem_list pl.isList h0 (by omega) (by rw [hj]; simpa using ew) fin
  · have hj : (i + (its.toArray.size : Int)).toNat = j := by
      rw [seqIndex_neg (by omega) h4] at h1
      rw [List.size_toArray, ← hl]
      exact Option.some.inj h1
    exact wpAny_getItem_list_neg pl.isList (by omega) (by rw [List.size_toArray] <;> omega) (by omega) (by rw [hj]; simpa using ew) fin
end
/-- name[g] = op (name[g]) f, ints -/
def sIxA (i : Nat) (op : Int → Int → Int) (g f : EM) : SM := fun ρ => match ρ[i]? with
  | some (some _) => s1 g (fun k ρ1 => match ρ1[i]?, k with
    | some (some (.lst ds)), .int k => match atI ds k with
      | some (.int a) => s1 f (fun y ρ2 => match ρ2[i]?, y with
        | some (some (.lst ds2)), .int b => match ixN ds2.length k with
          | some j => .nx (ρ2.set i (some (.lst (ds2.set j (.int (op a b))))))
          | none => .fail
        | _, _ => .fail) ρ1
      | _ => .fail
    | _, _ => .fail) ρ
  | _ => .fail
section
variable {X : Cx} {adr : Adr} {T : List (Addr × Str)} {io : List Nat} {W : WX} {pos tpos : Pos} {e ix : Expr} {f g : EM} {op : Operator} {fi : Int → Int → Int}
theorem ps_dixA {y : Str} {p : Pos} (i : Nat) (ho : PIp X op (ipI fi)) (hi : PE X ix (tD X.K adr T W g)) (he : PE X e (tD X.K adr T W f)) (hN : X.N[i]? = some y := by rfl) (hv : Vis X.env.scope y := by first | exact Or.inl rfl | exact Or.inr (Or.inl rfl) | exact Or.inr (Or.inr rfl)) (hd : (y == ("__debug__" : Str)) = false := by decide) (hcd : (y == ("__classdict__" : Str)) = false := by decide)
    (ha : ∀ ov iv new, augStore ix ov iv new = (do holding [new, ov, iv] (setItem ov iv new); release [new, ov, iv] []; pure .next) := by intros; rfl) :
    PS X (.AugAssign (.Subscript (.Name y p) ix tpos) op e pos) (tDS X.K adr T io W (sIxA i fi g f)) :=
  PS.imp (ps_augS (pe_var hN hv hd hcd) hi get_listP he ho set_list ha) fun D σ H ⟨ρ, F, S, q⟩ => by
    unfold sIxA at q
    split at q
    · rename_i d0 hd0
      obtain ⟨v, Gv, hv', r0, _⟩ := S.rep.get hd0
      refine ⟨v, hv', ts1 ⟨ρ, F, S, q⟩ fun dk ρ1 F1 Fk k H1 S1 rk nk q => ?_⟩
      split at q
      · rename_i ds k' hd1
        obtain ⟨ek, eF⟩ : k = .int k' ∧ Fk = [] := rk
        subst eF
        subst ek
        rw [List.append_nil] at q
        obtain ⟨v1, G1, hv1, r1, _⟩ := S1.rep.get hd1
        rw [hv'] at hv1; cases hv1
        obtain ⟨a, vs, G0, ev, ho1, rl, eG⟩ := r1
        cases ea : atI ds k' with
        | none => simp only [ea] at q; exact q.elim
        | some z =>
          cases z with
          | int x =>
            simp only [ea] at q
            have hat : atI vs k' = some (.int x) := by
              unfold atI at ea ⊢
              rw [rl.length]
              cases en : ixN ds.length k' with
              | none => rw [en] at ea; cases ea
              | some j =>
                rw [en] at ea
                obtain ⟨w, Gw, hw, rw', _⟩ := rl.get ea
                rw [← rw'.1]; exact hw
            refine ⟨a, vs, k', .int x, ev, rfl, .inl (.inl ho1), hat, ts1 ⟨ρ1, F1, S1, q⟩ fun dy ρ2 F2 Fy y' H2 S2 ry ny q => ?_⟩
            split at q
            · rename_i ds2 b hd2
              obtain ⟨ey, eFy⟩ : y' = .int b ∧ Fy = [] := ry
              subst eFy
              subst ey
              cases en : ixN ds2.length k' with
              | none => simp only [en] at q; exact q.elim
              | some j =>
                simp only [en] at q
                obtain ⟨a2, vs2, G2, hv2, ho2, rl2, n2, up⟩ := slot_upd (Fy := []) S2 hd2 ny
                rw [hv'] at hv2; cases hv2
                cases ev
                have hj : j < ds2.length := by
                  unfold ixN at en
                  split at en
                  · split at en <;> cases en <;> omega
                  · split at en <;> cases en <;> omega
                obtain ⟨F', r', F0, p', sb⟩ := repL_set rl2 hj (d := .int (fi x b)) (v := .int (fi x b)) (G := []) ⟨rfl, rfl⟩
                rw [List.append_nil] at p' n2
                obtain ⟨F3, S3, st⟩ := up _ _ F' r' (perm_nodup p'.symm (n2.sublist sb)) fun c hc => List.mem_append_left _ (sb.subset (p'.mem_iff.mp hc))
                exact ⟨x, b, rfl, rfl, a, vs2, k', j, rfl, rfl, ho2, by rw [rl2.length]; exact en, q σ _ ⟨F3, S3, st, Fix.refl _ _⟩⟩
            · exact q.elim
          | _ => simp only [ea] at q; exact q.elim
      · exact q.elim
    · exact q.elim
end
/-! ### list(range(..)) -/
def rgD (a b : Int) : List D := (List.range (b - a).toNat).map fun i => D.int (a + (i : Nat))
def rgB (a b : Int) : Bool := decide (0 ≤ a) && decide (a ≤ 1000000) && decide (0 ≤ b) && decide (b ≤ 1000000)
def dLR (a b : D) : Option D := match a, b with
  | .int i, .int j => if rgB i j then some (.lst (rgD i j)) else none
  | _, _ => none
theorem rgB_ok {a b : Int} (h : rgB a b = true) : RgOk a b := by
  unfold rgB at h
  simp only [Bool.and_eq_true, decide_eq_true_eq] at h
  exact RgOk.of_le (by omega) (by omega) (by omega) (by omega)
theorem rep_rg {K : PySem.W.Frag} {adr : Adr} {H : Hp} (a : Int) : ∀ l : List Nat, RepL K adr H (l.map fun i => D.int (a + (i : Nat))) (l.map fun i => V.int (a + (i : Nat))) []
  | [] => repL_nil
  | i :: l => repL_cons (F1 := []) (F2 := []) (d := .int (a + (i : Nat))) (v := .int (a + (i : Nat))) ⟨rfl, rfl⟩ (rep_rg a l)
def eLR1 (f : EM) : EM := e1 f fun x ρ => opt (dLR (.int 0) x) ρ
def eLR2 (f g : EM) : EM := e2 f g fun x y ρ => opt (dLR x y) ρ
section
variable {K : PySem.W.Frag} {adr : Adr} {T : List (Addr × Str)} {F G : List Addr} {H : Hp} {σ : L2.St} {W : WX} {ρ : Env} {Q : VK}
theorem rg_new {a b : Int} {z : D} (S : Sim K adr T ρ σ H F) (e : dLR (.int a) (.int b) = some z) (q : Hold K adr T W (.ok z ρ) G H σ Q) (sub : ∀ c ∈ F, c ∈ G) : RgOk a b ∧ ∀ p, H p = none → Q (.ref p) (upd H p (.lst (rgV a b))) := by
  by_cases hb : rgB a b = true
  · have ez : z = .lst (rgD a b) := by
      have : (if rgB a b then some (D.lst (rgD a b)) else none) = some z := e
      rw [if_pos hb] at this; cases this; rfl
    subst ez
    refine ⟨rgB_ok hb, fun p hp => hold_read q S sub (.ref p) _ [p] ⟨p, rgV a b, [], rfl, upd_same, rep_rg a _, rfl⟩ (by simp) (Ext.new hp) (fun c hc => by rw [List.mem_singleton.mp hc]; exact hp) (tabs_new S.tab hp)⟩
  · have : (if rgB a b then some (D.lst (rgD a b)) else none) = some z := e
    rw [if_neg hb] at this; cases this
end
section
variable {X : Cx} {adr : Adr} {T : List (Addr × Str)} {W : WX} {a b : Expr} {f g : EM} {p p2 pos pos2 : Pos}
theorem pd_lr2 (hc : X.calm = true) (hl : X.mg "list" = none) (hr : X.mg "range" = none) (ha : PE X a (tD X.K adr T W f)) (hb : PE X b (tD X.K adr T W g)) (hgl : Gl X "list" := by rfl) (hgr : Gl X "range" := by rfl)
    (na : starEach [a, b] X.env = (false, eval a X.env) :: starEach [b] X.env := by rfl) (nb : starEach [b] X.env = (false, eval b X.env) :: starEach [] X.env := by rfl) (hp : (backTo pos2 (starEach [b] X.env)).any (·.1) = false := by rfl)
    (nr : starEach [.Call (.Name "range" p2) [a, b] [] pos2] X.env = (false, eval (.Call (.Name "range" p2) [a, b] [] pos2) X.env) :: starEach [] X.env := by rfl) :
    PE X (.Call (.Name "list" p) [.Call (.Name "range" p2) [a, b] [] pos2] [] pos) (tD X.K adr T W (eLR2 f g)) :=
  PE.imp (pe_listRg hc hgl hl (prg_2 hgr hr ha hb na nb hp) nr) fun σ H Q q => t2 q fun dx dy ρ2 F Fx Fy x y H2 S rx ry nn q => by
    cases e : dLR dx dy with
    | none => rw [e] at q; exact q.elim
    | some z =>
      rw [e] at q
      cases dx <;> cases dy <;> first | (cases e; done) | skip
      rename_i i j
      exact ⟨i, j, rx.1, ry.1, rg_new S e q fun c hc => List.mem_append_left _ hc⟩
theorem pd_lr1 (hc : X.calm = true) (hl : X.mg "list" = none) (hr : X.mg "range" = none) (ha : PE X a (tD X.K adr T W f)) (hgl : Gl X "list" := by rfl) (hgr : Gl X "range" := by rfl)
    (na : starEach [a] X.env = (false, eval a X.env) :: starEach [] X.env := by rfl)
    (nr : starEach [.Call (.Name "range" p2) [a] [] pos2] X.env = (false, eval (.Call (.Name "range" p2) [a] [] pos2) X.env) :: starEach [] X.env := by rfl) :
    PE X (.Call (.Name "list" p) [.Call (.Name "range" p2) [a] [] pos2] [] pos) (tD X.K adr T W (eLR1 f)) :=
  PE.imp (pe_listRg hc hgl hl (prg_1 hgr hr ha na) nr) fun σ H Q q => t1 q fun dx ρ1 F Fx x H1 S rx nn q => by
    cases e : dLR (.int 0) dx with
    | none => rw [e] at q; exact q.elim
    | some z =>
      rw [e] at q
      cases dx <;> first | (cases e; done) | skip
      rename_i j
      exact ⟨j, rx.1, rg_new S e q fun c hc => List.mem_append_left _ hc⟩
end
end DL
set_option Elab.async false
set_option linter.all false
set_option maxRecDepth 100000
set_option maxHeartbeats 4000000
/-! all, any; is True, is False -/
namespace DL
open PySem L2 PySem.Spec PyProof.Rows
open LamX (Tabs)
def dAll (d : D) : Option D := (litms d).bind fun ds => (dBls ds).map fun ks => .bl (ks.all id)
def dAny (d : D) : Option D := (litms d).bind fun ds => (dBls ds).map fun ks => .bl (ks.any id)
def dIsB : D → D → Option D
  | .bl a, .bl b => some (.bl (decide (a = b)))
  | _, _ => none
def dNotB : D → D → Option D
  | .bl a, .bl b => some (.bl (!decide (a = b)))
  | _, _ => none
section
variable {X : Cx} {adr : Adr} {T : List (Addr × Str)}
theorem kAll (hc : X.calm = true) : CallD X adr T (.builtin "all") (d1 dAll) := call1D (cr_all hc) fun a z H x Fx Q e r1 t q => by
  unfold dAll at e
  cases hl : litms a with
  | none => rw [hl] at e; cases e
  | some ds =>
    rw [hl] at e
    cases hn : dBls ds with
    | none => simp [hn] at e
    | some ns =>
      simp only [Option.bind_some, hn, Option.map_some] at e
      cases e
      obtain ⟨p, vs, G, e1, sq, rl⟩ := r1.litms hl
      rw [repL_bls rl hn] at sq
      exact ⟨p, ns, by rw [e1], sq, q.flat t (.bl _)⟩
theorem kAny (hc : X.calm = true) : CallD X adr T (.builtin "any") (d1 dAny) := call1D (cr_any hc) fun a z H x Fx Q e r1 t q => by
  unfold dAny at e
  cases hl : litms a with
  | none => rw [hl] at e; cases e
  | some ds =>
    rw [hl] at e
    cases hn : dBls ds with
    | none => simp [hn] at e
    | some ns =>
      simp only [Option.bind_some, hn, Option.map_some] at e
      cases e
      obtain ⟨p, vs, G, e1, sq, rl⟩ := r1.litms hl
      rw [repL_bls rl hn] at sq
      exact ⟨p, ns, by rw [e1], sq, q.flat t (.bl _)⟩
theorem op_isBl : OpR X (compareOp .Is) (fun x y H Q => ∃ m n, x = .bl m ∧ y = .bl n ∧ Q (.bl (decide (m = n))) H) := by
  intro pins s σ H x y v u Q I rx ry h
  obtain ⟨m, n, rfl, rfl, q⟩ := h
  cases (show v = Value.bool m from rx)
  cases (show u = Value.bool n from ry)
  by_cases e : m = n
  · subst e
    exact wpAny_is_self rfl ⟨.bl true, H, I, rfl, by simpa using q⟩
  · exact wpAny_is_other rfl (fun z => e (Value.bool.inj z)) ⟨.bl false, H, I, rfl, by simpa [e] using q⟩
theorem op_isNotBl : OpR X (compareOp .IsNot) (fun x y H Q => ∃ m n, x = .bl m ∧ y = .bl n ∧ Q (.bl (!decide (m = n))) H) := by
  intro pins s σ H x y v u Q I rx ry h
  obtain ⟨m, n, rfl, rfl, q⟩ := h
  cases (show v = Value.bool m from rx)
  cases (show u = Value.bool n from ry)
  by_cases e : m = n
  · subst e
    exact wpAny_isNot_self rfl ⟨.bl false, H, I, rfl, by simpa using q⟩
  · exact wpAny_isNot_other rfl (fun z => e (Value.bool.inj z)) ⟨.bl true, H, I, rfl, by simpa [e] using q⟩
theorem oIsB : OpD X adr T (compareOp .Is) (d2 dIsB) := opD op_isBl fun a b z H x y Fx Fy Q e r1 r2 t q => by
  cases a <;> cases b <;> first | (cases e; done) | skip
  cases e
  exact ⟨_, _, r1.1, r2.1, q.flat t (.bl _)⟩
theorem oNotB : OpD X adr T (compareOp .IsNot) (d2 dNotB) := opD op_isNotBl fun a b z H x y Fx Fy Q e r1 r2 t q => by
  cases a <;> cases b <;> first | (cases e; done) | skip
  cases e
  exact ⟨_, _, r1.1, r2.1, q.flat t (.bl _)⟩
end
end DL
set_option Elab.async false
set_option linter.all false
set_option maxRecDepth 100000
set_option maxHeartbeats 4000000
/-! zip of a tuple and a list -/
namespace DM
open PySem PySem.Spec PyProof.Rows L2
abbrev zmH1 (h : Heap) (a : Addr) : Heap := h.push { cls := .type "tuple_iterator", data := .fields #[.ref a, .int 0 0] }
abbrev zmH2 (h : Heap) (a b : Addr) : Heap := (zmH1 h a).push { cls := .type "list_iterator", data := .fields #[.ref b, .int 0 0] }
abbrev zmH3 (h : Heap) (a b : Addr) : Heap := (zmH2 h a b).push { cls := .type "tuple", data := .seq #[.ref h.objs.size, .ref (zmH1 h a).objs.size] }
abbrev zmH4 (h : Heap) (a b : Addr) : Heap := (zmH3 h a b).push { cls := .type "tuple", data := .seq #[.none, .none] }
abbrev zmH5 (h : Heap) (a b : Addr) : Heap := (zmH4 h a b).push { cls := .type "zip", data := .fields #[.none, .bool false, .bool false, .ref (zmH2 h a b).objs.size, .ref (zmH3 h a b).objs.size] }
theorem meets_zipM (a b : Addr) (xs ys : Array Value) :
    Meets (Builtin.«zip.__new__» ⟨[.type "zip", .ref a, .ref b], []⟩) (fun _ R s => s.heap.IsTuple a xs ∧ s.heap.IsList b ys ∧
      R (.ok (.ret (.ref (zmH4 s.heap a b).objs.size))) { s with heap := zmH5 s.heap a b }) :=
  .of_wp fun prog w A R s h => by
    obtain ⟨hp, g, d, tk, os⟩ := s; obtain ⟨h1, h2, h⟩ := h
    have hsub := sub_zip
    have hL1 : Heap.IsTuple (Shared.heap ⟨hp, g, d, tk, os⟩) a xs := h1
    have hL2 : Heap.IsList (Shared.heap ⟨hp.push { cls := .type "tuple_iterator", data := .fields #[.ref a, .int 0 0] }, g, d, tk, os⟩) b ys := Heap.IsList.push h2 _
    wp_walk using wpAny_pyIter_tuple hL1, wpAny_pyIter_list hL2
    exact ⟨_, rfl, h⟩
section
variable {prog : Program} {w : World} {A : Around} {E : Value → Shared → Prop} {s : Shared}
theorem draws_endL (hh : A.handled = none) (it l : Addr) (items : Array Value) (i : Nat) (hi : items[i]? = none) : Draws prog w A it [it, l] i (fun _ _ => True) (fun j h => j = i ∧ h.IsListIter it l i ∧ h.IsList l items) where
  live := fun _ _ st => let ⟨o, ho, _⟩ := st.2.1; ⟨o, ho⟩
  frame := fun _ _ _ st hk => ⟨st.1, st.2.1.at fun o e => hk it (by simp) o e, st.2.2.at fun o e => hk l (by simp) o e⟩
  item := fun j s Q E hj st hQ => absurd st.1 (Nat.ne_of_lt hj)
  done := fun s Q E st hE => wpAny_nextOf_list_end hh st.2.1 st.2.2 hi hE
theorem call_zipM {a b : Addr} {xs ys : Array Value} {Q : Value → Shared → Prop} (h1 : s.heap.IsTuple a xs) (h2 : s.heap.IsList b ys)
    (h : ∀ h', IsZip h' (s.heap.objs.size + 4) (s.heap.objs.size + 2) (s.heap.objs.size + 3) .none → IsPair h' (s.heap.objs.size + 2) (.ref s.heap.objs.size) (.ref (s.heap.objs.size + 1)) →
      IsPair h' (s.heap.objs.size + 3) .none .none → h'.IsTupleIter s.heap.objs.size a 0 → h'.IsListIter (s.heap.objs.size + 1) b 0 → h'.objs.size = s.heap.objs.size + 5 →
      (∀ c o, s.heap.get? c = some o → h'.get? c = some o) → Q (.ref (s.heap.objs.size + 4)) { s with heap := h' }) :
    wpAny (model prog w) A (call (.type "zip") [.ref a, .ref b]) Q E s := by
  refine callType_new F.called_zip (by decide) (F.typeCall_zip_2 _ _) (F.newCall_zip_2 _ _) (fun obj => F.args_object_init_3 obj _ _) F.entry_zip_new
    (meets_zipM a b xs ys) ⟨h1, h2, ?_⟩
  have z1 : (zmH1 s.heap a).objs.size = s.heap.objs.size + 1 := Heap.size_push ..
  have z2 : (zmH2 s.heap a b).objs.size = s.heap.objs.size + 2 := by rw [Heap.size_push, z1]
  have z3 : (zmH3 s.heap a b).objs.size = s.heap.objs.size + 3 := by rw [Heap.size_push, z2]
  have z4 : (zmH4 s.heap a b).objs.size = s.heap.objs.size + 4 := by rw [Heap.size_push, z3]
  have z5 : (zmH5 s.heap a b).objs.size = s.heap.objs.size + 5 := by rw [Heap.size_push, z4]
  have g5 : (zmH5 s.heap a b).get? (zmH4 s.heap a b).objs.size = some _ := Heap.get?_push_size _ rfl
  have g4 : (zmH5 s.heap a b).get? (zmH3 s.heap a b).objs.size = some _ := Heap.get?_push_of_some _ (Heap.get?_push_size _ rfl)
  have g3 : (zmH5 s.heap a b).get? (zmH2 s.heap a b).objs.size = some _ := Heap.get?_push_of_some _ (Heap.get?_push_of_some _ (Heap.get?_push_size _ rfl))
  have g2 : (zmH5 s.heap a b).get? (zmH1 s.heap a).objs.size = some _ := Heap.get?_push_of_some _ (Heap.get?_push_of_some _ (Heap.get?_push_of_some _ (Heap.get?_push_size _ rfl)))
  have g1 : (zmH5 s.heap a b).get? s.heap.objs.size = some _ := Heap.get?_push_of_some _ (Heap.get?_push_of_some _ (Heap.get?_push_of_some _ (Heap.get?_push_of_some _ (Heap.get?_push_size _ rfl))))
  show _ ∧ _
  rw [z2, z3, z4] at g5
  rw [z1, z2] at g3
  rw [z3] at g4
  rw [z1] at g2
  rw [z4]
  exact ⟨⟨_, g5, rfl⟩, h _ g5 g3 g4 ⟨_, g1, rfl, rfl⟩ ⟨_, g2, rfl, rfl⟩ z5 fun c o x =>
    Heap.get?_push_of_some _ (Heap.get?_push_of_some _ (Heap.get?_push_of_some _ (Heap.get?_push_of_some _ (Heap.get?_push_of_some _ x))))⟩
end
/-- the tuple at a, the list at b, the items in new pairs -/
def ItzM (K : PySem.W.Frag) (a b : Addr) : It :=
  ⟨fun i H => ∃ (xs ys : List V) (x y : V), SqT K H a xs ∧ SqL K H b ys ∧ xs[i]? = some x ∧ ys[i]? = some y,
    fun i H v H' => ∃ T x y, v = .ref T ∧ H T = none ∧ H' = upd H T (.tup [x, y]) ∧ (∀ xs, SqT K H a xs → xs[i]? = some x) ∧ ∀ ys, SqL K H b ys → ys[i]? = some y,
    fun i H => ∃ xs ys : List V, SqT K H a xs ∧ SqL K H b ys ∧ (xs.length ≤ i ∨ ys.length ≤ i)⟩
theorem turn_zipM {P : Program} {w : World} {K : PySem.W.Frag} {elts : List Expr} {kk : Nat} {tpos : Pos} {a b z TI TO i1 i2 : Addr} (D : ZipSep2 z TI TO i1 i2 [i1, a] [i2, b]) (n12 : i1 ≠ i2) (na : a ≠ i1) (nb : b ≠ i2) :
    Turn P w K (.Tuple elts kk tpos) (ItzM K a b) [z, TI, TO, i1, i2] z (fun i h => IsZip h z TI TO .none ∧ IsTupOf2 h TI (.ref i1) (.ref i2) ∧ (∃ x y, IsTupOf2 h TO x y) ∧ h.IsTupleIter i1 a i ∧ h.IsListIter i2 b i) where
  mem := by simp
  obj := fun i h st c hc => by
    obtain ⟨hz, hTI, ⟨x, y, hTO⟩, ⟨o1, e1, _, d1⟩, ⟨o2, e2, _, d2⟩⟩ := st
    have e' : c = z ∨ c = TI ∨ c = TO ∨ c = i1 ∨ c = i2 := by simpa using hc
    rcases e' with q | q | q | q | q
    · rw [q]; exact ⟨_, hz, fun v q => nomatch q⟩
    · rw [q]; exact ⟨_, hTI, fun v q => nomatch q⟩
    · rw [q]; exact ⟨_, hTO, fun v q => nomatch q⟩
    · rw [q]; exact ⟨o1, e1, fun v q => by rw [d1] at q; cases q⟩
    · rw [q]; exact ⟨o2, e2, fun v q => by rw [d2] at q; cases q⟩
  keep := fun i h h' st k => by
    obtain ⟨hz, hTI, ⟨x, y, hTO⟩, h1, h2⟩ := st
    exact ⟨k z (by simp) _ hz, k TI (by simp) _ hTI, ⟨x, y, k TO (by simp) _ hTO⟩, h1.at fun o q => k i1 (by simp) o q, h2.at fun o q => k i2 (by simp) o q⟩
  item := by
    intro X hP hw hK hc i pins s σ H E I hf st hg
    subst hP hw hK
    obtain ⟨hz, hTI, ⟨x0, y0, hTO⟩, h1, h2⟩ := st
    obtain ⟨xs, ys, x, y, hqx, hqy, hx, hy⟩ := hg
    obtain ⟨its, rv, p, _⟩ := I.tuple hqx
    obtain ⟨its2, rv2, p2, _⟩ := I.list hqy
    obtain ⟨u, hu, ru⟩ := rv.get hx
    obtain ⟨u2, hu2, ru2⟩ := rv2.get hy
    have hzl : z < s.heap.objs.size := Heap.lt_size hz
    have hl1 : i < its.toArray.size := by simpa using (List.getElem?_eq_some_iff.mp hu).1
    have hl2 : i < its2.toArray.size := by simpa using (List.getElem?_eq_some_iff.mp hu2).1
    refine wpAny_pyNext_zipD2_item D (Draws.tuple (A := X.A.in1) (I.ok.hd hc) i1 a na its.toArray) (Draws.list (A := X.A.in1) (I.ok.hd hc) i2 b nb its2.toArray) hz hTI hTO ⟨h1, p⟩ ⟨h2, p2.isList⟩ hl1 hl2 fun x1 x2 h' tk P1 P2 z' TO' s1' s2' hT hsz hk => ?_
    have ex1 : x1 = u := by
      have : its[i]? = some x1 := by simpa using P1
      rw [hu] at this; exact (Option.some.inj this).symm
    have ex2 : x2 = u2 := by
      have : its2[i]? = some x2 := by simpa using P2
      rw [hu2] at this; exact (Option.some.inj this).symm
    subst ex1; subst ex2
    refine ⟨_, rfl, wpAny_letOwnedTupleGo_zip (s := { s with heap := h', toks := tk }) z' fun h'' z'' sb => ?_⟩
    have hT2 : h''.get? s.heap.objs.size = some { cls := .type "tuple", data := .seq #[x1, x2] } := (sb.2 _ (Nat.ne_of_gt hzl)).trans hT
    have new : ObjOk X.prog X.w (upd H s.heap.objs.size (.tup [x, y])) h'' s.heap.objs.size (.tup [x, y]) :=
      ⟨by show 2 ≤ sizeLine; decide, [x1, x2], .cons ru (.cons ru2 .nil), ⟨_, hT2, rfl, _, rfl⟩⟩
    have I1 : Inv X pins σ (upd H s.heap.objs.size (.tup [x, y])) { s with heap := h'', toks := tk } :=
      I.turnedNew (ch := [z, TI, TO, i1, i2]) (fun c o hb q => (sb.2 c (fun q' => hb (by simp [q']))).trans (hk c o (fun q' => hb (by simp [q'])) (fun q' => hb (by simp [q'])) (fun q' => hb (by simp [q'])) (fun q' => hb (by simp [q'])) q)) hf (Nat.le_refl _) new
    refine ⟨.ref s.heap.objs.size, _, I1, rfl, ⟨_, x, y, rfl, I.hok.fresh (Nat.le_refl _), rfl, fun l hl => by rw [I.tuple_inj hl hqx]; exact hx, fun l hl => by rw [I.list_inj hl hqy]; exact hy⟩, ⟨z'', ?_, ⟨x1, x2, ?_⟩, ?_, ?_⟩, fun c hcm => ?_⟩
    · exact (sb.2 _ D.TIz).trans (hk _ _ D.TIz D.TITO D.TIi1 D.TIi2 hTI)
    · exact (sb.2 _ D.TOz).trans TO'
    · exact s1'.1.at fun o q => (sb.2 _ (Ne.symm D.zi1)).trans q
    · exact s2'.1.at fun o q => (sb.2 _ (Ne.symm D.zi2)).trans q
    · have hlt : c < s.heap.objs.size := by
        have e' : c = z ∨ c = TI ∨ c = TO ∨ c = i1 ∨ c = i2 := by simpa using hcm
        rcases e' with q | q | q | q | q
        · rw [q]; exact hzl
        · rw [q]; exact Heap.lt_size hTI
        · rw [q]; exact Heap.lt_size hTO
        · rw [q]; obtain ⟨_, e1, _⟩ := h1; exact Heap.lt_size e1
        · rw [q]; obtain ⟨_, e2, _⟩ := h2; exact Heap.lt_size e2
      rw [upd_ne (Nat.ne_of_lt hlt)]
      exact (hf c hcm).1
  done := by
    intro X hP hw hK hc i pins s σ H E I hf st hg
    subst hP hw hK
    obtain ⟨hz, hTI, ⟨x0, y0, hTO⟩, h1, h2⟩ := st
    obtain ⟨xs, ys, hqx, hqy, hend⟩ := hg
    obtain ⟨its, rv, p, _⟩ := I.tuple hqx
    obtain ⟨its2, rv2, p2, _⟩ := I.list hqy
    have l1 := rv.length
    have l2 := rv2.length
    have fin : ∀ h' tk, (∀ c o, c ≠ z → c ≠ TO → c ≠ i1 → c ≠ i2 → s.heap.get? c = some o → h'.get? c = some o) → (none : Option Value) = none ∧ Inv X pins σ H { s with heap := h', toks := tk } := fun h' tk hk =>
      ⟨rfl, I.turnedL (t' := tk) (ch := [z, TI, TO, i1, i2]) (fun c o hb q => hk c o (fun q' => hb (by simp [q'])) (fun q' => hb (by simp [q'])) (fun q' => hb (by simp [q'])) (fun q' => hb (by simp [q'])) q) hf⟩
    have T1 := Draws.tuple (prog := X.prog) (w := X.w) (A := X.A.in1) (I.ok.hd hc) i1 a na its.toArray
    have L2' := Draws.list (prog := X.prog) (w := X.w) (A := X.A.in1) (I.ok.hd hc) i2 b nb its2.toArray
    by_cases c1 : i < its.toArray.size
    · have c2 : its2.toArray[i]? = none := by
        rcases hend with q | q
        · simp at c1; omega
        · simp; omega
      exact wpAny_pyNext_zipD2_end D T1 (draws_endL (A := X.A.in1) (I.ok.hd hc) i2 b its2.toArray i c2) hz hTI hTO ⟨h1, p⟩ ⟨rfl, h2, p2.isList⟩ (Nat.le_of_lt c1) (Nat.le_refl _) (.inr rfl) fin
    · have c1' : its.toArray[i]? = none := by simp at c1 ⊢; omega
      have E1 := draws_end (prog := X.prog) (w := X.w) (A := X.A.in1) (I.ok.hd hc) i1 a its.toArray i c1'
      by_cases c2 : i < its2.toArray.size
      · exact wpAny_pyNext_zipD2_end D E1 L2' hz hTI hTO ⟨rfl, h1, p⟩ ⟨h2, p2.isList⟩ (Nat.le_refl _) (Nat.le_of_lt c2) (.inl rfl) fin
      · have c2' : its2.toArray[i]? = none := by simp at c2 ⊢; omega
        exact wpAny_pyNext_zipD2_end D E1 (draws_endL (A := X.A.in1) (I.ok.hd hc) i2 b its2.toArray i c2') hz hTI hTO ⟨rfl, h1, p⟩ ⟨rfl, h2, p2.isList⟩ (Nat.le_refl _) (Nat.le_refl _) (.inl rfl) fin
  self := fun A i s Q E st h => wpAny_pyIter_zip st.1 h
end DM
namespace DM
open PySem PySem.Spec PyProof.Rows L2
theorem notin2 {x p q : Nat} (h1 : x ≠ p) (h2 : x ≠ q) : x ∉ ([p, q] : List Nat) := fun h => by
  rcases List.mem_cons.mp h with h | h
  · exact h1 h
  · exact h2 (List.mem_singleton.mp h)
theorem sepM (N a b : Nat) (la : a < N) (lb : b < N) : ZipSep2 (N + 4) (N + 2) (N + 3) N (N + 1) [N, a] [N + 1, b] where
  TIz := (by omega : (N + 2 : Nat) ≠ N + 4)
  TOz := (by omega : (N + 3 : Nat) ≠ N + 4)
  TITO := (by omega : (N + 2 : Nat) ≠ N + 3)
  TIi1 := (by omega : (N + 2 : Nat) ≠ N)
  mem1 := List.mem_cons_self
  zf1 := notin2 (x := N + 4) (by omega) (by omega)
  Tf1 := notin2 (x := N + 3) (by omega) (by omega)
  TIi2 := (by omega : (N + 2 : Nat) ≠ N + 1)
  mem2 := List.mem_cons_self
  zf2 := notin2 (x := N + 4) (by omega) (by omega)
  Tf2 := notin2 (x := N + 3) (by omega) (by omega)
  sep1_2 := notin2 (x := N) (by omega) (by omega)
  sep2_1 := notin2 (x := N + 1) (by omega) (by omega)
def iZipM (K : PySem.W.Frag) (ta : TA) : TI := fun σ H R => ta σ H fun vs H1 => ∃ a b xs ys, vs = [.ref a, .ref b] ∧ SqT K H1 a xs ∧ SqL K H1 b ys ∧ R (ItzM K a b) H1
theorem pi_zipM {X : Cx} {e e2 : Expr} {ta : TA} {p pos tpos : Pos} {elts : List Expr} {kk : Nat} (hg : Gl X "zip") (hm : X.mg "zip" = none) (ha : PA X [e, e2] ta)
    (hs : starEach [e, e2] X.env = (false, eval e X.env) :: starEach [e2] X.env := by rfl) (hpl : (backTo pos (starEach [e2] X.env)).any (·.1) = false := by rfl) :
    PI X (.Tuple elts kk tpos) (.Call (.Name "zip" p) [e, e2] [] pos) (iZipM X.K ta) := by
  refine ⟨fun pins s σ H R I h => ?_⟩
  refine Call_ (ld_blt I hg hm PyProof.Rows.boot_zip (PyProof.Rows.callWith_type1 (thn (ha.run pos pins s σ H _ I h) fun us s1 ⟨vs, H1, I1, r1, q1⟩ => ?_) hs hpl))
  obtain ⟨a, b, xs, ys, ex, hqx, hqy, q⟩ := q1
  subst ex
  cases r1 with
  | cons r rr =>
    cases rr with
    | cons r' rr =>
      cases rr
      cases r
      cases r'
      obtain ⟨its, rv, p1, _⟩ := I1.tuple hqx
      obtain ⟨its2, rv2, p2, _⟩ := I1.list hqy
      obtain ⟨o1, ho1, _⟩ := id p1
      have la : a < s1.heap.objs.size := Heap.lt_size ho1
      have lb : b < s1.heap.objs.size := p2.lt
      refine call_zipM p1 p2.isList fun h' hz hTI hTO h1 h2 hsz hk => wpAny_pyIter_zip hz ?_
      have I2 : Inv X pins σ H1 { s1 with heap := h' } := I1.kept (t' := s1.toks) hk
      have D := sepM s1.heap.objs.size a b la lb
      refine ⟨s1.heap.objs.size + 4, [s1.heap.objs.size + 4, s1.heap.objs.size + 2, s1.heap.objs.size + 3, s1.heap.objs.size, s1.heap.objs.size + 1], _, _, H1, rfl, I2, turn_zipM D (Nat.ne_of_lt (Nat.lt_succ_self _)) (Nat.ne_of_lt la) (Nat.ne_of_lt (Nat.lt_succ_of_lt lb)), ⟨hz, hTI, ⟨_, _, hTO⟩, h1, h2⟩, fun c hcm => ?_, q⟩
      have e' : c = s1.heap.objs.size + 4 ∨ c = s1.heap.objs.size + 2 ∨ c = s1.heap.objs.size + 3 ∨ c = s1.heap.objs.size ∨ c = s1.heap.objs.size + 1 := by simpa using hcm
      have hle : s1.heap.objs.size ≤ c := by
        rcases e' with z | z | z | z | z
        · rw [z]; exact Nat.le_add_right _ _
        · rw [z]; exact Nat.le_add_right _ _
        · rw [z]; exact Nat.le_add_right _ _
        · rw [z]; exact Nat.le_refl _
        · rw [z]; exact Nat.le_add_right _ _
      exact I1.fpOk hle (I1.hok.fresh hle)
end DM
namespace DL
open PySem L2
open LamX (Tabs)
section
variable {K : PySem.W.Frag} {adr : Adr} {T : List (Addr × Str)}
theorem itd_zipM {H0 : Hp} {a b : Addr} {vs ws : List V} {ds es : List D} {G : List Addr} (hs : SqT K H0 a vs) (hs2 : ∀ H1, Kp G H0 H1 → SqL K H1 b ws) (r0 : RepL K adr H0 ds vs []) (r0' : RepL K adr H0 es ws []) : ItD K adr T (DM.ItzM K a b) (zipF ds es) H0 G := fun H1 kp i => by
  obtain ⟨F0, e0, _⟩ := id kp
  have r1 : RepL K adr H1 ds vs [] := r0.ext0 e0
  have r2 : RepL K adr H1 es ws [] := r0'.ext0 e0
  refine ⟨fun x hx => ?_, fun hl => ⟨vs, ws, e0.sqt hs, hs2 H1 kp, by rw [r0.length, r0'.length]; rw [zipF_len] at hl; omega⟩⟩
  obtain ⟨d, d', hd, hd', ex⟩ := zipF_get hx
  obtain ⟨v, hv, rv⟩ := rep_items r1 hd
  obtain ⟨v', hv', rv'⟩ := rep_items r2 hd'
  refine ⟨⟨vs, ws, v, v', e0.sqt hs, hs2 H1 kp, hv, hv'⟩, fun y H2 ⟨q, w, w', e1, hq, e2, hw, hw'⟩ => ?_⟩
  have := hw vs (e0.sqt hs)
  rw [hv] at this; cases this
  have := hw' ws (hs2 _ kp)
  rw [hv'] at this; cases this
  subst e1; subst e2; subst ex
  exact new_pair hq rv rv'
end
def kZipM : List D → Option (List D)
  | [d, e] => match itemsT d, itemsL e with
    | some l, some m => some (zipF l m)
    | _, _ => none
  | _ => none
section
variable {X : Cx} {adr : Adr} {T : List (Addr × Str)} {io : List Nat} {W : WX} {pos tpos : Pos} {e e2 : Expr} {as : AM} {elts : List Expr} {kk : Nat}
theorem pid_zipM {p : Pos} (hg : Gl X "zip") (hm : X.mg "zip" = none) (ha : PA X [e, e2] (tDA X.K adr T W as))
    (hs : starEach [e, e2] X.env = (false, eval e X.env) :: starEach [e2] X.env := by rfl) (hpl : (backTo pos (starEach [e2] X.env)).any (·.1) = false := by rfl) : PI X (.Tuple elts kk tpos) (.Call (.Name "zip" p) [e, e2] [] pos) (tDI X.K adr T W (iA as kZipM)) :=
  PI.imp (DM.pi_zipM hg hm ha hs hpl) fun σ H R h => tI h fun ds F Fx xs H1 l r n t hF ek q => by
    unfold kZipM at ek
    split at ek
    · rename_i d d'
      obtain ⟨v, ws, F1, F2, e1, r1, r2, e2⟩ := r
      obtain ⟨v', ws', F3, F4, e3, r3, r4, e4⟩ := r2
      obtain ⟨rfl, rfl⟩ := r4
      rw [List.append_nil] at e4
      subst e3
      subst e1
      split at ek
      · rename_i l1 l2 h1 h2
        cases ek
        obtain ⟨a, vs, ev, hs, rl⟩ := rep_itemsT r1 h1
        obtain ⟨b, vs', ev', hs', rl', hk'⟩ := rep_itemsL r3 h2
        subst ev; subst ev'
        exact ⟨a, b, vs, vs', rfl, hs, hs', q _ H1 (Ext.refl _ _) t (itd_zipM hs (fun H1 k => hk' H1 (k.sub fun b hb => by rw [e2, e4]; exact List.mem_append_right _ hb)) rl rl')⟩
      · cases ek
    · cases ek
end
end DL
set_option Elab.async false
set_option linter.all false
set_option maxRecDepth 100000
set_option maxHeartbeats 4000000
/-! a comprehension whose element looks at the frame around it (it calls a lambda that this frame has made) -/
namespace DS
open PySem PySem.Spec PyProof.Rows L2 LamX
section
variable {X : Cx}
theorem lcI_core {pins : List (Addr × Obj)} {s : Shared} {σ : L2.St} {H : Hp} {Q : VK} {elt tg iter : Expr} {ifs : List Expr} {scope : Scope} {own : List (Str × Nat)} {pos pos' : Pos} {wi : TI} {g : TG} {tt : TT} {te : TE} {use : Option (Value → Sem Unit)} {Qf : Value → Shared → Prop}
    (calm : X.calm = true) (nd : X.N.Nodup) (I : Inv X pins σ H s) (hi : PI X tg iter wi) (bo : BlkOk X.N X.env.scope scope own)
    (hg : ∀ (s : Shared) (H : Hp) (C : Addr) (cl : List (Str × Addr)) (fp : List Addr), PG (X.blk s H scope (compEnvC scope cl C X.env) fp) tg g)
    (ht : ∀ (s : Shared) (H : Hp) (C : Addr) (cl : List (Str × Addr)) (fp : List Addr), PTs (X.blk s H scope (compEnvC scope cl C X.env) fp) ifs tt)
    (he : ∀ (s1 : Shared) (H1 : Hp) (C : Addr) (cl : List (Str × Addr)) (fp : List Addr), Inv X pins σ H1 s1 → (∀ b ∈ fp, FpOk X pins H1 b) → PE (X.blk s1 H1 scope (compEnvC scope cl C X.env) fp) elt te)
    (plainIter : ∀ x, foldedSetIterable iter X.env x = pure x) (given : tLc wi g tt te (own.map (·.2)) σ H Q)
    (back : ∀ L C s' m H', Inv X pins σ H' s' → Q (.ref L) H' → s'.heap.Ns C m → FpOk X pins H' C → compPost (model X.prog X.w) X.A X.xe use Qf (.ref L) C (.ok .next) s') :
    wpAny (model X.prog X.w) X.A (comprehension (.ListComp elt [⟨tg, iter, ifs, 0⟩] scope pos) scope X.env pos' (newList []) false (eval iter X.env) use) Qf X.xe s := by
  have captured : ∀ y ∈ scope.names, y.2 = .free → ∃ c, X.env.cells.lookup y.1 = some c := fun y hy e => (bo.free y hy e).elim (fun k => I.ok.has _ (.inl k)) fun k => I.ok.has _ (.inr k)
  refine wpAny_comprehension_free (use := use) rfl plainIter (closure_ok captured) bo.kind (fun y hy e => by rw [bo.uniq y hy, e]) (thn (hi.run pins s σ H _ I given) fun xv sa ha => thn ha fun itv sb hb => ?_)
  obtain ⟨it, fp, tn, J, Hb, rfl, Ib, T, stb, fpb, given⟩ := hb
  refine wpAny_newObj_type (newEnv_comp ?_) (by show 0 ≤ sizeLine; decide)
  let L : Addr := sb.heap.objs.size
  have newL : Hb L = none := Ib.hok.fresh (Nat.le_refl _)
  obtain ⟨W, ⟨m0, w0⟩, turn⟩ := given L newL
  -- behind the making of the list
  let sc : Shared := { sb with heap := sb.heap.push { cls := .type "list", data := .seq ([] : List Value).toArray } }
  let Hc : Hp := upd Hb L (.lst [])
  have grown : ∀ b o, sb.heap.get? b = some o → sc.heap.get? b = some o := fun b o e => Heap.get?_push_of_some _ e
  have Ic : Inv X pins σ Hc sc := Ib.laid (t' := sb.toks) grown (Nat.le_refl _) ⟨Nat.zero_le _, [], 0, .nil, Heap.get?_push_size _ rfl⟩
  have fpc : ∀ b ∈ fp, FpOk X pins Hc b ∧ b < sc.heap.objs.size := fun b hb => by
    obtain ⟨o, e, _⟩ := T.obj _ _ stb b hb
    have lt : b < sb.heap.objs.size := Heap.lt_size e
    have nb : Hc b = none := by
      show upd Hb L _ b = none
      rw [upd_ne (Nat.ne_of_lt lt)]; exact (fpb b hb).1
    exact ⟨⟨nb, (fpb b hb).2⟩, Heap.lt_size (grown _ _ e)⟩
  have stc : tn 0 sc.heap := T.keep _ _ _ stb fun b _ => grown b
  have Id := block_start Ic bo nd fpc
  let cl := cellsFrom (sc.heap.objs.size + 1) scope.names (cloFrom X.env.cells scope.names [])
  have pg := hg sc Hc sc.heap.objs.size cl fp
  have pt := ht sc Hc sc.heap.objs.size cl fp
  have pe := he sc Hc sc.heap.objs.size cl fp Ic fun b hb => (fpc b hb).1
  have nofp : ∀ b ∈ fp, Hc b = none := fun b hb => (fpc b hb).1.1
  let ce : Env := compEnvC scope cl sc.heap.objs.size X.env
  let sd : Shared := { sc with heap := pushCells (sc.heap.push { cls := .type "dict", data := .dict #[] }) scope.names }
  show codeAny _ _ (.compStart (.ListComp elt [⟨tg, iter, ifs, 0⟩] scope pos) 0 (.ref it) (.ref L) ce) (compPost (model X.prog X.w) X.A X.xe use Qf (.ref L) sc.heap.objs.size) sd
  have std : tn 0 sd.heap := T.keep _ _ _ stc fun b _ o e => pushCells_keeps _ _ _ _ (Heap.get?_push_of_some _ e)
  have apart : ∀ {τ : L2.St} {G : Hp} {t : Shared}, Inv (X.blk sc Hc scope ce fp) [] τ G t → (∀ b ∈ fp, G b = none) → ∀ b ∈ fp, FpOk (X.blk sc Hc scope ce fp) [] G b := fun {τ G t} It hn b hb =>
    ⟨hn b hb, (It.ok.exf b hb).1, It.ok.exfs b hb, .inl hb, (It.ok.exf b hb).2, fun p hp => absurd (show p ∈ ([] : List (Addr × Obj)) ++ [] from hp) (by simp)⟩
  suffices loop : codeAny (model X.prog X.w) X.A (.compLoop (.ListComp elt [⟨tg, iter, ifs, 0⟩] scope pos) 0 (.ref it) (.ref L) ce) (compPost (model X.prog X.w) X.A X.xe use Qf (.ref L) sc.heap.objs.size) sd from codeAny_compStart_list loop (T.self X.A 0 _ _ _ std loop)
  let good : Nat → Shared → Prop := fun n t => ∃ i G, Inv (X.blk sc Hc scope ce fp) [] (wipe σ (own.map (·.2))) G t ∧ tn i t.heap ∧ (∀ b ∈ fp, G b = none) ∧ W i n G
  refine compLoop_any good ?_ m0 ⟨0, Hc, Id, std, nofp, w0⟩
  rintro n t1 ⟨i, G1, J1, tn1, n1, w1⟩
  have side := turn i n G1 w1
  rcases side with ⟨stop, fin⟩ | ⟨go, Nx, hNx, step⟩
  case inl =>
    refine thnF (T.done (X.blk sc Hc scope ce fp) rfl rfl rfl calm i [] t1 _ G1 (fun _ _ => False) J1 (apart J1 n1) tn1 stop) fun r t2 ⟨hr, J2⟩ => ?_
    subst hr
    have Iz : Inv X pins σ G1 t2 := Ic.call' (ch := fp) J2.os J2.base J2.hok J2.bare fun b hb => by
      obtain ⟨_, q1, q2, q3, q4, q5⟩ := (fpc b hb).1
      exact ⟨q3, q1, q4, q5⟩
    have nC : G1 sc.heap.objs.size = none := J2.free
    obtain ⟨m, hn, _⟩ := J2.loc
    exact back L sc.heap.objs.size t2 m G1 Iz fin hn (Ic.fpOk (Nat.le_refl _) nC)
  case inr =>
    refine thnF (T.item (X.blk sc Hc scope ce fp) rfl rfl rfl calm i [] t1 _ G1 (fun _ _ => False) J1 (apart J1 n1) tn1 go) fun r t2 ⟨u, hr, h2⟩ => ?_
    subst hr
    refine thnF h2 fun _ t3 ⟨x, G3, J3, r3, y3, tn3, n3⟩ => ?_
    have J3' := J3.pinned (apart J3 n3) (T.obj _ _ tn3)
    refine thnF (pg.run _ t3 _ G3 x u _ J3' r3 (step x G3 y3)) fun _ t4 ⟨τ, G4, J4, wiped, q4⟩ => thnF (pt.run _ t4 τ G4 _ J4 q4) fun b t5 ⟨G5, J5, q5⟩ => ?_
    have next : ∀ {t : Shared} {G : Hp}, Inv (X.blk sc Hc scope ce fp) ([] ++ pinsAt fp t3.heap) τ G t → Nx G → ∃ m, m < n ∧ good m t := fun {t G} It nx => by
      obtain ⟨m, lt, w⟩ := hNx G nx
      have held : ∀ b ∈ fp, ∀ o, t3.heap.get? b = some o → t.heap.get? b = some o ∧ G b = none := fun b hb o e => by
        have q := It.pin (b, o) (List.mem_append_right _ (List.mem_append_right _ (mem_pinsAt hb e)))
        exact ⟨q.1, q.2.1⟩
      refine ⟨m, lt, i + 1, G, (It.unpinned (pins := [])).weak (by rw [← wiped, wipe_length]) (fun j v e => ?_), T.keep _ _ _ tn3 fun b hb o e => (held b hb o e).1, fun b hb => ?_, w⟩
      · rw [← wiped] at e; exact (wipe_some e).1
      · obtain ⟨o, e, _⟩ := T.obj _ _ tn3 b hb
        exact (held b hb o e).2
    match b, q5 with
    | false, q5 => exact next J5 (by simpa using q5)
    | true, q5 =>
      simp only [if_true] at q5 ⊢
      refine thnF (pe.run _ t5 τ G5 _ J5 q5) fun z t6 ⟨yv, G6, J6, r6, acc, at6, room6, nx⟩ => ?_
      exact app_ok (X := X.blk sc Hc scope ce fp) J6 at6 room6 r6 fun t7 J7 => next J7 nx
/-- as a value -/
theorem pe_lcI {elt tg iter : Expr} {ifs : List Expr} {scope : Scope} {own : List (Str × Nat)} {pos : Pos} {wi : TI} {g : TG} {tt : TT} {te : L2.St → TE} (calm : X.calm = true) (nd : X.N.Nodup) (hi : PI X tg iter wi) (bo : BlkOk X.N X.env.scope scope own)
    (hg : ∀ (s : Shared) (H : Hp) (C : Addr) (cl : List (Str × Addr)) (fp : List Addr), PG (X.blk s H scope (compEnvC scope cl C X.env) fp) tg g)
    (ht : ∀ (s : Shared) (H : Hp) (C : Addr) (cl : List (Str × Addr)) (fp : List Addr), PTs (X.blk s H scope (compEnvC scope cl C X.env) fp) ifs tt)
    (he : ∀ (pins : List (Addr × Obj)) (σ : L2.St) (s1 : Shared) (H1 : Hp) (C : Addr) (cl : List (Str × Addr)) (fp : List Addr), Inv X pins σ H1 s1 → (∀ b ∈ fp, FpOk X pins H1 b) → PE (X.blk s1 H1 scope (compEnvC scope cl C X.env) fp) elt (te σ))
    (plainIter : ∀ x, foldedSetIterable iter X.env x = pure x := by intro _; rfl) :
    PE X (.ListComp elt [⟨tg, iter, ifs, 0⟩] scope pos) (fun σ H Q => tLc wi g tt (te σ) (own.map (·.2)) σ H Q) := by
  refine ⟨fun pins s σ H Q I given => ?_⟩
  rw [eval_ListComp]
  refine lcI_core calm nd I hi bo hg ht (he pins σ) plainIter given fun L C s' m H' Iz q hn ⟨f0, f1, f2, f3, f4, f5⟩ => ⟨m, hn, fun h2 sb => ?_⟩
  exact ⟨.ref L, H', Iz.turned (t' := s'.toks) (fun b o hb e => (sb.2 b hb).trans e) f0 f1 f3 f4 f5, rfl, q⟩
end
end DS
set_option Elab.async false
set_option linter.all false
set_option maxRecDepth 100000
set_option maxHeartbeats 4000000
/-! lambdas held as values: what is known of them in the heap -/
namespace DS
open PySem PySem.Spec PyProof.Rows L2 LamX
/-- a lambda of a frame: its parameters, its body, its names; its one parameter (with a default), if it has one -/
structure LamI where
  params : Arguments
  body : Expr
  scope : Scope
  par : Option Str
def LamI.ps (l : LamI) : List Str := l.par.toList
/-- what stands at a lambda's address -/
def LamAt (cells : List (Str × Addr)) (q : Str) (l : LamI) (f c : Addr) (dv : Value) : Heap → Prop := fun h =>
  (∃ pm ctv doc, h.get? f = some (PySem.W.kdv_obj "<lambda>" q l.params (.expr l.body) l.scope (cloFrom cells l.scope.names []) dv doc pm c ctv)) ∧ (l.par = none → dv = .none) ∧ (l.par ≠ none → ∃ t, dv = .ref t)
section
variable {X : Cx} {pins : List (Addr × Obj)} {σ : L2.St} {H : Hp} {s : Shared}
theorem tabs_keep {T : List (Addr × Str)} {H : Hp} {f : Addr} {o : HO} (t : Tabs T H) (n : H f = none) : Tabs T (upd H f o) := t.ext fun b u e => by rw [upd_ne (ne_of_none e n)]; exact e
theorem extN_new {H J : Hp} {f : Addr} {o : HO} (e : ExtN H J) (n : J f = none) : ExtN H (upd J f o) := fun b u h nt => by
  have := e b u h nt
  rw [upd_ne (ne_of_none this n)]; exact this
theorem none_upd {H J : Hp} {f : Addr} {o : HO} (d : ∀ b, J b = none → H b = none) : ∀ b, upd J f o b = none → H b = none := fun b z => by
  by_cases h : b = f
  · rw [h, upd_same] at z; cases z
  · rw [upd_ne h] at z; exact d b z
/-- a lambda is made (its defaults are made already), and known from now on -/
theorem lam_known {T : List (Addr × Str)} {c P : Addr} {l : LamI} {pos : Pos} {dv : Value} {E : Value → Shared → Prop} {Q : Value → Shared → Prop} (I : Inv X pins σ H s) (tb : TabB X.base X.mg c P) (hcode : X.env.code = .ref c)
    (inT : (P, X.env.qual ++ "<lambda>") ∈ T) (one : ∀ p ∈ T, p.1 = P → p.2 = X.env.qual ++ "<lambda>") (tabs : Tabs T H) (capt : ∀ y ∈ l.scope.names, y.2 = .free → ∃ c, X.env.cells.lookup y.1 = some c)
    (h0 : l.par = none → dv = .none) (h1 : l.par ≠ none → ∃ t, dv = .ref t)
    (go : ∀ (f c' : Addr) (J : Hp) (s' : Shared), Inv X pins σ J s' → ExtN H J → (∀ b, J b = none → H b = none) → Tabs T J → J f = some (.ext (LamAt X.env.cells (X.env.qual ++ "<lambda>") l f c' dv)) → J c' = some (CodeO c' (X.env.qual ++ "<lambda>")) → Q (.ref f) s') :
    wpAny (model X.prog X.w) X.A (makeTail "<lambda>" (X.env.qual ++ "<lambda>") l.params (.expr l.body) l.scope X.env dv .none none pos pos.line) Q E s := by
  obtain ⟨ps, tP, trip, among⟩ := tabs _ inT
  have bltP : s.heap.BuiltinsAt X.mg P := tb.bm.keeps I.bk
  have objP : s.heap.get? P = some { cls := .none, data := .fields ps } := I.hok P _ tP
  cases found : codeAmong pos ps.toList with
  | some cv =>
    obtain ⟨c', rfl, isCode⟩ := among pos cv found
    refine PySem.W.kdv_makeTailHit (mg := X.mg) (c := c) (P := P) (ps := ps) (closure_ok capt) I.ok.glob (I.mod.glob.keeps I.bk) hcode (tb.code.keeps I.bk) objP trip found bltP fun ctv doc h' tk grow size => ?_
    let fo := PySem.W.kdv_obj "<lambda>" (X.env.qual ++ "<lambda>") l.params (.expr l.body) l.scope (cloFrom X.env.cells l.scope.names []) dv doc ((X.mg "__name__").getD .none) c' ctv
    have nf : H h'.objs.size = none := I.hok.fresh size
    have J : Inv X pins σ (upd H h'.objs.size (.ext (LamAt X.env.cells (X.env.qual ++ "<lambda>") l h'.objs.size c' dv))) { s with heap := h'.push fo, toks := tk } :=
      I.laid (fun b o e => Heap.get?_push_of_some _ (grow b o e)) size ⟨⟨⟨_, _, _, Heap.get?_push_size _ rfl⟩, h0, h1⟩, ⟨_, Heap.get?_push_size _ rfl⟩, fun a b ⟨⟨pm, ct, dc, e⟩, q⟩ st => ⟨⟨pm, ct, dc, st _ e⟩, q⟩⟩
    refine go h'.objs.size c' _ _ J (extN_new (ExtN.refl H) nf) (none_upd fun _ z => z) (tabs_keep tabs nf) upd_same ?_
    rw [upd_ne (ne_of_none isCode nf)]; exact isCode
  | none =>
    refine PySem.W.kdv_makeTail (mg := X.mg) (c := c) (P := P) (ps := ps) (closure_ok capt) I.ok.glob (I.mod.glob.keeps I.bk) hcode (tb.code.keeps I.bk) objP trip found tb.gP bltP fun c' ctv doc h' tk grow ge lt rec_ tbl => ?_
    obtain ⟨c2, oc, us, t, e2, g1, g2, g3⟩ := rec_
    cases e2
    have size : s.heap.objs.size ≤ h'.objs.size := Nat.le_trans ge (Nat.le_of_lt lt)
    have newC : H c' = none := I.hok.fresh ge
    let fo := PySem.W.kdv_obj "<lambda>" (X.env.qual ++ "<lambda>") l.params (.expr l.body) l.scope (cloFrom X.env.cells l.scope.names []) dv doc ((X.mg "__name__").getD .none) c' ctv
    let more : Array Value := #[rawInt pos.line, rawInt pos.col, .ref c']
    have J0 := inv_table (t' := tk) (more := more) (h' := h') I tP (fun b o hb e => grow b o hb e) tbl ge ⟨oc, us, t, g1, g2, g3⟩
    have nPc : P ≠ c' := ne_of_none tP newC
    have ext : ExtN H (upd (upd H P (.tbl (ps ++ more))) c' (CodeO c' (X.env.qual ++ "<lambda>"))) := fun b o e n => by
      rw [upd_ne (ne_of_none e newC)]
      have : b ≠ P := fun z => by
        rw [z, tP] at e
        exact n ps (Option.some.inj e).symm
      rw [upd_ne this]; exact e
    have nf : (upd (upd H P (.tbl (ps ++ more))) c' (CodeO c' (X.env.qual ++ "<lambda>"))) h'.objs.size = none := by
      have n1 : h'.objs.size ≠ c' := Nat.ne_of_gt lt
      have n2 : h'.objs.size ≠ P := Nat.ne_of_gt (Nat.lt_of_lt_of_le (Heap.lt_size objP) size)
      rw [upd_ne n1, upd_ne n2]
      exact I.hok.fresh size
    have J := J0.laid (t' := tk) (h' := h'.push fo) (a := h'.objs.size) (o := .ext (LamAt X.env.cells (X.env.qual ++ "<lambda>") l h'.objs.size c' dv)) (fun b o e => Heap.get?_push_of_some _ e) (Nat.le_refl _) ⟨⟨⟨_, _, _, Heap.get?_push_size _ rfl⟩, h0, h1⟩, ⟨_, Heap.get?_push_size _ rfl⟩, fun a b ⟨⟨pm, ct, dc, e⟩, q⟩ st => ⟨⟨pm, ct, dc, st _ e⟩, q⟩⟩
    have asL : (ps ++ more).toList = ps.toList ++ [rawInt pos.line, rawInt pos.col, .ref c'] := by simp [more]
    refine go h'.objs.size c' _ _ J (extN_new ext nf) (none_upd fun b z => ?_) (tabs_keep (fun p hp => ?_) nf) upd_same ?_
    · by_cases h1 : b = c'
      · rw [h1, upd_same] at z; cases z
      · rw [upd_ne h1] at z
        by_cases h2 : b = P
        · rw [h2, upd_same] at z; cases z
        · rw [upd_ne h2] at z; exact z
    · by_cases h2 : p.1 = P
      · rw [one p hp h2, h2]
        refine ⟨_, by rw [upd_ne nPc, upd_same], by rw [asL]; exact PySem.TriplesOk_snoc _ _ _ _ trip, fun p' cv hcv => ?_⟩
        rw [asL] at hcv
        rcases among_app _ trip hcv with z | z
        · obtain ⟨c0, e1, e2⟩ := among p' cv z
          exact ⟨c0, e1, ext _ _ e2 codeO_ne⟩
        · exact ⟨c', z, upd_same⟩
      · obtain ⟨ps', a1, a2, a3⟩ := tabs p hp
        refine ⟨ps', by rw [upd_ne (ne_of_none a1 newC), upd_ne h2]; exact a1, a2, fun p' cv hcv => ?_⟩
        obtain ⟨c0, e1, e2⟩ := a3 p' cv hcv
        exact ⟨c0, e1, ext _ _ e2 codeO_ne⟩
    · rw [upd_ne (ne_of_none upd_same nf), upd_same]
/-- lambda: body -/
theorem lam_val0 {T : List (Addr × Str)} {c P : Addr} {l : LamI} {pos : Pos} {E : Value → Shared → Prop} {Q : Value → Shared → Prop} (I : Inv X pins σ H s) (tb : TabB X.base X.mg c P) (hcode : X.env.code = .ref c)
    (inT : (P, X.env.qual ++ "<lambda>") ∈ T) (one : ∀ p ∈ T, p.1 = P → p.2 = X.env.qual ++ "<lambda>") (tabs : Tabs T H) (nodef : defaultsOf l.params X.env = ([], [])) (hp : l.par = none) (capt : ∀ y ∈ l.scope.names, y.2 = .free → ∃ c, X.env.cells.lookup y.1 = some c)
    (go : ∀ (f c' : Addr) (J : Hp) (s' : Shared), Inv X pins σ J s' → ExtN H J → (∀ b, J b = none → H b = none) → Tabs T J → J f = some (.ext (LamAt X.env.cells (X.env.qual ++ "<lambda>") l f c' .none)) → J c' = some (CodeO c' (X.env.qual ++ "<lambda>")) → Q (.ref f) s') :
    wpAny (model X.prog X.w) X.A (eval (.Lambda l.params l.body l.scope pos) X.env) Q E s := by
  refine PySem.W.kla_eval nodef ?_
  rw [makeFunction_eq]
  simp only [List.zip_nil_right, List.filterMap_nil, List.isEmpty_nil, if_true, pure_bind]
  exact lam_known I tb hcode inT one tabs capt (fun _ => rfl) (fun z => absurd hp z) go
/-- lambda z=0: body -/
theorem lam_val1 {T : List (Addr × Str)} {c P : Addr} {l : LamI} {z : Str} {pos pc : Pos} {jc : Nat} {E : Value → Shared → Prop} {Q : Value → Shared → Prop} (I : Inv X pins σ H s) (tb : TabB X.base X.mg c P) (hcode : X.env.code = .ref c)
    (inT : (P, X.env.qual ++ "<lambda>") ∈ T) (one : ∀ p ∈ T, p.1 = P → p.2 = X.env.qual ++ "<lambda>") (tabs : Tabs T H) (hpd : l.params.defaults = [.Constant (.int 0) jc pc]) (hk0 : l.params.kw_defaults = []) (hp : l.par = some z) (capt : ∀ y ∈ l.scope.names, y.2 = .free → ∃ c, X.env.cells.lookup y.1 = some c)
    (go : ∀ (f c' t : Addr) (J : Hp) (s' : Shared), Inv X pins σ J s' → ExtN H J → (∀ b, J b = none → H b = none) → Tabs T J → J f = some (.ext (LamAt X.env.cells (X.env.qual ++ "<lambda>") l f c' (.ref t))) → J t = some (.tup [.int 0]) → J c' = some (CodeO c' (X.env.qual ++ "<lambda>")) → Q (.ref f) s') :
    wpAny (model X.prog X.w) X.A (eval (.Lambda l.params l.body l.scope pos) X.env) Q E s := by
  refine PySem.W.kdv_lam (by rw [hpd]; rfl) hk0 ?_
  rw [hpd]
  refine PySem.W.kdv_all1 (thn ((pe_int (X := X) (pos := pc) (i := 0) (j := jc)).run pins s σ H (fun v H1 => v = .int 0 ∧ H1 = H) I ⟨rfl, rfl⟩) fun u s0 ⟨v, H1, I0, rv, ev, eH⟩ => ?_)
  rw [eH] at I0
  rw [ev] at rv
  refine PySem.W.kdv_all0 ?_
  rw [makeFunction_eq]
  simp only [List.zip_nil_right, List.filterMap_nil, List.isEmpty_nil, List.isEmpty_cons, if_true, pure_bind, Bool.false_eq_true, if_false]
  refine wpAny_bind (wpAny_newTextTuple ?_)
  have nt : H s0.heap.objs.size = none := I0.hok.fresh (Nat.le_refl _)
  have I1 : Inv X pins σ (upd H s0.heap.objs.size (.tup [.int 0])) { s0 with heap := s0.heap.push (PySem.W.kdv_tup [u]) } :=
    I0.laid (t' := s0.toks) (fun b o e => Heap.get?_push_of_some _ e) (Nat.le_refl _) ⟨by decide, [u], .cons rv .nil, _, Heap.get?_push_size _ rfl, rfl, _, rfl⟩
  refine lam_known I1 tb hcode inT one (tabs_keep tabs nt) capt (fun e => by rw [hp] at e; cases e) (fun _ => ⟨_, rfl⟩) fun f c' J s' J1 eN dm T1 hf hc => ?_
  exact go f c' _ J s' J1 (fun b o h n => eN b o (by rw [upd_ne (ne_of_none h nt)]; exact h) n) (fun b z => by
    have z' := dm b z
    by_cases hb : b = s0.heap.objs.size
    · rw [hb]; exact nt
    · rwa [upd_ne hb] at z') T1 hf (eN _ _ upd_same (fun ps z => by cases z)) hc
end
end DS
set_option Elab.async false
set_option linter.all false
set_option maxRecDepth 100000
set_option maxHeartbeats 4000000
/-! a lambda held as a value is handed to a def that calls it: from its frame, or from a comprehension of this frame -/
namespace DS
open PySem PySem.Spec PyProof.Rows L2 LamX
def BindOk (l : LamI) : Prop := match l.par with
  | none => ∀ (q : Str) (cl : List (Str × Addr)) (doc pm cv ctv : Value), bindArgs (PySem.W.kdv_fn "<lambda>" q l.params (.expr l.body) l.scope cl .none doc pm cv ctv) ⟨[], []⟩ = pure []
  | some z => ∀ (q : Str) (cl : List (Str × Addr)) (t : Addr) (doc pm cv ctv v : Value), ∃ kk, bindArgs (PySem.W.kdv_fn "<lambda>" q l.params (.expr l.body) l.scope cl (.ref t) doc pm cv ctv) ⟨[], []⟩ = seqItems? (.ref t) >>= kk ∧ kk (some #[v]) = pure [(z, v)]
section
variable {X : Cx} {pins : List (Addr × Obj)} {σ : L2.St} {H0 H HZ : Hp} {s0 s s1 : Shared} {ex : List Addr}
theorem lam_enterB {A : Around} {outer : List Env} {E : XK} {scope : Scope} {ps : List Str} {binds : List (Str × Value)} {f c' : Addr} {h2 : Heap} {tk : Nat} (I : Inv X pins σ H s) (L : LamS2 X.env.scope scope ps) (hps : ∀ x ∈ ps, x ∉ X.N)
    (e0 : Env0 X.prog X.w X.K X.mg X.base A outer s1 HZ) (hd : A.handled = none) (un : Un (frs X.stack) ex H HZ s.heap s1.heap) (hex : ∀ y c, X.env.cells.lookup y = some c → c ∉ ex) (hns : h2.Ns s1.heap.objs.size fun y => binds.reverse.lookup y) (kp : ∀ b o, s1.heap.get? b = some o → h2.get? b = some o) :
    Inv (lamCx X A outer s1 HZ E scope f c') [] σ HZ { s1 with heap := h2, toks := tk } := by
  have captured := L.capt I.ok
  have toX : ∀ {y c}, (cloFrom X.env.cells scope.names []).lookup y = some c → X.env.cells.lookup y = some c := fun {y c} e => by
    rcases cloFrom_mem (PySem.mem_of_lookup e) with bad | ⟨m1, m2⟩
    · cases bad
    · obtain ⟨c1, k⟩ := captured _ m1 rfl
      have k : X.env.cells.lookup y = some c1 := k
      have same : c = c1 := by
        rw [m2, k] <;> rfl
      rw [same]
      exact k
  have ofFree : ∀ {y}, scope.names.lookup y = some .free → ∃ c, (cloFrom X.env.cells scope.names []).lookup y = some c := fun {y} hl => by
    have m : (y, NameKind.free) ∈ scope.names := PySem.mem_of_lookup hl
    exact mem_lookup (cloFrom_has (cells := X.env.cells) (acc := []) m)
  have moved : ∀ {y : Str} {c : Addr} {v : Option Value}, X.env.cells.lookup y = some c → s.heap.IsCell c v → h2.IsCell c v := fun {y c v} hy ⟨o, g, d⟩ => by
    obtain ⟨sl, q⟩ := un.any g (I.freeC y c hy) (hex y c hy)
    exact ⟨_, kp _ _ q, d⟩
  have noEx : ∀ b : Addr, b ∉ (lamCx X A outer s1 HZ E scope f c').ex := fun b z => absurd (show b ∈ ([] : List Addr) from z) (by simp)
  refine ⟨⟨e0.mod, L.kind, rfl, rfl, Nat.le_refl _, fun y z c e1 e2 => I.ok.inj y z c (toX e1) (toX e2), fun y hy => ?_, fun y c z _ => ?_, fun _ => hd, Around.frames_deeper e0.frames, .inr ⟨rfl, rfl⟩, fun b z => absurd z (noEx b), e0.bs, e0.bsz,
      fun b _ _ => noEx b, fun b z => absurd z (noEx b), e0.funs, e0.frf⟩, rfl, e0.bare, Un.kept kp, ⟨_, hns, fun i y v e1 e2 e3 => ?_⟩, fun y c e => ?_, e0.hok.fresh (Nat.le_refl _), fun y c e => ?_,
      fun q hq => absurd (show q ∈ ([] : List (Addr × Obj)) ++ [] from hq) (by simp), e0.hok.kept kp, I.len⟩
  · rcases (show scope.names.lookup y = some .cell ∨ scope.names.lookup y = some .free from hy) with k | k
    · exact absurd rfl (L.own _ (PySem.mem_of_lookup k)).2
    · exact ofFree k
  · exact absurd (show false = true from z) Bool.false_ne_true
  · rcases (show Vis scope y from e3) with k | k | k
    · exact absurd (List.mem_of_getElem? (show X.N[i]? = some y from e1)) (hps _ ((L.own _ (PySem.mem_of_lookup k)).1 rfl))
    · exact absurd rfl (L.own _ (PySem.mem_of_lookup k)).2
    · obtain ⟨m, hn, seen⟩ := I.loc
      have vis : Vis X.env.scope y := (L.free _ (PySem.mem_of_lookup k) rfl).elim (fun k => .inr (.inl k)) (fun k => .inr (.inr k))
      obtain ⟨u, r, q⟩ := seen i y v e1 e2 vis
      obtain ⟨c2, at2⟩ := ofFree k
      refine ⟨u, r, .inr ⟨.inr k, c2, at2, ?_⟩⟩
      have at1 := toX at2
      rcases q with ⟨bad, _⟩ | ⟨_, c3, at3, cell⟩
      · have bad : X.env.scope.names.lookup y = some .local := bad
        rcases L.free _ (PySem.mem_of_lookup k) rfl with w | w <;> rw [show X.env.scope.names.lookup y = _ from w] at bad <;> cases bad
      · rw [at1] at at3
        cases at3
        exact moved at1 cell
  · obtain ⟨u, cell⟩ := I.cell y c (toX e)
    exact ⟨u, moved (toX e) cell⟩
  · obtain ⟨v, o, g, d⟩ := I.cell y c (toX e)
    exact un.free c o g (I.freeC y c (toX e)) (hex y c (toX e))
/-- what has to be known where it's called -/
def LamFacts (X : Cx) (l : LamI) (f c' : Addr) (dv : Value) (H : Hp) : Prop := H f = some (.ext (LamAt X.env.cells (X.env.qual ++ "<lambda>") l f c' dv)) ∧ (dv = .none ∨ ∃ t, dv = .ref t ∧ H t = some (.tup [.int 0]))
/-- a(), in the def that the lambda was handed to -/
theorem pe_doT {CXg : CXT} {Eg : XK} {Ng : List Str} {qg : Str} {sg : Scope} {g f c' : Addr} {cdg dv : Value} {l : LamI} {k i : Nat} {a : Str} {pn : List (Addr × Obj)} {xe : Value → Shared → Prop} {W : WX} {E : XK} {tb : TE} {p1 p2 : Pos}
    (I : Inv X pins σ H0 s0) (un0 : Un (frs X.stack) ex H0 H s0.heap s.heap) (hex : ∀ y c, X.env.cells.lookup y = some c → c ∉ ex) (L : LamS2 X.env.scope l.scope l.ps) (hps : ∀ x ∈ l.ps, x ∉ X.N) (hB : BindOk l)
    (tk : Takes ((cxOf CXg X.prog X.w X.K X.mg X.base Ng qg sg g cdg X.A X.stack s H Eg).tr pn xe) W) (hW : ∀ cls d σ' H', E cls d H' → W cls d σ' H') (hr : Room (k + 1) (X.A.deeper (envOfC qg sg s.heap.objs.size g cdg)))
    (hbody : ∀ (A : Around) (outer : List Env) (s : Shared) (H : Hp), Room k (A.deeper (lamEnv X l.scope s.heap.objs.size f c')) → PE (lamCx X A outer s H E l.scope f c') l.body tb)
    (hN : Ng[i]? = some a) (hv : Vis sg a) (hd : (a == ("__debug__" : Str)) = false := by decide) (hcd : (a == ("__classdict__" : Str)) = false := by decide) :
    PE ((cxOf CXg X.prog X.w X.K X.mg X.base Ng qg sg g cdg X.A X.stack s H Eg).tr pn xe) (.Call (.Name a p1) [] [] p2)
      (fun σZ HZ Q => σZ[i]? = some (some (.ref f)) ∧ HZ c' = some (CodeO c' (X.env.qual ++ "<lambda>")) ∧ LamFacts X l f c' dv HZ ∧ tb σ HZ Q) := by
  refine ⟨fun pinsZ sZ σZ HZ Q IZ given => ?_⟩
  obtain ⟨inSlot, isCode, ⟨isLam, isDv⟩, ht⟩ := given
  refine wpAny_Call_Name_kw (thn ((pe_var (pos := p1) (i := i) hN hv hd hcd).run pinsZ sZ σZ HZ (fun v H1 => v = .ref f ∧ H1 = HZ) IZ ⟨.ref f, inSlot, rfl, rfl⟩) fun u s1 ⟨v, H1, I1, r1, ev, eH⟩ => ?_)
  subst ev
  rw [eH] at I1
  obtain rfl : u = Value.ref f := r1
  obtain ⟨⟨⟨pm, ctv, doc, of1⟩, par0, par1⟩, _, _⟩ := I1.hok f _ isLam
  refine PySem.W.callWith_F0 ⟨_, _, _, _, of1⟩ ?_
  have un1 : Un (frs X.stack) [] H HZ s.heap s1.heap := I1.base
  have un : Un (frs X.stack) ex H0 HZ s0.heap s1.heap := un0.trans (un1.mono (fun _ z => z) fun _ z => nomatch z)
  obtain ⟨⟨oc, vs, t, g1, g2, g3⟩, _, _⟩ := I1.hok c' _ isCode
  have hbind : ∃ binds : List (Str × Value), binds.map (·.1) = l.ps ∧ BindsTo s1 (PySem.W.kdv_fn "<lambda>" (X.env.qual ++ "<lambda>") l.params (.expr l.body) l.scope (cloFrom X.env.cells l.scope.names []) dv doc pm (.ref c') ctv) ⟨[], []⟩ binds := by
    unfold BindOk at hB
    cases hp : l.par with
    | none =>
      rw [hp] at hB
      rw [par0 hp]
      exact ⟨[], by unfold LamI.ps; rw [hp]; rfl, BindsTo.of_eq (hB _ _ _ _ _ _)⟩
    | some z =>
      rw [hp] at hB
      obtain ⟨t, et⟩ := par1 (by rw [hp]; exact fun z => nomatch z)
      rcases isDv with e | ⟨t', e, at'⟩
      · rw [et] at e; cases e
      · rw [et] at e; cases e
        obtain ⟨_, its, rv, ob, e1, _, n, e2⟩ := I1.hok t _ at'
        match its, rv with
        | [v], _ =>
          subst et
          obtain ⟨kk, h1, h2⟩ := hB (X.env.qual ++ "<lambda>") (cloFrom X.env.cells l.scope.names []) t doc pm (.ref c') ctv v
          exact ⟨[(z, v)], by unfold LamI.ps; rw [hp]; rfl, BindsTo.of_defaults rfl e1 e2 h1 h2⟩
  obtain ⟨binds, hbn, hbt⟩ := hbind
  have run : codeAny (model X.prog X.w) (X.A.deeper (envOfC qg sg s.heap.objs.size g cdg)) (.call (.ref f) ⟨[], []⟩) (CR (L2.CX X.prog X.w) (envOfC qg sg s.heap.objs.size g cdg :: X.stack) X.prog X.w HZ s1 Q E) s1 := by
    refine PySem.W.kla_callFunE hr.depth of1 rfl L.co L.gen rfl ⟨c', oc, vs, t, rfl, g1, g2, g3⟩ ?_
    refine hbt _ _ _ _ ?_
    refine wpAny_newFunctionEnv (fun y hy => (L.own y hy).2) (fun y hy => L.par _ (by rw [← hbn]; exact List.mem_map_of_mem hy)) (fun h2 hns hsb => ⟨I1.nolimit.fresh _ hsb, ?_⟩) L.kind
    show codeAny _ _ (.expr l.body (lamEnv X l.scope s1.heap.objs.size f c')) _ _
    have kp : ∀ b o, s1.heap.get? b = some o → h2.get? b = some o := fun b o e => hsb.extBut b o (Nat.ne_of_lt (Heap.lt_size e)) (Heap.get?_push_of_some _ e)
    have J : Inv (lamCx X (X.A.deeper (envOfC qg sg s.heap.objs.size g cdg)) (envOfC qg sg s.heap.objs.size g cdg :: X.stack) s1 HZ E l.scope f c') [] σ HZ { s1 with heap := h2, toks := s1.toks + binds.length } := lam_enterB I L hps I1.env0 hr.hd un hex hns kp
    refine PySem.W.kla_codeExpr (wpAny_mono ((hbody _ _ s1 HZ (hr.deeper _)).run [] _ _ HZ Q J ht) (fun v s' fin => ?_) fun e s' fin => fin)
    obtain ⟨u, H', J', rv, q⟩ := fin
    exact ⟨u, H', J'.os, J'.bare, J'.base, J'.hok, rv, q⟩
  have off : Passes (L2.CX X.prog X.w) ((cxOf CXg X.prog X.w X.K X.mg X.base Ng qg sg g cdg X.A X.stack s H Eg).tr pn xe) E := passes_call tk hW
  refine wpAny_call (codeAny_mono run fun r s' fin => ?_)
  match r, fin with
  | .error e, fin => exact off pinsZ σZ HZ s1 e s' I1 fin
  | .ok (.ret u), fin => exact I1.after fin
  | .ok .next, fin => exact fin.elim
  | .ok .brk, fin => exact fin.elim
  | .ok .cont, fin => exact fin.elim
end
section
variable {X Z : Cx} {TT : (XK → Hp → VK → Prop) → Hp → VK → Prop} {x a : Str} {g : Addr} {k : Nat} {st : Stmt} {fd : FuncData} {Ng : List Str} {ex : List Addr}
/-- the def is called with the lambda, from Z: the frame X itself, or a comprehension of it -/
theorem lam_handed {pins pinsZ : List (Addr × Obj)} {σ σZ : L2.St} {H0 J : Hp} {s0 s' : Shared} {Q : VK} {f c' : Addr} {dv : Value} {l : LamI} {t : XK → TE} (hF : Fun X.K x x st g fd) (hb : L2.Binds X.K fd [a] []) (Sg : FnScope Ng [a] (defScope st)) (hNg : Ng[0]? = some a) (hva : Vis (defScope st) a)
    (hG : ∀ cdg, GivesTo X Ng x (defScope st) g cdg (defBody st) a (X.env.qual ++ "<lambda>") TT) (hr : Room (k + 2) X.A) (L : LamS2 X.env.scope l.scope l.ps) (hps : ∀ x ∈ l.ps, x ∉ X.N) (hB : BindOk l)
    (hbody : ∀ (A : Around) (outer : List Env) (s : Shared) (H : Hp) (E : XK) (f c' : Addr), Room k (A.deeper (lamEnv X l.scope s.heap.objs.size f c')) → PE (lamCx X A outer s H E l.scope f c') l.body (t E))
    (hd : (a == ("__debug__" : Str)) = false) (hcd : (a == ("__classdict__" : Str)) = false)
    (zp : Z.prog = X.prog) (zw : Z.w = X.w) (zK : Z.K = X.K) (zm : Z.mg = X.mg) (zb : Z.base = X.base) (zA : Z.A = X.A) (zs : Z.stack = X.stack)
    (I : Inv X pins σ H0 s0) (IZ : Inv Z pinsZ σZ J s') (un0 : Un (frs X.stack) ex H0 J s0.heap s'.heap) (hex : ∀ y c, X.env.cells.lookup y = some c → c ∉ ex) (hco : J c' = some (CodeO c' (X.env.qual ++ "<lambda>"))) (hl : LamFacts X l f c' dv J)
    (h : TT (fun E H' Q' => LamFacts X l f c' dv H' ∧ t E σ H' Q') J Q) : wpAny (model Z.prog Z.w) Z.A (call (.ref g) [.ref f]) (EP Z pinsZ σZ Q) Z.xe s' := by
  obtain ⟨oc, od', kV, doc', pm', an, cdv, ct, osl, rfl, lk, hcg⟩ := hF.ex
  have e0 : Env0 X.prog X.w X.K X.mg X.base X.A X.stack s' J := by
    have := IZ.env0
    rw [zp, zw, zK, zm, zb, zA, zs] at this
    exact this
  have kin : X.K.In s'.heap := by rw [← zK]; exact IZ.kIn
  have run : codeAny (model X.prog X.w) X.A (.call (.ref g) ⟨[.ref f], []⟩) (CR C8.CX0 X.stack X.prog X.w J s' Q C8.E0) s' := by
    refine run_ofS (N := Ng) (ps := [a]) (us := [.ref f]) (vs := [.ref f]) lk hcg Sg hr e0 (hb s' [.ref f] kin rfl) (.cons rfl .nil) rfl fun hr' => ?_
    obtain ⟨t', ht', hq'⟩ := hG cdv f c' s' J Q (fun E H' Q' => LamFacts X l f c' dv H' ∧ t E σ H' Q') (fun W pn xe E p1 p2 tk hW => pe_doT (i := 0) I un0 hex L hps hB tk hW hr' (fun A outer s H hr2 => hbody A outer s H E f c' hr2) hNg hva hd hcd) hco h
    exact ⟨t', ht'.nox, hq'⟩
  rw [← zp, ← zw, ← zA] at run
  rw [← zs] at run
  refine wpAny_call (codeAny_mono run fun r s2 fin => ?_)
  match r, fin with
  | .error e, fin => exact (show False from fin).elim
  | .ok (.ret u), fin => exact IZ.after fin
  | .ok .next, fin => exact fin.elim
  | .ok .brk, fin => exact fin.elim
  | .ok .cont, fin => exact fin.elim
end
end DS
set_option Elab.async false
set_option linter.all false
set_option maxRecDepth 100000
set_option maxHeartbeats 4000000
/-! a frame's lambdas in trees -/
namespace DL
open PySem L2
open LamX (Tabs TabB ExtN GivesTo CodeO lamCx lamEnv)
section
variable {K : PySem.W.Frag} {adr : Adr} {T : List (Addr × Str)} {io : List Nat} {F G G' F1 : List Addr} {H H1 H2 : Hp} {σ σ1 σ2 : L2.St} {W : WX} {ρ ρ' : Env}
/-- as td_lc; the element is told what frame it stands in -/
theorem td_lcI {n : Nat} {im : IM} {t : TM} {c e : EM} {vs : List Nat} {Q : VK} (hn : ∀ ρ F, RepS K adr H ρ σ F → σ.length = n) (h : tD K adr T W (eLc im t c e vs) σ H Q) :
    tLc (tDI K adr T W im) (gD K adr T (others n vs) t) (tB (tD K adr T W0 c)) (fun τ J R => wipe τ vs = wipe σ vs ∧ tD K adr T W0 e τ J R) vs σ H Q := by
  obtain ⟨ρ, F, S, h⟩ := h
  have hσ := hn ρ F S.rep
  refine ⟨ρ, F, S, ?_⟩
  unfold eLc at h
  cases ei : im ρ with
  | exc x ρ1 => rw [ei] at h; exact h
  | fail => rw [ei] at h; exact h
  | ok ds ρ1 =>
    rw [ei] at h
    intro J H1 F1 G S1 n1 hG st it Dd hD
    have h1 : Hold K adr T W (if freeL ρ1 vs then lcL t c e vs ds [] ρ1 else .fail) (F1 ++ G) H1 σ Q := Hold.weak st h
    by_cases hf : freeL ρ1 vs = true
    · rw [if_pos hf] at h1
      have eD : Ext [] H1 (upd H1 Dd (.lst [])) := Ext.new hD
      have hDn : ∀ b ∈ F1 ++ G, b ≠ Dd := fun b hb z => by
        rcases List.mem_append.mp hb with w | w
        · exact ne_none_of (S1.rep.mem b w) (by rw [z]; exact hD)
        · exact hG b w (by rw [z]; exact hD)
      have nG : (F1 ++ (Dd :: G)).Nodup := by
        have z : (Dd :: (F1 ++ G)).Nodup := List.nodup_cons.mpr ⟨fun hb => hDn Dd hb rfl, n1⟩
        exact perm_nodup (List.perm_middle.symm) z
      -- the invariant
      refine ⟨fun i m H' => m = ds.length - i ∧ i ≤ ds.length ∧ ∃ ρ' F' acc va Fa, Sim K adr T ρ' (wipe σ vs) H' F' ∧ freeL ρ' vs = true ∧ H' Dd = some (.lst va) ∧ RepL K adr H' acc va Fa ∧ (F' ++ ((Dd :: Fa) ++ G)).Nodup ∧ Kp G H1 H' ∧ (∀ b ∈ G, H' b ≠ none) ∧
          Hold K adr T W (lcL t c e vs (ds.drop i) acc ρ') (F' ++ ((Dd :: Fa) ++ G)) H' σ Q, ⟨ds.length, by simp, Nat.zero_le _, ρ1, F1, [], [], [],
          ⟨(S1.rep.ext eD (fun _ _ z => nomatch z)).to_wipe hf, S1.nd, tabs_new S1.tab hD⟩, hf, upd_same, repL_nil, by simpa using nG, Kp.refl.step eD (fun _ _ z => nomatch z), fun b hb z => hG b hb (eD.dom b z), ?_⟩, ?_⟩
      · rw [List.drop_zero]
        refine Hold.weak ⟨eD.mono (fun _ z => nomatch z), fun b hb => ?_, tabs_new S1.tab hD⟩ h1
        rcases List.mem_append.mp hb with z | z
        · exact .inl (List.mem_append_left _ z)
        · rcases List.mem_append.mp z with z | z
          · exact .inr (by rw [List.mem_singleton.mp z]; exact hD)
          · exact .inl (List.mem_append_right _ z)
      rintro i m H' ⟨rfl, hi, ρ', F', acc, va, Fa, S', hf', hDd, ra, n', kp, hG', hh⟩
      by_cases hlt : i < ds.length
      · have ed : ds[i]? = some ds[i] := List.getElem?_eq_getElem hlt
        obtain ⟨go, yld⟩ := ((it H' kp i).1 _ ed)
        have edr : ds.drop i = ds[i] :: ds.drop (i + 1) := List.drop_eq_getElem_cons hlt
        rw [edr] at hh
        unfold lcL at hh
        refine .inr ⟨go, fun H3 => ∃ ρ' F' acc va Fa, Sim K adr T ρ' (wipe σ vs) H3 F' ∧ freeL ρ' vs = true ∧ H3 Dd = some (.lst va) ∧ RepL K adr H3 acc va Fa ∧ (F' ++ ((Dd :: Fa) ++ G)).Nodup ∧ Kp G H1 H3 ∧ (∀ b ∈ G, H3 b ≠ none) ∧
          Hold K adr T W (lcL t c e vs (ds.drop (i + 1)) acc ρ') (F' ++ ((Dd :: Fa) ++ G)) H3 σ Q, fun H3 q => ⟨ds.length - (i + 1), by omega, rfl, hlt, q⟩, fun x H2 y => ?_⟩
        obtain ⟨rx, e2, t2⟩ := yld x H2 y
        have S2 : Sim K adr T ρ' (wipe σ vs) H2 F' := ⟨S'.rep.ext e2 (fun _ _ z => nomatch z), S'.nd, t2 S'.tab⟩
        -- what is held aside
        have asd : ∀ b ∈ (Dd :: Fa) ++ G, H2 b ≠ none := fun b hb z => by
          have z' := e2.dom b z
          rcases List.mem_append.mp hb with w | w
          · rcases List.mem_cons.mp w with w | w
            · rw [w, hDd] at z'; cases z'
            · exact ne_none_of (ra.mem b w) z'
          · exact hG' b w z'
        have hDd2 : H2 Dd = some (.lst va) := e2.own hDd True.intro fun z => nomatch z
        have ra2 : RepL K adr H2 acc va Fa := ra.ext e2 fun _ _ z => nomatch z
        have kp2 : Kp G H1 H2 := kp.step e2 fun _ _ z => nomatch z
        have st2 : Stp T (F' ++ ((Dd :: Fa) ++ G)) H' (F' ++ ((Dd :: Fa) ++ G)) H2 := ⟨e2.mono (fun _ z => nomatch z), fun b hb => .inl hb, S2.tab⟩
        replace hh := Hold.weak st2 hh
        cases et : t ρ' ds[i] with
        | none => simp only [et] at hh; exact hh.elim
        | some ρ3 =>
          simp only [et] at hh
          refine ⟨ρ', F', ds[i], [], S2, rx, by simpa using S'.nd, ρ3, et, fun σ3 H3 F3 S3 st3 fx3 => ?_⟩
          rw [List.append_nil] at st3
          refine ⟨wipe_eq fx3 hσ, ?_⟩
          have hl3 : σ3.length = σ.length := fx3.len.trans (wipe_length _ _)
          -- behind the target's store
          have stT : Stp T (F' ++ ((Dd :: Fa) ++ G)) H2 (F3 ++ ((Dd :: Fa) ++ G)) H3 := ⟨st3.ext.mono fun b hb => List.mem_append_left _ hb, fun b hb => (List.mem_append.mp hb).elim (fun z => (st3.frs b z).imp (List.mem_append_left _) id) fun z => .inl (List.mem_append_right _ z), S3.tab⟩
          have n3 : (F3 ++ ((Dd :: Fa) ++ G)).Nodup := nodup_aside n' S3.nd st3.frs asd
          have ap2 := apart_of n'
          have hDd3 : H3 Dd = some (.lst va) := st3.ext.own hDd2 True.intro (ap2 Dd (by simp))
          have ra3 : RepL K adr H3 acc va Fa := ra2.ext st3.ext fun b hb => ap2 b (List.mem_append_left _ (List.mem_cons_of_mem _ hb))
          have kp3 : Kp G H1 H3 := kp2.step st3.ext fun b hb => ap2 b (List.mem_append_right _ hb)
          have asd3 : ∀ b ∈ (Dd :: Fa) ++ G, H3 b ≠ none := fun b hb z => asd b hb (st3.ext.dom b z)
          replace hh := Hold.weak stT hh
          -- one more turn's end: from any state on
          have close : ∀ {ρ4 : Env} {H4 : Hp} {F4 : List Addr} {acc4 : List D} {va4 : List V} {Fa4 : List Addr}, RepS K adr H4 ρ4 σ3 F4 → Tabs T H4 → H4 Dd = some (.lst va4) → RepL K adr H4 acc4 va4 Fa4 → (F4 ++ ((Dd :: Fa4) ++ G)).Nodup → Kp G H1 H4 → (∀ b ∈ G, H4 b ≠ none) →
              Hold K adr T W (lcL t c e vs (ds.drop (i + 1)) acc4 (killL ρ4 vs)) (F4 ++ ((Dd :: Fa4) ++ G)) H4 σ Q →
              ∃ ρ' F' acc va Fa, Sim K adr T ρ' (wipe σ vs) H4 F' ∧ freeL ρ' vs = true ∧ H4 Dd = some (.lst va) ∧ RepL K adr H4 acc va Fa ∧ (F' ++ ((Dd :: Fa) ++ G)).Nodup ∧ Kp G H1 H4 ∧ (∀ b ∈ G, H4 b ≠ none) ∧
                Hold K adr T W (lcL t c e vs (ds.drop (i + 1)) acc ρ') (F' ++ ((Dd :: Fa) ++ G)) H4 σ Q := fun {ρ4 H4 F4 acc4 va4 Fa4} s4 t4 d4 r4 nn4 k4 g4 h4 => by
            obtain ⟨F5, s5, sub⟩ := s4.killL (l := vs)
            have hlt4 : ∀ i ∈ vs, i < ρ4.length := fun j hj => by
              have := free_lt hf' j hj
              rw [s4.length, hl3]
              rw [S'.rep.length, wipe_length] at this
              exact this
            have fk := free_kill hlt4
            have s6 : RepS K adr H4 (killL ρ4 vs) (wipe σ vs) F5 := by
              have := s5.to_wipe fk
              rw [wipe_eq fx3 hσ] at this
              exact this
            have n5 : (F5 ++ ((Dd :: Fa4) ++ G)).Nodup := nn4.sublist (sub.append (List.Sublist.refl _))
            exact ⟨_, F5, acc4, va4, Fa4, ⟨s6, (List.nodup_append.mp n5).1, t4⟩, fk, d4, r4, n5, k4, g4, Hold.weak (Stp.refl t4 fun b hb => (List.mem_append.mp hb).elim (fun z => List.mem_append_left _ (sub.subset z)) (List.mem_append_right _)) h4⟩
          refine ⟨ρ3, F3, S3, ?_⟩
          cases ec : c ρ3 with
          | fail => simp only [ec] at hh; exact hh.elim
          | exc x ρ4 => simp only [ec] at hh; exact hh.elim
          | ok db ρ4 =>
            cases db with
            | bl bb =>
              intro vb H4 p4
              obtain ⟨F4, Fb, S4, rb, n4, st4⟩ := p4.sim
              obtain ⟨evb, eFb⟩ := rb
              subst eFb
              rw [List.append_nil] at n4 st4
              refine ⟨bb, evb, ?_⟩
              have n4' : (F4 ++ ((Dd :: Fa) ++ G)).Nodup := nodup_aside n3 n4 st4.frs asd3
              have ap3 := apart_of n3
              have hDd4 : H4 Dd = some (.lst va) := st4.ext.own hDd3 True.intro (ap3 Dd (by simp))
              have ra4 : RepL K adr H4 acc va Fa := ra3.ext st4.ext fun b hb => ap3 b (List.mem_append_left _ (List.mem_cons_of_mem _ hb))
              have kp4 : Kp G H1 H4 := kp3.step st4.ext fun b hb => ap3 b (List.mem_append_right _ hb)
              have asd4 : ∀ b ∈ (Dd :: Fa) ++ G, H4 b ≠ none := fun b hb z => asd3 b hb (st4.ext.dom b z)
              have stT4 : Stp T (F3 ++ ((Dd :: Fa) ++ G)) H3 (F4 ++ ((Dd :: Fa) ++ G)) H4 := ⟨st4.ext.mono fun b hb => List.mem_append_left _ hb, fun b hb => (List.mem_append.mp hb).elim (fun z => (st4.frs b z).imp (List.mem_append_left _) id) fun z => .inl (List.mem_append_right _ z), S4.tab⟩
              replace hh := Hold.weak stT4 hh
              cases bb with
              | false =>
                simp only [ec] at hh
                exact iteF (close S4.rep S4.tab hDd4 ra4 n4' kp4 (fun b hb => asd4 b (List.mem_append_right _ hb)) hh)
              | true =>
                simp only [ec] at hh
                refine iteT ⟨wipe_eq fx3 hσ, ρ4, F4, S4, ?_⟩
                cases ee : e ρ4 with
                | fail => simp only [ee] at hh; exact hh.elim
                | exc x ρ5 => simp only [ee] at hh; exact hh.elim
                | ok dx ρ5 =>
                  simp only [ee] at hh
                  intro vx H5 p5
                  obtain ⟨F5, Fx, S5, r5, n5, st5⟩ := p5.sim
                  by_cases hz : acc.length < sizeLine
                  · rw [if_pos hz] at hh
                    have n5' : ((F5 ++ Fx) ++ ((Dd :: Fa) ++ G)).Nodup := nodup_aside n4' n5 st5.frs asd4
                    have ap4 := apart_of n4'
                    have hDd5 : H5 Dd = some (.lst va) := st5.ext.own hDd4 True.intro (ap4 Dd (by simp))
                    have ra5 : RepL K adr H5 acc va Fa := ra4.ext st5.ext fun b hb => ap4 b (List.mem_append_left _ (List.mem_cons_of_mem _ hb))
                    have kp5 : Kp G H1 H5 := kp4.step st5.ext fun b hb => ap4 b (List.mem_append_right _ hb)
                    have asd5 : ∀ b ∈ (Dd :: Fa) ++ G, H5 b ≠ none := fun b hb z => asd4 b hb (st5.ext.dom b z)
                    refine ⟨va, hDd5, by rw [ra5.length]; exact hz, ?_⟩
                    have eU : Ext [Dd] H5 (upd H5 Dd (.lst (va ++ [vx]))) := Ext.upd hDd5 True.intro (by simp)
                    have ap5 := apart_of n5'
                    have nDd : ∀ b ∈ F5 ++ Fx, b ∉ [Dd] := fun b hb z => by
                      rw [List.mem_singleton.mp z] at hb
                      exact ap5 Dd (by simp) hb
                    have nDa : ∀ b ∈ Fa ++ G, b ∉ [Dd] := fun b hb z => by
                      have := (List.nodup_append.mp n5').2.1
                      rw [List.cons_append] at this
                      rw [List.mem_singleton.mp z] at hb
                      exact (List.nodup_cons.mp this).1 hb
                    have ra6 : RepL K adr (upd H5 Dd (.lst (va ++ [vx]))) (acc ++ [dx]) (va ++ [vx]) (Fa ++ Fx) := by
                      have q1 := ra5.ext eU fun b hb => nDa b (List.mem_append_left _ hb)
                      have q2 := r5.ext eU fun b hb => nDd b (List.mem_append_right _ hb)
                      have q3 := repL_append q1 (repL_cons q2 repL_nil)
                      rw [List.append_nil] at q3
                      exact q3
                    have pm : ((F5 ++ Fx) ++ ((Dd :: Fa) ++ G)).Perm (F5 ++ ((Dd :: (Fa ++ Fx)) ++ G)) := by
                      rw [List.append_assoc]
                      refine List.Perm.append_left F5 ?_
                      have z1 : (Fx ++ ((Dd :: Fa) ++ G)).Perm ((Dd :: Fa) ++ (Fx ++ G)) := by
                        rw [← List.append_assoc, ← List.append_assoc]
                        exact List.Perm.append_right G List.perm_append_comm
                      refine z1.trans ?_
                      rw [← List.append_assoc]
                      exact .refl _
                    refine close (S5.rep.ext eU fun b hb => nDd b (List.mem_append_left _ hb)) (tabs_upd S5.tab hDd5 True.intro) upd_same ra6 (perm_nodup pm n5') (kp5.step eU fun b hb => nDa b (List.mem_append_right _ hb)) (fun b hb z => asd5 b (List.mem_append_right _ hb) (eU.dom b z)) (Hold.weak ?_ hh)
                    refine ⟨(st5.ext.mono fun b hb => List.mem_append_left _ hb).trans eU fun c hc => .inl ?_, fun b hb => ?_, tabs_upd S5.tab hDd5 True.intro⟩
                    · rw [List.mem_singleton.mp hc]; simp
                    · have hb' := pm.mem_iff.mpr hb
                      rcases List.mem_append.mp hb' with z | z
                      · exact (st5.frs b z).imp (List.mem_append_left _) id
                      · exact .inl (List.mem_append_right _ z)
                  · rw [if_neg hz] at hh; exact hh.elim
            | _ => simp only [ec] at hh; exact hh.elim
      · have e0 : i = ds.length := by omega
        refine .inl ⟨(it H' kp i).2 (by omega), ?_⟩
        rw [e0, List.drop_length] at hh
        unfold lcL at hh
        exact hh (.ref Dd) H' ⟨F', Dd :: Fa, S'.rep.of_wipe hf', ⟨Dd, va, Fa, rfl, hDd, ra, rfl⟩, n'.sublist (by
          refine (List.Sublist.refl F').append (List.sublist_append_left _ _)), ⟨Ext.refl _ _, fun b hb => .inl ((List.mem_append.mp hb).elim (fun z => List.mem_append_left _ z) fun z => List.mem_append_right _ (List.mem_append_left _ z)), S'.tab⟩⟩
    · rw [if_neg hf] at h1; exact h1.elim
end
/-! ### no lambda in it -/
mutual
def noC : D → Bool
  | .tup ds => noCL ds
  | .lst ds => noCL ds
  | .fls ds => noCL ds
  | .dk _ ds => noCL ds
  | .dt _ ds => noCL ds
  | .ins _ ds => noCL ds
  | .exn n ds => (fx n).isEmpty || noCL ds
  | .clo _ => false
  | .non => true
  | .bl _ => true
  | .int _ => true
  | .str _ => true
  | .ty _ => true
  | .ref _ => true
def noCL : List D → Bool
  | [] => true
  | d :: ds => noC d && noCL ds
end
/-- the frame's lambdas are these -/
def Adr.wC (adr : Adr) (cells : List (Str × Addr)) (q : Str) (ls : Nat → DS.LamI) : Adr := { adr with clo := fun n f c dv => DS.LamAt cells q (ls n) f c dv, cq := q, con := True }
theorem wC_at {adr : Adr} {cells : List (Str × Addr)} {q : Str} {ls : Nat → DS.LamI} {n : Nat} : (adr.wC cells q ls).at_ n = adr.at_ n := rfl
section
variable {K : PySem.W.Frag} {adr : Adr} {H : Hp} {cells : List (Str × Addr)} {q : Str} {ls : Nat → DS.LamI}
mutual
theorem rep_noC (no : ¬ adr.con) : ∀ (d : D) (v : V) (F : List Addr), Rep K adr H d v F → noC d = true
  | .non, _, _, _ => rfl
  | .bl _, _, _, _ => rfl
  | .int _, _, _, _ => rfl
  | .str _, _, _, _ => rfl
  | .ty _, _, _, _ => rfl
  | .ref _, _, _, _ => rfl
  | .tup ds, _, _, ⟨_, _, _, _, h⟩ => repL_noC no ds _ _ h
  | .lst ds, _, _, ⟨_, _, _, _, _, h, _⟩ => repL_noC no ds _ _ h
  | .fls ds, _, _, ⟨_, _, _, _, h⟩ => repL_noC no ds _ _ h
  | .dk _ ds, _, _, ⟨_, _, _, _, _, _, h, _⟩ => repL_noC no ds _ _ h
  | .dt _ ds, _, _, ⟨_, _, _, _, _, _, h, _⟩ => repL_noC no ds _ _ h
  | .ins _ ds, _, _, ⟨_, _, _, _, _, _, _, h, _⟩ => repL_noC no ds _ _ h
  | .exn n ds, _, _, ⟨_, _, h⟩ => by
    show ((fx n).isEmpty || noCL ds) = true
    rcases h with e | ⟨_, _, _, r⟩
    · rw [e]; rfl
    · rw [repL_noC no ds _ _ r, Bool.or_true]
  | .clo _, _, _, h => (no h.1.2).elim
theorem repL_noC (no : ¬ adr.con) : ∀ (ds : List D) (vs : List V) (F : List Addr), RepL K adr H ds vs F → noCL ds = true
  | [], _, _, _ => rfl
  | d :: ds, _, _, ⟨_, _, _, _, _, h1, h2, _⟩ => by
    show (noC d && noCL ds) = true
    rw [rep_noC no d _ _ h1, repL_noC no ds _ _ h2]; rfl
end
mutual
theorem rep_wC : ∀ (d : D) (v : V) (F : List Addr), noC d = true → (Rep K (adr.wC cells q ls) H d v F ↔ Rep K adr H d v F)
  | .non, _, _, _ => Iff.rfl
  | .bl _, _, _, _ => Iff.rfl
  | .int _, _, _, _ => Iff.rfl
  | .str _, _, _, _ => Iff.rfl
  | .ty _, _, _, _ => Iff.rfl
  | .ref _, _, _, _ => Iff.rfl
  | .tup ds, _, _, k => by simp only [Rep, fun vs F => repL_wC ds vs F k]
  | .lst ds, _, _, k => by simp only [Rep, fun vs F => repL_wC ds vs F k]
  | .fls ds, _, _, k => by simp only [Rep, fun vs F => repL_wC ds vs F k]
  | .dk _ ds, _, _, k => by simp only [Rep, fun vs F => repL_wC ds vs F k]
  | .dt _ ds, _, _, k => by simp only [Rep, fun vs F => repL_wC ds vs F k]
  | .ins _ ds, _, _, k => by simp only [Rep, fun vs F => repL_wC ds vs F k, wC_at]
  | .exn n ds, _, _, k => by
    cases e : (fx n).isEmpty with
    | true =>
      have e' : fx n = [] := List.isEmpty_iff.mp e
      simp only [Rep, e', true_or]
      exact Iff.rfl
    | false =>
      have k' : ((fx n).isEmpty || noCL ds) = true := k
      rw [e, Bool.false_or] at k'
      simp only [Rep, fun vs F => repL_wC ds vs F k']
      exact Iff.rfl
  | .clo _, _, _, k => by cases k
theorem repL_wC : ∀ (ds : List D) (vs : List V) (F : List Addr), noCL ds = true → (RepL K (adr.wC cells q ls) H ds vs F ↔ RepL K adr H ds vs F)
  | [], _, _, _ => Iff.rfl
  | d :: ds, _, _, k => by
    obtain ⟨k1, k2⟩ := Bool.and_eq_true_iff.mp (show (noC d && noCL ds) = true from k)
    simp only [RepL, fun v F => rep_wC d v F k1, fun vs F => repL_wC ds vs F k2]
end
end
end DL
set_option Elab.async false
set_option linter.all false
set_option maxRecDepth 100000
set_option maxHeartbeats 4000000
/-! where a frame holds lambdas: a region of its text; their making, their calls -/
namespace DL
open PySem L2
open LamX (Tabs TabB ExtN GivesTo CodeO lamCx lamEnv)
/-- what is left in the slots behind a region: as ahead of it, or without lambdas -/
def regOk : Env → Env → Prop
  | [], [] => True
  | x :: ρ, y :: ρ' => (y = none ∨ y = x ∨ ∃ d, y = some d ∧ noC d = true) ∧ regOk ρ ρ'
  | _, _ => False
open Classical in
/-- a region: behind it the slots vs are forgotten, and no lambda is left -/
noncomputable def sReg (vs : List Nat) (b : SM) : SM := fun ρ => match b ρ with
  | .nx ρ' => if regOk ρ (killL ρ' vs) then .nx (killL ρ' vs) else .fail
  | .bk ρ' => if regOk ρ (killL ρ' vs) then .bk (killL ρ' vs) else .fail
  | .ct ρ' => if regOk ρ (killL ρ' vs) then .ct (killL ρ' vs) else .fail
  | .rt d ρ' => if noC d = true ∧ regOk ρ (killL ρ' vs) then .rt d (killL ρ' vs) else .fail
  | .exc x ρ' => if noCL x.ds = true ∧ regOk ρ (killL ρ' vs) then .exc x (killL ρ' vs) else .fail
  | .fail => .fail
section
variable {K : PySem.W.Frag} {adr : Adr} {T : List (Addr × Str)} {io : List Nat} {F G : List Addr} {H H' : Hp} {σ σ' : L2.St} {W : WX} {ρ ρ' : Env} {cells : List (Str × Addr)} {q : Str} {ls : Nat → DS.LamI}
theorem repS_toC (no : ¬ adr.con) : ∀ {ρ : Env} {σ : L2.St} {F : List Addr}, RepS K adr H ρ σ F → RepS K (adr.wC cells q ls) H ρ σ F
  | [], _, _, h => h
  | none :: ρ, _, _, ⟨s, σ', e, h⟩ => ⟨s, σ', e, repS_toC no h⟩
  | some d :: ρ, _, _, ⟨v, σ', F1, F2, e, r, h, e2⟩ => ⟨v, σ', F1, F2, e, (rep_wC d v F1 (rep_noC no d v F1 r)).mpr r, repS_toC no h, e2⟩
theorem repS_noC (no : ¬ adr.con) : ∀ {ρ : Env} {σ : L2.St} {F : List Addr}, RepS K adr H ρ σ F → ∀ d, some d ∈ ρ → noC d = true
  | [], _, _, h, d, hd => nomatch hd
  | none :: ρ, _, _, ⟨s, σ', e, h⟩, d, hd => repS_noC no h d (by simpa using hd)
  | some d0 :: ρ, _, _, ⟨v, σ', F1, F2, e, r, h, e2⟩, d, hd => by
    rcases List.mem_cons.mp hd with e | hd
    · cases e; exact rep_noC no _ v F1 r
    · exact repS_noC no h d hd
theorem repS_ofC : ∀ {ρ0 ρ : Env} {σ : L2.St} {F : List Addr}, (∀ d, some d ∈ ρ0 → noC d = true) → regOk ρ0 ρ → RepS K (adr.wC cells q ls) H ρ σ F → RepS K adr H ρ σ F
  | [], [], _, _, _, _, h => h
  | x :: ρ0, none :: ρ, _, _, n, k, ⟨s, σ', e, h⟩ => ⟨s, σ', e, repS_ofC (fun d hd => n d (List.mem_cons_of_mem _ hd)) k.2 h⟩
  | x :: ρ0, some d :: ρ, _, _, n, k, ⟨v, σ', F1, F2, e, r, h, e2⟩ => by
    have hd : noC d = true := by
      rcases k.1 with z | z | ⟨d', z, hz⟩
      · cases z
      · exact n d (by rw [← z]; exact List.mem_cons_self)
      · cases z; exact hz
    exact ⟨v, σ', F1, F2, e, (rep_wC d v F1 hd).mp r, repS_ofC (fun d hd => n d (List.mem_cons_of_mem _ hd)) k.2 h, e2⟩
  | [], _ :: _, _, _, _, k, _ => k.elim
  | _ :: _, [], _, _, _, k, _ => k.elim
theorem repX_ofC {x : Xc} {cls : Value} {dx : Option Addr} (h : noCL x.ds = true) (r : RepX K (adr.wC cells q ls) H x cls dx) : RepX K adr H x cls dx := by
  obtain ⟨e, r⟩ := r
  refine ⟨e, r.imp id ?_⟩
  rintro ⟨e1, a, vs, e2, e3, e4, e5⟩
  exact ⟨e1, a, vs, e2, e3, e4, (repL_wC x.ds vs [] h).mp e5⟩
theorem tds_reg {vs : List Nat} {b : SM} {D : Ends} (no : ¬ adr.con) (h : tDS K adr T io W (sReg vs b) D σ H) : tDS K (adr.wC cells q ls) T io W b D σ H := by
  obtain ⟨ρ, F, S, h⟩ := h
  have nc := repS_noC no S.rep
  refine ⟨ρ, F, ⟨repS_toC no S.rep, S.nd, S.tab⟩, ?_⟩
  unfold sReg at h
  have back : ∀ {ρ' : Env} {F' : List Addr} {σ' : L2.St} {H' : Hp}, regOk ρ (killL ρ' vs) → RepS K (adr.wC cells q ls) H' ρ' σ' F' → ∃ F2, RepS K adr H' (killL ρ' vs) σ' F2 ∧ F2.Sublist F' := fun k r => by
    obtain ⟨F2, r2, sub⟩ := r.killL (l := vs)
    exact ⟨F2, repS_ofC nc k r2, sub⟩
  cases e : b ρ with
  | fail => rw [e] at h; exact h.elim
  | nx ρ' =>
    rw [e] at h
    simp only at h
    by_cases k : regOk ρ (killL ρ' vs)
    · rw [if_pos k] at h
      intro σ' H' ⟨F', s, st, fx⟩
      obtain ⟨F2, r2, sub⟩ := back k s.rep
      exact h σ' H' ⟨F2, ⟨r2, s.nd.sublist sub, s.tab⟩, st.sub fun c hc => sub.subset hc, fx⟩
    · rw [if_neg k] at h; exact h.elim
  | bk ρ' =>
    rw [e] at h
    simp only at h
    by_cases k : regOk ρ (killL ρ' vs)
    · rw [if_pos k] at h
      intro σ' H' ⟨F', s, st, fx⟩
      obtain ⟨F2, r2, sub⟩ := back k s.rep
      exact h σ' H' ⟨F2, ⟨r2, s.nd.sublist sub, s.tab⟩, st.sub fun c hc => sub.subset hc, fx⟩
    · rw [if_neg k] at h; exact h.elim
  | ct ρ' =>
    rw [e] at h
    simp only at h
    by_cases k : regOk ρ (killL ρ' vs)
    · rw [if_pos k] at h
      intro σ' H' ⟨F', s, st, fx⟩
      obtain ⟨F2, r2, sub⟩ := back k s.rep
      exact h σ' H' ⟨F2, ⟨r2, s.nd.sublist sub, s.tab⟩, st.sub fun c hc => sub.subset hc, fx⟩
    · rw [if_neg k] at h; exact h.elim
  | rt d ρ' =>
    rw [e] at h
    simp only at h
    by_cases k : noC d = true ∧ regOk ρ (killL ρ' vs)
    · rw [if_pos k] at h
      intro v σ' H' ⟨F', Fd, s, rd, nd, st, fx⟩
      obtain ⟨F2, r2, sub⟩ := back k.2 s
      exact h v σ' H' ⟨F2, Fd, r2, (rep_wC d v Fd k.1).mp rd, nd.sublist (sub.append (List.Sublist.refl _)), st.sub fun c hc => (sub.append (List.Sublist.refl Fd)).subset hc, fx⟩
    · rw [if_neg k] at h; exact h.elim
  | exc x ρ' =>
    rw [e] at h
    simp only at h
    by_cases k : noCL x.ds = true ∧ regOk ρ (killL ρ' vs)
    · rw [if_pos k] at h
      intro cls dx σ' H' ⟨F', s, rx, st, fx⟩
      obtain ⟨F2, r2, sub⟩ := back k.2 s.rep
      exact h cls dx σ' H' ⟨F2, ⟨r2, s.nd.sublist sub, s.tab⟩, repX_ofC k.1 rx, st.sub fun c hc => sub.subset hc, fx⟩
    · rw [if_neg k] at h; exact h.elim
end
/-! ### their calls -/
def kKind (hd : Nat → List D → Option D) (bs : Nat → Option EM) (vs : List Nat) : D → Env → Res D := fun dx ρ => match dx with
  | .clo n => match bs n with
    | some b => if freeL (killL ρ vs) vs then (match eKind hd b (killL ρ vs) with
      | .ok d ρ' => if freeL ρ' vs then .ok d ρ' else .fail
      | _ => .fail) else .fail
    | none => .fail
  | _ => .fail
/-- the def that tells the kind is called with what f is, one of the lambdas bs -/
def eKindC (hd : Nat → List D → Option D) (bs : Nat → Option EM) (vs : List Nat) (f : EM) : EM := e1 f (kKind hd bs vs)
section
variable {X : Cx} {adr : Adr} {T : List (Addr × Str)} {io : List Nat} {W : WX} {rest : List Stmt} {q : Str} {ls : Nat → DS.LamI} {pos p : Pos} {f : EM} {hd : Nat → List D → Option D} {bs : Nat → Option EM} {x : Str} {k j : Nat}
theorem pss_reg {cells : List (Str × Addr)} {vs : List Nat} {b : SM} (no : ¬ adr.con) (h : PSs X rest (tDS X.K (adr.wC cells q ls) T io W b)) : PSs X rest (tDS X.K adr T io W (sReg vs b)) := PSs.imp h fun _ _ _ z => tds_reg no z
/-- a lambda's making -/
theorem pd_lamv0 (n : Nat) {c P : Addr} (tb : TabB X.base X.mg c P) (hcode : X.env.code = .ref c) (inT : (P, X.env.qual ++ "<lambda>") ∈ T) (one : ∀ p ∈ T, p.1 = P → p.2 = X.env.qual ++ "<lambda>") (nodef : defaultsOf (ls n).params X.env = ([], [])) (hp : (ls n).par = none)
    (L : DS.LamS2 X.env.scope (ls n).scope (ls n).ps) : PE X (.Lambda (ls n).params (ls n).body (ls n).scope pos) (tD X.K (adr.wC X.env.cells (X.env.qual ++ "<lambda>") ls) T W (eC (.clo n))) := by
  refine ⟨fun pins s σ H Q I given => ?_⟩
  obtain ⟨ρ, F, S, given⟩ := given
  refine DS.lam_val0 I tb hcode inT one S.tab nodef hp (L.capt I.ok) fun g c' J s' I1 eN dm T1 hf hc => ?_
  have e0 : Ext [] H J := ⟨fun b o hb _ nt => eN b o hb nt, dm⟩
  refine ⟨.ref g, J, I1, rfl, given _ _ ⟨F, [], S.rep.ext e0 (fun _ _ z => nomatch z), ⟨⟨rfl, True.intro⟩, g, c', .none, rfl, hf, hc, .inl rfl⟩, by simpa using S.nd, ?_⟩⟩
  exact ⟨e0.mono (fun _ z => nomatch z), fun b hb => .inl (by simpa using hb), T1⟩
theorem pd_lamv1 (n : Nat) {z : Str} {pc : Pos} {jc : Nat} {c P : Addr} (tb : TabB X.base X.mg c P) (hcode : X.env.code = .ref c) (inT : (P, X.env.qual ++ "<lambda>") ∈ T) (one : ∀ p ∈ T, p.1 = P → p.2 = X.env.qual ++ "<lambda>") (hpd : (ls n).params.defaults = [.Constant (.int 0) jc pc]) (hk0 : (ls n).params.kw_defaults = []) (hp : (ls n).par = some z)
    (L : DS.LamS2 X.env.scope (ls n).scope (ls n).ps) : PE X (.Lambda (ls n).params (ls n).body (ls n).scope pos) (tD X.K (adr.wC X.env.cells (X.env.qual ++ "<lambda>") ls) T W (eC (.clo n))) := by
  refine ⟨fun pins s σ H Q I given => ?_⟩
  obtain ⟨ρ, F, S, given⟩ := given
  refine DS.lam_val1 I tb hcode inT one S.tab hpd hk0 hp (L.capt I.ok) fun g c' t J s' I1 eN dm T1 hf ht hc => ?_
  have e0 : Ext [] H J := ⟨fun b o hb _ nt => eN b o hb nt, dm⟩
  refine ⟨.ref g, J, I1, rfl, given _ _ ⟨F, [], S.rep.ext e0 (fun _ _ z => nomatch z), ⟨⟨rfl, True.intro⟩, g, c', .ref t, rfl, hf, hc, .inr ⟨t, rfl, ht⟩⟩, by simpa using S.nd, ?_⟩⟩
  exact ⟨e0.mono (fun _ z => nomatch z), fun b hb => .inl (by simpa using hb), T1⟩
/-- what each of the lambdas' bodies does -/
def LamOk (X : Cx) (adr : Adr) (T : List (Addr × Str)) (ls : Nat → DS.LamI) (k : Nat) (n : Nat) (b : EM) : Prop :=
  DS.LamS2 X.env.scope (ls n).scope (ls n).ps ∧ (∀ x ∈ (ls n).ps, x ∉ X.N) ∧ DS.BindOk (ls n) ∧
  ∀ (A : Around) (outer : List PySem.Env) (s : Shared) (H : Hp) (E : XK) (f c' : Addr), Room k (A.deeper (lamEnv X (ls n).scope s.heap.objs.size f c')) → Takes (lamCx X A outer s H E (ls n).scope f c') (fun cls d _ H => E cls d H) →
    PE (lamCx X A outer s H E (ls n).scope f c') (ls n).body (tD X.K (adr.wC X.env.cells (X.env.qual ++ "<lambda>") ls) T (fun cls d _ H => E cls d H) b)
theorem tkind_at {K : PySem.W.Frag} {adr : Adr} {T : List (Addr × Str)} {b : EM} {σ : L2.St} {H : Hp} {Q : VK} (h : tD K adr T W0 (eKind hd b) σ H Q) : TTkind K adr T hd (fun E H' Q' => tD K adr T (fun cls d _ H => E cls d H) b σ H' Q') H Q := by
  obtain ⟨ρ, F, S, q⟩ := h
  refine ⟨ρ, F, S, ?_⟩
  unfold eKind at q
  cases eb : b ρ with
  | fail => rw [eb] at q; exact q.elim
  | ok d ρ' => rw [eb] at q; exact q
  | exc y ρ' =>
    rw [eb] at q
    simp only at q
    by_cases hc : y.cls ∈ xcls ∧ noXL y.ds = true
    · rw [if_pos hc] at q
      cases ez : hd y.cls y.ds with
      | none => rw [ez] at q; exact q.elim
      | some z =>
        rw [ez] at q
        intro cls dx H' ⟨F', rs, rx, nd, st'⟩
        refine ⟨y, rx, hc.1, hc.2, st'.tab, z, ez, fun v H'' r ex tb => ?_⟩
        refine q v H'' ⟨F', [], rs.ext ex (fun _ _ z => nomatch z), r, by simpa using nd, ?_⟩
        rw [List.append_nil]
        exact ⟨st'.ext.trans (ex.mono (fun _ z => nomatch z) (G := F')) (fun b hb => st'.frs b hb), st'.frs, tb⟩
    · rw [if_neg hc] at q; exact q.elim
/-- the call's reading, at the frame's own store -/
theorem tkindC {K : PySem.W.Frag} {adr : Adr} {T : List (Addr × Str)} {vs : List Nat} {σ0 σ : L2.St} {H : Hp} {W : WX} {Q : VK} (hw : wipe σ vs = wipe σ0 vs) (h : tD K adr T W (eKindC hd bs vs f) σ H Q) :
    tD K adr T W f σ H fun v H1 => ∃ (n : Nat) (b : EM) (g c : Addr) (dv : Value), bs n = some b ∧ v = .ref g ∧ H1 g = some (.ext (adr.clo n g c dv)) ∧ H1 c = some (CodeO c adr.cq) ∧ (dv = .none ∨ ∃ t, dv = .ref t ∧ H1 t = some (.tup [.int 0])) ∧ tD K adr T W0 (eKind hd b) σ0 H1 Q := by
  refine t1 h fun dx ρ1 F Fx x H1 S r n q => ?_
  cases dx with
  | clo m =>
    obtain ⟨⟨eF, _⟩, g, c, dv, ev, h1, h2, h3⟩ := r
    subst eF
    rw [List.append_nil] at q n
    unfold kKind at q
    simp only at q
    cases eb : bs m with
    | none => rw [eb] at q; exact q.elim
    | some b =>
      rw [eb] at q
      simp only at q
      refine ⟨m, b, g, c, dv, eb, ev, h1, h2, h3, ?_⟩
      by_cases hf : freeL (killL ρ1 vs) vs = true
      · rw [if_pos hf] at q
        obtain ⟨F2, r2, sub⟩ := S.rep.killL (l := vs)
        have r3 : RepS K adr H1 (killL ρ1 vs) σ0 F2 := by
          have := r2.to_wipe hf
          rw [hw] at this
          exact this.of_wipe hf
        refine ⟨killL ρ1 vs, F2, ⟨r3, S.nd.sublist sub, S.tab⟩, ?_⟩
        cases ek : eKind hd b (killL ρ1 vs) with
        | fail => rw [ek] at q; exact q.elim
        | exc _ _ => rw [ek] at q; exact q.elim
        | ok d ρ' =>
          rw [ek] at q
          simp only at q
          by_cases hf' : freeL ρ' vs = true
          · rw [if_pos hf'] at q
            intro v H' ⟨F', Fd, rs, rd, nd, st⟩
            have r4 : RepS K adr H' ρ' σ F' := by
              have := rs.to_wipe hf'
              rw [← hw] at this
              exact this.of_wipe hf'
            exact q v H' ⟨F', Fd, r4, rd, nd, st.mono fun b hb => sub.subset hb⟩
          · rw [if_neg hf'] at q; exact q.elim
      · rw [if_neg hf] at q; exact q.elim
  | _ => exact q.elim
/-- .. from Z, the frame itself or a comprehension of it -/
theorem kind_from {Z : Cx} {e : Expr} {σ0 : L2.St} {ex : List Addr} {vs : List Nat} (kd : KKd X.prog X.w X.K X.mg X.base (adr.wC X.env.cells (X.env.qual ++ "<lambda>") ls) T x hd) (hr : Room j X.A) (hk : k + 2 ≤ j)
    (hl : ∀ n b, bs n = some b → LamOk X adr T ls k n b) (zp : Z.prog = X.prog) (zw : Z.w = X.w) (zK : Z.K = X.K) (zm : Z.mg = X.mg) (zb : Z.base = X.base) (zA : Z.A = X.A) (zs : Z.stack = X.stack)
    (zg : Gl Z x) (hf : PE Z e (tD X.K (adr.wC X.env.cells (X.env.qual ++ "<lambda>") ls) T W f)) (hst : ∀ env, starEach [e] env = (false, eval e env) :: starEach [] env) (hex : ∀ y c, X.env.cells.lookup y = some c → c ∉ ex)
    (un : ∀ {pins : List (Addr × Obj)} {σ : L2.St} {H : Hp} {s : Shared}, Inv Z pins σ H s → wipe σ vs = wipe σ0 vs → ∃ (pins0 : List (Addr × Obj)) (H0 : Hp) (s0 : Shared), Inv X pins0 σ0 H0 s0 ∧ Un (frs X.stack) ex H0 H s0.heap s.heap) (hdb : (x == ("__debug__" : Str)) = false := by decide) :
    PE Z (.Call (.Name x p) [e] [] pos) (fun σ H Q => wipe σ vs = wipe σ0 vs ∧ tD X.K (adr.wC X.env.cells (X.env.qual ++ "<lambda>") ls) T W (eKindC hd bs vs f) σ H Q) := by
  obtain ⟨st, g, Ng, a, fd, hF, hB, hm, Sg, h0, va, ha, ha2, gives⟩ := kd.ex
  refine ⟨fun pins s σ H Q I ⟨hw, given⟩ => ?_⟩
  refine wpAny_Call_Name_kw (ld_glob I zg (by rw [zm]; exact hm) ?_ hdb)
  refine PySem.W.callWith_K (h₀ := Z.base) I.ok.mod.kin (by rw [zK]; exact hF.kp) ?_ (hst _) (by rfl)
  rw [hst]
  show wpAny _ _ (spliced ((false, eval e Z.env) :: backTo pos (starEach [] Z.env))) _ _ s
  refine Calls.spliced_cons (thn (hf.run pins s σ H _ I (tkindC hw given)) fun u s1 ⟨v, H1, I1, rv, n, b, f', c', dv, eb, ev, h1, h2, h3, h4⟩ => ?_)
  subst ev
  obtain rfl : u = Value.ref f' := rv
  refine Calls.spliced_nil ⟨I1.kIn, ?_⟩
  obtain ⟨L, hps, hBn, hbody⟩ := hl n b eb
  obtain ⟨pins0, H0, s0, I0, u0⟩ := un I1 hw
  exact DS.lam_handed (k := k) (l := ls n) (dv := dv) hF hB Sg h0 va (fun cdg => gives X _ cdg rfl rfl rfl rfl rfl) (hr.mono hk) L hps hBn (t := fun E => tD X.K (adr.wC X.env.cells (X.env.qual ++ "<lambda>") ls) T (fun cls d _ H => E cls d H) b)
    (fun A outer s H E f c' hr' => hbody A outer s H E f c' hr' (takes_of rfl rfl rfl rfl)) ha ha2 zp zw zK zm zb zA zs I0 I1 u0 hex h2 ⟨h1, h3⟩ ⟨⟨h1, h3⟩, tkind_at h4⟩
/-- in the frame itself -/
theorem pd_kindC {e : Expr} (kd : KKd X.prog X.w X.K X.mg X.base (adr.wC X.env.cells (X.env.qual ++ "<lambda>") ls) T x hd) (hr : Room j X.A) (hk : k + 2 ≤ j) (hl : ∀ n b, bs n = some b → LamOk X adr T ls k n b)
    (hf : PE X e (tD X.K (adr.wC X.env.cells (X.env.qual ++ "<lambda>") ls) T W f)) (hg : Gl X x := by rfl) (hst : ∀ env, starEach [e] env = (false, eval e env) :: starEach [] env := by intro _; rfl) (hdb : (x == ("__debug__" : Str)) = false := by decide) : PE X (.Call (.Name x p) [e] [] pos) (tD X.K (adr.wC X.env.cells (X.env.qual ++ "<lambda>") ls) T W (eKindC hd bs [] f)) := by
  refine ⟨fun pins s σ H Q I given => ?_⟩
  exact (kind_from (Z := X) (ex := []) (vs := []) (σ0 := σ) kd hr hk hl rfl rfl rfl rfl rfl rfl rfl hg hf hst (fun _ _ _ z => nomatch z) (fun {pins' σ' H' s'} I' (e' : σ' = σ) => ⟨pins', H', s', e' ▸ I', Un.refl⟩) hdb).run pins s σ H Q I ⟨rfl, given⟩
/-- in a comprehension of it -/
theorem pd_lcK {lpos : Pos} {tg iter elt : Expr} {scope : Scope} {im : IM} {t : TM} {ifs : List Expr} {c : EM} (n : Nat) (own : List (Str × Nat)) (hn : X.N.length = n) (hc : X.calm = true) (hN : X.N.Nodup) (kd : KKd X.prog X.w X.K X.mg X.base (adr.wC X.env.cells (X.env.qual ++ "<lambda>") ls) T x hd) (hr : Room j X.A) (hk : k + 2 ≤ j)
    (hl : ∀ n b, bs n = some b → LamOk X adr T ls k n b) (hi : PI X tg iter (tDI X.K (adr.wC X.env.cells (X.env.qual ++ "<lambda>") ls) T W im)) (ok : BlkOk X.N X.env.scope scope own)
    (hg : ∀ (s : Shared) (H : Hp) (C : Addr) (cl : List (Str × Addr)) (fp : List Addr), PG (X.blk s H scope (compEnvC scope cl C X.env) fp) tg (gD X.K (adr.wC X.env.cells (X.env.qual ++ "<lambda>") ls) T (others n (own.map (·.2))) t))
    (ht : ∀ (s : Shared) (H : Hp) (C : Addr) (cl : List (Str × Addr)) (fp : List Addr), PTs (X.blk s H scope (compEnvC scope cl C X.env) fp) ifs (tB (tD X.K (adr.wC X.env.cells (X.env.qual ++ "<lambda>") ls) T W0 c)))
    (he : ∀ (s : Shared) (H : Hp) (C : Addr) (cl : List (Str × Addr)) (fp : List Addr), PE (X.blk s H scope (compEnvC scope cl C X.env) fp) elt (tD X.K (adr.wC X.env.cells (X.env.qual ++ "<lambda>") ls) T W0 f))
    (hgl : ∀ (s : Shared) (H : Hp) (C : Addr) (cl : List (Str × Addr)) (fp : List Addr), Gl (X.blk s H scope (compEnvC scope cl C X.env) fp) x) (hs : ∀ x, foldedSetIterable iter X.env x = pure x := by intro _; rfl) (hst : ∀ env, starEach [elt] env = (false, eval elt env) :: starEach [] env := by intro _; rfl) (hdb : (x == ("__debug__" : Str)) = false := by decide) :
    PE X (.ListComp (.Call (.Name x p) [elt] [] pos) [⟨tg, iter, ifs, 0⟩] scope lpos) (tD X.K (adr.wC X.env.cells (X.env.qual ++ "<lambda>") ls) T W (eLc im t c (eKindC hd bs (own.map (·.2)) f) (own.map (·.2)))) := by
  have h := (DS.pe_lcI (pos := lpos) (elt := .Call (.Name x p) [elt] [] pos) (te := fun σ0 σ H Q => wipe σ (own.map (·.2)) = wipe σ0 (own.map (·.2)) ∧ tD X.K (adr.wC X.env.cells (X.env.qual ++ "<lambda>") ls) T W0 (eKindC hd bs (own.map (·.2)) f) σ H Q) hc hN hi ok hg ht (fun pins σ s1 H1 C cl fp I1 hfp => kind_from (Z := X.blk s1 H1 scope (compEnvC scope cl C X.env) fp) (ex := fp) kd hr hk hl rfl rfl rfl rfl rfl rfl rfl (hgl s1 H1 C cl fp) (he s1 H1 C cl fp) hst
    (fun y c hy hb => (hfp c hb).2.2.2.2.1 y c hy rfl) (fun {pins' σ' H' s'} I' _ => ⟨pins, H1, s1, I1, I'.base⟩) hdb) hs)
  exact ⟨fun pins s σ H Q I q => h.run pins s σ H Q I (td_lcI (fun _ _ _ => I.len.trans hn) q)⟩
end
end DL
set_option Elab.async false
set_option linter.all false
set_option maxRecDepth 100000
set_option maxHeartbeats 4000000
/-! where a lambda stands in a text; what a region does -/
namespace DL
open PySem L2
def bodyOf : Stmt → List Stmt
  | .For _ _ b _ _ => b
  | .If _ b _ _ => b
  | .While _ b _ _ => b
  | .Try b _ _ _ _ => b
  | _ => []
def elseOf : Stmt → List Stmt
  | .If _ _ b _ => b
  | _ => []
def stAt (l : List Stmt) (i : Nat) : Stmt := l.getD i (.Pass ⟨0, 0, 0, 0⟩)
def valOf : Stmt → Expr
  | .Assign _ v _ => v
  | .Return (some v) _ => v
  | .Expr v _ => v
  | _ => .Name "" ⟨0, 0, 0, 0⟩
def subOf (e : Expr) (i : Nat) : Expr := match e with
  | .List es _ => es.getD i e
  | .Tuple es _ _ => es.getD i e
  | .Call _ es _ _ => es.getD i e
  | .BinOp a _ b _ => if i = 0 then a else b
  | _ => e
def lamOf (z : Option Str) : Expr → DS.LamI
  | .Lambda a b s _ => ⟨a, b, s, z⟩
  | e => ⟨{ posonlyargs := [], args := [], vararg := none, kwonlyargs := [], kw_defaults := [], kwarg := none, defaults := [] }, e, { kind := .function, names := [], isGenerator := false, isCoroutine := false }, z⟩
theorem XFacts.wC {K : PySem.W.Frag} {adr : Adr} {cells : List (Str × Addr)} {q : Str} {ls : Nat → DS.LamI} (h : XFacts K adr) : XFacts K (adr.wC cells q ls) := ⟨h.ga, h.gg, h.sb, h.hd, h.ca, h.sp, h.tk, h.mr, h.is, h.ve, h.em, h.no⟩
theorem CInit.wC {K : PySem.W.Frag} {adr : Adr} {cells : List (Str × Addr)} {q : Str} {ls : Nat → DS.LamI} {n : Nat} (h : CInit K (adr n)) : CInit K ((adr.wC cells q ls) n) := h
@[simp] theorem regOk_nil : regOk [] [] = True := rfl
@[simp] theorem regOk_cons (x y : Option D) (ρ ρ' : Env) : regOk (x :: ρ) (y :: ρ') = ((y = none ∨ y = x ∨ ∃ d, y = some d ∧ noC d = true) ∧ regOk ρ ρ') := rfl
theorem reg_nx {vs : List Nat} {b : SM} {ρ ρ' : Env} (h : b ρ = .nx ρ') (k : regOk ρ (killL ρ' vs)) : sReg vs b ρ = .nx (killL ρ' vs) := by
  unfold sReg
  rw [h]
  exact if_pos k
theorem reg_rt {vs : List Nat} {b : SM} {d : D} {ρ ρ' : Env} (h : b ρ = .rt d ρ') (hd : noC d = true) (k : regOk ρ (killL ρ' vs)) : sReg vs b ρ = .rt d (killL ρ' vs) := by
  unfold sReg
  rw [h]
  exact if_pos ⟨hd, k⟩
theorem ev_kindC (hd : Nat → List D → Option D) (bs : Nat → Option EM) (vs : List Nat) (f : EM) (ρ : Env) : eKindC hd bs vs f ρ = (f ρ).bind (kKind hd bs vs) := rfl
theorem kKind_eq {hd : Nat → List D → Option D} {bs : Nat → Option EM} {vs : List Nat} {n : Nat} {ρ ρ' : Env} {b : EM} {d : D} (h : bs n = some b) (hf : freeL (killL ρ vs) vs = true) (hb : eKind hd b (killL ρ vs) = .ok d ρ') (hf' : freeL ρ' vs = true) : kKind hd bs vs (.clo n) ρ = .ok d ρ' := by
  unfold kKind
  simp only [h, hf, hb, hf', if_true]
end DL
set_option Elab.async false
set_option linter.all false
set_option maxRecDepth 100000
set_option maxHeartbeats 8000000
namespace LC
open PySem L2 DL
open LamX (Tabs TabB)
def b__law_start : SM := (sSeq (sSet 1 (eC (.int 1))) (sSeq (sFor (iE (eV 0) itemsL) (tgN 2) (sSet 1 (eO2 (d2 dMod) (eO2 (d2 dAdd) (eO2 (d2 dAdd) (eO2 (d2 dMul) (eV 1) (eC (.int 48271))) (eV 2)) (eC (.int 7))) (eC (.int 2147483647))))) (sRet (eLst (aCons (eV 0) (aCons (eC (.int 0)) (aCons (eV 1) (aCons (eC (.int 0)) aNil))))))))
def G__law_start : List D → FR := runFn 3 [false] b__law_start
def b__law_drawn : SM := (sSeq (sIf (eO2 (d2 dGt) (eIxS 0 (eC (.int 3))) (eC (.int 0))) (sSeq (sSet 2 (eO2 (d2 dMod) (eIxS 0 (eC (.int 3))) (eV 1))) (sSeq (sIx 0 (eC (.int 3)) (eO2 (d2 dFdiv) (eIxS 0 (eC (.int 3))) (eV 1))) (sRet (eV 2)))) sNx) (sSeq (sIx 0 (eC (.int 1)) (eO2 (d2 dAdd) (eIxS 0 (eC (.int 1))) (eC (.int 1)))) (sSeq (sIf (eO2 (d2 dLe) (eIxS 0 (eC (.int 1))) (eOA (d1 dLen) (aCons (eIxS 0 (eC (.int 0))) aNil))) (sSeq (sSet 3 (eO2 (d2 dIx) (eIxS 0 (eC (.int 0))) (eO2 (d2 dSub) (eIxS 0 (eC (.int 1))) (eC (.int 1))))) (sSeq (sIx 0 (eC (.int 3)) (eIf (eO2 (d2 dGe) (eV 3) (eO2 (d2 dPow) (eC (.int 10)) (eC (.int 18)))) (eO2 (d2 dFdiv) (eV 3) (eV 1)) (eC (.int 0)))) (sRet (eO2 (d2 dMod) (eV 3) (eV 1))))) sNx) (sSeq (sIx 0 (eC (.int 2)) (eO2 (d2 dMod) (eO2 (d2 dAdd) (eO2 (d2 dMul) (eIxS 0 (eC (.int 2))) (eC (.int 48271))) (eC (.int 11))) (eC (.int 2147483647)))) (sRet (eO2 (d2 dMod) (eO2 (d2 dFdiv) (eIxS 0 (eC (.int 2))) (eC (.int 7))) (eV 1)))))))
def G__law_drawn : List D → FR := runFn 4 [true, false] b__law_drawn
def b__law_land : SM := (sSeq (sPar 3 4 (aCons (eO2 (d2 dIx) (eLst (aCons (eC (.str "row")) (aCons (eC (.str "ring")) aNil))) (eCall [true, false] G__law_drawn (cIo 0 (cVal (eC (.int 2)) cNil)))) (aCons (eO2 (d2 dAdd) (eC (.int 2)) (eCall [true, false] G__law_drawn (cIo 0 (cVal (eO2 (d2 dSub) (eV 1) (eC (.int 1))) cNil)))) aNil))) (sSeq (sSet 5 (eOA (d1 dTuple) (aCons (eLc (iA (aCons (eV 4) aNil) rng1) (tgN 9) (eC (.bl true)) (eCall [true, false] G__law_drawn (cIo 0 (cVal (eO2 (d2 dAdd) (eV 2) (eC (.int 1))) cNil))) [9]) aNil))) (sSeq (sPar 6 7 (aCons (eO2 (d2 dIx) (eLst (aCons (eC (.int 3)) (aCons (eC (.int 99)) (aCons (eC (.int 99)) aNil)))) (eCall [true, false] G__law_drawn (cIo 0 (cVal (eC (.int 3)) cNil)))) (aCons (eO2 (d2 dIx) (eLst (aCons (eC (.int 4)) (aCons (eC (.int 12)) (aCons (eC (.int 60)) aNil)))) (eCall [true, false] G__law_drawn (cIo 0 (cVal (eC (.int 3)) cNil)))) aNil))) (sSeq (sSet 8 (eLst aNil)) (sSeq (sFor (iA (aCons (eO2 (d2 dAdd) (eV 4) (eOA (d1 dInt) (aCons (eO2 (d2 dEq) (eV 3) (eC (.str "row"))) aNil))) aNil) rng1) (tgN 9) (sDrop (eApp 8 (eIf (eO2 (d2 dEq) (eCall [true, false] G__law_drawn (cIo 0 (cVal (eV 7) cNil))) (eC (.int 0))) (eC .non) (eO2 (d2 dAdd) (eC (.int 1)) (eCall [true, false] G__law_drawn (cIo 0 (cVal (eV 6) cNil)))))))) (sRet (eTup (aCons (eV 3) (aCons (eV 5) (aCons (eOA (d1 dTuple) (aCons (eM 8) aNil)) aNil))))))))))
def G__law_land : List D → FR := runFn 10 [true, false, false] b__law_land
def b__law_goal : SM := (sSeq (sAsg (eV 1) (tgT 3 (tgCons (tgN 3) (tgCons (tgN 4) (tgCons (tgN 5) tgNil))))) (sSeq (sSet 6 (eLc (iE (eV 4) itemsT) (tgN 11) (eC (.bl true)) (eCall [true, false] G__law_drawn (cIo 0 (cVal (eO2 (d2 dAdd) (eV 2) (eC (.int 1))) cNil))) [11])) (sSeq (sAsg (eTup (aCons (eCall [true, false] G__law_drawn (cIo 0 (cVal (eO2 (d2 dAdd) (eV 2) (eC (.int 1))) cNil))) (aCons (eCall [true, false] G__law_drawn (cIo 0 (cVal (eC (.int 6)) cNil))) aNil))) (tgT 2 (tgCons (tgN 7) (tgCons (tgN 8) tgNil)))) (sSeq (sIf (eO2 (d2 dEq) (eV 8) (eC (.int 0))) (sSet 6 (eLc (iE (eV 4) itemsT) (tgN 11) (eC (.bl true)) (eOA (d2 dMin2) (aCons (eV 2) (aCons (eO2 (d2 dAdd) (eV 11) (eV 7)) aNil))) [11])) sNx) (sSeq (sIf (eO2 (d2 dEq) (eV 8) (eC (.int 1))) (sSet 6 (eLc (iE (eV 4) itemsT) (tgN 11) (eC (.bl true)) (eOA (d2 dMax2) (aCons (eC (.int 0)) (aCons (eO2 (d2 dSub) (eV 11) (eV 7)) aNil))) [11])) sNx) (sSeq (sFor (iA (aCons (eO2 (d2 dMul) (eOA (d1 dLen) (aCons (eV 4) aNil)) (eOA (d1 dInt) (aCons (eO2 (d2 dNe) (eV 8) (eC (.int 2))) aNil))) aNil) rng1) (tgN 9) (sSeq (sSet 10 (eIf (eOr (eO2 (d2 dGt) (eV 9) (eC (.int 0))) (eO2 (d2 dEq) (eV 3) (eC (.str "ring")))) (eO2 (d2 dSub) (eIxS 6 (eO2 (d2 dSub) (eV 9) (eC (.int 1)))) (eO2 (d2 dIx) (eV 4) (eO2 (d2 dSub) (eV 9) (eC (.int 1))))) (eC (.int 0)))) (sIf (eAnd (eO2 (d2 dIsN) (eO2 (d2 dIx) (eV 5) (eV 9)) (eC .non)) (eCh (d2 dLe) (d2 dLe) (eC (.int 0)) (eO2 (d2 dAdd) (eO2 (d2 dIx) (eV 4) (eV 9)) (eV 10)) (eV 2))) (sIx 6 (eV 9) (eO2 (d2 dAdd) (eO2 (d2 dIx) (eV 4) (eV 9)) (eV 10))) sNx))) (sRet (eOA (d1 dTuple) (aCons (eM 6) aNil)))))))))
def G__law_goal : List D → FR := runFn 12 [true, false, false] b__law_goal
def b_first_wrong (tb : Nat → Option (List D → FR)) : SM := (sSeq (sIf (eNot (eOA (d2 dIsi) (aCons (eV 0) (aCons (eC (.ty "tuple")) aNil)))) (sRet (eC (.int 0))) sNx) (sSeq (sFor (iA (aCons (eV 0) aNil) kEnumT) (tgT 2 (tgCons (tgN 4) (tgCons (tgN 5) tgNil))) (sIf (eOr (eO2 (d2 dEq) (eV 4) (eV 2)) (eNot (eCallV 3 [false] tb (cVal (eV 5) cNil)))) (sRet (eV 4)) sNx)) (sRet (eIf (eO2 (d2 dLt) (eOA (d1 dLen) (aCons (eV 0) aNil)) (eV 1)) (eOA (d1 dLen) (aCons (eV 0) aNil)) (eC .non)))))
def G_first_wrong (tb : Nat → Option (List D → FR)) : List D → FR := runFn 6 [false, false, false, false] (b_first_wrong tb)
def b_is_number : SM := (sRet (eAnd (eOA (d2 dIsi) (aCons (eV 0) (aCons (eC (.ty "int")) aNil))) (eAnd (eNot (eOA (d2 dIsi) (aCons (eV 0) (aCons (eC (.ty "bool")) aNil)))) (eCh (d2 dLe) (d2 dLe) (eV 1) (eV 0) (eV 2)))))
def G_is_number : List D → FR := runFn 3 [false, false, false] b_is_number
def b_is_height : SM := (sRet (eCall [false, false, false] G_is_number (cVal (eV 0) (cVal (eC (.int 0)) (cVal (eC (.int 999)) cNil)))))
def G_is_height : List D → FR := runFn 1 [false] b_is_height
def b_borders_of : SM := (sRet (eO2 (d2 dAdd) (eV 1) (eOA (d1 dInt) (aCons (eO2 (d2 dEq) (eV 0) (eC (.str "row"))) aNil))))
def G_borders_of : List D → FR := runFn 2 [false, false] b_borders_of
def b_is_price : SM := (sRet (eOr (eO2 (d2 dIsN) (eV 0) (eC .non)) (eCall [false, false, false] G_is_number (cVal (eV 0) (cVal (eC (.int 1)) (cVal (eC (.int 99)) cNil))))))
def G_is_price : List D → FR := runFn 1 [false] b_is_price
def tb_is_height : Nat → Option (List D → FR)
  | 43 => some G_is_height
  | _ => none
def tb_is_price : Nat → Option (List D → FR)
  | 44 => some G_is_price
  | _ => none
def b_need_land : SM := (sSeq (sIf (eOr (eNot (eOA (d2 dIsi) (aCons (eV 0) (aCons (eC (.ty "tuple")) aNil)))) (eO2 (d2 dNe) (eOA (d1 dLen) (aCons (eV 0) aNil)) (eC (.int 3)))) (sRaise 11 (aCons (eO1 (d1 dNeg) (eC (.int 1))) (aCons (eC (.int 0)) aNil))) sNx) (sSeq (sAsg (eV 0) (tgT 3 (tgCons (tgN 1) (tgCons (tgN 2) (tgCons (tgN 3) tgNil))))) (sSeq (sIf (eOr (eNot (eOA (d2 dIsi) (aCons (eV 1) (aCons (eC (.ty "str")) aNil)))) (eO2 (d2 dNotIn) (eV 1) (eTup (aCons (eC (.str "row")) (aCons (eC (.str "ring")) aNil))))) (sRaise 11 (aCons (eC (.int 0)) (aCons (eC (.int 0)) aNil))) sNx) (sSeq (sSet 4 (eCall [false, false, false, false] (G_first_wrong tb_is_height) (cVal (eV 2) (cVal (eC (.int 2)) (cVal (eC (.int 12)) (cVal (eC (.ref 43)) cNil)))))) (sSeq (sIf (eO2 (d2 dNotN) (eV 4) (eC .non)) (sRaise 11 (aCons (eC (.int 1)) (aCons (eV 4) aNil))) sNx) (sSeq (sSet 5 (eCall [false, false] G_borders_of (cVal (eV 1) (cVal (eOA (d1 dLen) (aCons (eV 2) aNil)) cNil)))) (sSeq (sSet 4 (eCall [false, false, false, false] (G_first_wrong tb_is_price) (cVal (eV 3) (cVal (eV 5) (cVal (eV 5) (cVal (eC (.ref 44)) cNil)))))) (sIf (eO2 (d2 dNotN) (eV 4) (eC .non)) (sRaise 11 (aCons (eC (.int 2)) (aCons (eV 4) aNil))) sNx))))))))
def G_need_land : List D → FR := runFn 6 [false] b_need_land
def b_need_goal : SM := (sSeq (sSet 2 (eOA (d1 dLen) (aCons (eO2 (d2 dIx) (eV 0) (eC (.int 1))) aNil))) (sSeq (sSet 3 (eCall [false, false, false, false] (G_first_wrong tb_is_height) (cVal (eV 1) (cVal (eV 2) (cVal (eV 2) (cVal (eC (.ref 43)) cNil)))))) (sIf (eO2 (d2 dNotN) (eV 3) (eC .non)) (sRaise 12 (aCons (eV 3) aNil)) sNx)))
def G_need_goal : List D → FR := runFn 4 [false, false] b_need_goal
def b_differences : SM := (sRet (eLc (iA (aCons (eV 0) (aCons (eV 1) aNil)) kZip) (tgT 2 (tgCons (tgN 2) (tgCons (tgN 3) tgNil))) (eC (.bl true)) (eO2 (d2 dSub) (eV 3) (eV 2)) [2, 3]))
def G_differences : List D → FR := runFn 4 [false, false] b_differences
def b_rises_of : SM := (sSeq (sSet 2 (eIf (eO2 (d2 dEq) (eV 0) (eC (.str "ring"))) (eO2 (d2 dIx) (eV 1) (eO1 (d1 dNeg) (eC (.int 1)))) (eC (.int 0)))) (sSeq (sSet 3 (eLst aNil)) (sSeq (sFor (iE (eV 1) itemsL) (tgN 4) (sSeq (sDrop (eApp 3 (eO2 (d2 dSub) (eV 4) (eV 2)))) (sSet 2 (eV 4)))) (sRet (eIf (eO2 (d2 dEq) (eV 0) (eC (.str "ring"))) (eM 3) (eO2 (d2 dAdd) (eM 3) (eLst (aCons (eO2 (d2 dSub) (eC (.int 0)) (eV 2)) aNil))))))))
def G_rises_of : List D → FR := runFn 5 [false, false] b_rises_of
def b_Task_greatest : SM := (sRet (eOA (d1 dMax) (aCons (eLc (iE (eFld 0 0 1) itemsL) (tgN 1) (eC (.bl true)) (eOA (d1 dAbs) (aCons (eV 1) aNil)) [1]) aNil)))
def G_Task_greatest : List D → FR := runFn 2 [true] b_Task_greatest
def b_Task___init__ : SM := (sSeq (sFld 0 0 0 (eV 1)) (sSeq (sFld 0 0 1 (eFrz (eCall [false, false] G_differences (cVal (eO2 (d2 dIx) (eV 1) (eC (.int 1))) (cVal (eV 2) cNil))))) (sSeq (sFld 0 0 2 (eFrz (eCall [false, false] G_rises_of (cVal (eO2 (d2 dIx) (eV 1) (eC (.int 0))) (cVal (eFld 0 0 1) cNil))))) (sSeq (sFld 0 0 3 (eOA (d1 dSum) (aCons (eLc (iE (eFld 0 0 2) itemsL) (tgN 3) (eO2 (d2 dGt) (eV 3) (eC (.int 0))) (eV 3) [3]) aNil))) (sFld 0 0 4 (eIf (eO2 (d2 dEq) (eO2 (d2 dIx) (eV 1) (eC (.int 0))) (eC (.str "ring"))) (eOA (d2 dMax2) (aCons (eC (.int 0)) (aCons (eO2 (d2 dSub) (eMethV 0 0 [true] G_Task_greatest cNil) (eFld 0 0 3)) aNil))) (eC (.int 0))))))))
def G_Task___init__ : List D → FR := runFn 4 [true, false, false] b_Task___init__
def b_task_of : SM := (sSeq (sDrop (eCall [false] G_need_land (cVal (eV 0) cNil))) (sSeq (sDrop (eCall [false, false] G_need_goal (cVal (eV 0) (cVal (eV 1) cNil)))) (sRet (eMake 0 [false, false] G_Task___init__ (cVal (eV 0) (cVal (eV 1) cNil))))))
def G_task_of : List D → FR := runFn 2 [false, false] b_task_of
def b_Task_fences : SM := (sRet (eLc (iA (aCons (eO2 (d2 dIx) (eFld 0 0 0) (eC (.int 2))) aNil) kEnumT) (tgT 2 (tgCons (tgN 1) (tgCons (tgN 2) tgNil))) (eO2 (d2 dNotN) (eV 2) (eC .non)) (eV 1) [1, 2]))
def G_Task_fences : List D → FR := runFn 3 [true] b_Task_fences
def b_Task_barred : SM := (sSeq (sFor (iA (aCons (eFld 0 0 2) aNil) kEnumL) (tgT 2 (tgCons (tgN 1) (tgCons (tgN 2) tgNil))) (sIf (eAnd (eO2 (d2 dNe) (eV 2) (eC (.int 0))) (eO2 (d2 dIsN) (eO2 (d2 dIx) (eO2 (d2 dIx) (eFld 0 0 0) (eC (.int 2))) (eV 1)) (eC .non))) (sRet (eV 1)) sNx)) (sRet (eIf (eAnd (eO2 (d2 dEq) (eMethV 0 0 [true] G_Task_fences cNil) (eLst aNil)) (eO2 (d2 dGt) (eMethV 0 0 [true] G_Task_greatest cNil) (eC (.int 0)))) (eC (.int 0)) (eC .non))))
def G_Task_barred : List D → FR := runFn 3 [true] b_Task_barred
def b_Task_cheapest : SM := (sRet (eMinKey (eMethV 0 0 [true] G_Task_fences cNil) (eO2 (d2 dIx) (eO2 (d2 dIx) (eFld 0 0 0) (eC (.int 2))) (eV 1))))
def G_Task_cheapest : List D → FR := runFn 1 [true] b_Task_cheapest
def b_Task_whole : SM := (sSeq (sIf (eO2 (d2 dEq) (eFld 0 0 4) (eC (.int 0))) (sRet (eLst aNil)) sNx) (sSeq (sSet 1 (eIf (eO2 (d2 dEq) (eOA (d1 dMax) (aCons (eFld 0 0 1) aNil)) (eMethV 0 0 [true] G_Task_greatest cNil)) (eC (.str "raise")) (eC (.str "lower")))) (sRet (eO2 (d2 dMul) (eLst (aCons (eTup (aCons (eV 1) (aCons (eMethV 0 0 [true] G_Task_cheapest cNil) (aCons (eMethV 0 0 [true] G_Task_cheapest cNil) aNil)))) aNil)) (eFld 0 0 4)))))
def G_Task_whole : List D → FR := runFn 2 [true] b_Task_whole
def b_Task_matched : SM := (sSeq (sSet 1 (eLc2 (iA (aCons (eFld 0 0 2) aNil) kEnumL) (tgT 2 (tgCons (tgN 13) (tgCons (tgN 14) tgNil))) (iA (aCons (eV 14) aNil) rng1) (tgN 15) (eV 13) [13, 14, 15] [15])) (sFrz 1 (sSeq (sSet 2 (eLc2 (iA (aCons (eFld 0 0 2) aNil) kEnumL) (tgT 2 (tgCons (tgN 13) (tgCons (tgN 14) tgNil))) (iA (aCons (eO2 (d2 dSub) (eC (.int 0)) (eV 14)) aNil) rng1) (tgN 15) (eV 13) [13, 14, 15] [15])) (sFrz 2 (sSeq (sSet 3 (eOA (d1 dLen) (aCons (eFld 0 0 1) aNil))) (sSeq (sSet 4 (eIf (eO2 (d2 dEq) (eOA (d1 dMax) (aCons (eFld 0 0 1) aNil)) (eMethV 0 0 [true] G_Task_greatest cNil)) (eC (.int 1)) (eO1 (d1 dNeg) (eC (.int 1))))) (sSeq (sSet 5 (eO2 (d2 dSub) (eOA (d1 dSum) (aCons (eFld 0 0 1) aNil)) (eO2 (d2 dMul) (eO2 (d2 dMul) (eV 4) (eV 3)) (eFld 0 0 4)))) (sSeq (sSet 6 (eIf (eO2 (d2 dEq) (eO2 (d2 dIx) (eFld 0 0 0) (eC (.int 0))) (eC (.str "ring"))) (eO2 (d2 dFdiv) (eO2 (d2 dAdd) (eO2 (d2 dSub) (eV 5) (eOA (d1 dSum) (aCons (eV 2) aNil))) (eOA (d1 dSum) (aCons (eV 1) aNil))) (eV 3)) (eC (.int 0)))) (sSeq (sSet 7 (eLst aNil)) (sSeq (sFor (iA (aCons (eV 1) aNil) kEnumL) (tgT 2 (tgCons (tgN 8) (tgCons (tgN 9) tgNil))) (sSeq (sAsg (eOA (d2 dDivmod) (aCons (eO2 (d2 dAdd) (eV 8) (eV 6)) (aCons (eOA (d1 dLen) (aCons (eV 2) aNil)) aNil))) (tgT 2 (tgCons (tgN 10) (tgCons (tgN 11) tgNil)))) (sSeq (sSet 12 (eO2 (d2 dIx) (eV 2) (eV 11))) (sIf (eO2 (d2 dGt) (eO2 (d2 dAdd) (eV 12) (eO2 (d2 dMul) (eV 3) (eV 10))) (eV 9)) (sDrop (eApp 7 (eTup (aCons (eC (.str "raise")) (aCons (eV 9) (aCons (eV 12) aNil)))))) (sDrop (eApp 7 (eTup (aCons (eC (.str "lower")) (aCons (eV 12) (aCons (eV 9) aNil)))))))))) (sRet (eM 7))))))))))))
def G_Task_matched : List D → FR := runFn 16 [true] b_Task_matched
def b_Task_way : SM := (sSeq (sSet 1 (eFrz (eO2 (d2 dAdd) (eMethV 0 0 [true] G_Task_whole cNil) (eMethV 0 0 [true] G_Task_matched cNil)))) (sRet (eO2 (d2 dAdd) (eLc (iE (eV 1) itemsL) (tgN 2) (eO2 (d2 dEq) (eO2 (d2 dIx) (eV 2) (eC (.int 0))) (eC (.str "raise"))) (eV 2) [2]) (eLc (iE (eV 1) itemsL) (tgN 2) (eO2 (d2 dEq) (eO2 (d2 dIx) (eV 2) (eC (.int 0))) (eC (.str "lower"))) (eV 2) [2]))))
def G_Task_way : List D → FR := runFn 3 [true] b_Task_way
def b_price_of : SM := (sSeq (sPar 2 3 (aCons (eO2 (d2 dIx) (eO2 (d2 dIx) (eV 0) (eC (.int 2))) (eO2 (d2 dIx) (eV 1) (eC (.int 1)))) (aCons (eO2 (d2 dIx) (eO2 (d2 dIx) (eV 0) (eC (.int 2))) (eO2 (d2 dIx) (eV 1) (eC (.int 2)))) aNil))) (sRet (eIf (eOr (eO2 (d2 dIsN) (eV 2) (eC .non)) (eO2 (d2 dIsN) (eV 3) (eC .non))) (eC .non) (eO2 (d2 dAdd) (eV 2) (eV 3)))))
def G_price_of : List D → FR := runFn 4 [false, false] b_price_of
def b_Task_cost : SM := (sRet (eOA (d1 dSum) (aCons (eLc (iE (eMethV 0 0 [true] G_Task_way cNil) itemsL) (tgN 1) (eC (.bl true)) (eCall [false, false] G_price_of (cVal (eFld 0 0 0) (cVal (eV 1) cNil))) [1]) aNil)))
def G_Task_cost : List D → FR := runFn 2 [true] b_Task_cost
def b_least : SM := (sSeq (sSet 2 (eCall [false, false] G_task_of (cVal (eV 0) (cVal (eV 1) cNil)))) (sRet (eIf (eO2 (d2 dIsN) (eMethV 2 0 [true] G_Task_barred cNil) (eC .non)) (eTup (aCons (eMethV 2 0 [true] G_Task_cost cNil) (aCons (eMethV 2 0 [true] G_Task_way cNil) aNil))) (eC .non))))
def G_least : List D → FR := runFn 3 [false, false] b_least
def b_fewest : SM := (sSeq (sSet 2 (eCall [false, false] G_task_of (cVal (eV 0) (cVal (eV 1) cNil)))) (sRet (eIf (eO2 (d2 dIsN) (eMethV 2 0 [true] G_Task_barred cNil) (eC .non)) (eO2 (d2 dAdd) (eFld 2 0 3) (eFld 2 0 4)) (eC .non))))
def G_fewest : List D → FR := runFn 3 [false, false] b_fewest
end LC
set_option Elab.async false
set_option linter.all false
set_option maxRecDepth 100000
set_option maxHeartbeats 8000000
namespace LC
open PySem L2 DL
open LamX (Tabs TabB)
def b_rises : SM := (sSeq (sDrop (eCall [false] G_need_land (cVal (eV 0) cNil))) (sSeq (sDrop (eCall [false, false] G_need_goal (cVal (eV 0) (cVal (eV 1) cNil)))) (sRet (eCall [false, false] G_rises_of (cVal (eO2 (d2 dIx) (eV 0) (eC (.int 0))) (cVal (eFrz (eCall [false, false] G_differences (cVal (eO2 (d2 dIx) (eV 0) (eC (.int 1))) (cVal (eV 1) cNil)))) cNil))))))
def G_rises : List D → FR := runFn 2 [false, false] b_rises
def bR__law_same (G : List D → FR) : SM := (sSeq (sIf (eO1 (d1 (dIsT ["tuple", "list"])) (eV 1)) (sSeq (sIf (eOr (eNot (eL1 (d1 (dIsT ["tuple", "list"])) 0)) (eO2 (d2 dNe) (eO2p 0 (d2 dIsi) (eC (.ty "list"))) (eOA (d2 dIsi) (aCons (eV 1) (aCons (eC (.ty "list")) aNil))))) (sRet (eC (.bl false))) sNx) (sSeq (sIf (eO2 (d2 dNe) (eL1 (d1 dLen) 0) (eOA (d1 dLen) (aCons (eV 1) aNil))) (sRet (eC (.bl false))) sNx) (sRet (eO2 (d2 dEq) (eLc (iA (aCons (eOA (d1 dLen) (aCons (eV 1) aNil)) aNil) rng1) (tgN 3) (eNot (eCall [true, false] G (cVal (eO2p 0 (d2 dIx) (eV 3)) (cVal (eO2 (d2 dIx) (eV 1) (eV 3)) cNil)))) (eV 3) [3]) (eLst aNil))))) sNx) (sSeq (sSet 2 (eAnd (eO2 (d2 dEq) (eO2p 0 (d2 dIsi) (eC (.ty "bool"))) (eOA (d2 dIsi) (aCons (eV 1) (aCons (eC (.ty "bool")) aNil)))) (eO2 (d2 dEq) (eO2p 0 (d2 dIsi) (eC (.ty "int"))) (eOA (d2 dIsi) (aCons (eV 1) (aCons (eC (.ty "int")) aNil)))))) (sRet (eAnd (eV 2) (eO2p 0 (d2 dEq) (eV 1))))))
def GR__law_same : Nat → List D → FR
  | 0 => runFn 4 [true, false] sFail
  | i + 1 => runFn 4 [true, false] (bR__law_same (GR__law_same i))
def G__law_same : List D → FR := GR__law_same 6
def h__law_kind (n : Nat) : SM := (sSeq (sSet 2 (eLst (aCons (eOA (d2 (dIsX n)) (aCons (eV 1) (aCons (eC (.ref 11)) aNil))) (aCons (eOA (d2 (dIsX n)) (aCons (eV 1) (aCons (eC (.ref 12)) aNil))) (aCons (eOA (d2 (dIsX n)) (aCons (eV 1) (aCons (eC (.ref 13)) aNil))) (aCons (eOA (d2 (dIsX n)) (aCons (eV 1) (aCons (eC (.ref 14)) aNil))) aNil)))))) (sSeq (sSet 2 (eO2 (d2 dAdd) (eM 2) (eLst (aCons (eOA (d2 (dIsX n)) (aCons (eV 1) (aCons (eC (.ref 15)) aNil))) (aCons (eOA (d2 (dIsX n)) (aCons (eV 1) (aCons (eC (.ref 16)) aNil))) (aCons (eOA (d2 (dIsX n)) (aCons (eV 1) (aCons (eC (.ref 17)) aNil))) (aCons (eOA (d2 (dIsX n)) (aCons (eV 1) (aCons (eC (.ref 18)) aNil))) aNil))))))) (sSeq (sSet 2 (eO2 (d2 dAdd) (eM 2) (eLst (aCons (eOA (d2 (dIsX n)) (aCons (eV 1) (aCons (eC (.ref 19)) aNil))) (aCons (eOA (d2 (dIsX n)) (aCons (eV 1) (aCons (eC (.ref 20)) aNil))) (aCons (eOA (d2 (dIsX n)) (aCons (eV 1) (aCons (eC (.ref 21)) aNil))) aNil)))))) (sSeq (sSet 3 (eC (.str "BadLand BadGoal BadPaper BadWay NoWay Comes BadShape BadName NoPoint Halted BadText"))) (sSeq (sIf (eOr (eO2 (d2 dNeF) (eMtS 2 "list" (d2 dCount) (aCons (eC (.bl true)) aNil)) (eC (.int 1))) (eNot (eOA (d2 (dIsX n)) (aCons (eV 1) (aCons (eC (.ty "ValueError")) aNil))))) (sRet (eC (.str "other"))) sNx) (sSeq (sSet 4 (eO2 (d2 dIx) (eMtE (eV 3) "str" (d2 dSplit) (aCons (eC (.str " ")) aNil)) (eMtS 2 "list" (d2 dIndex) (aCons (eC (.bl true)) aNil)))) (sSeq (sIf (eO2 (d2 dEqF) (eV 4) (eC (.str "BadLand"))) (sRet (eTup (aCons (eV 4) (aCons (eXf 1 n "part") (aCons (eXf 1 n "number") aNil))))) sNx) (sSeq (sIf (eO2 (d2 dEqF) (eV 4) (eC (.str "BadWay"))) (sRet (eTup (aCons (eV 4) (aCons (eXf 1 n "number") (aCons (eXf 1 n "why") aNil))))) sNx) (sSeq (sIf (eO2 (d2 dEqF) (eV 4) (eC (.str "Halted"))) (sRet (eTup (aCons (eV 4) (aCons (eXf 1 n "number") (aCons (eXf 1 n "done") aNil))))) sNx) (sSeq (sIf (eO2 (d2 dIn) (eV 4) (eTup (aCons (eC (.str "BadGoal")) (aCons (eC (.str "BadPaper")) aNil)))) (sRet (eTup (aCons (eV 4) (aCons (eXf 1 n "number") aNil)))) sNx) (sRet (eIf (eO2 (d2 dEqF) (eV 4) (eC (.str "BadText"))) (eTup (aCons (eV 4) (aCons (eXf 1 n "row") aNil))) (eV 4)))))))))))))
def hd__law_kind : Nat → List D → Option D := hdOf 5 h__law_kind
end LC
set_option Elab.async false
set_option linter.all false
set_option maxRecDepth 100000
set_option maxHeartbeats 8000000
namespace L07
open PySem L2 DL
open LamX (Tabs TabB)
def b__law_more : SM := (sRet (eLc (iA (aCons (eOA (d1 dLen) (aCons (eV 1) aNil)) aNil) rng1) (tgN 2) (eC (.bl true)) (eO2 (d2 dSub) (eO2 (d2 dIx) (eV 1) (eV 2)) (eO2 (d2 dIx) (eO2 (d2 dIx) (eV 0) (eC (.int 1))) (eV 2))) [2]))
def G__law_more : List D → FR := runFn 3 [false, false] b__law_more
def b__law_rise : SM := (sSeq (sSet 2 (eLst aNil)) (sSeq (sFor (iA (aCons (eOA (d1 dLen) (aCons (eO2 (d2 dIx) (eV 0) (eC (.int 2))) aNil)) aNil) rng1) (tgN 3) (sSeq (sSet 4 (eIf (eO2 (d2 dLt) (eV 3) (eOA (d1 dLen) (aCons (eV 1) aNil))) (eO2 (d2 dIx) (eV 1) (eV 3)) (eC (.int 0)))) (sSeq (sSet 5 (eIf (eOr (eO2 (d2 dGt) (eV 3) (eC (.int 0))) (eO2 (d2 dEq) (eO2 (d2 dIx) (eV 0) (eC (.int 0))) (eC (.str "ring")))) (eO2 (d2 dIx) (eV 1) (eO2 (d2 dSub) (eV 3) (eC (.int 1)))) (eC (.int 0)))) (sDrop (eApp 2 (eO2 (d2 dSub) (eV 4) (eV 5))))))) (sRet (eM 2))))
def G__law_rise : List D → FR := runFn 6 [false, false] b__law_rise
def b__law_cost : SM := (sSeq (sSet 2 (eFrz (eCall [false, false] G__law_more (cVal (eV 0) (cVal (eV 1) cNil))))) (sSeq (sSet 3 (eFrz (eCall [false, false] G__law_rise (cVal (eV 0) (cVal (eV 2) cNil))))) (sSeq (sSet 4 (eLc (iE (eO2 (d2 dIx) (eV 0) (eC (.int 2))) itemsT) (tgN 8) (eO2 (d2 dNotN) (eV 8) (eC .non)) (eV 8) [8])) (sFrz 4 (sSeq (sIf (eO2 (d2 dNe) (eLc (iA (aCons (eOA (d1 dLen) (aCons (eV 3) aNil)) aNil) rng1) (tgN 9) (eAnd (eO2 (d2 dNe) (eO2 (d2 dIx) (eV 3) (eV 9)) (eC (.int 0))) (eO2 (d2 dIsN) (eO2 (d2 dIx) (eO2 (d2 dIx) (eV 0) (eC (.int 2))) (eV 9)) (eC .non))) (eV 9) [9]) (eLst aNil)) (sRet (eC .non)) sNx) (sSeq (sPar 5 6 (aCons (eO2 (d2 dFdiv) (eOA (d1 dSum) (aCons (eLc (iE (eV 3) itemsL) (tgN 10) (eC (.bl true)) (eOA (d1 dAbs) (aCons (eV 10) aNil)) [10]) aNil)) (eC (.int 2))) (aCons (eOA (d1 dMax) (aCons (eLc (iE (eV 2) itemsL) (tgN 10) (eC (.bl true)) (eOA (d1 dAbs) (aCons (eV 10) aNil)) [10]) aNil)) aNil))) (sSeq (sSet 7 (eOA (d1 dSum) (aCons (eLc (iA (aCons (eOA (d1 dLen) (aCons (eV 3) aNil)) aNil) rng1) (tgN 9) (eC (.bl true)) (eO2 (d2 dMul) (eOA (d1 dAbs) (aCons (eO2 (d2 dIx) (eV 3) (eV 9)) aNil)) (eOrV (eO2 (d2 dIx) (eO2 (d2 dIx) (eV 0) (eC (.int 2))) (eV 9)) (eC (.int 0)))) [9]) aNil))) (sSeq (sIf (eOr (eO2 (d2 dEq) (eO2 (d2 dIx) (eV 0) (eC (.int 0))) (eC (.str "row"))) (eO2 (d2 dLe) (eV 6) (eV 5))) (sRet (eTup (aCons (eV 7) (aCons (eV 5) aNil)))) sNx) (sRet (eIf (eO2 (d2 dNe) (eV 4) (eLst aNil)) (eTup (aCons (eO2 (d2 dAdd) (eV 7) (eO2 (d2 dMul) (eO2 (d2 dMul) (eC (.int 2)) (eOA (d1 dMin) (aCons (eV 4) aNil))) (eO2 (d2 dSub) (eV 6) (eV 5)))) (aCons (eV 6) aNil))) (eC .non)))))))))))
def G__law_cost : List D → FR := runFn 11 [false, false] b__law_cost
def bs_law : Nat → Option EM
  | 0 => some (eCall [false, false] LC.G_least (cVal (eC .non) (cVal (eV 8) cNil)))
  | 1 => some (eCall [false, false] LC.G_fewest (cVal (eV 4) (cVal (eV 8) cNil)))
  | 2 => some (eCall [false, false] LC.G_least (cVal (eV 4) (cVal (eV 8) cNil)))
  | _ => none
noncomputable def b_law : SM := (sFrz 0 (sSeq (sSet 1 (eCall [false] LC.G__law_start (cVal (eV 0) cNil))) (sSeq (sFor (iA (aCons (eC (.int 8)) aNil) rng1) (tgN 2) (sSeq (sSet 3 (eO2 (d2 dIx) (eLst (aCons (eC (.int 4)) (aCons (eC (.int 60)) (aCons (eC (.int 999)) aNil)))) (eCall [true, false] LC.G__law_drawn (cIo 1 (cVal (eC (.int 3)) cNil))))) (sSeq (sSet 4 (eCall [true, false, false] LC.G__law_land (cIo 1 (cVal (eC (.int 11)) (cVal (eV 3) cNil))))) (sSeq (sSet 5 (eCall [true, false, false] LC.G__law_goal (cIo 1 (cVal (eV 4) (cVal (eO2 (d2 dIx) (eLst (aCons (eV 3) (aCons (eC (.int 60)) aNil))) (eCall [true, false] LC.G__law_drawn (cIo 1 (cVal (eC (.int 2)) cNil)))) cNil))))) (sSeq (sSet 6 (eCall [false, false] G__law_cost (cVal (eV 4) (cVal (eV 5) cNil)))) (sSeq (sSet 7 (eFrz (eCall [false, false] LC.G_least (cVal (eV 4) (cVal (eV 5) cNil))))) (sSeq (sIf (eO2 (d2 dNe) (eIf (eO2 (d2 dIsN) (eV 7) (eC .non)) (eC .non) (eO2 (d2 dIx) (eV 7) (eC (.int 0)))) (eIf (eO2 (d2 dIsN) (eV 6) (eC .non)) (eC .non) (eO2 (d2 dIx) (eV 6) (eC (.int 0))))) (sRet (eC (.bl false))) sNx) (sSeq (sIf (eO2 (d2 dNe) (eCall [false, false] LC.G_fewest (cVal (eV 4) (cVal (eV 5) cNil))) (eIf (eO2 (d2 dIsN) (eV 6) (eC .non)) (eC .non) (eO2 (d2 dIx) (eV 6) (eC (.int 1))))) (sRet (eC (.bl false))) sNx) (sSeq (sSet 8 (eO2 (d2 dIx) (eLst (aCons (eC .non) (aCons (eSl (eV 5) none (some (eC (.int 0)))) (aCons (eFrz (eOA (d1 dList) (aCons (eV 5) aNil))) (aCons (eO2 (d2 dAdd) (eV 5) (eTup (aCons (eC (.int 0)) aNil))) aNil))))) (eCall [true, false] LC.G__law_drawn (cIo 1 (cVal (eC (.int 4)) cNil))))) (sSeq (sSet 9 (eIf (eO2 (d2 dEq) (eV 8) (eO2 (d2 dAdd) (eV 5) (eTup (aCons (eC (.int 0)) aNil)))) (eOA (d1 dLen) (aCons (eV 5) aNil)) (eC (.int 0)))) (sReg [10, 6] (sSeq (sSet 10 (eFrz (eLst (aCons (eC (.clo 2)) (aCons (eC (.clo 1)) (aCons (eC (.clo 0)) aNil)))))) (sSeq (sSet 6 (eFrz (eLst (aCons (eTup (aCons (eC (.str "BadGoal")) (aCons (eV 9) aNil))) (aCons (eTup (aCons (eC (.str "BadGoal")) (aCons (eV 9) aNil))) (aCons (eTup (aCons (eC (.str "BadLand")) (aCons (eO2 (d2 dSub) (eC (.int 0)) (eC (.int 1))) (aCons (eC (.int 0)) aNil)))) aNil)))))) (sFrz 10 (sIf (eO2 (d2 dNe) (eLc (iE (eV 10) itemsL) (tgN 11) (eC (.bl true)) (eKindC LC.hd__law_kind bs_law [11] (eV 11)) [11]) (eV 6)) (sRet (eC (.bl false))) sNx))))))))))))))) (sRet (eC (.bl true))))))
noncomputable def G_law : List D → FR := runFn 12 [false] b_law
def top (i : Nat) : Stmt := PySem.Challenge.pw_fencefields_k07_sums_of_rises.main.body.getD i (.Pass ⟨0, 0, 0, 0⟩)
abbrev s__law_start : Stmt := top 39
abbrev s__law_drawn : Stmt := top 40
abbrev s__law_land : Stmt := top 42
abbrev s__law_goal : Stmt := top 43
abbrev s__law_more : Stmt := top 44
abbrev s__law_rise : Stmt := top 45
abbrev s__law_cost : Stmt := top 46
abbrev s_first_wrong : Stmt := top 22
abbrev s_is_number : Stmt := top 20
abbrev s_is_height : Stmt := top 23
abbrev s_borders_of : Stmt := top 21
abbrev s_is_price : Stmt := top 24
abbrev s_need_land : Stmt := top 25
abbrev s_need_goal : Stmt := top 26
abbrev s_differences : Stmt := top 27
abbrev s_rises_of : Stmt := top 28
abbrev s_Task_greatest : Stmt := inClass (top 34) 1
abbrev s_Task___init__ : Stmt := inClass (top 34) 0
abbrev s_task_of : Stmt := top 35
abbrev s_Task_fences : Stmt := inClass (top 34) 2
abbrev s_Task_barred : Stmt := inClass (top 34) 3
abbrev s_Task_cheapest : Stmt := inClass (top 34) 4
abbrev s_Task_whole : Stmt := inClass (top 34) 5
abbrev s_Task_matched : Stmt := inClass (top 34) 6
abbrev s_Task_way : Stmt := inClass (top 34) 7
abbrev s_price_of : Stmt := top 32
abbrev s_Task_cost : Stmt := inClass (top 34) 8
abbrev s_least : Stmt := top 36
abbrev s_fewest : Stmt := top 37
abbrev s__law_kind : Stmt := top 41
abbrev s_law : Stmt := top 47
def ls_law : Nat → DS.LamI
  | 0 => lamOf (some "_law_b") (subOf (valOf (stAt (bodyOf (stAt (defBody s_law) 1)) 9)) 2)
  | 1 => lamOf (some "_law_a") (subOf (valOf (stAt (bodyOf (stAt (defBody s_law) 1)) 9)) 1)
  | 2 => lamOf none (subOf (valOf (stAt (bodyOf (stAt (defBody s_law) 1)) 9)) 0)
  | _ => lamOf none (.Name "" ⟨0, 0, 0, 0⟩)
abbrev s_xi_11 : Stmt := inClass (top 2) 0
abbrev s_xi_12 : Stmt := inClass (top 3) 0
def lamQ (q : Str) : Str := q ++ ".<locals>." ++ "<lambda>"
structure Fx (K : PySem.W.Frag) (mg : Str → Option Value) (base : Heap) (adr : Adr) (T : List (Addr × Str)) : Prop where
  nil_ : True
  c_LEAST_FIELDS : GC mg "LEAST_FIELDS" (.int 2)
  c_LOWER : GC mg "LOWER" (.str "lower")
  c_MOST_FIELDS : GC mg "MOST_FIELDS" (.int 12)
  c_MOST_HEIGHT : GC mg "MOST_HEIGHT" (.int 999)
  c_MOST_PRICE : GC mg "MOST_PRICE" (.int 99)
  c_RAISE : GC mg "RAISE" (.str "raise")
  c_RING : GC mg "RING" (.str "ring")
  c_ROW : GC mg "ROW" (.str "row")
  cls_0 : Cls K (adr 0)
  n_ValueError : mg "ValueError" = none
  n_abs : mg "abs" = none
  n_bool : mg "bool" = none
  n_divmod : mg "divmod" = none
  n_enumerate : mg "enumerate" = none
  n_int : mg "int" = none
  n_isinstance : mg "isinstance" = none
  n_len : mg "len" = none
  n_list : mg "list" = none
  n_max : mg "max" = none
  n_min : mg "min" = none
  n_range : mg "range" = none
  n_str : mg "str" = none
  n_sum : mg "sum" = none
  n_tuple : mg "tuple" = none
  n_zip : mg "zip" = none
  na_0_land : NoAttr K (adr 0) "land"
  na_0_more : NoAttr K (adr 0) "more"
  na_0_pairs : NoAttr K (adr 0) "pairs"
  na_0_rings : NoAttr K (adr 0) "rings"
  na_0_rise : NoAttr K (adr 0) "rise"
  xat_10 : mg "FenceError" = some (.ref (adr 10))
  xat_11 : mg "BadLand" = some (.ref (adr 11))
  xat_12 : mg "BadGoal" = some (.ref (adr 12))
  xat_13 : mg "BadPaper" = some (.ref (adr 13))
  xat_14 : mg "BadWay" = some (.ref (adr 14))
  xat_15 : mg "NoWay" = some (.ref (adr 15))
  xat_16 : mg "Comes" = some (.ref (adr 16))
  xat_17 : mg "BadShape" = some (.ref (adr 17))
  xat_18 : mg "BadName" = some (.ref (adr 18))
  xat_19 : mg "NoPoint" = some (.ref (adr 19))
  xat_20 : mg "Halted" = some (.ref (adr 20))
  xat_21 : mg "BadText" = some (.ref (adr 21))
  xf : XFacts K adr
  ci : CInit K (adr 10)
  ox_11 : OexC K (adr 11)
  tI_11 : PySem.W.typeIn K (.ref (adr 111)) = some (.type "function")
  fdi_11 : MD K "__init__" "BadLand.__init__" s_xi_11 (adr 11) (adr 111) ["self", "part", "number"]
  ox_12 : OexC K (adr 12)
  tI_12 : PySem.W.typeIn K (.ref (adr 112)) = some (.type "function")
  fdi_12 : MD K "__init__" "BadGoal.__init__" s_xi_12 (adr 12) (adr 112) ["self", "number"]
  fd__law_start : FD K mg "_law_start" s__law_start (adr 62) ["_law_script"]
  fd__law_drawn : FD K mg "_law_drawn" s__law_drawn (adr 63) ["_law_state", "_law_many"]
  fd__law_land : FD K mg "_law_land" s__law_land (adr 64) ["_law_state", "_law_most", "_law_high"]
  fd__law_goal : FD K mg "_law_goal" s__law_goal (adr 65) ["_law_state", "_law_land_here", "_law_high"]
  fd__law_more : FD K mg "_law_more" s__law_more (adr 439) ["_law_land_here", "_law_goal_here"]
  fd__law_rise : FD K mg "_law_rise" s__law_rise (adr 444) ["_law_land_here", "_law_more_here"]
  fd__law_cost : FD K mg "_law_cost" s__law_cost (adr 427) ["_law_land_here", "_law_goal_here"]
  fd_first_wrong : FD K mg "first_wrong" s_first_wrong (adr 42) ["some", "least", "most", "is_good"]
  fd_is_number : FD K mg "is_number" s_is_number (adr 40) ["thing", "low", "high"]
  fd_is_height : FD K mg "is_height" s_is_height (adr 43) ["thing"]
  fd_borders_of : FD K mg "borders_of" s_borders_of (adr 41) ["shape", "many"]
  fd_is_price : FD K mg "is_price" s_is_price (adr 44) ["thing"]
  fd_need_land : FD K mg "need_land" s_need_land (adr 45) ["land"]
  fd_need_goal : FD K mg "need_goal" s_need_goal (adr 46) ["land", "goal"]
  fd_differences : FD K mg "differences" s_differences (adr 47) ["heights", "goal"]
  fd_rises_of : FD K mg "rises_of" s_rises_of (adr 48) ["shape", "more"]
  fd_Task_greatest : MD K "greatest" "Task.greatest" s_Task_greatest (adr 0) (adr 51) ["self"]
  fd_Task___init__ : MD K "__init__" "Task.__init__" s_Task___init__ (adr 0) (adr 50) ["self", "land", "goal"]
  mk_0 : PySem.W.makesIn K (adr 0) = true
  kc_0 : PySem.W.keepIn K (.ref (adr 0)) = true
  at_0 : mg "Task" = some (.ref (adr 0))
  fd_task_of : FD K mg "task_of" s_task_of (adr 59) ["land", "goal"]
  fd_Task_fences : MD K "fences" "Task.fences" s_Task_fences (adr 0) (adr 52) ["self"]
  fd_Task_barred : MD K "barred" "Task.barred" s_Task_barred (adr 0) (adr 53) ["self"]
  tb_Task_cheapest : TabB base mg (adr 201) (adr 301)
  in_Task_cheapest : (adr 301, lamQ "Task.cheapest") ∈ T
  one_Task_cheapest : ∀ p ∈ T, p.1 = adr 301 → p.2 = lamQ "Task.cheapest"
  fd_Task_cheapest : MDc K "cheapest" "Task.cheapest" s_Task_cheapest (adr 0) (adr 54) ["self"] (adr 201) (adr 301) T
  fd_Task_whole : MD K "whole" "Task.whole" s_Task_whole (adr 0) (adr 55) ["self"]
  fd_Task_matched : MD K "matched" "Task.matched" s_Task_matched (adr 0) (adr 56) ["self"]
  fd_Task_way : MD K "way" "Task.way" s_Task_way (adr 0) (adr 57) ["self"]
  fd_price_of : FD K mg "price_of" s_price_of (adr 49) ["land", "deed"]
  fd_Task_cost : MD K "cost" "Task.cost" s_Task_cost (adr 0) (adr 58) ["self"]
  fd_least : FD K mg "least" s_least (adr 60) ["land", "goal"]
  fd_fewest : FD K mg "fewest" s_fewest (adr 61) ["land", "goal"]
  fd__law_kind : FD K mg "_law_kind" s__law_kind (adr 438) ["_law_work"]
  tb_law : TabB base mg (adr 200) (adr 300)
  in_law : (adr 300, lamQ "law") ∈ T
  one_law : ∀ p ∈ T, p.1 = adr 300 → p.2 = lamQ "law"
theorem Fx.wC {K : PySem.W.Frag} {mg : Str → Option Value} {base : Heap} {adr : Adr} {T : List (Addr × Str)} {cells : List (Str × Addr)} {q : Str} {ls : Nat → DS.LamI} (Y : Fx K mg base adr T) : Fx K mg base (adr.wC cells q ls) T := ⟨Y.nil_, Y.c_LEAST_FIELDS, Y.c_LOWER, Y.c_MOST_FIELDS, Y.c_MOST_HEIGHT, Y.c_MOST_PRICE, Y.c_RAISE, Y.c_RING, Y.c_ROW, Y.cls_0, Y.n_ValueError, Y.n_abs, Y.n_bool, Y.n_divmod, Y.n_enumerate, Y.n_int, Y.n_isinstance, Y.n_len, Y.n_list, Y.n_max, Y.n_min, Y.n_range, Y.n_str, Y.n_sum, Y.n_tuple, Y.n_zip, Y.na_0_land, Y.na_0_more, Y.na_0_pairs, Y.na_0_rings, Y.na_0_rise, Y.xat_10, Y.xat_11, Y.xat_12, Y.xat_13, Y.xat_14, Y.xat_15, Y.xat_16, Y.xat_17, Y.xat_18, Y.xat_19, Y.xat_20, Y.xat_21, Y.xf.wC, Y.ci, Y.ox_11, Y.tI_11, Y.fdi_11, Y.ox_12, Y.tI_12, Y.fdi_12, Y.fd__law_start, Y.fd__law_drawn, Y.fd__law_land, Y.fd__law_goal, Y.fd__law_more, Y.fd__law_rise, Y.fd__law_cost, Y.fd_first_wrong, Y.fd_is_number, Y.fd_is_height, Y.fd_borders_of, Y.fd_is_price, Y.fd_need_land, Y.fd_need_goal, Y.fd_differences, Y.fd_rises_of, Y.fd_Task_greatest, Y.fd_Task___init__, Y.mk_0, Y.kc_0, Y.at_0, Y.fd_task_of, Y.fd_Task_fences, Y.fd_Task_barred, Y.tb_Task_cheapest, Y.in_Task_cheapest, Y.one_Task_cheapest, Y.fd_Task_cheapest, Y.fd_Task_whole, Y.fd_Task_matched, Y.fd_Task_way, Y.fd_price_of, Y.fd_Task_cost, Y.fd_least, Y.fd_fewest, Y.fd__law_kind, Y.tb_law, Y.in_law, Y.one_law⟩
section
variable {P : Program} {w : World} {K : PySem.W.Frag} {mg : Str → Option Value} {base : Heap} {adr : Adr} {T : List (Addr × Str)}
theorem S_xi_11 : FnScope ["self", "part", "number"] ["self", "part", "number"] (defScope s_xi_11) := ⟨rfl, rfl, rfl, by decide +kernel, rfl, by decide +kernel, by decide +kernel⟩
theorem xi_11 (Y : Fx K mg base adr T) : KXi P w K mg base adr 11 "BadLand" ["part", "number"] := kxi_of Y.fdi_11 Y.ox_11 (fun f hf => Y.xf.no 11 (by decide) f (List.mem_reverse.mp (show f ∈ (fx 11).reverse from hf))) Y.xat_11 rfl (by decide) (by decide) Y.tI_11 (fun fd hF => fn_x hF S_xi_11 rfl fun cdv A outer s H E vs Q h => ⟨_, pss_cons (ps_expr (pe_cinit rfl Y.xat_10 Y.ci.rd Y.ci.at_ (pa_cons (pe_var (i := 0) rfl (.inl rfl) (by decide) (by decide)) (pa_cons pe_str pa_nil)))) (pss_cons (ps_ost (pe_var (i := 0) rfl (.inl rfl) (by decide) (by decide)) (pe_var (i := 1) rfl (.inl rfl) (by decide) (by decide))) (pss_one (ps_ost (pe_var (i := 0) rfl (.inl rfl) (by decide) (by decide)) (pe_var (i := 2) rfl (.inl rfl) (by decide) (by decide))))), run_x2 h⟩)
theorem S_xi_12 : FnScope ["self", "number"] ["self", "number"] (defScope s_xi_12) := ⟨rfl, rfl, rfl, by decide +kernel, rfl, by decide +kernel, by decide +kernel⟩
theorem xi_12 (Y : Fx K mg base adr T) : KXi P w K mg base adr 12 "BadGoal" ["number"] := kxi_of Y.fdi_12 Y.ox_12 (fun f hf => Y.xf.no 12 (by decide) f (List.mem_reverse.mp (show f ∈ (fx 12).reverse from hf))) Y.xat_12 rfl (by decide) (by decide) Y.tI_12 (fun fd hF => fn_x hF S_xi_12 rfl fun cdv A outer s H E vs Q h => ⟨_, pss_cons (ps_expr (pe_cinit rfl Y.xat_10 Y.ci.rd Y.ci.at_ (pa_cons (pe_var (i := 0) rfl (.inl rfl) (by decide) (by decide)) (pa_cons pe_str pa_nil)))) (pss_one (ps_ost (pe_var (i := 0) rfl (.inl rfl) (by decide) (by decide)) (pe_var (i := 1) rfl (.inl rfl) (by decide) (by decide)))), run_x1 h⟩)
abbrev N__law_start : List Str := ["_law_script", "_law_mixed", "_law_cell"]
theorem S__law_start : FnScope ["_law_script", "_law_mixed", "_law_cell"] ["_law_script"] (defScope s__law_start) := ⟨rfl, rfl, rfl, by decide +kernel, rfl, by decide +kernel, by decide +kernel⟩
theorem body__law_start (Y : Fx K mg base adr T) : BodyOk P w K mg base adr T ["_law_script", "_law_mixed", "_law_cell"] "_law_start" s__law_start (adr 62) 0 [false] LC.b__law_start := fun cdv A outer s H E hr tk => by
  have S := S__law_start
  exact (pss_d (ps_dset 1 S.nd pd_int) (pss_d (ps_dfor (passes_of rfl) rfl (pid_list (pd_var 0)) (pg_d 2 S.nd) (pss_d1 (ps_dset 1 S.nd (pd_op oMod (pd_op oAdd (pd_op oAdd (pd_op oMul (pd_var 1) pd_int) (pd_var 2)) pd_int) pd_int)))) (pss_d1 (ps_dret (pd_lst (pa_d (pd_var 0) (pa_d pd_int (pa_d (pd_var 1) (pa_d pd_int pa_d0)))))))))
theorem k__law_start (Y : Fx K mg base adr T) : KFn P w K mg base adr T 1 "_law_start" [false] LC.G__law_start := kfn_of Y.fd__law_start S__law_start [false] LC.b__law_start rfl (body__law_start Y)
abbrev N__law_drawn : List Str := ["_law_state", "_law_many", "_law_found", "_law_cell"]
theorem S__law_drawn : FnScope ["_law_state", "_law_many", "_law_found", "_law_cell"] ["_law_state", "_law_many"] (defScope s__law_drawn) := ⟨rfl, rfl, rfl, by decide +kernel, rfl, by decide +kernel, by decide +kernel⟩
theorem body__law_drawn (Y : Fx K mg base adr T) : BodyOk P w K mg base adr T ["_law_state", "_law_many", "_law_found", "_law_cell"] "_law_drawn" s__law_drawn (adr 63) 0 [true, false] LC.b__law_drawn := fun cdv A outer s H E hr tk => by
  have S := S__law_drawn
  exact (pss_d (ps_dif (pt_cmpD oGt (pd_ixS 0 pd_int (fun _ _ => rfl)) pd_int (nomark _)) (pss_d (ps_dset 2 S.nd (pd_op oMod (pd_ixS 0 pd_int (fun _ _ => rfl)) (pd_var 1))) (pss_d (ps_dix 0 pd_int (pd_op oFdiv (pd_ixS 0 pd_int (fun _ _ => rfl)) (pd_var 1))) (pss_d1 (ps_dret (pd_var 2))))) pss_d0) (pss_d (ps_dix 0 pd_int (pd_op oAdd (pd_ixS 0 pd_int (fun _ _ => rfl)) pd_int)) (pss_d (ps_dif (pt_cmpD oLe (pd_ixS 0 pd_int (fun _ _ => rfl)) (pd_callB kLen rfl Y.n_len bt_len (pa_d (pd_ixS 0 pd_int (fun _ _ => rfl)) pa_d0)) (nomark _)) (pss_d (ps_dset 3 S.nd (pd_ix oIx (pd_ixS 0 pd_int (fun _ _ => rfl)) (pd_op oSub (pd_ixS 0 pd_int (fun _ _ => rfl)) pd_int) (fun _ _ => rfl))) (pss_d (ps_dix 0 pd_int (pd_ifExp (pt_cmpD oGe (pd_var 3) (pd_op oPow pd_int pd_int) (nomark _)) (pd_op oFdiv (pd_var 3) (pd_var 1)) pd_int)) (pss_d1 (ps_dret (pd_op oMod (pd_var 3) (pd_var 1)))))) pss_d0) (pss_d (ps_dix 0 pd_int (pd_op oMod (pd_op oAdd (pd_op oMul (pd_ixS 0 pd_int (fun _ _ => rfl)) pd_int) pd_int) pd_int)) (pss_d1 (ps_dret (pd_op oMod (pd_op oFdiv (pd_ixS 0 pd_int (fun _ _ => rfl)) pd_int) (pd_var 1))))))))
theorem k__law_drawn (Y : Fx K mg base adr T) : KFn P w K mg base adr T 1 "_law_drawn" [true, false] LC.G__law_drawn := kfn_of Y.fd__law_drawn S__law_drawn [true, false] LC.b__law_drawn rfl (body__law_drawn Y)
abbrev N__law_land : List Str := ["_law_state", "_law_most", "_law_high", "_law_shape", "_law_many", "_law_heights", "_law_dear", "_law_rare", "_law_prices", "_law_k"]
theorem S__law_land : FnScope ["_law_state", "_law_most", "_law_high", "_law_shape", "_law_many", "_law_heights", "_law_dear", "_law_rare", "_law_prices", "_law_k"] ["_law_state", "_law_most", "_law_high"] (defScope s__law_land) := ⟨rfl, rfl, rfl, by decide +kernel, rfl, by decide +kernel, by decide +kernel⟩
theorem body__law_land (Y : Fx K mg base adr T) : BodyOk P w K mg base adr T ["_law_state", "_law_most", "_law_high", "_law_shape", "_law_many", "_law_heights", "_law_dear", "_law_rare", "_law_prices", "_law_k"] "_law_land" s__law_land (adr 64) 1 [true, false, false] LC.b__law_land := fun cdv A outer s H E hr tk => by
  have S := S__law_land
  exact (pss_d (ps_dpar 3 4 S.nd (pa_d (pd_ix oIx (pd_lst (pa_d pd_str (pa_d pd_str pa_d0))) (pd_call (k__law_drawn Y) hr (by decide) tk (pa_io 0 (pa_c pd_int pa_c0))) (fun _ _ => rfl)) (pa_d (pd_op oAdd pd_int (pd_call (k__law_drawn Y) hr (by decide) tk (pa_io 0 (pa_c (pd_op oSub (pd_var 1) pd_int) pa_c0)))) pa_d0))) (pss_d (ps_dset 5 S.nd (pd_callTy kTuple rfl Y.n_tuple bt_tuple (pa_d (pd_lc 10 [("_law_k", 9)] rfl rfl S.nd (pid_range1 rfl Y.n_range (pa_d (pd_var 4) pa_d0)) (blkOk_by (N := N__law_land) (sc := defScope s__law_land) (by decide +kernel)) (fun _ _ _ _ _ => (pg_d 9 S.nd)) (fun _ _ _ _ _ => pts_d0) (fun _ _ _ _ _ => (pd_call (k__law_drawn Y) hr (by decide) LamX.takes0 (pa_io 0 (pa_c (pd_op oAdd (pd_var 2) pd_int) pa_c0))))) pa_d0))) (pss_d (ps_dpar 6 7 S.nd (pa_d (pd_ix oIx (pd_lst (pa_d pd_int (pa_d pd_int (pa_d pd_int pa_d0)))) (pd_call (k__law_drawn Y) hr (by decide) tk (pa_io 0 (pa_c pd_int pa_c0))) (fun _ _ => rfl)) (pa_d (pd_ix oIx (pd_lst (pa_d pd_int (pa_d pd_int (pa_d pd_int pa_d0)))) (pd_call (k__law_drawn Y) hr (by decide) tk (pa_io 0 (pa_c pd_int pa_c0))) (fun _ _ => rfl)) pa_d0))) (pss_d (ps_dset 8 S.nd (pd_lst pa_d0)) (pss_d (ps_dfor (passes_of rfl) rfl (pid_range1 rfl Y.n_range (pa_d (pd_op oAdd (pd_var 4) (pd_callTy kInt rfl Y.n_int bt_int (pa_d (pd_cmp (oEq (Room.units hr)) (pd_var 3) pd_str (nomark _)) pa_d0))) pa_d0)) (pg_d 9 S.nd) (pss_d1 (ps_dexpr (pd_app 8 (pd_ifExp (pt_cmpD (oEq (Room.units hr)) (pd_call (k__law_drawn Y) hr (by decide) tk (pa_io 0 (pa_c (pd_var 7) pa_c0))) pd_int (nomark _)) pd_non (pd_op oAdd pd_int (pd_call (k__law_drawn Y) hr (by decide) tk (pa_io 0 (pa_c (pd_var 6) pa_c0))))))))) (pss_d1 (ps_dret (pd_tup (pa_d (pd_var 3) (pa_d (pd_var 5) (pa_d (pd_callTy kTuple rfl Y.n_tuple bt_tuple (pa_d (pd_move 8) pa_d0)) pa_d0)))))))))))
theorem k__law_land (Y : Fx K mg base adr T) : KFn P w K mg base adr T 2 "_law_land" [true, false, false] LC.G__law_land := kfn_of Y.fd__law_land S__law_land [true, false, false] LC.b__law_land rfl (body__law_land Y)
abbrev N__law_goal : List Str := ["_law_state", "_law_land_here", "_law_high", "_law_shape", "_law_heights", "_law_prices", "_law_found", "_law_far", "_law_some", "_law_k", "_law_more_here", "_law_height"]
theorem S__law_goal : FnScope ["_law_state", "_law_land_here", "_law_high", "_law_shape", "_law_heights", "_law_prices", "_law_found", "_law_far", "_law_some", "_law_k", "_law_more_here", "_law_height"] ["_law_state", "_law_land_here", "_law_high"] (defScope s__law_goal) := ⟨rfl, rfl, rfl, by decide +kernel, rfl, by decide +kernel, by decide +kernel⟩
theorem body__law_goal (Y : Fx K mg base adr T) : BodyOk P w K mg base adr T ["_law_state", "_law_land_here", "_law_high", "_law_shape", "_law_heights", "_law_prices", "_law_found", "_law_far", "_law_some", "_law_k", "_law_more_here", "_law_height"] "_law_goal" s__law_goal (adr 65) 1 [true, false, false] LC.b__law_goal := fun cdv A outer s H E hr tk => by
  have S := S__law_goal
  exact (pss_d (ps_dasg (pd_var 1) (pg_dt 3 rfl (pgs_d (pg_d 3 S.nd) (pgs_d (pg_d 4 S.nd) (pgs_d (pg_d 5 S.nd) pgs_d0))))) (pss_d (ps_dsetLc 6 12 [("_law_height", 11)] rfl rfl S.nd (pid_tup (pd_var 4)) (blkOk_by (N := N__law_goal) (sc := defScope s__law_goal) (by decide +kernel)) (fun _ _ _ _ _ => (pg_d 11 S.nd)) (fun _ _ _ _ _ => pts_d0) (fun _ _ _ _ _ => (pd_call (k__law_drawn Y) hr (by decide) LamX.takes0 (pa_io 0 (pa_c (pd_op oAdd (pd_var 2) pd_int) pa_c0))))) (pss_d (ps_dasg (pd_tup (pa_d (pd_call (k__law_drawn Y) hr (by decide) tk (pa_io 0 (pa_c (pd_op oAdd (pd_var 2) pd_int) pa_c0))) (pa_d (pd_call (k__law_drawn Y) hr (by decide) tk (pa_io 0 (pa_c pd_int pa_c0))) pa_d0))) (pg_dt 2 rfl (pgs_d (pg_d 7 S.nd) (pgs_d (pg_d 8 S.nd) pgs_d0)))) (pss_d (ps_dif (pt_cmpD (oEq (Room.units hr)) (pd_var 8) pd_int (nomark _)) (pss_d1 (ps_dsetLc 6 12 [("_law_height", 11)] rfl rfl S.nd (pid_tup (pd_var 4)) (blkOk_by (N := N__law_goal) (sc := defScope s__law_goal) (by decide +kernel)) (fun _ _ _ _ _ => (pg_d 11 S.nd)) (fun _ _ _ _ _ => pts_d0) (fun _ _ _ _ _ => (pd_callB (kMin2 rfl) rfl Y.n_min bt_min (pa_d (pd_var 2) (pa_d (pd_op oAdd (pd_var 11) (pd_var 7)) pa_d0)))))) pss_d0) (pss_d (ps_dif (pt_cmpD (oEq (Room.units hr)) (pd_var 8) pd_int (nomark _)) (pss_d1 (ps_dsetLc 6 12 [("_law_height", 11)] rfl rfl S.nd (pid_tup (pd_var 4)) (blkOk_by (N := N__law_goal) (sc := defScope s__law_goal) (by decide +kernel)) (fun _ _ _ _ _ => (pg_d 11 S.nd)) (fun _ _ _ _ _ => pts_d0) (fun _ _ _ _ _ => (pd_callB (kMax2 rfl) rfl Y.n_max bt_max (pa_d pd_int (pa_d (pd_op oSub (pd_var 11) (pd_var 7)) pa_d0)))))) pss_d0) (pss_d (ps_dfor (passes_of rfl) rfl (pid_range1 rfl Y.n_range (pa_d (pd_op oMul (pd_callB kLen rfl Y.n_len bt_len (pa_d (pd_var 4) pa_d0)) (pd_callTy kInt rfl Y.n_int bt_int (pa_d (pd_cmp (oNe (Room.units hr)) (pd_var 8) pd_int (nomark _)) pa_d0))) pa_d0)) (pg_d 9 S.nd) (pss_d (ps_dset 10 S.nd (pd_ifExp (PW.pt (pwd_or (pt_cmpD oGt (pd_var 9) pd_int (nomark _)) (pwd_1 (pt_cmpD (oEq (Room.units hr)) (pd_var 3) pd_str (nomark _)) (by first | exact .inl rfl | exact .inr rfl)))) (pd_op oSub (pd_ixS 6 (pd_op oSub (pd_var 9) pd_int) (fun _ _ => rfl)) (pd_ix oIx (pd_var 4) (pd_op oSub (pd_var 9) pd_int) (fun _ _ => rfl))) pd_int)) (pss_d1 (ps_dif (PW.pt (pwd_and (pt_cmpD oIsN (pd_ix oIx (pd_var 5) (pd_var 9) (fun _ _ => rfl)) pd_non (nomark _)) (pwd_1 (ptd_chain oLe oLe pd_int (pd_op oAdd (pd_ix oIx (pd_var 4) (pd_var 9) (fun _ _ => rfl)) (pd_var 10)) (pd_var 2)) (by first | exact .inl rfl | exact .inr rfl)))) (pss_d1 (ps_dix 6 (pd_var 9) (pd_op oAdd (pd_ix oIx (pd_var 4) (pd_var 9) (fun _ _ => rfl)) (pd_var 10)))) pss_d0)))) (pss_d1 (ps_dret (pd_callTy kTuple rfl Y.n_tuple bt_tuple (pa_d (pd_move 6) pa_d0))))))))))
theorem k__law_goal (Y : Fx K mg base adr T) : KFn P w K mg base adr T 2 "_law_goal" [true, false, false] LC.G__law_goal := kfn_of Y.fd__law_goal S__law_goal [true, false, false] LC.b__law_goal rfl (body__law_goal Y)
abbrev N__law_more : List Str := ["_law_land_here", "_law_goal_here", "_law_k"]
theorem S__law_more : FnScope ["_law_land_here", "_law_goal_here", "_law_k"] ["_law_land_here", "_law_goal_here"] (defScope s__law_more) := ⟨rfl, rfl, rfl, by decide +kernel, rfl, by decide +kernel, by decide +kernel⟩
theorem body__law_more (Y : Fx K mg base adr T) : BodyOk P w K mg base adr T ["_law_land_here", "_law_goal_here", "_law_k"] "_law_more" s__law_more (adr 439) 0 [false, false] b__law_more := fun cdv A outer s H E hr tk => by
  have S := S__law_more
  exact (pss_d1 (ps_dret (pd_lc 3 [("_law_k", 2)] rfl rfl S.nd (pid_range1 rfl Y.n_range (pa_d (pd_callB kLen rfl Y.n_len bt_len (pa_d (pd_var 1) pa_d0)) pa_d0)) (blkOk_by (N := N__law_more) (sc := defScope s__law_more) (by decide +kernel)) (fun _ _ _ _ _ => (pg_d 2 S.nd)) (fun _ _ _ _ _ => pts_d0) (fun _ _ _ _ _ => (pd_op oSub (pd_ix oIx (pd_var 1) (pd_var 2) (fun _ _ => rfl)) (pd_ix oIx (pd_ix oIx (pd_var 0) pd_int (fun _ _ => rfl)) (pd_var 2) (fun _ _ => rfl)))))))
theorem k__law_more (Y : Fx K mg base adr T) : KFn P w K mg base adr T 1 "_law_more" [false, false] G__law_more := kfn_of Y.fd__law_more S__law_more [false, false] b__law_more rfl (body__law_more Y)
abbrev N__law_rise : List Str := ["_law_land_here", "_law_more_here", "_law_found", "_law_k", "_law_behind", "_law_ahead"]
theorem S__law_rise : FnScope ["_law_land_here", "_law_more_here", "_law_found", "_law_k", "_law_behind", "_law_ahead"] ["_law_land_here", "_law_more_here"] (defScope s__law_rise) := ⟨rfl, rfl, rfl, by decide +kernel, rfl, by decide +kernel, by decide +kernel⟩
theorem body__law_rise (Y : Fx K mg base adr T) : BodyOk P w K mg base adr T ["_law_land_here", "_law_more_here", "_law_found", "_law_k", "_law_behind", "_law_ahead"] "_law_rise" s__law_rise (adr 444) 0 [false, false] b__law_rise := fun cdv A outer s H E hr tk => by
  have S := S__law_rise
  exact (pss_d (ps_dset 2 S.nd (pd_lst pa_d0)) (pss_d (ps_dfor (passes_of rfl) rfl (pid_range1 rfl Y.n_range (pa_d (pd_callB kLen rfl Y.n_len bt_len (pa_d (pd_ix oIx (pd_var 0) pd_int (fun _ _ => rfl)) pa_d0)) pa_d0)) (pg_d 3 S.nd) (pss_d (ps_dset 4 S.nd (pd_ifExp (pt_cmpD oLt (pd_var 3) (pd_callB kLen rfl Y.n_len bt_len (pa_d (pd_var 1) pa_d0)) (nomark _)) (pd_ix oIx (pd_var 1) (pd_var 3) (fun _ _ => rfl)) pd_int)) (pss_d (ps_dset 5 S.nd (pd_ifExp (PW.pt (pwd_or (pt_cmpD oGt (pd_var 3) pd_int (nomark _)) (pwd_1 (pt_cmpD (oEq (Room.units hr)) (pd_ix oIx (pd_var 0) pd_int (fun _ _ => rfl)) pd_str (nomark _)) (by first | exact .inl rfl | exact .inr rfl)))) (pd_ix oIx (pd_var 1) (pd_op oSub (pd_var 3) pd_int) (fun _ _ => rfl)) pd_int)) (pss_d1 (ps_dexpr (pd_app 2 (pd_op oSub (pd_var 4) (pd_var 5)))))))) (pss_d1 (ps_dret (pd_move 2)))))
theorem k__law_rise (Y : Fx K mg base adr T) : KFn P w K mg base adr T 1 "_law_rise" [false, false] G__law_rise := kfn_of Y.fd__law_rise S__law_rise [false, false] b__law_rise rfl (body__law_rise Y)
abbrev N__law_cost : List Str := ["_law_land_here", "_law_goal_here", "_law_more_here", "_law_rise_here", "_law_fenced", "_law_pairs", "_law_most", "_law_total", "_law_price", "_law_k", "_law_one"]
theorem S__law_cost : FnScope ["_law_land_here", "_law_goal_here", "_law_more_here", "_law_rise_here", "_law_fenced", "_law_pairs", "_law_most", "_law_total", "_law_price", "_law_k", "_law_one"] ["_law_land_here", "_law_goal_here"] (defScope s__law_cost) := ⟨rfl, rfl, rfl, by decide +kernel, rfl, by decide +kernel, by decide +kernel⟩
theorem body__law_cost (Y : Fx K mg base adr T) : BodyOk P w K mg base adr T ["_law_land_here", "_law_goal_here", "_law_more_here", "_law_rise_here", "_law_fenced", "_law_pairs", "_law_most", "_law_total", "_law_price", "_law_k", "_law_one"] "_law_cost" s__law_cost (adr 427) 1 [false, false] b__law_cost := fun cdv A outer s H E hr tk => by
  have S := S__law_cost
  exact (pss_d (ps_dset 2 S.nd (pd_frz (pd_call (k__law_more Y) hr (by decide) tk (pa_c (pd_var 0) (pa_c (pd_var 1) pa_c0))))) (pss_d (ps_dset 3 S.nd (pd_frz (pd_call (k__law_rise Y) hr (by decide) tk (pa_c (pd_var 0) (pa_c (pd_var 2) pa_c0))))) (pss_d (ps_dsetLc 4 11 [("_law_price", 8)] rfl rfl S.nd (pid_tup (pd_ix oIx (pd_var 0) pd_int (fun _ _ => rfl))) (blkOk_by (N := N__law_cost) (sc := defScope s__law_cost) (by decide +kernel)) (fun _ _ _ _ _ => (pg_d 8 S.nd)) (fun _ _ _ _ _ => (pts_d1 (pt_cmpD oNotN (pd_var 8) pd_non (nomark _)))) (fun _ _ _ _ _ => (pd_var 8))) (pss_frz 4 (pss_d (ps_dif (pt_cmpD (oNe (Room.units hr)) (pd_lc 11 [("_law_k", 9)] rfl rfl S.nd (pid_range1 rfl Y.n_range (pa_d (pd_callB kLen rfl Y.n_len bt_len (pa_d (pd_var 3) pa_d0)) pa_d0)) (blkOk_by (N := N__law_cost) (sc := defScope s__law_cost) (by decide +kernel)) (fun _ _ _ _ _ => (pg_d 9 S.nd)) (fun _ _ _ _ _ => (pts_d1 (PW.pt (pwd_and (pt_cmpD (oNe (Room.units hr)) (pd_ix oIx (pd_var 3) (pd_var 9) (fun _ _ => rfl)) pd_int (nomark _)) (pwd_1 (pt_cmpD oIsN (pd_ix oIx (pd_ix oIx (pd_var 0) pd_int (fun _ _ => rfl)) (pd_var 9) (fun _ _ => rfl)) pd_non (nomark _)) (by first | exact .inl rfl | exact .inr rfl)))))) (fun _ _ _ _ _ => (pd_var 9))) (pd_lst pa_d0) (nomark _)) (pss_d1 (ps_dret pd_non)) pss_d0) (pss_d (ps_dpar 5 6 S.nd (pa_d (pd_op oFdiv (pd_callB (kSum rfl) rfl Y.n_sum bt_sum (pa_d (pd_lc 11 [("_law_one", 10)] rfl rfl S.nd (pid_list (pd_var 3)) (blkOk_by (N := N__law_cost) (sc := defScope s__law_cost) (by decide +kernel)) (fun _ _ _ _ _ => (pg_d 10 S.nd)) (fun _ _ _ _ _ => pts_d0) (fun _ _ _ _ _ => (pd_callB kAbs rfl Y.n_abs bt_abs (pa_d (pd_var 10) pa_d0)))) pa_d0)) pd_int) (pa_d (pd_callB (kMax rfl) rfl Y.n_max bt_max (pa_d (pd_lc 11 [("_law_one", 10)] rfl rfl S.nd (pid_list (pd_var 2)) (blkOk_by (N := N__law_cost) (sc := defScope s__law_cost) (by decide +kernel)) (fun _ _ _ _ _ => (pg_d 10 S.nd)) (fun _ _ _ _ _ => pts_d0) (fun _ _ _ _ _ => (pd_callB kAbs rfl Y.n_abs bt_abs (pa_d (pd_var 10) pa_d0)))) pa_d0)) pa_d0))) (pss_d (ps_dset 7 S.nd (pd_callB (kSum rfl) rfl Y.n_sum bt_sum (pa_d (pd_lc 11 [("_law_k", 9)] rfl rfl S.nd (pid_range1 rfl Y.n_range (pa_d (pd_callB kLen rfl Y.n_len bt_len (pa_d (pd_var 3) pa_d0)) pa_d0)) (blkOk_by (N := N__law_cost) (sc := defScope s__law_cost) (by decide +kernel)) (fun _ _ _ _ _ => (pg_d 9 S.nd)) (fun _ _ _ _ _ => pts_d0) (fun _ _ _ _ _ => (pd_op oMul (pd_callB kAbs rfl Y.n_abs bt_abs (pa_d (pd_ix oIx (pd_var 3) (pd_var 9) (fun _ _ => rfl)) pa_d0)) (pd_orW (pd_ix oIx (pd_ix oIx (pd_var 0) pd_int (fun _ _ => rfl)) (pd_var 9) (fun _ _ => rfl)) (pe_one pd_int))))) pa_d0))) (pss_d (ps_dif (PW.pt (pwd_or (pt_cmpD (oEq (Room.units hr)) (pd_ix oIx (pd_var 0) pd_int (fun _ _ => rfl)) pd_str (nomark _)) (pwd_1 (pt_cmpD oLe (pd_var 6) (pd_var 5) (nomark _)) (by first | exact .inl rfl | exact .inr rfl)))) (pss_d1 (ps_dret (pd_tup (pa_d (pd_var 7) (pa_d (pd_var 5) pa_d0))))) pss_d0) (pss_d1 (ps_dret (pd_ifExp (pt_cmpD (oNe (Room.units hr)) (pd_var 4) (pd_lst pa_d0) (nomark _)) (pd_tup (pa_d (pd_op oAdd (pd_var 7) (pd_op oMul (pd_op oMul pd_int (pd_callB (kMin rfl) rfl Y.n_min bt_min (pa_d (pd_var 4) pa_d0))) (pd_op oSub (pd_var 6) (pd_var 5)))) (pa_d (pd_var 6) pa_d0))) pd_non)))))))))))
theorem k__law_cost (Y : Fx K mg base adr T) : KFn P w K mg base adr T 2 "_law_cost" [false, false] G__law_cost := kfn_of Y.fd__law_cost S__law_cost [false, false] b__law_cost rfl (body__law_cost Y)
abbrev N_first_wrong : List Str := ["some", "least", "most", "is_good", "number", "one"]
theorem S_first_wrong : FnScope ["some", "least", "most", "is_good", "number", "one"] ["some", "least", "most", "is_good"] (defScope s_first_wrong) := ⟨rfl, rfl, rfl, by decide +kernel, rfl, by decide +kernel, by decide +kernel⟩
theorem body_first_wrong (Y : Fx K mg base adr T) (tb : Nat → Option (List D → FR)) (ok : ∀ n G, tb n = some G → KFv P w K mg base adr T 3 n [false] G) : BodyOk P w K mg base adr T ["some", "least", "most", "is_good", "number", "one"] "first_wrong" s_first_wrong (adr 42) 3 [false, false, false, false] (LC.b_first_wrong tb) := fun cdv A outer s H E hr tk => by
  have S := S_first_wrong
  exact (pss_d (ps_dif (pd_not (pd_test (pd_callB kIsi rfl Y.n_isinstance bt_isinstance (pa_d (pd_var 0) (pa_d (pd_bltn (n := "tuple") rfl Y.n_tuple bt_tuple) pa_d0))))) (pss_d1 (ps_dret pd_int)) pss_d0) (pss_d (ps_dfor (passes_of rfl) rfl (pid_enumT rfl Y.n_enumerate (pa_d (pd_var 0) pa_d0)) (pg_dt 2 rfl (pgs_d (pg_d 4 S.nd) (pgs_d (pg_d 5 S.nd) pgs_d0))) (pss_d1 (ps_dif (PW.pt (pwd_or (pt_cmpD (oEq (Room.units hr)) (pd_var 4) (pd_var 2) (nomark _)) (pwd_1 (pd_not (pd_test (pd_callV (k := 3) 3 tb ok hr (by decide) tk (pa_c (pd_var 5) pa_c0)))) (by first | exact .inl rfl | exact .inr rfl)))) (pss_d1 (ps_dret (pd_var 4))) pss_d0))) (pss_d1 (ps_dret (pd_ifExp (pt_cmpD oLt (pd_callB kLen rfl Y.n_len bt_len (pa_d (pd_var 0) pa_d0)) (pd_var 1) (nomark _)) (pd_callB kLen rfl Y.n_len bt_len (pa_d (pd_var 0) pa_d0)) pd_non)))))
theorem k_first_wrong (Y : Fx K mg base adr T) (tb : Nat → Option (List D → FR)) (ok : ∀ n G, tb n = some G → KFv P w K mg base adr T 3 n [false] G) : KFn P w K mg base adr T 4 "first_wrong" [false, false, false, false] (LC.G_first_wrong tb) := kfn_of Y.fd_first_wrong S_first_wrong [false, false, false, false] (LC.b_first_wrong tb) rfl (body_first_wrong Y tb ok)
abbrev N_is_number : List Str := ["thing", "low", "high"]
theorem S_is_number : FnScope ["thing", "low", "high"] ["thing", "low", "high"] (defScope s_is_number) := ⟨rfl, rfl, rfl, by decide +kernel, rfl, by decide +kernel, by decide +kernel⟩
theorem body_is_number (Y : Fx K mg base adr T) : BodyOk P w K mg base adr T ["thing", "low", "high"] "is_number" s_is_number (adr 40) 0 [false, false, false] LC.b_is_number := fun cdv A outer s H E hr tk => by
  have S := S_is_number
  exact (pss_d1 (ps_dret (pd_andV (pd_callB kIsi rfl Y.n_isinstance bt_isinstance (pa_d (pd_var 0) (pa_d (pd_bltn (n := "int") rfl Y.n_int bt_int) pa_d0))) (pd_andV (pd_notV (pd_callB kIsi rfl Y.n_isinstance bt_isinstance (pa_d (pd_var 0) (pa_d (pd_bltn (n := "bool") rfl Y.n_bool bt_bool) pa_d0)))) (pe_one (pd_chain oLe oLe (pd_var 1) (pd_var 0) (pd_var 2)))))))
theorem k_is_number (Y : Fx K mg base adr T) : KFn P w K mg base adr T 1 "is_number" [false, false, false] LC.G_is_number := kfn_of Y.fd_is_number S_is_number [false, false, false] LC.b_is_number rfl (body_is_number Y)
abbrev N_is_height : List Str := ["thing"]
theorem S_is_height : FnScope ["thing"] ["thing"] (defScope s_is_height) := ⟨rfl, rfl, rfl, by decide +kernel, rfl, by decide +kernel, by decide +kernel⟩
theorem body_is_height (Y : Fx K mg base adr T) : BodyOk P w K mg base adr T ["thing"] "is_height" s_is_height (adr 43) 1 [false] LC.b_is_height := fun cdv A outer s H E hr tk => by
  have S := S_is_height
  exact (pss_d1 (ps_dret (pd_call (k_is_number Y) hr (by decide) tk (pa_c (pd_var 0) (pa_c pd_int (pa_c (pd_gc rfl Y.c_MOST_HEIGHT (.int _)) pa_c0))))))
theorem k_is_height (Y : Fx K mg base adr T) : KFn P w K mg base adr T 2 "is_height" [false] LC.G_is_height := kfn_of Y.fd_is_height S_is_height [false] LC.b_is_height rfl (body_is_height Y)
theorem kv_is_height (Y : Fx K mg base adr T) : KFv P w K mg base adr T 2 43 [false] LC.G_is_height := kfv_of Y.fd_is_height S_is_height [false] LC.b_is_height rfl (body_is_height Y)
abbrev tb_is_height := LC.tb_is_height
theorem tbok_is_height (Y : Fx K mg base adr T) : ∀ n G, tb_is_height n = some G → KFv P w K mg base adr T 3 n [false] G := fun n G e => by
  replace e : LC.tb_is_height n = some G := e
  unfold LC.tb_is_height at e
  split at e
  · cases e; exact (kv_is_height Y).mono (by decide)
  · cases e
abbrev N_borders_of : List Str := ["shape", "many"]
theorem S_borders_of : FnScope ["shape", "many"] ["shape", "many"] (defScope s_borders_of) := ⟨rfl, rfl, rfl, by decide +kernel, rfl, by decide +kernel, by decide +kernel⟩
theorem body_borders_of (Y : Fx K mg base adr T) : BodyOk P w K mg base adr T ["shape", "many"] "borders_of" s_borders_of (adr 41) 0 [false, false] LC.b_borders_of := fun cdv A outer s H E hr tk => by
  have S := S_borders_of
  exact (pss_d1 (ps_dret (pd_op oAdd (pd_var 1) (pd_callTy kInt rfl Y.n_int bt_int (pa_d (pd_cmp (oEq (Room.units hr)) (pd_var 0) (pd_gc rfl Y.c_ROW (.str _)) (nomark _)) pa_d0)))))
theorem k_borders_of (Y : Fx K mg base adr T) : KFn P w K mg base adr T 1 "borders_of" [false, false] LC.G_borders_of := kfn_of Y.fd_borders_of S_borders_of [false, false] LC.b_borders_of rfl (body_borders_of Y)
abbrev N_is_price : List Str := ["thing"]
theorem S_is_price : FnScope ["thing"] ["thing"] (defScope s_is_price) := ⟨rfl, rfl, rfl, by decide +kernel, rfl, by decide +kernel, by decide +kernel⟩
theorem body_is_price (Y : Fx K mg base adr T) : BodyOk P w K mg base adr T ["thing"] "is_price" s_is_price (adr 44) 1 [false] LC.b_is_price := fun cdv A outer s H E hr tk => by
  have S := S_is_price
  exact (pss_d1 (ps_dret (pd_orV (pd_cmp oIsN (pd_var 0) pd_non (nomark _)) (pe_one (pd_call (k_is_number Y) hr (by decide) tk (pa_c (pd_var 0) (pa_c pd_int (pa_c (pd_gc rfl Y.c_MOST_PRICE (.int _)) pa_c0))))))))
theorem k_is_price (Y : Fx K mg base adr T) : KFn P w K mg base adr T 2 "is_price" [false] LC.G_is_price := kfn_of Y.fd_is_price S_is_price [false] LC.b_is_price rfl (body_is_price Y)
theorem kv_is_price (Y : Fx K mg base adr T) : KFv P w K mg base adr T 2 44 [false] LC.G_is_price := kfv_of Y.fd_is_price S_is_price [false] LC.b_is_price rfl (body_is_price Y)
abbrev tb_is_price := LC.tb_is_price
theorem tbok_is_price (Y : Fx K mg base adr T) : ∀ n G, tb_is_price n = some G → KFv P w K mg base adr T 3 n [false] G := fun n G e => by
  replace e : LC.tb_is_price n = some G := e
  unfold LC.tb_is_price at e
  split at e
  · cases e; exact (kv_is_price Y).mono (by decide)
  · cases e
abbrev N_need_land : List Str := ["land", "shape", "heights", "prices", "wrong", "many"]
theorem S_need_land : FnScope ["land", "shape", "heights", "prices", "wrong", "many"] ["land"] (defScope s_need_land) := ⟨rfl, rfl, rfl, by decide +kernel, rfl, by decide +kernel, by decide +kernel⟩
theorem body_need_land (Y : Fx K mg base adr T) : BodyOk P w K mg base adr T ["land", "shape", "heights", "prices", "wrong", "many"] "need_land" s_need_land (adr 45) 4 [false] LC.b_need_land := fun cdv A outer s H E hr tk => by
  have S := S_need_land
  exact (pss_d (ps_dif (PW.pt (pwd_or (pd_not (pd_test (pd_callB kIsi rfl Y.n_isinstance bt_isinstance (pa_d (pd_var 0) (pa_d (pd_bltn (n := "tuple") rfl Y.n_tuple bt_tuple) pa_d0))))) (pwd_1 (pt_cmpD (oNe (Room.units hr)) (pd_callB kLen rfl Y.n_len bt_len (pa_d (pd_var 0) pa_d0)) pd_int (nomark _)) (by first | exact .inl rfl | exact .inr rfl)))) (pss_d1 (ps_dxr rfl tk (xi_11 Y) hr (by decide) (pa_d (pd_un oNeg pd_int) (pa_d pd_int pa_d0)))) pss_d0) (pss_d (ps_dasg (pd_var 0) (pg_dt 3 rfl (pgs_d (pg_d 1 S.nd) (pgs_d (pg_d 2 S.nd) (pgs_d (pg_d 3 S.nd) pgs_d0))))) (pss_d (ps_dif (PW.pt (pwd_or (pd_not (pd_test (pd_callB kIsi rfl Y.n_isinstance bt_isinstance (pa_d (pd_var 1) (pa_d (pd_bltn (n := "str") rfl Y.n_str bt_str) pa_d0))))) (pwd_1 (pt_cmpD oNotIn (pd_var 1) (pd_tup (pa_d (pd_gc rfl Y.c_ROW (.str _)) (pa_d (pd_gc rfl Y.c_RING (.str _)) pa_d0))) rfl) (by first | exact .inl rfl | exact .inr rfl)))) (pss_d1 (ps_dxr rfl tk (xi_11 Y) hr (by decide) (pa_d pd_int (pa_d pd_int pa_d0)))) pss_d0) (pss_d (ps_dset 4 S.nd (pd_call (k_first_wrong Y tb_is_height (tbok_is_height Y)) hr (by decide) tk (pa_c (pd_var 2) (pa_c (pd_gc rfl Y.c_LEAST_FIELDS (.int _)) (pa_c (pd_gc rfl Y.c_MOST_FIELDS (.int _)) (pa_c (pd_globF (n := 43) rfl Y.fd_is_height.at_) pa_c0)))))) (pss_d (ps_dif (pt_cmpD oNotN (pd_var 4) pd_non (nomark _)) (pss_d1 (ps_dxr rfl tk (xi_11 Y) hr (by decide) (pa_d pd_int (pa_d (pd_var 4) pa_d0)))) pss_d0) (pss_d (ps_dset 5 S.nd (pd_call (k_borders_of Y) hr (by decide) tk (pa_c (pd_var 1) (pa_c (pd_callB kLen rfl Y.n_len bt_len (pa_d (pd_var 2) pa_d0)) pa_c0)))) (pss_d (ps_dset 4 S.nd (pd_call (k_first_wrong Y tb_is_price (tbok_is_price Y)) hr (by decide) tk (pa_c (pd_var 3) (pa_c (pd_var 5) (pa_c (pd_var 5) (pa_c (pd_globF (n := 44) rfl Y.fd_is_price.at_) pa_c0)))))) (pss_d1 (ps_dif (pt_cmpD oNotN (pd_var 4) pd_non (nomark _)) (pss_d1 (ps_dxr rfl tk (xi_11 Y) hr (by decide) (pa_d pd_int (pa_d (pd_var 4) pa_d0)))) pss_d0)))))))))
theorem k_need_land (Y : Fx K mg base adr T) : KFn P w K mg base adr T 5 "need_land" [false] LC.G_need_land := kfn_of Y.fd_need_land S_need_land [false] LC.b_need_land rfl (body_need_land Y)
abbrev N_need_goal : List Str := ["land", "goal", "many", "wrong"]
theorem S_need_goal : FnScope ["land", "goal", "many", "wrong"] ["land", "goal"] (defScope s_need_goal) := ⟨rfl, rfl, rfl, by decide +kernel, rfl, by decide +kernel, by decide +kernel⟩
theorem body_need_goal (Y : Fx K mg base adr T) : BodyOk P w K mg base adr T ["land", "goal", "many", "wrong"] "need_goal" s_need_goal (adr 46) 4 [false, false] LC.b_need_goal := fun cdv A outer s H E hr tk => by
  have S := S_need_goal
  exact (pss_d (ps_dset 2 S.nd (pd_callB kLen rfl Y.n_len bt_len (pa_d (pd_ix oIx (pd_var 0) pd_int (fun _ _ => rfl)) pa_d0))) (pss_d (ps_dset 3 S.nd (pd_call (k_first_wrong Y tb_is_height (tbok_is_height Y)) hr (by decide) tk (pa_c (pd_var 1) (pa_c (pd_var 2) (pa_c (pd_var 2) (pa_c (pd_globF (n := 43) rfl Y.fd_is_height.at_) pa_c0)))))) (pss_d1 (ps_dif (pt_cmpD oNotN (pd_var 3) pd_non (nomark _)) (pss_d1 (ps_dxr rfl tk (xi_12 Y) hr (by decide) (pa_d (pd_var 3) pa_d0))) pss_d0))))
theorem k_need_goal (Y : Fx K mg base adr T) : KFn P w K mg base adr T 5 "need_goal" [false, false] LC.G_need_goal := kfn_of Y.fd_need_goal S_need_goal [false, false] LC.b_need_goal rfl (body_need_goal Y)
abbrev N_differences : List Str := ["heights", "goal", "first", "last"]
theorem S_differences : FnScope ["heights", "goal", "first", "last"] ["heights", "goal"] (defScope s_differences) := ⟨rfl, rfl, rfl, by decide +kernel, rfl, by decide +kernel, by decide +kernel⟩
theorem body_differences (Y : Fx K mg base adr T) : BodyOk P w K mg base adr T ["heights", "goal", "first", "last"] "differences" s_differences (adr 47) 0 [false, false] LC.b_differences := fun cdv A outer s H E hr tk => by
  have S := S_differences
  exact (pss_d1 (ps_dret (pd_lc 4 [("first", 2), ("last", 3)] rfl rfl S.nd (pid_zip rfl Y.n_zip (pa_d (pd_var 0) (pa_d (pd_var 1) pa_d0))) (blkOk_by (N := N_differences) (sc := defScope s_differences) (by decide +kernel)) (fun _ _ _ _ _ => (pg_dt 2 rfl (pgs_d (pg_d 2 S.nd) (pgs_d (pg_d 3 S.nd) pgs_d0)))) (fun _ _ _ _ _ => pts_d0) (fun _ _ _ _ _ => (pd_op oSub (pd_var 3) (pd_var 2))))))
theorem k_differences (Y : Fx K mg base adr T) : KFn P w K mg base adr T 1 "differences" [false, false] LC.G_differences := kfn_of Y.fd_differences S_differences [false, false] LC.b_differences rfl (body_differences Y)
abbrev N_rises_of : List Str := ["shape", "more", "ahead", "found", "one"]
theorem S_rises_of : FnScope ["shape", "more", "ahead", "found", "one"] ["shape", "more"] (defScope s_rises_of) := ⟨rfl, rfl, rfl, by decide +kernel, rfl, by decide +kernel, by decide +kernel⟩
theorem body_rises_of (Y : Fx K mg base adr T) : BodyOk P w K mg base adr T ["shape", "more", "ahead", "found", "one"] "rises_of" s_rises_of (adr 48) 0 [false, false] LC.b_rises_of := fun cdv A outer s H E hr tk => by
  have S := S_rises_of
  exact (pss_d (ps_dset 2 S.nd (pd_ifExp (pt_cmpD (oEq (Room.units hr)) (pd_var 0) (pd_gc rfl Y.c_RING (.str _)) (nomark _)) (pd_ix oIx (pd_var 1) (pd_un oNeg pd_int) (fun _ _ => rfl)) pd_int)) (pss_d (ps_dset 3 S.nd (pd_lst pa_d0)) (pss_d (ps_dfor (passes_of rfl) rfl (pid_list (pd_var 1)) (pg_d 4 S.nd) (pss_d (ps_dexpr (pd_app 3 (pd_op oSub (pd_var 4) (pd_var 2)))) (pss_d1 (ps_dset 2 S.nd (pd_var 4))))) (pss_d1 (ps_dret (pd_ifExp (pt_cmpD (oEq (Room.units hr)) (pd_var 0) (pd_gc rfl Y.c_RING (.str _)) (nomark _)) (pd_move 3) (pd_op oAdd (pd_move 3) (pd_lst (pa_d (pd_op oSub pd_int (pd_var 2)) pa_d0)))))))))
theorem k_rises_of (Y : Fx K mg base adr T) : KFn P w K mg base adr T 1 "rises_of" [false, false] LC.G_rises_of := kfn_of Y.fd_rises_of S_rises_of [false, false] LC.b_rises_of rfl (body_rises_of Y)
abbrev N_Task_greatest : List Str := ["self", "one"]
theorem S_Task_greatest : FnScope ["self", "one"] ["self"] (defScope s_Task_greatest) := ⟨rfl, rfl, rfl, by decide +kernel, rfl, by decide +kernel, by decide +kernel⟩
theorem body_Task_greatest (Y : Fx K mg base adr T) : BodyOk P w K mg base adr T ["self", "one"] "Task.greatest" s_Task_greatest (adr 51) 0 [true] LC.b_Task_greatest := fun cdv A outer s H E hr tk => by
  have S := S_Task_greatest
  exact (pss_d1 (ps_dret (pd_callB (kMax rfl) rfl Y.n_max bt_max (pa_d (pd_lc 2 [("one", 1)] rfl rfl S.nd (pid_list (pd_fld 0 0 1 Y.cls_0 Y.na_0_more)) (blkOk_by (N := N_Task_greatest) (sc := defScope s_Task_greatest) (by decide +kernel)) (fun _ _ _ _ _ => (pg_d 1 S.nd)) (fun _ _ _ _ _ => pts_d0) (fun _ _ _ _ _ => (pd_callB kAbs rfl Y.n_abs bt_abs (pa_d (pd_var 1) pa_d0)))) pa_d0))))
theorem k_Task_greatest (Y : Fx K mg base adr T) : KMt P w K mg base adr T 1 0 "greatest" [true] LC.G_Task_greatest := kmt_of Y.cls_0 Y.fd_Task_greatest S_Task_greatest [true] LC.b_Task_greatest rfl (by decide) (body_Task_greatest Y)
abbrev N_Task___init__ : List Str := ["self", "land", "goal", "one"]
theorem S_Task___init__ : FnScope ["self", "land", "goal", "one"] ["self", "land", "goal"] (defScope s_Task___init__) := ⟨rfl, rfl, rfl, by decide +kernel, rfl, by decide +kernel, by decide +kernel⟩
theorem body_Task___init__ (Y : Fx K mg base adr T) : BodyOk P w K mg base adr T ["self", "land", "goal", "one"] "Task.__init__" s_Task___init__ (adr 50) 1 [true, false, false] LC.b_Task___init__ := fun cdv A outer s H E hr tk => by
  have S := S_Task___init__
  exact (pss_d (ps_dfld 0 0 0 Y.cls_0 Y.na_0_land (pd_var 1)) (pss_d (ps_dfld 0 0 1 Y.cls_0 Y.na_0_more (pd_frz (pd_call (k_differences Y) hr (by decide) tk (pa_c (pd_ix oIx (pd_var 1) pd_int (fun _ _ => rfl)) (pa_c (pd_var 2) pa_c0))))) (pss_d (ps_dfld 0 0 2 Y.cls_0 Y.na_0_rise (pd_frz (pd_call (k_rises_of Y) hr (by decide) tk (pa_c (pd_ix oIx (pd_var 1) pd_int (fun _ _ => rfl)) (pa_c (pd_fld 0 0 1 Y.cls_0 Y.na_0_more) pa_c0))))) (pss_d (ps_dfld 0 0 3 Y.cls_0 Y.na_0_pairs (pd_callB (kSum rfl) rfl Y.n_sum bt_sum (pa_d (pd_lc 4 [("one", 3)] rfl rfl S.nd (pid_list (pd_fld 0 0 2 Y.cls_0 Y.na_0_rise)) (blkOk_by (N := N_Task___init__) (sc := defScope s_Task___init__) (by decide +kernel)) (fun _ _ _ _ _ => (pg_d 3 S.nd)) (fun _ _ _ _ _ => (pts_d1 (pt_cmpD oGt (pd_var 3) pd_int (nomark _)))) (fun _ _ _ _ _ => (pd_var 3))) pa_d0))) (pss_d1 (ps_dfld 0 0 4 Y.cls_0 Y.na_0_rings (pd_ifExp (pt_cmpD (oEq (Room.units hr)) (pd_ix oIx (pd_var 1) pd_int (fun _ _ => rfl)) (pd_gc rfl Y.c_RING (.str _)) (nomark _)) (pd_callB (kMax2 rfl) rfl Y.n_max bt_max (pa_d pd_int (pa_d (pd_op oSub (pd_methV0 0 (k_Task_greatest Y) hr (by decide) tk) (pd_fld 0 0 3 Y.cls_0 Y.na_0_pairs)) pa_d0))) pd_int)))))))
theorem k_Task___init__ (Y : Fx K mg base adr T) : KMk P w K mg base adr T 2 0 "Task" [false, false] LC.G_Task___init__ := kmk_of Y.fd_Task___init__ Y.mk_0 Y.kc_0 Y.at_0 S_Task___init__ [false, false] LC.b_Task___init__ rfl (body_Task___init__ Y)
abbrev N_task_of : List Str := ["land", "goal"]
theorem S_task_of : FnScope ["land", "goal"] ["land", "goal"] (defScope s_task_of) := ⟨rfl, rfl, rfl, by decide +kernel, rfl, by decide +kernel, by decide +kernel⟩
theorem body_task_of (Y : Fx K mg base adr T) : BodyOk P w K mg base adr T ["land", "goal"] "task_of" s_task_of (adr 59) 5 [false, false] LC.b_task_of := fun cdv A outer s H E hr tk => by
  have S := S_task_of
  exact (pss_d (ps_dexpr (pd_call (k_need_land Y) hr (by decide) tk (pa_c (pd_var 0) pa_c0))) (pss_d (ps_dexpr (pd_call (k_need_goal Y) hr (by decide) tk (pa_c (pd_var 0) (pa_c (pd_var 1) pa_c0)))) (pss_d1 (ps_dret (pd_make (k_Task___init__ Y) hr (by decide) tk (pa_c (pd_var 0) (pa_c (pd_var 1) pa_c0)))))))
theorem k_task_of (Y : Fx K mg base adr T) : KFn P w K mg base adr T 6 "task_of" [false, false] LC.G_task_of := kfn_of Y.fd_task_of S_task_of [false, false] LC.b_task_of rfl (body_task_of Y)
abbrev N_Task_fences : List Str := ["self", "border", "price"]
theorem S_Task_fences : FnScope ["self", "border", "price"] ["self"] (defScope s_Task_fences) := ⟨rfl, rfl, rfl, by decide +kernel, rfl, by decide +kernel, by decide +kernel⟩
theorem body_Task_fences (Y : Fx K mg base adr T) : BodyOk P w K mg base adr T ["self", "border", "price"] "Task.fences" s_Task_fences (adr 52) 0 [true] LC.b_Task_fences := fun cdv A outer s H E hr tk => by
  have S := S_Task_fences
  exact (pss_d1 (ps_dret (pd_lc 3 [("border", 1), ("price", 2)] rfl rfl S.nd (pid_enumT rfl Y.n_enumerate (pa_d (pd_ix oIx (pd_fld 0 0 0 Y.cls_0 Y.na_0_land) pd_int (fun _ _ => rfl)) pa_d0)) (blkOk_by (N := N_Task_fences) (sc := defScope s_Task_fences) (by decide +kernel)) (fun _ _ _ _ _ => (pg_dt 2 rfl (pgs_d (pg_d 1 S.nd) (pgs_d (pg_d 2 S.nd) pgs_d0)))) (fun _ _ _ _ _ => (pts_d1 (pt_cmpD oNotN (pd_var 2) pd_non (nomark _)))) (fun _ _ _ _ _ => (pd_var 1)))))
theorem k_Task_fences (Y : Fx K mg base adr T) : KMt P w K mg base adr T 1 0 "fences" [true] LC.G_Task_fences := kmt_of Y.cls_0 Y.fd_Task_fences S_Task_fences [true] LC.b_Task_fences rfl (by decide) (body_Task_fences Y)
abbrev N_Task_barred : List Str := ["self", "border", "one"]
theorem S_Task_barred : FnScope ["self", "border", "one"] ["self"] (defScope s_Task_barred) := ⟨rfl, rfl, rfl, by decide +kernel, rfl, by decide +kernel, by decide +kernel⟩
theorem body_Task_barred (Y : Fx K mg base adr T) : BodyOk P w K mg base adr T ["self", "border", "one"] "Task.barred" s_Task_barred (adr 53) 1 [true] LC.b_Task_barred := fun cdv A outer s H E hr tk => by
  have S := S_Task_barred
  exact (pss_d (ps_dfor (passes_of rfl) rfl (pid_enumL rfl Y.n_enumerate (pa_d (pd_fld 0 0 2 Y.cls_0 Y.na_0_rise) pa_d0)) (pg_dt 2 rfl (pgs_d (pg_d 1 S.nd) (pgs_d (pg_d 2 S.nd) pgs_d0))) (pss_d1 (ps_dif (PW.pt (pwd_and (pt_cmpD (oNe (Room.units hr)) (pd_var 2) pd_int (nomark _)) (pwd_1 (pt_cmpD oIsN (pd_ix oIx (pd_ix oIx (pd_fld 0 0 0 Y.cls_0 Y.na_0_land) pd_int (fun _ _ => rfl)) (pd_var 1) (fun _ _ => rfl)) pd_non (nomark _)) (by first | exact .inl rfl | exact .inr rfl)))) (pss_d1 (ps_dret (pd_var 1))) pss_d0))) (pss_d1 (ps_dret (pd_ifExp (PW.pt (pwd_and (pt_cmpD (oEq (Room.units hr)) (pd_methV0 0 (k_Task_fences Y) hr (by decide) tk) (pd_lst pa_d0) (nomark _)) (pwd_1 (pt_cmpD oGt (pd_methV0 0 (k_Task_greatest Y) hr (by decide) tk) pd_int (nomark _)) (by first | exact .inl rfl | exact .inr rfl)))) pd_int pd_non))))
theorem k_Task_barred (Y : Fx K mg base adr T) : KMt P w K mg base adr T 2 0 "barred" [true] LC.G_Task_barred := kmt_of Y.cls_0 Y.fd_Task_barred S_Task_barred [true] LC.b_Task_barred rfl (by decide) (body_Task_barred Y)
abbrev N_Task_cheapest : List Str := ["self"]
theorem S_Task_cheapest : FnScope ["self"] ["self"] (defScope s_Task_cheapest) := ⟨rfl, rfl, rfl, by decide +kernel, rfl, by decide +kernel, by decide +kernel⟩
theorem body_Task_cheapest (Y : Fx K mg base adr T) : BodyOkC P w K mg base adr T ["self"] "Task.cheapest" s_Task_cheapest (adr 54) (.ref (adr 201)) 2 [true] LC.b_Task_cheapest := fun A outer s H E hr tk => by
  have S := S_Task_cheapest
  exact (pss_d1 (ps_dret (pd_minKey (k := 0) (x := "border") (pd_methV0 0 (k_Task_fences Y) hr (by decide) tk) rfl Y.n_min (show ¬ ("border" : Str) ∈ N_Task_cheapest by decide) Y.tb_Task_cheapest rfl Y.in_Task_cheapest Y.one_Task_cheapest (hr.mono (by decide)) (DS.lamS1_by (sc := defScope s_Task_cheapest) (x := "border") (by decide +kernel)) rfl (fun _ _ _ _ _ _ => rfl) (ro_O2 (ro_O2 ro_fld ro_C) ro_V) (fun _ _ _ _ _ hr => (pd_ix oIx (pd_ix oIx (pd_fld 0 0 0 Y.cls_0 Y.na_0_land) pd_int (fun _ _ => rfl)) (pd_var 1) (fun _ _ => rfl))))))
theorem k_Task_cheapest (Y : Fx K mg base adr T) : KMt P w K mg base adr T 3 0 "cheapest" [true] LC.G_Task_cheapest := kmt_ofC Y.cls_0 Y.fd_Task_cheapest S_Task_cheapest [true] LC.b_Task_cheapest rfl (by decide) (body_Task_cheapest Y)
abbrev N_Task_whole : List Str := ["self", "word"]
theorem S_Task_whole : FnScope ["self", "word"] ["self"] (defScope s_Task_whole) := ⟨rfl, rfl, rfl, by decide +kernel, rfl, by decide +kernel, by decide +kernel⟩
theorem body_Task_whole (Y : Fx K mg base adr T) : BodyOk P w K mg base adr T ["self", "word"] "Task.whole" s_Task_whole (adr 55) 3 [true] LC.b_Task_whole := fun cdv A outer s H E hr tk => by
  have S := S_Task_whole
  exact (pss_d (ps_dif (pt_cmpD (oEq (Room.units hr)) (pd_fld 0 0 4 Y.cls_0 Y.na_0_rings) pd_int (nomark _)) (pss_d1 (ps_dret (pd_lst pa_d0))) pss_d0) (pss_d (ps_dset 1 S.nd (pd_ifExp (pt_cmpD (oEq (Room.units hr)) (pd_callB (kMax rfl) rfl Y.n_max bt_max (pa_d (pd_fld 0 0 1 Y.cls_0 Y.na_0_more) pa_d0)) (pd_methV0 0 (k_Task_greatest Y) hr (by decide) tk) (nomark _)) (pd_gc rfl Y.c_RAISE (.str _)) (pd_gc rfl Y.c_LOWER (.str _)))) (pss_d1 (ps_dret (pd_op oMul (pd_lst (pa_d (pd_tup (pa_d (pd_var 1) (pa_d (pd_methV0 0 (k_Task_cheapest Y) hr (by decide) tk) (pa_d (pd_methV0 0 (k_Task_cheapest Y) hr (by decide) tk) pa_d0)))) pa_d0)) (pd_fld 0 0 4 Y.cls_0 Y.na_0_rings))))))
theorem k_Task_whole (Y : Fx K mg base adr T) : KMt P w K mg base adr T 4 0 "whole" [true] LC.G_Task_whole := kmt_of Y.cls_0 Y.fd_Task_whole S_Task_whole [true] LC.b_Task_whole rfl (by decide) (body_Task_whole Y)
abbrev N_Task_matched : List Str := ["self", "ups", "downs", "many", "sign", "total", "far", "found", "number", "up", "turns", "place", "down", "border", "one", "turn"]
theorem S_Task_matched : FnScope ["self", "ups", "downs", "many", "sign", "total", "far", "found", "number", "up", "turns", "place", "down", "border", "one", "turn"] ["self"] (defScope s_Task_matched) := ⟨rfl, rfl, rfl, by decide +kernel, rfl, by decide +kernel, by decide +kernel⟩
theorem body_Task_matched (Y : Fx K mg base adr T) : BodyOk P w K mg base adr T ["self", "ups", "downs", "many", "sign", "total", "far", "found", "number", "up", "turns", "place", "down", "border", "one", "turn"] "Task.matched" s_Task_matched (adr 56) 1 [true] LC.b_Task_matched := fun cdv A outer s H E hr tk => by
  have S := S_Task_matched
  exact (pss_d (ps_dsetLc2 1 16 [("border", 13), ("one", 14), ("turn", 15)] [15] rfl rfl S.nd (pid_enumL rfl Y.n_enumerate (pa_d (pd_fld 0 0 2 Y.cls_0 Y.na_0_rise) pa_d0)) (blkOk_by (N := N_Task_matched) (sc := defScope s_Task_matched) (by decide +kernel)) (by decide) (fun _ _ _ _ _ => (pg_dt 2 rfl (pgs_d (pg_d 13 S.nd) (pgs_d (pg_d 14 S.nd) pgs_d0)))) (fun _ _ _ _ _ => (pid_range1 rfl Y.n_range (pa_d (pd_var 14) pa_d0))) (fun _ _ _ _ _ => (pg_d 15 S.nd)) (fun _ _ _ _ _ => (pd_var 13))) (pss_frz 1 (pss_d (ps_dsetLc2 2 16 [("border", 13), ("one", 14), ("turn", 15)] [15] rfl rfl S.nd (pid_enumL rfl Y.n_enumerate (pa_d (pd_fld 0 0 2 Y.cls_0 Y.na_0_rise) pa_d0)) (blkOk_by (N := N_Task_matched) (sc := defScope s_Task_matched) (by decide +kernel)) (by decide) (fun _ _ _ _ _ => (pg_dt 2 rfl (pgs_d (pg_d 13 S.nd) (pgs_d (pg_d 14 S.nd) pgs_d0)))) (fun _ _ _ _ _ => (pid_range1 rfl Y.n_range (pa_d (pd_op oSub pd_int (pd_var 14)) pa_d0))) (fun _ _ _ _ _ => (pg_d 15 S.nd)) (fun _ _ _ _ _ => (pd_var 13))) (pss_frz 2 (pss_d (ps_dset 3 S.nd (pd_callB kLen rfl Y.n_len bt_len (pa_d (pd_fld 0 0 1 Y.cls_0 Y.na_0_more) pa_d0))) (pss_d (ps_dset 4 S.nd (pd_ifExp (pt_cmpD (oEq (Room.units hr)) (pd_callB (kMax rfl) rfl Y.n_max bt_max (pa_d (pd_fld 0 0 1 Y.cls_0 Y.na_0_more) pa_d0)) (pd_methV0 0 (k_Task_greatest Y) hr (by decide) tk) (nomark _)) pd_int (pd_un oNeg pd_int))) (pss_d (ps_dset 5 S.nd (pd_op oSub (pd_callB (kSum rfl) rfl Y.n_sum bt_sum (pa_d (pd_fld 0 0 1 Y.cls_0 Y.na_0_more) pa_d0)) (pd_op oMul (pd_op oMul (pd_var 4) (pd_var 3)) (pd_fld 0 0 4 Y.cls_0 Y.na_0_rings)))) (pss_d (ps_dset 6 S.nd (pd_ifExp (pt_cmpD (oEq (Room.units hr)) (pd_ix oIx (pd_fld 0 0 0 Y.cls_0 Y.na_0_land) pd_int (fun _ _ => rfl)) (pd_gc rfl Y.c_RING (.str _)) (nomark _)) (pd_op oFdiv (pd_op oAdd (pd_op oSub (pd_var 5) (pd_callB (kSum rfl) rfl Y.n_sum bt_sum (pa_d (pd_var 2) pa_d0))) (pd_callB (kSum rfl) rfl Y.n_sum bt_sum (pa_d (pd_var 1) pa_d0))) (pd_var 3)) pd_int)) (pss_d (ps_dset 7 S.nd (pd_lst pa_d0)) (pss_d (ps_dfor (passes_of rfl) rfl (pid_enumL rfl Y.n_enumerate (pa_d (pd_var 1) pa_d0)) (pg_dt 2 rfl (pgs_d (pg_d 8 S.nd) (pgs_d (pg_d 9 S.nd) pgs_d0))) (pss_d (ps_dasg (pd_callB kDivmod rfl Y.n_divmod bt_divmod (pa_d (pd_op oAdd (pd_var 8) (pd_var 6)) (pa_d (pd_callB kLen rfl Y.n_len bt_len (pa_d (pd_var 2) pa_d0)) pa_d0))) (pg_dt 2 rfl (pgs_d (pg_d 10 S.nd) (pgs_d (pg_d 11 S.nd) pgs_d0)))) (pss_d (ps_dset 12 S.nd (pd_ix oIx (pd_var 2) (pd_var 11) (fun _ _ => rfl))) (pss_d1 (ps_dif (pt_cmpD oGt (pd_op oAdd (pd_var 12) (pd_op oMul (pd_var 3) (pd_var 10))) (pd_var 9) (nomark _)) (pss_d1 (ps_dexpr (pd_app 7 (pd_tup (pa_d (pd_gc rfl Y.c_RAISE (.str _)) (pa_d (pd_var 9) (pa_d (pd_var 12) pa_d0))))))) (pss_d1 (ps_dexpr (pd_app 7 (pd_tup (pa_d (pd_gc rfl Y.c_LOWER (.str _)) (pa_d (pd_var 12) (pa_d (pd_var 9) pa_d0)))))))))))) (pss_d1 (ps_dret (pd_move 7)))))))))))))
theorem k_Task_matched (Y : Fx K mg base adr T) : KMt P w K mg base adr T 2 0 "matched" [true] LC.G_Task_matched := kmt_of Y.cls_0 Y.fd_Task_matched S_Task_matched [true] LC.b_Task_matched rfl (by decide) (body_Task_matched Y)
abbrev N_Task_way : List Str := ["self", "some", "deed"]
theorem S_Task_way : FnScope ["self", "some", "deed"] ["self"] (defScope s_Task_way) := ⟨rfl, rfl, rfl, by decide +kernel, rfl, by decide +kernel, by decide +kernel⟩
theorem body_Task_way (Y : Fx K mg base adr T) : BodyOk P w K mg base adr T ["self", "some", "deed"] "Task.way" s_Task_way (adr 57) 4 [true] LC.b_Task_way := fun cdv A outer s H E hr tk => by
  have S := S_Task_way
  exact (pss_d (ps_dset 1 S.nd (pd_frz (pd_op oAdd (pd_methV0 0 (k_Task_whole Y) hr (by decide) tk) (pd_methV0 0 (k_Task_matched Y) hr (by decide) tk)))) (pss_d1 (ps_dret (pd_op oAdd (pd_lc 3 [("deed", 2)] rfl rfl S.nd (pid_list (pd_var 1)) (blkOk_by (N := N_Task_way) (sc := defScope s_Task_way) (by decide +kernel)) (fun _ _ _ _ _ => (pg_d 2 S.nd)) (fun _ _ _ _ _ => (pts_d1 (pt_cmpD (oEq (Room.units hr)) (pd_ix oIx (pd_var 2) pd_int (fun _ _ => rfl)) (pd_gc rfl Y.c_RAISE (.str _)) (nomark _)))) (fun _ _ _ _ _ => (pd_var 2))) (pd_lc 3 [("deed", 2)] rfl rfl S.nd (pid_list (pd_var 1)) (blkOk_by (N := N_Task_way) (sc := defScope s_Task_way) (by decide +kernel)) (fun _ _ _ _ _ => (pg_d 2 S.nd)) (fun _ _ _ _ _ => (pts_d1 (pt_cmpD (oEq (Room.units hr)) (pd_ix oIx (pd_var 2) pd_int (fun _ _ => rfl)) (pd_gc rfl Y.c_LOWER (.str _)) (nomark _)))) (fun _ _ _ _ _ => (pd_var 2)))))))
theorem k_Task_way (Y : Fx K mg base adr T) : KMt P w K mg base adr T 5 0 "way" [true] LC.G_Task_way := kmt_of Y.cls_0 Y.fd_Task_way S_Task_way [true] LC.b_Task_way rfl (by decide) (body_Task_way Y)
abbrev N_price_of : List Str := ["land", "deed", "one", "other"]
theorem S_price_of : FnScope ["land", "deed", "one", "other"] ["land", "deed"] (defScope s_price_of) := ⟨rfl, rfl, rfl, by decide +kernel, rfl, by decide +kernel, by decide +kernel⟩
theorem body_price_of (Y : Fx K mg base adr T) : BodyOk P w K mg base adr T ["land", "deed", "one", "other"] "price_of" s_price_of (adr 49) 0 [false, false] LC.b_price_of := fun cdv A outer s H E hr tk => by
  have S := S_price_of
  exact (pss_d (ps_dpar 2 3 S.nd (pa_d (pd_ix oIx (pd_ix oIx (pd_var 0) pd_int (fun _ _ => rfl)) (pd_ix oIx (pd_var 1) pd_int (fun _ _ => rfl)) (fun _ _ => rfl)) (pa_d (pd_ix oIx (pd_ix oIx (pd_var 0) pd_int (fun _ _ => rfl)) (pd_ix oIx (pd_var 1) pd_int (fun _ _ => rfl)) (fun _ _ => rfl)) pa_d0))) (pss_d1 (ps_dret (pd_ifExp (PW.pt (pwd_or (pt_cmpD oIsN (pd_var 2) pd_non (nomark _)) (pwd_1 (pt_cmpD oIsN (pd_var 3) pd_non (nomark _)) (by first | exact .inl rfl | exact .inr rfl)))) pd_non (pd_op oAdd (pd_var 2) (pd_var 3))))))
theorem k_price_of (Y : Fx K mg base adr T) : KFn P w K mg base adr T 1 "price_of" [false, false] LC.G_price_of := kfn_of Y.fd_price_of S_price_of [false, false] LC.b_price_of rfl (body_price_of Y)
abbrev N_Task_cost : List Str := ["self", "deed"]
theorem S_Task_cost : FnScope ["self", "deed"] ["self"] (defScope s_Task_cost) := ⟨rfl, rfl, rfl, by decide +kernel, rfl, by decide +kernel, by decide +kernel⟩
theorem body_Task_cost (Y : Fx K mg base adr T) : BodyOk P w K mg base adr T ["self", "deed"] "Task.cost" s_Task_cost (adr 58) 5 [true] LC.b_Task_cost := fun cdv A outer s H E hr tk => by
  have S := S_Task_cost
  exact (pss_d1 (ps_dret (pd_callB (kSum rfl) rfl Y.n_sum bt_sum (pa_d (pd_lc 2 [("deed", 1)] rfl rfl S.nd (pid_list (pd_methV0 0 (k_Task_way Y) hr (by decide) tk)) (blkOk_by (N := N_Task_cost) (sc := defScope s_Task_cost) (by decide +kernel)) (fun _ _ _ _ _ => (pg_d 1 S.nd)) (fun _ _ _ _ _ => pts_d0) (fun _ _ _ _ _ => (pd_call (k_price_of Y) hr (by decide) LamX.takes0 (pa_c (pd_fld 0 0 0 Y.cls_0 Y.na_0_land) (pa_c (pd_var 1) pa_c0))))) pa_d0))))
theorem k_Task_cost (Y : Fx K mg base adr T) : KMt P w K mg base adr T 6 0 "cost" [true] LC.G_Task_cost := kmt_of Y.cls_0 Y.fd_Task_cost S_Task_cost [true] LC.b_Task_cost rfl (by decide) (body_Task_cost Y)
abbrev N_least : List Str := ["land", "goal", "task"]
theorem S_least : FnScope ["land", "goal", "task"] ["land", "goal"] (defScope s_least) := ⟨rfl, rfl, rfl, by decide +kernel, rfl, by decide +kernel, by decide +kernel⟩
theorem body_least (Y : Fx K mg base adr T) : BodyOk P w K mg base adr T ["land", "goal", "task"] "least" s_least (adr 60) 6 [false, false] LC.b_least := fun cdv A outer s H E hr tk => by
  have S := S_least
  exact (pss_d (ps_dset 2 S.nd (pd_call (k_task_of Y) hr (by decide) tk (pa_c (pd_var 0) (pa_c (pd_var 1) pa_c0)))) (pss_d1 (ps_dret (pd_ifExp (pt_cmpD oIsN (pd_methV0 2 (k_Task_barred Y) hr (by decide) tk) pd_non (nomark _)) (pd_tup (pa_d (pd_methV0 2 (k_Task_cost Y) hr (by decide) tk) (pa_d (pd_methV0 2 (k_Task_way Y) hr (by decide) tk) pa_d0))) pd_non))))
theorem k_least (Y : Fx K mg base adr T) : KFn P w K mg base adr T 7 "least" [false, false] LC.G_least := kfn_of Y.fd_least S_least [false, false] LC.b_least rfl (body_least Y)
abbrev N_fewest : List Str := ["land", "goal", "task"]
theorem S_fewest : FnScope ["land", "goal", "task"] ["land", "goal"] (defScope s_fewest) := ⟨rfl, rfl, rfl, by decide +kernel, rfl, by decide +kernel, by decide +kernel⟩
theorem body_fewest (Y : Fx K mg base adr T) : BodyOk P w K mg base adr T ["land", "goal", "task"] "fewest" s_fewest (adr 61) 6 [false, false] LC.b_fewest := fun cdv A outer s H E hr tk => by
  have S := S_fewest
  exact (pss_d (ps_dset 2 S.nd (pd_call (k_task_of Y) hr (by decide) tk (pa_c (pd_var 0) (pa_c (pd_var 1) pa_c0)))) (pss_d1 (ps_dret (pd_ifExp (pt_cmpD oIsN (pd_methV0 2 (k_Task_barred Y) hr (by decide) tk) pd_non (nomark _)) (pd_op oAdd (pd_fld 2 0 3 Y.cls_0 Y.na_0_pairs) (pd_fld 2 0 4 Y.cls_0 Y.na_0_rings)) pd_non))))
theorem k_fewest (Y : Fx K mg base adr T) : KFn P w K mg base adr T 7 "fewest" [false, false] LC.G_fewest := kfn_of Y.fd_fewest S_fewest [false, false] LC.b_fewest rfl (body_fewest Y)
abbrev N__law_kind : List Str := ["_law_work", "e", "_law_kinds", "_law_words", "_law_word"]
theorem S__law_kind : FnScope ["_law_work", "e", "_law_kinds", "_law_words", "_law_word"] ["_law_work"] (defScope s__law_kind) := ⟨rfl, rfl, rfl, by decide +kernel, rfl, by decide +kernel, by decide +kernel⟩
theorem sk__law_kind (Y : Fx K mg base adr T) (cdg : Value) (A : Around) (stack : List PySem.Env) (s : Shared) (H : Hp) (n : Nat) (a' : Addr) (oe : Obj) (d : Option Addr) (pn : List (Addr × Obj)) (hn : n ∈ xcls) (hz : Zc (.ref (adr n)) d oe) (hf : ∃ vs, oe.data = .fields vs) (hd : (fx n = [] ∧ d = none) ∨ (fx n ≠ [] ∧ ∃ b, d = some b)) :
    PSs (((cxOf C8.CX0 P w K mg base N__law_kind "_law_kind" (defScope s__law_kind) (adr 438) cdg A stack s H C8.E0).nox).suite a' ((a', oe) :: pn)) (suiteOf (defBody s__law_kind)) (tDS K (adr.atX a' (d.getD 0)) T [] W0 (LC.h__law_kind n)) := by
  have S := S__law_kind
  exact (pss_d (ps_dset 2 S.nd (pd_lst (pa_d (pd_callB (kIsX Y.xf hn hz hf hd) rfl Y.n_isinstance bt_isinstance (pa_d (pd_var 1) (pa_d (pd_globF (n := 11) rfl Y.xat_11) pa_d0))) (pa_d (pd_callB (kIsX Y.xf hn hz hf hd) rfl Y.n_isinstance bt_isinstance (pa_d (pd_var 1) (pa_d (pd_globF (n := 12) rfl Y.xat_12) pa_d0))) (pa_d (pd_callB (kIsX Y.xf hn hz hf hd) rfl Y.n_isinstance bt_isinstance (pa_d (pd_var 1) (pa_d (pd_globF (n := 13) rfl Y.xat_13) pa_d0))) (pa_d (pd_callB (kIsX Y.xf hn hz hf hd) rfl Y.n_isinstance bt_isinstance (pa_d (pd_var 1) (pa_d (pd_globF (n := 14) rfl Y.xat_14) pa_d0))) pa_d0)))))) (pss_d (ps_dset 2 S.nd (pd_op oAdd (pd_move 2) (pd_lst (pa_d (pd_callB (kIsX Y.xf hn hz hf hd) rfl Y.n_isinstance bt_isinstance (pa_d (pd_var 1) (pa_d (pd_globF (n := 15) rfl Y.xat_15) pa_d0))) (pa_d (pd_callB (kIsX Y.xf hn hz hf hd) rfl Y.n_isinstance bt_isinstance (pa_d (pd_var 1) (pa_d (pd_globF (n := 16) rfl Y.xat_16) pa_d0))) (pa_d (pd_callB (kIsX Y.xf hn hz hf hd) rfl Y.n_isinstance bt_isinstance (pa_d (pd_var 1) (pa_d (pd_globF (n := 17) rfl Y.xat_17) pa_d0))) (pa_d (pd_callB (kIsX Y.xf hn hz hf hd) rfl Y.n_isinstance bt_isinstance (pa_d (pd_var 1) (pa_d (pd_globF (n := 18) rfl Y.xat_18) pa_d0))) pa_d0))))))) (pss_d (ps_dset 2 S.nd (pd_op oAdd (pd_move 2) (pd_lst (pa_d (pd_callB (kIsX Y.xf hn hz hf hd) rfl Y.n_isinstance bt_isinstance (pa_d (pd_var 1) (pa_d (pd_globF (n := 19) rfl Y.xat_19) pa_d0))) (pa_d (pd_callB (kIsX Y.xf hn hz hf hd) rfl Y.n_isinstance bt_isinstance (pa_d (pd_var 1) (pa_d (pd_globF (n := 20) rfl Y.xat_20) pa_d0))) (pa_d (pd_callB (kIsX Y.xf hn hz hf hd) rfl Y.n_isinstance bt_isinstance (pa_d (pd_var 1) (pa_d (pd_globF (n := 21) rfl Y.xat_21) pa_d0))) pa_d0)))))) (pss_d (ps_dset 3 S.nd pd_str) (pss_d (ps_dif (PW.pt (pwd_or (pt_cmpD oNeF (pd_mtS 2 PySem.F.plainAttrs_list PySem.F.slot_list_count PySem.F.type_list_count mCount (pa_d pd_bl pa_d0)) pd_int (nomark _)) (pwd_1 (pd_not (pd_test (pd_callB (kIsX Y.xf hn hz hf hd) rfl Y.n_isinstance bt_isinstance (pa_d (pd_var 1) (pa_d (pd_bltn (n := "ValueError") rfl Y.n_ValueError (by first | rfl | kernel_rfl)) pa_d0))))) (by first | exact .inl rfl | exact .inr rfl)))) (pss_d1 (ps_dret pd_str)) pss_d0) (pss_d (ps_dset 4 S.nd (pd_ix oIx (pd_mtE PySem.F.plainAttrs_str PySem.F.slot_str_split PySem.F.type_str_split mSplit (pd_var 3) (pa_d pd_str pa_d0)) (pd_mtS 2 PySem.F.plainAttrs_list PySem.F.slot_list_index PySem.F.type_list_index mIndex (pa_d pd_bl pa_d0)) (fun _ _ => rfl))) (pss_d (ps_dif (pt_cmpD oEqF (pd_var 4) pd_str (nomark _)) (pss_d1 (ps_dret (pd_tup (pa_d (pd_var 4) (pa_d (pd_xf 1 Y.xf hn hz hf hd) (pa_d (pd_xf 1 Y.xf hn hz hf hd) pa_d0)))))) pss_d0) (pss_d (ps_dif (pt_cmpD oEqF (pd_var 4) pd_str (nomark _)) (pss_d1 (ps_dret (pd_tup (pa_d (pd_var 4) (pa_d (pd_xf 1 Y.xf hn hz hf hd) (pa_d (pd_xf 1 Y.xf hn hz hf hd) pa_d0)))))) pss_d0) (pss_d (ps_dif (pt_cmpD oEqF (pd_var 4) pd_str (nomark _)) (pss_d1 (ps_dret (pd_tup (pa_d (pd_var 4) (pa_d (pd_xf 1 Y.xf hn hz hf hd) (pa_d (pd_xf 1 Y.xf hn hz hf hd) pa_d0)))))) pss_d0) (pss_d (ps_dif (pt_cmpD oIn (pd_var 4) (pd_tup (pa_d pd_str (pa_d pd_str pa_d0))) rfl) (pss_d1 (ps_dret (pd_tup (pa_d (pd_var 4) (pa_d (pd_xf 1 Y.xf hn hz hf hd) pa_d0))))) pss_d0) (pss_d1 (ps_dret (pd_ifExp (pt_cmpD oEqF (pd_var 4) pd_str (nomark _)) (pd_tup (pa_d (pd_var 4) (pa_d (pd_xf 1 Y.xf hn hz hf hd) pa_d0))) (pd_var 4))))))))))))))
theorem kd__law_kind (Y : Fx K mg base adr T) : KKd P w K mg base adr T "_law_kind" LC.hd__law_kind := kkd_of Y.fd__law_kind S__law_kind rfl rfl rfl (.inl rfl) (by decide) (by decide) rfl rfl Y.xat_10 Y.xf (sk__law_kind Y)
abbrev N_law : List Str := ["_law_script", "_law_state", "_law_turn", "_law_high", "_law_land_here", "_law_goal_here", "_law_due", "_law_told", "_law_odd", "_law_wrong", "_law_works", "_law_work"]
theorem S_law : FnScope ["_law_script", "_law_state", "_law_turn", "_law_high", "_law_land_here", "_law_goal_here", "_law_due", "_law_told", "_law_odd", "_law_wrong", "_law_works", "_law_work"] ["_law_script"] (defScope s_law) := ⟨rfl, rfl, rfl, by decide +kernel, rfl, by decide +kernel, by decide +kernel⟩
theorem body_law (Y : Fx K mg base adr T) (no : ¬ adr.con) : BodyOkC P w K mg base adr T ["_law_script", "_law_state", "_law_turn", "_law_high", "_law_land_here", "_law_goal_here", "_law_due", "_law_told", "_law_odd", "_law_wrong", "_law_works", "_law_work"] "law" s_law (adr 68) (.ref (adr 200)) 9 [false] b_law := fun A outer s H E hr tk => by
  have S := S_law
  exact (pss_frz 0 (pss_d (ps_dset 1 S.nd (pd_call (k__law_start Y) hr (by decide) tk (pa_c (pd_var 0) pa_c0))) (pss_d (ps_dfor (passes_of rfl) rfl (pid_range1 rfl Y.n_range (pa_d pd_int pa_d0)) (pg_d 2 S.nd) (pss_d (ps_dset 3 S.nd (pd_ix oIx (pd_lst (pa_d pd_int (pa_d pd_int (pa_d pd_int pa_d0)))) (pd_call (k__law_drawn Y) hr (by decide) tk (pa_io 1 (pa_c pd_int pa_c0))) (fun _ _ => rfl))) (pss_d (ps_dset 4 S.nd (pd_call (k__law_land Y) hr (by decide) tk (pa_io 1 (pa_c pd_int (pa_c (pd_var 3) pa_c0))))) (pss_d (ps_dset 5 S.nd (pd_call (k__law_goal Y) hr (by decide) tk (pa_io 1 (pa_c (pd_var 4) (pa_c (pd_ix oIx (pd_lst (pa_d (pd_var 3) (pa_d pd_int pa_d0))) (pd_call (k__law_drawn Y) hr (by decide) tk (pa_io 1 (pa_c pd_int pa_c0))) (fun _ _ => rfl)) pa_c0))))) (pss_d (ps_dset 6 S.nd (pd_call (k__law_cost Y) hr (by decide) tk (pa_c (pd_var 4) (pa_c (pd_var 5) pa_c0)))) (pss_d (ps_dset 7 S.nd (pd_frz (pd_call (k_least Y) hr (by decide) tk (pa_c (pd_var 4) (pa_c (pd_var 5) pa_c0))))) (pss_d (ps_dif (pt_cmpD (oNe (Room.units hr)) (pd_ifExp (pt_cmpD oIsN (pd_var 7) pd_non (nomark _)) pd_non (pd_ix oIx (pd_var 7) pd_int (fun _ _ => rfl))) (pd_ifExp (pt_cmpD oIsN (pd_var 6) pd_non (nomark _)) pd_non (pd_ix oIx (pd_var 6) pd_int (fun _ _ => rfl))) (nomark _)) (pss_d1 (ps_dret pd_bl)) pss_d0) (pss_d (ps_dif (pt_cmpD (oNe (Room.units hr)) (pd_call (k_fewest Y) hr (by decide) tk (pa_c (pd_var 4) (pa_c (pd_var 5) pa_c0))) (pd_ifExp (pt_cmpD oIsN (pd_var 6) pd_non (nomark _)) pd_non (pd_ix oIx (pd_var 6) pd_int (fun _ _ => rfl))) (nomark _)) (pss_d1 (ps_dret pd_bl)) pss_d0) (pss_d (ps_dset 8 S.nd (pd_ix oIx (pd_lst (pa_d pd_non (pa_d (pd_slice (pd_var 5) po_d0 (po_d pd_int)) (pa_d (pd_frz (pd_callTy kList rfl Y.n_list bt_list (pa_d (pd_var 5) pa_d0))) (pa_d (pd_op oAdd (pd_var 5) (pd_tup (pa_d pd_int pa_d0))) pa_d0))))) (pd_call (k__law_drawn Y) hr (by decide) tk (pa_io 1 (pa_c pd_int pa_c0))) (fun _ _ => rfl))) (pss_d (ps_dset 9 S.nd (pd_ifExp (pt_cmpD (oEq (Room.units hr)) (pd_var 8) (pd_op oAdd (pd_var 5) (pd_tup (pa_d pd_int pa_d0))) (nomark _)) (pd_callB kLen rfl Y.n_len bt_len (pa_d (pd_var 5) pa_d0)) pd_int)) (pss_reg no (pss_d (ps_dset 10 S.nd (pd_frz (pd_lst (pa_d (pd_lamv0 (ls := ls_law) 2 Y.tb_law rfl Y.in_law Y.one_law rfl rfl (DS.lamS2_by (sc := defScope s_law) (ps := []) (by decide +kernel))) (pa_d (pd_lamv1 (ls := ls_law) 1 (z := "_law_a") Y.tb_law rfl Y.in_law Y.one_law rfl rfl rfl (DS.lamS2_by (sc := defScope s_law) (ps := ["_law_a"]) (by decide +kernel))) (pa_d (pd_lamv1 (ls := ls_law) 0 (z := "_law_b") Y.tb_law rfl Y.in_law Y.one_law rfl rfl rfl (DS.lamS2_by (sc := defScope s_law) (ps := ["_law_b"]) (by decide +kernel))) pa_d0)))))) (pss_d (ps_dset 6 S.nd (pd_frz (pd_lst (pa_d (pd_tup (pa_d pd_str (pa_d (pd_var 9) pa_d0))) (pa_d (pd_tup (pa_d pd_str (pa_d (pd_var 9) pa_d0))) (pa_d (pd_tup (pa_d pd_str (pa_d (pd_op oSub pd_int pd_int) (pa_d pd_int pa_d0)))) pa_d0)))))) (pss_frz 10 (pss_d1 (ps_dif (pt_cmpD (oNe (Room.units hr)) (pd_lcK (k := 7) 12 [("_law_work", 11)] rfl rfl S.nd (kd__law_kind Y.wC) hr (by decide) (fun n b e => by
    match n, e with
    | 0, e => cases e; exact ⟨DS.lamS2_by (sc := defScope s_law) (ps := ["_law_b"]) (by decide +kernel), (fun x hx => (List.mem_singleton.mp hx) ▸ (show ¬ ("_law_b" : Str) ∈ N_law by decide)), (fun _ _ _ _ _ _ _ _ => ⟨_, rfl, rfl⟩), fun A outer s H E f c hr tk => (pd_call (k_least Y.wC) hr (by decide) tk (pa_c pd_non (pa_c (pd_var 8) pa_c0)))⟩
    | 1, e => cases e; exact ⟨DS.lamS2_by (sc := defScope s_law) (ps := ["_law_a"]) (by decide +kernel), (fun x hx => (List.mem_singleton.mp hx) ▸ (show ¬ ("_law_a" : Str) ∈ N_law by decide)), (fun _ _ _ _ _ _ _ _ => ⟨_, rfl, rfl⟩), fun A outer s H E f c hr tk => (pd_call (k_fewest Y.wC) hr (by decide) tk (pa_c (pd_var 4) (pa_c (pd_var 8) pa_c0)))⟩
    | 2, e => cases e; exact ⟨DS.lamS2_by (sc := defScope s_law) (ps := []) (by decide +kernel), (fun x hx => nomatch hx), (fun _ _ _ _ _ _ => rfl), fun A outer s H E f c hr tk => (pd_call (k_least Y.wC) hr (by decide) tk (pa_c (pd_var 4) (pa_c (pd_var 8) pa_c0)))⟩
    | n + 3, e => cases e) (pid_list (pd_var 10)) (blkOk_by (N := N_law) (sc := defScope s_law) (by decide +kernel)) (fun _ _ _ _ _ => (pg_d 11 S.nd)) (fun _ _ _ _ _ => pts_d0) (fun _ _ _ _ _ => (pd_var 11)) (fun _ _ _ _ _ => rfl)) (pd_var 6) (nomark _)) (pss_d1 (ps_dret pd_bl)) pss_d0)))))))))))))))) (pss_d1 (ps_dret pd_bl)))))
end
theorem law_at {w : World} {K : PySem.W.Frag} {h : Heap} {mg : Str → Option Value} {fa C0 C10 C11 C12 C13 C14 C15 C16 C17 C18 C19 C20 C21 f62 f63 f64 f65 f439 f444 f427 f42 f40 f43 f41 f44 f45 f46 f47 f48 f51 f50 f59 f52 f53 f54 f55 f56 f57 f49 f58 f60 f61 f438 f68 f111 f112 c0 c1 P0 P1 : Addr} (X : K.In h) (G : h.Ns mainGlobals mg) (hfa : mg "law" = some (.ref fa))
    {od62 an62 : Option Addr} {sl62 : Array (Option Value)} {oc62 kV62 dc62 pm62 cd62 ct62 : Value} {od63 an63 : Option Addr} {sl63 : Array (Option Value)} {oc63 kV63 dc63 pm63 cd63 ct63 : Value} {od64 an64 : Option Addr} {sl64 : Array (Option Value)} {oc64 kV64 dc64 pm64 cd64 ct64 : Value} {od65 an65 : Option Addr} {sl65 : Array (Option Value)} {oc65 kV65 dc65 pm65 cd65 ct65 : Value} {od439 an439 : Option Addr} {sl439 : Array (Option Value)} {oc439 kV439 dc439 pm439 cd439 ct439 : Value} {od444 an444 : Option Addr} {sl444 : Array (Option Value)} {oc444 kV444 dc444 pm444 cd444 ct444 : Value} {od427 an427 : Option Addr} {sl427 : Array (Option Value)} {oc427 kV427 dc427 pm427 cd427 ct427 : Value} {od42 an42 : Option Addr} {sl42 : Array (Option Value)} {oc42 kV42 dc42 pm42 cd42 ct42 : Value} {od40 an40 : Option Addr} {sl40 : Array (Option Value)} {oc40 kV40 dc40 pm40 cd40 ct40 : Value} {od43 an43 : Option Addr} {sl43 : Array (Option Value)} {oc43 kV43 dc43 pm43 cd43 ct43 : Value} {od41 an41 : Option Addr} {sl41 : Array (Option Value)} {oc41 kV41 dc41 pm41 cd41 ct41 : Value} {od44 an44 : Option Addr} {sl44 : Array (Option Value)} {oc44 kV44 dc44 pm44 cd44 ct44 : Value} {od45 an45 : Option Addr} {sl45 : Array (Option Value)} {oc45 kV45 dc45 pm45 cd45 ct45 : Value} {od46 an46 : Option Addr} {sl46 : Array (Option Value)} {oc46 kV46 dc46 pm46 cd46 ct46 : Value} {od47 an47 : Option Addr} {sl47 : Array (Option Value)} {oc47 kV47 dc47 pm47 cd47 ct47 : Value} {od48 an48 : Option Addr} {sl48 : Array (Option Value)} {oc48 kV48 dc48 pm48 cd48 ct48 : Value} {od51 an51 : Option Addr} {sl51 : Array (Option Value)} {oc51 kV51 dc51 pm51 cd51 ct51 : Value} {od50 an50 : Option Addr} {sl50 : Array (Option Value)} {oc50 kV50 dc50 pm50 cd50 ct50 : Value} {od59 an59 : Option Addr} {sl59 : Array (Option Value)} {oc59 kV59 dc59 pm59 cd59 ct59 : Value} {od52 an52 : Option Addr} {sl52 : Array (Option Value)} {oc52 kV52 dc52 pm52 cd52 ct52 : Value} {od53 an53 : Option Addr} {sl53 : Array (Option Value)} {oc53 kV53 dc53 pm53 cd53 ct53 : Value} {od54 an54 : Option Addr} {sl54 : Array (Option Value)} {oc54 kV54 dc54 pm54 ct54 : Value} {od55 an55 : Option Addr} {sl55 : Array (Option Value)} {oc55 kV55 dc55 pm55 cd55 ct55 : Value} {od56 an56 : Option Addr} {sl56 : Array (Option Value)} {oc56 kV56 dc56 pm56 cd56 ct56 : Value} {od57 an57 : Option Addr} {sl57 : Array (Option Value)} {oc57 kV57 dc57 pm57 cd57 ct57 : Value} {od49 an49 : Option Addr} {sl49 : Array (Option Value)} {oc49 kV49 dc49 pm49 cd49 ct49 : Value} {od58 an58 : Option Addr} {sl58 : Array (Option Value)} {oc58 kV58 dc58 pm58 cd58 ct58 : Value} {od60 an60 : Option Addr} {sl60 : Array (Option Value)} {oc60 kV60 dc60 pm60 cd60 ct60 : Value} {od61 an61 : Option Addr} {sl61 : Array (Option Value)} {oc61 kV61 dc61 pm61 cd61 ct61 : Value} {od438 an438 : Option Addr} {sl438 : Array (Option Value)} {oc438 kV438 dc438 pm438 cd438 ct438 : Value} {od68 an68 : Option Addr} {sl68 : Array (Option Value)} {oc68 kV68 dc68 pm68 ct68 : Value} {od111 an111 : Option Addr} {sl111 : Array (Option Value)} {oc111 kV111 dc111 pm111 cd111 ct111 : Value} {od112 an112 : Option Addr} {sl112 : Array (Option Value)} {oc112 kV112 dc112 pm112 cd112 ct112 : Value} {tc_LEAST_FIELDS : Tok} {tc_LOWER : Tok} {tc_MOST_FIELDS : Tok} {tc_MOST_HEIGHT : Tok} {tc_MOST_PRICE : Tok} {tc_RAISE : Tok} {tc_RING : Tok} {tc_ROW : Tok} {vt0 : Array Value} {ot0 : Option Addr} {st0 : Array (Option Value)} {vt1 : Array Value} {ot1 : Option Addr} {st1 : Array (Option Value)}
    (aC0 : PySem.W.nsIn K mainGlobals "Task" = some (some (.ref C0)))
    (pg0 : PySem.W.plainGet K C0 Str.empty = true)
    (hd0 : PySem.W.hasDictIn K C0 = true)
    (po0 : PySem.W.plainOver K C0 = true)
    (sa0 : PySem.W.findIn K (.ref C0) "__setattr__" = some (some (.builtin "object.__setattr__")))
    (mk0 : PySem.W.makesIn K C0 = true)
    (kc0 : PySem.W.keepIn K (.ref C0) = true)
    (aC10 : PySem.W.nsIn K mainGlobals "FenceError" = some (some (.ref C10)))
    (aC11 : PySem.W.nsIn K mainGlobals "BadLand" = some (some (.ref C11)))
    (aC12 : PySem.W.nsIn K mainGlobals "BadGoal" = some (some (.ref C12)))
    (aC13 : PySem.W.nsIn K mainGlobals "BadPaper" = some (some (.ref C13)))
    (aC14 : PySem.W.nsIn K mainGlobals "BadWay" = some (some (.ref C14)))
    (aC15 : PySem.W.nsIn K mainGlobals "NoWay" = some (some (.ref C15)))
    (aC16 : PySem.W.nsIn K mainGlobals "Comes" = some (some (.ref C16)))
    (aC17 : PySem.W.nsIn K mainGlobals "BadShape" = some (some (.ref C17)))
    (aC18 : PySem.W.nsIn K mainGlobals "BadName" = some (some (.ref C18)))
    (aC19 : PySem.W.nsIn K mainGlobals "NoPoint" = some (some (.ref C19)))
    (aC20 : PySem.W.nsIn K mainGlobals "Halted" = some (some (.ref C20)))
    (aC21 : PySem.W.nsIn K mainGlobals "BadText" = some (some (.ref C21)))
    (a62 : PySem.W.nsIn K mainGlobals "_law_start" = some (some (.ref f62)))
    (l62 : K.lookup f62 = some ⟨oc62, od62, .func (PySem.W.fnOf "_law_start" "_law_start" (defArgs s__law_start) (defBody s__law_start) (defScope s__law_start) .none kV62 dc62 pm62 an62 cd62 ct62), sl62⟩)
    (c62_ : PySem.W.codeIn K cd62 "_law_start" = true)
    (k62 : PySem.W.keepIn K (.ref f62) = true)
    (a63 : PySem.W.nsIn K mainGlobals "_law_drawn" = some (some (.ref f63)))
    (l63 : K.lookup f63 = some ⟨oc63, od63, .func (PySem.W.fnOf "_law_drawn" "_law_drawn" (defArgs s__law_drawn) (defBody s__law_drawn) (defScope s__law_drawn) .none kV63 dc63 pm63 an63 cd63 ct63), sl63⟩)
    (c63_ : PySem.W.codeIn K cd63 "_law_drawn" = true)
    (k63 : PySem.W.keepIn K (.ref f63) = true)
    (a64 : PySem.W.nsIn K mainGlobals "_law_land" = some (some (.ref f64)))
    (l64 : K.lookup f64 = some ⟨oc64, od64, .func (PySem.W.fnOf "_law_land" "_law_land" (defArgs s__law_land) (defBody s__law_land) (defScope s__law_land) .none kV64 dc64 pm64 an64 cd64 ct64), sl64⟩)
    (c64_ : PySem.W.codeIn K cd64 "_law_land" = true)
    (k64 : PySem.W.keepIn K (.ref f64) = true)
    (a65 : PySem.W.nsIn K mainGlobals "_law_goal" = some (some (.ref f65)))
    (l65 : K.lookup f65 = some ⟨oc65, od65, .func (PySem.W.fnOf "_law_goal" "_law_goal" (defArgs s__law_goal) (defBody s__law_goal) (defScope s__law_goal) .none kV65 dc65 pm65 an65 cd65 ct65), sl65⟩)
    (c65_ : PySem.W.codeIn K cd65 "_law_goal" = true)
    (k65 : PySem.W.keepIn K (.ref f65) = true)
    (a439 : PySem.W.nsIn K mainGlobals "_law_more" = some (some (.ref f439)))
    (l439 : K.lookup f439 = some ⟨oc439, od439, .func (PySem.W.fnOf "_law_more" "_law_more" (defArgs s__law_more) (defBody s__law_more) (defScope s__law_more) .none kV439 dc439 pm439 an439 cd439 ct439), sl439⟩)
    (c439_ : PySem.W.codeIn K cd439 "_law_more" = true)
    (k439 : PySem.W.keepIn K (.ref f439) = true)
    (a444 : PySem.W.nsIn K mainGlobals "_law_rise" = some (some (.ref f444)))
    (l444 : K.lookup f444 = some ⟨oc444, od444, .func (PySem.W.fnOf "_law_rise" "_law_rise" (defArgs s__law_rise) (defBody s__law_rise) (defScope s__law_rise) .none kV444 dc444 pm444 an444 cd444 ct444), sl444⟩)
    (c444_ : PySem.W.codeIn K cd444 "_law_rise" = true)
    (k444 : PySem.W.keepIn K (.ref f444) = true)
    (a427 : PySem.W.nsIn K mainGlobals "_law_cost" = some (some (.ref f427)))
    (l427 : K.lookup f427 = some ⟨oc427, od427, .func (PySem.W.fnOf "_law_cost" "_law_cost" (defArgs s__law_cost) (defBody s__law_cost) (defScope s__law_cost) .none kV427 dc427 pm427 an427 cd427 ct427), sl427⟩)
    (c427_ : PySem.W.codeIn K cd427 "_law_cost" = true)
    (k427 : PySem.W.keepIn K (.ref f427) = true)
    (a42 : PySem.W.nsIn K mainGlobals "first_wrong" = some (some (.ref f42)))
    (l42 : K.lookup f42 = some ⟨oc42, od42, .func (PySem.W.fnOf "first_wrong" "first_wrong" (defArgs s_first_wrong) (defBody s_first_wrong) (defScope s_first_wrong) .none kV42 dc42 pm42 an42 cd42 ct42), sl42⟩)
    (c42_ : PySem.W.codeIn K cd42 "first_wrong" = true)
    (k42 : PySem.W.keepIn K (.ref f42) = true)
    (a40 : PySem.W.nsIn K mainGlobals "is_number" = some (some (.ref f40)))
    (l40 : K.lookup f40 = some ⟨oc40, od40, .func (PySem.W.fnOf "is_number" "is_number" (defArgs s_is_number) (defBody s_is_number) (defScope s_is_number) .none kV40 dc40 pm40 an40 cd40 ct40), sl40⟩)
    (c40_ : PySem.W.codeIn K cd40 "is_number" = true)
    (k40 : PySem.W.keepIn K (.ref f40) = true)
    (a43 : PySem.W.nsIn K mainGlobals "is_height" = some (some (.ref f43)))
    (l43 : K.lookup f43 = some ⟨oc43, od43, .func (PySem.W.fnOf "is_height" "is_height" (defArgs s_is_height) (defBody s_is_height) (defScope s_is_height) .none kV43 dc43 pm43 an43 cd43 ct43), sl43⟩)
    (c43_ : PySem.W.codeIn K cd43 "is_height" = true)
    (k43 : PySem.W.keepIn K (.ref f43) = true)
    (a41 : PySem.W.nsIn K mainGlobals "borders_of" = some (some (.ref f41)))
    (l41 : K.lookup f41 = some ⟨oc41, od41, .func (PySem.W.fnOf "borders_of" "borders_of" (defArgs s_borders_of) (defBody s_borders_of) (defScope s_borders_of) .none kV41 dc41 pm41 an41 cd41 ct41), sl41⟩)
    (c41_ : PySem.W.codeIn K cd41 "borders_of" = true)
    (k41 : PySem.W.keepIn K (.ref f41) = true)
    (a44 : PySem.W.nsIn K mainGlobals "is_price" = some (some (.ref f44)))
    (l44 : K.lookup f44 = some ⟨oc44, od44, .func (PySem.W.fnOf "is_price" "is_price" (defArgs s_is_price) (defBody s_is_price) (defScope s_is_price) .none kV44 dc44 pm44 an44 cd44 ct44), sl44⟩)
    (c44_ : PySem.W.codeIn K cd44 "is_price" = true)
    (k44 : PySem.W.keepIn K (.ref f44) = true)
    (a45 : PySem.W.nsIn K mainGlobals "need_land" = some (some (.ref f45)))
    (l45 : K.lookup f45 = some ⟨oc45, od45, .func (PySem.W.fnOf "need_land" "need_land" (defArgs s_need_land) (defBody s_need_land) (defScope s_need_land) .none kV45 dc45 pm45 an45 cd45 ct45), sl45⟩)
    (c45_ : PySem.W.codeIn K cd45 "need_land" = true)
    (k45 : PySem.W.keepIn K (.ref f45) = true)
    (a46 : PySem.W.nsIn K mainGlobals "need_goal" = some (some (.ref f46)))
    (l46 : K.lookup f46 = some ⟨oc46, od46, .func (PySem.W.fnOf "need_goal" "need_goal" (defArgs s_need_goal) (defBody s_need_goal) (defScope s_need_goal) .none kV46 dc46 pm46 an46 cd46 ct46), sl46⟩)
    (c46_ : PySem.W.codeIn K cd46 "need_goal" = true)
    (k46 : PySem.W.keepIn K (.ref f46) = true)
    (a47 : PySem.W.nsIn K mainGlobals "differences" = some (some (.ref f47)))
    (l47 : K.lookup f47 = some ⟨oc47, od47, .func (PySem.W.fnOf "differences" "differences" (defArgs s_differences) (defBody s_differences) (defScope s_differences) .none kV47 dc47 pm47 an47 cd47 ct47), sl47⟩)
    (c47_ : PySem.W.codeIn K cd47 "differences" = true)
    (k47 : PySem.W.keepIn K (.ref f47) = true)
    (a48 : PySem.W.nsIn K mainGlobals "rises_of" = some (some (.ref f48)))
    (l48 : K.lookup f48 = some ⟨oc48, od48, .func (PySem.W.fnOf "rises_of" "rises_of" (defArgs s_rises_of) (defBody s_rises_of) (defScope s_rises_of) .none kV48 dc48 pm48 an48 cd48 ct48), sl48⟩)
    (c48_ : PySem.W.codeIn K cd48 "rises_of" = true)
    (k48 : PySem.W.keepIn K (.ref f48) = true)
    (a51 : PySem.W.findIn K (.ref C0) "greatest" = some (some (.ref f51)))
    (i51 : PySem.W.isFn K (.ref f51) = true)
    (l51 : K.lookup f51 = some ⟨oc51, od51, .func (PySem.W.fnOf "greatest" "Task.greatest" (defArgs s_Task_greatest) (defBody s_Task_greatest) (defScope s_Task_greatest) .none kV51 dc51 pm51 an51 cd51 ct51), sl51⟩)
    (c51_ : PySem.W.codeIn K cd51 "Task.greatest" = true)
    (k51 : PySem.W.keepIn K (.ref f51) = true)
    (a50 : PySem.W.findIn K (.ref C0) "__init__" = some (some (.ref f50)))
    (i50 : PySem.W.isFn K (.ref f50) = true)
    (l50 : K.lookup f50 = some ⟨oc50, od50, .func (PySem.W.fnOf "__init__" "Task.__init__" (defArgs s_Task___init__) (defBody s_Task___init__) (defScope s_Task___init__) .none kV50 dc50 pm50 an50 cd50 ct50), sl50⟩)
    (c50_ : PySem.W.codeIn K cd50 "Task.__init__" = true)
    (k50 : PySem.W.keepIn K (.ref f50) = true)
    (a59 : PySem.W.nsIn K mainGlobals "task_of" = some (some (.ref f59)))
    (l59 : K.lookup f59 = some ⟨oc59, od59, .func (PySem.W.fnOf "task_of" "task_of" (defArgs s_task_of) (defBody s_task_of) (defScope s_task_of) .none kV59 dc59 pm59 an59 cd59 ct59), sl59⟩)
    (c59_ : PySem.W.codeIn K cd59 "task_of" = true)
    (k59 : PySem.W.keepIn K (.ref f59) = true)
    (a52 : PySem.W.findIn K (.ref C0) "fences" = some (some (.ref f52)))
    (i52 : PySem.W.isFn K (.ref f52) = true)
    (l52 : K.lookup f52 = some ⟨oc52, od52, .func (PySem.W.fnOf "fences" "Task.fences" (defArgs s_Task_fences) (defBody s_Task_fences) (defScope s_Task_fences) .none kV52 dc52 pm52 an52 cd52 ct52), sl52⟩)
    (c52_ : PySem.W.codeIn K cd52 "Task.fences" = true)
    (k52 : PySem.W.keepIn K (.ref f52) = true)
    (a53 : PySem.W.findIn K (.ref C0) "barred" = some (some (.ref f53)))
    (i53 : PySem.W.isFn K (.ref f53) = true)
    (l53 : K.lookup f53 = some ⟨oc53, od53, .func (PySem.W.fnOf "barred" "Task.barred" (defArgs s_Task_barred) (defBody s_Task_barred) (defScope s_Task_barred) .none kV53 dc53 pm53 an53 cd53 ct53), sl53⟩)
    (c53_ : PySem.W.codeIn K cd53 "Task.barred" = true)
    (k53 : PySem.W.keepIn K (.ref f53) = true)
    (a54 : PySem.W.findIn K (.ref C0) "cheapest" = some (some (.ref f54)))
    (i54 : PySem.W.isFn K (.ref f54) = true)
    (l54 : K.lookup f54 = some ⟨oc54, od54, .func (PySem.W.fnOf "cheapest" "Task.cheapest" (defArgs s_Task_cheapest) (defBody s_Task_cheapest) (defScope s_Task_cheapest) .none kV54 dc54 pm54 an54 (.ref c1) ct54), sl54⟩)
    (c54_ : PySem.W.codeIn K (.ref c1) "Task.cheapest" = true)
    (k54 : PySem.W.keepIn K (.ref f54) = true)
    (a55 : PySem.W.findIn K (.ref C0) "whole" = some (some (.ref f55)))
    (i55 : PySem.W.isFn K (.ref f55) = true)
    (l55 : K.lookup f55 = some ⟨oc55, od55, .func (PySem.W.fnOf "whole" "Task.whole" (defArgs s_Task_whole) (defBody s_Task_whole) (defScope s_Task_whole) .none kV55 dc55 pm55 an55 cd55 ct55), sl55⟩)
    (c55_ : PySem.W.codeIn K cd55 "Task.whole" = true)
    (k55 : PySem.W.keepIn K (.ref f55) = true)
    (a56 : PySem.W.findIn K (.ref C0) "matched" = some (some (.ref f56)))
    (i56 : PySem.W.isFn K (.ref f56) = true)
    (l56 : K.lookup f56 = some ⟨oc56, od56, .func (PySem.W.fnOf "matched" "Task.matched" (defArgs s_Task_matched) (defBody s_Task_matched) (defScope s_Task_matched) .none kV56 dc56 pm56 an56 cd56 ct56), sl56⟩)
    (c56_ : PySem.W.codeIn K cd56 "Task.matched" = true)
    (k56 : PySem.W.keepIn K (.ref f56) = true)
    (a57 : PySem.W.findIn K (.ref C0) "way" = some (some (.ref f57)))
    (i57 : PySem.W.isFn K (.ref f57) = true)
    (l57 : K.lookup f57 = some ⟨oc57, od57, .func (PySem.W.fnOf "way" "Task.way" (defArgs s_Task_way) (defBody s_Task_way) (defScope s_Task_way) .none kV57 dc57 pm57 an57 cd57 ct57), sl57⟩)
    (c57_ : PySem.W.codeIn K cd57 "Task.way" = true)
    (k57 : PySem.W.keepIn K (.ref f57) = true)
    (a49 : PySem.W.nsIn K mainGlobals "price_of" = some (some (.ref f49)))
    (l49 : K.lookup f49 = some ⟨oc49, od49, .func (PySem.W.fnOf "price_of" "price_of" (defArgs s_price_of) (defBody s_price_of) (defScope s_price_of) .none kV49 dc49 pm49 an49 cd49 ct49), sl49⟩)
    (c49_ : PySem.W.codeIn K cd49 "price_of" = true)
    (k49 : PySem.W.keepIn K (.ref f49) = true)
    (a58 : PySem.W.findIn K (.ref C0) "cost" = some (some (.ref f58)))
    (i58 : PySem.W.isFn K (.ref f58) = true)
    (l58 : K.lookup f58 = some ⟨oc58, od58, .func (PySem.W.fnOf "cost" "Task.cost" (defArgs s_Task_cost) (defBody s_Task_cost) (defScope s_Task_cost) .none kV58 dc58 pm58 an58 cd58 ct58), sl58⟩)
    (c58_ : PySem.W.codeIn K cd58 "Task.cost" = true)
    (k58 : PySem.W.keepIn K (.ref f58) = true)
    (a60 : PySem.W.nsIn K mainGlobals "least" = some (some (.ref f60)))
    (l60 : K.lookup f60 = some ⟨oc60, od60, .func (PySem.W.fnOf "least" "least" (defArgs s_least) (defBody s_least) (defScope s_least) .none kV60 dc60 pm60 an60 cd60 ct60), sl60⟩)
    (c60_ : PySem.W.codeIn K cd60 "least" = true)
    (k60 : PySem.W.keepIn K (.ref f60) = true)
    (a61 : PySem.W.nsIn K mainGlobals "fewest" = some (some (.ref f61)))
    (l61 : K.lookup f61 = some ⟨oc61, od61, .func (PySem.W.fnOf "fewest" "fewest" (defArgs s_fewest) (defBody s_fewest) (defScope s_fewest) .none kV61 dc61 pm61 an61 cd61 ct61), sl61⟩)
    (c61_ : PySem.W.codeIn K cd61 "fewest" = true)
    (k61 : PySem.W.keepIn K (.ref f61) = true)
    (a438 : PySem.W.nsIn K mainGlobals "_law_kind" = some (some (.ref f438)))
    (l438 : K.lookup f438 = some ⟨oc438, od438, .func (PySem.W.fnOf "_law_kind" "_law_kind" (defArgs s__law_kind) (defBody s__law_kind) (defScope s__law_kind) .none kV438 dc438 pm438 an438 cd438 ct438), sl438⟩)
    (c438_ : PySem.W.codeIn K cd438 "_law_kind" = true)
    (k438 : PySem.W.keepIn K (.ref f438) = true)
    (a68 : PySem.W.nsIn K mainGlobals "law" = some (some (.ref f68)))
    (l68 : K.lookup f68 = some ⟨oc68, od68, .func (PySem.W.fnOf "law" "law" (defArgs s_law) (defBody s_law) (defScope s_law) .none kV68 dc68 pm68 an68 (.ref c0) ct68), sl68⟩)
    (c68_ : PySem.W.codeIn K (.ref c0) "law" = true)
    (k68 : PySem.W.keepIn K (.ref f68) = true)
    (a111 : PySem.W.findIn K (.ref C11) "__init__" = some (some (.ref f111)))
    (i111 : PySem.W.isFn K (.ref f111) = true)
    (l111 : K.lookup f111 = some ⟨oc111, od111, .func (PySem.W.fnOf "__init__" "BadLand.__init__" (defArgs s_xi_11) (defBody s_xi_11) (defScope s_xi_11) .none kV111 dc111 pm111 an111 cd111 ct111), sl111⟩)
    (c111_ : PySem.W.codeIn K cd111 "BadLand.__init__" = true)
    (k111 : PySem.W.keepIn K (.ref f111) = true)
    (tI11 : PySem.W.typeIn K (.ref f111) = some (.type "function"))
    (oxb11 : oexB K C11 = true)
    (a112 : PySem.W.findIn K (.ref C12) "__init__" = some (some (.ref f112)))
    (i112 : PySem.W.isFn K (.ref f112) = true)
    (l112 : K.lookup f112 = some ⟨oc112, od112, .func (PySem.W.fnOf "__init__" "BadGoal.__init__" (defArgs s_xi_12) (defBody s_xi_12) (defScope s_xi_12) .none kV112 dc112 pm112 an112 cd112 ct112), sl112⟩)
    (c112_ : PySem.W.codeIn K cd112 "BadGoal.__init__" = true)
    (k112 : PySem.W.keepIn K (.ref f112) = true)
    (tI12 : PySem.W.typeIn K (.ref f112) = some (.type "function"))
    (oxb12 : oexB K C12 = true)
    (cib : cinitB K C10 = true)
    (c_LEAST_FIELDS : PySem.W.nsIn K mainGlobals "LEAST_FIELDS" = some (some (.int 2 tc_LEAST_FIELDS)))
    (c_LOWER : PySem.W.nsIn K mainGlobals "LOWER" = some (some (.str "lower" tc_LOWER)))
    (c_MOST_FIELDS : PySem.W.nsIn K mainGlobals "MOST_FIELDS" = some (some (.int 12 tc_MOST_FIELDS)))
    (c_MOST_HEIGHT : PySem.W.nsIn K mainGlobals "MOST_HEIGHT" = some (some (.int 999 tc_MOST_HEIGHT)))
    (c_MOST_PRICE : PySem.W.nsIn K mainGlobals "MOST_PRICE" = some (some (.int 99 tc_MOST_PRICE)))
    (c_RAISE : PySem.W.nsIn K mainGlobals "RAISE" = some (some (.str "raise" tc_RAISE)))
    (c_RING : PySem.W.nsIn K mainGlobals "RING" = some (some (.str "ring" tc_RING)))
    (c_ROW : PySem.W.nsIn K mainGlobals "ROW" = some (some (.str "row" tc_ROW)))
    (n_ValueError : PySem.W.nsIn K mainGlobals "ValueError" = some none)
    (n_abs : PySem.W.nsIn K mainGlobals "abs" = some none)
    (n_bool : PySem.W.nsIn K mainGlobals "bool" = some none)
    (n_divmod : PySem.W.nsIn K mainGlobals "divmod" = some none)
    (n_enumerate : PySem.W.nsIn K mainGlobals "enumerate" = some none)
    (n_int : PySem.W.nsIn K mainGlobals "int" = some none)
    (n_isinstance : PySem.W.nsIn K mainGlobals "isinstance" = some none)
    (n_len : PySem.W.nsIn K mainGlobals "len" = some none)
    (n_list : PySem.W.nsIn K mainGlobals "list" = some none)
    (n_max : PySem.W.nsIn K mainGlobals "max" = some none)
    (n_min : PySem.W.nsIn K mainGlobals "min" = some none)
    (n_range : PySem.W.nsIn K mainGlobals "range" = some none)
    (n_str : PySem.W.nsIn K mainGlobals "str" = some none)
    (n_sum : PySem.W.nsIn K mainGlobals "sum" = some none)
    (n_tuple : PySem.W.nsIn K mainGlobals "tuple" = some none)
    (n_zip : PySem.W.nsIn K mainGlobals "zip" = some none)
    (na_0_land : PySem.W.findIn K (.ref C0) "land" = some none)
    (na_0_more : PySem.W.findIn K (.ref C0) "more" = some none)
    (na_0_pairs : PySem.W.findIn K (.ref C0) "pairs" = some none)
    (na_0_rings : PySem.W.findIn K (.ref C0) "rings" = some none)
    (na_0_rise : PySem.W.findIn K (.ref C0) "rise" = some none)
    (lc0 : K.lookup c0 = some ⟨.type "code", ot0, .fields vt0, st0⟩)
    (ep0 : vt0[11]? = some (.ref P0))
    (nT0 : K.lookup P0 = none)
    (hC0 : PySem.W.codeHdIn K c0 P0 = true)
    (hT0 : h.get? P0 = some { cls := .none, data := .fields #[] })
    (lc1 : K.lookup c1 = some ⟨.type "code", ot1, .fields vt1, st1⟩)
    (ep1 : vt1[11]? = some (.ref P1))
    (nT1 : K.lookup P1 = none)
    (hC1 : PySem.W.codeHdIn K c1 P1 = true)
    (hT1 : h.get? P1 = some { cls := .none, data := .fields #[] })
    (ne01 : P0 ≠ P1)
    (xfb : xfactsB K (adrOf [(0, C0), (10, C10), (11, C11), (12, C12), (13, C13), (14, C14), (15, C15), (16, C16), (17, C17), (18, C18), (19, C19), (20, C20), (21, C21), (62, f62), (63, f63), (64, f64), (65, f65), (439, f439), (444, f444), (427, f427), (42, f42), (40, f40), (43, f43), (41, f41), (44, f44), (45, f45), (46, f46), (47, f47), (48, f48), (51, f51), (50, f50), (59, f59), (52, f52), (53, f53), (54, f54), (55, f55), (56, f56), (57, f57), (49, f49), (58, f58), (60, f60), (61, f61), (438, f438), (68, f68), (111, f111), (112, f112), (200, c0), (201, c1), (300, P0), (301, P1)]) = true)
    (main : ∀ ns : List Int, ns.length ≤ 63 → (∀ z ∈ ns, Builtin.Int.intBits z ≤ 1048576) → G_law [.lst (ns.map D.int)] = .ok (.bl true) [] ∧ G_law [.fls (ns.map D.int)] = .ok (.bl true) []) :
    LamX.LawAtS PySem.Challenge.rw_fencefields_k07_sums_of_rises w K (L2.CX PySem.Challenge.rw_fencefields_k07_sums_of_rises.prog w) 10 63 "_law_script" mg fa h := by
  have e := hfa.symm.trans (PySem.W.mg_of X G a68)
  cases e
  have Y : ∀ base : Heap, TabB base mg c0 P0 → TabB base mg c1 P1 → Fx K mg base (adrOf [(0, C0), (10, C10), (11, C11), (12, C12), (13, C13), (14, C14), (15, C15), (16, C16), (17, C17), (18, C18), (19, C19), (20, C20), (21, C21), (62, f62), (63, f63), (64, f64), (65, f65), (439, f439), (444, f444), (427, f427), (42, f42), (40, f40), (43, f43), (41, f41), (44, f44), (45, f45), (46, f46), (47, f47), (48, f48), (51, f51), (50, f50), (59, f59), (52, f52), (53, f53), (54, f54), (55, f55), (56, f56), (57, f57), (49, f49), (58, f58), (60, f60), (61, f61), (438, f438), (68, fa), (111, f111), (112, f112), (200, c0), (201, c1), (300, P0), (301, P1)]) [(P0, lamQ "law"), (P1, lamQ "Task.cheapest")] := fun base tb0 tb1 => {
    nil_ := trivial
    fd__law_start := fd_mk X G a62 l62 c62_ k62 (fun _ _ _ _ _ _ us hl => match us, hl with | [_], _ => rfl)
    fd__law_drawn := fd_mk X G a63 l63 c63_ k63 (fun _ _ _ _ _ _ us hl => match us, hl with | [_, _], _ => rfl)
    fd__law_land := fd_mk X G a64 l64 c64_ k64 (fun _ _ _ _ _ _ us hl => match us, hl with | [_, _, _], _ => rfl)
    fd__law_goal := fd_mk X G a65 l65 c65_ k65 (fun _ _ _ _ _ _ us hl => match us, hl with | [_, _, _], _ => rfl)
    fd__law_more := fd_mk X G a439 l439 c439_ k439 (fun _ _ _ _ _ _ us hl => match us, hl with | [_, _], _ => rfl)
    fd__law_rise := fd_mk X G a444 l444 c444_ k444 (fun _ _ _ _ _ _ us hl => match us, hl with | [_, _], _ => rfl)
    fd__law_cost := fd_mk X G a427 l427 c427_ k427 (fun _ _ _ _ _ _ us hl => match us, hl with | [_, _], _ => rfl)
    fd_first_wrong := fd_mk X G a42 l42 c42_ k42 (fun _ _ _ _ _ _ us hl => match us, hl with | [_, _, _, _], _ => rfl)
    fd_is_number := fd_mk X G a40 l40 c40_ k40 (fun _ _ _ _ _ _ us hl => match us, hl with | [_, _, _], _ => rfl)
    fd_is_height := fd_mk X G a43 l43 c43_ k43 (fun _ _ _ _ _ _ us hl => match us, hl with | [_], _ => rfl)
    fd_borders_of := fd_mk X G a41 l41 c41_ k41 (fun _ _ _ _ _ _ us hl => match us, hl with | [_, _], _ => rfl)
    fd_is_price := fd_mk X G a44 l44 c44_ k44 (fun _ _ _ _ _ _ us hl => match us, hl with | [_], _ => rfl)
    fd_need_land := fd_mk X G a45 l45 c45_ k45 (fun _ _ _ _ _ _ us hl => match us, hl with | [_], _ => rfl)
    fd_need_goal := fd_mk X G a46 l46 c46_ k46 (fun _ _ _ _ _ _ us hl => match us, hl with | [_, _], _ => rfl)
    fd_differences := fd_mk X G a47 l47 c47_ k47 (fun _ _ _ _ _ _ us hl => match us, hl with | [_, _], _ => rfl)
    fd_rises_of := fd_mk X G a48 l48 c48_ k48 (fun _ _ _ _ _ _ us hl => match us, hl with | [_, _], _ => rfl)
    fd_Task_greatest := md_mk a51 i51 l51 c51_ k51 (fun _ _ _ _ _ _ us hl => match us, hl with | [_], _ => rfl)
    fd_Task___init__ := md_mk a50 i50 l50 c50_ k50 (fun _ _ _ _ _ _ us hl => match us, hl with | [_, _, _], _ => rfl)
    mk_0 := mk0
    kc_0 := kc0
    at_0 := PySem.W.mg_of X G aC0
    fd_task_of := fd_mk X G a59 l59 c59_ k59 (fun _ _ _ _ _ _ us hl => match us, hl with | [_, _], _ => rfl)
    fd_Task_fences := md_mk a52 i52 l52 c52_ k52 (fun _ _ _ _ _ _ us hl => match us, hl with | [_], _ => rfl)
    fd_Task_barred := md_mk a53 i53 l53 c53_ k53 (fun _ _ _ _ _ _ us hl => match us, hl with | [_], _ => rfl)
    fd_Task_cheapest := mdc_mk a54 i54 l54 c54_ k54 (fun _ _ _ _ _ _ us hl => match us, hl with | [_], _ => rfl)
    tb_Task_cheapest := tb1
    in_Task_cheapest := by simp [adrOf, List.lookup]
    one_Task_cheapest := one2b ne01
    fd_Task_whole := md_mk a55 i55 l55 c55_ k55 (fun _ _ _ _ _ _ us hl => match us, hl with | [_], _ => rfl)
    fd_Task_matched := md_mk a56 i56 l56 c56_ k56 (fun _ _ _ _ _ _ us hl => match us, hl with | [_], _ => rfl)
    fd_Task_way := md_mk a57 i57 l57 c57_ k57 (fun _ _ _ _ _ _ us hl => match us, hl with | [_], _ => rfl)
    fd_price_of := fd_mk X G a49 l49 c49_ k49 (fun _ _ _ _ _ _ us hl => match us, hl with | [_, _], _ => rfl)
    fd_Task_cost := md_mk a58 i58 l58 c58_ k58 (fun _ _ _ _ _ _ us hl => match us, hl with | [_], _ => rfl)
    fd_least := fd_mk X G a60 l60 c60_ k60 (fun _ _ _ _ _ _ us hl => match us, hl with | [_, _], _ => rfl)
    fd_fewest := fd_mk X G a61 l61 c61_ k61 (fun _ _ _ _ _ _ us hl => match us, hl with | [_, _], _ => rfl)
    fd__law_kind := fd_mk X G a438 l438 c438_ k438 (fun _ _ _ _ _ _ us hl => match us, hl with | [_], _ => rfl)
    tb_law := tb0
    in_law := by simp [adrOf, List.lookup]
    one_law := one2a ne01
    fdi_11 := md_mk a111 i111 l111 c111_ k111 (fun _ _ _ _ _ _ us hl => match us, hl with | [_, _, _], _ => rfl)
    tI_11 := tI11
    ox_11 := oex_of oxb11
    fdi_12 := md_mk a112 i112 l112 c112_ k112 (fun _ _ _ _ _ _ us hl => match us, hl with | [_, _], _ => rfl)
    tI_12 := tI12
    ox_12 := oex_of oxb12
    ci := cinit_of cib
    c_LEAST_FIELDS := ⟨_, PySem.W.mg_of X G c_LEAST_FIELDS, _, rfl⟩
    c_LOWER := ⟨_, PySem.W.mg_of X G c_LOWER, _, rfl⟩
    c_MOST_FIELDS := ⟨_, PySem.W.mg_of X G c_MOST_FIELDS, _, rfl⟩
    c_MOST_HEIGHT := ⟨_, PySem.W.mg_of X G c_MOST_HEIGHT, _, rfl⟩
    c_MOST_PRICE := ⟨_, PySem.W.mg_of X G c_MOST_PRICE, _, rfl⟩
    c_RAISE := ⟨_, PySem.W.mg_of X G c_RAISE, _, rfl⟩
    c_RING := ⟨_, PySem.W.mg_of X G c_RING, _, rfl⟩
    c_ROW := ⟨_, PySem.W.mg_of X G c_ROW, _, rfl⟩
    cls_0 := ⟨pg0, hd0, po0, sa0⟩
    n_ValueError := PySem.W.mg_none_of X G n_ValueError
    n_abs := PySem.W.mg_none_of X G n_abs
    n_bool := PySem.W.mg_none_of X G n_bool
    n_divmod := PySem.W.mg_none_of X G n_divmod
    n_enumerate := PySem.W.mg_none_of X G n_enumerate
    n_int := PySem.W.mg_none_of X G n_int
    n_isinstance := PySem.W.mg_none_of X G n_isinstance
    n_len := PySem.W.mg_none_of X G n_len
    n_list := PySem.W.mg_none_of X G n_list
    n_max := PySem.W.mg_none_of X G n_max
    n_min := PySem.W.mg_none_of X G n_min
    n_range := PySem.W.mg_none_of X G n_range
    n_str := PySem.W.mg_none_of X G n_str
    n_sum := PySem.W.mg_none_of X G n_sum
    n_tuple := PySem.W.mg_none_of X G n_tuple
    n_zip := PySem.W.mg_none_of X G n_zip
    na_0_land := na_0_land
    na_0_more := na_0_more
    na_0_pairs := na_0_pairs
    na_0_rings := na_0_rings
    na_0_rise := na_0_rise
    xat_10 := PySem.W.mg_of X G aC10
    xat_11 := PySem.W.mg_of X G aC11
    xat_12 := PySem.W.mg_of X G aC12
    xat_13 := PySem.W.mg_of X G aC13
    xat_14 := PySem.W.mg_of X G aC14
    xat_15 := PySem.W.mg_of X G aC15
    xat_16 := PySem.W.mg_of X G aC16
    xat_17 := PySem.W.mg_of X G aC17
    xat_18 := PySem.W.mg_of X G aC18
    xat_19 := PySem.W.mg_of X G aC19
    xat_20 := PySem.W.mg_of X G aC20
    xat_21 := PySem.W.mg_of X G aC21
    xf := xfacts_of xfb
  }
  have F := fun_mk (st := s_law) l68 c68_ k68
  refine ⟨PySem.W.fnOf "law" "law" (defArgs s_law) (defBody s_law) (defScope s_law) .none kV68 dc68 pm68 an68 (.ref c0) ct68, [(c0, P0), (c1, P1)], spD K (adrOf [(0, C0), (10, C10), (11, C11), (12, C12), (13, C13), (14, C14), (15, C15), (16, C16), (17, C17), (18, C18), (19, C19), (20, C20), (21, C21), (62, f62), (63, f63), (64, f64), (65, f65), (439, f439), (444, f444), (427, f427), (42, f42), (40, f40), (43, f43), (41, f41), (44, f44), (45, f45), (46, f46), (47, f47), (48, f48), (51, f51), (50, f50), (59, f59), (52, f52), (53, f53), (54, f54), (55, f55), (56, f56), (57, f57), (49, f49), (58, f58), (60, f60), (61, f61), (438, f438), (68, fa), (111, f111), (112, f112), (200, c0), (201, c1), (300, P0), (301, P1)]) [(P0, lamQ "law"), (P1, lamQ "Task.cheapest")] [false] G_law, ?_, ?_, ?_, fun s v => .of_eq rfl, fun H a ns hl hb hT hS => law_sp hS (tabsN (by intro p hp; simp only [List.mem_cons, List.not_mem_nil, or_false] at hp; rcases hp with rfl | rfl <;> first | exact hT (c0, P0) (by simp) | exact hT (c1, P1) (by simp))) (main ns hl hb).1 (main ns hl hb).2, fun base hK hN tb => ?_⟩
  · intro p hp; simp only [List.mem_cons, List.not_mem_nil, or_false] at hp; rcases hp with rfl | rfl <;> first | exact hT0 | exact hT1
  · intro p hp; simp only [List.mem_cons, List.not_mem_nil, or_false] at hp; rcases hp with rfl | rfl <;> first | exact nT0 | exact nT1
  · intro p hp; simp only [List.mem_cons, List.not_mem_nil, or_false] at hp; rcases hp with rfl | rfl <;> first | exact PySem.W.codeHd_of_K X hC0 | exact PySem.W.codeHd_of_K X hC1
  · exact fn_dC [false] b_law rfl F rfl S_law (body_law (Y base (tb (c0, P0) (by simp)) (tb (c1, P1) (by simp))) (fun z => z))
end L07
set_option linter.all false
set_option maxRecDepth 100000
set_option maxHeartbeats 4000000
namespace LC
open PySem L2 DL
/-! ### the drawing -/
def stD (ns : List Int) (a b c : Int) : D := .lst [.fls (ns.map D.int), .int a, .int b, .int c]
theorem drawn1 (ns : List Int) (a b c m : Int) (hc : 0 < c) (hm : 0 < m) (hm2 : m < 1073741824) : G__law_drawn [stD ns a b c, .int m] = .ok (.int (c.fmod m)) [stD ns a b (c.fdiv m)] := by
  have h1 : m ≠ 0 := by omega
  have h2 : m.natAbs < 1073741824 := by omega
  simp [G__law_drawn, b__law_drawn, stD, hc, h1, h2]
theorem drawn2 (ns : List Int) (a b c m : Int) (hc : ¬ 0 < c) (hm : 0 < m) (hm2 : m < 1073741824) (ha : 0 ≤ a) (hl : a < ns.length) : ∃ (x c' : Int), G__law_drawn [stD ns a b c, .int m] = .ok (.int (x.fmod m)) [stD ns (a + 1) b c'] := by
  have h1 : m ≠ 0 := by omega
  have h2 : m.natAbs < 1073741824 := by omega
  have h3 : a + 1 ≤ ns.length := by omega
  have e1 : a + 1 - 1 = a := by omega
  have hn : a.toNat < ns.length := by omega
  have e2 : atI (ns.map D.int) a = some (.int ns[a.toNat]) := at_nat ha (by simp [hn])
  refine ⟨ns[a.toNat], if 1000000000000000000 ≤ ns[a.toNat] then ns[a.toNat].fdiv m else 0, ?_⟩
  by_cases h4 : 1000000000000000000 ≤ ns[a.toNat]
  · simp [G__law_drawn, b__law_drawn, stD, hc, h1, h2, h3, e1, e2, h4]
  · simp [G__law_drawn, b__law_drawn, stD, hc, h1, h2, h3, e1, e2, h4]
theorem fmod_mixed (x : Int) : 0 ≤ x.fmod 2147483647 ∧ x.fmod 2147483647 < 2147483647 := ⟨Int.fmod_nonneg_of_pos _ (by decide), Int.fmod_lt_of_pos _ (by decide)⟩
theorem sm_of {x : Int} (h1 : 0 ≤ x) (h2 : x < 2147483647) : sm x = true := by unfold sm; simp; omega
theorem drawn3 (ns : List Int) (a b c m : Int) (hc : ¬ 0 < c) (hm : 0 < m) (hm2 : m < 1073741824) (ha : 0 ≤ a) (hl : ¬ a < ns.length) (hb : 0 ≤ b) (hb2 : b < 2147483647) : ∃ b', 0 ≤ b' ∧ b' < 2147483647 ∧ G__law_drawn [stD ns a b c, .int m] = .ok (.int ((b'.fdiv 7).fmod m)) [stD ns (a + 1) b' c] := by
  have h1 : m ≠ 0 := by omega
  have h3 : ¬ a + 1 ≤ ns.length := by omega
  refine ⟨(b * 48271 + 11).fmod 2147483647, (fmod_mixed _).1, (fmod_mixed _).2, ?_⟩
  simp [G__law_drawn, b__law_drawn, stD, hc, h1, h3, sm_of hb hb2]
def StOk (d : D) : Prop := ∃ ns a b c, d = stD ns a b c ∧ 0 ≤ a ∧ 0 ≤ b ∧ b < 2147483647
theorem drawn_ok {d : D} {m : Int} (h : StOk d) (hm : 0 < m) (hm2 : m < 1073741824) : ∃ v d', G__law_drawn [d, .int m] = .ok (.int v) [d'] ∧ StOk d' ∧ 0 ≤ v ∧ v < m := by
  obtain ⟨ns, a, b, c, rfl, ha, hb, hb2⟩ := h
  by_cases hc : 0 < c
  · exact ⟨_, _, drawn1 ns a b c m hc hm hm2, ⟨ns, a, b, _, rfl, ha, hb, hb2⟩, Int.fmod_nonneg_of_pos _ hm, Int.fmod_lt_of_pos _ hm⟩
  · by_cases hl : a < ns.length
    · obtain ⟨x, c', e⟩ := drawn2 ns a b c m hc hm hm2 ha hl
      exact ⟨_, _, e, ⟨ns, a + 1, b, c', rfl, by omega, hb, hb2⟩, Int.fmod_nonneg_of_pos _ hm, Int.fmod_lt_of_pos _ hm⟩
    · obtain ⟨b', h1, h2, e⟩ := drawn3 ns a b c m hc hm hm2 ha hl hb hb2
      exact ⟨_, _, e, ⟨ns, a + 1, b', c, rfl, by omega, h1, h2⟩, Int.fmod_nonneg_of_pos _ hm, Int.fmod_lt_of_pos _ hm⟩
theorem start_loop (d : D) (ns : List Int) : ∀ (x : Int) (o : Option D), 0 ≤ x → x < 2147483647 → ∃ y o', 0 ≤ y ∧ y < 2147483647 ∧ forL (turnS (tgN 2) (sSet 1 (eO2 (d2 dMod) (eO2 (d2 dAdd) (eO2 (d2 dAdd) (eO2 (d2 dMul) (eV 1) (eC (.int 48271))) (eV 2)) (eC (.int 7))) (eC (.int 2147483647))))) (ns.map D.int) [some d, some (.int x), o] = .nx [some d, some (.int y), o'] := by
  induction ns with
  | nil => intro x o h1 h2; exact ⟨x, o, h1, h2, rfl⟩
  | cons n ns ih =>
    intro x o h1 h2
    obtain ⟨y, o', a1, a2, e⟩ := ih ((x * 48271 + n + 7).fmod 2147483647) (some (.int n)) (fmod_mixed _).1 (fmod_mixed _).2
    refine ⟨y, o', a1, a2, ?_⟩
    rw [List.map_cons]
    unfold forL
    simp [sm_of h1 h2]
    exact e
theorem start_ok (ns : List Int) : ∃ d, G__law_start [.fls (ns.map D.int)] = .ok d [] ∧ StOk d := by
  obtain ⟨y, o', h1, h2, e⟩ := start_loop (.fls (ns.map D.int)) ns 1 none (by decide) (by decide)
  refine ⟨stD ns 0 y 0, ?_, ns, 0, y, 0, rfl, by decide, h1, h2⟩
  simp [G__law_start, b__law_start, sizeLine_eq, stD, e]
end LC
set_option linter.all false
set_option maxRecDepth 100000
set_option maxHeartbeats 4000000
namespace LC
open PySem L2 DL
/-! ### lands -/
def shS (ring : Bool) : Str := if ring then "ring" else "row"
def landD (ring : Bool) (hs : List Int) (ps : List (Option Int)) : D := .tup [.str (shS ring), .tup (hs.map D.int), .tup (ps.map optD)]
def bords (ring : Bool) (n : Nat) : Nat := if ring then n else n + 1
structure LandB (B : Int) (ring : Bool) (hs : List Int) (ps : List (Option Int)) : Prop where
  n2 : 2 ≤ hs.length
  n12 : hs.length ≤ 12
  pl : ps.length = bords ring hs.length
  h0 : ∀ h ∈ hs, 0 ≤ h ∧ h ≤ 999
  p0 : ∀ p, some p ∈ ps → 1 ≤ p ∧ p ≤ B
abbrev LandOk := LandB 99
theorem row_ring : (Str.ofString "row" == Str.ofString "ring") = false := by decide +kernel
theorem eq_str (a b : Str) (ha : SeqAt.shaped (.str a) = true) (hb : SeqAt.shaped (.str b) = true) : dEq (.str a) (.str b) = some (.bl (a == b)) := by
  simp [dEq, eqD, pd, ha, hb, PyData.eqv]
theorem sh_row : SeqAt.shaped (.str (Str.ofString "row")) = true := by decide +kernel
theorem sh_ring : SeqAt.shaped (.str (Str.ofString "ring")) = true := by decide +kernel
@[simp] theorem eq_row (r : Bool) : dEq (.str (shS r)) (.str (Str.ofString "row")) = some (.bl (!r)) := by
  cases r
  · rw [show shS false = Str.ofString "row" from rfl, eq_str _ _ sh_row sh_row]; simp
  · rw [show shS true = Str.ofString "ring" from rfl, eq_str _ _ sh_ring sh_row]; simp; decide +kernel
@[simp] theorem eq_ring (r : Bool) : dEq (.str (shS r)) (.str (Str.ofString "ring")) = some (.bl r) := by
  cases r
  · rw [show shS false = Str.ofString "row" from rfl, eq_str _ _ sh_row sh_ring]; simp; decide +kernel
  · rw [show shS true = Str.ofString "ring" from rfl, eq_str _ _ sh_ring sh_ring]; simp
theorem beq_dec (i j : Int) : (i == j) = decide (i = j) := by
  by_cases h : i = j <;> simp [h]
@[simp] theorem eq_int (i j : Int) : dEq (.int i) (.int j) = some (.bl (decide (i = j))) := by
  rw [← beq_dec]
  simp [dEq, eqD, pd, PyData.eqv, SeqAt.shaped, PyData.canLay0, PyData.depth]
@[simp] theorem ne_int (i j : Int) : dNe (.int i) (.int j) = some (.bl (!decide (i = j))) := by
  rw [← beq_dec]
  simp [dNe, eqD, pd, PyData.eqv, SeqAt.shaped, PyData.canLay0, PyData.depth]
theorem st_lst {d : D} (h : StOk d) : ∃ l, d = .lst l := by
  obtain ⟨ns, a, b, c, rfl, _⟩ := h
  exact ⟨_, rfl⟩
end LC
set_option linter.all false
set_option maxRecDepth 100000
set_option maxHeartbeats 4000000
namespace LC
open PySem L2 DL
theorem small_of {x : Int} (h1 : -1000000 ≤ x) (h2 : x ≤ 1000000) : small62 x = true := by unfold small62; simp; omega
theorem two {v : Int} (h0 : 0 ≤ v) (h1 : v < 2) : v = 0 ∨ v = 1 := by omega
theorem three {v : Int} (h0 : 0 ≤ v) (h1 : v < 3) : v = 0 ∨ v = 1 ∨ v = 2 := by omega
theorem pick_shape {v : Int} (h0 : 0 ≤ v) (h1 : v < 2) : ∃ r : Bool, dIx (.lst [.str (Str.ofString "row"), .str (Str.ofString "ring")]) (.int v) = some (.str (shS r)) := by
  rcases two h0 h1 with rfl | rfl
  · exact ⟨false, by simp [shS]⟩
  · exact ⟨true, by simp [shS]⟩
theorem pick3 {v a b c : Int} (h0 : 0 ≤ v) (h1 : v < 3) : ∃ x, dIx (.lst [.int a, .int b, .int c]) (.int v) = some (.int x) ∧ (x = a ∨ x = b ∨ x = c) := by
  rcases three h0 h1 with rfl | rfl | rfl
  · exact ⟨a, by simp⟩
  · exact ⟨b, by simp⟩
  · exact ⟨c, by simp⟩
theorem land_ok {d : D} {high : Int} (h : StOk d) (h0 : 0 ≤ high) (h9 : high ≤ 999) : ∃ ring hs ps d', G__law_land [d, .int 11, .int high] = .ok (landD ring hs ps) [d'] ∧ StOk d' ∧ LandOk ring hs ps ∧ ∀ x ∈ hs, x ≤ high := by
  obtain ⟨v1, d1, e1, s1, a1, b1⟩ := drawn_ok h (m := 2) (by decide) (by decide)
  obtain ⟨v2, d2, e2, s2, a2, b2⟩ := drawn_ok s1 (m := 10) (by decide) (by decide)
  obtain ⟨r, er⟩ := pick_shape a1 b1
  obtain ⟨hs, ρ1, e3, ⟨d3, s3, eρ⟩, l3, r3⟩ := lcL_rel (t := tgN 9) (e := eCall [true, false] G__law_drawn (cIo 0 (cVal (eO2 (DL.d2 dAdd) (eV 2) (eC (.int 1))) cNil))) (vs := [9]) (fun i : Nat => D.int (i : Int)) D.int
    (fun ρ => ∃ d, StOk d ∧ ρ = [some d, some (.int 11), some (.int high), some (.str (shS r)), some (.int (2 + v2)), none, none, none, none, none]) (fun x => 0 ≤ x ∧ x ≤ high) (List.range (2 + v2).toNat) []
    [some d2, some (.int 11), some (.int high), some (.str (shS r)), some (.int (2 + v2)), none, none, none, none, none] ⟨d2, s2, rfl⟩ (fun i _ ρ ⟨d, s, e⟩ => by
      subst e
      obtain ⟨v, d', e, s', a, b⟩ := drawn_ok s (m := high + 1) (by omega) (by omega)
      exact ⟨_, v, _, rfl, by simp [e]; rfl, ⟨a, by omega⟩, d', s', by simp [killL]⟩) (by simp [sizeLine_eq]; omega)
  subst eρ
  obtain ⟨v4, d4, e4, s4, a4, b4⟩ := drawn_ok s3 (m := 3) (by decide) (by decide)
  obtain ⟨v5, d5, e5, s5, a5, b5⟩ := drawn_ok s4 (m := 3) (by decide) (by decide)
  obtain ⟨dear, edear, cdear⟩ := pick3 (a := 3) (b := 99) (c := 99) a4 b4
  obtain ⟨rare, erare, crare⟩ := pick3 (a := 4) (b := 12) (c := 60) a5 b5
  have hl : (hs.map D.int).length = (2 + v2).toNat := by simpa using l3
  -- the prices
  obtain ⟨ρ6, e6, ps, d6, o6, s6, l6, r6, eρ6⟩ := forL_inv (st := turnS (tgN 9) (sDrop (eApp 8 (eIf (eO2 (DL.d2 dEq) (eCall [true, false] G__law_drawn (cIo 0 (cVal (eV 7) cNil))) (eC (.int 0))) (eC .non) (eO2 (DL.d2 dAdd) (eC (.int 1)) (eCall [true, false] G__law_drawn (cIo 0 (cVal (eV 6) cNil))))))))
    (fun i : Nat => D.int (i : Int)) (fun i ρ => ∃ ps d o, StOk d ∧ ps.length = i ∧ (∀ p, some p ∈ ps → 1 ≤ p ∧ p ≤ 99) ∧ ρ = [some d, some (.int 11), some (.int high), some (.str (shS r)), some (.int (2 + v2)), some (.tup (hs.map D.int)), some (.int dear), some (.int rare), some (.lst (ps.map optD)), o])
    (List.range (2 + v2 + bI (!r)).toNat) 0 [some d5, some (.int 11), some (.int high), some (.str (shS r)), some (.int (2 + v2)), some (.tup (hs.map D.int)), some (.int dear), some (.int rare), some (.lst []), none]
    ⟨[], d5, none, s5, rfl, (fun _ z => nomatch z), rfl⟩ (fun j ii ρ _ hj ⟨ps, d, o, s, l, rp, e⟩ => by
      subst e
      have hj2 : j < (2 + v2 + bI (!r)).toNat := by
        have := (List.getElem?_eq_some_iff.mp hj).1
        simpa using this
      have hb : bI (!r) ≤ 1 := by cases r <;> decide
      have hlt : (ps.map optD).length < 16777216 := by rw [List.length_map]; omega
      obtain ⟨v, d', e, s', a, b⟩ := drawn_ok s (m := rare) (by rcases crare with h | h | h <;> omega) (by rcases crare with h | h | h <;> omega)
      by_cases hv : v = 0
      · subst hv
        refine ⟨_, ?_, ps ++ [none], d', some (.int (ii : Int)), s', by simp [l], fun p hp => rp p (by simpa using hp), rfl⟩
        rw [List.length_map] at hlt
        simp [e, sizeLine_eq, hlt, optD]
      · obtain ⟨v', d'', e', s'', a', b'⟩ := drawn_ok s' (m := dear) (by rcases cdear with h | h | h <;> omega) (by rcases cdear with h | h | h <;> omega)
        refine ⟨_, ?_, ps ++ [some (1 + v')], d'', some (.int (ii : Int)), s'', by simp [l], fun p hp => ?_, rfl⟩
        · rw [List.length_map] at hlt
          simp [e, e', hv, sizeLine_eq, hlt, optD]
        · rcases List.mem_append.mp hp with z | z
          · exact rp p z
          · have : p = 1 + v' := by simpa using z
            rcases cdear with h | h | h <;> omega)
  subst eρ6
  refine ⟨r, hs, ps, d6, run_rt (seq_nx (by simp [e1, e2, er, sizeLine_eq]; rfl) (seq_nx (by simp [small_of (x := 2 + v2) (by omega) (by omega), freeL, e3]; rfl) (seq_nx (by simp [e4, e5, edear, erare, sizeLine_eq]; rfl) (seq_nx (by simp [sizeLine_eq]; rfl) (seq_nx (by
    have hb : 0 ≤ bI (!r) ∧ bI (!r) ≤ 1 := by cases r <;> decide
    simp [small_of (x := 2 + v2 + bI (!r)) (by omega) (by omega), e6]; rfl) (by simp [sizeLine_eq]; exact ⟨rfl, rfl⟩)))))) (by simp), s6, ?_, fun x hx => (r3 x hx).2⟩
  · have hn : hs.length = (2 + v2).toNat := by simpa using l3
    refine ⟨by omega, by omega, ?_, fun x hx => ⟨(r3 x hx).1, by have := (r3 x hx).2; omega⟩, r6⟩
    have hp : ps.length = (2 + v2 + bI (!r)).toNat := by simpa using l6
    unfold bords
    cases r
    · rw [if_neg (by simp), hp, hn]; show (2 + v2 + 1).toNat = _; omega
    · rw [if_pos rfl, hp, hn]; show (2 + v2 + 0).toNat = _; omega
end LC
set_option linter.all false
set_option maxRecDepth 100000
set_option maxHeartbeats 4000000
namespace LC
open PySem L2 DL
@[simp] theorem isi_int (i : Int) : dIsi (.int i) (.ty "int") = some (.bl true) := rfl
@[simp] theorem isi_intb (i : Int) : dIsi (.int i) (.ty "bool") = some (.bl false) := rfl
@[simp] theorem isi_tup (l : List D) : dIsi (.tup l) (.ty "tuple") = some (.bl true) := rfl
@[simp] theorem isi_str (s : Str) : dIsi (.str s) (.ty "str") = some (.bl true) := rfl
theorem is_height_ok {x : Int} (h0 : 0 ≤ x) (h1 : x ≤ 999) : G_is_height [.int x] = .ok (.bl true) [] := by
  simp [G_is_height, b_is_height, G_is_number, b_is_number, h0, h1]
theorem is_price_ok {x : Option Int} (h : ∀ p, x = some p → 1 ≤ p ∧ p ≤ 99) : G_is_price [optD x] = .ok (.bl true) [] := by
  cases x with
  | none => simp [G_is_price, b_is_price, optD]
  | some p =>
    obtain ⟨h0, h1⟩ := h p rfl
    simp [G_is_price, b_is_price, G_is_number, b_is_number, optD, h0, h1]
theorem enumF_map {α : Type} (f : α → D) : ∀ (l : List α) (k : Nat), enumF k (l.map f) = (l.zipIdx k).map fun p => .tup [.int (p.2 : Int), f p.1]
  | [], k => rfl
  | a :: l, k => by simp [enumF, enumF_map f l (k + 1), List.zipIdx_cons]
theorem first_wrong_ok {α : Type} {f : α → D} {l : List α} {least most : Int} {n : Nat} {G : List D → FR} {tb : Nat → Option (List D → FR)} (hd : ∀ a, dup (f a) = true) (ht : tb n = some G) (hg : ∀ a ∈ l, G [f a] = .ok (.bl true) []) (h1 : least ≤ l.length) (h2 : (l.length : Int) ≤ most) :
    G_first_wrong tb [.tup (l.map f), .int least, .int most, .ref n] = .ok .non [] := by
  have hdl := dupL_map f hd l
  obtain ⟨ρ', e, o1, o2, eρ⟩ := forL_inv (st := turnS (tgT 2 (tgCons (tgN 4) (tgCons (tgN 5) tgNil))) (sIf (eOr (eO2 (d2 dEq) (eV 4) (eV 2)) (eNot (eCallV 3 [false] tb (cVal (eV 5) cNil)))) (sRet (eV 4)) sNx))
    (fun p : α × Nat => D.tup [.int (p.2 : Int), f p.1]) (fun i ρ => ∃ o1 o2, ρ = [some (.tup (l.map f)), some (.int least), some (.int most), some (.ref n), o1, o2]) (l.zipIdx 0) 0 [some (.tup (l.map f)), some (.int least), some (.int most), some (.ref n), none, none] ⟨none, none, rfl⟩
    (fun j p ρ _ hj ⟨o1, o2, e⟩ => by
      subst e
      obtain ⟨a, i⟩ := p
      have hj' : (l.zipIdx 0)[j]? = some (a, i) := by simpa using hj
      rw [List.getElem?_zipIdx] at hj'
      cases hx : l[j]? with
      | none => rw [hx] at hj'; cases hj'
      | some y =>
        rw [hx] at hj'
        simp at hj'
        obtain ⟨h3, h4⟩ := hj'
        subst h3
        have hl : j < l.length := (List.getElem?_eq_some_iff.mp hx).1
        have hm : ¬ (i : Int) = most := by omega
        refine ⟨_, ?_, some (.int (i : Int)), some (f y), rfl⟩
        simp [hm, ht, hg y (List.mem_of_getElem? hx), hd])
  subst eρ
  have hl2 : ¬ (l.length : Int) < least := by omega
  refine run_rt (seq_nx (by simp [hdl]; rfl) (seq_nx (by simp [hdl, enumF_map]; rw [e]) (by simp [hl2, hdl]; rfl))) (by simp)
theorem need_land_ok {r : Bool} {hs : List Int} {ps : List (Option Int)} (h : LandOk r hs ps) : G_need_land [landD r hs ps] = .ok .non [] := by
  have e1 : G_first_wrong tb_is_height [.tup (hs.map D.int), .int 2, .int 12, .ref 43] = .ok .non [] := first_wrong_ok (fun _ => rfl) rfl (fun x hx => is_height_ok (h.h0 x hx).1 (h.h0 x hx).2) (by have := h.n2; omega) (by have := h.n12; omega)
  have e2 : G_borders_of [.str (shS r), .int hs.length] = .ok (.int (bords r hs.length)) [] := by
    cases r <;> simp [G_borders_of, b_borders_of, bI, bords]
  have e3 : G_first_wrong tb_is_price [.tup (ps.map optD), .int (bords r hs.length), .int (bords r hs.length), .ref 44] = .ok .non [] := first_wrong_ok dup_opt rfl (fun x hx => is_price_ok fun p hp => h.p0 p (by rw [← hp]; exact hx)) (by rw [h.pl]; omega) (by rw [h.pl]; omega)
  have e4 : dNotIn (.str (shS r)) (.tup [.str (Str.ofString "row"), .str (Str.ofString "ring")]) = some (.bl false) := by
    cases r <;> rfl
  simp [G_need_land, b_need_land, landD, e1, e2, e3, e4, sizeLine_eq]
theorem need_goal_ok {r : Bool} {hs gs : List Int} {ps : List (Option Int)} (hl : gs.length = hs.length) (hg : ∀ g ∈ gs, 0 ≤ g ∧ g ≤ 999) : G_need_goal [landD r hs ps, .tup (gs.map D.int)] = .ok .non [] := by
  have e1 : G_first_wrong tb_is_height [.tup (gs.map D.int), .int hs.length, .int hs.length, .ref 43] = .ok .non [] := first_wrong_ok (fun _ => rfl) rfl (fun x hx => is_height_ok (hg x hx).1 (hg x hx).2) (by omega) (by omega)
  simp [G_need_goal, b_need_goal, landD, e1, sizeLine_eq]
end LC
set_option linter.all false
set_option maxRecDepth 100000
set_option maxHeartbeats 4000000
namespace LC
open PySem L2 DL
@[simp] theorem dInts_map : ∀ l : List Int, dInts (l.map D.int) = some l
  | [] => rfl
  | a :: l => by simp [dInts, dInts_map l]
@[simp] theorem op_sumL (l : List Int) : dSum (.lst (l.map D.int)) = some (.int l.sum) := by simp [dSum, litms]
@[simp] theorem op_sumF (l : List Int) : dSum (.fls (l.map D.int)) = some (.int l.sum) := by simp [dSum, litms]
@[simp] theorem op_maxL (l : List Int) : dMax (.lst (l.map D.int)) = (maxI l).map .int := by simp [dMax, litms]
@[simp] theorem op_maxF (l : List Int) : dMax (.fls (l.map D.int)) = (maxI l).map .int := by simp [dMax, litms]
@[simp] theorem op_zipT (a b : List D) : kZip [.tup a, .tup b] = if dupL a then (if dupL b then some (zipF a b) else none) else none := by
  unfold kZip
  simp only [op_itT]
  show (match itemsL (D.tup a), itemsL (D.tup b) with | some l, some m => some (zipF l m) | _, _ => match (if dupL a = true then some a else none), (if dupL b = true then some b else none) with | some l, some m => some (zipF l m) | _, _ => none) = _
  have e : itemsL (D.tup a) = none := rfl
  rw [e]
  cases dupL a <;> cases dupL b <;> rfl
theorem zipF_map {α β : Type} (f : α → D) (g : β → D) : ∀ (a : List α) (b : List β), zipF (a.map f) (b.map g) = (a.zip b).map fun p => .tup [f p.1, g p.2]
  | [], _ => by simp [zipF]
  | _ :: _, [] => by simp [zipF]
  | x :: a, y :: b => by simp [zipF, zipF_map f g a b]
def moreF (hs gs : List Int) : List Int := (hs.zip gs).map fun p => p.2 - p.1
theorem moreF_len {hs gs : List Int} (h : gs.length = hs.length) : (moreF hs gs).length = hs.length := by simp [moreF, h]
theorem differences_ok {hs gs : List Int} (h : hs.length ≤ 12) (hl : gs.length = hs.length) : G_differences [.tup (hs.map D.int), .tup (gs.map D.int)] = .ok (.lst ((moreF hs gs).map D.int)) [] := by
  have e := lcL_map (t := tgT 2 (tgCons (tgN 2) (tgCons (tgN 3) tgNil))) (e := eO2 (d2 dSub) (eV 3) (eV 2)) (vs := [2, 3]) (ρ := [some (.tup (hs.map D.int)), some (.tup (gs.map D.int)), none, none])
    (fun p : Int × Int => D.tup [.int p.1, .int p.2]) (fun p => D.int (p.2 - p.1)) (hs.zip gs) (fun p _ => ⟨_, _, rfl, by simp; rfl, by simp [killL]⟩) (by simp [sizeLine_eq]; omega)
  simp [G_differences, b_differences, zipF_map, freeL, e, moreF]
def riseFrom : Int → List Int → List Int
  | _, [] => []
  | a, x :: xs => (x - a) :: riseFrom x xs
def lastOr : Int → List Int → Int
  | a, [] => a
  | _, x :: xs => lastOr x xs
def riseF (r : Bool) (m : List Int) : List Int := if r then riseFrom (lastOr 0 m) m else riseFrom 0 m ++ [0 - lastOr 0 m]
theorem riseFrom_len : ∀ (m : List Int) (a : Int), (riseFrom a m).length = m.length
  | [], _ => rfl
  | x :: xs, a => by simp [riseFrom, riseFrom_len xs x]
theorem riseF_len (r : Bool) (m : List Int) : (riseF r m).length = bords r m.length := by
  cases r <;> simp [riseF, riseFrom_len, bords]
theorem rise_loop (s mm : Option D) : ∀ (m : List Int) (a : Int) (acc : List Int) (o : Option D), acc.length + m.length < 1000 → ∃ o', forL (turnS (tgN 4) (sSeq (sDrop (eApp 3 (eO2 (d2 dSub) (eV 4) (eV 2)))) (sSet 2 (eV 4)))) (m.map D.int) [s, mm, some (.int a), some (.lst (acc.map D.int)), o] =
    .nx [s, mm, some (.int (lastOr a m)), some (.lst ((acc ++ riseFrom a m).map D.int)), o']
  | [], a, acc, o, _ => ⟨o, by simp [lastOr, riseFrom]⟩
  | x :: xs, a, acc, o, h => by
    rw [List.length_cons] at h
    obtain ⟨o', e⟩ := rise_loop s mm xs x (acc ++ [x - a]) (some (.int x)) (by rw [List.length_append]; simp; omega)
    refine ⟨o', ?_⟩
    rw [List.map_cons]
    unfold forL
    have hz : acc.length < 16777216 := by omega
    simp [sizeLine_eq, hz]
    simp at e
    rw [e]
    simp [lastOr, riseFrom]
theorem at_last (l : List Int) (h : l ≠ []) : atI (l.map D.int) (-1) = some (.int (lastOr 0 l)) := by
  have key : ∀ (l : List Int) (a : Int), l ≠ [] → l[l.length - 1]? = some (lastOr a l) := by
    intro l
    induction l with
    | nil => intro a h; exact absurd rfl h
    | cons x xs ih =>
      intro a _
      cases xs with
      | nil => rfl
      | cons y ys =>
        have := ih x (by simp)
        simpa [lastOr] using this
  have hl : 0 < l.length := List.length_pos_iff.mpr h
  unfold atI ixN
  rw [if_neg (by decide), List.length_map, if_pos (by omega)]
  show (l.map D.int)[((-1 : Int) + (l.length : Int)).toNat]? = _
  rw [show ((-1 : Int) + (l.length : Int)).toNat = l.length - 1 by omega, List.getElem?_map, key l 0 h]
  rfl
theorem rises_ok {r : Bool} {m : List Int} (h : m ≠ []) (hl : m.length ≤ 12) : G_rises_of [.str (shS r), .fls (m.map D.int)] = .ok (.lst ((riseF r m).map D.int)) [] := by
  obtain ⟨o', e⟩ := rise_loop (some (.str (shS r))) (some (.fls (m.map D.int))) m (if r then lastOr 0 m else 0) [] none (by simp; omega)
  simp at e
  have e2 := at_last m h
  have hz : m.length + 1 ≤ 16777216 := by omega
  cases r
  · simp at e
    have el : lastOr 0 m = lastOr 0 m := rfl
    simp [G_rises_of, b_rises_of, sizeLine_eq, e, riseF, riseFrom_len, hz]
  · simp at e
    simp [G_rises_of, b_rises_of, sizeLine_eq, e2, e, riseF]
end LC
set_option linter.all false
set_option maxRecDepth 100000
set_option maxHeartbeats 4000000
namespace LC
open PySem L2 DL
@[simp] theorem freezeL_int : ∀ l : List Int, freezeL (l.map D.int) = l.map D.int
  | [] => rfl
  | a :: l => by show freeze (.int a) :: freezeL (l.map D.int) = _; rw [freezeL_int l]; rfl
@[simp] theorem frzOkL_int : ∀ l : List Int, frzOkL (l.map D.int) = true
  | [] => rfl
  | a :: l => by show (frzOk (.int a) && frzOkL (l.map D.int)) = true; rw [frzOkL_int l]; rfl
@[simp] theorem freeze_lst (l : List D) : freeze (.lst l) = .fls (freezeL l) := rfl
@[simp] theorem frzOk_lst (l : List D) : frzOk (.lst l) = frzOkL l := rfl
@[simp] theorem freeze_fls (l : List D) : freeze (.fls l) = .fls (freezeL l) := rfl
@[simp] theorem frzOk_fls (l : List D) : frzOk (.fls l) = frzOkL l := rfl
def absI (x : Int) : Int := if x < 0 then -x else x
def greatestF (m : List Int) : Int := (maxI (m.map absI)).getD 0
theorem maxI_some {l : List Int} (h : l ≠ []) : ∃ x, maxI l = some x := by
  cases l with
  | nil => exact absurd rfl h
  | cons a l => exact ⟨_, rfl⟩
theorem greatest_ok {a : D} {m : List Int} {rest : List D} (h : m ≠ []) (hl : m.length ≤ 12) : G_Task_greatest [.ins 0 (a :: .fls (m.map D.int) :: rest)] = .ok (.int (greatestF m)) [.ins 0 (a :: .fls (m.map D.int) :: rest)] := by
  have e := lcL_map (t := tgN 1) (e := eOA (d1 dAbs) (aCons (eV 1) aNil)) (vs := [1]) (ρ := [some (.ins 0 (a :: .fls (m.map D.int) :: rest)), none]) D.int (fun x => D.int (absI x)) m (fun x _ => ⟨_, _, rfl, by simp [absI]; rfl, by simp [killL]⟩) (by simp [sizeLine_eq]; omega)
  obtain ⟨x, hx⟩ := maxI_some (l := m.map absI) (by simpa using h)
  have e2 : dMax (.lst (m.map fun x => D.int (absI x))) = some (.int (greatestF m)) := by
    have : (m.map fun x => D.int (absI x)) = (m.map absI).map D.int := by simp
    rw [this, op_maxL, greatestF, hx]; rfl
  simp [G_Task_greatest, b_Task_greatest, freeL, e, e2]
def pairsF (rs : List Int) : Int := (rs.filter (fun x => decide (0 < x))).sum
def ringsF (r : Bool) (m : List Int) : Int := if r then max 0 (greatestF m - pairsF (riseF r m)) else 0
/-- a task's fields -/
def taskD (r : Bool) (hs gs : List Int) (ps : List (Option Int)) : D :=
  .ins 0 [landD r hs ps, .fls ((moreF hs gs).map D.int), .fls ((riseF r (moreF hs gs)).map D.int), .int (pairsF (riseF r (moreF hs gs))), .int (ringsF r (moreF hs gs))]
theorem init_ok {r : Bool} {hs gs : List Int} {ps : List (Option Int)} {B : Int} (h : LandB B r hs ps) (hl : gs.length = hs.length) : G_Task___init__ [.ins 0 [], landD r hs ps, .tup (gs.map D.int)] = .ok .non [taskD r hs gs ps] := by
  have hm : moreF hs gs ≠ [] := fun z => by
    have := moreF_len hl
    rw [z] at this
    have := h.n2
    simp at *; omega
  have hml : (moreF hs gs).length ≤ 12 := by rw [moreF_len hl]; exact h.n12
  have e1 := differences_ok (hs := hs) (gs := gs) h.n12 hl
  have e2 := rises_ok (r := r) hm hml
  have hrl : (riseF r (moreF hs gs)).length ≤ 13 := by rw [riseF_len]; unfold bords; split <;> omega
  have e3 := fun (a b : D) (o1 o2 : Option D) => lcL_det (t := tgN 3) (c := eO2 (d2 dGt) (eV 3) (eC (.int 0))) (e := eV 3) (vs := [3]) (ρ := [some (.ins 0 [a, b, .fls ((riseF r (moreF hs gs)).map D.int)]), o1, o2, none]) D.int (fun x => decide (0 < x)) D.int (riseF r (moreF hs gs)) []
    (fun x _ => ⟨_, _, rfl, by simp; rfl, fun _ => ⟨_, by simp; rfl, by simp [killL]⟩, fun _ => by simp [killL]⟩) (by simp [sizeLine_eq]; omega)
  have e4 := fun rest => greatest_ok (a := landD r hs ps) (rest := rest) hm hml
  have hd : dupL (ps.map optD) = true := dupL_opt _
  simp only [landD, taskD] at e4 ⊢
  cases r
  · simp [G_Task___init__, b_Task___init__, e1, e2, e3, putI, freeL, ringsF, pairsF]
  · simp [G_Task___init__, b_Task___init__, e1, e2, e3, e4, putI, freeL, ringsF, pairsF]
    rw [Int.max_def]
    split <;> split <;> omega
/-- the borders that bear fences -/
def fencesF (ps : List (Option Int)) : List Nat := (ps.zipIdx.filter fun p => p.1.isSome).map (·.2)
theorem fences_ok {r : Bool} {hs : List Int} {ps : List (Option Int)} {rest : List D} (h : ps.length ≤ 13) : G_Task_fences [.ins 0 (landD r hs ps :: rest)] = .ok (.lst ((fencesF ps).map fun i : Nat => D.int (i : Int))) [.ins 0 (landD r hs ps :: rest)] := by
  have e := lcL_det (t := tgT 2 (tgCons (tgN 1) (tgCons (tgN 2) tgNil))) (c := eO2 (d2 dNotN) (eV 2) (eC .non)) (e := eV 1) (vs := [1, 2]) (ρ := [some (.ins 0 (landD r hs ps :: rest)), none, none]) (fun p : Option Int × Nat => D.tup [.int (p.2 : Int), optD p.1]) (fun p => p.1.isSome) (fun p => D.int (p.2 : Int)) ps.zipIdx []
    (fun p _ => ⟨_, _, rfl, by simp; rfl, fun _ => ⟨_, by simp; rfl, by simp [killL]⟩, fun _ => by simp [killL]⟩) (by simp [sizeLine_eq]; omega)
  simp [landD] at e
  simp [G_Task_fences, b_Task_fences, landD, enumF_map, freeL, e, fencesF]
def barAt (rs : List Int) (ps : List (Option Int)) : Prop := ∃ i : Nat, ∃ x, rs[i]? = some x ∧ x ≠ 0 ∧ ps[i]? = some none
end LC
set_option linter.all false
set_option maxRecDepth 100000
set_option maxHeartbeats 4000000
namespace LC
open PySem L2 DL
theorem pdL_int : ∀ l : List Int, pdL (l.map D.int) = some (l.map PyData.int)
  | [] => rfl
  | a :: l => by
    show (match pd (.int a), pdL (l.map D.int) with | some x, some xs => some (x :: xs) | _, _ => none) = _
    rw [pdL_int l]; rfl
theorem lay_int : ∀ l : List Int, PyData.canLayAll0 (l.map PyData.int) = true
  | [] => rfl
  | a :: l => by simp [PyData.canLayAll0, PyData.canLay0, lay_int l]
theorem depth_int : ∀ l : List Int, PyData.depthAll (l.map PyData.int) = 0
  | [] => rfl
  | a :: l => by simp [PyData.depthAll, PyData.depth, depth_int l]
theorem shaped_L (l : List Int) : SeqAt.shaped (.list (l.map PyData.int)) = true := by
  simp [SeqAt.shaped, PyData.canLay0, PyData.depth, lay_int, depth_int]
theorem eq_L (a b : List Int) : dEq (.lst (a.map D.int)) (.lst (b.map D.int)) = some (.bl (decide (a = b))) := by
  have e1 : pd (.lst (a.map D.int)) = some (.list (a.map PyData.int)) := by show (pdL _).map _ = _; rw [pdL_int]; rfl
  have e2 : pd (.lst (b.map D.int)) = some (.list (b.map PyData.int)) := by show (pdL _).map _ = _; rw [pdL_int]; rfl
  simp [dEq, eqD, e1, e2, shaped_L, PyData.eqv, PySem.W.ked_eqvAll]
@[simp] theorem eq_Lnil (l : List Nat) : dEq (.lst (l.map fun i : Nat => D.int (i : Int))) (.lst []) = some (.bl (decide (l = []))) := by
  have e : (l.map fun i : Nat => D.int (i : Int)) = (l.map fun i : Nat => (i : Int)).map D.int := by simp
  rw [e]
  have := eq_L (l.map fun i : Nat => (i : Int)) []
  rw [List.map_nil] at this
  rw [this]
  simp
@[simp] theorem eq_nilnil : dEq (.lst []) (.lst []) = some (.bl true) := by
  have := eq_Lnil []
  simpa using this
/-- a border without fence at which something rises -/
def badB (rs : List Int) (ps : List (Option Int)) : Bool := (rs.zip ps).any fun p => decide (p.1 ≠ 0) && p.2.isNone
theorem at_ps {ps : List (Option Int)} {i : Nat} {p : Option Int} (h : ps[i]? = some p) : atI (ps.map optD) (i : Int) = some (optD p) := at_nat (by omega) (by simp [h])
theorem bar_loop {a : D} {ps : List (Option Int)} {hs : List Int} {r : Bool} {rest : List D} : ∀ (l : List Int) (k : Nat) (o1 o2 : Option D), k + l.length ≤ ps.length →
    ∃ o1' o2' i, forL (turnS (tgT 2 (tgCons (tgN 1) (tgCons (tgN 2) tgNil))) (sIf (eAnd (eO2 (d2 dNe) (eV 2) (eC (.int 0))) (eO2 (d2 dIsN) (eO2 (d2 dIx) (eO2 (d2 dIx) (eFld 0 0 0) (eC (.int 2))) (eV 1)) (eC .non))) (sRet (eV 1)) sNx))
      ((l.zipIdx k).map fun p => D.tup [.int (p.2 : Int), .int p.1]) [some (.ins 0 (landD r hs ps :: rest)), o1, o2] = if badB l (ps.drop k) then .rt (.int i) [some (.ins 0 (landD r hs ps :: rest)), o1', o2'] else .nx [some (.ins 0 (landD r hs ps :: rest)), o1', o2']
  | [], k, o1, o2, _ => ⟨o1, o2, 0, by simp [badB]⟩
  | x :: l, k, o1, o2, h => by
    rw [List.length_cons] at h
    obtain ⟨p, hp⟩ : ∃ p, ps[k]? = some p := ⟨_, List.getElem?_eq_getElem (by omega)⟩
    have hd : ps.drop k = p :: ps.drop (k + 1) := by
      obtain ⟨h1, h2⟩ := List.getElem?_eq_some_iff.mp hp
      rw [List.drop_eq_getElem_cons h1, h2]
    obtain ⟨o1', o2', i, e⟩ := bar_loop (a := a) (ps := ps) (hs := hs) (r := r) (rest := rest) l (k + 1) (some (.int k)) (some (.int x)) (by omega)
    rw [List.zipIdx_cons, List.map_cons, hd]
    simp only [landD] at e ⊢
    have ep := at_ps hp
    by_cases hb : x ≠ 0 ∧ p = none
    · obtain ⟨h1, h2⟩ := hb
      subst h2
      refine ⟨some (.int k), some (.int x), k, ?_⟩
      unfold forL
      simp [h1, ep, badB, optD]
    · refine ⟨o1', o2', i, ?_⟩
      have hbb : badB (x :: l) (p :: ps.drop (k + 1)) = badB l (ps.drop (k + 1)) := by
        simp [badB]
        intro h1 h2
        exact absurd ⟨h1, h2⟩ hb
      rw [hbb, ← e]
      conv => lhs; unfold forL
      by_cases h1 : x = 0
      · simp [h1]
      · have h2 : p ≠ none := fun z => hb ⟨h1, z⟩
        obtain ⟨q, rfl⟩ := Option.ne_none_iff_exists'.mp h2
        simp [h1, ep, optD]
def barredF (r : Bool) (hs gs : List Int) (ps : List (Option Int)) : Bool := badB (riseF r (moreF hs gs)) ps || (decide (fencesF ps = []) && decide (0 < greatestF (moreF hs gs)))
theorem more_ne {r : Bool} {hs gs : List Int} {ps : List (Option Int)} {B : Int} (h : LandB B r hs ps) (hl : gs.length = hs.length) : moreF hs gs ≠ [] := fun z => by
  have h1 := moreF_len hl
  rw [z] at h1
  have h2 := h.n2
  simp at h1; omega
theorem ps_len {r : Bool} {hs : List Int} {ps : List (Option Int)} {B : Int} (h : LandB B r hs ps) : ps.length ≤ 13 := by
  rw [h.pl]; unfold bords; have := h.n12; split <;> omega
theorem barred_ok {r : Bool} {hs gs : List Int} {ps : List (Option Int)} {B : Int} (h : LandB B r hs ps) (hl : gs.length = hs.length) : ∃ d, G_Task_barred [taskD r hs gs ps] = .ok d [taskD r hs gs ps] ∧ isNone d = !barredF r hs gs ps := by
  have hm := more_ne h hl
  have hml : (moreF hs gs).length ≤ 12 := by rw [moreF_len hl]; exact h.n12
  have e1 := fun rest => greatest_ok (a := landD r hs ps) (rest := rest) hm hml
  have e2 := fun rest => fences_ok (r := r) (hs := hs) (rest := rest) (ps_len h)
  obtain ⟨o1, o2, i, e3⟩ := bar_loop (a := .non) (hs := hs) (r := r) (ps := ps) (rest := [.fls ((moreF hs gs).map D.int), .fls ((riseF r (moreF hs gs)).map D.int), .int (pairsF (riseF r (moreF hs gs))), .int (ringsF r (moreF hs gs))])
    (riseF r (moreF hs gs)) 0 none none (by rw [riseF_len, moreF_len hl, h.pl]; simp)
  have e4 : enumF 0 ((riseF r (moreF hs gs)).map D.int) = ((riseF r (moreF hs gs)).zipIdx 0).map fun p => D.tup [.int (p.2 : Int), .int p.1] := enumF_map _ _ _
  rw [List.drop_zero] at e3
  by_cases hb : badB (riseF r (moreF hs gs)) ps = true
  · rw [if_pos hb] at e3
    refine ⟨.int i, ?_, by simp [barredF, hb]⟩
    simp [G_Task_barred, b_Task_barred, taskD, e4, e3]
  · rw [if_neg hb] at e3
    by_cases hf : fencesF ps = []
    · by_cases hg : 0 < greatestF (moreF hs gs)
      · refine ⟨.int 0, ?_, by simp [barredF, hb, hf, hg]⟩
        simp [G_Task_barred, b_Task_barred, taskD, e4, e3, e1, e2, hf, hg, sizeLine_eq]
      · refine ⟨.non, ?_, by simp [barredF, hb, hf, hg]⟩
        simp [G_Task_barred, b_Task_barred, taskD, e4, e3, e1, e2, hf, hg, sizeLine_eq]
    · refine ⟨.non, ?_, by simp [barredF, hb, hf]⟩
      simp [G_Task_barred, b_Task_barred, taskD, e4, e3, e1, e2, hf, sizeLine_eq]
end LC
set_option linter.all false
set_option maxRecDepth 100000
set_option maxHeartbeats 4000000
namespace LC
open PySem L2 DL
/-- a border's price; 0 where there is none -/
def prc (ps : List (Option Int)) (i : Nat) : Int := ((ps[i]?).join).getD 0
theorem mem_fences {ps : List (Option Int)} {i : Nat} : i ∈ fencesF ps ↔ ∃ p, ps[i]? = some (some p) := by
  unfold fencesF
  constructor
  · intro h
    obtain ⟨q, hq, e⟩ := List.mem_map.mp h
    obtain ⟨h1, h2⟩ := List.mem_filter.mp hq
    obtain ⟨o, j⟩ := q
    simp at e h2
    subst e
    have := List.mem_zipIdx_iff_getElem?.mp h1
    obtain ⟨p, rfl⟩ := Option.isSome_iff_exists.mp h2
    exact ⟨p, by simpa using this⟩
  · rintro ⟨p, hp⟩
    exact List.mem_map.mpr ⟨(some p, i), List.mem_filter.mpr ⟨List.mem_zipIdx_iff_getElem?.mpr (by simpa using hp), rfl⟩, rfl⟩
theorem prc_of {ps : List (Option Int)} {i : Nat} {p : Int} (h : ps[i]? = some (some p)) : prc ps i = p := by simp [prc, h]
theorem keys_ok {r : Bool} {hs : List Int} {ps : List (Option Int)} {rest : List D} : ∀ l : List Nat, (∀ i ∈ l, ∃ p, ps[i]? = some (some p)) →
    keysOf (eO2 (d2 dIx) (eO2 (d2 dIx) (eFld 0 0 0) (eC (.int 2))) (eV 1)) [some (.ins 0 (landD r hs ps :: rest))] (l.map fun i : Nat => D.int (i : Int)) = some (l.map fun i => (prc ps i, D.int (i : Int)))
  | [], _ => rfl
  | i :: l, h => by
    obtain ⟨p, hp⟩ := h i List.mem_cons_self
    have ep := at_ps hp
    have ih := keys_ok (r := r) (hs := hs) (rest := rest) l fun j hj => h j (List.mem_cons_of_mem _ hj)
    have e1 : (eO2 (d2 dIx) (eO2 (d2 dIx) (eFld 0 0 0) (eC (.int 2))) (eV 1)) ([some (.ins 0 (landD r hs ps :: rest))] ++ [some (.int (i : Int))]) = .ok (.int p) [some (.ins 0 (landD r hs ps :: rest)), some (.int (i : Int))] := by
      simp [landD, ep, optD]
    rw [List.map_cons, List.map_cons]
    unfold keysOf
    rw [e1, ih, prc_of hp]
theorem minK_spec {kl : List (Int × D)} (h : kl ≠ []) : ∃ k d, minK kl = some d ∧ (k, d) ∈ kl ∧ ∀ q ∈ kl, k ≤ q.1 := by
  cases kl with
  | nil => exact absurd rfl h
  | cons p ps =>
    obtain ⟨i', e1, e2⟩ := fold_first ps [p] p 0 rfl (fun j q hq => by
      cases j with
      | zero => simp at hq; subst hq; exact ⟨Int.le_refl _, fun h => by omega⟩
      | succ j => simp at hq)
    refine ⟨_, _, rfl, List.mem_of_getElem? e1, fun q hq => ?_⟩
    obtain ⟨j, hj⟩ := List.mem_iff_getElem?.mp hq
    exact (e2 j q hj).1
theorem cheapest_ok {r : Bool} {hs : List Int} {ps : List (Option Int)} {rest : List D} (h : ps.length ≤ 13) (hf : fencesF ps ≠ []) : ∃ c, c ∈ fencesF ps ∧ (∀ j ∈ fencesF ps, prc ps c ≤ prc ps j) ∧ G_Task_cheapest [.ins 0 (landD r hs ps :: rest)] = .ok (.int (c : Int)) [.ins 0 (landD r hs ps :: rest)] := by
  have e1 := fences_ok (r := r) (hs := hs) (rest := rest) h
  have e2 := keys_ok (r := r) (hs := hs) (rest := rest) (fencesF ps) fun i hi => mem_fences.mp hi
  obtain ⟨k, d, m1, m2, m3⟩ := minK_spec (kl := (fencesF ps).map fun i => (prc ps i, D.int (i : Int))) (by simpa using hf)
  obtain ⟨c, hc, e3⟩ := List.mem_map.mp m2
  cases e3
  refine ⟨c, hc, fun j hj => by simpa using m3 (prc ps j, D.int (j : Int)) (List.mem_map.mpr ⟨j, hj, rfl⟩), ?_⟩
  have hdl : dupL ((fencesF ps).map fun i : Nat => D.int (i : Int)) = true := dupL_map _ (fun _ => rfl) _
  simp [G_Task_cheapest, b_Task_cheapest, e1, hdl, e2, m1]
/-- a deed -/
def deedD (d : Bool × Nat × Nat) : D := .tup [.str (if d.1 then Str.ofString "raise" else Str.ofString "lower"), .int (d.2.1 : Int), .int (d.2.2 : Int)]
theorem rep_one {α : Type} (x : α) : ∀ n : Nat, (List.replicate n [x]).flatten = List.replicate n x
  | 0 => rfl
  | n + 1 => by rw [List.replicate_succ, List.flatten_cons, rep_one x n]; rfl
theorem whole_ok {r : Bool} {hs gs : List Int} {ps : List (Option Int)} {B : Int} (h : LandB B r hs ps) (hl : gs.length = hs.length) (hr : ringsF r (moreF hs gs) ≤ 100000) (hr0 : 0 ≤ ringsF r (moreF hs gs)) (hf : ringsF r (moreF hs gs) = 0 ∨ fencesF ps ≠ []) :
    ∃ w c, G_Task_whole [taskD r hs gs ps] = .ok (.lst ((List.replicate (ringsF r (moreF hs gs)).toNat (w, c, c)).map deedD)) [taskD r hs gs ps] ∧ (ringsF r (moreF hs gs) = 0 ∨ (c ∈ fencesF ps ∧ ∀ j ∈ fencesF ps, prc ps c ≤ prc ps j)) := by
  by_cases h0 : ringsF r (moreF hs gs) = 0
  · refine ⟨true, 0, ?_, .inl h0⟩
    simp [G_Task_whole, b_Task_whole, taskD, h0, sizeLine_eq]
  · have hm := more_ne h hl
    have hml : (moreF hs gs).length ≤ 12 := by rw [moreF_len hl]; exact h.n12
    have e1 := fun rest => greatest_ok (a := landD r hs ps) (rest := rest) hm hml
    obtain ⟨c, c1, c2, _⟩ := cheapest_ok (r := r) (hs := hs) (rest := []) (ps_len h) (hf.resolve_left h0)
    have e2 : ∀ rest, ∃ c', c' ∈ fencesF ps ∧ (∀ j ∈ fencesF ps, prc ps c' ≤ prc ps j) ∧ G_Task_cheapest [.ins 0 (landD r hs ps :: rest)] = .ok (.int (c' : Int)) [.ins 0 (landD r hs ps :: rest)] := fun rest => cheapest_ok (ps_len h) (hf.resolve_left h0)
    obtain ⟨c, c1, c2, e3⟩ := e2 [.fls ((moreF hs gs).map D.int), .fls ((riseF r (moreF hs gs)).map D.int), .int (pairsF (riseF r (moreF hs gs))), .int (ringsF r (moreF hs gs))]
    obtain ⟨x, hx⟩ := maxI_some hm
    refine ⟨decide (x = greatestF (moreF hs gs)), c, ?_, .inr ⟨c1, c2⟩⟩
    have s1 : ringsF r (moreF hs gs) < 9223372036854775808 := by omega
    have s2 : (-9223372036854775808 : Int) ≤ ringsF r (moreF hs gs) := by omega
    have s3 : (ringsF r (moreF hs gs)).toNat ≤ 16777216 := by omega
    by_cases hw : x = greatestF (moreF hs gs)
    · simp [G_Task_whole, b_Task_whole, taskD, h0, sizeLine_eq, e1, e3, hx, hw, dMul, s1, s2, s3, deedD, rep_one]
    · simp [G_Task_whole, b_Task_whole, taskD, h0, sizeLine_eq, e1, e3, hx, hw, dMul, s1, s2, s3, deedD, rep_one]
end LC
set_option linter.all false
set_option maxRecDepth 100000
set_option maxHeartbeats 4000000
namespace LC
open PySem L2 DL
def repF (g : Int → Int) (rs : List Int) (k : Nat) : List Nat := (rs.zipIdx k).flatMap fun p => List.replicate (g p.1).toNat p.2
section
variable {s0 s1 s2 s3 s4 s5 s6 s7 s8 s9 s10 s11 s12 : Option D}
theorem inner_loop (b : Nat) (x : Int) : ∀ (l : List Nat) (acc : List Nat), acc.length + l.length ≤ 1000000 → lcI (tgN 15) (eV 13) [15] (l.map fun i : Nat => D.int (i : Int)) (acc.map fun i : Nat => D.int (i : Int)) [s0, s1, s2, s3, s4, s5, s6, s7, s8, s9, s10, s11, s12, some (.int (b : Int)), some (.int x), none] =
    .ok ((acc ++ List.replicate l.length b).map fun i : Nat => D.int (i : Int)) [s0, s1, s2, s3, s4, s5, s6, s7, s8, s9, s10, s11, s12, some (.int (b : Int)), some (.int x), none]
  | [], acc, _ => by simp [lcI]
  | i :: l, acc, h => by
    rw [List.length_cons] at h
    have ih := inner_loop b x l (acc ++ [b]) (by rw [List.length_append]; simp; omega)
    rw [List.map_cons]
    unfold lcI
    have hz : acc.length < 16777216 := by omega
    simp [sizeLine_eq, hz, killL]
    simp at ih
    rw [ih]
theorem outer_loop {im1 : IM} {g : Int → Int} (him : ∀ (b : Nat) (x : Int), -4000 ≤ x → x ≤ 4000 → im1 [s0, s1, s2, s3, s4, s5, s6, s7, s8, s9, s10, s11, s12, some (.int (b : Int)), some (.int x), none] = .ok (rangeD 0 (g x).toNat) [s0, s1, s2, s3, s4, s5, s6, s7, s8, s9, s10, s11, s12, some (.int (b : Int)), some (.int x), none])
    (hg : ∀ x, -4000 ≤ x → x ≤ 4000 → g x ≤ 4000) : ∀ (rs : List Int) (k : Nat) (acc : List Nat), (∀ x ∈ rs, -4000 ≤ x ∧ x ≤ 4000) → acc.length + 4000 * rs.length ≤ 1000000 →
    lcO (tgT 2 (tgCons (tgN 13) (tgCons (tgN 14) tgNil))) im1 (tgN 15) (eV 13) [13, 14, 15] [15] ((rs.zipIdx k).map fun p => D.tup [.int (p.2 : Int), .int p.1]) (acc.map fun i : Nat => D.int (i : Int)) [s0, s1, s2, s3, s4, s5, s6, s7, s8, s9, s10, s11, s12, none, none, none] =
      .ok (.lst ((acc ++ repF g rs k).map fun i : Nat => D.int (i : Int))) [s0, s1, s2, s3, s4, s5, s6, s7, s8, s9, s10, s11, s12, none, none, none]
  | [], k, acc, _, _ => by simp [lcO, repF]
  | x :: rs, k, acc, hx, hz => by
    rw [List.length_cons] at hz
    obtain ⟨x1, x2⟩ := hx x List.mem_cons_self
    have gx := hg x x1 x2
    have ih := outer_loop him hg rs (k + 1) (acc ++ List.replicate (g x).toNat k) (fun y hy => hx y (List.mem_cons_of_mem _ hy)) (by rw [List.length_append, List.length_replicate]; omega)
    have il := inner_loop (s0 := s0) (s1 := s1) (s2 := s2) (s3 := s3) (s4 := s4) (s5 := s5) (s6 := s6) (s7 := s7) (s8 := s8) (s9 := s9) (s10 := s10) (s11 := s11) (s12 := s12) k x (List.range (g x).toNat) acc (by simp; omega)
    rw [List.zipIdx_cons, List.map_cons]
    unfold lcO
    simp [him k x x1 x2, freeL]
    simp at il
    rw [il]
    simp [killL]
    simp at ih
    rw [ih]
    simp [repF, List.zipIdx_cons]
end
@[simp] theorem op_sumFn (l : List Nat) : dSum (.fls (l.map fun i : Nat => D.int (i : Int))) = some (.int (l.map fun i : Nat => (i : Int)).sum) := by
  have e : (l.map fun i : Nat => D.int (i : Int)) = (l.map fun i : Nat => (i : Int)).map D.int := by simp
  rw [e, op_sumF]
@[simp] theorem freezeL_nat (l : List Nat) : freezeL (l.map fun i : Nat => D.int (i : Int)) = l.map fun i : Nat => D.int (i : Int) := by
  have e : (l.map fun i : Nat => D.int (i : Int)) = (l.map fun i : Nat => (i : Int)).map D.int := by simp
  rw [e, freezeL_int]
@[simp] theorem frzOkL_nat (l : List Nat) : frzOkL (l.map fun i : Nat => D.int (i : Int)) = true := by
  have e : (l.map fun i : Nat => D.int (i : Int)) = (l.map fun i : Nat => (i : Int)).map D.int := by simp
  rw [e, frzOkL_int]
@[simp] theorem dupL_nat (l : List Nat) : dupL (l.map fun i : Nat => D.int (i : Int)) = true := dupL_map _ (fun _ => rfl) l
/-- the deeds told of ups from the k-th on -/
def Meets (downs : List Nat) (far : Int) (l : List Nat) (k : Nat) (ms : List (Bool × Nat × Nat)) : Prop := ms.length = l.length ∧ ∀ (i : Nat) (u : Nat), l[i]? = some u → ∃ d, downs[((((k + i : Nat) : Int) + far) % (downs.length : Int)).toNat]? = some d ∧ (ms[i]? = some (true, u, d) ∨ ms[i]? = some (false, d, u))
theorem dup_deed (d : Bool × Nat × Nat) : dup (deedD d) = true := by cases d; rfl
theorem match_loop {t a4 a5 a1 : D} {downs : List Nat} {many far : Int} (hd : 0 < downs.length) (hd2 : downs.length < 1000000) (hm0 : 0 ≤ many) (hm : many ≤ 12) : ∀ (l : List Nat) (k : Nat) (acc : List (Bool × Nat × Nat)) (o8 o9 o10 o11 o12 : Option D), acc.length + l.length < 1000000 →
    ∃ ms o8' o9' o10' o11' o12', forL (turnS (tgT 2 (tgCons (tgN 8) (tgCons (tgN 9) tgNil))) (sSeq (sAsg (eOA (d2 dDivmod) (aCons (eO2 (d2 dAdd) (eV 8) (eV 6)) (aCons (eOA (d1 dLen) (aCons (eV 2) aNil)) aNil))) (tgT 2 (tgCons (tgN 10) (tgCons (tgN 11) tgNil)))) (sSeq (sSet 12 (eO2 (d2 dIx) (eV 2) (eV 11))) (sIf (eO2 (d2 dGt) (eO2 (d2 dAdd) (eV 12) (eO2 (d2 dMul) (eV 3) (eV 10))) (eV 9)) (sDrop (eApp 7 (eTup (aCons (eC (.str "raise")) (aCons (eV 9) (aCons (eV 12) aNil)))))) (sDrop (eApp 7 (eTup (aCons (eC (.str "lower")) (aCons (eV 12) (aCons (eV 9) aNil))))))))))
      ((l.zipIdx k).map fun p => D.tup [.int (p.2 : Int), .int (p.1 : Int)]) [some t, some a1, some (.fls (downs.map fun i : Nat => D.int (i : Int))), some (.int many), some a4, some a5, some (.int far), some (.lst (acc.map deedD)), o8, o9, o10, o11, o12, none, none, none] =
      .nx [some t, some a1, some (.fls (downs.map fun i : Nat => D.int (i : Int))), some (.int many), some a4, some a5, some (.int far), some (.lst ((acc ++ ms).map deedD)), o8', o9', o10', o11', o12', none, none, none] ∧ Meets downs far l k ms
  | [], k, acc, o8, o9, o10, o11, o12, _ => ⟨[], o8, o9, o10, o11, o12, by simp, rfl, fun i u h => by simp at h⟩
  | u :: l, k, acc, o8, o9, o10, o11, o12, hz => by
    rw [List.length_cons] at hz
    have hL : (0 : Int) < downs.length := by omega
    have h1 := Int.emod_nonneg ((k : Int) + far) (show (downs.length : Int) ≠ 0 by omega)
    have h2 := Int.emod_lt_of_pos ((k : Int) + far) hL
    have hlt : ((((k : Nat) : Int) + far) % (downs.length : Int)).toNat < downs.length := by omega
    obtain ⟨d, hdn⟩ : ∃ d, downs[((((k : Nat) : Int) + far) % (downs.length : Int)).toNat]? = some d := ⟨_, List.getElem?_eq_getElem hlt⟩
    have ed : atI (downs.map fun i : Nat => D.int (i : Int)) (((k : Int) + far) % (downs.length : Int)) = some (.int (d : Int)) := at_nat h1 (by rw [List.getElem?_map, hdn]; rfl)
    have hs : sm many = true := sm_of hm0 (by omega)
    have hL2 : (downs.length : Int) < 1073741824 := by omega
    have hacc : acc.length < 16777216 := by omega
    have hdl : 0 < downs.length := hd
    by_cases hw : (u : Int) < (d : Int) + many * (((k : Int) + far) / (downs.length : Int))
    · obtain ⟨ms, p8, p9, p10, p11, p12, e, ml, mm⟩ := match_loop (t := t) (a4 := a4) (a5 := a5) (a1 := a1) (far := far) hd hd2 hm0 hm l (k + 1) (acc ++ [(true, u, d)]) (some (.int k)) (some (.int u)) (some (.int (((k : Int) + far) / (downs.length : Int)))) (some (.int (((k : Int) + far) % (downs.length : Int)))) (some (.int d)) (by rw [List.length_append]; simp; omega)
      refine ⟨(true, u, d) :: ms, p8, p9, p10, p11, p12, ?_, by simp [ml], fun i v hv => ?_⟩
      · rw [List.zipIdx_cons, List.map_cons]
        conv => lhs; unfold forL
        simp [hL, hL2, hdl, ed, hs, hw, sizeLine_eq, hacc]
        simp [deedD] at e
        rw [e]
        simp [deedD]
      · cases i with
        | zero => simp at hv; subst hv; exact ⟨d, by simpa using hdn, .inl rfl⟩
        | succ i =>
          obtain ⟨d', e1, e2⟩ := mm i v (by simpa using hv)
          refine ⟨d', by rw [show k + (i + 1) = k + 1 + i by omega]; exact e1, by simpa using e2⟩
    · obtain ⟨ms, p8, p9, p10, p11, p12, e, ml, mm⟩ := match_loop (t := t) (a4 := a4) (a5 := a5) (a1 := a1) (far := far) hd hd2 hm0 hm l (k + 1) (acc ++ [(false, d, u)]) (some (.int k)) (some (.int u)) (some (.int (((k : Int) + far) / (downs.length : Int)))) (some (.int (((k : Int) + far) % (downs.length : Int)))) (some (.int d)) (by rw [List.length_append]; simp; omega)
      refine ⟨(false, d, u) :: ms, p8, p9, p10, p11, p12, ?_, by simp [ml], fun i v hv => ?_⟩
      · rw [List.zipIdx_cons, List.map_cons]
        conv => lhs; unfold forL
        simp [hL, hL2, hdl, ed, hs, hw, sizeLine_eq, hacc]
        simp [deedD] at e
        rw [e]
        simp [deedD]
      · cases i with
        | zero => simp at hv; subst hv; exact ⟨d, by simpa using hdn, .inr rfl⟩
        | succ i =>
          obtain ⟨d', e1, e2⟩ := mm i v (by simpa using hv)
          refine ⟨d', by rw [show k + (i + 1) = k + 1 + i by omega]; exact e1, by simpa using e2⟩
end LC
set_option linter.all false
set_option maxRecDepth 100000
set_option maxHeartbeats 4000000
namespace LC
open PySem L2 DL
def upsF (rs : List Int) : List Nat := repF (fun x => x) rs 0
def downsF (rs : List Int) : List Nat := repF (fun x => 0 - x) rs 0
theorem len_rep (g : Int → Int) : ∀ (rs : List Int) (k : Nat), (repF g rs k).length = (rs.map fun x => (g x).toNat).sum
  | [], k => rfl
  | x :: rs, k => by
    have := len_rep g rs (k + 1)
    simp [repF, List.zipIdx_cons] at this ⊢
    exact this
/-- what rises is bounded -/
structure TaskB (B : Int) (r : Bool) (hs gs : List Int) (ps : List (Option Int)) : Prop where
  land : LandB B r hs ps
  gl : gs.length = hs.length
  g0 : ∀ g ∈ gs, 0 ≤ g ∧ g ≤ 999
abbrev TaskOk := TaskB 99
theorem mem_more {hs gs : List Int} {x : Int} (h : x ∈ moreF hs gs) : ∃ a b, a ∈ hs ∧ b ∈ gs ∧ x = b - a := by
  obtain ⟨p, hp, e⟩ := List.mem_map.mp h
  exact ⟨p.1, p.2, List.of_mem_zip (show (p.1, p.2) ∈ hs.zip gs from hp) |>.1, List.of_mem_zip (show (p.1, p.2) ∈ hs.zip gs from hp) |>.2, e.symm⟩
theorem TaskB.more {r : Bool} {hs gs : List Int} {ps : List (Option Int)} {B : Int} (t : TaskB B r hs gs ps) {x : Int} (h : x ∈ moreF hs gs) : -999 ≤ x ∧ x ≤ 999 := by
  obtain ⟨a, b, ha, hb, e⟩ := mem_more h
  have := t.land.h0 a ha
  have := t.g0 b hb
  omega
theorem lastOr_mem : ∀ (l : List Int) (a : Int), lastOr a l = a ∨ lastOr a l ∈ l
  | [], a => .inl rfl
  | x :: l, a => by
    rcases lastOr_mem l x with h | h
    · exact .inr (by show lastOr x l ∈ x :: l; rw [h]; exact List.mem_cons_self)
    · exact .inr (List.mem_cons_of_mem _ h)
theorem mem_riseFrom : ∀ (l : List Int) (a x : Int), x ∈ riseFrom a l → ∃ p q, (p = a ∨ p ∈ l) ∧ q ∈ l ∧ x = q - p
  | y :: l, a, x, h => by
    rcases List.mem_cons.mp h with h | h
    · exact ⟨a, y, .inl rfl, List.mem_cons_self, h⟩
    · obtain ⟨p, q, h1, h2, h3⟩ := mem_riseFrom l y x h
      exact ⟨p, q, .inr (h1.elim (fun z => by rw [z]; exact List.mem_cons_self) (List.mem_cons_of_mem _)), List.mem_cons_of_mem _ h2, h3⟩
theorem TaskB.rise {r : Bool} {hs gs : List Int} {ps : List (Option Int)} {B : Int} (t : TaskB B r hs gs ps) {x : Int} (h : x ∈ riseF r (moreF hs gs)) : -1998 ≤ x ∧ x ≤ 1998 := by
  have lb : -999 ≤ lastOr 0 (moreF hs gs) ∧ lastOr 0 (moreF hs gs) ≤ 999 := by
    rcases lastOr_mem (moreF hs gs) 0 with h | h
    · rw [h]; omega
    · exact t.more h
  have key : ∀ a, -999 ≤ a → a ≤ 999 → ∀ x ∈ riseFrom a (moreF hs gs), -1998 ≤ x ∧ x ≤ 1998 := fun a a1 a2 x hx => by
    obtain ⟨p, q, h1, h2, h3⟩ := mem_riseFrom _ _ _ hx
    have := t.more h2
    have : -999 ≤ p ∧ p ≤ 999 := h1.elim (fun z => by rw [z]; exact ⟨a1, a2⟩) t.more
    omega
  unfold riseF at h
  cases r
  · rw [if_neg (by simp)] at h
    rcases List.mem_append.mp h with h | h
    · exact key 0 (by omega) (by omega) x h
    · rw [List.mem_singleton.mp h]; omega
  · rw [if_pos rfl] at h
    exact key _ lb.1 lb.2 x h
theorem greatest_spec {m : List Int} (h : m ≠ []) : (∃ x ∈ m, greatestF m = absI x) ∧ ∀ x ∈ m, absI x ≤ greatestF m := by
  cases m with
  | nil => exact absurd rfl h
  | cons a l =>
    obtain ⟨h1, h2⟩ := foldl_max (l.map absI) (absI a)
    have e : greatestF (a :: l) = (l.map absI).foldl max (absI a) := rfl
    rw [e]
    constructor
    · have h1' : (l.map absI).foldl max (absI a) ∈ (a :: l).map absI := h1
      obtain ⟨x, hx, ex⟩ := List.mem_map.mp h1'
      exact ⟨x, hx, ex.symm⟩
    · exact fun x hx => h2 (absI x) (by
        have : absI x ∈ (a :: l).map absI := List.mem_map.mpr ⟨x, hx, rfl⟩
        exact this)
theorem TaskB.great {r : Bool} {hs gs : List Int} {ps : List (Option Int)} {B : Int} (t : TaskB B r hs gs ps) : 0 ≤ greatestF (moreF hs gs) ∧ greatestF (moreF hs gs) ≤ 999 := by
  obtain ⟨⟨x, hx, e⟩, _⟩ := greatest_spec (more_ne t.land t.gl)
  have := t.more hx
  rw [e]; unfold absI; split <;> omega
theorem sum_nonneg : ∀ (l : List Int), (∀ x ∈ l, 0 ≤ x) → 0 ≤ l.sum
  | [], _ => by simp
  | x :: l, h => by
    rw [List.sum_cons]
    have := sum_nonneg l fun y hy => h y (List.mem_cons_of_mem _ hy)
    have := h x List.mem_cons_self
    omega
theorem pairs_nonneg (rs : List Int) : 0 ≤ pairsF rs := sum_nonneg _ fun x hx => by
  have := (List.mem_filter.mp hx).2
  simp at this; omega
theorem TaskB.rings {r : Bool} {hs gs : List Int} {ps : List (Option Int)} {B : Int} (t : TaskB B r hs gs ps) : 0 ≤ ringsF r (moreF hs gs) ∧ ringsF r (moreF hs gs) ≤ 999 := by
  have := t.great
  have := pairs_nonneg (riseF r (moreF hs gs))
  unfold ringsF
  split
  · omega
  · omega
theorem ups_len {r : Bool} {hs gs : List Int} {ps : List (Option Int)} {B : Int} (t : TaskB B r hs gs ps) (g : Int → Int) (hg : ∀ x, -1998 ≤ x → x ≤ 1998 → g x ≤ 1998) : (repF g (riseF r (moreF hs gs)) 0).length ≤ 26000 := by
  have key : ∀ l : List Int, (∀ x ∈ l, -1998 ≤ x ∧ x ≤ 1998) → (l.map fun x => (g x).toNat).sum ≤ 1998 * l.length := by
    intro l
    induction l with
    | nil => intro _; simp
    | cons x l ih =>
      intro h
      have := ih fun y hy => h y (List.mem_cons_of_mem _ hy)
      have hx := h x List.mem_cons_self
      have := hg x hx.1 hx.2
      rw [List.map_cons, List.sum_cons, List.length_cons]
      omega
  rw [len_rep]
  have h1 := key (riseF r (moreF hs gs)) fun x hx => t.rise hx
  have h2 : (riseF r (moreF hs gs)).length ≤ 13 := by
    rw [riseF_len, moreF_len t.gl]; unfold bords; have := t.land.n12; split <;> omega
  omega
theorem matched_ok {r : Bool} {hs gs : List Int} {ps : List (Option Int)} {B : Int} (t : TaskB B r hs gs ps) (hud : upsF (riseF r (moreF hs gs)) = [] ∨ 0 < (downsF (riseF r (moreF hs gs))).length) :
    ∃ far ms, G_Task_matched [taskD r hs gs ps] = .ok (.lst (ms.map deedD)) [taskD r hs gs ps] ∧ Meets (downsF (riseF r (moreF hs gs))) far (upsF (riseF r (moreF hs gs))) 0 ms := by
  have hm := more_ne t.land t.gl
  have hml : (moreF hs gs).length ≤ 12 := by rw [moreF_len t.gl]; exact t.land.n12
  have hml0 : 0 < (moreF hs gs).length := List.length_pos_iff.mpr hm
  have hrl : (riseF r (moreF hs gs)).length ≤ 13 := by
    rw [riseF_len, moreF_len t.gl]; unfold bords; have := t.land.n12; split <;> omega
  have e1 := fun rest => greatest_ok (a := landD r hs ps) (rest := rest) hm hml
  obtain ⟨x, hx⟩ := maxI_some hm
  have bd : ∀ x ∈ riseF r (moreF hs gs), -4000 ≤ x ∧ x ≤ 4000 := fun x hx => by have := t.rise hx; omega
  have e4 : enumF 0 ((riseF r (moreF hs gs)).map D.int) = ((riseF r (moreF hs gs)).zipIdx 0).map fun p => D.tup [.int (p.2 : Int), .int p.1] := enumF_map _ _ _
  have eu := outer_loop (s0 := some (taskD r hs gs ps)) (s1 := none) (s2 := none) (s3 := none) (s4 := none) (s5 := none) (s6 := none) (s7 := none) (s8 := none) (s9 := none) (s10 := none) (s11 := none) (s12 := none) (im1 := iA (aCons (eV 14) aNil) rng1) (g := fun x => x)
    (fun b x h1 h2 => by simp [small_of (x := x) (by omega) (by omega)]) (fun x _ h => h) (riseF r (moreF hs gs)) 0 [] bd (by simp; omega)
  have ed := outer_loop (s0 := some (taskD r hs gs ps)) (s1 := some (.fls ((upsF (riseF r (moreF hs gs))).map fun i : Nat => D.int (i : Int)))) (s2 := none) (s3 := none) (s4 := none) (s5 := none) (s6 := none) (s7 := none) (s8 := none) (s9 := none) (s10 := none) (s11 := none) (s12 := none) (im1 := iA (aCons (eO2 (d2 dSub) (eC (.int 0)) (eV 14)) aNil) rng1) (g := fun x => 0 - x)
    (fun b x h1 h2 => by
      have := small_of (x := -x) (by omega) (by omega)
      simp [this]) (fun x _ h => by omega) (riseF r (moreF hs gs)) 0 [] bd (by simp; omega)
  have lu : (upsF (riseF r (moreF hs gs))).length ≤ 26000 := ups_len t _ fun x _ h => h
  have ld : (downsF (riseF r (moreF hs gs))).length ≤ 26000 := ups_len t _ fun x h _ => by omega
  have eu4 : enumF 0 ((upsF (riseF r (moreF hs gs))).map fun i : Nat => D.int (i : Int)) = ((upsF (riseF r (moreF hs gs))).zipIdx 0).map fun p => D.tup [.int (p.2 : Int), .int (p.1 : Int)] := enumF_map _ _ _
  rw [show repF (fun x => x) (riseF r (moreF hs gs)) 0 = upsF (riseF r (moreF hs gs)) from rfl] at eu
  rw [show repF (fun x => 0 - x) (riseF r (moreF hs gs)) 0 = downsF (riseF r (moreF hs gs)) from rfl] at ed
  rw [List.nil_append] at eu ed
  have hmany : ((moreF hs gs).length : Int).natAbs < 1073741824 := by omega
  have hmany0 : ((moreF hs gs).length : Int) ≠ 0 := by omega
  have rg := t.rings
  have sr : sm (ringsF r (moreF hs gs)) = true := sm_of rg.1 (by omega)
  have smm : sm ((moreF hs gs).length : Int) = true := sm_of (by omega) (by omega)
  let sign : Int := if x = greatestF (moreF hs gs) then 1 else -1
  let tot : Int := (moreF hs gs).sum - sign * ((moreF hs gs).length : Int) * ringsF r (moreF hs gs)
  let far : Int := if r then (tot - ((downsF (riseF r (moreF hs gs))).map fun i : Nat => (i : Int)).sum + ((upsF (riseF r (moreF hs gs))).map fun i : Nat => (i : Int)).sum).fdiv ((moreF hs gs).length : Int) else 0
  have main : ∃ ms o8' o9' o10' o11' o12', forL (turnS (tgT 2 (tgCons (tgN 8) (tgCons (tgN 9) tgNil))) (sSeq (sAsg (eOA (d2 dDivmod) (aCons (eO2 (d2 dAdd) (eV 8) (eV 6)) (aCons (eOA (d1 dLen) (aCons (eV 2) aNil)) aNil))) (tgT 2 (tgCons (tgN 10) (tgCons (tgN 11) tgNil)))) (sSeq (sSet 12 (eO2 (d2 dIx) (eV 2) (eV 11))) (sIf (eO2 (d2 dGt) (eO2 (d2 dAdd) (eV 12) (eO2 (d2 dMul) (eV 3) (eV 10))) (eV 9)) (sDrop (eApp 7 (eTup (aCons (eC (.str "raise")) (aCons (eV 9) (aCons (eV 12) aNil)))))) (sDrop (eApp 7 (eTup (aCons (eC (.str "lower")) (aCons (eV 12) (aCons (eV 9) aNil))))))))))
      (((upsF (riseF r (moreF hs gs))).zipIdx 0).map fun p => D.tup [.int (p.2 : Int), .int (p.1 : Int)]) [some (taskD r hs gs ps), some (.fls ((upsF (riseF r (moreF hs gs))).map fun i : Nat => D.int (i : Int))), some (.fls ((downsF (riseF r (moreF hs gs))).map fun i : Nat => D.int (i : Int))), some (.int ((moreF hs gs).length : Int)), some (.int sign), some (.int tot), some (.int far), some (.lst []), none, none, none, none, none, none, none, none] =
      .nx [some (taskD r hs gs ps), some (.fls ((upsF (riseF r (moreF hs gs))).map fun i : Nat => D.int (i : Int))), some (.fls ((downsF (riseF r (moreF hs gs))).map fun i : Nat => D.int (i : Int))), some (.int ((moreF hs gs).length : Int)), some (.int sign), some (.int tot), some (.int far), some (.lst (ms.map deedD)), o8', o9', o10', o11', o12', none, none, none] ∧ Meets (downsF (riseF r (moreF hs gs))) far (upsF (riseF r (moreF hs gs))) 0 ms := by
    rcases hud with h | h
    · rw [h]
      exact ⟨[], none, none, none, none, none, by simp, rfl, fun i u h => by simp at h⟩
    · obtain ⟨ms, a, b, c, d, e, f, g⟩ := match_loop (t := taskD r hs gs ps) (a4 := .int sign) (a5 := .int tot) (a1 := .fls ((upsF (riseF r (moreF hs gs))).map fun i : Nat => D.int (i : Int))) (far := far) (many := ((moreF hs gs).length : Int)) h (by omega) (by omega) (by omega) (upsF (riseF r (moreF hs gs))) 0 [] none none none none none (by simp; omega)
      exact ⟨ms, a, b, c, d, e, by simpa using f, g⟩
  obtain ⟨ms, p8, p9, p10, p11, p12, em, mm⟩ := main
  refine ⟨far, ms, ?_, mm⟩
  have f0 : ∀ ρ, eFld 0 0 0 (some (taskD r hs gs ps) :: ρ) = .ok (landD r hs ps) (some (taskD r hs gs ps) :: ρ) := fun ρ => by simp [taskD, landD]
  have f1 : ∀ ρ, eFld 0 0 1 (some (taskD r hs gs ps) :: ρ) = .ok (.fls ((moreF hs gs).map D.int)) (some (taskD r hs gs ps) :: ρ) := fun ρ => by simp [taskD]
  have f2 : ∀ ρ, eFld 0 0 2 (some (taskD r hs gs ps) :: ρ) = .ok (.fls ((riseF r (moreF hs gs)).map D.int)) (some (taskD r hs gs ps) :: ρ) := fun ρ => by simp [taskD]
  have f4 : ∀ ρ, eFld 0 0 4 (some (taskD r hs gs ps) :: ρ) = .ok (.int (ringsF r (moreF hs gs))) (some (taskD r hs gs ps) :: ρ) := fun ρ => by simp [taskD]
  have fg : ∀ ρ, eMethV 0 0 [true] G_Task_greatest cNil (some (taskD r hs gs ps) :: ρ) = .ok (.int (greatestF (moreF hs gs))) (some (taskD r hs gs ps) :: ρ) := fun ρ => by simp [taskD, e1]
  have ssign : sm sign = true := by
    show sm (if x = greatestF (moreF hs gs) then 1 else -1) = true
    split <;> rfl
  refine run_rt (ρ' := [some (taskD r hs gs ps), some (.fls ((upsF (riseF r (moreF hs gs))).map fun i : Nat => D.int (i : Int))), some (.fls ((downsF (riseF r (moreF hs gs))).map fun i : Nat => D.int (i : Int))), some (.int ((moreF hs gs).length : Int)), some (.int sign), some (.int tot), some (.int far), none, p8, p9, p10, p11, p12, none, none, none]) (seq_nx
    (ρ' := [some (taskD r hs gs ps), some (.lst ((upsF (riseF r (moreF hs gs))).map fun i : Nat => D.int (i : Int))), none, none, none, none, none, none, none, none, none, none, none, none, none, none]) ?_ ?_) (by simp)
  · simp [f2, e4, freeL, -ev_fld]
    simp at eu
    rw [eu]
    rfl
  · simp only [ev_sFrz, List.getElem?_cons_succ, List.getElem?_cons_zero, frzOk_lst, frzOkL_nat, if_true, freeze_lst, freezeL_nat, List.set_cons_succ, List.set_cons_zero]
    refine seq_nx (ρ' := [some (taskD r hs gs ps), some (.fls ((upsF (riseF r (moreF hs gs))).map fun i : Nat => D.int (i : Int))), some (.lst ((downsF (riseF r (moreF hs gs))).map fun i : Nat => D.int (i : Int))), none, none, none, none, none, none, none, none, none, none, none, none, none]) ?_ ?_
    · simp [f2, e4, freeL, -ev_fld]
      simp at ed
      rw [ed]
      rfl
    · simp only [ev_sFrz, List.getElem?_cons_succ, List.getElem?_cons_zero, frzOk_lst, frzOkL_nat, if_true, freeze_lst, freezeL_nat, List.set_cons_succ, List.set_cons_zero]
      refine seq_nx (by simp [f1, -ev_fld]; rfl) (seq_nx (ρ' := [some (taskD r hs gs ps), some (.fls ((upsF (riseF r (moreF hs gs))).map fun i : Nat => D.int (i : Int))), some (.fls ((downsF (riseF r (moreF hs gs))).map fun i : Nat => D.int (i : Int))), some (.int ((moreF hs gs).length : Int)), some (.int sign), none, none, none, none, none, none, none, none, none, none, none]) ?_ (seq_nx
        (ρ' := [some (taskD r hs gs ps), some (.fls ((upsF (riseF r (moreF hs gs))).map fun i : Nat => D.int (i : Int))), some (.fls ((downsF (riseF r (moreF hs gs))).map fun i : Nat => D.int (i : Int))), some (.int ((moreF hs gs).length : Int)), some (.int sign), some (.int tot), none, none, none, none, none, none, none, none, none, none]) ?_ (seq_nx
        (ρ' := [some (taskD r hs gs ps), some (.fls ((upsF (riseF r (moreF hs gs))).map fun i : Nat => D.int (i : Int))), some (.fls ((downsF (riseF r (moreF hs gs))).map fun i : Nat => D.int (i : Int))), some (.int ((moreF hs gs).length : Int)), some (.int sign), some (.int tot), some (.int far), none, none, none, none, none, none, none, none, none]) ?_ (seq_nx (by simp [sizeLine_eq]; rfl) (seq_nx (ρ' := [some (taskD r hs gs ps), some (.fls ((upsF (riseF r (moreF hs gs))).map fun i : Nat => D.int (i : Int))), some (.fls ((downsF (riseF r (moreF hs gs))).map fun i : Nat => D.int (i : Int))), some (.int ((moreF hs gs).length : Int)), some (.int sign), some (.int tot), some (.int far), some (.lst (ms.map deedD)), p8, p9, p10, p11, p12, none, none, none]) ?_ ?_)))))
      · by_cases hw : x = greatestF (moreF hs gs)
        · have es : sign = 1 := if_pos hw
          simp [f1, fg, hx, hw, es, -ev_fld, -ev_methV]
        · have es : sign = -1 := if_neg hw
          simp [f1, fg, hx, hw, es, -ev_fld, -ev_methV]
      · simp [f1, f4, ssign, sr, tot, -ev_fld]
      · cases r
        · have ef : far = 0 := rfl
          simp [f0, landD, ef, -ev_fld]
        · have ef : far = (tot - ((downsF (riseF true (moreF hs gs))).map fun i : Nat => (i : Int)).sum + ((upsF (riseF true (moreF hs gs))).map fun i : Nat => (i : Int)).sum).fdiv ((moreF hs gs).length : Int) := rfl
          have hml2 : (moreF hs gs).length < 1073741824 := by omega
          simp [f0, landD, ef, hm, hml2, -ev_fld]
      · simp [eu4, -ev_fld]
        rw [em]
      · simp
end LC
set_option linter.all false
set_option maxRecDepth 100000
set_option maxHeartbeats 4000000
namespace LC
open PySem L2 DL
@[simp] theorem dupL_deed (l : List (Bool × Nat × Nat)) : dupL (l.map deedD) = true := dupL_map _ dup_deed l
@[simp] theorem freezeL_deed : ∀ l : List (Bool × Nat × Nat), freezeL (l.map deedD) = l.map deedD
  | [] => rfl
  | a :: l => by show freeze (deedD a) :: freezeL (l.map deedD) = _; rw [freezeL_deed l]; rfl
@[simp] theorem frzOkL_deed : ∀ l : List (Bool × Nat × Nat), frzOkL (l.map deedD) = true
  | [] => rfl
  | a :: l => by show (frzOk (deedD a) && frzOkL (l.map deedD)) = true; rw [frzOkL_deed l]; rfl
theorem sh_raise : SeqAt.shaped (.str (Str.ofString "raise")) = true := by decide +kernel
theorem sh_lower : SeqAt.shaped (.str (Str.ofString "lower")) = true := by decide +kernel
theorem ne_rl : (Str.ofString "raise" == Str.ofString "lower") = false := by decide +kernel
theorem ne_lr : (Str.ofString "lower" == Str.ofString "raise") = false := by decide +kernel
@[simp] theorem eq_rr : dEq (.str (Str.ofString "raise")) (.str (Str.ofString "raise")) = some (.bl true) := by rw [eq_str _ _ sh_raise sh_raise]; simp
@[simp] theorem eq_rl : dEq (.str (Str.ofString "raise")) (.str (Str.ofString "lower")) = some (.bl false) := by rw [eq_str _ _ sh_raise sh_lower, ne_rl]
@[simp] theorem eq_lr : dEq (.str (Str.ofString "lower")) (.str (Str.ofString "raise")) = some (.bl false) := by rw [eq_str _ _ sh_lower sh_raise, ne_lr]
@[simp] theorem eq_ll : dEq (.str (Str.ofString "lower")) (.str (Str.ofString "lower")) = some (.bl true) := by rw [eq_str _ _ sh_lower sh_lower]; simp
/-- the deeds that raise ahead of those that lower -/
def wayF (l : List (Bool × Nat × Nat)) : List (Bool × Nat × Nat) := l.filter (·.1) ++ l.filter (fun d => !d.1)
theorem way_ok {t : D} {a b : List (Bool × Nat × Nat)} (h1 : G_Task_whole [t] = .ok (.lst (a.map deedD)) [t]) (h2 : G_Task_matched [t] = .ok (.lst (b.map deedD)) [t]) (ht : isIns 0 t = true) (hl : a.length + b.length ≤ 1000000) :
    G_Task_way [t] = .ok (.lst ((wayF (a ++ b)).map deedD)) [t] := by
  obtain ⟨L, hL⟩ : ∃ L, L = a ++ b := ⟨_, rfl⟩
  have hLl : L.length ≤ 1000000 := by rw [hL, List.length_append]; exact hl
  have hLm : a.map deedD ++ b.map deedD = L.map deedD := by rw [hL, List.map_append]
  rw [← hL]
  have e1 := fun o => lcL_det (t := tgN 2) (c := eO2 (d2 dEq) (eO2 (d2 dIx) (eV 2) (eC (.int 0))) (eC (.str (Str.ofString "raise")))) (e := eV 2) (vs := [2]) (ρ := [some t, o, none]) deedD (fun d => d.1) deedD L []
    (fun d _ => ⟨[some t, o, some (deedD d)], [some t, o, some (deedD d)], rfl, by
      obtain ⟨w, x, y⟩ := d
      cases w <;> simp [deedD], fun _ => ⟨[some t, o, some (deedD d)], by simp [dup_deed], by simp [killL]⟩, fun _ => by simp [killL]⟩) (by simp [sizeLine_eq]; omega)
  have e2 := fun o => lcL_det (t := tgN 2) (c := eO2 (d2 dEq) (eO2 (d2 dIx) (eV 2) (eC (.int 0))) (eC (.str (Str.ofString "lower")))) (e := eV 2) (vs := [2]) (ρ := [some t, o, none]) deedD (fun d => !d.1) deedD L []
    (fun d _ => ⟨[some t, o, some (deedD d)], [some t, o, some (deedD d)], rfl, by
      obtain ⟨w, x, y⟩ := d
      cases w <;> simp [deedD], fun _ => ⟨[some t, o, some (deedD d)], by simp [dup_deed], by simp [killL]⟩, fun _ => by simp [killL]⟩) (by simp [sizeLine_eq]; omega)
  have fl : ∀ p : (Bool × Nat × Nat) → Bool, (L.filter p).length ≤ 1000000 := fun p => by
    have := List.length_filter_le p L
    omega
  have hs : a.length + b.length ≤ 16777216 := by omega
  have hs2 : (L.filter (fun d => d.1)).length + (L.filter (fun d => !d.1)).length ≤ 16777216 := by
    have := fl (fun d => d.1)
    have := fl (fun d => !d.1)
    omega
  rw [List.nil_append] at e1 e2
  simp [G_Task_way, b_Task_way, ht, h1, h2, sizeLine_eq, hs, freeL, hLm, e1, e2, hs2, wayF]
theorem price_ok {r : Bool} {hs : List Int} {ps : List (Option Int)} {d : Bool × Nat × Nat} {p q : Int} (h1 : ps[d.2.1]? = some (some p)) (h2 : ps[d.2.2]? = some (some q)) : G_price_of [landD r hs ps, deedD d] = .ok (.int (p + q)) [] := by
  have e1 := at_ps h1
  have e2 := at_ps h2
  simp [G_price_of, b_price_of, landD, deedD, e1, e2, optD]
theorem sum_append' (a b : List Int) : (a ++ b).sum = a.sum + b.sum := by
  induction a with
  | nil => simp
  | cons x a ih => simp [ih]; omega
/-- what a deed costs -/
def dcost (ps : List (Option Int)) (d : Bool × Nat × Nat) : Int := prc ps d.2.1 + prc ps d.2.2
theorem cost_ok {r : Bool} {hs : List Int} {ps : List (Option Int)} {rest : List D} {l : List (Bool × Nat × Nat)} (hw : G_Task_way [.ins 0 (landD r hs ps :: rest)] = .ok (.lst (l.map deedD)) [.ins 0 (landD r hs ps :: rest)])
    (hf : ∀ d ∈ l, d.2.1 ∈ fencesF ps ∧ d.2.2 ∈ fencesF ps) (hl : l.length ≤ 1000000) : G_Task_cost [.ins 0 (landD r hs ps :: rest)] = .ok (.int (l.map (dcost ps)).sum) [.ins 0 (landD r hs ps :: rest)] := by
  have e1 := lcL_map (t := tgN 1) (e := eCall [false, false] G_price_of (cVal (eFld 0 0 0) (cVal (eV 1) cNil))) (vs := [1]) (ρ := [some (.ins 0 (landD r hs ps :: rest)), none]) deedD (fun d => D.int (dcost ps d)) l
    (fun d hd => by
      obtain ⟨⟨p, hp⟩, ⟨q, hq⟩⟩ : (∃ p, ps[d.2.1]? = some (some p)) ∧ ∃ q, ps[d.2.2]? = some (some q) := ⟨mem_fences.mp (hf d hd).1, mem_fences.mp (hf d hd).2⟩
      have ep := price_ok (r := r) (hs := hs) hp hq
      refine ⟨[some (.ins 0 (landD r hs ps :: rest)), some (deedD d)], [some (.ins 0 (landD r hs ps :: rest)), some (deedD d)], rfl, ?_, by simp [killL]⟩
      have hld : dup (landD r hs ps) = true := by simp [landD]
      simp [hld, dup_deed, ep, dcost, prc_of hp, prc_of hq]) (by simp [sizeLine_eq]; omega)
  have e2 : (l.map fun d => D.int (dcost ps d)) = (l.map (dcost ps)).map D.int := by simp
  simp [G_Task_cost, b_Task_cost, hw, freeL, e1, e2, -List.map_map]
theorem task_ok {r : Bool} {hs gs : List Int} {ps : List (Option Int)} (t : TaskOk r hs gs ps) : G_task_of [landD r hs ps, .tup (gs.map D.int)] = .ok (taskD r hs gs ps) [] := by
  have e1 := need_land_ok t.land
  have e2 := need_goal_ok (r := r) (ps := ps) t.gl t.g0
  have e3 := init_ok (ps := ps) t.land t.gl
  have hld : dup (landD r hs ps) = true := by simp [landD]
  simp [G_task_of, b_task_of, hld, e1, e2, makeR, e3]
end LC
set_option linter.all false
set_option maxRecDepth 100000
set_option maxHeartbeats 4000000
namespace LC
open PySem L2 DL
theorem sum_riseFrom : ∀ (l : List Int) (a : Int), (riseFrom a l).sum = lastOr a l - a
  | [], a => by simp [riseFrom, lastOr]
  | x :: l, a => by simp [riseFrom, lastOr, sum_riseFrom l x]; omega
theorem lastOr_ne : ∀ (l : List Int) (a b : Int), l ≠ [] → lastOr a l = lastOr b l
  | [], _, _, h => absurd rfl h
  | x :: l, _, _, _ => rfl
theorem sum_rise {r : Bool} {m : List Int} (h : m ≠ []) : (riseF r m).sum = 0 := by
  cases r
  · simp [riseF, sum_append', sum_riseFrom]; omega
  · have := lastOr_ne m (lastOr 0 m) 0 h
    simp [riseF, sum_riseFrom]; omega
theorem pos_neg : ∀ (l : List Int), (((l.map fun x => x.toNat).sum : Nat) : Int) - (((l.map fun x => (0 - x).toNat).sum : Nat) : Int) = l.sum
  | [] => rfl
  | x :: l => by
    have := pos_neg l
    simp only [List.map_cons, List.sum_cons] at this ⊢
    omega
theorem ud_len {r : Bool} {m : List Int} (h : m ≠ []) : (downsF (riseF r m)).length = (upsF (riseF r m)).length := by
  have h1 := pos_neg (riseF r m)
  rw [sum_rise h] at h1
  unfold downsF upsF
  rw [len_rep, len_rep]
  omega
theorem pos_sum : ∀ (l : List Int), (((l.map fun x => x.toNat).sum : Nat) : Int) = pairsF l
  | [] => rfl
  | x :: l => by
    have := pos_sum l
    unfold pairsF at this ⊢
    by_cases hx : 0 < x
    · simp [hx] at this ⊢; omega
    · simp [hx] at this ⊢; omega
theorem ups_len2 (l : List Int) : ((upsF l).length : Int) = pairsF l := by
  unfold upsF
  rw [len_rep]; exact pos_sum l
theorem mem_rep {g : Int → Int} : ∀ {rs : List Int} {k i : Nat}, i ∈ repF g rs k → ∃ j x, rs[j]? = some x ∧ i = k + j ∧ 0 < g x
  | [], _, _, h => by simp [repF] at h
  | y :: rs, k, i, h => by
    have h' : i ∈ List.replicate (g y).toNat k ++ repF g rs (k + 1) := by simpa [repF, List.zipIdx_cons] using h
    rcases List.mem_append.mp h' with z | z
    · have := List.mem_replicate.mp z
      exact ⟨0, y, rfl, by omega, by omega⟩
    · obtain ⟨j, x, h1, h2, h3⟩ := mem_rep z
      exact ⟨j + 1, x, by simpa using h1, by omega, h3⟩
theorem not_bad {rs : List Int} {ps : List (Option Int)} (h : badB rs ps = false) (hl : rs.length = ps.length) {j : Nat} {x : Int} (hx : rs[j]? = some x) (h0 : x ≠ 0) : j ∈ fencesF ps := by
  have hj : j < ps.length := by rw [← hl]; exact (List.getElem?_eq_some_iff.mp hx).1
  have hp : ps[j]? = some ps[j] := List.getElem?_eq_getElem hj
  have hz : (x, ps[j]) ∈ rs.zip ps := by
    refine List.mem_iff_getElem?.mpr ⟨j, ?_⟩
    rw [List.getElem?_zip_eq_some]
    exact ⟨hx, hp⟩
  have := List.any_eq_false.mp h _ hz
  cases hq : ps[j] with
  | none => rw [hq] at this; simp [h0] at this
  | some p => exact mem_fences.mpr ⟨p, by rw [hp, hq]⟩
theorem sum_rep (f : Nat → Int) (g : Int → Int) : ∀ (rs : List Int) (k : Nat), ((repF g rs k).map f).sum = ((rs.zipIdx k).map fun p => ((g p.1).toNat : Int) * f p.2).sum
  | [], k => rfl
  | x :: rs, k => by
    have ih := sum_rep f g rs (k + 1)
    have e : repF g (x :: rs) k = List.replicate (g x).toNat k ++ repF g rs (k + 1) := by simp [repF, List.zipIdx_cons]
    have er : ∀ n : Nat, (List.replicate n (f k)).sum = (n : Int) * f k := by
      intro n
      induction n with
      | zero => simp
      | succ n ih => rw [List.replicate_succ, List.sum_cons, ih, Int.natCast_succ, Int.add_mul]; omega
    rw [e, List.map_append, sum_append', ih, List.zipIdx_cons, List.map_cons, List.sum_cons, List.map_replicate, er]
theorem perm_sum {a b : List Int} (h : a.Perm b) : a.sum = b.sum := by
  induction h with
  | nil => rfl
  | cons x _ ih => simp [ih]
  | swap x y l => simp; omega
  | trans _ _ h1 h2 => exact h1.trans h2
theorem rot {α : Type} {l : List α} (h : 0 < l.length) (far : Int) : ∃ s, ∀ i, i < l.length → (l.drop s ++ l.take s)[i]? = l[(((i : Int) + far) % (l.length : Int)).toNat]? := by
  have hL : (0 : Int) < (l.length : Int) := by omega
  have hs0 := Int.emod_nonneg far (show (l.length : Int) ≠ 0 by omega)
  have hs1 := Int.emod_lt_of_pos far hL
  refine ⟨(far % (l.length : Int)).toNat, fun i hi => ?_⟩
  generalize hsd : (far % (l.length : Int)).toNat = s
  have hs : far % (l.length : Int) = (s : Int) := by omega
  have e : ((i : Int) + far) % (l.length : Int) = ((i : Int) + (s : Int)) % (l.length : Int) := by
    have hss : ((s : Int)) % (l.length : Int) = (s : Int) := Int.emod_eq_of_lt (by omega) (by omega)
    rw [Int.add_emod, hs, Int.add_emod (i : Int) (s : Int), hss]
  rw [e]
  by_cases hc : i + s < l.length
  · rw [Int.emod_eq_of_lt (by omega) (by omega), List.getElem?_append_left (by rw [List.length_drop]; omega), List.getElem?_drop]
    congr 1
    omega
  · have e2 : ((i : Int) + (s : Int)) % (l.length : Int) = (i : Int) + (s : Int) - (l.length : Int) := by
      have h1 : ((i : Int) + (s : Int) - (l.length : Int) + (l.length : Int)) % (l.length : Int) = ((i : Int) + (s : Int) - (l.length : Int)) % (l.length : Int) := Int.add_emod_right _ _
      rw [Int.sub_add_cancel] at h1
      rw [h1]
      exact Int.emod_eq_of_lt (by omega) (by omega)
    rw [e2, List.getElem?_append_right (by rw [List.length_drop]; omega), List.length_drop, List.getElem?_take_of_lt (by omega)]
    congr 1
    omega
/-- all deeds that match cost what rises and falls do -/
theorem meets_cost {ps : List (Option Int)} {downs ups : List Nat} {far : Int} {ms : List (Bool × Nat × Nat)} (hl : downs.length = ups.length) (h : Meets downs far ups 0 ms) :
    (ms.map (dcost ps)).sum = (ups.map (prc ps)).sum + (downs.map (prc ps)).sum := by
  obtain ⟨ml, mm⟩ := h
  by_cases h0 : downs.length = 0
  · have e1 : downs = [] := List.length_eq_zero_iff.mp h0
    have e2 : ups = [] := List.length_eq_zero_iff.mp (by omega)
    have e3 : ms = [] := List.length_eq_zero_iff.mp (by rw [ml, e2]; rfl)
    rw [e1, e2, e3]; rfl
  · obtain ⟨s, hr⟩ := rot (l := downs) (by omega) far
    have key : ms.map (dcost ps) = List.zipWith (· + ·) (ups.map (prc ps)) ((downs.drop s ++ downs.take s).map (prc ps)) := by
      apply List.ext_getElem?
      intro i
      rw [List.getElem?_map, List.getElem?_zipWith, List.getElem?_map, List.getElem?_map]
      by_cases hi : i < ups.length
      · obtain ⟨u, hu⟩ : ∃ u, ups[i]? = some u := ⟨_, List.getElem?_eq_getElem hi⟩
        obtain ⟨d, hd, hm⟩ := mm i u hu
        rw [Nat.zero_add] at hd
        rw [hr i (by omega), hu, hd]
        rcases hm with z | z
        · rw [z]; rfl
        · rw [z]; show some (prc ps d + prc ps u) = some (prc ps u + prc ps d); rw [Int.add_comm]
      · rw [List.getElem?_eq_none (by omega), List.getElem?_eq_none (l := ups) (by omega)]; rfl
    have zs : ∀ (a b : List Int), a.length = b.length → (List.zipWith (· + ·) a b).sum = a.sum + b.sum := by
      intro a
      induction a with
      | nil => intro b h; cases b with
        | nil => rfl
        | cons _ _ => simp at h
      | cons x a ih => intro b h; cases b with
        | nil => simp at h
        | cons y b => simp at h; simp [ih b h]; omega
    rw [key, zs _ _ (by simp; omega)]
    have : ((downs.drop s ++ downs.take s).map (prc ps)).sum = (downs.map (prc ps)).sum := perm_sum (List.Perm.map _ (by
      have := List.perm_append_comm (l₁ := downs.drop s) (l₂ := downs.take s)
      rw [List.take_append_drop] at this
      exact this))
    rw [this]
theorem way_perm (l : List (Bool × Nat × Nat)) : (wayF l).Perm l := by
  unfold wayF
  induction l with
  | nil => exact .refl _
  | cons d l ih =>
    obtain ⟨w, x⟩ := d
    cases w
    · simp only [List.filter_cons, Bool.not_false, if_true]
      rw [if_neg (by simp)]
      exact (List.perm_middle).trans (ih.cons _)
    · simp only [List.filter_cons, if_true, Bool.not_true]
      rw [if_neg (by simp)]
      exact ih.cons _
/-- all that rises, at its price -/
def totF (rs : List Int) (ps : List (Option Int)) : Int := (rs.zipIdx.map fun p => absI p.1 * prc ps p.2).sum
theorem tot_is (rs : List Int) (ps : List (Option Int)) : ((upsF rs).map (prc ps)).sum + ((downsF rs).map (prc ps)).sum = totF rs ps := by
  unfold upsF downsF totF
  rw [sum_rep, sum_rep]
  generalize rs.zipIdx 0 = l
  induction l with
  | nil => rfl
  | cons p l ih =>
    simp only [List.map_cons, List.sum_cons]
    have e : ((p.1.toNat : Int)) * prc ps p.2 + (((0 - p.1).toNat : Int)) * prc ps p.2 = absI p.1 * prc ps p.2 := by
      rw [← Int.add_mul]
      congr 1
      unfold absI; split <;> omega
    omega
def minP (ps : List (Option Int)) : Int := (minI ((fencesF ps).map (prc ps))).getD 0
theorem minP_is {ps : List (Option Int)} {c : Nat} (hc : c ∈ fencesF ps) (h : ∀ j ∈ fencesF ps, prc ps c ≤ prc ps j) : minP ps = prc ps c := by
  unfold minP
  cases hf : fencesF ps with
  | nil => rw [hf] at hc; cases hc
  | cons a l =>
    rw [hf] at hc h
    obtain ⟨m1, m2⟩ := foldl_min (l.map (prc ps)) (prc ps a)
    have e : minI ((a :: l).map (prc ps)) = some ((l.map (prc ps)).foldl min (prc ps a)) := rfl
    rw [e]
    show (l.map (prc ps)).foldl min (prc ps a) = prc ps c
    refine Int.le_antisymm (m2 _ (List.mem_map.mpr ⟨c, hc, rfl⟩ : prc ps c ∈ (a :: l).map (prc ps))) ?_
    have m1' : (l.map (prc ps)).foldl min (prc ps a) ∈ (a :: l).map (prc ps) := m1
    obtain ⟨j, hj, ej⟩ := List.mem_map.mp m1'
    rw [← ej]; exact h j hj
end LC
set_option linter.all false
set_option maxRecDepth 100000
set_option maxHeartbeats 4000000
namespace LC
open PySem L2 DL
def fewF (r : Bool) (hs gs : List Int) : Int := pairsF (riseF r (moreF hs gs)) + ringsF r (moreF hs gs)
def costF (r : Bool) (hs gs : List Int) (ps : List (Option Int)) : Int := totF (riseF r (moreF hs gs)) ps + ringsF r (moreF hs gs) * (2 * minP ps)
/-- what `_law_told` answers -/
def toldF (r : Bool) (hs gs : List Int) (ps : List (Option Int)) : Option (Int × Int) := if barredF r hs gs ps then none else some (costF r hs gs ps, fewF r hs gs)
def toldD : Option (Int × Int) → D
  | none => .non
  | some (a, b) => .tup [.int a, .int b]
theorem isIns_task (r : Bool) (hs gs : List Int) (ps : List (Option Int)) : isIns 0 (taskD r hs gs ps) = true := rfl
theorem sum_repl (n : Nat) (x : Int) : (List.replicate n x).sum = (n : Int) * x := by
  induction n with
  | zero => simp
  | succ n ih => rw [List.replicate_succ, List.sum_cons, ih]; push_cast; rw [Int.add_mul, Int.one_mul]; omega
theorem rings_fences {r : Bool} {hs gs : List Int} {ps : List (Option Int)} {B : Int} (t : TaskB B r hs gs ps) (hb : barredF r hs gs ps = false) : ringsF r (moreF hs gs) = 0 ∨ fencesF ps ≠ [] := by
  by_cases h : ringsF r (moreF hs gs) = 0
  · exact .inl h
  · refine .inr fun hf => h ?_
    have h1 : ¬0 < greatestF (moreF hs gs) := by
      intro hg
      simp [barredF, hf, hg] at hb
    have := pairs_nonneg (riseF r (moreF hs gs))
    unfold ringsF; split <;> omega
theorem bad_false {r : Bool} {hs gs : List Int} {ps : List (Option Int)} (hb : barredF r hs gs ps = false) : badB (riseF r (moreF hs gs)) ps = false := by
  unfold barredF at hb
  exact (Bool.or_eq_false_iff.mp hb).1
theorem way_all {r : Bool} {hs gs : List Int} {ps : List (Option Int)} {B : Int} (t : TaskB B r hs gs ps) (hb : barredF r hs gs ps = false) : ∃ l : List (Bool × Nat × Nat), G_Task_way [taskD r hs gs ps] = .ok (.lst (l.map deedD)) [taskD r hs gs ps] ∧ l.length ≤ 1000000 ∧
    (∀ d ∈ l, d.2.1 ∈ fencesF ps ∧ d.2.2 ∈ fencesF ps) ∧ (l.map (dcost ps)).sum = costF r hs gs ps := by
  have rg := t.rings
  have hm := more_ne t.land t.gl
  have hul := ud_len (r := r) hm
  obtain ⟨w, c, e1, hc⟩ := whole_ok (ps := ps) t.land t.gl (by omega) rg.1 (rings_fences t hb)
  obtain ⟨far, ms, e2, mm⟩ := matched_ok t (by
    cases hu : upsF (riseF r (moreF hs gs)) with
    | nil => exact .inl rfl
    | cons a l => refine .inr ?_; rw [hul, hu]; simp)
  have lu : (upsF (riseF r (moreF hs gs))).length ≤ 26000 := ups_len t _ fun x _ h => h
  have hrl : (riseF r (moreF hs gs)).length = ps.length := by rw [riseF_len, moreF_len t.gl, t.land.pl]
  have uf : ∀ i ∈ upsF (riseF r (moreF hs gs)), i ∈ fencesF ps := fun i hi => by
    obtain ⟨j, x, h1, h2, h3⟩ := mem_rep hi
    have := not_bad (bad_false hb) hrl h1 (by omega)
    rw [h2, Nat.zero_add]; exact this
  have df : ∀ i ∈ downsF (riseF r (moreF hs gs)), i ∈ fencesF ps := fun i hi => by
    obtain ⟨j, x, h1, h2, h3⟩ := mem_rep hi
    have := not_bad (bad_false hb) hrl h1 (by omega)
    rw [h2, Nat.zero_add]; exact this
  have mf : ∀ d ∈ ms, d.2.1 ∈ fencesF ps ∧ d.2.2 ∈ fencesF ps := fun d hd => by
    obtain ⟨i, hi⟩ := List.mem_iff_getElem?.mp hd
    have hil : i < ms.length := (List.getElem?_eq_some_iff.mp hi).1
    rw [mm.1] at hil
    obtain ⟨d', h1, h2⟩ := mm.2 i _ (List.getElem?_eq_getElem hil)
    have a1 := uf _ (List.getElem_mem hil)
    have a2 := df _ (List.mem_of_getElem? h1)
    rcases h2 with h2 | h2
    · rw [h2] at hi; cases hi; exact ⟨a1, a2⟩
    · rw [h2] at hi; cases hi; exact ⟨a2, a1⟩
  let l0 := List.replicate (ringsF r (moreF hs gs)).toNat (w, c, c) ++ ms
  have hp := way_perm l0
  have hl0 : l0.length ≤ 1000000 := by
    show (_ ++ ms).length ≤ _
    rw [List.length_append, List.length_replicate, mm.1]; omega
  refine ⟨wayF l0, way_ok e1 e2 (isIns_task _ _ _ _) (by rw [List.length_replicate, mm.1]; omega), by rw [hp.length_eq]; exact hl0, fun d hd => ?_, ?_⟩
  · have hd' := hp.mem_iff.mp hd
    rcases List.mem_append.mp hd' with h | h
    · obtain ⟨h1, h2⟩ := List.mem_replicate.mp h
      have h3 : ringsF r (moreF hs gs) ≠ 0 := fun z => h1 (by rw [z]; rfl)
      rw [h2]; exact ⟨(hc.resolve_left h3).1, (hc.resolve_left h3).1⟩
    · exact mf d h
  · rw [perm_sum (hp.map (dcost ps))]
    show ((List.replicate _ (w, c, c) ++ ms).map (dcost ps)).sum = _
    rw [List.map_append, sum_append', meets_cost hul mm, List.map_replicate, sum_repl, tot_is]
    unfold costF
    rcases hc with h | ⟨h1, h2⟩
    · rw [h]; simp
    · rw [minP_is h1 h2]
      have e : dcost ps (w, c, c) = 2 * prc ps c := by show prc ps c + prc ps c = _; omega
      rw [e, Int.toNat_of_nonneg rg.1]; omega
@[simp] theorem freeze_tup (l : List D) : freeze (.tup l) = .tup (freezeL l) := rfl
theorem least_ok {r : Bool} {hs gs : List Int} {ps : List (Option Int)} (t : TaskOk r hs gs ps) : if barredF r hs gs ps then G_least [landD r hs ps, .tup (gs.map D.int)] = .ok .non [] else ∃ l : List (Bool × Nat × Nat), l.length ≤ 1000000 ∧ G_least [landD r hs ps, .tup (gs.map D.int)] = .ok (.tup [.int (costF r hs gs ps), .lst (l.map deedD)]) [] := by
  have e0 := task_ok t
  obtain ⟨d, e1, e2⟩ := barred_ok (ps := ps) t.land t.gl
  have hld : dup (landD r hs ps) = true := by simp [landD]
  cases hb : barredF r hs gs ps with
  | true =>
    rw [if_pos rfl]
    rw [hb] at e2
    simp [G_least, b_least, hld, e0, isIns_task, e1, e2]
  | false =>
    rw [if_neg (by simp)]
    rw [hb] at e2
    obtain ⟨l, w1, w2, w3, w4⟩ := way_all t hb
    have ec := cost_ok (r := r) (hs := hs) (ps := ps) (rest := [.fls ((moreF hs gs).map D.int), .fls ((riseF r (moreF hs gs)).map D.int), .int (pairsF (riseF r (moreF hs gs))), .int (ringsF r (moreF hs gs))]) w1 w3 w2
    have ec' : G_Task_cost [taskD r hs gs ps] = .ok (.int (costF r hs gs ps)) [taskD r hs gs ps] := by rw [← w4]; exact ec
    refine ⟨l, w2, ?_⟩
    simp [G_least, b_least, hld, e0, isIns_task, e1, e2, w1, ec', sizeLine_eq]
theorem fewest_ok {r : Bool} {hs gs : List Int} {ps : List (Option Int)} (t : TaskOk r hs gs ps) (hb : barredF r hs gs ps = false) : G_fewest [landD r hs ps, .tup (gs.map D.int)] = .ok (.int (fewF r hs gs)) [] := by
  have e0 := task_ok t
  obtain ⟨d, e1, e2⟩ := barred_ok (ps := ps) t.land t.gl
  have hld : dup (landD r hs ps) = true := by simp [landD]
  rw [hb] at e2
  have f3 : ∀ a b, eFld 2 0 3 [a, b, some (taskD r hs gs ps)] = .ok (.int (pairsF (riseF r (moreF hs gs)))) [a, b, some (taskD r hs gs ps)] := fun a b => by simp [taskD]
  have f4 : ∀ a b, eFld 2 0 4 [a, b, some (taskD r hs gs ps)] = .ok (.int (ringsF r (moreF hs gs))) [a, b, some (taskD r hs gs ps)] := fun a b => by simp [taskD]
  simp [G_fewest, b_fewest, hld, e0, isIns_task, e1, e2, f3, f4, -ev_fld, fewF]
end LC
set_option linter.all false
set_option maxRecDepth 100000
set_option maxHeartbeats 4000000
namespace LC
open PySem L2 DL
theorem at_some {l : List Int} {i : Int} (h : l ≠ []) (h1 : -1 ≤ i) (h2 : i < l.length) : ∃ x, atI (l.map D.int) i = some (.int x) := by
  by_cases hi : i = -1
  · exact ⟨_, by rw [hi]; exact at_last l h⟩
  · have hn : i.toNat < l.length := by omega
    exact ⟨l[i.toNat], at_nat (by omega) (by simp [hn])⟩
theorem at_in {l : List Int} {i : Nat} (h2 : i < l.length) : atI (l.map D.int) (i : Int) = some (.int l[i]) := at_nat (by omega) (by simp [h2])
theorem set_map (l : List Int) (i : Nat) (x : Int) : (l.map D.int).set i (.int x) = (l.set i x).map D.int := by rw [List.map_set]
theorem mem_set {l : List Int} {i : Nat} {x y : Int} (h : y ∈ l.set i x) : y ∈ l ∨ y = x := List.mem_or_eq_of_mem_set h
theorem goal_more {d5 : D} {r : Bool} {hs fz : List Int} {ps : List (Option Int)} {high far so : Int} {ii : Nat} {o10 : Option D} (hn2 : 2 ≤ hs.length) (l : fz.length = hs.length) (hj2 : ii < hs.length) : ∃ m, (eIf (eOr (eO2 (DL.d2 dGt) (eV 9) (eC (.int 0))) (eO2 (DL.d2 dEq) (eV 3) (eC (.str "ring")))) (eO2 (DL.d2 dSub) (eIxS 6 (eO2 (DL.d2 dSub) (eV 9) (eC (.int 1)))) (eO2 (DL.d2 dIx) (eV 4) (eO2 (DL.d2 dSub) (eV 9) (eC (.int 1))))) (eC (.int 0)))
    [some d5, some (landD r hs ps), some (.int high), some (.str (shS r)), some (.tup (hs.map D.int)), some (.tup (ps.map optD)), some (.lst (fz.map D.int)), some (.int far), some (.int so), some (.int (ii : Int)), o10, none] = .ok (.int m) [some d5, some (landD r hs ps), some (.int high), some (.str (shS r)), some (.tup (hs.map D.int)), some (.tup (ps.map optD)), some (.lst (fz.map D.int)), some (.int far), some (.int so), some (.int (ii : Int)), o10, none] := by
  have hfz : fz ≠ [] := fun z => by rw [z] at l; simp at l; omega
  have hhs : hs ≠ [] := fun z => by rw [z] at hn2; simp at hn2
  obtain ⟨x, ex⟩ := at_some (i := (ii : Int) - 1) hfz (by omega) (by omega)
  obtain ⟨y, ey⟩ := at_some (i := (ii : Int) - 1) hhs (by omega) (by omega)
  by_cases hi0 : 0 < ii
  · exact ⟨x - y, by simp [hi0, ex, ey]⟩
  · cases r
    · exact ⟨0, by simp [hi0]⟩
    · exact ⟨x - y, by simp [hi0, ex, ey]⟩


theorem goal_turn {d5 : D} {r : Bool} {hs fz : List Int} {ps : List (Option Int)} {high far so top : Int} (ht : high ≤ top) {ii : Nat} {o9 o10 : Option D} (hn2 : 2 ≤ hs.length) (hpl : hs.length ≤ ps.length) (l : fz.length = hs.length) (rp : ∀ x ∈ fz, 0 ≤ x ∧ x ≤ top) (hj2 : ii < hs.length) :
    ∃ (fz' : List Int) (o9' o10' : Option D), turnS (tgN 9) (sSeq (sSet 10 (eIf (eOr (eO2 (DL.d2 dGt) (eV 9) (eC (.int 0))) (eO2 (DL.d2 dEq) (eV 3) (eC (.str "ring")))) (eO2 (DL.d2 dSub) (eIxS 6 (eO2 (DL.d2 dSub) (eV 9) (eC (.int 1)))) (eO2 (DL.d2 dIx) (eV 4) (eO2 (DL.d2 dSub) (eV 9) (eC (.int 1))))) (eC (.int 0)))) (sIf (eAnd (eO2 (DL.d2 dIsN) (eO2 (DL.d2 dIx) (eV 5) (eV 9)) (eC .non)) (eCh (DL.d2 dLe) (DL.d2 dLe) (eC (.int 0)) (eO2 (DL.d2 dAdd) (eO2 (DL.d2 dIx) (eV 4) (eV 9)) (eV 10)) (eV 2))) (sIx 6 (eV 9) (eO2 (DL.d2 dAdd) (eO2 (DL.d2 dIx) (eV 4) (eV 9)) (eV 10))) sNx)) (.int (ii : Int)) [some d5, some (landD r hs ps), some (.int high), some (.str (shS r)), some (.tup (hs.map D.int)), some (.tup (ps.map optD)), some (.lst (fz.map D.int)), some (.int far), some (.int so), o9, o10, none] = .nx [some d5, some (landD r hs ps), some (.int high), some (.str (shS r)), some (.tup (hs.map D.int)), some (.tup (ps.map optD)), some (.lst (fz'.map D.int)), some (.int far), some (.int so), o9', o10', none] ∧ fz'.length = hs.length ∧ ∀ x ∈ fz', 0 ≤ x ∧ x ≤ top := by
  have eh := at_in hj2
  have hip : ii < ps.length := by omega
  have ep := at_ps (i := ii) (List.getElem?_eq_getElem hip)
  have hil : ii < fz.length := by omega
  obtain ⟨m, em⟩ := goal_more (d5 := d5) (r := r) (ps := ps) (high := high) (far := far) (so := so) (o10 := o10) hn2 l hj2
  by_cases hc : ps[ii].isNone = true ∧ 0 ≤ hs[ii] + m ∧ hs[ii] + m ≤ high
  · refine ⟨fz.set ii (hs[ii] + m), some (.int (ii : Int)), some (.int m), ?_, by simp [l], fun z hz => ?_⟩
    · rw [ev_turnS]
      show sSeq _ _ _ = _
      refine seq_nx (ρ' := [some d5, some (landD r hs ps), some (.int high), some (.str (shS r)), some (.tup (hs.map D.int)), some (.tup (ps.map optD)), some (.lst (fz.map D.int)), some (.int far), some (.int so), some (.int (ii : Int)), some (.int m), none]) ?_ ?_
      · rw [ev_set]
        show Res.sbind (eIf _ _ _ [some d5, some (landD r hs ps), some (.int high), some (.str (shS r)), some (.tup (hs.map D.int)), some (.tup (ps.map optD)), some (.lst (fz.map D.int)), some (.int far), some (.int so), some (.int (ii : Int)), o10, none]) _ = _
        rw [em]
        rfl
      · simp [eh, ep, hc.1, hc.2.1, hc.2.2, hil]
    · rcases mem_set hz with q | q
      · exact rp z q
      · rw [q]; exact ⟨hc.2.1, by have := hc.2.2; omega⟩
  · refine ⟨fz, some (.int (ii : Int)), some (.int m), ?_, l, rp⟩
    rw [ev_turnS]
    show sSeq _ _ _ = _
    refine seq_nx (ρ' := [some d5, some (landD r hs ps), some (.int high), some (.str (shS r)), some (.tup (hs.map D.int)), some (.tup (ps.map optD)), some (.lst (fz.map D.int)), some (.int far), some (.int so), some (.int (ii : Int)), some (.int m), none]) ?_ ?_
    · rw [ev_set]
      show Res.sbind (eIf _ _ _ [some d5, some (landD r hs ps), some (.int high), some (.str (shS r)), some (.tup (hs.map D.int)), some (.tup (ps.map optD)), some (.lst (fz.map D.int)), some (.int far), some (.int so), some (.int (ii : Int)), o10, none]) _ = _
      rw [em]
      rfl
    · by_cases h1 : ps[ii].isNone = true
      · by_cases h2 : 0 ≤ hs[ii] + m
        · have h3 : ¬ hs[ii] + m ≤ high := fun z => hc ⟨h1, h2, z⟩
          simp [eh, ep, h1, h2, h3]
        · simp [eh, ep, h1, h2]
      · simp [eh, ep, h1]
theorem goal_ok {d : D} {r : Bool} {hs : List Int} {ps : List (Option Int)} {high top : Int} (h : StOk d) (lo : LandOk r hs ps) (h0 : 0 ≤ high) (h9 : high ≤ 999) (ht : high ≤ top) (hh : ∀ x ∈ hs, x ≤ top) :
    ∃ (gs : List Int) (d' : D), G__law_goal [d, landD r hs ps, .int high] = .ok (.tup (gs.map D.int)) [d'] ∧ StOk d' ∧ gs.length = hs.length ∧ ∀ g ∈ gs, 0 ≤ g ∧ g ≤ top := by
  have hn2 := lo.n2
  have hn12 := lo.n12
  have hpl : hs.length ≤ ps.length := by rw [lo.pl]; unfold bords; split <;> omega
  obtain ⟨fs, ρ1, e3, ⟨d3, s3, eρ⟩, l3, r3⟩ := lcL_rel (t := tgN 11) (e := eCall [true, false] G__law_drawn (cIo 0 (cVal (eO2 (DL.d2 dAdd) (eV 2) (eC (.int 1))) cNil))) (vs := [11]) D.int D.int
    (fun ρ => ∃ d, StOk d ∧ ρ = [some d, some (landD r hs ps), some (.int high), some (.str (shS r)), some (.tup (hs.map D.int)), some (.tup (ps.map optD)), none, none, none, none, none, none]) (fun x => 0 ≤ x ∧ x ≤ top) hs []
    [some d, some (landD r hs ps), some (.int high), some (.str (shS r)), some (.tup (hs.map D.int)), some (.tup (ps.map optD)), none, none, none, none, none, none] ⟨d, h, rfl⟩ (fun i _ ρ ⟨d, s, e⟩ => by
      subst e
      obtain ⟨v, d', e, s', a, b⟩ := drawn_ok s (m := high + 1) (by omega) (by omega)
      exact ⟨_, v, _, rfl, by simp [e]; rfl, ⟨a, by omega⟩, d', s', by simp [killL]⟩) (by simp [sizeLine_eq]; omega)
  subst eρ
  obtain ⟨far, d4, e4, s4, a4, b4⟩ := drawn_ok s3 (m := high + 1) (by omega) (by omega)
  obtain ⟨so, d5, e5, s5, a5, b5⟩ := drawn_ok s4 (m := 6) (by decide) (by decide)
  have hld : dup (landD r hs ps) = true := by simp [landD]
  obtain ⟨n, hn, hlen⟩ : ∃ n : Int, n = hs.length ∧ dLen (.tup (hs.map D.int)) = some (.int n) := ⟨_, rfl, by simp⟩
  obtain ⟨bb, hbb⟩ : ∃ bb, dNe (.int so) (.int 2) = some (.bl bb) := ⟨_, ne_int _ _⟩
  have hb01 : bI bb = 0 ∨ bI bb = 1 := by cases bb <;> simp [bI]
  have e6 := fun o => lcL_map (t := tgN 11) (e := eOA (DL.d2 dMin2) (aCons (eV 2) (aCons (eO2 (DL.d2 dAdd) (eV 11) (eV 7)) aNil))) (vs := [11]) (ρ := [some d5, some (landD r hs ps), some (.int high), some (.str (shS r)), some (.tup (hs.map D.int)), some (.tup (ps.map optD)), o, some (.int far), some (.int so), none, none, none]) D.int (fun x => D.int (if x + far < high then x + far else high)) hs
    (fun x _ => ⟨_, _, rfl, by simp; rfl, by simp [killL]⟩) (by simp [sizeLine_eq]; omega)
  have e7 := fun o => lcL_map (t := tgN 11) (e := eOA (DL.d2 dMax2) (aCons (eC (.int 0)) (aCons (eO2 (DL.d2 dSub) (eV 11) (eV 7)) aNil))) (vs := [11]) (ρ := [some d5, some (landD r hs ps), some (.int high), some (.str (shS r)), some (.tup (hs.map D.int)), some (.tup (ps.map optD)), o, some (.int far), some (.int so), none, none, none]) D.int (fun x => D.int (if x - far > 0 then x - far else 0)) hs
    (fun x _ => ⟨_, _, rfl, by simp; rfl, by simp [killL]⟩) (by simp [sizeLine_eq]; omega)
  -- what is found ahead of the loop
  obtain ⟨f6, l6, r6, e8⟩ : ∃ f6 : List Int, f6.length = hs.length ∧ (∀ x ∈ f6, 0 ≤ x ∧ x ≤ top) ∧ sIf (eO2 (DL.d2 dEq) (eV 8) (eC (.int 0))) (sSet 6 (eLc (iE (eV 4) itemsT) (tgN 11) (eC (.bl true)) (eOA (DL.d2 dMin2) (aCons (eV 2) (aCons (eO2 (DL.d2 dAdd) (eV 11) (eV 7)) aNil))) [11])) sNx
      [some d5, some (landD r hs ps), some (.int high), some (.str (shS r)), some (.tup (hs.map D.int)), some (.tup (ps.map optD)), some (.lst (fs.map D.int)), some (.int far), some (.int so), none, none, none] = .nx [some d5, some (landD r hs ps), some (.int high), some (.str (shS r)), some (.tup (hs.map D.int)), some (.tup (ps.map optD)), some (.lst (f6.map D.int)), some (.int far), some (.int so), none, none, none] := by
    by_cases hz : so = 0
    · refine ⟨hs.map fun x => if x + far < high then x + far else high, by simp, fun x hx => ?_, ?_⟩
      · obtain ⟨y, hy, e⟩ := List.mem_map.mp hx
        have := lo.h0 y hy
        split at e <;> omega
      · simp [hz, freeL] at e6 ⊢
        simp [e6]
    · exact ⟨fs, by simpa using l3, r3, by simp [hz]⟩
  obtain ⟨f7, l7, r7, e9⟩ : ∃ f7 : List Int, f7.length = hs.length ∧ (∀ x ∈ f7, 0 ≤ x ∧ x ≤ top) ∧ sIf (eO2 (DL.d2 dEq) (eV 8) (eC (.int 1))) (sSet 6 (eLc (iE (eV 4) itemsT) (tgN 11) (eC (.bl true)) (eOA (DL.d2 dMax2) (aCons (eC (.int 0)) (aCons (eO2 (DL.d2 dSub) (eV 11) (eV 7)) aNil))) [11])) sNx
      [some d5, some (landD r hs ps), some (.int high), some (.str (shS r)), some (.tup (hs.map D.int)), some (.tup (ps.map optD)), some (.lst (f6.map D.int)), some (.int far), some (.int so), none, none, none] = .nx [some d5, some (landD r hs ps), some (.int high), some (.str (shS r)), some (.tup (hs.map D.int)), some (.tup (ps.map optD)), some (.lst (f7.map D.int)), some (.int far), some (.int so), none, none, none] := by
    by_cases hz : so = 1
    · refine ⟨hs.map fun x => if x - far > 0 then x - far else 0, by simp, fun x hx => ?_, ?_⟩
      · obtain ⟨y, hy, e⟩ := List.mem_map.mp hx
        have := lo.h0 y hy
        have := hh y hy
        split at e <;> omega
      · simp [hz, freeL] at e7 ⊢
        simp [e7]
    · exact ⟨f6, l6, r6, by simp [hz]⟩
  obtain ⟨ρ8, e10, fz, o9, o10, lz, rz, eρ8⟩ := forL_inv (st := turnS (tgN 9) (sSeq (sSet 10 (eIf (eOr (eO2 (DL.d2 dGt) (eV 9) (eC (.int 0))) (eO2 (DL.d2 dEq) (eV 3) (eC (.str "ring")))) (eO2 (DL.d2 dSub) (eIxS 6 (eO2 (DL.d2 dSub) (eV 9) (eC (.int 1)))) (eO2 (DL.d2 dIx) (eV 4) (eO2 (DL.d2 dSub) (eV 9) (eC (.int 1))))) (eC (.int 0)))) (sIf (eAnd (eO2 (DL.d2 dIsN) (eO2 (DL.d2 dIx) (eV 5) (eV 9)) (eC .non)) (eCh (DL.d2 dLe) (DL.d2 dLe) (eC (.int 0)) (eO2 (DL.d2 dAdd) (eO2 (DL.d2 dIx) (eV 4) (eV 9)) (eV 10)) (eV 2))) (sIx 6 (eV 9) (eO2 (DL.d2 dAdd) (eO2 (DL.d2 dIx) (eV 4) (eV 9)) (eV 10))) sNx)))
    (fun i : Nat => D.int (i : Int)) (fun i ρ => ∃ (fz : List Int) (o9 o10 : Option D), fz.length = hs.length ∧ (∀ x ∈ fz, 0 ≤ x ∧ x ≤ top) ∧ ρ = [some d5, some (landD r hs ps), some (.int high), some (.str (shS r)), some (.tup (hs.map D.int)), some (.tup (ps.map optD)), some (.lst (fz.map D.int)), some (.int far), some (.int so), o9, o10, none])
    (List.range (n * bI bb).toNat) 0 [some d5, some (landD r hs ps), some (.int high), some (.str (shS r)), some (.tup (hs.map D.int)), some (.tup (ps.map optD)), some (.lst (f7.map D.int)), some (.int far), some (.int so), none, none, none]
    ⟨f7, none, none, l7, r7, rfl⟩ (fun j ii ρ _ hj ⟨fz, o9, o10, l, rp, e⟩ => by
      subst e
      have hj1 : j < (n * bI bb).toNat ∧ j = ii := by
        have h := List.getElem?_eq_some_iff.mp hj
        obtain ⟨h1, h2⟩ := h
        simp at h1 h2
        omega
      have hj2 : ii < hs.length := by
        have := hj1.1
        rcases hb01 with z | z
        · rw [z] at this; omega
        · rw [z] at this; omega
      obtain ⟨fz', o9', o10', et, lt, rt⟩ := goal_turn (top := top) ht (d5 := d5) (r := r) (high := high) (far := far) (so := so) (o9 := o9) (o10 := o10) hn2 hpl l rp hj2
      exact ⟨_, et, fz', o9', o10', lt, rt, rfl⟩)
  subst eρ8
  refine ⟨fz, d5, ?_, s5, lz, rz⟩
  have hbm : sm (bI bb) = true := by rcases hb01 with z | z <;> rw [z] <;> rfl
  have hbs : small62 (n * bI bb) = true := small_of (by rcases hb01 with z | z <;> rw [z] <;> omega) (by rcases hb01 with z | z <;> rw [z] <;> omega)
  refine run_rt (ρ' := [some d5, some (landD r hs ps), some (.int high), some (.str (shS r)), some (.tup (hs.map D.int)), some (.tup (ps.map optD)), none, some (.int far), some (.int so), o9, o10, none]) (seq_nx (ρ' := [some d, some (landD r hs ps), some (.int high), some (.str (shS r)), some (.tup (hs.map D.int)), some (.tup (ps.map optD)), none, none, none, none, none, none]) (by simp [landD]) (seq_nx (ρ' := [some d3, some (landD r hs ps), some (.int high), some (.str (shS r)), some (.tup (hs.map D.int)), some (.tup (ps.map optD)), some (.lst (fs.map D.int)), none, none, none, none, none]) ?_
    (seq_nx (ρ' := [some d5, some (landD r hs ps), some (.int high), some (.str (shS r)), some (.tup (hs.map D.int)), some (.tup (ps.map optD)), some (.lst (fs.map D.int)), some (.int far), some (.int so), none, none, none]) ?_
    (seq_nx e8 (seq_nx e9 (seq_nx (ρ' := [some d5, some (landD r hs ps), some (.int high), some (.str (shS r)), some (.tup (hs.map D.int)), some (.tup (ps.map optD)), some (.lst (fz.map D.int)), some (.int far), some (.int so), o9, o10, none]) ?_ ?_)))))) rfl
  · simp [freeL]
    simp at e3
    rw [e3]; rfl
  · simp [e4, e5, sizeLine_eq]
  · have eim : iA (aCons (eO2 (DL.d2 dMul) (eOA (d1 dLen) (aCons (eV 4) aNil)) (eOA (d1 dInt) (aCons (eO2 (DL.d2 dNe) (eV 8) (eC (.int 2))) aNil))) aNil) rng1 [some d5, some (landD r hs ps), some (.int high), some (.str (shS r)), some (.tup (hs.map D.int)), some (.tup (ps.map optD)), some (.lst (f7.map D.int)), some (.int far), some (.int so), none, none, none] = .ok ((List.range (n * bI bb).toNat).map fun i : Nat => D.int (i : Int)) [some d5, some (landD r hs ps), some (.int high), some (.str (shS r)), some (.tup (hs.map D.int)), some (.tup (ps.map optD)), some (.lst (f7.map D.int)), some (.int far), some (.int so), none, none, none] := by
      simp [hbm, hbs, hbb, hlen, -ne_int, -op_lenT]
    rw [ev_for, eim]
    exact e10
  · simp
end LC
set_option linter.all false
set_option maxRecDepth 100000
set_option maxHeartbeats 4000000
namespace LC
open PySem L2 DL
theorem cut_from (ds : List D) (k : Int) (h0 : 0 ≤ k) (h : k ≤ ds.length) : cutD ds (some k) none = ds.drop k.toNat := by
  have e1 : HT.sIx ds.length 0 (some k) = k.toNat := by
    show (if k < 0 then _ else min k.toNat ds.length) = _
    rw [if_neg (by omega)]; omega
  unfold cutD
  rw [e1, HT.sIx_none]
  exact List.take_of_length_le (by simp)
theorem cut_to (ds : List D) (k : Int) (h0 : 0 ≤ k) (h : k ≤ ds.length) : cutD ds none (some k) = ds.take k.toNat := by
  have e1 : HT.sIx ds.length ds.length (some k) = k.toNat := by
    show (if k < 0 then _ else min k.toNat ds.length) = _
    rw [if_neg (by omega)]; omega
  unfold cutD
  rw [e1, HT.sIx_none]
  rfl
theorem sl_from {α : Type} (f : α → D) (hf : ∀ a, dup (f a) = true) (l : List α) (k : Int) (h0 : 0 ≤ k) (h : k ≤ l.length) : slA (.tup (l.map f)) (.int k) .non = some (.tup ((l.drop k.toNat).map f)) := by
  have e := cut_from (l.map f) k h0 (by simpa using h)
  show (if dupL (l.map f) then some (D.tup (cutD (l.map f) (some k) none)) else none) = _
  rw [if_pos (dupL_map f hf l), e, List.map_drop]
theorem sl_to {α : Type} (f : α → D) (hf : ∀ a, dup (f a) = true) (l : List α) (k : Int) (h0 : 0 ≤ k) (h : k ≤ l.length) : slA (.tup (l.map f)) .non (.int k) = some (.tup ((l.take k.toNat).map f)) := by
  have e := cut_to (l.map f) k h0 (by simpa using h)
  show (if dupL (l.map f) then some (D.tup (cutD (l.map f) none (some k))) else none) = _
  rw [if_pos (dupL_map f hf l), e, List.map_take]
theorem rev_map {α : Type} (f : α → D) (hf : ∀ a, dup (f a) = true) (l : List α) : dRev (.tup (l.map f)) = some (.tup (l.reverse.map f)) := by
  show (if dupL (l.map f) then some (D.tup (l.map f).reverse) else none) = _
  rw [if_pos (dupL_map f hf l), List.map_reverse]
theorem add_map {α : Type} (f : α → D) (hf : ∀ a, dup (f a) = true) (a b : List α) (h : a.length + b.length ≤ 1000) : dAdd (.tup (a.map f)) (.tup (b.map f)) = some (.tup ((a ++ b).map f)) := by
  rw [op_addT, if_pos (by simp [sizeLine_eq]; omega), if_pos (by rw [dupL_map f hf a, dupL_map f hf b]; rfl), List.map_append]
/-- a row told from its other end -/
def backF {α : Type} (b : Bool) (l : List α) : List α := if b then l.take 1 ++ (l.drop 1).reverse else l.reverse
theorem sh_told : ∀ o : Option (Int × Int), pd (toldD o) = some (match o with | none => .none | some (a, b) => .tuple [.int a, .int b]) := fun o => by
  rcases o with _ | ⟨a, b⟩ <;> rfl
theorem ne_told (a b : Option (Int × Int)) : dNe (toldD a) (toldD b) = some (.bl (!decide (a = b))) := by
  rcases a with _ | ⟨a1, a2⟩ <;> rcases b with _ | ⟨b1, b2⟩
  · rfl
  · rfl
  · rfl
  · simp [dNe, eqD, toldD, pd, pdL, SeqAt.shaped, PyData.canLay0, PyData.canLayAll0, PyData.depth, PyData.depthAll, PyData.eqv, PyData.eqvAll, beq_dec]
theorem ne_bl (a b : Bool) : dNe (.bl a) (.bl b) = some (.bl (!decide (a = b))) := by
  cases a <;> cases b <;> rfl
theorem told_pair (a b : Int) : D.tup [.int a, .int b] = toldD (some (a, b)) := rfl
end LC
set_option linter.all false
set_option maxRecDepth 100000
set_option maxHeartbeats 4000000
namespace LC
open PySem L2 DL
def AZ (rs : List Int) (ps : List (Option Int)) : List (Int × Option Int) := (rs.zip ps).map fun p => (absI p.1, p.2)
theorem absI_neg (x : Int) : absI (0 - x) = absI x := by unfold absI; split <;> split <;> omega
theorem absI_0 (x : Int) : absI x = 0 ↔ x = 0 := by unfold absI; split <;> omega
theorem bad_AZ (rs : List Int) (ps : List (Option Int)) : badB rs ps = (AZ rs ps).any fun p => decide (p.1 ≠ 0) && p.2.isNone := by
  unfold badB AZ
  rw [List.any_map]
  congr 1
  funext p
  simp [absI_0]
theorem tot_AZ_aux (ps : List (Option Int)) : ∀ (rs : List Int) (k : Nat), k + rs.length ≤ ps.length → ((rs.zipIdx k).map fun p => absI p.1 * prc ps p.2).sum = ((AZ rs (ps.drop k)).map fun p => p.1 * p.2.getD 0).sum
  | [], k, _ => by simp [AZ]
  | x :: rs, k, h => by
    rw [List.length_cons] at h
    have hk : k < ps.length := by omega
    have ih := tot_AZ_aux ps rs (k + 1) (by omega)
    rw [List.drop_eq_getElem_cons hk]
    simp only [List.zipIdx_cons, List.map_cons, List.sum_cons, AZ, List.zip_cons_cons] at ih ⊢
    rw [ih]
    have : prc ps k = ps[k].getD 0 := by simp [prc, List.getElem?_eq_getElem hk]
    rw [this]
theorem tot_AZ {rs : List Int} {ps : List (Option Int)} (h : rs.length = ps.length) : totF rs ps = ((AZ rs ps).map fun p => p.1 * p.2.getD 0).sum := by
  have := tot_AZ_aux ps rs 0 (by omega)
  rw [List.drop_zero] at this
  exact this
theorem pairs_abs : ∀ l : List Int, 2 * pairsF l = (l.map absI).sum + l.sum
  | [] => rfl
  | x :: l => by
    have ih := pairs_abs l
    unfold pairsF at ih ⊢
    rw [List.filter_cons]
    by_cases h : 0 < x
    · have e : absI x = x := by unfold absI; split <;> omega
      rw [if_pos (by simpa using h)]
      simp only [List.sum_cons, List.map_cons]
      omega
    · have e : absI x = -x := by unfold absI; split <;> omega
      rw [if_neg (by simpa using h)]
      simp only [List.sum_cons, List.map_cons]
      omega
theorem minI_mem {l : List Int} {m : Int} : minI l = some m ↔ m ∈ l ∧ ∀ y ∈ l, m ≤ y := by
  cases l with
  | nil => simp [minI]
  | cons a l =>
    obtain ⟨h1, h2⟩ := foldl_min l a
    have e : minI (a :: l) = some (l.foldl min a) := rfl
    rw [e]
    constructor
    · intro h; cases h; exact ⟨h1, h2⟩
    · rintro ⟨h3, h4⟩
      exact congrArg some (Int.le_antisymm (h2 _ h3) (h4 _ h1))
theorem maxI_mem {l : List Int} {m : Int} : maxI l = some m ↔ m ∈ l ∧ ∀ y ∈ l, y ≤ m := by
  cases l with
  | nil => simp [maxI]
  | cons a l =>
    obtain ⟨h1, h2⟩ := foldl_max l a
    have e : maxI (a :: l) = some (l.foldl max a) := rfl
    rw [e]
    constructor
    · intro h; cases h; exact ⟨h1, h2⟩
    · rintro ⟨h3, h4⟩
      exact congrArg some (Int.le_antisymm (h4 _ h1) (h2 _ h3))
theorem minI_perm {a b : List Int} (h : a.Perm b) : minI a = minI b := by
  cases hb : minI b with
  | none =>
    have : b = [] := by cases b with
      | nil => rfl
      | cons x l => exact absurd hb (by simp [minI])
    rw [this] at h; rw [h.eq_nil]; rfl
  | some m =>
    obtain ⟨h1, h2⟩ := minI_mem.mp hb
    exact minI_mem.mpr ⟨h.mem_iff.mpr h1, fun y hy => h2 y (h.mem_iff.mp hy)⟩
theorem maxI_perm {a b : List Int} (h : a.Perm b) : maxI a = maxI b := by
  cases hb : maxI b with
  | none =>
    have : b = [] := by cases b with
      | nil => rfl
      | cons x l => exact absurd hb (by simp [maxI])
    rw [this] at h; rw [h.eq_nil]; rfl
  | some m =>
    obtain ⟨h1, h2⟩ := maxI_mem.mp hb
    exact maxI_mem.mpr ⟨h.mem_iff.mpr h1, fun y hy => h2 y (h.mem_iff.mp hy)⟩
theorem fences_aux (qs : List (Option Int)) : ∀ (ps : List (Option Int)) (k : Nat), ps = qs.drop k → (((ps.zipIdx k).filter fun p => p.1.isSome).map (·.2)).map (prc qs) = ps.filterMap id
  | [], k, _ => by simp
  | o :: ps, k, h => by
    have hk : qs[k]? = some o := by
      have := congrArg (fun l => l[0]?) h
      simpa using this.symm
    have ht : ps = qs.drop (k + 1) := by
      have := congrArg List.tail h
      simpa using this
    have ih := fences_aux qs ps (k + 1) ht
    cases o with
    | none => simpa [List.zipIdx_cons] using ih
    | some p =>
      have : prc qs k = p := prc_of hk
      simpa [List.zipIdx_cons, this] using ih
theorem fences_prc (ps : List (Option Int)) : (fencesF ps).map (prc ps) = ps.filterMap id := fences_aux ps ps 0 rfl
theorem fences_nil (ps : List (Option Int)) : fencesF ps = [] ↔ ps.filterMap id = [] := by
  rw [← fences_prc]; simp
theorem minP_eq (ps : List (Option Int)) : minP ps = (minI (ps.filterMap id)).getD 0 := by unfold minP; rw [fences_prc]
theorem AZ_fst {rs : List Int} {ps : List (Option Int)} (h : rs.length = ps.length) : (AZ rs ps).map Prod.fst = rs.map absI := by
  unfold AZ
  rw [List.map_map]
  have : (Prod.fst ∘ fun p : Int × Option Int => (absI p.1, p.2)) = absI ∘ Prod.fst := rfl
  rw [this, ← List.map_map, List.map_fst_zip (by omega)]
theorem AZ_snd {rs : List Int} {ps : List (Option Int)} (h : rs.length = ps.length) : (AZ rs ps).map Prod.snd = ps := by
  unfold AZ
  rw [List.map_map]
  have : (Prod.snd ∘ fun p : Int × Option Int => (absI p.1, p.2)) = Prod.snd := rfl
  rw [this, List.map_snd_zip (by omega)]
theorem any_perm {α : Type} {a b : List α} (f : α → Bool) (h : a.Perm b) : a.any f = b.any f := by
  rw [Bool.eq_iff_iff, List.any_eq_true, List.any_eq_true]
  exact ⟨fun ⟨x, h1, h2⟩ => ⟨x, h.mem_iff.mp h1, h2⟩, fun ⟨x, h1, h2⟩ => ⟨x, h.mem_iff.mpr h1, h2⟩⟩
/-- what is told hangs on what rises and on its prices alone -/
theorem told_inv {r : Bool} {hs gs hs' gs' : List Int} {ps ps' : List (Option Int)} (hm : moreF hs gs ≠ []) (hm' : moreF hs' gs' ≠ []) (hl : (riseF r (moreF hs gs)).length = ps.length) (hl' : (riseF r (moreF hs' gs')).length = ps'.length)
    (hz : (AZ (riseF r (moreF hs' gs')) ps').Perm (AZ (riseF r (moreF hs gs)) ps)) (hg : ((moreF hs' gs').map absI).Perm ((moreF hs gs).map absI)) : toldF r hs' gs' ps' = toldF r hs gs ps := by
  have e1 : badB (riseF r (moreF hs' gs')) ps' = badB (riseF r (moreF hs gs)) ps := by rw [bad_AZ, bad_AZ]; exact any_perm _ hz
  have e2 : totF (riseF r (moreF hs' gs')) ps' = totF (riseF r (moreF hs gs)) ps := by rw [tot_AZ hl, tot_AZ hl']; exact perm_sum (hz.map _)
  have e3 : pairsF (riseF r (moreF hs' gs')) = pairsF (riseF r (moreF hs gs)) := by
    have a := pairs_abs (riseF r (moreF hs gs))
    have b := pairs_abs (riseF r (moreF hs' gs'))
    rw [sum_rise hm] at a
    rw [sum_rise hm'] at b
    have c := perm_sum (hz.map Prod.fst)
    rw [AZ_fst hl, AZ_fst hl'] at c
    omega
  have hp : ps'.Perm ps := by
    have c := hz.map Prod.snd
    rw [AZ_snd hl, AZ_snd hl'] at c
    exact c
  have hf : (ps'.filterMap id).Perm (ps.filterMap id) := hp.filterMap id
  have e4 : minP ps' = minP ps := by rw [minP_eq, minP_eq, minI_perm hf]
  have e5 : fencesF ps' = [] ↔ fencesF ps = [] := by
    rw [fences_nil, fences_nil]
    exact ⟨fun z => by rw [z] at hf; exact hf.symm.eq_nil, fun z => by rw [z] at hf; exact hf.eq_nil⟩
  have e6 : greatestF (moreF hs' gs') = greatestF (moreF hs gs) := by unfold greatestF; rw [maxI_perm hg]
  have e7 : ringsF r (moreF hs' gs') = ringsF r (moreF hs gs) := by unfold ringsF; rw [e6, e3]
  unfold toldF barredF costF fewF
  simp only [e1, e2, e3, e4, e5, e6, e7]
/-! ### the other end -/
theorem lastOr_app : ∀ (u v : List Int) (a : Int), lastOr a (u ++ v) = lastOr (lastOr a u) v
  | [], _, _ => rfl
  | x :: u, v, a => lastOr_app u v x
theorem from_app : ∀ (u v : List Int) (a : Int), riseFrom a (u ++ v) = riseFrom a u ++ riseFrom (lastOr a u) v
  | [], _, _ => rfl
  | x :: u, v, a => by
    show (x - a) :: riseFrom x (u ++ v) = _
    rw [from_app u v x]; rfl
theorem from_rev : ∀ (l : List Int) (a b : Int), riseFrom b (l.reverse ++ [a]) = ((riseFrom a (l ++ [b])).map fun x => 0 - x).reverse
  | [], a, b => by
    show [a - b] = [0 - (b - a)]
    congr 1; omega
  | x :: l, a, b => by
    rw [List.reverse_cons, from_app, from_rev l x b, lastOr_app]
    show _ ++ [a - x] = (((x - a) :: riseFrom x (l ++ [b])).map fun x => 0 - x).reverse
    rw [List.map_cons, List.reverse_cons]
    congr 2; omega
theorem rise_row (m : List Int) : riseF false m = riseFrom 0 (m ++ [0]) := by
  rw [from_app]; rfl
theorem rise_ring (a : Int) (l : List Int) : riseF true (a :: l) = (a - lastOr a l) :: riseFrom a l := rfl
theorem rise_back (r : Bool) (m : List Int) (h : m ≠ []) : riseF r m.reverse = backF r ((riseF r m).map fun x => 0 - x) := by
  cases r
  · rw [rise_row, rise_row, from_rev]; rfl
  · cases m with
    | nil => exact absurd rfl h
    | cons a l =>
      rw [rise_ring, List.reverse_cons]
      have e1 : riseF true (l.reverse ++ [a]) = riseFrom a (l.reverse ++ [a]) := by
        show riseFrom (lastOr 0 (l.reverse ++ [a])) _ = _
        rw [lastOr_app]; rfl
      rw [e1, from_rev, from_app]
      show ((riseFrom a l ++ [a - lastOr a l]).map _).reverse = _
      rw [List.map_append, List.reverse_append]
      rfl
theorem more_back {hs gs : List Int} (h : gs.length = hs.length) : moreF hs.reverse gs.reverse = (moreF hs gs).reverse := by
  unfold moreF
  rw [← List.map_reverse]
  congr 1
  have : ∀ (a b : List Int), a.length = b.length → a.reverse.zip b.reverse = (a.zip b).reverse := by
    intro a
    induction a with
    | nil => intro b hb; cases b with
      | nil => rfl
      | cons => simp at hb
    | cons x a ih =>
      intro b hb
      cases b with
      | nil => simp at hb
      | cons y b =>
        have hb' : a.length = b.length := by simpa using hb
        rw [List.reverse_cons, List.reverse_cons, List.zip_append (by simpa using hb'), ih b hb']
        simp
  exact this _ _ h.symm
theorem back_len {α : Type} (b : Bool) (l : List α) : (backF b l).length = l.length := by
  unfold backF; split
  · simp; omega
  · simp
theorem zip_rev {α β : Type} : ∀ (a : List α) (b : List β), a.length = b.length → a.reverse.zip b.reverse = (a.zip b).reverse
  | [], [], _ => rfl
  | [], _ :: _, h => by simp at h
  | _ :: _, [], h => by simp at h
  | x :: a, y :: b, h => by
    have h' : a.length = b.length := by simpa using h
    rw [List.reverse_cons, List.reverse_cons, List.zip_append (by simpa using h'), zip_rev a b h']
    simp
theorem zip_back {α β : Type} (b : Bool) (x : List α) (y : List β) (h : x.length = y.length) : ((backF b x).zip (backF b y)).Perm (x.zip y) := by
  cases b
  · show (x.reverse.zip y.reverse).Perm _
    rw [zip_rev _ _ h]
    exact List.reverse_perm _
  · cases x with
    | nil => cases y with
      | nil => exact .refl _
      | cons => simp at h
    | cons u x => cases y with
      | nil => simp at h
      | cons v y =>
        have h' : x.length = y.length := by simpa using h
        show ((u :: x.reverse).zip (v :: y.reverse)).Perm _
        rw [List.zip_cons_cons, zip_rev _ _ h']
        exact (List.reverse_perm _).cons _
theorem AZ_neg (rs : List Int) (ps : List (Option Int)) : AZ (rs.map fun x => 0 - x) ps = AZ rs ps := by
  unfold AZ
  rw [List.zip_map_left, List.map_map]
  congr 1
  funext p
  show (absI (0 - p.1), p.2) = (absI p.1, p.2)
  rw [absI_neg]
theorem abs_neg_map (m : List Int) : (m.map fun x => 0 - x).map absI = m.map absI := by
  rw [List.map_map]
  congr 1
  funext x
  exact absI_neg x
theorem told_back {r : Bool} {hs gs : List Int} {ps : List (Option Int)} (t : TaskOk r hs gs ps) : toldF r hs.reverse gs.reverse (backF r ps) = toldF r hs gs ps := by
  have hm := more_ne t.land t.gl
  have hl : (riseF r (moreF hs gs)).length = ps.length := by rw [riseF_len, moreF_len t.gl, t.land.pl]
  have e := more_back t.gl
  have e2 := rise_back r _ hm
  have hl2 : ((riseF r (moreF hs gs)).map fun x => 0 - x).length = ps.length := by rw [List.length_map]; exact hl
  refine told_inv hm (by rw [e]; simpa using hm) hl (by rw [e, e2, back_len, back_len]; exact hl2) ?_ ?_
  · rw [e, e2, ← AZ_neg (riseF r (moreF hs gs)) ps]
    exact (zip_back r _ _ hl2).map _
  · rw [e, List.map_reverse]
    exact List.reverse_perm _
theorem rise_neg (r : Bool) (m : List Int) : riseF r (m.map fun x => 0 - x) = (riseF r m).map fun x => 0 - x := by
  have lo : ∀ (l : List Int) (a : Int), lastOr (0 - a) (l.map fun x => 0 - x) = 0 - lastOr a l := by
    intro l
    induction l with
    | nil => intro a; rfl
    | cons x l ih => intro a; exact ih x
  have fr : ∀ (l : List Int) (a : Int), riseFrom (0 - a) (l.map fun x => 0 - x) = (riseFrom a l).map fun x => 0 - x := by
    intro l
    induction l with
    | nil => intro a; rfl
    | cons x l ih =>
      intro a
      show (0 - x - (0 - a)) :: riseFrom (0 - x) (l.map fun x => 0 - x) = (0 - (x - a)) :: (riseFrom x l).map fun x => 0 - x
      rw [ih x]; congr 1; omega
  cases r
  · have e : (m.map fun x => 0 - x) ++ [0] = (m ++ [0]).map fun x : Int => 0 - x := by simp
    rw [rise_row, rise_row, e]
    exact fr _ 0
  · show riseFrom (lastOr (0 - 0) (m.map fun x => 0 - x)) (m.map fun x => 0 - x) = _
    rw [lo, fr]; rfl
theorem more_neg {hs gs : List Int} (c : Int) : moreF (hs.map fun x => c - x) (gs.map fun x => c - x) = (moreF hs gs).map fun x => 0 - x := by
  unfold moreF
  rw [List.zip_map, List.map_map, List.map_map]
  congr 1
  funext p
  show c - p.2 - (c - p.1) = 0 - (p.2 - p.1)
  omega
theorem more_shift {hs gs : List Int} (c : Int) : moreF (hs.map fun x => x + c) (gs.map fun x => x + c) = moreF hs gs := by
  unfold moreF
  rw [List.zip_map, List.map_map]
  congr 1
  funext p
  show p.2 + c - (p.1 + c) = p.2 - p.1
  omega
theorem told_shift {r : Bool} {hs gs : List Int} {ps : List (Option Int)} (c : Int) : toldF r (hs.map fun x => x + c) (gs.map fun x => x + c) ps = toldF r hs gs ps := by
  unfold toldF barredF costF fewF
  rw [more_shift]
theorem told_flip {r : Bool} {hs gs : List Int} {ps : List (Option Int)} (t : TaskOk r hs gs ps) (c : Int) : toldF r (hs.map fun x => c - x) (gs.map fun x => c - x) ps = toldF r hs gs ps := by
  have hm := more_ne t.land t.gl
  have hl : (riseF r (moreF hs gs)).length = ps.length := by rw [riseF_len, moreF_len t.gl, t.land.pl]
  refine told_inv hm (by rw [more_neg]; simpa using hm) hl (by rw [more_neg, rise_neg, List.length_map]; exact hl) ?_ ?_
  · rw [more_neg, rise_neg, AZ_neg]
  · rw [more_neg, abs_neg_map]
/-! ### turned -/
def turnF {α : Type} (k : Nat) (l : List α) : List α := l.drop k ++ l.take k
theorem rise_turn (m : List Int) (k : Nat) : riseF true (turnF k m) = turnF k (riseF true m) := by
  have key : ∀ u v : List Int, riseF true (v ++ u) = turnF u.length (riseF true (u ++ v)) := by
    intro u v
    by_cases hu : u = []
    · subst hu; simp [turnF]
    · by_cases hv : v = []
      · subst hv
        have hl : (riseF true (u ++ [])).length = u.length := by rw [riseF_len, List.append_nil]; rfl
        simp [turnF, ← hl]
      · have a : riseF true (u ++ v) = riseFrom (lastOr 0 v) u ++ riseFrom (lastOr 0 u) v := by
          show riseFrom (lastOr 0 (u ++ v)) (u ++ v) = _
          rw [lastOr_app, from_app, lastOr_ne v _ 0 hv, lastOr_ne u _ 0 hu]
        have b : riseF true (v ++ u) = riseFrom (lastOr 0 u) v ++ riseFrom (lastOr 0 v) u := by
          show riseFrom (lastOr 0 (v ++ u)) (v ++ u) = _
          rw [lastOr_app, from_app, lastOr_ne u _ 0 hu, lastOr_ne v _ 0 hv]
        have hl : (riseFrom (lastOr 0 v) u).length = u.length := riseFrom_len _ _
        rw [a, b]
        unfold turnF
        rw [← hl, List.drop_left, List.take_left]
  by_cases hk : k ≤ m.length
  · have e := key (m.take k) (m.drop k)
    rw [List.take_append_drop, List.length_take, Nat.min_eq_left hk] at e
    exact e
  · have hl : (riseF true m).length = m.length := by rw [riseF_len]; rfl
    unfold turnF
    rw [List.drop_of_length_le (by omega), List.take_of_length_le (by omega), List.drop_of_length_le (by omega), List.take_of_length_le (by omega)]
    rfl
theorem zip_turn {α β : Type} (k : Nat) (x : List α) (y : List β) (h : x.length = y.length) : (turnF k x).zip (turnF k y) = turnF k (x.zip y) := by
  have e1 : ∀ (k : Nat) (x : List α) (y : List β), (x.drop k).zip (y.drop k) = (x.zip y).drop k := by
    intro k
    induction k with
    | zero => intro x y; rfl
    | succ k ih =>
      intro x y
      cases x with
      | nil => simp
      | cons a x => cases y with
        | nil => simp
        | cons b y => simpa using ih x y
  have e2 : ∀ (k : Nat) (x : List α) (y : List β), (x.take k).zip (y.take k) = (x.zip y).take k := by
    intro k
    induction k with
    | zero => intro x y; rfl
    | succ k ih =>
      intro x y
      cases x with
      | nil => simp
      | cons a x => cases y with
        | nil => simp
        | cons b y => simpa using ih x y
  unfold turnF
  rw [List.zip_append (by simp [h]), e1, e2]
theorem turn_perm {α : Type} (k : Nat) (l : List α) : (turnF k l).Perm l := by
  unfold turnF
  exact (List.perm_append_comm).trans (by rw [List.take_append_drop])
theorem turn_len {α : Type} (k : Nat) (l : List α) : (turnF k l).length = l.length := (turn_perm k l).length_eq
theorem more_turn {hs gs : List Int} (k : Nat) (h : gs.length = hs.length) : moreF (turnF k hs) (turnF k gs) = turnF k (moreF hs gs) := by
  unfold moreF
  rw [zip_turn k _ _ h.symm]
  unfold turnF
  rw [List.map_append, List.map_drop, List.map_take]
theorem told_turn {hs gs : List Int} {ps : List (Option Int)} (t : TaskOk true hs gs ps) (k : Nat) : toldF true (turnF k hs) (turnF k gs) (turnF k ps) = toldF true hs gs ps := by
  have hm := more_ne t.land t.gl
  have hl : (riseF true (moreF hs gs)).length = ps.length := by rw [riseF_len, moreF_len t.gl, t.land.pl]
  have e := more_turn k t.gl
  have e2 := rise_turn (moreF hs gs) k
  refine told_inv hm (by rw [e]; intro z; have := turn_len k (moreF hs gs); rw [z] at this; exact hm (List.length_eq_zero_iff.mp this.symm)) hl (by rw [e, e2, turn_len, turn_len]; exact hl) ?_ ?_
  · rw [e, e2]
    unfold AZ
    rw [zip_turn k _ _ hl]
    exact (turn_perm k _).map _
  · rw [e]
    exact (turn_perm k _).map _
end LC
set_option linter.all false
set_option maxRecDepth 100000
set_option maxHeartbeats 4000000
namespace LC
open PySem L2 DL
theorem absI_cases (x : Int) : (0 ≤ x ∧ absI x = x) ∨ (x < 0 ∧ absI x = -x) := by unfold absI; split <;> omega
theorem var_le : ∀ (l : List Int) (x y : Int), y ∈ x :: l → absI (y - x) + absI (y - lastOr x l) ≤ ((riseFrom x l).map absI).sum
  | [], x, y, h => by
    have : y = x := by simpa using h
    subst this
    show absI (y - y) + absI (y - y) ≤ 0
    rcases absI_cases (y - y) with h | h <;> omega
  | z :: l, x, y, h => by
    show absI (y - x) + absI (y - lastOr z l) ≤ (((z - x) :: riseFrom z l).map absI).sum
    rw [List.map_cons, List.sum_cons]
    rcases List.mem_cons.mp h with h | h
    · subst h
      have := var_le l z z List.mem_cons_self
      rcases absI_cases (y - y) with a | a <;> rcases absI_cases (y - lastOr z l) with b | b <;> rcases absI_cases (z - y) with c | c <;> rcases absI_cases (z - z) with d | d <;> rcases absI_cases (z - lastOr z l) with e | e <;> omega
    · have := var_le l z y h
      rcases absI_cases (y - x) with a | a <;> rcases absI_cases (z - x) with c | c <;> rcases absI_cases (y - z) with d | d <;> omega
theorem AZ_cons (x : Int) (rs : List Int) (p : Option Int) (ps : List (Option Int)) : AZ (x :: rs) (p :: ps) = (absI x, p) :: AZ rs ps := rfl
theorem AZ_app {a b : List Int} {p q : List (Option Int)} (h : a.length = p.length) : AZ (a ++ b) (p ++ q) = AZ a p ++ AZ b q := by
  unfold AZ; rw [List.zip_append h, List.map_append]
theorem minP_le {ps : List (Option Int)} {p : Int} (h : some p ∈ ps) : minP ps ≤ p := by
  rw [minP_eq]
  have hm : p ∈ ps.filterMap id := List.mem_filterMap.mpr ⟨some p, h, rfl⟩
  cases hf : minI (ps.filterMap id) with
  | none =>
    cases hl : ps.filterMap id with
    | nil => rw [hl] at hm; cases hm
    | cons a l => rw [hl] at hf; simp [minI] at hf
  | some m => exact (minI_mem.mp hf).2 p hm
theorem minP_nonneg {ps : List (Option Int)} (h : ∀ p, some p ∈ ps → 1 ≤ p) : 0 ≤ minP ps := by
  rw [minP_eq]
  cases hf : minI (ps.filterMap id) with
  | none => exact Int.le_refl _
  | some m =>
    obtain ⟨o, h1, h2⟩ := List.mem_filterMap.mp (minI_mem.mp hf).1
    have h2' : o = some m := h2
    rw [h2'] at h1
    have := h m h1
    show 0 ≤ m
    omega
theorem told_cut {hs gs : List Int} {ps : List (Option Int)} (t : TaskOk true hs gs ps) {a b : Int} (h : toldF false hs gs (ps ++ ps.take 1) = some (a, b)) : ∃ c d, toldF true hs gs ps = some (c, d) ∧ c ≤ a := by
  have hm := more_ne t.land t.gl
  have hml := moreF_len t.gl
  have hpl : ps.length = hs.length := t.land.pl
  cases em : moreF hs gs with
  | nil => exact absurd em hm
  | cons x l =>
  cases ep : ps with
  | nil => rw [ep] at hpl; have := t.land.n2; simp at hpl; omega
  | cons p q =>
  have hlq : l.length = q.length := by
    rw [em, ← hpl, ep] at hml
    simpa using hml
  have hX : (riseFrom x l).length = q.length := by rw [riseFrom_len]; exact hlq
  have er : riseF true (x :: l) = (x - lastOr x l) :: riseFrom x l := rfl
  have ef : riseF false (x :: l) = x :: (riseFrom x l ++ [0 - lastOr x l]) := by
    show (x - 0) :: (riseFrom x l ++ [0 - lastOr x l]) = _
    rw [Int.sub_zero]
  have lr : (riseF true (x :: l)).length = (p :: q).length := by rw [er]; simp [hX]
  have lf : (riseF false (x :: l)).length = (p :: (q ++ [p])).length := by rw [ef]; simp [hX]
  rw [ep] at h
  have ecut : (p :: q) ++ (p :: q).take 1 = p :: (q ++ [p]) := rfl
  rw [ecut] at h
  unfold toldF at h ⊢
  have hb : barredF false hs gs (p :: (q ++ [p])) = false := by
    cases hb : barredF false hs gs (p :: (q ++ [p])) with
    | false => rfl
    | true => rw [hb] at h; simp at h
  rw [hb, if_neg (by simp)] at h
  have hb2 := hb
  unfold barredF at hb2
  rw [em, bad_AZ, ef, AZ_cons, AZ_app hX] at hb2
  simp only [List.any_cons, List.any_append, Bool.or_eq_false_iff, AZ] at hb2
  obtain ⟨⟨b1, b2, b3⟩, b4⟩ := hb2
  have b3' : (decide (absI (0 - lastOr x l) ≠ 0) && p.isNone) = false := by simpa using b3
  have b1' : (decide (absI x ≠ 0) && p.isNone) = false := b1
  -- the ring is not barred
  have hfen : fencesF (p :: q) = [] → fencesF (p :: (q ++ [p])) = [] := by
    rw [fences_nil, fences_nil]
    cases p with
    | none => intro z; simpa using z
    | some p => intro z; simp at z
  have hr : barredF true hs gs (p :: q) = false := by
    unfold barredF
    rw [em, bad_AZ, er, AZ_cons]
    simp only [List.any_cons, Bool.or_eq_false_iff, AZ]
    refine ⟨⟨?_, b2⟩, ?_⟩
    · cases p with
      | some p => simp
      | none =>
        simp [absI_0] at b1' b3'
        have : x - lastOr x l = 0 := by omega
        simp [this, absI_0]
    · rw [em] at *
      by_cases hf : fencesF (p :: q) = []
      · rw [hfen hf] at b4
        simpa [hf] using b4
      · simp [hf]
  rw [hr, if_neg (by simp)]
  refine ⟨_, _, rfl, ?_⟩
  have ha : a = costF false hs gs (p :: (q ++ [p])) := by cases h; rfl
  rw [ha]
  unfold costF
  rw [em]
  rw [tot_AZ lr, tot_AZ lf, er, ef, AZ_cons, AZ_cons, AZ_app hX]
  simp only [List.map_cons, List.sum_cons, List.map_append, sum_append']
  have z0 : ringsF false (x :: l) = 0 := rfl
  rw [z0]
  have eL : ((AZ [0 - lastOr x l] [p]).map fun p => p.1 * p.2.getD 0).sum = absI (lastOr x l) * p.getD 0 := by
    show absI (0 - lastOr x l) * p.getD 0 + 0 = _
    rw [absI_neg, Int.add_zero]
  rw [eL]
  have hp1 : ∀ v, some v ∈ p :: q → 1 ≤ v := fun v hv => (t.land.p0 v (by rw [ep]; exact hv)).1
  have hmin := minP_nonneg hp1
  have hp0 : 0 ≤ p.getD 0 := by
    cases p with
    | none => exact Int.le_refl _
    | some v => have := hp1 v List.mem_cons_self; show 0 ≤ v; omega
  have hB : 0 ≤ absI x + absI (lastOr x l) - absI (x - lastOr x l) := by
    rcases absI_cases x with a | a <;> rcases absI_cases (lastOr x l) with b | b <;> rcases absI_cases (x - lastOr x l) with c | c <;> omega
  have key : ringsF true (x :: l) * (2 * minP (p :: q)) ≤ (absI x + absI (lastOr x l) - absI (x - lastOr x l)) * p.getD 0 := by
    by_cases hR : ringsF true (x :: l) = 0
    · rw [hR, Int.zero_mul]
      exact Int.mul_nonneg hB hp0
    · have eR : ringsF true (x :: l) = max 0 (greatestF (x :: l) - pairsF (riseF true (x :: l))) := rfl
      obtain ⟨⟨y, hy, eg⟩, _⟩ := greatest_spec (m := x :: l) (by simp)
      have hv := var_le l x y hy
      have hpr := pairs_abs (riseF true (x :: l))
      rw [sum_rise (by simp), er, List.map_cons, List.sum_cons] at hpr
      rw [← er] at hpr
      have h2R : 2 * ringsF true (x :: l) ≤ absI x + absI (lastOr x l) - absI (x - lastOr x l) := by
        rw [eR, eg] at hR ⊢
        rcases absI_cases x with a | a <;> rcases absI_cases (lastOr x l) with b | b <;> rcases absI_cases y with c | c <;> rcases absI_cases (y - x) with d | d <;> rcases absI_cases (y - lastOr x l) with e | e <;> omega
      have hR0 : 0 < ringsF true (x :: l) := by rw [eR] at hR ⊢; omega
      have hx : x ≠ 0 := fun z => by
        subst z
        rcases absI_cases (0 : Int) with a | a <;> rcases absI_cases (lastOr 0 l) with b | b <;> rcases absI_cases (0 - lastOr 0 l) with c | c <;> omega
      cases p with
      | none => simp [absI_0, hx] at b1'
      | some v =>
        have hle := minP_le (ps := some v :: q) (p := v) List.mem_cons_self
        show _ ≤ _ * v
        calc ringsF true (x :: l) * (2 * minP (some v :: q)) = (2 * ringsF true (x :: l)) * minP (some v :: q) := by rw [← Int.mul_assoc, Int.mul_comm (ringsF true (x :: l)) 2]
          _ ≤ (absI x + absI (lastOr x l) - absI (x - lastOr x l)) * minP (some v :: q) := Int.mul_le_mul_of_nonneg_right h2R hmin
          _ ≤ _ := Int.mul_le_mul_of_nonneg_left hle hB
  rw [Int.sub_mul, Int.add_mul] at key
  omega
/-! ### dearer -/
def scale (k : Int) (ps : List (Option Int)) : List (Option Int) := ps.map fun p => p.map (· * k)
theorem scale_some (k : Int) : ∀ ps : List (Option Int), (scale k ps).filterMap id = (ps.filterMap id).map (· * k)
  | [] => rfl
  | none :: ps => scale_some k ps
  | some v :: ps => congrArg (v * k :: ·) (scale_some k ps)
theorem told_scale {r : Bool} {hs gs : List Int} {ps : List (Option Int)} (t : TaskOk r hs gs ps) {k : Int} (hk : 1 ≤ k) : toldF r hs gs (scale k ps) = (toldF r hs gs ps).map fun p => (p.1 * k, p.2) := by
  have hm := more_ne t.land t.gl
  have hl : (riseF r (moreF hs gs)).length = ps.length := by rw [riseF_len, moreF_len t.gl, t.land.pl]
  have hl2 : (riseF r (moreF hs gs)).length = (scale k ps).length := by unfold scale; rw [List.length_map]; exact hl
  have hz : AZ (riseF r (moreF hs gs)) (scale k ps) = (AZ (riseF r (moreF hs gs)) ps).map fun p => (p.1, p.2.map (· * k)) := by
    unfold AZ scale
    rw [List.zip_map_right, List.map_map, List.map_map]; rfl
  have e1 : badB (riseF r (moreF hs gs)) (scale k ps) = badB (riseF r (moreF hs gs)) ps := by
    rw [bad_AZ, bad_AZ, hz, List.any_map]
    congr 1
    funext p
    simp
  have e2 : totF (riseF r (moreF hs gs)) (scale k ps) = totF (riseF r (moreF hs gs)) ps * k := by
    rw [tot_AZ hl, tot_AZ hl2, hz]
    generalize AZ (riseF r (moreF hs gs)) ps = l
    induction l with
    | nil => simp
    | cons p l ih =>
      simp only [List.map_cons, List.sum_cons]
      rw [ih, Int.add_mul]
      congr 1
      cases p.2 with
      | none => simp
      | some v => show p.1 * (v * k) = p.1 * v * k; rw [Int.mul_assoc]
  have hfm : (scale k ps).filterMap id = (ps.filterMap id).map (· * k) := scale_some k ps
  have e4 : minP (scale k ps) = minP ps * k := by
    rw [minP_eq, minP_eq, hfm]
    cases hf : minI (ps.filterMap id) with
    | none =>
      have : ps.filterMap id = [] := by
        cases hq : ps.filterMap id with
        | nil => rfl
        | cons a l => rw [hq] at hf; simp [minI] at hf
      rw [this]; simp [minI]
    | some m =>
      obtain ⟨h1, h2⟩ := minI_mem.mp hf
      have : minI ((ps.filterMap id).map (· * k)) = some (m * k) := minI_mem.mpr ⟨List.mem_map.mpr ⟨m, h1, rfl⟩, fun y hy => by
        obtain ⟨z, hz, e⟩ := List.mem_map.mp hy
        rw [← e]
        exact Int.mul_le_mul_of_nonneg_right (h2 z hz) (by omega)⟩
      rw [this]; rfl
  have e5 : fencesF (scale k ps) = [] ↔ fencesF ps = [] := by
    rw [fences_nil, fences_nil, hfm]; simp
  unfold toldF
  have e6 : barredF r hs gs (scale k ps) = barredF r hs gs ps := by
    unfold barredF
    simp only [e1, e5]
  rw [e6]
  cases hb : barredF r hs gs ps with
  | true => rfl
  | false =>
    show some _ = some _
    congr 2
    unfold costF
    rw [e2, e4, Int.add_mul]
    congr 1
    rw [← Int.mul_assoc, ← Int.mul_assoc, ← Int.mul_assoc]
end LC
set_option linter.all false
set_option maxRecDepth 100000
set_option maxHeartbeats 4000000
namespace LC
open PySem L2 DL
/-! ### evaluation, the newer rules -/
@[simp] theorem ev_O2p (i : Nat) (h : List D → Option D) (g : EM) (ρ : DL.Env) : eO2p i h g ρ = match ρ[i]? with | some (some _) => ((g ρ).bind fun y ρ1 => match ρ1[i]? with | some (some d) => opt (h [d, y]) ρ1 | _ => .fail) | _ => .fail := rfl
@[simp] theorem ev_O2q (i : Nat) (h : List D → Option D) (f : EM) (ρ : DL.Env) : eO2q i h f ρ = (f ρ).bind fun x ρ1 => match ρ1[i]? with | some (some d) => opt (h [x, d]) ρ1 | _ => .fail := rfl
@[simp] theorem ev_O2pq (i j : Nat) (h : List D → Option D) (ρ : DL.Env) : eO2pq i j h ρ = match ρ[i]?, ρ[j]? with | some (some a), some (some b) => opt (h [a, b]) ρ | _, _ => .fail := rfl
@[simp] theorem ev_raise (n : Nat) (g : AM) (ρ : DL.Env) : sRaise n g ρ = match g ρ with | .ok ds ρ' => (if dupL ds && decide (ds.length = (fx n).length) then .exc ⟨n, ds.reverse⟩ ρ' else .fail) | .exc x ρ' => .exc x ρ' | .fail => .fail := rfl
@[simp] theorem ev_raise0 (n : Nat) (ρ : DL.Env) : sRaise0 n ρ = if fx n = [] then .exc ⟨n, []⟩ ρ else .fail := rfl
@[simp] theorem ev_kind (hd : Nat → List D → Option D) (b : EM) (ρ : DL.Env) : eKind hd b ρ = match b ρ with | .ok d ρ' => .ok d ρ' | .exc x ρ' => (if x.cls ∈ xcls ∧ noXL x.ds = true then match hd x.cls x.ds with | some z => .ok z ρ' | none => .fail else .fail) | .fail => .fail := rfl
/-! ### texts -/
theorem toNat_inj : ∀ {a b : Char}, a.toNat = b.toNat → a = b := fun {a b} h => by
  apply Char.ext
  exact UInt32.toNat_inj.mp h
theorem ofS_inj {a b : String} : Str.ofString a = Str.ofString b ↔ a = b := by
  constructor
  · intro h
    rw [Str.ofString_eq_toList, Str.ofString_eq_toList] at h
    have h1 := congrArg (fun x : Str => x.cps.toList) h
    simp only at h1
    have inj : ∀ x y : List Char, x.map Char.toNat = y.map Char.toNat → x = y := by
      intro x
      induction x with
      | nil => intro y e; cases y with | nil => rfl | cons _ _ => simp at e
      | cons c x ih =>
        intro y e
        cases y with
        | nil => simp at e
        | cons d y =>
          simp only [List.map_cons, List.cons.injEq] at e
          rw [toNat_inj e.1, ih y e.2]
    have h2 : a.toList = b.toList := inj _ _ h1
    exact String.toList_inj.mp h2
  · intro h; rw [h]
@[simp] theorem ofS_eq (a b : String) : (Str.ofString a = Str.ofString b) = (a = b) := propext ofS_inj
@[simp] theorem ofS_beq (a b : String) : (Str.ofString a == Str.ofString b) = decide (a = b) := by
  rw [Bool.eq_iff_iff]; simp
/-! ### kinds of refusals -/
theorem words_split : Txt.split (Str.ofString "BadLand BadGoal BadPaper BadWay NoWay Comes BadShape BadName NoPoint Halted BadText") (Str.ofString " ") = ["BadLand", "BadGoal", "BadPaper", "BadWay", "NoWay", "Comes", "BadShape", "BadName", "NoPoint", "Halted", "BadText"].map Str.ofString := by decide +kernel
theorem words_len : (Str.ofString "BadLand BadGoal BadPaper BadWay NoWay Comes BadShape BadName NoPoint Halted BadText").length + 2 ≤ 1000 := by decide +kernel
theorem blank_len : (Str.ofString " ").length = 1 := by decide +kernel
theorem dsplit_w : dSplit (.str (Str.ofString "BadLand BadGoal BadPaper BadWay NoWay Comes BadShape BadName NoPoint Halted BadText")) (.str (Str.ofString " ")) = some (.lst [.str (Str.ofString "BadLand"), .str (Str.ofString "BadGoal"), .str (Str.ofString "BadPaper"), .str (Str.ofString "BadWay"), .str (Str.ofString "NoWay"), .str (Str.ofString "Comes"), .str (Str.ofString "BadShape"), .str (Str.ofString "BadName"), .str (Str.ofString "NoPoint"), .str (Str.ofString "Halted"), .str (Str.ofString "BadText")]) := by
  have h1 : (Str.ofString " ").length ≠ 0 ∧ (Str.ofString "BadLand BadGoal BadPaper BadWay NoWay Comes BadShape BadName NoPoint Halted BadText").length + 2 ≤ sizeLine := ⟨by rw [blank_len]; decide, by rw [sizeLine_eq]; have := words_len; omega⟩
  show (if (Str.ofString " ").length ≠ 0 ∧ (Str.ofString "BadLand BadGoal BadPaper BadWay NoWay Comes BadShape BadName NoPoint Halted BadText").length + 2 ≤ sizeLine then some (D.lst ((Txt.split _ _).map D.str)) else none) = _
  rw [if_pos h1, words_split]
  rfl
@[simp] theorem ev_MtS (i : Nat) (t : String) (h : List D → Option D) (as : AM) (ρ : DL.Env) : eMtS i t h as ρ = match ρ[i]? with | some (some d0) => (if mtT d0 = t then (as ρ).bind fun ds ρ1 => match ρ1[i]? with | some (some d) => opt (h (d :: ds)) ρ1 | _ => .fail else .fail) | _ => .fail := rfl
@[simp] theorem ev_MtE (f : EM) (t : String) (h : List D → Option D) (as : AM) (ρ : DL.Env) : eMtE f t h as ρ = (f ρ).bind fun d ρ1 => if mtT d = t then (as ρ1).bind fun ds ρ2 => opt (h (d :: ds)) ρ2 else .fail := rfl
@[simp] theorem ev_xf (j n : Nat) (f : Str) (ρ : DL.Env) : eXf j n f ρ = match ρ[j]? with | some (some (.exn k ds)) => (if k = n then match (fx n).idxOf? f with | some i => (match ds[i]? with | some d => if dup d then .ok d ρ else .fail | none => .fail) | none => .fail else .fail) | _ => .fail := rfl
@[simp] theorem dup_exn (n : Nat) (ds : List D) : dup (.exn n ds) = true := rfl
@[simp] theorem isX_ref (n k m : Nat) (ds : List D) : dIsX n (.exn k ds) (.ref m) = if k = n ∧ m ∈ xcls then some (.bl (n == m)) else none := rfl
@[simp] theorem isX_ty (n k : Nat) (t : String) (ds : List D) : dIsX n (.exn k ds) (.ty t) = if k = n ∧ t = "ValueError" then some (.bl true) else none := rfl
@[simp] theorem mtT_lst (ds : List D) : mtT (.lst ds) = "list" := rfl
@[simp] theorem mtT_str (x : Str) : mtT (.str x) = "str" := rfl
@[simp] theorem noX_tup (ds : List D) : noX (.tup ds) = noXL ds := rfl
@[simp] theorem noX_str (x : Str) : noX (.str x) = true := rfl
@[simp] theorem noX_int (x : Int) : noX (.int x) = true := rfl
@[simp] theorem noXL_nil : noXL [] = true := rfl
@[simp] theorem noXL_cons (d : D) (ds : List D) : noXL (d :: ds) = (noX d && noXL ds) := rfl
@[simp] theorem at11_4 (a b c d e f g h i j k : D) : atI [a, b, c, d, e, f, g, h, i, j, k] 4 = some e := rfl
@[simp] theorem at11_5 (a b c d e f g h i j k : D) : atI [a, b, c, d, e, f, g, h, i, j, k] 5 = some f := rfl
@[simp] theorem at11_6 (a b c d e f g h i j k : D) : atI [a, b, c, d, e, f, g, h, i, j, k] 6 = some g := rfl
@[simp] theorem at11_7 (a b c d e f g h i j k : D) : atI [a, b, c, d, e, f, g, h, i, j, k] 7 = some h := rfl
@[simp] theorem at11_8 (a b c d e f g h i j k : D) : atI [a, b, c, d, e, f, g, h, i, j, k] 8 = some i := rfl
@[simp] theorem at11_9 (a b c d e f g h i j k : D) : atI [a, b, c, d, e, f, g, h, i, j, k] 9 = some j := rfl
@[simp] theorem at11_10 (a b c d e f g h i j k : D) : atI [a, b, c, d, e, f, g, h, i, j, k] 10 = some k := rfl
theorem kind11 (p k : Int) : hd__law_kind 11 [.int k, .int p] = some (.tup [.str (Str.ofString "BadLand"), .int p, .int k]) := by
  unfold hd__law_kind hdOf startX h__law_kind
  simp [dsplit_w, xcls, dNeF, dEqF, dCount, dBls, cntB, litms, flD, fV, scal, sizeLine_eq, mtT, dIndex, idxV, eqV, dIn, inF, itms, inV, fx, List.idxOf?, List.findIdx?, List.findIdx?.go]
theorem kind12 (k : Int) : hd__law_kind 12 [.int k] = some (.tup [.str (Str.ofString "BadGoal"), .int k]) := by
  unfold hd__law_kind hdOf startX h__law_kind
  simp [dsplit_w, xcls, dNeF, dEqF, dCount, dBls, cntB, litms, flD, fV, scal, sizeLine_eq, mtT, dIndex, idxV, eqV, dIn, inF, itms, inV, fx, List.idxOf?, List.findIdx?, List.findIdx?.go]
theorem kind13 (k : Int) : hd__law_kind 13 [.int k] = some (.tup [.str (Str.ofString "BadPaper"), .int k]) := by
  unfold hd__law_kind hdOf startX h__law_kind
  simp [dsplit_w, xcls, dNeF, dEqF, dCount, dBls, cntB, litms, flD, fV, scal, sizeLine_eq, mtT, dIndex, idxV, eqV, dIn, inF, itms, inV, fx, List.idxOf?, List.findIdx?, List.findIdx?.go]
theorem kind14 (w : Str) (k : Int) : hd__law_kind 14 [.str w, .int k] = some (.tup [.str (Str.ofString "BadWay"), .int k, .str w]) := by
  unfold hd__law_kind hdOf startX h__law_kind
  simp [dsplit_w, xcls, dNeF, dEqF, dCount, dBls, cntB, litms, flD, fV, scal, sizeLine_eq, mtT, dIndex, idxV, eqV, dIn, inF, itms, inV, fx, List.idxOf?, List.findIdx?, List.findIdx?.go]
theorem kind15  : hd__law_kind 15 [] = some (.str (Str.ofString "NoWay")) := by
  unfold hd__law_kind hdOf startX h__law_kind
  simp [dsplit_w, xcls, dNeF, dEqF, dCount, dBls, cntB, litms, flD, fV, scal, sizeLine_eq, mtT, dIndex, idxV, eqV, dIn, inF, itms, inV, fx, List.idxOf?, List.findIdx?, List.findIdx?.go]
theorem kind16  : hd__law_kind 16 [] = some (.str (Str.ofString "Comes")) := by
  unfold hd__law_kind hdOf startX h__law_kind
  simp [dsplit_w, xcls, dNeF, dEqF, dCount, dBls, cntB, litms, flD, fV, scal, sizeLine_eq, mtT, dIndex, idxV, eqV, dIn, inF, itms, inV, fx, List.idxOf?, List.findIdx?, List.findIdx?.go]
theorem kind17  : hd__law_kind 17 [] = some (.str (Str.ofString "BadShape")) := by
  unfold hd__law_kind hdOf startX h__law_kind
  simp [dsplit_w, xcls, dNeF, dEqF, dCount, dBls, cntB, litms, flD, fV, scal, sizeLine_eq, mtT, dIndex, idxV, eqV, dIn, inF, itms, inV, fx, List.idxOf?, List.findIdx?, List.findIdx?.go]
theorem kind18  : hd__law_kind 18 [] = some (.str (Str.ofString "BadName")) := by
  unfold hd__law_kind hdOf startX h__law_kind
  simp [dsplit_w, xcls, dNeF, dEqF, dCount, dBls, cntB, litms, flD, fV, scal, sizeLine_eq, mtT, dIndex, idxV, eqV, dIn, inF, itms, inV, fx, List.idxOf?, List.findIdx?, List.findIdx?.go]
theorem kind19  : hd__law_kind 19 [] = some (.str (Str.ofString "NoPoint")) := by
  unfold hd__law_kind hdOf startX h__law_kind
  simp [dsplit_w, xcls, dNeF, dEqF, dCount, dBls, cntB, litms, flD, fV, scal, sizeLine_eq, mtT, dIndex, idxV, eqV, dIn, inF, itms, inV, fx, List.idxOf?, List.findIdx?, List.findIdx?.go]
theorem kind20 (d k : Int) : hd__law_kind 20 [.int d, .int k] = some (.tup [.str (Str.ofString "Halted"), .int k, .int d]) := by
  unfold hd__law_kind hdOf startX h__law_kind
  simp [dsplit_w, xcls, dNeF, dEqF, dCount, dBls, cntB, litms, flD, fV, scal, sizeLine_eq, mtT, dIndex, idxV, eqV, dIn, inF, itms, inV, fx, List.idxOf?, List.findIdx?, List.findIdx?.go]
theorem kind21 (k : Int) : hd__law_kind 21 [.int k] = some (.tup [.str (Str.ofString "BadText"), .int k]) := by
  unfold hd__law_kind hdOf startX h__law_kind
  simp [dsplit_w, xcls, dNeF, dEqF, dCount, dBls, cntB, litms, flD, fV, scal, sizeLine_eq, mtT, dIndex, idxV, eqV, dIn, inF, itms, inV, fx, List.idxOf?, List.findIdx?, List.findIdx?.go]
end LC
set_option linter.all false
set_option maxRecDepth 100000
set_option maxHeartbeats 4000000
namespace LC
open PySem L2 DL
/-! ### comparing -/
/-- a thing that == may look at -/
def okN (n : Nat) (d : D) : Prop := ∃ x, pd d = some x ∧ x.canLay0 = true ∧ x.depth ≤ n
def eqvD (a b : D) : Bool := match pd a, pd b with
  | some x, some y => PyData.eqv x y
  | _, _ => false
theorem shaped_ok {n : Nat} {x : PyData} (h1 : x.canLay0 = true) (h2 : x.depth ≤ n) (hn : n ≤ 64) : SeqAt.shaped x = true := by
  unfold SeqAt.shaped
  rw [h1]
  simp
  omega
theorem eq_ok {n m : Nat} {a b : D} (ha : okN n a) (hb : okN m b) (hn : n ≤ 64 := by decide) (hm : m ≤ 64 := by decide) : dEq a b = some (.bl (eqvD a b)) := by
  obtain ⟨x, e1, c1, d1⟩ := ha
  obtain ⟨y, e2, c2, d2⟩ := hb
  simp [dEq, eqD, eqvD, e1, e2, shaped_ok c1 d1 hn, shaped_ok c2 d2 hm]
theorem ne_ok {n m : Nat} {a b : D} (ha : okN n a) (hb : okN m b) (hn : n ≤ 64 := by decide) (hm : m ≤ 64 := by decide) : dNe a b = some (.bl (!eqvD a b)) := by
  obtain ⟨x, e1, c1, d1⟩ := ha
  obtain ⟨y, e2, c2, d2⟩ := hb
  simp [dNe, eqD, eqvD, e1, e2, shaped_ok c1 d1 hn, shaped_ok c2 d2 hm]
theorem ok_non {n : Nat} : okN n .non := ⟨_, rfl, rfl, Nat.zero_le _⟩
theorem ok_bl {n : Nat} {b : Bool} : okN n (.bl b) := ⟨_, rfl, rfl, Nat.zero_le _⟩
theorem ok_int {n : Nat} {i : Int} : okN n (.int i) := ⟨_, rfl, rfl, Nat.zero_le _⟩
theorem ok_str {n : Nat} {x : Str} (h : PyData.canLay0 (.str x) = true) : okN n (.str x) := ⟨_, rfl, h, Nat.zero_le _⟩
theorem okL {n : Nat} : ∀ {ds : List D}, (∀ d ∈ ds, okN n d) → ∃ xs, pdL ds = some xs ∧ PyData.canLayAll0 xs = true ∧ PyData.depthAll xs ≤ n
  | [], _ => ⟨[], rfl, rfl, Nat.zero_le _⟩
  | d :: ds, h => by
    obtain ⟨x, e1, c1, d1⟩ := h d List.mem_cons_self
    obtain ⟨xs, e2, c2, d2⟩ := okL (ds := ds) fun a ha => h a (List.mem_cons_of_mem _ ha)
    refine ⟨x :: xs, by simp [pdL, e1, e2], by simp [PyData.canLayAll0, c1, c2], by simp only [PyData.depthAll]; omega⟩
theorem ok_tup {n : Nat} {ds : List D} (h : ∀ d ∈ ds, okN n d) : okN (n + 1) (.tup ds) := by
  obtain ⟨xs, e, c, d⟩ := okL h
  exact ⟨.tuple xs, by simp [pd, e], by simp [PyData.canLay0, c], by simp only [PyData.depth]; omega⟩
theorem ok_lst {n : Nat} {ds : List D} (h : ∀ d ∈ ds, okN n d) : okN (n + 1) (.lst ds) := by
  obtain ⟨xs, e, c, d⟩ := okL h
  exact ⟨.list xs, by simp [pd, e], by simp [PyData.canLay0, c], by simp only [PyData.depth]; omega⟩
theorem ok_fls {n : Nat} {ds : List D} (h : ∀ d ∈ ds, okN n d) : okN (n + 1) (.fls ds) := by
  obtain ⟨xs, e, c, d⟩ := okL h
  exact ⟨.list xs, by simp [pd, e], by simp [PyData.canLay0, c], by simp only [PyData.depth]; omega⟩
theorem ok_mono {n m : Nat} {d : D} (h : okN n d) (k : n ≤ m) : okN m d := by
  obtain ⟨x, a, b, c⟩ := h
  exact ⟨x, a, b, Nat.le_trans c k⟩
theorem ok_ints {n : Nat} {l : List Int} : ∀ d ∈ l.map D.int, okN n d := fun d hd => by
  obtain ⟨i, _, e⟩ := List.mem_map.mp hd
  rw [← e]; exact ok_int
mutual
theorem eqv_refl : ∀ (x : PyData), x.canLay0 = true → PyData.eqv x x = true
  | .none, _ => rfl
  | .bool _, _ => by simp [PyData.eqv]
  | .int _, _ => by simp [PyData.eqv]
  | .str _, _ => by simp [PyData.eqv]
  | .list xs, h => by simp only [PyData.eqv]; exact eqvAll_refl xs (by simpa [PyData.canLay0] using h)
  | .tuple xs, h => by simp only [PyData.eqv]; exact eqvAll_refl xs (by simpa [PyData.canLay0] using h)
  | .dict _, h => by simp [PyData.canLay0] at h
theorem eqvAll_refl : ∀ (xs : List PyData), PyData.canLayAll0 xs = true → PyData.eqvAll xs xs = true
  | [], _ => rfl
  | x :: xs, h => by
    obtain ⟨h1, h2⟩ := Bool.and_eq_true_iff.mp (by simpa [PyData.canLayAll0] using h : (x.canLay0 && PyData.canLayAll0 xs) = true)
    simp [PyData.eqvAll, eqv_refl x h1, eqvAll_refl xs h2]
end
theorem eqvD_refl {n : Nat} {a : D} (h : okN n a) : eqvD a a = true := by
  obtain ⟨x, e, c, _⟩ := h
  simp [eqvD, e, eqv_refl x c]
/-! ### what first_wrong tells -/
/-- the first that is too much, or not good -/
def badAt (good : D → Bool) (most : Int) : Nat → List D → Option Nat
  | _, [] => none
  | k, d :: ds => if (k : Int) = most ∨ good d = false then some k else badAt good most (k + 1) ds
def wrongF (good : D → Bool) (least most : Int) : D → D
  | .tup ds => match badAt good most 0 ds with
    | some k => .int k
    | none => if (ds.length : Int) < least then .int ds.length else .non
  | _ => .int 0
theorem forL_nx {st : D → SM} {d : D} {ds : List D} {ρ ρ1 : DL.Env} (h : st d ρ = .nx ρ1) : forL st (d :: ds) ρ = forL st ds ρ1 := by
  rw [forL, h]
theorem forL_rt {st : D → SM} {d z : D} {ds : List D} {ρ ρ1 : DL.Env} (h : st d ρ = .rt z ρ1) : forL st (d :: ds) ρ = .rt z ρ1 := by
  rw [forL, h]
theorem fw_loop {good : D → Bool} {G : List D → FR} {tb : Nat → Option (List D → FR)} {n : Nat} {a0 a1 : D} {most : Int} (ht : tb n = some G) : ∀ (ds : List D) (k : Nat) (o1 o2 : Option D), (∀ d ∈ ds, dup d = true ∧ G [d] = .ok (.bl (good d)) []) → dup a0 = true →
    ∃ p1 p2, forL (turnS (tgT 2 (tgCons (tgN 4) (tgCons (tgN 5) tgNil))) (sIf (eOr (eO2 (DL.d2 dEq) (eV 4) (eV 2)) (eNot (eCallV 3 [false] tb (cVal (eV 5) cNil)))) (sRet (eV 4)) sNx)) (enumF k ds) [some a0, some a1, some (.int most), some (.ref n), o1, o2] =
      match badAt good most k ds with
      | some j => .rt (.int j) [some a0, some a1, some (.int most), some (.ref n), p1, p2]
      | none => .nx [some a0, some a1, some (.int most), some (.ref n), p1, p2]
  | [], k, o1, o2, _, _ => ⟨o1, o2, rfl⟩
  | d :: ds, k, o1, o2, h, h0 => by
    obtain ⟨hd, hg⟩ := h d List.mem_cons_self
    obtain ⟨p1, p2, ih⟩ := fw_loop ht ds (k + 1) (some (.int (k : Int))) (some d) (fun x hx => h x (List.mem_cons_of_mem _ hx)) h0
    by_cases hm : (k : Int) = most
    · refine ⟨some (.int (k : Int)), some d, ?_⟩
      have e : badAt good most k (d :: ds) = some k := by simp [badAt, hm]
      rw [e]
      unfold enumF forL
      simp [hm]
    · cases hgd : good d with
      | false =>
        refine ⟨some (.int (k : Int)), some d, ?_⟩
        have e : badAt good most k (d :: ds) = some k := by simp [badAt, hgd]
        rw [e]
        unfold enumF forL
        simp [hm, ht, hd, hg, hgd]
      | true =>
        refine ⟨p1, p2, ?_⟩
        have e : badAt good most k (d :: ds) = badAt good most (k + 1) ds := by simp [badAt, hm, hgd]
        rw [e, ← ih]
        exact forL_nx (by simp [hm, ht, hd, hg, hgd])
theorem fw_tup {good : D → Bool} {G : List D → FR} {tb : Nat → Option (List D → FR)} {n : Nat} {ds : List D} {least most : Int} (ht : tb n = some G) (h : ∀ d ∈ ds, dup d = true ∧ G [d] = .ok (.bl (good d)) []) (hd : dupL ds = true) :
    G_first_wrong tb [.tup ds, .int least, .int most, .ref n] = .ok (wrongF good least most (.tup ds)) [] := by
  obtain ⟨p1, p2, e⟩ := fw_loop (a0 := .tup ds) (a1 := .int least) (most := most) ht ds 0 none none h (by simpa using hd)
  cases hb : badAt good most 0 ds with
  | some j =>
    rw [hb] at e
    have ew : wrongF good least most (.tup ds) = .int j := by simp [wrongF, hb]
    rw [ew]
    exact run_rt (seq_nx (by simp [hd]; rfl) (seq_rt (by simp [hd]; rw [e]))) (by simp)
  | none =>
    rw [hb] at e
    by_cases hl : (ds.length : Int) < least
    · have ew : wrongF good least most (.tup ds) = .int ds.length := by simp [wrongF, hb, hl]
      rw [ew]
      exact run_rt (seq_nx (by simp [hd]; rfl) (seq_nx (by simp [hd]; rw [e]) (by simp [hd, hl]; rfl))) (by simp)
    · have ew : wrongF good least most (.tup ds) = .non := by simp [wrongF, hb, hl]
      rw [ew]
      exact run_rt (seq_nx (by simp [hd]; rfl) (seq_nx (by simp [hd]; rw [e]) (by simp [hd, hl]; rfl))) (by simp)
/-- no tuple -/
def notTup : D → Bool
  | .tup _ => false
  | d => (tyD d).isSome
theorem isi_not {d : D} (h : notTup d = true) : dIsi d (.ty "tuple") = some (.bl false) := by
  cases d <;> first | (cases h; done) | rfl
theorem fw_not {tb : Nat → Option (List D → FR)} {n : Nat} {d : D} {least most : Int} (h : notTup d = true) (hd : dup d = true) : G_first_wrong tb [d, .int least, .int most, .ref n] = .ok (.int 0) [] := by
  have e := isi_not h
  refine run_rt (seq_rt ?_) (ρ' := [some d, some (.int least), some (.int most), some (.ref n), none, none]) (by simp)
  simp [hd, e]
theorem wrong_not {good : D → Bool} {least most : Int} {d : D} (h : notTup d = true) : wrongF good least most d = .int 0 := by
  cases d <;> first | (cases h; done) | rfl
/-! ### heights, prices -/
def isH : D → Bool
  | .int i => decide (0 ≤ i) && decide (i ≤ 999)
  | _ => false
def isP : D → Bool
  | .non => true
  | .int i => decide (1 ≤ i) && decide (i ≤ 99)
  | _ => false
theorem is_height_any {d : D} (h : (tyD d).isSome = true) (hd : dup d = true) : G_is_height [d] = .ok (.bl (isH d)) [] := by
  cases d <;> first | (cases h; done) | (cases hd; done) | skip
  · rfl
  · rfl
  · rename_i i
    by_cases h1 : 0 ≤ i <;> by_cases h2 : i ≤ 999 <;> simp [G_is_height, b_is_height, G_is_number, b_is_number, isH, h1, h2]
  · rfl
  · simp [G_is_height, b_is_height, G_is_number, b_is_number, isH, hd, dIsi, tyD, bNms, subTy]
  · simp [G_is_height, b_is_height, G_is_number, b_is_number, isH, hd, dIsi, tyD, bNms, subTy]
theorem is_price_any {d : D} (h : (tyD d).isSome = true) (hd : dup d = true) : G_is_price [d] = .ok (.bl (isP d)) [] := by
  cases d <;> first | (cases h; done) | (cases hd; done) | skip
  · rfl
  · rfl
  · rename_i i
    by_cases h1 : 1 ≤ i <;> by_cases h2 : i ≤ 99 <;> simp [G_is_price, b_is_price, G_is_number, b_is_number, isP, h1, h2]
  · rfl
  · simp [G_is_price, b_is_price, G_is_number, b_is_number, isP, hd, dIsi, tyD, bNms, subTy]
  · simp [G_is_price, b_is_price, G_is_number, b_is_number, isP, hd, dIsi, tyD, bNms, subTy]
end LC
set_option linter.all false
set_option maxRecDepth 100000
set_option maxHeartbeats 4000000
namespace LC
open PySem L2 DL
/-- what may be handed in as a goal: a tuple of things without a list inside, or such a thing -/
def GoalD (g : D) : Prop := (∃ ds, g = .tup ds ∧ (∀ d ∈ ds, (tyD d).isSome = true ∧ dup d = true) ∧ dupL ds = true) ∨ (notTup g = true ∧ dup g = true)
theorem GoalD.dup {g : D} (h : GoalD g) : DL.dup g = true := by
  rcases h with ⟨ds, rfl, _, h⟩ | ⟨_, h⟩
  · exact h
  · exact h
theorem fw_goal {g : D} (h : GoalD g) (least most : Int) : G_first_wrong tb_is_height [g, .int least, .int most, .ref 43] = .ok (wrongF isH least most g) [] := by
  rcases h with ⟨ds, rfl, h, hd⟩ | ⟨hn, hd⟩
  · exact fw_tup (good := isH) rfl (fun d hx => ⟨(h d hx).2, is_height_any (h d hx).1 (h d hx).2⟩) hd
  · rw [wrong_not hn]; exact fw_not hn hd
theorem fw_prices {g : D} (h : GoalD g) (least most : Int) : G_first_wrong tb_is_price [g, .int least, .int most, .ref 44] = .ok (wrongF isP least most g) [] := by
  rcases h with ⟨ds, rfl, h, hd⟩ | ⟨hn, hd⟩
  · exact fw_tup (good := isP) rfl (fun d hx => ⟨(h d hx).2, is_price_any (h d hx).1 (h d hx).2⟩) hd
  · rw [wrong_not hn]; exact fw_not hn hd
theorem need_goal_bad {r : Bool} {hs : List Int} {ps : List (Option Int)} {g : D} {k : Int} (h : GoalD g) (hw : wrongF isH hs.length hs.length g = .int k) : G_need_goal [landD r hs ps, g] = .exc ⟨12, [.int k]⟩ [] := by
  have e := fw_goal h hs.length hs.length
  rw [hw] at e
  simp [G_need_goal, b_need_goal, landD, e, h.dup, fx]
theorem rises_bad {r : Bool} {hs : List Int} {ps : List (Option Int)} {g : D} {k : Int} (lo : LandOk r hs ps) (h : GoalD g) (hw : wrongF isH hs.length hs.length g = .int k) : G_rises [landD r hs ps, g] = .exc ⟨12, [.int k]⟩ [] := by
  have hld : dup (landD r hs ps) = true := by simp [landD]
  simp [G_rises, b_rises, hld, need_land_ok lo, need_goal_bad h hw, h.dup]
theorem rises_good {r : Bool} {hs gs : List Int} {ps : List (Option Int)} (lo : LandOk r hs ps) (hl : gs.length = hs.length) (hg : ∀ g ∈ gs, 0 ≤ g ∧ g ≤ 999) : G_rises [landD r hs ps, .tup (gs.map D.int)] = .ok (.lst ((riseF r (moreF hs gs)).map D.int)) [] := by
  have hld : dup (landD r hs ps) = true := by simp [landD]
  have hne := more_ne lo hl
  have h12 : (moreF hs gs).length ≤ 12 := by rw [moreF_len hl]; exact lo.n12
  have e1 := differences_ok lo.n12 hl
  have e2 := rises_ok (r := r) hne h12
  have e3 := need_goal_ok (r := r) (ps := ps) hl hg
  simp [G_rises, b_rises, hld, need_land_ok lo, e3]
  simp [landD, e1, e2, frzOk, frzOkL, freeze, freezeL]
theorem ring_only {g : D} (hd : dup g = true) : G_rises [.tup [.str (Str.ofString "ring")], g] = .exc ⟨11, [.int 0, .int (-1)]⟩ [] := by
  simp [G_rises, b_rises, G_need_land, b_need_land, hd, fx]
end LC
set_option linter.all false
set_option maxRecDepth 100000
set_option maxHeartbeats 4000000
namespace LC
open PySem L2 DL
/-! ### _law_same -/
theorem ix_itms {f : D} {ds : List D} {i : Nat} {x : D} (h : itms f = some ds) (hx : ds[i]? = some x) (hd : dup x = true) : dIx f (.int (i : Int)) = some x := by
  have e : atI ds (i : Int) = some x := at_nat (by omega) (by simpa using hx)
  cases f <;> first | (cases h; done) | skip
  all_goals
    cases h
    simp [e, hd]
def seqB : D → Bool
  | .tup _ => true
  | .lst _ => true
  | .fls _ => true
  | _ => false
theorem same_seq {n : Nat} {f d : D} {ds es : List D} (hf : itms f = some ds) (he : itms d = some es) (hk : tyD f = tyD d) (hl : ds.length = es.length) (hn : es.length ≤ 100000) (hde : dup d = true) (hdf : dupL ds = true) (hds : dupL es = true)
    (h : ∀ (i : Nat) (x y : D), ds[i]? = some x → es[i]? = some y → GR__law_same n [x, y] = .ok (.bl true) [x]) : GR__law_same (n + 1) [f, d] = .ok (.bl true) [f] := by
  have h1 : dIsT ["tuple", "list"] d = some (.bl true) := by cases d <;> first | (cases he; done) | rfl
  have h2 : dIsT ["tuple", "list"] f = some (.bl true) := by cases f <;> first | (cases hf; done) | rfl
  obtain ⟨b, h3⟩ : ∃ b, dIsi d (.ty "list") = some (.bl b) := by cases d <;> first | (cases he; done) | exact ⟨_, rfl⟩
  have h4 : dIsi f (.ty "list") = some (.bl b) := by
    rw [← h3]
    show (match tyD f with | some t => if bNms.contains "list" then some (D.bl (subTy t "list")) else none | none => none) = match tyD d with | some t => if bNms.contains "list" then some (D.bl (subTy t "list")) else none | none => none
    rw [hk]
  obtain ⟨m, hm⟩ : ∃ m : Int, m = (es.length : Int) := ⟨_, rfl⟩
  have hm2 : m.toNat = es.length := by omega
  have h5 : dLen f = some (.int m) := by
    rw [hm]
    cases f <;> first | (cases hf; done) | (cases hf; simp [hl])
  have h6 : dLen d = some (.int m) := by
    rw [hm]
    cases d <;> first | (cases he; done) | (cases he; simp)
  have hb : dNe (.bl b) (.bl b) = some (.bl false) := by rw [ne_ok (n := 0) (m := 0) ok_bl ok_bl, eqvD_refl (n := 0) ok_bl]; rfl
  have hlc := lcL_det (t := tgN 3) (c := eNot (eCall [true, false] (GR__law_same n) (cVal (eO2p 0 (DL.d2 dIx) (eV 3)) (cVal (eO2 (DL.d2 dIx) (eV 1) (eV 3)) cNil)))) (e := eV 3) (vs := [3]) (ρ := [some f, some d, none, none]) (fun i : Nat => D.int (i : Int)) (fun _ => false) (fun _ => D.non) (List.range m.toNat) []
    (fun i hi => by
      have hi : i < es.length := by have := List.mem_range.mp hi; omega
      obtain ⟨x, ex⟩ : ∃ x, ds[i]? = some x := ⟨ds[i], List.getElem?_eq_getElem (by omega)⟩
      obtain ⟨y, ey⟩ : ∃ y, es[i]? = some y := ⟨es[i], List.getElem?_eq_getElem hi⟩
      have g1 := ix_itms hf ex (dupL_get hdf ex)
      have g2 := ix_itms he ey (dupL_get hds ey)
      have g3 := h i x y ex ey
      refine ⟨[some f, some d, none, some (.int (i : Int))], [some f, some d, none, some (.int (i : Int))], rfl, ?_, (fun z => Bool.noConfusion z), fun _ => rfl⟩
      simp [g1, g2, g3, hde]) (by simp [sizeLine_eq]; omega)
  have hz : dEq (.lst []) (.lst []) = some (.bl true) := by rw [eq_ok (n := 1) (m := 1) (ok_lst (fun _ z => absurd z List.not_mem_nil)) (ok_lst (fun _ z => absurd z List.not_mem_nil)), eqvD_refl (n := 1) (ok_lst (fun _ z => absurd z List.not_mem_nil))]
  have hs : small62 m = true := small_of (by omega) (by omega)
  clear hm hm2 hl hn
  refine run_rt (ρ' := [some f, some d, none, none]) (d := .bl true) (outs := [f]) ?_ (by simp)
  show bR__law_same (GR__law_same n) [some f, some d, none, none] = _
  unfold bR__law_same
  refine seq_rt ?_
  have hfl : (List.range m.toNat).filter (fun _ => false) = [] := List.filter_eq_nil_iff.mpr fun _ _ => Bool.false_ne_true
  rw [hfl] at hlc
  simp only [List.map_nil, List.append_nil] at hlc
  simp [h1, h2, h3, h4, h5, h6, hb, hde, hs, hlc, hz, freeL, sizeLine_eq]
theorem same_flat {n : Nat} {d : D} (hd : flD d = true) (ho : okN 0 d) : GR__law_same (n + 1) [d, d] = .ok (.bl true) [d] := by
  have h1 : dIsT ["tuple", "list"] d = some (.bl false) := by cases d <;> first | (cases hd; done) | rfl
  have hdup : dup d = true := by cases d <;> first | (cases hd; done) | rfl
  obtain ⟨b, h3⟩ : ∃ b, dIsi d (.ty "bool") = some (.bl b) := by cases d <;> first | (cases hd; done) | exact ⟨_, rfl⟩
  obtain ⟨c, h4⟩ : ∃ b, dIsi d (.ty "int") = some (.bl b) := by cases d <;> first | (cases hd; done) | exact ⟨_, rfl⟩
  have hb : ∀ b, dEq (.bl b) (.bl b) = some (.bl true) := fun b => by rw [eq_ok (n := 0) (m := 0) ok_bl ok_bl, eqvD_refl (n := 0) ok_bl]
  have he : dEq d d = some (.bl true) := by rw [eq_ok ho ho, eqvD_refl ho]
  refine run_rt (ρ' := [some d, some d, some (.bl true), none]) (d := .bl true) (outs := [d]) ?_ (by simp)
  show bR__law_same (GR__law_same n) [some d, some d, none, none] = _
  unfold bR__law_same
  simp [h1, h3, h4, hb, he, hdup]
theorem same_ints {f : D} {l : List Int} (hf : f = .lst (l.map D.int) ∨ f = .fls (l.map D.int)) (hl : l.length ≤ 1000) : G__law_same [f, .fls (l.map D.int)] = .ok (.bl true) [f] := by
  have hi : itms f = some (l.map D.int) := by rcases hf with rfl | rfl <;> rfl
  have hk : tyD f = tyD (.fls (l.map D.int)) := by rcases hf with rfl | rfl <;> rfl
  have hd : dupL (l.map D.int) = true := dupL_map D.int (fun _ => rfl) l
  refine same_seq (n := 5) hi rfl hk rfl (by simp; omega) hd hd hd fun i x y hx hy => ?_
  rw [hx] at hy; cases hy
  obtain ⟨k, _, e⟩ := List.mem_map.mp (List.mem_of_getElem? hx)
  rw [← e]
  exact same_flat rfl ok_int
end LC
set_option linter.all false
set_option maxRecDepth 100000
set_option maxHeartbeats 4000000
namespace LC
open PySem L2 DL
/-! ### a law whose loop only draws on: its turns one by one -/
/-- one turn keeps the state, the free slots fr (counted behind the state) -/
def TurnOk (body : SM) (m : Nat) (fr : List Nat) : Prop := ∀ (sc d : D) (os : List (Option D)) (ii : Nat), StOk d → os.length = m → (∀ i ∈ fr, os[i]? = some none) →
  ∃ d' os', turnS (tgN 2) body (.int (ii : Int)) (some sc :: some d :: os) = .nx (some sc :: some d' :: os') ∧ StOk d' ∧ os'.length = m ∧ ∀ i ∈ fr, os'[i]? = some none
theorem turns_ok {body : SM} {m : Nat} {fr : List Nat} (h : TurnOk body m fr) (sc : D) : ∀ (l : List Nat) (d : D) (os : List (Option D)), StOk d → os.length = m → (∀ i ∈ fr, os[i]? = some none) →
    ∃ d' os', forL (turnS (tgN 2) body) (l.map fun i : Nat => D.int (i : Int)) (some sc :: some d :: os) = .nx (some sc :: some d' :: os') ∧ StOk d' ∧ os'.length = m ∧ ∀ i ∈ fr, os'[i]? = some none
  | [], d, os, h1, h2, h3 => ⟨d, os, rfl, h1, h2, h3⟩
  | i :: l, d, os, h1, h2, h3 => by
    obtain ⟨d1, os1, e1, s1, l1, f1⟩ := h sc d os i h1 h2 h3
    obtain ⟨d2, os2, e2, s2, l2, f2⟩ := turns_ok h sc l d1 os1 s1 l1 f1
    refine ⟨d2, os2, ?_, s2, l2, f2⟩
    rw [List.map_cons, forL_nx e1]
    exact e2
theorem frzL_ints : ∀ l : List Int, freezeL (l.map D.int) = l.map D.int
  | [] => rfl
  | i :: l => by rw [List.map_cons, freezeL, frzL_ints l]; rfl
theorem frzOkL_ints : ∀ l : List Int, frzOkL (l.map D.int) = true
  | [] => rfl
  | i :: l => by rw [List.map_cons, frzOkL, frzOkL_ints l]; rfl
theorem law_runs {b body : SM} {m : Nat} {M : Int} {fr : List Nat} (hb : b = sFrz 0 (sSeq (sSet 1 (eCall [false] G__law_start (cVal (eV 0) cNil))) (sSeq (sFor (iA (aCons (eC (.int M)) aNil) rng1) (tgN 2) body) (sRet (eC (.bl true)))))) (h0 : 0 ≤ M) (hN : M ≤ 1000) (hfr : ∀ i ∈ fr, i < m) (h : TurnOk body m fr) (ns : List Int) :
    runFn (m + 2) [false] b [.lst (ns.map D.int)] = .ok (.bl true) [] ∧ runFn (m + 2) [false] b [.fls (ns.map D.int)] = .ok (.bl true) [] := by
  obtain ⟨d, ed, sd⟩ := start_ok ns
  obtain ⟨d', os', e, _, _, _⟩ := turns_ok h (.fls (ns.map D.int)) (List.range M.toNat) d (List.replicate m none) sd (by simp) (fun i hi => by simp [List.getElem?_replicate, hfr i hi])
  have hd : dup (.fls (ns.map D.int)) = true := dupL_map D.int (fun _ => rfl) ns
  have core : sSeq (sSet 1 (eCall [false] G__law_start (cVal (eV 0) cNil))) (sSeq (sFor (iA (aCons (eC (.int M)) aNil) rng1) (tgN 2) body) (sRet (eC (.bl true)))) (some (.fls (ns.map D.int)) :: none :: List.replicate m none) = .rt (.bl true) (some (.fls (ns.map D.int)) :: some d' :: os') := by
    refine seq_nx (ρ' := some (.fls (ns.map D.int)) :: some d :: List.replicate m none) (by simp [ed, dupL_map]) (seq_nx (ρ' := some (.fls (ns.map D.int)) :: some d' :: os') ?_ rfl)
    have hs : small62 M = true := small_of (by omega) (by omega)
    have im : iA (aCons (eC (.int M)) aNil) rng1 (some (.fls (ns.map D.int)) :: some d :: List.replicate m none) = .ok ((List.range M.toNat).map fun i : Nat => D.int (i : Int)) (some (.fls (ns.map D.int)) :: some d :: List.replicate m none) := by
      simp [hs]
    rw [ev_for, im]
    exact e
  have fin : ∀ x : D, x = .lst (ns.map D.int) ∨ x = .fls (ns.map D.int) → runFn (m + 2) [false] b [x] = .ok (.bl true) [] := fun x hx => by
    refine run_rt (ρ' := some (.fls (ns.map D.int)) :: some d' :: os') ?_ (by simp)
    have e0 : [x].map some ++ List.replicate (m + 2 - [x].length) none = some x :: none :: List.replicate m none := by
      show some x :: List.replicate (m + 1) none = _
      rw [List.replicate_succ]
    rw [e0, hb, ev_sFrz]
    rcases hx with rfl | rfl
    · show (if frzOk (.lst (ns.map D.int)) then _ else _) = _
      rw [if_pos (show frzOk (.lst (ns.map D.int)) = true from frzOkL_ints ns)]
      show sSeq _ _ (some (.fls (freezeL (ns.map D.int))) :: none :: List.replicate m none) = _
      rw [frzL_ints]
      exact core
    · show (if frzOk (.fls (ns.map D.int)) then _ else _) = _
      rw [if_pos (show frzOk (.fls (ns.map D.int)) = true from frzOkL_ints ns)]
      show sSeq _ _ (some (.fls (freezeL (ns.map D.int))) :: none :: List.replicate m none) = _
      rw [frzL_ints]
      exact core
  exact ⟨fin _ (.inl rfl), fin _ (.inr rfl)⟩
theorem frz_nx {i : Nat} {p : SM} {d : D} {ρ : DL.Env} {r : SR} (h : ρ[i]? = some (some d)) (hf : frzOk d = true) (hp : p (ρ.set i (some (freeze d))) = r) : sFrz i p ρ = r := by
  rw [ev_sFrz, h]
  simp only
  rw [if_pos hf]; exact hp
end LC
set_option linter.all false
set_option maxRecDepth 100000
set_option maxHeartbeats 4000000
namespace LC
open PySem L2 DL
/-! ### parts of tuples -/
theorem mem_cut {ds : List D} {lo hi : Option Int} {x : D} (h : x ∈ cutD ds lo hi) : x ∈ ds := List.mem_of_mem_drop (List.mem_of_mem_take h)
theorem len_cut {ds : List D} {lo hi : Option Int} : (cutD ds lo hi).length ≤ ds.length := by
  unfold cutD
  rw [List.length_take, List.length_drop]; omega
theorem dupL_cut {ds : List D} {lo hi : Option Int} (h : dupL ds = true) : dupL (cutD ds lo hi) = true := dupL_take _ (dupL_drop _ h)
theorem sl_tup {ds : List D} {a b : D} {lo hi : Option Int} (h : dupL ds = true) (h1 : toB a = some lo) (h2 : toB b = some hi) : slA (.tup ds) a b = some (.tup (cutD ds lo hi)) := by
  simp [slA, h1, h2, slD, h]
theorem add_tup {a b : List D} (h : a.length + b.length ≤ 1000) (ha : dupL a = true) (hb : dupL b = true) : dAdd (.tup a) (.tup b) = some (.tup (a ++ b)) := by
  simp [ha, hb, sizeLine_eq]; omega
theorem add_lst {a b : List D} (h : a.length + b.length ≤ 1000) (ha : dupL a = true) (hb : dupL b = true) : dAdd (.lst a) (.lst b) = some (.lst (a ++ b)) := by
  simp [ha, hb, sizeLine_eq]; omega
/-! ### rises, as laws reckon them -/
theorem range_more {hs gs : List Int} (h : gs.length = hs.length) : (List.range gs.length).map (fun i => D.int (gs.getD i 0 - hs.getD i 0)) = (moreF hs gs).map D.int := by
  apply List.ext_getElem
  · simp [moreF, h]
  · intro i h1 h2
    simp at h1
    have h3 : i < hs.length := by omega
    simp [moreF, h1, h3]
theorem from_get : ∀ (m : List Int) (a : Int) (i : Nat), i < m.length → (riseFrom a m)[i]? = some (m.getD i 0 - (if i = 0 then a else m.getD (i - 1) 0))
  | [], _, _, h => by simp at h
  | x :: m, a, 0, _ => by simp [riseFrom]
  | x :: m, a, i + 1, h => by
    have ih := from_get m x i (by simpa using h)
    simp only [riseFrom, List.getElem?_cons_succ]
    rw [ih]
    cases i with
    | zero => simp
    | succ j => simp
theorem range_rise (m : List Int) : (List.range m.length).map (fun i => D.int (m.getD i 0 - (if i = 0 then lastOr 0 m else m.getD (i - 1) 0))) = (riseF true m).map D.int := by
  apply List.ext_getElem?
  intro i
  by_cases hi : i < m.length
  · have e := from_get m (lastOr 0 m) i hi
    simp only [List.getElem?_map, riseF, if_pos, e, Option.map_some]
    rw [List.getElem?_range hi]
    rfl
  · have h1 : (riseF true m).length ≤ i := by rw [riseF_len]; simp [bords]; omega
    rw [List.getElem?_eq_none (by simpa using Nat.not_lt.mp hi), List.getElem?_eq_none (by simpa using h1)]
theorem row_rise {m : List Int} (h : m ≠ []) : [D.int (m.getD 0 0)] ++ ((riseF true m).map D.int).drop 1 ++ [D.int (0 - lastOr 0 m)] = (riseF false m).map D.int := by
  cases m with
  | nil => exact absurd rfl h
  | cons a l => simp [riseF, riseFrom, lastOr]
end LC
namespace LC
theorem lastOr_get : ∀ (m : List Int) (a : Int), m ≠ [] → m[m.length - 1]? = some (lastOr a m)
  | [], _, h => absurd rfl h
  | [x], _, _ => rfl
  | x :: y :: m, a, _ => by
    have ih := lastOr_get (y :: m) x (by simp)
    simpa [lastOr] using ih
end LC
namespace LC
open PySem L2 DL
@[simp] theorem land_ix0 (r : Bool) (hs : List Int) (ps : List (Option Int)) : dIx (landD r hs ps) (.int 0) = some (.str (shS r)) := by simp [landD]
@[simp] theorem land_ix1 (r : Bool) (hs : List Int) (ps : List (Option Int)) : dIx (landD r hs ps) (.int 1) = some (.tup (hs.map D.int)) := by simp [landD]
@[simp] theorem land_ix2 (r : Bool) (hs : List Int) (ps : List (Option Int)) : dIx (landD r hs ps) (.int 2) = some (.tup (ps.map optD)) := by simp [landD]
end LC
namespace LC
open PySem L2 DL
@[simp] theorem at5_4 (a b c d e : D) : atI [a, b, c, d, e] 4 = some e := rfl
@[simp] theorem at6_4 (a b c d e f : D) : atI [a, b, c, d, e, f] 4 = some e := rfl
@[simp] theorem at6_5 (a b c d e f : D) : atI [a, b, c, d, e, f] 5 = some f := rfl
end LC
set_option linter.all false
set_option maxRecDepth 100000
set_option maxHeartbeats 4000000
namespace L07
open PySem L2 DL LC
def costO (r : Bool) (hs gs : List Int) (ps : List (Option Int)) : Option Int := if barredF r hs gs ps then none else some (costF r hs gs ps)
theorem dup_land (r : Bool) (hs : List Int) (ps : List (Option Int)) : dup (landD r hs ps) = true := by simp [landD]
theorem dup_goal (gs : List Int) : dup (.tup (gs.map D.int)) = true := dupL_map D.int (fun _ => rfl) gs
theorem dup_ints (l : List Int) : dupL (l.map D.int) = true := dupL_map D.int (fun _ => rfl) l
theorem law_more_ok {r : Bool} {hs gs : List Int} {ps : List (Option Int)} (h12 : hs.length ≤ 12) (gl : gs.length = hs.length) : G__law_more [landD r hs ps, .tup (gs.map D.int)] = .ok (.lst ((moreF hs gs).map D.int)) [] := by
  obtain ⟨n, hn⟩ : ∃ n : Int, n = (gs.length : Int) := ⟨_, rfl⟩
  have hnn : n.toNat = gs.length := by omega
  have hlen : dLen (.tup (gs.map D.int)) = some (.int n) := by rw [hn]; simp
  have hld := dup_land r hs ps
  have dupG := dup_ints gs
  have dupH := dup_ints hs
  have dupP : dupL (ps.map optD) = true := dupL_opt _
  have hsm : small62 n = true := small_of (by omega) (by omega)
  have el := lcL_map (t := tgN 2) (e := eO2 (DL.d2 dSub) (eO2 (DL.d2 dIx) (eV 1) (eV 2)) (eO2 (DL.d2 dIx) (eO2 (DL.d2 dIx) (eV 0) (eC (.int 1))) (eV 2))) (vs := [2]) (ρ := [some (landD r hs ps), some (.tup (gs.map D.int)), none]) (fun i : Nat => D.int (i : Int)) (fun i => D.int (gs.getD i 0 - hs.getD i 0)) (List.range n.toNat)
    (fun i hi => by
      have hi : i < gs.length := by have := List.mem_range.mp hi; omega
      have a1 := at_in (l := gs) hi
      have a2 := at_in (l := hs) (i := i) (by omega)
      exact ⟨_, _, rfl, (by simp [hld, a1, a2, dupG, dupH, hi, show i < hs.length by omega]; rfl), by simp [killL]⟩) (by simp [sizeLine_eq]; omega)
  rw [hnn, range_more gl, ← hnn] at el
  refine run_rt (ρ' := [some (landD r hs ps), some (.tup (gs.map D.int)), none]) ?_ rfl
  clear hn hnn gl
  simp [b__law_more, hlen, dupG, hsm, freeL, el, -op_lenT]
/-- what rises at a border, by the law -/
theorem rise_at {r : Bool} {m : List Int} (h : m ≠ []) {i : Nat} (hi : i < bords r m.length) : (riseF r m)[i]? = some ((if i < m.length then m.getD i 0 else 0) - (if i = 0 then (if r then lastOr 0 m else 0) else m.getD (i - 1) 0)) := by
  cases r with
  | true =>
    have hi' : i < m.length := hi
    show (riseFrom (lastOr 0 m) m)[i]? = _
    rw [from_get m _ i hi']
    simp [hi']
  | false =>
    have hi' : i < m.length + 1 := hi
    show (riseFrom 0 m ++ [0 - lastOr 0 m])[i]? = _
    by_cases e : i < m.length
    · rw [List.getElem?_append_left (by rw [riseFrom_len]; exact e), from_get m _ i e]
      simp [e]
    · have e2 : i = m.length := by omega
      subst e2
      rw [List.getElem?_append_right (by rw [riseFrom_len]; omega), riseFrom_len]
      have hm : m.length ≠ 0 := fun z => h (List.length_eq_zero_iff.mp z)
      have hl := lastOr_get m 0 h
      have : m.getD (m.length - 1) 0 = lastOr 0 m := by rw [List.getD_eq_getElem?_getD, hl]; rfl
      rw [List.getD_eq_getElem?_getD] at this
      simp [hm, this]
theorem law_rise_ok {r : Bool} {hs m : List Int} {ps : List (Option Int)} (hne : m ≠ []) (h12 : m.length ≤ 12) (pl : ps.length = bords r m.length) : G__law_rise [landD r hs ps, .fls (m.map D.int)] = .ok (.lst ((riseF r m).map D.int)) [] := by
  obtain ⟨n, hn⟩ : ∃ n : Int, n = (ps.length : Int) := ⟨_, rfl⟩
  obtain ⟨q, hq⟩ : ∃ q : Int, q = (m.length : Int) := ⟨_, rfl⟩
  have hnn : n.toNat = ps.length := by omega
  have hp13 : ps.length ≤ 13 := by rw [pl]; unfold bords; split <;> omega
  have hlen : dLen (.tup (ps.map optD)) = some (.int n) := by rw [hn]; simp
  have hlen2 : dLen (.fls (m.map D.int)) = some (.int q) := by rw [hq]; simp
  have hld := dup_land r hs ps
  have dupM := dup_ints m
  have dupH := dup_ints hs
  have dupP : dupL (ps.map optD) = true := dupL_opt _
  have hsm : small62 n = true := small_of (by omega) (by omega)
  have hrl : (riseF r m).length = ps.length := by rw [riseF_len, pl]
  obtain ⟨ρ', e, o3, o4, o5, eρ⟩ := forL_inv (st := turnS (tgN 3) (sSeq (sSet 4 (eIf (eO2 (DL.d2 dLt) (eV 3) (eOA (DL.d1 dLen) (aCons (eV 1) aNil))) (eO2 (DL.d2 dIx) (eV 1) (eV 3)) (eC (.int 0)))) (sSeq (sSet 5 (eIf (eOr (eO2 (DL.d2 dGt) (eV 3) (eC (.int 0))) (eO2 (DL.d2 dEq) (eO2 (DL.d2 dIx) (eV 0) (eC (.int 0))) (eC (.str "ring")))) (eO2 (DL.d2 dIx) (eV 1) (eO2 (DL.d2 dSub) (eV 3) (eC (.int 1)))) (eC (.int 0)))) (sDrop (eApp 2 (eO2 (DL.d2 dSub) (eV 4) (eV 5)))))))
    (fun i : Nat => D.int (i : Int)) (fun j ρ => ∃ o3 o4 o5, ρ = [some (landD r hs ps), some (.fls (m.map D.int)), some (.lst (((riseF r m).take j).map D.int)), o3, o4, o5]) (List.range n.toNat) 0 _ ⟨none, none, none, rfl⟩ (fun j a ρ _ ha ⟨o3, o4, o5, eρ⟩ => by
      subst eρ
      have hj : j < ps.length := by
        have := (List.getElem?_eq_some_iff.mp ha).1
        simp at this; omega
      rw [Nat.sub_zero, List.getElem?_range (by omega)] at ha
      cases ha
      have hr := rise_at (r := r) hne (i := j) (by rw [← pl]; exact hj)
      have hlen3 : (((riseF r m).take j).map D.int).length < sizeLine := by rw [sizeLine_eq]; simp; omega
      have ht : (riseF r m).take (j + 1) = (riseF r m).take j ++ [(if j < m.length then m.getD j 0 else 0) - (if j = 0 then (if r then lastOr 0 m else 0) else m.getD (j - 1) 0)] := by
        rw [List.take_add_one, hr]; rfl
      refine ⟨[some (landD r hs ps), some (.fls (m.map D.int)), some (.lst (((riseF r m).take (j + 1)).map D.int)), some (.int (j : Int)), some (.int (if j < m.length then m.getD j 0 else 0)), some (.int (if j = 0 then (if r then lastOr 0 m else 0) else m.getD (j - 1) 0))], ?_, _, _, _, rfl⟩
      rw [ht, List.map_append]
      generalize ((riseF r m).take j).map D.int = acc at hlen3
      rw [ev_turnS]
      show sSeq _ _ [some (landD r hs ps), some (.fls (m.map D.int)), some (.lst acc), some (.int (j : Int)), o4, o5] = _
      refine seq_nx (ρ' := [some (landD r hs ps), some (.fls (m.map D.int)), some (.lst acc), some (.int (j : Int)), some (.int (if j < m.length then m.getD j 0 else 0)), o5]) ?_ (seq_nx (ρ' := [some (landD r hs ps), some (.fls (m.map D.int)), some (.lst acc), some (.int (j : Int)), some (.int (if j < m.length then m.getD j 0 else 0)), some (.int (if j = 0 then (if r then lastOr 0 m else 0) else m.getD (j - 1) 0))]) ?_ ?_)
      · by_cases hjm : j < m.length
        · have a1 := at_in (l := m) hjm
          have c1 : (j : Int) < q := by omega
          simp [dupM, hlen2, c1, a1, hjm, -op_lenF]
        · have c1 : ¬ (j : Int) < q := by omega
          simp [dupM, hlen2, c1, hjm, -op_lenF]
      · by_cases hj0 : j = 0
        · subst hj0
          cases r with
          | true =>
            have a1 := at_last m hne
            simp [dupM, hld, a1]
          | false => simp [dupM, hld]
        · obtain ⟨j', rfl⟩ : ∃ j', j = j' + 1 := ⟨j - 1, by omega⟩
          have hj' : j' < m.length := by rw [pl] at hj; unfold bords at hj; split at hj <;> omega
          have a1 := at_in (l := m) hj'
          have ej : ((j' + 1 : Nat) : Int) - 1 = (j' : Int) := by omega
          have ej2 : ((j' + 1 : Nat) : Int) > 0 := by omega
          simp only [Int.natCast_add, Int.cast_ofNat_Int] at ej ej2
          simp [dupM, ej, ej2, a1, hj']
      · simp [hlen3])
  subst eρ
  have e3 : (riseF r m).take (0 + (List.range n.toNat).length) = riseF r m := List.take_of_length_le (by simp; omega)
  rw [e3] at e
  refine run_rt (seq_nx (ρ' := [some (landD r hs ps), some (.fls (m.map D.int)), some (.lst []), none, none, none]) rfl (seq_nx (ρ' := [some (landD r hs ps), some (.fls (m.map D.int)), some (.lst ((riseF r m).map D.int)), o3, o4, o5]) ?_ rfl)) rfl
  rw [ev_for]
  have em : iA (aCons (eOA (DL.d1 dLen) (aCons (eO2 (DL.d2 dIx) (eV 0) (eC (.int 2))) aNil)) aNil) rng1 [some (landD r hs ps), some (.fls (m.map D.int)), some (.lst []), none, none, none] = .ok ((List.range n.toNat).map fun i : Nat => D.int (i : Int)) [some (landD r hs ps), some (.fls (m.map D.int)), some (.lst []), none, none, none] := by
    simp [hld, hlen, hsm, -op_lenT]
  rw [em]
  exact e
@[simp] theorem ev_orV (f g : EM) (ρ : DL.Env) : eOrV f g ρ = (f ρ).bind fun x ρ => match truD x with | some true => .ok x ρ | some false => g ρ | none => .fail := rfl
theorem ne_L (a b : List Int) : dNe (.lst (a.map D.int)) (.lst (b.map D.int)) = some (.bl (!decide (a = b))) := by
  have e1 : pd (.lst (a.map D.int)) = some (.list (a.map PyData.int)) := by show (pdL _).map _ = _; rw [pdL_int]; rfl
  have e2 : pd (.lst (b.map D.int)) = some (.list (b.map PyData.int)) := by show (pdL _).map _ = _; rw [pdL_int]; rfl
  simp [dNe, eqD, e1, e2, shaped_L, PyData.eqv, PySem.W.ked_eqvAll]
theorem ne_F (a b : List Int) : dNe (.fls (a.map D.int)) (.lst (b.map D.int)) = some (.bl (!decide (a = b))) := ne_L a b
theorem ne_LF (a b : List Int) : dNe (.lst (a.map D.int)) (.fls (b.map D.int)) = some (.bl (!decide (a = b))) := ne_L a b
theorem op_minF (l : List Int) : dMin (.fls (l.map D.int)) = (minI l).map .int := by simp [dMin, litms]
/-! ### what is reckoned -/
theorem zero_rise {rs : List Int} {ps : List (Option Int)} (hb : badB rs ps = false) (hf : fencesF ps = []) (hl : rs.length = ps.length) : ∀ x ∈ rs, x = 0 := fun x hx => by
  obtain ⟨j, hj⟩ := List.mem_iff_getElem?.mp hx
  by_cases h0 : x = 0
  · exact h0
  · have := not_bad hb hl hj h0
    rw [hf] at this; cases this
theorem pairs_zero {rs : List Int} (h : ∀ x ∈ rs, x = 0) : pairsF rs = 0 := by
  unfold pairsF
  have : rs.filter (fun x => decide (0 < x)) = [] := List.filter_eq_nil_iff.mpr fun x hx => by rw [h x hx]; simp
  rw [this]; rfl
theorem from_zero : ∀ (m : List Int), (∀ y ∈ riseFrom 0 m, y = 0) → ∀ x ∈ m, x = 0
  | [], _, x, h => nomatch h
  | a :: m, h, x, hx => by
    have h0 : a = 0 := by
      have := h (a - 0) (by simp [riseFrom]); omega
    subst h0
    rcases List.mem_cons.mp hx with e | e
    · exact e
    · exact from_zero m (fun y hy => h y (by simp [riseFrom, hy])) x e
theorem great_zero {m : List Int} (hm : m ≠ []) (h : ∀ x ∈ m, x = 0) : greatestF m = 0 := by
  obtain ⟨x, hx, e⟩ := (greatest_spec hm).1
  rw [e, h x hx]; rfl
/-- the borders without fence at which something rises, as the law counts them -/
def badL (rs : List Int) (ps : List (Option Int)) : List Nat := (List.range rs.length).filter fun k => decide (rs.getD k 0 ≠ 0) && (ps.getD k none).isNone
theorem badL_nil {rs : List Int} {ps : List (Option Int)} (hl : rs.length = ps.length) : badL rs ps = [] ↔ badB rs ps = false := by
  unfold badL badB
  rw [List.filter_eq_nil_iff]
  constructor
  · intro h
    rw [Bool.eq_false_iff]
    intro hh
    obtain ⟨p, hp, hc⟩ := List.any_eq_true.mp hh
    obtain ⟨i, hi⟩ := List.mem_iff_getElem?.mp hp
    have hil := (List.getElem?_eq_some_iff.mp hi).1
    have hi1 : i < rs.length := by simp at hil; omega
    have hi2 : i < ps.length := by omega
    have ei : p = (rs[i], ps[i]) := by
      have := (List.getElem?_eq_some_iff.mp hi).2
      rw [← this]; simp
    refine h i (List.mem_range.mpr hi1) ?_
    rw [ei] at hc
    simpa [hi1, hi2] using hc
  · intro h i hi hc
    have hi1 := List.mem_range.mp hi
    have hi2 : i < ps.length := by omega
    have : ((rs.zip ps).any fun p => decide (p.1 ≠ 0) && p.2.isNone) = true := List.any_eq_true.mpr ⟨(rs[i], ps[i]), List.mem_iff_getElem.mpr ⟨i, by simp; omega, by simp⟩, by simpa [hi1, hi2] using hc⟩
    rw [this] at h; cases h
theorem tot_range {rs : List Int} {ps : List (Option Int)} : ((List.range rs.length).map fun k => absI (rs.getD k 0) * (ps.getD k none).getD 0).sum = totF rs ps := by
  unfold totF
  congr 1
  apply List.ext_getElem
  · simp
  · intro i h1 h2
    have hi : i < rs.length := by simpa using h1
    simp [hi, prc]
    congr 1
    cases h : ps[i]? with
    | none => rfl
    | some x => rfl
theorem some_map (ps : List (Option Int)) : (ps.filter fun p => p.isSome).map optD = (ps.filterMap id).map D.int := by
  induction ps with
  | nil => rfl
  | cons p ps ih => cases p <;> simp [optD, ih]
theorem half (x : Int) : (2 * x).fdiv 2 = x := by
  rw [Int.fdiv_eq_ediv_of_nonneg _ (by decide)]; omega
theorem law_cost_ok {r : Bool} {hs gs : List Int} {ps : List (Option Int)} {B : Int} (t : TaskB B r hs gs ps) : G__law_cost [landD r hs ps, .tup (gs.map D.int)] = .ok (toldD (toldF r hs gs ps)) [] := by
  have hld := dup_land r hs ps
  have hg := dup_goal gs
  have hne := more_ne t.land t.gl
  have hml := moreF_len t.gl
  have h12 := t.land.n12
  have hz := ps_len t.land
  have e2 := law_more_ok (r := r) (ps := ps) h12 t.gl
  have hrl : (riseF r (moreF hs gs)).length = ps.length := by rw [riseF_len, hml, t.land.pl]
  have e3 := law_rise_ok (r := r) (hs := hs) (ps := ps) hne (by omega) (by rw [hml]; exact t.land.pl)
  have hsum := sum_rise (r := r) hne
  have hgs := greatest_spec hne
  have hrow : r = false → badB (riseF r (moreF hs gs)) ps = false → fencesF ps = [] → greatestF (moreF hs gs) = 0 := fun hr hb hf => by
    subst hr
    have z := zero_rise hb hf hrl
    refine great_zero hne (from_zero _ fun y hy => z y ?_)
    show y ∈ riseFrom 0 _ ++ _
    exact List.mem_append_left _ hy
  have hpz : badB (riseF r (moreF hs gs)) ps = false → fencesF ps = [] → pairsF (riseF r (moreF hs gs)) = 0 := fun hb hf => pairs_zero (zero_rise hb hf hrl)
  have hp0 := pairs_nonneg (riseF r (moreF hs gs))
  have hM : greatestF (moreF hs gs) = (maxI ((moreF hs gs).map absI)).getD 0 := rfl
  obtain ⟨mx, hmx⟩ := maxI_some (l := (moreF hs gs).map absI) (by simpa using hne)
  rw [hmx] at hM
  simp only [Option.getD_some] at hM
  have hpr := pairs_abs (riseF r (moreF hs gs))
  rw [hsum, Int.add_zero] at hpr
  have hcost : costF r hs gs ps = totF (riseF r (moreF hs gs)) ps + ringsF r (moreF hs gs) * (2 * minP ps) := rfl
  have hfew : fewF r hs gs = pairsF (riseF r (moreF hs gs)) + ringsF r (moreF hs gs) := rfl
  have hrg : ringsF r (moreF hs gs) = if r then max 0 (greatestF (moreF hs gs) - pairsF (riseF r (moreF hs gs))) else 0 := rfl
  have htot := tot_range (rs := riseF r (moreF hs gs)) (ps := ps)
  have hbl := badL_nil hrl
  have hbd : badL (riseF r (moreF hs gs)) ps = (List.range (riseF r (moreF hs gs)).length).filter fun k => decide ((riseF r (moreF hs gs)).getD k 0 ≠ 0) && (ps.getD k none).isNone := rfl
  have hbar : barredF r hs gs ps = (badB (riseF r (moreF hs gs)) ps || (decide (fencesF ps = []) && decide (0 < greatestF (moreF hs gs)))) := rfl
  have hfn := fences_nil ps
  have hmp := minP_eq ps
  have htf : toldF r hs gs ps = if barredF r hs gs ps then none else some (costF r hs gs ps, fewF r hs gs) := rfl
  have hrb : ∀ x ∈ riseF r (moreF hs gs), -1998 ≤ x ∧ x ≤ 1998 := fun x hx => t.rise hx
  have hg9 := t.great
  generalize toldF r hs gs ps = told at *
  generalize barredF r hs gs ps = bar at *
  generalize costF r hs gs ps = cost at *
  generalize fewF r hs gs = few at *
  generalize ringsF r (moreF hs gs) = rings at *
  generalize pairsF (riseF r (moreF hs gs)) = P at *
  generalize greatestF (moreF hs gs) = M at *
  generalize totF (riseF r (moreF hs gs)) ps = tot at *
  generalize badB (riseF r (moreF hs gs)) ps = bad at *
  generalize riseF r (moreF hs gs) = rs at *
  generalize moreF hs gs = m at *
  generalize minP ps = mp at *
  obtain ⟨q, hq⟩ : ∃ q : Int, q = (rs.length : Int) := ⟨_, rfl⟩
  have hqn : q.toNat = rs.length := by omega
  have hlen : dLen (.fls (rs.map D.int)) = some (.int q) := by rw [hq]; simp
  have hsm : small62 q = true := small_of (by omega) (by omega)
  have dm := dup_ints m
  have dr := dup_ints rs
  have dupP : dupL (ps.map optD) = true := dupL_opt _
  -- the fences' prices
  have ef := lcL_det (t := tgN 8) (c := eO2 (DL.d2 dNotN) (eV 8) (eC .non)) (e := eV 8) (vs := [8]) (ρ := [some (landD r hs ps), some (.tup (gs.map D.int)), some (.fls (m.map D.int)), some (.fls (rs.map D.int)), none, none, none, none, none, none, none]) optD (fun p => p.isSome) optD ps []
    (fun p _ => ⟨_, _, rfl, by simp; rfl, fun _ => ⟨_, by simp; rfl, by simp [killL]⟩, fun _ => by simp [killL]⟩) (by simp [sizeLine_eq]; omega)
  rw [List.nil_append, some_map] at ef
  obtain ⟨fc, hfc⟩ : ∃ fc, fc = ps.filterMap id := ⟨_, rfl⟩
  rw [← hfc] at ef hfn hmp
  have ebad := lcL_det (t := tgN 9) (c := eAnd (eO2 (DL.d2 dNe) (eO2 (DL.d2 dIx) (eV 3) (eV 9)) (eC (.int 0))) (eO2 (DL.d2 dIsN) (eO2 (DL.d2 dIx) (eO2 (DL.d2 dIx) (eV 0) (eC (.int 2))) (eV 9)) (eC .non))) (e := eV 9) (vs := [9]) (ρ := [some (landD r hs ps), some (.tup (gs.map D.int)), some (.fls (m.map D.int)), some (.fls (rs.map D.int)), some (.fls (fc.map D.int)), none, none, none, none, none, none])
    (fun i : Nat => D.int (i : Int)) (fun k => decide (rs.getD k 0 ≠ 0) && (ps.getD k none).isNone) (fun i : Nat => D.int (i : Int)) (List.range q.toNat) []
    (fun i hi => by
      have hi1 : i < rs.length := by have := List.mem_range.mp hi; omega
      have hi2 : i < ps.length := by omega
      have a1 := at_in (l := rs) hi1
      have a2 := at_ps (List.getElem?_eq_getElem hi2)
      by_cases hx : rs[i] = 0
      · exact ⟨_, _, rfl, by simp [hld, dr, a1, hx, hi1]; rfl, fun h => by simp [hi1, hx] at h, fun _ => by simp [killL]⟩
      · cases hp : ps[i] with
        | none =>
          rw [hp] at a2
          simp only [optD] at a2
          exact ⟨_, _, rfl, by simp [hld, dr, dupP, a1, a2, hx, hi1, hi2, hp, optD]; rfl, fun _ => ⟨_, by simp; rfl, by simp [killL]⟩, fun h => by simp [hi1, hi2, hx, hp] at h⟩
        | some v =>
          rw [hp] at a2
          simp only [optD] at a2
          exact ⟨_, _, rfl, by simp [hld, dr, dupP, a1, a2, hx, hi1, hi2, hp, optD]; rfl, fun h => by simp [hi1, hi2, hx, hp] at h, fun _ => by simp [killL]⟩) (by simp [sizeLine_eq]; omega)
  rw [hqn, ← hbd, ← hqn] at ebad
  rw [List.nil_append] at ebad
  have nf : dNe (.fls (fc.map D.int)) (.lst []) = some (.bl (!decide (fc = []))) := ne_F fc []
  have nb : dNe (.lst ((badL rs ps).map fun i : Nat => D.int (i : Int))) (.lst []) = some (.bl bad) := by
    have e : ((badL rs ps).map fun i : Nat => D.int (i : Int)) = ((badL rs ps).map fun i : Nat => (i : Int)).map D.int := by simp
    rw [e]
    have := ne_L ((badL rs ps).map fun i : Nat => (i : Int)) []
    rw [List.map_nil] at this
    rw [this]
    cases hbb : bad with
    | false => simp [hbl.mpr hbb]
    | true =>
      have : badL rs ps ≠ [] := fun z => by rw [hbl.mp z] at hbb; cases hbb
      simp [this]
  have ab3 := lcL_map (t := tgN 10) (e := eOA (DL.d1 dAbs) (aCons (eV 10) aNil)) (vs := [10]) (ρ := [some (landD r hs ps), some (.tup (gs.map D.int)), some (.fls (m.map D.int)), some (.fls (rs.map D.int)), some (.fls (fc.map D.int)), none, none, none, none, none, none]) D.int (fun x => D.int (absI x)) rs (fun x _ => ⟨_, _, rfl, by simp [absI]; rfl, by simp [killL]⟩) (by simp [sizeLine_eq]; omega)
  have ab2 := lcL_map (t := tgN 10) (e := eOA (DL.d1 dAbs) (aCons (eV 10) aNil)) (vs := [10]) (ρ := [some (landD r hs ps), some (.tup (gs.map D.int)), some (.fls (m.map D.int)), some (.fls (rs.map D.int)), some (.fls (fc.map D.int)), none, none, none, none, none, none]) D.int (fun x => D.int (absI x)) m (fun x _ => ⟨_, _, rfl, by simp [absI]; rfl, by simp [killL]⟩) (by simp [sizeLine_eq]; omega)
  have s3 : dSum (.lst (rs.map fun x => D.int (absI x))) = some (.int (2 * P)) := by
    have : (rs.map fun x => D.int (absI x)) = (rs.map absI).map D.int := by simp
    rw [this, op_sumL, hpr]
  have s2 : dMax (.lst (m.map fun x => D.int (absI x))) = some (.int M) := by
    have : (m.map fun x => D.int (absI x)) = (m.map absI).map D.int := by simp
    rw [this, op_maxL, hmx, hM]; rfl
  have etot := lcL_map (t := tgN 9) (e := eO2 (DL.d2 dMul) (eOA (DL.d1 dAbs) (aCons (eO2 (DL.d2 dIx) (eV 3) (eV 9)) aNil)) (eOrV (eO2 (DL.d2 dIx) (eO2 (DL.d2 dIx) (eV 0) (eC (.int 2))) (eV 9)) (eC (.int 0)))) (vs := [9]) (ρ := [some (landD r hs ps), some (.tup (gs.map D.int)), some (.fls (m.map D.int)), some (.fls (rs.map D.int)), some (.fls (fc.map D.int)), some (.int P), some (.int M), none, none, none, none])
    (fun i : Nat => D.int (i : Int)) (fun k => D.int (absI (rs.getD k 0) * (ps.getD k none).getD 0)) (List.range q.toNat)
    (fun i hi => by
      have hi1 : i < rs.length := by have := List.mem_range.mp hi; omega
      have hi2 : i < ps.length := by omega
      have a1 := at_in (l := rs) hi1
      have a2 := at_ps (List.getElem?_eq_getElem hi2)
      have hs1 : sm (if rs[i] < 0 then -rs[i] else rs[i]) = true := by
        have := hrb rs[i] (List.getElem_mem _)
        exact sm_of (by split <;> omega) (by split <;> omega)
      cases hp : ps[i] with
      | none =>
        rw [hp] at a2
        simp only [optD] at a2
        exact ⟨_, _, rfl, by simp [hld, dr, dupP, a1, a2, hi1, hi2, hp, optD, truD, absI, hs1]; rfl, by simp [killL]⟩
      | some v =>
        rw [hp] at a2
        simp only [optD] at a2
        by_cases hv : v = 0
        · subst hv
          exact ⟨_, _, rfl, by simp [hld, dr, dupP, a1, a2, hi1, hi2, hp, optD, truD, absI, hs1]; rfl, by simp [killL]⟩
        · have hv' : (v != 0) = true := by simpa using hv
          exact ⟨_, _, rfl, by simp [hld, dr, dupP, a1, a2, hi1, hi2, hp, optD, truD, absI, hv', hs1]; rfl, by simp [killL]⟩) (by simp [sizeLine_eq]; omega)
  have st : dSum (.lst ((List.range q.toNat).map fun k => D.int (absI (rs.getD k 0) * (ps.getD k none).getD 0))) = some (.int tot) := by
    have : ((List.range q.toNat).map fun k => D.int (absI (rs.getD k 0) * (ps.getD k none).getD 0)) = ((List.range rs.length).map fun k => absI (rs.getD k 0) * (ps.getD k none).getD 0).map D.int := by rw [hqn]; simp
    rw [this, op_sumL, htot]
  have hh := half P
  refine (fun h : ∃ ρ', b__law_cost [some (landD r hs ps), some (.tup (gs.map D.int)), none, none, none, none, none, none, none, none, none] = .rt (toldD told) ρ' ∧ getO [false, false] ρ' = some [] => by
    obtain ⟨ρ', h1, h2⟩ := h
    exact run_rt (b := b__law_cost) (n := 11) (m := [false, false]) (ρ' := ρ') h1 h2) ?_
  suffices h : ∃ d, d = toldD told ∧ b__law_cost [some (landD r hs ps), some (.tup (gs.map D.int)), none, none, none, none, none, none, none, none, none] = .rt d [some (landD r hs ps), some (.tup (gs.map D.int)), some (.fls (m.map D.int)), some (.fls (rs.map D.int)), some (.fls (fc.map D.int)), some (.int P), some (.int M), some (.int tot), none, none, none] ∨ d = toldD told ∧ b__law_cost [some (landD r hs ps), some (.tup (gs.map D.int)), none, none, none, none, none, none, none, none, none] = .rt d [some (landD r hs ps), some (.tup (gs.map D.int)), some (.fls (m.map D.int)), some (.fls (rs.map D.int)), some (.fls (fc.map D.int)), none, none, none, none, none, none] by
    obtain ⟨d, ⟨h1, h2⟩ | ⟨h1, h2⟩⟩ := h
    · exact ⟨_, by rw [← h1]; exact h2, rfl⟩
    · exact ⟨_, by rw [← h1]; exact h2, rfl⟩
  have q1 : ∀ {g : SM} {R : SR}, g [some (landD r hs ps), some (.tup (gs.map D.int)), some (.fls (m.map D.int)), some (.fls (rs.map D.int)), some (.fls (fc.map D.int)), none, none, none, none, none, none] = R → sSeq (sSet 2 (eFrz (eCall [false, false] G__law_more (cVal (eV 0) (cVal (eV 1) cNil))))) (sSeq (sSet 3 (eFrz (eCall [false, false] G__law_rise (cVal (eV 0) (cVal (eV 2) cNil))))) (sSeq (sSet 4 (eLc (iE (eO2 (DL.d2 dIx) (eV 0) (eC (.int 2))) itemsT) (tgN 8) (eO2 (DL.d2 dNotN) (eV 8) (eC .non)) (eV 8) [8])) (sFrz 4 g))) [some (landD r hs ps), some (.tup (gs.map D.int)), none, none, none, none, none, none, none, none, none] = R := by
    intro g R h
    refine seq_nx (ρ' := [some (landD r hs ps), some (.tup (gs.map D.int)), some (.fls (m.map D.int)), none, none, none, none, none, none, none, none]) (by simp [hld, hg, e2]) (seq_nx (ρ' := [some (landD r hs ps), some (.tup (gs.map D.int)), some (.fls (m.map D.int)), some (.fls (rs.map D.int)), none, none, none, none, none, none, none]) (by simp [hld, dm, e3]) (seq_nx (ρ' := [some (landD r hs ps), some (.tup (gs.map D.int)), some (.fls (m.map D.int)), some (.fls (rs.map D.int)), some (.lst (fc.map D.int)), none, none, none, none, none, none]) (by simp [hld, dupP, freeL, ef]) ?_))
    refine frz_nx (i := 4) (d := .lst (fc.map D.int)) rfl (frzOkL_ints _) ?_
    show g [some (landD r hs ps), some (.tup (gs.map D.int)), some (.fls (m.map D.int)), some (.fls (rs.map D.int)), some (.fls (freezeL (fc.map D.int))), none, none, none, none, none, none] = R
    rw [frzL_ints]
    exact h
  have q2 : sIf (eO2 (DL.d2 dNe) (eLc (iA (aCons (eOA (DL.d1 dLen) (aCons (eV 3) aNil)) aNil) rng1) (tgN 9) (eAnd (eO2 (DL.d2 dNe) (eO2 (DL.d2 dIx) (eV 3) (eV 9)) (eC (.int 0))) (eO2 (DL.d2 dIsN) (eO2 (DL.d2 dIx) (eO2 (DL.d2 dIx) (eV 0) (eC (.int 2))) (eV 9)) (eC .non))) (eV 9) [9]) (eLst aNil)) (sRet (eC .non)) sNx [some (landD r hs ps), some (.tup (gs.map D.int)), some (.fls (m.map D.int)), some (.fls (rs.map D.int)), some (.fls (fc.map D.int)), none, none, none, none, none, none] = if bad then .rt .non [some (landD r hs ps), some (.tup (gs.map D.int)), some (.fls (m.map D.int)), some (.fls (rs.map D.int)), some (.fls (fc.map D.int)), none, none, none, none, none, none] else .nx [some (landD r hs ps), some (.tup (gs.map D.int)), some (.fls (m.map D.int)), some (.fls (rs.map D.int)), some (.fls (fc.map D.int)), none, none, none, none, none, none] := by
    cases bad <;> simp [dr, hlen, hsm, freeL, ebad, nb, sizeLine_eq, -op_lenF]
  cases hbd' : bad with
  | true =>
    rw [hbd'] at q2 hbar
    refine ⟨.non, .inr ⟨?_, q1 (seq_rt (by rw [q2]; rfl))⟩⟩
    rw [htf, hbar]; rfl
  | false =>
    rw [hbd'] at q2 hbar
    have q3 : sPar 5 6 (aCons (eO2 (DL.d2 dFdiv) (eOA (DL.d1 dSum) (aCons (eLc (iE (eV 3) itemsL) (tgN 10) (eC (.bl true)) (eOA (DL.d1 dAbs) (aCons (eV 10) aNil)) [10]) aNil)) (eC (.int 2))) (aCons (eOA (DL.d1 dMax) (aCons (eLc (iE (eV 2) itemsL) (tgN 10) (eC (.bl true)) (eOA (DL.d1 dAbs) (aCons (eV 10) aNil)) [10]) aNil)) aNil)) [some (landD r hs ps), some (.tup (gs.map D.int)), some (.fls (m.map D.int)), some (.fls (rs.map D.int)), some (.fls (fc.map D.int)), none, none, none, none, none, none] = .nx [some (landD r hs ps), some (.tup (gs.map D.int)), some (.fls (m.map D.int)), some (.fls (rs.map D.int)), some (.fls (fc.map D.int)), some (.int P), some (.int M), none, none, none, none] := by
      simp [dr, dm, freeL, ab3, ab2, s3, s2, hh]
    have q4 : sSet 7 (eOA (DL.d1 dSum) (aCons (eLc (iA (aCons (eOA (DL.d1 dLen) (aCons (eV 3) aNil)) aNil) rng1) (tgN 9) (eC (.bl true)) (eO2 (DL.d2 dMul) (eOA (DL.d1 dAbs) (aCons (eO2 (DL.d2 dIx) (eV 3) (eV 9)) aNil)) (eOrV (eO2 (DL.d2 dIx) (eO2 (DL.d2 dIx) (eV 0) (eC (.int 2))) (eV 9)) (eC (.int 0)))) [9]) aNil)) [some (landD r hs ps), some (.tup (gs.map D.int)), some (.fls (m.map D.int)), some (.fls (rs.map D.int)), some (.fls (fc.map D.int)), some (.int P), some (.int M), none, none, none, none] = .nx [some (landD r hs ps), some (.tup (gs.map D.int)), some (.fls (m.map D.int)), some (.fls (rs.map D.int)), some (.fls (fc.map D.int)), some (.int P), some (.int M), some (.int tot), none, none, none] := by
      simp only [List.getD_eq_getElem?_getD] at st
      simp [dr, hlen, hsm, freeL, etot, st, -op_lenF]
    have q5 : sIf (eOr (eO2 (DL.d2 dEq) (eO2 (DL.d2 dIx) (eV 0) (eC (.int 0))) (eC (.str "row"))) (eO2 (DL.d2 dLe) (eV 6) (eV 5))) (sRet (eTup (aCons (eV 7) (aCons (eV 5) aNil)))) sNx [some (landD r hs ps), some (.tup (gs.map D.int)), some (.fls (m.map D.int)), some (.fls (rs.map D.int)), some (.fls (fc.map D.int)), some (.int P), some (.int M), some (.int tot), none, none, none] = if r = false ∨ M ≤ P then .rt (.tup [.int tot, .int P]) [some (landD r hs ps), some (.tup (gs.map D.int)), some (.fls (m.map D.int)), some (.fls (rs.map D.int)), some (.fls (fc.map D.int)), some (.int P), some (.int M), some (.int tot), none, none, none] else .nx [some (landD r hs ps), some (.tup (gs.map D.int)), some (.fls (m.map D.int)), some (.fls (rs.map D.int)), some (.fls (fc.map D.int)), some (.int P), some (.int M), some (.int tot), none, none, none] := by
      cases r <;> by_cases hc : M ≤ P <;> simp [hld, hc, sizeLine_eq]
    have q6 : ¬ M ≤ P → sRet (eIf (eO2 (DL.d2 dNe) (eV 4) (eLst aNil)) (eTup (aCons (eO2 (DL.d2 dAdd) (eV 7) (eO2 (DL.d2 dMul) (eO2 (DL.d2 dMul) (eC (.int 2)) (eOA (DL.d1 dMin) (aCons (eV 4) aNil))) (eO2 (DL.d2 dSub) (eV 6) (eV 5)))) (aCons (eV 6) aNil))) (eC .non)) [some (landD r hs ps), some (.tup (gs.map D.int)), some (.fls (m.map D.int)), some (.fls (rs.map D.int)), some (.fls (fc.map D.int)), some (.int P), some (.int M), some (.int tot), none, none, none] = .rt (if fc = [] then .non else .tup [.int (tot + 2 * mp * (M - P)), .int M]) [some (landD r hs ps), some (.tup (gs.map D.int)), some (.fls (m.map D.int)), some (.fls (rs.map D.int)), some (.fls (fc.map D.int)), some (.int P), some (.int M), some (.int tot), none, none, none] := by
      intro hmp'
      by_cases hc : fc = []
      · subst hc
        simp only [List.map_nil] at nf ⊢
        simp [nf, dupL, sizeLine_eq]
      · have hne' : minI fc ≠ none := by
          cases fc with
          | nil => exact absurd rfl hc
          | cons a l => exact fun z => by cases z
        obtain ⟨mn, hmn⟩ := Option.ne_none_iff_exists'.mp hne'
        have om := op_minF fc
        rw [hmn] at om hmp
        have hmp2 : mp = mn := hmp
        subst hmp2
        have s1 : sm (M - P) = true := sm_of (by omega) (by omega)
        have s2' : sm 2 = true := sm_of (by decide) (by decide)
        have df := dup_ints fc
        simp [nf, df, om, hc, s1, s2', sizeLine_eq]
    refine ⟨_, .inl ⟨?_, q1 (seq_nx q2 (seq_nx q3 (seq_nx q4 (?_ : sSeq _ _ _ = .rt (if r = false ∨ M ≤ P then .tup [.int tot, .int P] else if fc = [] then .non else .tup [.int (tot + 2 * mp * (M - P)), .int M]) _))))⟩⟩
    · rw [htf, hbar, hcost, hfew, hrg]
      by_cases hc : r = false ∨ M ≤ P
      · rw [if_pos hc]
        have hz0 : (false || (decide (fencesF ps = []) && decide (0 < M))) = false := by
          by_cases hf : fencesF ps = []
          · have hp := hpz hbd' hf
            rcases hc with h | h
            · have := hrow h hbd' hf
              simp [this]
            · have : ¬ 0 < M := by omega
              simp [this]
          · simp [hf]
        rw [hz0]
        rcases hc with h | h
        · subst h; simp [toldD]
        · have : max 0 (M - P) = 0 := by rw [Int.max_def]; split <;> omega
          rw [this]; cases r <;> simp [toldD]
      · rw [if_neg hc]
        have hr : r = true := by cases r; exact absurd (.inl rfl) hc; rfl
        have hm' : ¬ M ≤ P := fun z => hc (.inr z)
        subst hr
        have hmx' : max 0 (M - P) = M - P := by rw [Int.max_def]; split <;> omega
        simp only [if_true, hmx']
        by_cases hf : fc = []
        · rw [if_pos hf]
          have : 0 < M := by omega
          simp [hfn.mpr hf, this, toldD]
        · rw [if_neg hf]
          have hf' : fencesF ps ≠ [] := fun z => hf (hfn.mp z)
          have e1 : (M - P) * (2 * mp) = 2 * mp * (M - P) := Int.mul_comm _ _
          have e2' : P + (M - P) = M := by omega
          simp [hf', toldD, e1, e2']
    · by_cases hc : r = false ∨ M ≤ P
      · rw [if_pos hc] at q5 ⊢
        exact seq_rt q5
      · rw [if_neg hc] at q5 ⊢
        exact seq_nx q5 (q6 fun z => hc (.inr z))
end L07
set_option linter.all false
set_option maxRecDepth 100000
set_option maxHeartbeats 4000000
namespace L07
open PySem L2 DL
noncomputable abbrev lawBody : SM := (sSeq (sSet 3 (eO2 (DL.d2 dIx) (eLst (aCons (eC (.int 4)) (aCons (eC (.int 60)) (aCons (eC (.int 999)) aNil)))) (eCall [true, false] LC.G__law_drawn (cIo 1 (cVal (eC (.int 3)) cNil))))) (sSeq (sSet 4 (eCall [true, false, false] LC.G__law_land (cIo 1 (cVal (eC (.int 11)) (cVal (eV 3) cNil))))) (sSeq (sSet 5 (eCall [true, false, false] LC.G__law_goal (cIo 1 (cVal (eV 4) (cVal (eO2 (DL.d2 dIx) (eLst (aCons (eV 3) (aCons (eC (.int 60)) aNil))) (eCall [true, false] LC.G__law_drawn (cIo 1 (cVal (eC (.int 2)) cNil)))) cNil))))) (sSeq (sSet 6 (eCall [false, false] G__law_cost (cVal (eV 4) (cVal (eV 5) cNil)))) (sSeq (sSet 7 (eFrz (eCall [false, false] LC.G_least (cVal (eV 4) (cVal (eV 5) cNil))))) (sSeq (sIf (eO2 (DL.d2 dNe) (eIf (eO2 (DL.d2 dIsN) (eV 7) (eC .non)) (eC .non) (eO2 (DL.d2 dIx) (eV 7) (eC (.int 0)))) (eIf (eO2 (DL.d2 dIsN) (eV 6) (eC .non)) (eC .non) (eO2 (DL.d2 dIx) (eV 6) (eC (.int 0))))) (sRet (eC (.bl false))) sNx) (sSeq (sIf (eO2 (DL.d2 dNe) (eCall [false, false] LC.G_fewest (cVal (eV 4) (cVal (eV 5) cNil))) (eIf (eO2 (DL.d2 dIsN) (eV 6) (eC .non)) (eC .non) (eO2 (DL.d2 dIx) (eV 6) (eC (.int 1))))) (sRet (eC (.bl false))) sNx) (sSeq (sSet 8 (eO2 (DL.d2 dIx) (eLst (aCons (eC .non) (aCons (eSl (eV 5) none (some (eC (.int 0)))) (aCons (eFrz (eOA (d1 dList) (aCons (eV 5) aNil))) (aCons (eO2 (DL.d2 dAdd) (eV 5) (eTup (aCons (eC (.int 0)) aNil))) aNil))))) (eCall [true, false] LC.G__law_drawn (cIo 1 (cVal (eC (.int 4)) cNil))))) (sSeq (sSet 9 (eIf (eO2 (DL.d2 dEq) (eV 8) (eO2 (DL.d2 dAdd) (eV 5) (eTup (aCons (eC (.int 0)) aNil)))) (eOA (d1 dLen) (aCons (eV 5) aNil)) (eC (.int 0)))) (sReg [10, 6] (sSeq (sSet 10 (eFrz (eLst (aCons (eC (.clo 2)) (aCons (eC (.clo 1)) (aCons (eC (.clo 0)) aNil)))))) (sSeq (sSet 6 (eFrz (eLst (aCons (eTup (aCons (eC (.str "BadGoal")) (aCons (eV 9) aNil))) (aCons (eTup (aCons (eC (.str "BadGoal")) (aCons (eV 9) aNil))) (aCons (eTup (aCons (eC (.str "BadLand")) (aCons (eO2 (DL.d2 dSub) (eC (.int 0)) (eC (.int 1))) (aCons (eC (.int 0)) aNil)))) aNil)))))) (sFrz 10 (sIf (eO2 (DL.d2 dNe) (eLc (iE (eV 10) itemsL) (tgN 11) (eC (.bl true)) (eKindC LC.hd__law_kind bs_law [11] (eV 11)) [11]) (eV 6)) (sRet (eC (.bl false))) sNx))))))))))))))
end L07
set_option linter.all false
set_option maxRecDepth 100000
set_option maxHeartbeats 4000000
namespace L07
open PySem L2 DL LC
/-! ### refusals -/
theorem task_bad {r : Bool} {hs : List Int} {ps : List (Option Int)} {g : D} {k : Int} (lo : LandOk r hs ps) (h : GoalD g) (hw : wrongF isH hs.length hs.length g = .int k) : G_task_of [landD r hs ps, g] = .exc ⟨12, [.int k]⟩ [] := by
  have hld : dup (landD r hs ps) = true := by simp [landD]
  simp [G_task_of, b_task_of, hld, need_land_ok lo, need_goal_bad h hw, h.dup]
theorem least_bad {r : Bool} {hs : List Int} {ps : List (Option Int)} {g : D} {k : Int} (lo : LandOk r hs ps) (h : GoalD g) (hw : wrongF isH hs.length hs.length g = .int k) : G_least [landD r hs ps, g] = .exc ⟨12, [.int k]⟩ [] := by
  have hld : dup (landD r hs ps) = true := by simp [landD]
  simp [G_least, b_least, hld, task_bad lo h hw, h.dup]
theorem fewest_bad {r : Bool} {hs : List Int} {ps : List (Option Int)} {g : D} {k : Int} (lo : LandOk r hs ps) (h : GoalD g) (hw : wrongF isH hs.length hs.length g = .int k) : G_fewest [landD r hs ps, g] = .exc ⟨12, [.int k]⟩ [] := by
  have hld : dup (landD r hs ps) = true := by simp [landD]
  simp [G_fewest, b_fewest, hld, task_bad lo h hw, h.dup]
theorem least_none {g : D} (h : dup g = true) : G_least [.non, g] = .exc ⟨11, [.int 0, .int (-1)]⟩ [] := by
  have e := isi_not (d := .non) rfl
  have e1 : G_need_land [.non] = .exc ⟨11, [.int 0, .int (-1)]⟩ [] := by simp [G_need_land, b_need_land, e, fx]
  have e2 : G_task_of [.non, g] = .exc ⟨11, [.int 0, .int (-1)]⟩ [] := by simp [G_task_of, b_task_of, e1, h]
  simp [G_least, b_least, e2, h]
theorem fewest_bar {r : Bool} {hs gs : List Int} {ps : List (Option Int)} (t : TaskOk r hs gs ps) (hb : barredF r hs gs ps = true) : G_fewest [landD r hs ps, .tup (gs.map D.int)] = .ok .non [] := by
  have e0 := task_ok t
  obtain ⟨d, e1, e2⟩ := barred_ok (ps := ps) t.land t.gl
  have hld : dup (landD r hs ps) = true := by simp [landD]
  rw [hb] at e2
  simp [G_fewest, b_fewest, hld, e0, isIns_task, e1, e2]
theorem badAt_all {good : D → Bool} {most : Int} : ∀ (ds : List D) (k : Nat), (∀ d ∈ ds, good d = true) → (k : Int) + ds.length ≤ most → ∀ es, badAt good most k (ds ++ es) = badAt good most (k + ds.length) es
  | [], k, _, _, es => by simp
  | d :: ds, k, h, hm, es => by
    have hl : ((d :: ds).length : Int) = ds.length + 1 := by simp
    have hk : (k : Int) ≠ most := by omega
    rw [List.cons_append]
    have e : badAt good most k (d :: (ds ++ es)) = badAt good most (k + 1) (ds ++ es) := by
      rw [badAt, if_neg (by simp [hk, h d List.mem_cons_self])]
    rw [e, badAt_all ds (k + 1) (fun x hx => h x (List.mem_cons_of_mem _ hx)) (by omega)]
    rw [List.length_cons, Nat.add_assoc, Nat.add_comm 1]
theorem isH_ints {gs : List Int} (h : ∀ g ∈ gs, 0 ≤ g ∧ g ≤ 999) : ∀ d ∈ gs.map D.int, isH d = true := fun d hd => by
  obtain ⟨g, hg, rfl⟩ := List.mem_map.mp hd
  have := h g hg
  simp [isH, this.1, this.2]
/-- what may be handed in as a goal here, and what is told of it -/
theorem odd_ok {hs gs : List Int} (n2 : 2 ≤ hs.length) (h12 : hs.length ≤ 12) (gl : gs.length = hs.length) (g0 : ∀ g ∈ gs, 0 ≤ g ∧ g ≤ 999) {v : Int} (a : 0 ≤ v) (b : v < 4) :
    ∃ (odd : D) (w : Int), dIx (.lst [.non, .tup [], .fls (gs.map D.int), .tup (gs.map D.int ++ [.int 0])]) (.int v) = some odd ∧ GoalD odd ∧ wrongF isH hs.length hs.length odd = .int w ∧ dEq odd (.tup (gs.map D.int ++ [.int 0])) = some (.bl (decide (v = 3))) ∧ w = if v = 3 then (hs.length : Int) else 0 := by
  have dg := dup_ints gs
  have o1 : okN 1 (.tup (gs.map D.int ++ [.int 0])) := ok_tup fun d hd => by
    rcases List.mem_append.mp hd with h | h
    · exact ok_ints d h
    · rw [List.mem_singleton.mp h]; exact ok_int
  have oL : okN 1 (.fls (gs.map D.int)) := ok_fls ok_ints
  have gI : ∀ d ∈ gs.map D.int, (tyD d).isSome = true ∧ dup d = true := fun d hd => by
    obtain ⟨x, _, e⟩ := List.mem_map.mp hd
    rw [← e]; exact ⟨rfl, rfl⟩
  have dA : dupL (gs.map D.int ++ [D.int 0]) = true := by rw [dupL_append, dg]; rfl
  obtain ⟨xs, ex⟩ : ∃ xs, pdL (gs.map D.int ++ [D.int 0]) = some xs := by
    have : gs.map D.int ++ [D.int 0] = (gs ++ [0]).map D.int := by simp
    rw [this]; exact ⟨_, pdL_int _⟩
  rcases (show v = 0 ∨ v = 1 ∨ v = 2 ∨ v = 3 by omega) with rfl | rfl | rfl | rfl
  · refine ⟨.non, 0, rfl, .inr ⟨rfl, rfl⟩, rfl, ?_, rfl⟩
    rw [eq_ok (n := 0) ok_non o1]
    simp [eqvD, pd, ex, PyData.eqv]
  · refine ⟨.tup [], 0, rfl, .inl ⟨[], rfl, (fun _ h => nomatch h), rfl⟩, ?_, ?_, rfl⟩
    · show (if ((([] : List D).length : Nat) : Int) < (hs.length : Int) then D.int (([] : List D).length : Nat) else D.non) = _
      rw [if_pos (by simp only [List.length_nil]; omega)]
      rfl
    · rw [eq_ok (n := 1) (ok_tup (by simp)) o1]
      have e1 : pd (.tup (gs.map D.int ++ [.int 0])) = some (.tuple xs) := by simp [pd, ex]
      have e0 : pd (.tup []) = some (.tuple []) := rfl
      have hx : xs ≠ [] := by
        have : gs.map D.int ++ [D.int 0] = (gs ++ [0]).map D.int := by simp
        rw [this, pdL_int] at ex
        cases ex
        simp
      unfold eqvD
      rw [e0, e1]
      cases xs with
      | nil => exact absurd rfl hx
      | cons y ys => rfl
  · refine ⟨.fls (gs.map D.int), 0, ?_, .inr ⟨rfl, dg⟩, rfl, ?_, rfl⟩
    · exact ix_itms (i := 2) (f := .lst [.non, .tup [], .fls (gs.map D.int), .tup (gs.map D.int ++ [.int 0])]) rfl rfl dg
    · rw [eq_ok oL o1]
      simp [eqvD, pd, ex, pdL_int, PyData.eqv]
  · refine ⟨.tup (gs.map D.int ++ [.int 0]), hs.length, ?_, .inl ⟨_, rfl, fun d hd => ?_, dA⟩, ?_, ?_, rfl⟩
    · exact ix_itms (i := 3) (x := .tup (gs.map D.int ++ [.int 0])) (f := .lst [.non, .tup [], .fls (gs.map D.int), .tup (gs.map D.int ++ [.int 0])]) rfl rfl (show dup (.tup (gs.map D.int ++ [.int 0])) = true from dA)
    · rcases List.mem_append.mp hd with h | h
      · exact gI d h
      · rw [List.mem_singleton.mp h]; exact ⟨rfl, rfl⟩
    · have := badAt_all (good := isH) (most := (hs.length : Int)) (gs.map D.int) 0 (isH_ints g0) (by simp; omega) [.int 0]
      simp only [wrongF, this]
      simp [badAt, gl]
    · rw [eq_ok o1 o1, eqvD_refl o1]; rfl
/-! ### the works -/
theorem works_ok {ρ0 ρ1 ρ2 ρ3 ρ5 ρ6 ρ7 ρ9 ρ10 : Option D} {r : Bool} {hs : List Int} {ps : List (Option Int)} {odd : D} {w : Int} (lo : LandOk r hs ps) (go : GoalD odd) (hw : wrongF isH hs.length hs.length odd = .int w) :
    lcL (tgN 11) (eC (.bl true)) (eKindC LC.hd__law_kind bs_law [11] (eV 11)) [11] ([2, 1, 0].map D.clo) [] [ρ0, ρ1, ρ2, ρ3, some (landD r hs ps), ρ5, ρ6, ρ7, some odd, ρ9, ρ10, none] =
      .ok (.lst [.tup [.str (Str.ofString "BadGoal"), .int w], .tup [.str (Str.ofString "BadGoal"), .int w], .tup [.str (Str.ofString "BadLand"), .int (-1), .int 0]]) [ρ0, ρ1, ρ2, ρ3, some (landD r hs ps), ρ5, ρ6, ρ7, some odd, ρ9, ρ10, none] := by
  have hld := dup_land r hs ps
  let f : Nat → D := fun n => if n = 0 then .tup [.str (Str.ofString "BadLand"), .int (-1), .int 0] else .tup [.str (Str.ofString "BadGoal"), .int w]
  have h : ∀ n ∈ [2, 1, 0], ∃ σ1 σ3, tgN 11 [ρ0, ρ1, ρ2, ρ3, some (landD r hs ps), ρ5, ρ6, ρ7, some odd, ρ9, ρ10, none] (D.clo n) = some σ1 ∧ eKindC LC.hd__law_kind bs_law [11] (eV 11) σ1 = .ok (f n) σ3 ∧ killL σ3 [11] = [ρ0, ρ1, ρ2, ρ3, some (landD r hs ps), ρ5, ρ6, ρ7, some odd, ρ9, ρ10, none] := fun n hn => by
    refine ⟨[ρ0, ρ1, ρ2, ρ3, some (landD r hs ps), ρ5, ρ6, ρ7, some odd, ρ9, ρ10, some (.clo n)], [ρ0, ρ1, ρ2, ρ3, some (landD r hs ps), ρ5, ρ6, ρ7, some odd, ρ9, ρ10, none], rfl, ?_, rfl⟩
    rw [ev_kindC]
    show kKind LC.hd__law_kind bs_law [11] (.clo n) [ρ0, ρ1, ρ2, ρ3, some (landD r hs ps), ρ5, ρ6, ρ7, some odd, ρ9, ρ10, some (.clo n)] = _
    simp only [List.mem_cons, List.not_mem_nil, or_false] at hn
    rcases hn with rfl | rfl | rfl
    · exact kKind_eq rfl rfl (by simp [killL, hld, go.dup, least_bad lo go hw, kind12, xcls, f]) rfl
    · exact kKind_eq rfl rfl (by simp [killL, hld, go.dup, fewest_bad lo go hw, kind12, xcls, f]) rfl
    · exact kKind_eq rfl rfl (by simp [killL, go.dup, least_none go.dup, kind11, xcls, f]) rfl
  have := lcL_map (t := tgN 11) (e := eKindC LC.hd__law_kind bs_law [11] (eV 11)) (vs := [11]) D.clo f [2, 1, 0] h (by simp [sizeLine_eq])
  rw [this]
  rfl
theorem due_same (w : Int) : dNe (.lst [.tup [.str (Str.ofString "BadGoal"), .int w], .tup [.str (Str.ofString "BadGoal"), .int w], .tup [.str (Str.ofString "BadLand"), .int (-1), .int 0]]) (.fls [.tup [.str (Str.ofString "BadGoal"), .int w], .tup [.str (Str.ofString "BadGoal"), .int w], .tup [.str (Str.ofString "BadLand"), .int (-1), .int 0]]) = some (.bl false) := by
  have oa : ∀ d ∈ [D.tup [.str (Str.ofString "BadGoal"), .int w], .tup [.str (Str.ofString "BadGoal"), .int w], .tup [.str (Str.ofString "BadLand"), .int (-1), .int 0]], okN 1 d := fun d hd => by
    simp only [List.mem_cons, List.not_mem_nil, or_false] at hd
    rcases hd with rfl | rfl | rfl
    all_goals
      refine ok_tup fun e he => ?_
      simp only [List.mem_cons, List.not_mem_nil, or_false] at he
    · rcases he with rfl | rfl
      · exact ok_str (by decide +kernel)
      · exact ok_int
    · rcases he with rfl | rfl
      · exact ok_str (by decide +kernel)
      · exact ok_int
    · rcases he with rfl | rfl | rfl
      · exact ok_str (by decide +kernel)
      · exact ok_int
      · exact ok_int
  have o1 := ok_lst oa
  have o2 := ok_fls oa
  rw [ne_ok o1 o2]
  have : eqvD (.lst [.tup [.str (Str.ofString "BadGoal"), .int w], .tup [.str (Str.ofString "BadGoal"), .int w], .tup [.str (Str.ofString "BadLand"), .int (-1), .int 0]]) (.fls [.tup [.str (Str.ofString "BadGoal"), .int w], .tup [.str (Str.ofString "BadGoal"), .int w], .tup [.str (Str.ofString "BadLand"), .int (-1), .int 0]]) = true := eqvD_refl o1
  rw [this]; rfl
theorem turn_ok : TurnOk lawBody 10 [9] := by
  intro sc d os ii s hl hfr
  match os, hl with
  | [o2, o3, o4, o5, o6, o7, o8, o9, o10, o11], _ =>
  have h11 : o11 = none := by simpa using hfr 9 (by simp)
  subst h11
  clear hfr
  obtain ⟨v, d2, e2, s2, a2, b2⟩ := drawn_ok s (m := 3) (by decide) (by decide)
  obtain ⟨high, eh, ch⟩ := pick3 (a := 4) (b := 60) (c := 999) a2 b2
  have h0 : 0 ≤ high := by omega
  have h9 : high ≤ 999 := by omega
  obtain ⟨r, hs, ps, d3, e3, s3, lo, hh⟩ := land_ok s2 (high := high) h0 h9
  obtain ⟨v4, d4, e4, s4, a4, b4⟩ := drawn_ok s3 (m := 2) (by decide) (by decide)
  obtain ⟨high2, eh2, ch2⟩ : ∃ q : Int, dIx (.lst [.int high, .int 60]) (.int v4) = some (.int q) ∧ (q = high ∨ q = 60) := by
    rcases (show v4 = 0 ∨ v4 = 1 by omega) with rfl | rfl
    · exact ⟨_, rfl, .inl rfl⟩
    · exact ⟨_, rfl, .inr rfl⟩
  obtain ⟨gs, d5, e5, s5, gl, g0⟩ := goal_ok (top := 999) s4 lo (high := high2) (by omega) (by omega) (by omega) (fun x hx => by have := hh x hx; omega)
  have t : TaskOk r hs gs ps := ⟨lo, gl, g0⟩
  have hld := dup_land r hs ps
  have dupG := dup_goal gs
  have dg := dup_ints gs
  have hz := ps_len t.land
  have ec := law_cost_ok t
  obtain ⟨v6, d6, e6, s6, a6, b6⟩ := drawn_ok s5 (m := 4) (by decide) (by decide)
  have n2 := lo.n2
  have h12 := lo.n12
  obtain ⟨odd, w, eo, go, hw, heq, ew⟩ := odd_ok n2 h12 gl g0 a6 b6
  have b0 : (sSet 3 (eO2 (DL.d2 dIx) (eLst (aCons (eC (.int 4)) (aCons (eC (.int 60)) (aCons (eC (.int 999)) aNil)))) (eCall [true, false] LC.G__law_drawn (cIo 1 (cVal (eC (.int 3)) cNil))))) [some sc, some d, some (.int (ii : Int)), o3, o4, o5, o6, o7, o8, o9, o10, none] = .nx [some sc, some d2, some (.int (ii : Int)), some (.int high), o4, o5, o6, o7, o8, o9, o10, none] := by simp [e2, eh, sizeLine_eq]
  have b1 : (sSet 4 (eCall [true, false, false] LC.G__law_land (cIo 1 (cVal (eC (.int 11)) (cVal (eV 3) cNil))))) [some sc, some d2, some (.int (ii : Int)), some (.int high), o4, o5, o6, o7, o8, o9, o10, none] = .nx [some sc, some d3, some (.int (ii : Int)), some (.int high), some (landD r hs ps), o5, o6, o7, o8, o9, o10, none] := by simp [e3]
  have b2 : (sSet 5 (eCall [true, false, false] LC.G__law_goal (cIo 1 (cVal (eV 4) (cVal (eO2 (DL.d2 dIx) (eLst (aCons (eV 3) (aCons (eC (.int 60)) aNil))) (eCall [true, false] LC.G__law_drawn (cIo 1 (cVal (eC (.int 2)) cNil)))) cNil))))) [some sc, some d3, some (.int (ii : Int)), some (.int high), some (landD r hs ps), o5, o6, o7, o8, o9, o10, none] = .nx [some sc, some d5, some (.int (ii : Int)), some (.int high), some (landD r hs ps), some (.tup (gs.map D.int)), o6, o7, o8, o9, o10, none] := by simp [e4, eh2, e5, hld, sizeLine_eq]
  have b3 : (sSet 6 (eCall [false, false] G__law_cost (cVal (eV 4) (cVal (eV 5) cNil)))) [some sc, some d5, some (.int (ii : Int)), some (.int high), some (landD r hs ps), some (.tup (gs.map D.int)), o6, o7, o8, o9, o10, none] = .nx [some sc, some d5, some (.int (ii : Int)), some (.int high), some (landD r hs ps), some (.tup (gs.map D.int)), some (toldD (toldF r hs gs ps)), o7, o8, o9, o10, none] := by simp [ec, hld, dupG]
  obtain ⟨z, b4', b5, b6'⟩ : ∃ z : D, (sSet 7 (eFrz (eCall [false, false] LC.G_least (cVal (eV 4) (cVal (eV 5) cNil))))) [some sc, some d5, some (.int (ii : Int)), some (.int high), some (landD r hs ps), some (.tup (gs.map D.int)), some (toldD (toldF r hs gs ps)), o7, o8, o9, o10, none] = .nx [some sc, some d5, some (.int (ii : Int)), some (.int high), some (landD r hs ps), some (.tup (gs.map D.int)), some (toldD (toldF r hs gs ps)), some z, o8, o9, o10, none] ∧ (sIf (eO2 (DL.d2 dNe) (eIf (eO2 (DL.d2 dIsN) (eV 7) (eC .non)) (eC .non) (eO2 (DL.d2 dIx) (eV 7) (eC (.int 0)))) (eIf (eO2 (DL.d2 dIsN) (eV 6) (eC .non)) (eC .non) (eO2 (DL.d2 dIx) (eV 6) (eC (.int 0))))) (sRet (eC (.bl false))) sNx) [some sc, some d5, some (.int (ii : Int)), some (.int high), some (landD r hs ps), some (.tup (gs.map D.int)), some (toldD (toldF r hs gs ps)), some z, o8, o9, o10, none] = .nx [some sc, some d5, some (.int (ii : Int)), some (.int high), some (landD r hs ps), some (.tup (gs.map D.int)), some (toldD (toldF r hs gs ps)), some z, o8, o9, o10, none] ∧ (sIf (eO2 (DL.d2 dNe) (eCall [false, false] LC.G_fewest (cVal (eV 4) (cVal (eV 5) cNil))) (eIf (eO2 (DL.d2 dIsN) (eV 6) (eC .non)) (eC .non) (eO2 (DL.d2 dIx) (eV 6) (eC (.int 1))))) (sRet (eC (.bl false))) sNx) [some sc, some d5, some (.int (ii : Int)), some (.int high), some (landD r hs ps), some (.tup (gs.map D.int)), some (toldD (toldF r hs gs ps)), some z, o8, o9, o10, none] = .nx [some sc, some d5, some (.int (ii : Int)), some (.int high), some (landD r hs ps), some (.tup (gs.map D.int)), some (toldD (toldF r hs gs ps)), some z, o8, o9, o10, none] := by
    have hl' := least_ok t
    have nn : dNe .non .non = some (.bl false) := by rw [ne_ok (n := 0) (m := 0) ok_non ok_non, eqvD_refl (n := 0) ok_non]; rfl
    cases hb : barredF r hs gs ps with
    | true =>
      have hn : toldF r hs gs ps = none := by unfold toldF; rw [hb]; rfl
      rw [hb, if_pos rfl] at hl'
      have ef := fewest_bar t hb
      refine ⟨.non, ?_, ?_, ?_⟩
      · simp [hl', hld, dupG, frzOk, freeze]
      · simp [hn, toldD, nn]
      · simp [hn, toldD, hld, dupG, ef, nn]
    | false =>
      have hn : toldF r hs gs ps = some (costF r hs gs ps, fewF r hs gs) := by unfold toldF; rw [hb]; rfl
      rw [hb, if_neg Bool.false_ne_true] at hl'
      obtain ⟨l, _, e⟩ := hl'
      have ef := fewest_ok t hb
      have dl : dupL (l.map deedD) = true := dupL_map deedD (fun _ => rfl) l
      refine ⟨.tup [.int (costF r hs gs ps), .fls (l.map deedD)], ?_, ?_, ?_⟩
      · simp [e, hld, dupG, frzOk, frzOkL, freeze, freezeL]
      · simp [hn, toldD, dl]
      · simp [hn, toldD, hld, dupG, ef]
  have q1 := sl_to D.int (fun _ => rfl) gs 0 (by decide) (by omega)
  simp only [Int.toNat_zero, List.take_zero, List.map_nil] at q1
  have ad := add_tup (a := gs.map D.int) (b := [D.int 0]) (by simp; omega) dg rfl
  have hL : dList (.tup (gs.map D.int)) = some (.lst (gs.map D.int)) := by simp [dg, sizeLine_eq]
  have b7 : (sSet 8 (eO2 (DL.d2 dIx) (eLst (aCons (eC .non) (aCons (eSl (eV 5) none (some (eC (.int 0)))) (aCons (eFrz (eOA (d1 dList) (aCons (eV 5) aNil))) (aCons (eO2 (DL.d2 dAdd) (eV 5) (eTup (aCons (eC (.int 0)) aNil))) aNil))))) (eCall [true, false] LC.G__law_drawn (cIo 1 (cVal (eC (.int 4)) cNil))))) [some sc, some d5, some (.int (ii : Int)), some (.int high), some (landD r hs ps), some (.tup (gs.map D.int)), some (toldD (toldF r hs gs ps)), some z, o8, o9, o10, none] = .nx [some sc, some d6, some (.int (ii : Int)), some (.int high), some (landD r hs ps), some (.tup (gs.map D.int)), some (toldD (toldF r hs gs ps)), some z, some odd, o9, o10, none] := by
    simp [dupG, dg, q1, ad, hL, e6, eo, frzOk, frzOkL_ints, freeze, frzL_ints, sizeLine_eq, -op_addT]
  have hlen : dLen (.tup (gs.map D.int)) = some (.int (hs.length : Int)) := by rw [← gl]; simp
  have b8 : (sSet 9 (eIf (eO2 (DL.d2 dEq) (eV 8) (eO2 (DL.d2 dAdd) (eV 5) (eTup (aCons (eC (.int 0)) aNil)))) (eOA (d1 dLen) (aCons (eV 5) aNil)) (eC (.int 0)))) [some sc, some d6, some (.int (ii : Int)), some (.int high), some (landD r hs ps), some (.tup (gs.map D.int)), some (toldD (toldF r hs gs ps)), some z, some odd, o9, o10, none] = .nx [some sc, some d6, some (.int (ii : Int)), some (.int high), some (landD r hs ps), some (.tup (gs.map D.int)), some (toldD (toldF r hs gs ps)), some z, some odd, some (.int w), o10, none] := by
    rw [ew]
    by_cases h3 : v6 = 3
    · rw [h3] at heq
      simp [go.dup, dg, ad, heq, hlen, h3, sizeLine_eq, -op_addT, -op_lenT]
    · have : decide (v6 = 3) = false := by simpa using h3
      rw [this] at heq
      simp [go.dup, dg, ad, heq, h3, sizeLine_eq, -op_addT]
  have b10 : (sSet 10 (eFrz (eLst (aCons (eC (.clo 2)) (aCons (eC (.clo 1)) (aCons (eC (.clo 0)) aNil)))))) [some sc, some d6, some (.int (ii : Int)), some (.int high), some (landD r hs ps), some (.tup (gs.map D.int)), some (toldD (toldF r hs gs ps)), some z, some odd, some (.int w), o10, none] = .nx [some sc, some d6, some (.int (ii : Int)), some (.int high), some (landD r hs ps), some (.tup (gs.map D.int)), some (toldD (toldF r hs gs ps)), some z, some odd, some (.int w), some (.fls [.clo 2, .clo 1, .clo 0]), none] := by simp [frzOk, frzOkL, freeze, freezeL, sizeLine_eq]
  have b11 : (sSet 6 (eFrz (eLst (aCons (eTup (aCons (eC (.str "BadGoal")) (aCons (eV 9) aNil))) (aCons (eTup (aCons (eC (.str "BadGoal")) (aCons (eV 9) aNil))) (aCons (eTup (aCons (eC (.str "BadLand")) (aCons (eO2 (DL.d2 dSub) (eC (.int 0)) (eC (.int 1))) (aCons (eC (.int 0)) aNil)))) aNil)))))) [some sc, some d6, some (.int (ii : Int)), some (.int high), some (landD r hs ps), some (.tup (gs.map D.int)), some (toldD (toldF r hs gs ps)), some z, some odd, some (.int w), some (.fls [.clo 2, .clo 1, .clo 0]), none] = .nx [some sc, some d6, some (.int (ii : Int)), some (.int high), some (landD r hs ps), some (.tup (gs.map D.int)), some (.fls [.tup [.str (Str.ofString "BadGoal"), .int w], .tup [.str (Str.ofString "BadGoal"), .int w], .tup [.str (Str.ofString "BadLand"), .int (-1), .int 0]]), some z, some odd, some (.int w), some (.fls [.clo 2, .clo 1, .clo 0]), none] := by simp [frzOk, frzOkL, freeze, freezeL, sizeLine_eq]
  have wk := works_ok (ρ0 := some sc) (ρ1 := some d6) (ρ2 := some (.int (ii : Int))) (ρ3 := some (.int high)) (ρ5 := some (.tup (gs.map D.int))) (ρ6 := some (.fls [.tup [.str (Str.ofString "BadGoal"), .int w], .tup [.str (Str.ofString "BadGoal"), .int w], .tup [.str (Str.ofString "BadLand"), .int (-1), .int 0]])) (ρ7 := some z) (ρ9 := some (.int w)) (ρ10 := some (.fls [.clo 2, .clo 1, .clo 0])) lo go hw
  have b13 : (sIf (eO2 (DL.d2 dNe) (eLc (iE (eV 10) itemsL) (tgN 11) (eC (.bl true)) (eKindC LC.hd__law_kind bs_law [11] (eV 11)) [11]) (eV 6)) (sRet (eC (.bl false))) sNx) [some sc, some d6, some (.int (ii : Int)), some (.int high), some (landD r hs ps), some (.tup (gs.map D.int)), some (.fls [.tup [.str (Str.ofString "BadGoal"), .int w], .tup [.str (Str.ofString "BadGoal"), .int w], .tup [.str (Str.ofString "BadLand"), .int (-1), .int 0]]), some z, some odd, some (.int w), some (.fls [.clo 2, .clo 1, .clo 0]), none] = .nx [some sc, some d6, some (.int (ii : Int)), some (.int high), some (landD r hs ps), some (.tup (gs.map D.int)), some (.fls [.tup [.str (Str.ofString "BadGoal"), .int w], .tup [.str (Str.ofString "BadGoal"), .int w], .tup [.str (Str.ofString "BadLand"), .int (-1), .int 0]]), some z, some odd, some (.int w), some (.fls [.clo 2, .clo 1, .clo 0]), none] := by
    have wk' := wk
    simp only [List.map_cons, List.map_nil] at wk'
    have dc : ∀ n, dup (.clo n) = true := fun _ => rfl
    simp [freeL, wk', due_same w, dc]
  refine ⟨d6, [some (.int (ii : Int)), some (.int high), some (landD r hs ps), some (.tup (gs.map D.int)), none, some z, some odd, some (.int w), none, none], ?_, s6, rfl, fun i hi => by rw [List.mem_singleton.mp hi]; rfl⟩
  rw [ev_turnS]
  show lawBody [some sc, some d, some (.int (ii : Int)), o3, o4, o5, o6, o7, o8, o9, o10, none] = _
  unfold lawBody
  refine seq_nx b0 (seq_nx b1 (seq_nx b2 (seq_nx b3 (seq_nx b4' (seq_nx b5 (seq_nx b6' (seq_nx b7 (seq_nx b8 ?_))))))))
  refine (reg_nx (ρ' := [some sc, some d6, some (.int (ii : Int)), some (.int high), some (landD r hs ps), some (.tup (gs.map D.int)), some (.fls [.tup [.str (Str.ofString "BadGoal"), .int w], .tup [.str (Str.ofString "BadGoal"), .int w], .tup [.str (Str.ofString "BadLand"), .int (-1), .int 0]]), some z, some odd, some (.int w), some (.fls [.clo 2, .clo 1, .clo 0]), none]) (seq_nx b10 (seq_nx b11 (frz_nx (i := 10) (d := .fls [.clo 2, .clo 1, .clo 0]) rfl rfl b13))) ?_)
  simp [killL]
theorem law_main : ∀ ns : List Int, ns.length ≤ 63 → (∀ z ∈ ns, PySem.Builtin.Int.intBits z ≤ 1048576) → G_law [.lst (ns.map D.int)] = .ok (.bl true) [] ∧ G_law [.fls (ns.map D.int)] = .ok (.bl true) [] := fun ns _ _ =>
  law_runs (b := b_law) (body := lawBody) (m := 10) (M := 8) (fr := [9]) rfl (by decide) (by decide) (by decide) turn_ok ns
end L07
set_option Elab.async false
open PySem PySem.W PyProof.Rows
set_option maxRecDepth 100000 in
set_option maxHeartbeats 0 in
theorem PySem.Challenge.cw_fencefields_k07_sums_of_rises_holds : PySem.Challenge.rw_fencefields_k07_sums_of_rises.Holds := by
  w_on; o_law; k_head; (case hw => w_witness2)
  k_fill
  refine LamX.walk_ofTs (l := PySem.Challenge.rw_fencefields_k07_sums_of_rises) (n := 63) (k := 10) (x := "_law_script") (CX := fun w => L2.CX PySem.Challenge.rw_fencefields_k07_sums_of_rises.prog w) rfl (by decide) rfl ⟨rfl, by decide, by decide⟩ (fun w h Y => PySem.W.km_in_of Y) ?F ?E
  case F =>
    intro w mg fa h Y KX G hmg
    refine' L07.law_at KX G hmg ?aC0 ?pg0 ?hd0 ?po0 ?sa0 ?mk0 ?kc0 ?aC10 ?aC11 ?aC12 ?aC13 ?aC14 ?aC15 ?aC16 ?aC17 ?aC18 ?aC19 ?aC20 ?aC21 ?a62 ?l62 ?c62_ ?k62 ?a63 ?l63 ?c63_ ?k63 ?a64 ?l64 ?c64_ ?k64 ?a65 ?l65 ?c65_ ?k65 ?a439 ?l439 ?c439_ ?k439 ?a444 ?l444 ?c444_ ?k444 ?a427 ?l427 ?c427_ ?k427 ?a42 ?l42 ?c42_ ?k42 ?a40 ?l40 ?c40_ ?k40 ?a43 ?l43 ?c43_ ?k43 ?a41 ?l41 ?c41_ ?k41 ?a44 ?l44 ?c44_ ?k44 ?a45 ?l45 ?c45_ ?k45 ?a46 ?l46 ?c46_ ?k46 ?a47 ?l47 ?c47_ ?k47 ?a48 ?l48 ?c48_ ?k48 ?a51 ?i51 ?l51 ?c51_ ?k51 ?a50 ?i50 ?l50 ?c50_ ?k50 ?a59 ?l59 ?c59_ ?k59 ?a52 ?i52 ?l52 ?c52_ ?k52 ?a53 ?i53 ?l53 ?c53_ ?k53 ?a54 ?i54 ?l54 ?c54_ ?k54 ?a55 ?i55 ?l55 ?c55_ ?k55 ?a56 ?i56 ?l56 ?c56_ ?k56 ?a57 ?i57 ?l57 ?c57_ ?k57 ?a49 ?l49 ?c49_ ?k49 ?a58 ?i58 ?l58 ?c58_ ?k58 ?a60 ?l60 ?c60_ ?k60 ?a61 ?l61 ?c61_ ?k61 ?a438 ?l438 ?c438_ ?k438 ?a68 ?l68 ?c68_ ?k68 ?a111 ?i111 ?l111 ?c111_ ?k111 ?tI11 ?oxb11 ?a112 ?i112 ?l112 ?c112_ ?k112 ?tI12 ?oxb12 ?cib ?c_LEAST_FIELDS ?c_LOWER ?c_MOST_FIELDS ?c_MOST_HEIGHT ?c_MOST_PRICE ?c_RAISE ?c_RING ?c_ROW ?n_ValueError ?n_abs ?n_bool ?n_divmod ?n_enumerate ?n_int ?n_isinstance ?n_len ?n_list ?n_max ?n_min ?n_range ?n_str ?n_sum ?n_tuple ?n_zip ?na_0_land ?na_0_more ?na_0_pairs ?na_0_rings ?na_0_rise ?lc0 ?ep0 ?nT0 ?hC0 ?hT0 ?lc1 ?ep1 ?nT1 ?hC1 ?hT1 ?ne01 ?xfb ?main
    (case aC0 => k_is)
    (case pg0 => k_is)
    (case hd0 => k_is)
    (case po0 => k_is)
    (case sa0 => k_is)
    (case mk0 => k_is)
    (case kc0 => k_is)
    (case aC10 => k_is)
    (case aC11 => k_is)
    (case aC12 => k_is)
    (case aC13 => k_is)
    (case aC14 => k_is)
    (case aC15 => k_is)
    (case aC16 => k_is)
    (case aC17 => k_is)
    (case aC18 => k_is)
    (case aC19 => k_is)
    (case aC20 => k_is)
    (case aC21 => k_is)
    (case a62 => k_is)
    (case l62 => k_is)
    (case c62_ => k_is)
    (case k62 => k_is)
    (case a63 => k_is)
    (case l63 => k_is)
    (case c63_ => k_is)
    (case k63 => k_is)
    (case a64 => k_is)
    (case l64 => k_is)
    (case c64_ => k_is)
    (case k64 => k_is)
    (case a65 => k_is)
    (case l65 => k_is)
    (case c65_ => k_is)
    (case k65 => k_is)
    (case a439 => k_is)
    (case l439 => k_is)
    (case c439_ => k_is)
    (case k439 => k_is)
    (case a444 => k_is)
    (case l444 => k_is)
    (case c444_ => k_is)
    (case k444 => k_is)
    (case a427 => k_is)
    (case l427 => k_is)
    (case c427_ => k_is)
    (case k427 => k_is)
    (case a42 => k_is)
    (case l42 => k_is)
    (case c42_ => k_is)
    (case k42 => k_is)
    (case a40 => k_is)
    (case l40 => k_is)
    (case c40_ => k_is)
    (case k40 => k_is)
    (case a43 => k_is)
    (case l43 => k_is)
    (case c43_ => k_is)
    (case k43 => k_is)
    (case a41 => k_is)
    (case l41 => k_is)
    (case c41_ => k_is)
    (case k41 => k_is)
    (case a44 => k_is)
    (case l44 => k_is)
    (case c44_ => k_is)
    (case k44 => k_is)
    (case a45 => k_is)
    (case l45 => k_is)
    (case c45_ => k_is)
    (case k45 => k_is)
    (case a46 => k_is)
    (case l46 => k_is)
    (case c46_ => k_is)
    (case k46 => k_is)
    (case a47 => k_is)
    (case l47 => k_is)
    (case c47_ => k_is)
    (case k47 => k_is)
    (case a48 => k_is)
    (case l48 => k_is)
    (case c48_ => k_is)
    (case k48 => k_is)
    (case a51 => k_is)
    (case i51 => k_is)
    (case l51 => k_is)
    (case c51_ => k_is)
    (case k51 => k_is)
    (case a50 => k_is)
    (case i50 => k_is)
    (case l50 => k_is)
    (case c50_ => k_is)
    (case k50 => k_is)
    (case a59 => k_is)
    (case l59 => k_is)
    (case c59_ => k_is)
    (case k59 => k_is)
    (case a52 => k_is)
    (case i52 => k_is)
    (case l52 => k_is)
    (case c52_ => k_is)
    (case k52 => k_is)
    (case a53 => k_is)
    (case i53 => k_is)
    (case l53 => k_is)
    (case c53_ => k_is)
    (case k53 => k_is)
    (case a54 => k_is)
    (case i54 => k_is)
    (case l54 => k_is)
    (case c54_ => k_is)
    (case k54 => k_is)
    (case a55 => k_is)
    (case i55 => k_is)
    (case l55 => k_is)
    (case c55_ => k_is)
    (case k55 => k_is)
    (case a56 => k_is)
    (case i56 => k_is)
    (case l56 => k_is)
    (case c56_ => k_is)
    (case k56 => k_is)
    (case a57 => k_is)
    (case i57 => k_is)
    (case l57 => k_is)
    (case c57_ => k_is)
    (case k57 => k_is)
    (case a49 => k_is)
    (case l49 => k_is)
    (case c49_ => k_is)
    (case k49 => k_is)
    (case a58 => k_is)
    (case i58 => k_is)
    (case l58 => k_is)
    (case c58_ => k_is)
    (case k58 => k_is)
    (case a60 => k_is)
    (case l60 => k_is)
    (case c60_ => k_is)
    (case k60 => k_is)
    (case a61 => k_is)
    (case l61 => k_is)
    (case c61_ => k_is)
    (case k61 => k_is)
    (case a438 => k_is)
    (case l438 => k_is)
    (case c438_ => k_is)
    (case k438 => k_is)
    (case a68 => k_is)
    (case l68 => k_is)
    (case c68_ => k_is)
    (case k68 => k_is)
    (case a111 => k_is)
    (case i111 => k_is)
    (case l111 => k_is)
    (case c111_ => k_is)
    (case k111 => k_is)
    (case tI11 => k_is)
    (case oxb11 => kernel_rfl)
    (case a112 => k_is)
    (case i112 => k_is)
    (case l112 => k_is)
    (case c112_ => k_is)
    (case k112 => k_is)
    (case tI12 => k_is)
    (case oxb12 => kernel_rfl)
    (case cib => kernel_rfl)
    (case c_LEAST_FIELDS => k_is)
    (case c_LOWER => k_is)
    (case c_MOST_FIELDS => k_is)
    (case c_MOST_HEIGHT => k_is)
    (case c_MOST_PRICE => k_is)
    (case c_RAISE => k_is)
    (case c_RING => k_is)
    (case c_ROW => k_is)
    (case n_ValueError => k_is)
    (case n_abs => k_is)
    (case n_bool => k_is)
    (case n_divmod => k_is)
    (case n_enumerate => k_is)
    (case n_int => k_is)
    (case n_isinstance => k_is)
    (case n_len => k_is)
    (case n_list => k_is)
    (case n_max => k_is)
    (case n_min => k_is)
    (case n_range => k_is)
    (case n_str => k_is)
    (case n_sum => k_is)
    (case n_tuple => k_is)
    (case n_zip => k_is)
    (case na_0_land => k_is)
    (case na_0_more => k_is)
    (case na_0_pairs => k_is)
    (case na_0_rings => k_is)
    (case na_0_rise => k_is)
    (case lc0 => k_is)
    (case ep0 => rfl)
    (case nT0 => kernel_rfl)
    (case hC0 => kernel_rfl)
    (case hT0 => exact PySem.W.km_tabs_of Y _ (by simp))
    (case lc1 => k_is)
    (case ep1 => rfl)
    (case nT1 => kernel_rfl)
    (case hC1 => kernel_rfl)
    (case hT1 => exact PySem.W.km_tabs_of Y _ (by simp))
    (case ne01 => decide)
    (case xfb => kernel_rfl)
    (case main => exact L07.law_main)
  case E =>
    intro w H s e s2 z
    exact DL.cx_no z
