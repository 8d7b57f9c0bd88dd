/- The cells of values. Printed by a program. -/
import Derived.Test.YtaolapgdgdmapaaGreatDoorZbm
import Derived.Test.YtaolapgdgdmapaaGreatDoorTy
import Derived.Test.YtaolapgdgdmapaaGreatDoorShelf
import Derived.Test.YtaolapgdgdmapaaGreatDoorLibK
import Derived.Test.YtaolapgdgdmapaaGreatDoorTu
import Derived.Test.YtaolapgdgdmapaaGreatDoorMg
import Derived.Test.YtaolapgdgdmapaaGreatDoorAg
import Derived.Test.YtaolapgdgdmapaaGreatDoorOw
import Derived.Test.YtaolapgdgdmapaaGreatDoorSub
import Derived.Test.YtaolapgdgdmapaaGreatDoorDr
import Derived.Test.YtaolapgdgdmapaaGreatDoorMk
namespace Go.Proofs.YtaolapgdgdmapaaGreatDoor
open Go.RowKit
set_option linter.unusedVariables false
set_option maxRecDepth 20000
abbrev C_int (x : Int) : List V := [vint x]
abbrev C_gatemake_Stream (x : S_gatemake_Stream) : List V := [vlst (List.map C_int x.L), vint x.at_]
abbrev C_string (x : Bs) : List V := [vstr x]
abbrev C_api_Product (x : S_api_Product) : List V := [vstr x.Key, vlst (List.map C_string x.Scopes)]
abbrev C_api_Tier (x : S_api_Tier) : List V := [vint x.From, vint x.Cents]
abbrev C_api_Plan (x : S_api_Plan) : List V := [vstr x.Key, vstr x.Product, vint x.Base, vint x.Free, vlst (List.map C_api_Tier x.Tiers), vint x.Limit, vint x.Trial, vbool x.Asked]
abbrev C_api_Catalog (x : S_api_Catalog) : List V := [vlst (List.map C_api_Product x.Products), vlst (List.map C_api_Plan x.Plans)]
abbrev C_api_App (x : S_api_App) : List V := [vstr x.Key, vstr x.Owner]
abbrev C_api_Event (x : S_api_Event) : List V := [vint x.At, vstr x.App, vstr x.Product, vint x.Kind, vstr x.Plan]
abbrev C_api_Sub (x : S_api_Sub) : List V := [vint x.State, vstr x.Plan, vint x.Since, vint x.First]
abbrev C_L_api_Event (x : (List S_api_Event)) : List V := [vlst (List.map C_api_Event x)]
abbrev C_portal_pair (x : S_portal_pair) : List V := [vstr x.app_, vstr x.product_]
abbrev C_api_Errno (x : Int) : List V := [vint x]
noncomputable abbrev MT_portal_pair_api_Sub : MT S_portal_pair S_api_Sub := ⟨fun x => vagg (C_portal_pair x), fun x => .agg ([.string ⟨x.app_.toArray⟩, .string ⟨x.product_.toArray⟩] : List Value).toArray, fun x => x.app_.length ≤ 1000000000 ∧ x.product_.length ≤ 1000000000, fun x => vagg (C_api_Sub x), fun x => .agg ([.int .i64 x.State, .string ⟨x.Plan.toArray⟩, .int .i64 x.Since, .int .i64 x.First] : List Value).toArray, (S_api_Sub.mk 0 [] 0 0)⟩
theorem tyG_t_map_portal_pair_api_Sub__ : TyG Tryz.prog 107 113 70 MT_portal_pair_api_Sub :=
  ⟨by kernel_rfl, keyG_law (by kernel_rfl) (by kernel_rfl) (by kernel_rfl) (by kernel_rfl) (by kernel_rfl), fun x hk => kof_struct (P := Tryz.prog) (k := 113) (n := 208) (by kernel_rfl) (by kernel_rfl) (by kernel_rfl) (by kernel_rfl) (by kernel_rfl) (os := [(0, 9), (1, 9)]) (by kernel_rfl) ⟨rfl, by kernel_rfl, .inl ⟨by kernel_rfl, _, rfl, str_max hk.1⟩, rfl, by kernel_rfl, .inl ⟨by kernel_rfl, _, rfl, str_max hk.2⟩, trivial⟩, fun w => by kernel_rfl, (fun a b h => by cases a; cases b; simp at h ⊢; exact h), (fun x w M v h => agg_in rfl h), (fun x w M v h => agg_in rfl h), (fun x w M => agg_of rfl rfl w M)⟩
noncomputable abbrev MT_portal_pair_int : MT S_portal_pair Int := ⟨fun x => vagg (C_portal_pair x), fun x => .agg ([.string ⟨x.app_.toArray⟩, .string ⟨x.product_.toArray⟩] : List Value).toArray, fun x => x.app_.length ≤ 1000000000 ∧ x.product_.length ≤ 1000000000, fun x => vint x, fun x => .int .i64 x, 0⟩
theorem tyG_t_map_portal_pair_int__ : TyG Tryz.prog 108 113 3 MT_portal_pair_int :=
  ⟨by kernel_rfl, keyG_law (by kernel_rfl) (by kernel_rfl) (by kernel_rfl) (by kernel_rfl) (by kernel_rfl), fun x hk => kof_struct (P := Tryz.prog) (k := 113) (n := 208) (by kernel_rfl) (by kernel_rfl) (by kernel_rfl) (by kernel_rfl) (by kernel_rfl) (os := [(0, 9), (1, 9)]) (by kernel_rfl) ⟨rfl, by kernel_rfl, .inl ⟨by kernel_rfl, _, rfl, str_max hk.1⟩, rfl, by kernel_rfl, .inl ⟨by kernel_rfl, _, rfl, str_max hk.2⟩, trivial⟩, fun w => by kernel_rfl, (fun a b h => by cases a; cases b; simp at h ⊢; exact h), (fun x w M v h => agg_in rfl h), (fun x w M v h => h), (fun x w M => rfl)⟩
noncomputable abbrev C_portal_book (x : S_portal_book) : List V := [vmpG MT_portal_pair_api_Sub x.subs_, vmpG MT_portal_pair_int x.asks_]
end Go.Proofs.YtaolapgdgdmapaaGreatDoor
